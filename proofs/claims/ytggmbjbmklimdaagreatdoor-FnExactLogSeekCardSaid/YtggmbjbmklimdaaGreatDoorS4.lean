/- Functions of the given program and of its reference: what each returns, as an equation over data; by the interpreter. -/
import Derived.Test.YtggmbjbmklimdaaGreatDoorS3
import Derived.Test.YtggmbjbmklimdaaGreatDoorProg
import Derived.KernelRfl
import Derived.Lib.Builder
import Derived.Lib.AppendStr
import Derived.Lib.UnsafeStr
import Derived.Lib.Walk
import Derived.WalkKit
import Derived.RegionTactic
set_option linter.unusedVariables false
set_option linter.unusedSimpArgs false
set_option linter.unusedSectionVars false
set_option linter.deprecated false
namespace Go.Proofs.YtggmbjbmklimdaaGreatDoor.V
noncomputable section

def bldB : Blds := ⟨194, 5, 211, 212, 213⟩
def bldInl (g : FuncId) : Option Func := if g = 211 then some Tryz.f211 else if g = 212 then some Tryz.f212 else if g = 213 then some Tryz.f213 else none
def bldT (t : TypeId) : Option TypeId := if t = 194 then some 5 else none
def bldTI : TI := ⟨true, [.ptr, .slice 5], [(0, 192), (1, 143)], 32, false⟩
def mkB (lv : List (Nat × List Nat)) (gs : Laws) : Env := { mkE lv gs with inl := bldInl, bt := bldT }

end
end Go.Proofs.YtggmbjbmklimdaaGreatDoor.V

namespace Go.Proofs.YtggmbjbmklimdaaGreatDoor.V
set_option maxRecDepth 100000

end Go.Proofs.YtggmbjbmklimdaaGreatDoor.V

namespace Go.Proofs.YtggmbjbmklimdaaGreatDoor.V

theorem bldTI_ok : tyB Tryz.prog 194 bldTI = true := by kernel_rfl
theorem bldT_ok : ∀ t e, bldT t = some e → BldOk Tryz.prog t := by
  intro t e h
  unfold bldT at h
  split at h
  · rename_i ht
    subst ht
    exact ⟨bldTI, _, (tyB_ok bldTI_ok).1, rfl, rfl⟩
  · cases h
theorem bldMixed : Tryz.prog.follows .mixedOrders = true := by kernel_rfl
theorem bldName1 : (Tryz.f211.name == "runtime.NumGoroutine") = false := by kernel_rfl
theorem bldName2 : (Tryz.f212.name == "runtime.NumGoroutine") = false := by kernel_rfl
theorem bldName3 : (Tryz.f213.name == "runtime.NumGoroutine") = false := by kernel_rfl
theorem bldInl_eq {g : FuncId} {fn : Func} (h : bldInl g = some fn) : Tryz.prog.funcs[g]? = some fn ∧ (fn.name == "runtime.NumGoroutine") = false := by
  unfold bldInl at h
  split at h
  · rename_i hg; subst hg; obtain rfl := Option.some.inj h; exact ⟨Tryz.func211, bldName1⟩
  · split at h
    · rename_i hg; subst hg; obtain rfl := Option.some.inj h; exact ⟨Tryz.func212, bldName2⟩
    · split at h
      · rename_i hg; subst hg; obtain rfl := Option.some.inj h; exact ⟨Tryz.func213, bldName3⟩
      · cases h
theorem mkB_sound {lv : List (Nat × List Nat)} {gs : Laws} (h : ∀ p, p ∈ gs → Sound Tryz.prog p.1 p.2.1 p.2.2) : EnvSound Tryz.prog (mkB lv gs) :=
  ⟨⟨(tys_ok tyTab_ok).1, fun g fn hh => (bldInl_eq hh).1, fun t m e te h1 h2 => arrs_ok arrTab_ok t m e te h1 h2, gls_ok glTab_ok, bldT_ok⟩, fun g sig spec hl => h (g, sig, spec) (lookup_mem hl), fun g fn hh => (bldInl_eq hh).2, bldMixed⟩

/-- a string's bytes appended to a row of bytes or to none -/
theorem run_app_str {P : Program} {w : World} (t u ty e : TypeId) (i : TypeInfo) (ht : P.underlying t = some (.slice e)) (hu : P.underlying u = some .string) (hi : P.info? e = some i) (hz : i.zero = some (.int .u8 0)) (hsize : i.size = 1) (hby : i.bytes = 1)
    (v : Value) (bs : List UInt8) (hv : (v = .slice none 0 0 ∧ bs = []) ∨ ∃ g cur, v = .slice (some ⟨g, 0, none⟩) bs.length cur.size ∧ w.heap[g]? = some (.cells cur e (0, 0)) ∧ bs.length ≤ cur.size ∧ cur.size ≤ maxLen ∧ cur.toList.take bs.length = byteVals bs)
    (s : ByteArray) (hl : bs.length + s.size ≤ 140737488355328) (h0 : 0 < bs.length + s.size) :
    ∃ g' cur' w', (Builtin.append_ #[t, u] ty #[v, .string s]).run P w = .ok (.slice (some ⟨g', 0, none⟩) (bs ++ s.data.toList).length cur'.size) w' ∧ w'.heap[g']? = some (.cells cur' e (0, 0)) ∧ (bs ++ s.data.toList).length ≤ cur'.size ∧ cur'.size ≤ maxLen ∧
      cur'.toList.take (bs ++ s.data.toList).length = byteVals (bs ++ s.data.toList) ∧ (w.heap.size ≤ g' ∨ ∃ n c, v = .slice (some ⟨g', 0, none⟩) n c) ∧ w.heap.size ≤ w'.heap.size ∧ w'.os = w.os ∧ w'.output = w.output ∧
      ∀ k, k < w.heap.size → (∀ n c, v ≠ .slice (some ⟨k, 0, none⟩) n c) → w'.heap[k]? = w.heap[k]? := by
  have hsl : s.data.toList.length = s.size := Array.length_toList
  have hll : (bs ++ s.data.toList).length = bs.length + s.size := by rw [List.length_append, hsl]
  have hbv : byteVals bs ++ Lib.strCells s = byteVals (bs ++ s.data.toList) := by simp [byteVals, Lib.strCells]
  have h63 : bs.length + s.size ≤ maxLen := by unfold maxLen; omega
  have fin : ∀ base v' w', (Builtin.append_ #[t, u] ty #[v, .string s]).run P w = .ok v' w' → w'.ownsRow base e 1 v' (bs.length + s.size) (byteVals bs ++ Lib.strCells s) → ∃ g' cur', base ≤ g' ∧ v' = .slice (some ⟨g', 0, none⟩) (bs ++ s.data.toList).length cur'.size ∧ w'.heap[g']? = some (.cells cur' e (0, 0)) ∧ (bs ++ s.data.toList).length ≤ cur'.size ∧ cur'.size ≤ maxLen ∧
      cur'.toList.take (bs ++ s.data.toList).length = byteVals (bs ++ s.data.toList) := by
    rintro base v' w' hr ⟨_, hown⟩
    rcases hown with ⟨_, hz0⟩ | ⟨g', cap, cur', rfl, hb, hg, h1, h2, h3, h4⟩
    · omega
    · obtain rfl : cur'.size = cap := by omega
      rw [hbv] at h4
      exact ⟨g', cur', hb, by rw [hll], hg, by rw [hll]; exact h1, h2, by rw [hll]; simpa using h4⟩
  rcases hv with ⟨rfl, rfl⟩ | ⟨g, cur, rfl, hg, h1, h2, h3⟩
  · obtain ⟨v', w', hr, hown, hgr, _⟩ := Lib.run_append_own_string (P := P) w w.heap.size t u ty e i ht hu hi hz hsize hby (.slice none 0 0) 0 [] (World.ownsRow_nil _ _ _ _) s (by simpa using h63) (by simpa using hl) (Nat.le_refl _)
    obtain ⟨g', cur', hb, rfl, q1, q2, q3, q4⟩ := fin w.heap.size v' w' hr (by simpa [byteVals] using hown)
    exact ⟨g', cur', w', hr, q1, q2, q3, q4, .inl hb, hgr.size, hgr.os, hgr.output, fun k hk _ => hgr.block k hk (by simp [Value.ownBlock])⟩
  · have hown0 : w.ownsRow 0 e 1 (.slice (some ⟨g, 0, none⟩) bs.length cur.size) bs.length (byteVals bs) := ⟨by simp [byteVals], .inr ⟨g, cur.size, cur, rfl, Nat.zero_le _, hg, h1, h2, by simp, by simpa using h3⟩⟩
    obtain ⟨v', w', hr, hown, hgr, _⟩ := Lib.run_append_own_string (P := P) w 0 t u ty e i ht hu hi hz hsize hby _ _ _ hown0 s h63 hl (Nat.zero_le _)
    obtain ⟨g', cur', hb, rfl, q1, q2, q3, q4⟩ := fin 0 v' w' hr hown
    refine ⟨g', cur', w', hr, q1, q2, q3, q4, ?_, hgr.size, hgr.os, hgr.output, fun k hk hne => hgr.block k hk (fun he => ?_)⟩
    · by_cases hroom : bs.length + s.size ≤ cur.size
      · have hr2 := Lib.run_append_room_string (P := P) w t u ty e i ht hu hi hsize g bs.length cur.size cur hg s hroom hroom
        rw [hr] at hr2
        injection hr2 with hr2 _
        injection hr2 with hr2 _ _
        exact .inr ⟨bs.length, cur.size, by rw [hr2]⟩
      · have hr2 := Lib.run_append_grow_string (P := P) w t u ty e i (.int .u8 0) ht hu hi hz ⟨g, 0, none⟩ bs.length cur.size (byteVals bs) (by simp [byteVals, hsize]) (hown0.cells (g := g) rfl) s (by omega) (by omega) (by rw [hby]; exact growslice_fits (by omega) (by omega))
        rw [hr] at hr2
        injection hr2 with hr2 _
        injection hr2 with hr2 _ _
        injection hr2 with hr2
        injection hr2 with hr2 _ _
        exact .inl (by omega)
    · simp only [Value.ownBlock, Option.some.injEq] at he
      exact hne bs.length cur.size (by rw [he])

theorem wpList_app_str {P : Program} {w : World} {ops : Array Oper} {rest : List Oper} {o : Oper} {a : Act} {Q : Exit → Act → World → Prop} (hgd : o.guard = none) (sl x : Operand) (t u : TypeId)
    (ho : o.op = .call { callee := .builtin .append, args := #[sl, x], argTypes := #[t, u] })
    (e : TypeId) (i : TypeInfo) (ht : P.underlying t = some (.slice e)) (hu : P.underlying u = some .string) (hi : P.info? e = some i) (hz : i.zero = some (.int .u8 0)) (hsize : i.size = 1) (hby : i.bytes = 1)
    (v : Value) (bs : List UInt8) (hs : a.eval sl = v) (hv : (v = .slice none 0 0 ∧ bs = []) ∨ ∃ g cur, v = .slice (some ⟨g, 0, none⟩) bs.length cur.size ∧ w.heap[g]? = some (.cells cur e (0, 0)) ∧ bs.length ≤ cur.size ∧ cur.size ≤ maxLen ∧ cur.toList.take bs.length = byteVals bs)
    (s : ByteArray) (hx : a.eval x = .string s) (hl : bs.length + s.size ≤ 140737488355328) (h0 : 0 < bs.length + s.size)
    (h : ∀ g' cur' w', w'.heap[g']? = some (.cells cur' e (0, 0)) → (bs ++ s.data.toList).length ≤ cur'.size → cur'.size ≤ maxLen →
      cur'.toList.take (bs ++ s.data.toList).length = byteVals (bs ++ s.data.toList) → (w.heap.size ≤ g' ∨ ∃ n c, v = .slice (some ⟨g', 0, none⟩) n c) → w.heap.size ≤ w'.heap.size → w'.os = w.os → w'.output = w.output →
      (∀ k, k < w.heap.size → (∀ n c, v ≠ .slice (some ⟨k, 0, none⟩) n c) → w'.heap[k]? = w.heap[k]?) → wpList P ops Q rest (a.put o.dst (.slice (some ⟨g', 0, none⟩) (bs ++ s.data.toList).length cur'.size)) w') : wpList P ops Q (o :: rest) a w := by
  refine wpList_plain hgd fun K hK => ?_
  obtain ⟨g', cur', w', hr, q1, q2, q3, q4, q5, q6, q7, q8, q9⟩ := run_app_str (P := P) (w := w) t u o.type e i ht hu hi hz hsize hby v bs hv s hl h0
  unfold Oper.wp execOp
  simp only [ho, resolve, invoke, builtin, Sem.run_bind, Sem.run_pure, Result.andThen_ok, List.map_toArray, List.map_cons, List.map_nil, hs, hx, hr]
  exact hK _ _ (h g' cur' w' q1 q2 q3 q4 q5 q6 q7 q8 q9)
theorem bldSize : ∃ j, Tryz.prog.info? 194 = some j ∧ j.size = 2 := Option.map_eq_some_iff.1 (by kernel_rfl : (Tryz.prog.info? 194).map (·.size) = some 2)
theorem bldLies : liesAt Tryz.prog Tryz.prog.depth 194 (2 / Tryz.prog.cellsOf 194) 0 194 1 = true := by kernel_rfl
theorem byteInfo : ∃ i, Tryz.prog.info? 5 = some i ∧ i.zero = some (.int .u8 0) ∧ i.size = 1 ∧ i.bytes = 1 := by
  obtain ⟨i, h1, h2⟩ := Option.map_eq_some_iff.1 (by kernel_rfl : (Tryz.prog.info? 5).map (fun i => (i.zero, i.size, i.bytes)) = some (some (.int .u8 0), 1, 1))
  simp only [Prod.mk.injEq] at h2
  exact ⟨i, h1, h2⟩
set_option maxHeartbeats 1000000 in
set_option maxRecDepth 100000 in
theorem check_used (b : Nat) (w : World) (h0 : w.cell? ⟨b, 0, none⟩ = some (.pointer (some ⟨b, 0, none⟩))) :
    Calls Tryz.prog 255 #[.pointer (some ⟨b, 0, none⟩)] w fun e w' => e = .returned (.tuple #[]) ∧ w' = w := by
  obtain ⟨j, hj, _⟩ := bldSize
  go_enter Tryz.func255, Tryz.ntmps255
  go_wp2
  rw [Lib.run_neq_ptr_same w _ Tryz.underlying192 hj]
  go_wp2
  go_end0
  exact ⟨rfl, rfl⟩
set_option maxHeartbeats 1000000 in
set_option maxRecDepth 100000 in
theorem check_fresh (b : Nat) (w : World) (h0 : w.cell? ⟨b, 0, none⟩ = some (.pointer none)) (hsh : w.shape? b = some (194, 2)) (hfz : w.frozen? ⟨b, 0, none⟩ = false) :
    Calls Tryz.prog 255 #[.pointer (some ⟨b, 0, none⟩)] w fun e w' => e = .returned (.tuple #[]) ∧ w' = w.setCell ⟨b, 0, none⟩ (.pointer (some ⟨b, 0, none⟩)) := by
  obtain ⟨j, hj, hjs⟩ := bldSize
  go_enter Tryz.func255, Tryz.ntmps255
  go_wp2
  rw [Lib.run_to_unsafe w ⟨b, 0, none⟩ Tryz.underlying192 Tryz.underlying240 hj (by rw [hjs]; decide) hsh (Nat.zero_lt_succ 1)]
  simp only [Result.andThen]
  rw [Oper.upon_value]
  go_wp2
  rw [run_callFunc_extern Tryz.func281 (by kernel_rfl) (by kernel_rfl) (by kernel_rfl) (e := Extern.AbiNoEscape.same) (by kernel_rfl)]
  rw [Lib.run_noEscape]
  simp only [Result.andThen]
  rw [Oper.upon_value]
  go_wp2
  rw [Lib.run_from_unsafe w ⟨b, 0, none⟩ Tryz.underlying240 Tryz.underlying192 hj hsh bldLies]
  simp only [Result.andThen]
  rw [Oper.upon_value]
  go_wp2
  go_end0
  exact ⟨rfl, rfl⟩
theorem bld_check (b : Nat) (p u : Value) (w : World) (hb : w.heap[b]? = some (.cells #[p, u] 194 (0, 0))) (hp : p = .pointer none ∨ p = .pointer (some ⟨b, 0, none⟩)) :
    Calls Tryz.prog 255 #[.pointer (some ⟨b, 0, none⟩)] w fun e w' => e = .returned (.tuple #[]) ∧ w'.heap[b]? = some (.cells #[.pointer (some ⟨b, 0, none⟩), u] 194 (0, 0)) ∧ w'.heap.size = w.heap.size ∧ w'.os = w.os ∧ w'.output = w.output ∧
      ∀ k, k ≠ b → w'.heap[k]? = w.heap[k]? := by
  have c0 : w.cell? ⟨b, 0, none⟩ = some p := by rw [Lib.cell_of_heap hb]; rfl
  rcases hp with rfl | rfl
  · refine (check_fresh b w c0 (by simp [World.shape?, hb]) (Lib.frozen_of_heap hb 0)).mono ?_
    rintro e w' ⟨rfl, rfl⟩
    refine ⟨rfl, ?_, by simp [World.setCell], rfl, rfl, fun k hk => RowKit.Below.heap_setCell _ _ _ _ (fun e => hk (by simp [e]))⟩
    simp [World.setCell, Array.getElem?_modify, hb]
  · refine (check_used b w c0).mono ?_
    rintro e w' ⟨rfl, rfl⟩
    exact ⟨rfl, hb, rfl, rfl, rfl, fun _ _ => rfl⟩
set_option maxHeartbeats 1000000 in
set_option maxRecDepth 100000 in
theorem bld_len (b : Nat) (p : Value) (a : Option Addr) (n m : Nat) (w : World) (hb : w.heap[b]? = some (.cells #[p, .slice a n m] 194 (0, 0))) :
    Calls Tryz.prog 212 #[.pointer (some ⟨b, 0, none⟩)] w fun e w' => e = .returned (.int .i64 n) ∧ w' = w := by
  have c1 : w.cell? ⟨b, 1, none⟩ = some (.slice a n m) := by rw [Lib.cell_of_heap hb]; rfl
  go_enter Tryz.func212, Tryz.ntmps212
  go_wp2
  go_ret
  exact ⟨rfl, rfl⟩
theorem freeze_heap (w : World) (g n : Nat) (cur : Array Value) (t : TypeId) (h : w.heap[g]? = some (.cells cur t (0, 0))) : (w.freeze ⟨g, 0, none⟩ n).heap.size = w.heap.size ∧ (w.freeze ⟨g, 0, none⟩ n).os = w.os ∧ (w.freeze ⟨g, 0, none⟩ n).output = w.output ∧
    (∃ fr, (w.freeze ⟨g, 0, none⟩ n).heap[g]? = some (.cells cur t fr)) ∧ ∀ k, k ≠ g → (w.freeze ⟨g, 0, none⟩ n).heap[k]? = w.heap[k]? := by
  unfold World.freeze
  split
  · exact ⟨rfl, rfl, rfl, ⟨_, h⟩, fun _ _ => rfl⟩
  · refine ⟨by simp, rfl, rfl, ?_, fun k hk => ?_⟩
    · simp only [Array.getElem?_modify, if_true, h, Option.map_some]
      exact ⟨_, rfl⟩
    · simp only [Array.getElem?_modify]
      rw [if_neg (fun e => hk e.symm)]
set_option maxHeartbeats 2000000 in
set_option maxRecDepth 100000 in
theorem bld_wr (b : Nat) (p u : Value) (bs : List UInt8) (s : ByteArray) (w : World) (hb : w.heap[b]? = some (.cells #[p, u] 194 (0, 0))) (hp : p = .pointer none ∨ p = .pointer (some ⟨b, 0, none⟩)) (hu : BufAt bldB w b u bs)
    (hl : bs.length + s.size ≤ 140737488355328) (h0 : 0 < bs.length + s.size) :
    Calls Tryz.prog 211 #[.pointer (some ⟨b, 0, none⟩), .string s] w fun e w' => ∃ y, e = .returned (.tuple #[.int .i64 s.size, y]) ∧ w.heap.size ≤ w'.heap.size ∧ w'.os = w.os ∧ w'.output = w.output ∧
      ∃ g' cur', w'.heap[b]? = some (.cells #[.pointer (some ⟨b, 0, none⟩), .slice (some ⟨g', 0, none⟩) (bs ++ s.data.toList).length cur'.size] 194 (0, 0)) ∧ g' ≠ b ∧ w'.heap[g']? = some (.cells cur' 5 (0, 0)) ∧
        (bs ++ s.data.toList).length ≤ cur'.size ∧ cur'.size ≤ maxLen ∧ cur'.toList.take (bs ++ s.data.toList).length = byteVals (bs ++ s.data.toList) ∧ (w.heap.size ≤ g' ∨ ∃ n c, u = .slice (some ⟨g', 0, none⟩) n c) ∧
        ∀ k, k < w.heap.size → k ≠ b → (∀ n c, u ≠ .slice (some ⟨k, 0, none⟩) n c) → w'.heap[k]? = w.heap[k]? := by
  obtain ⟨i0, hi, hz0, hz1, hz2⟩ := byteInfo
  have hlt : b < w.heap.size := by
    rcases Nat.lt_or_ge b w.heap.size with h' | h'
    · exact h'
    · simp [Array.getElem?_eq_none h'] at hb
  go_enter Tryz.func211, Tryz.ntmps211
  go_wp2_with (go_at_call 255; refine (bld_check b p u _ hb hp).mono ?_)
  rintro e w1 ⟨rfl, hb1, hs1, ho1, hout1, hk1⟩
  have c0 : w1.cell? ⟨b, 0, none⟩ = some (.pointer (some ⟨b, 0, none⟩)) := by rw [Lib.cell_of_heap hb1]; rfl
  have c1 : w1.cell? ⟨b, 1, none⟩ = some u := by rw [Lib.cell_of_heap hb1]; rfl
  have hu1 : (u = .slice none 0 0 ∧ bs = []) ∨ ∃ g cur, u = .slice (some ⟨g, 0, none⟩) bs.length cur.size ∧ w1.heap[g]? = some (.cells cur 5 (0, 0)) ∧ bs.length ≤ cur.size ∧ cur.size ≤ maxLen ∧ cur.toList.take bs.length = byteVals bs := by
    rcases hu with h | ⟨g, cur, h1, h2, h3, h4, h5, h6⟩
    · exact .inl h
    · exact .inr ⟨g, cur, h1, by rw [hk1 g h2]; exact h3, h4, h5, h6⟩
  have hub : ∀ n c, u ≠ .slice (some ⟨b, 0, none⟩) n c := by
    intro n c he
    rcases hu with ⟨h, _⟩ | ⟨g, cur, h1, h2, _⟩
    · rw [h] at he; cases he
    · rw [h1] at he
      injection he with he _ _
      injection he with he
      injection he with he _ _
      exact h2 he
  go_wp2_with (at_builtin; refine wpList_app_str rfl _ _ 143 9 rfl 5 i0 Tryz.underlying143 Tryz.underlying9 hi hz0 hz1 hz2 _ bs rfl hu1 s rfl hl h0 ?_)
  intro g' cur' w2 q1 q2 q3 q4 q5 q6 q7 q8 q9
  have hb2 : w2.heap[b]? = some (.cells #[.pointer (some ⟨b, 0, none⟩), u] 194 (0, 0)) := by
    rw [q9 b (by omega) hub]
    exact hb1
  have d0 : w2.cell? ⟨b, 0, none⟩ = some (.pointer (some ⟨b, 0, none⟩)) := by rw [Lib.cell_of_heap hb2]; rfl
  have d1 : w2.cell? ⟨b, 1, none⟩ = some u := by rw [Lib.cell_of_heap hb2]; rfl
  have f1 : w2.frozen? ⟨b, 1, none⟩ = false := Lib.frozen_of_heap hb2 1
  have hgb : g' ≠ b := fun e => by
    subst e
    rw [hb2] at q1
    simp only [Option.some.injEq, Obj.cells.injEq] at q1
    exact absurd q1.2.1 (by decide)
  have hbl : (bs ++ s.data.toList).length = bs.length + s.size := by rw [List.length_append]; rfl
  go_wp2
  go_ret2
  refine ⟨_, rfl, by simp [World.setCell]; omega, q7, q8, g', cur', ?_, hgb, ?_, by rw [hbl]; exact q2, q3, by rw [hbl]; exact q4, ?_, ?_⟩
  · simp [World.setCell, Array.getElem?_modify, hb2]
  · rw [RowKit.Below.heap_setCell _ _ _ _ hgb]
    exact q1
  · exact q5
  · intro k hk hkb hku
    rw [RowKit.Below.heap_setCell _ _ _ _ hkb, q9 k (by omega) hku, hk1 k hkb]
set_option maxHeartbeats 1000000 in
set_option maxRecDepth 100000 in
theorem bld_str (b : Nat) (p : Value) (g : Nat) (cur : Array Value) (bs : List UInt8) (w : World) (hb : w.heap[b]? = some (.cells #[p, .slice (some ⟨g, 0, none⟩) bs.length cur.size] 194 (0, 0))) (hgb : g ≠ b) (hg : w.heap[g]? = some (.cells cur 5 (0, 0)))
    (h1 : bs.length ≤ cur.size) (h2 : cur.size ≤ maxLen) (h3 : cur.toList.take bs.length = byteVals bs) (h0 : 0 < bs.length) :
    Calls Tryz.prog 213 #[.pointer (some ⟨b, 0, none⟩)] w fun e w' => e = .returned (.string ⟨bs.toArray⟩) ∧ w'.heap.size = w.heap.size ∧ w'.os = w.os ∧ w'.output = w.output ∧ (∃ fr, w'.heap[g]? = some (.cells cur 5 fr)) ∧ ∀ k, k ≠ g → w'.heap[k]? = w.heap[k]? := by
  have hbn : bs ≠ [] := fun h => by rw [h] at h0; simp at h0
  have hown : w.drew.ownsRow 0 5 1 (.slice (some ⟨g, 0, none⟩) bs.length cur.size) bs.length (byteVals bs) := ⟨by simp [byteVals], .inr ⟨g, cur.size, cur, rfl, Nat.zero_le _, hg, h1, h2, by simp, by simpa using h3⟩⟩
  have c1 : w.drew.cell? ⟨b, 1, none⟩ = some (.slice (some ⟨g, 0, none⟩) bs.length cur.size) := by
    have : w.drew.heap[b]? = some (.cells #[p, .slice (some ⟨g, 0, none⟩) bs.length cur.size] 194 (0, 0)) := hb
    rw [Lib.cell_of_heap this]; rfl
  have hSD : (Builtin.unsafeSliceData_ #[143] 224 #[.slice (some ⟨g, 0, none⟩) bs.length cur.size]).run Tryz.prog w.drew = .ok (.pointer (some ⟨g, 0, none⟩)) w.drew :=
    Lib.run_unsafeSliceData_row _ _ _ _ _ _ (by omega)
  have hUS : (Builtin.unsafeString_ #[224, 3] 9 #[.pointer (some ⟨g, 0, none⟩), .int .i64 bs.length]).run Tryz.prog w.drew = .ok (.string ⟨bs.toArray⟩) (w.drew.freeze ⟨g, 0, none⟩ bs.length) := by
    refine Lib.run_unsafeString_row w.drew 224 3 9 5 Tryz.underlying224 (by kernel_rfl) g cur.size (by have hg' : w.drew.heap[g]? = some (.cells cur 5 (0, 0)) := hg; simp [World.shape?, hg']) bs hbn (by omega) (by unfold maxLen at h2; omega) ?_
    intro j x hx
    exact hown.cells (g := g) rfl j (.int .u8 x.toNat) (by simp [byteVals, hx])
  go_enter Tryz.func213, Tryz.ntmps213
  go_wp2
  go_region
  all_goals (go_wp2; go_ret; exact ⟨rfl, freeze_heap w.drew g _ cur _ hg⟩)
theorem bldLaws : BldLaws Tryz.prog bldB := ⟨fun b p u bs s w h1 h2 h3 h4 h5 => bld_wr b p u bs s w h1 h2 h3 h4 h5, fun b p a n m w h => bld_len b p a n m w h, fun b p g cur bs w h1 h2 h3 h4 h5 h6 h7 => bld_str b p g cur bs w h1 h2 h3 h4 h5 h6 h7⟩

end Go.Proofs.YtggmbjbmklimdaaGreatDoor.V

namespace Go.Proofs.YtggmbjbmklimdaaGreatDoor.V
noncomputable section

/-- places: pairs of a count and where -/
abbrev Pl := Int × Int
def ePl (p : Pl) : List C := [.int .i64 p.1, .int .i64 p.2]
def plOf (r : List C) : Pl := ((r.getD 0 (.fn 0 [])).toInt, (r.getD 1 (.fn 0 [])).toInt)
def pls (rows : List (List C)) : List Pl := rows.map plOf
def placesTo (s : Int) (os : List Int) : Nat → List Pl
  | 0 => []
  | i + 1 => placesTo s os i ++ (if (i : Int) % s = 0 then [((i : Int), os.getD i 0)] else [])
def places (s : Int) (os : List Int) : List Pl := if s < 1 then [] else placesTo s os os.length
/-- how much a is above b; -1 if it is not -/
def less (a b : Int) : Int := if a < b ∨ IntKind.i64.wrap (a - b) < 0 then -1 else IntKind.i64.wrap (a - b)
def ptGo : Pl → List Pl → Option (List UInt8)
  | _, [] => some []
  | q, p :: r => if varText (less p.1 q.1) = [] ∨ varText (less p.2 q.2) = [] then none else (ptGo p r).map ((varText (less p.1 q.1) ++ varText (less p.2 q.2)) ++ ·)
def placesText (l : List Pl) : List UInt8 := match ptGo (0, 0) l with
  | some t => varText l.length ++ t
  | none => []
def trGo : List Int → List UInt8 → List UInt8
  | [], t => t ++ [73, 68, 88, 33]
  | x :: r, t => if fixOf x 4 = [] then [] else trGo r (t ++ fixOf x 4)
def trailer (a b c d : Int) : List UInt8 := trGo [a, b, c, d] []
def footText (v s b l : Int) (os : List Int) (e : Int) : List UInt8 :=
  if headOk v s b l = false ∨ endMark v (b + os.length) = [] ∨ placesText (places s os) = [] ∨ trailer e os.length s 0 = [] then []
  else endMark v (b + os.length) ++ placesText (places s os) ++ trailer e os.length s (crcMore 0 (endMark v (b + os.length) ++ placesText (places s os) ++ (trailer e os.length s 0).take 12) : Nat)
def sealGo (v b : Int) : Int → List (List UInt8) → List UInt8 → List Int → Option (List UInt8 × List Int)
  | _, [], t, os => some (t, os)
  | i, r :: rs, t, os => if 60 < r.length then none else sealGo v b (i + 1) rs (t ++ frameText v (b + i) r) (os ++ [(t.length : Int)])
def sealText (v s b l : Int) (rs : List (List UInt8)) : List UInt8 :=
  if headOk v s b l = false ∨ 1000 < rs.length ∨ 1000000000 < b + rs.length then []
  else match sealGo v b 0 rs (headText v s b l) [] with
    | some (t, os) => t ++ footText v s b l os t.length
    | none => []
def placesOfSpec : Spec := fun cs => match cs with
  | [.int .i64 s, .sl os] => some (rowsOk [.int .i64] os && decide (os.length ≤ 1048576), [.sl ((places s (ints os)).map ePl)])
  | _ => none
def lessSpec : Spec := fun cs => match cs with
  | [.int .i64 a, .int .i64 b] => some (true, [.int .i64 (less a b)])
  | _ => none
def placesTextSpec : Spec := fun cs => match cs with
  | [.sl r] => some (rowsOk [.int .i64, .int .i64] r && decide (r.length ≤ 1048576), [.str (placesText (pls r))])
  | _ => none
def trailerSpec : Spec := fun cs => match cs with
  | [.int .i64 a, .int .i64 b, .int .i64 c, .int .i64 d] => some (inB a (-9223372036854775808) 9223372036854775807 && (inB b (-9223372036854775808) 9223372036854775807 && (inB c (-9223372036854775808) 9223372036854775807 && inB d (-9223372036854775808) 9223372036854775807)), [.str (trailer a b c d)])
  | _ => none
def footSpec : Spec := fun cs => match cs with
  | [.int .i64 v, .int .i64 s, .int .i64 b, .int .i64 l, .sl os, .int .i64 e] => some (rowsOk [.int .i64] os && (decide (os.length ≤ 1048576) && inB e (-9223372036854775808) 9223372036854775807), [.str (footText v s b l (ints os) e)])
  | _ => none
def sealSpec : Spec := fun cs => match cs with
  | [.int .i64 v, .int .i64 s, .int .i64 b, .int .i64 l, .sl r] => some (rowsOk [.str] r && decide (r.length ≤ 1048576), [.str (sealText v s b l (strs r))])
  | _ => none
abbrev pSlI : PTy := .val false [.slice 3]
abbrev pSlS : PTy := .val false [.slice 9]
abbrev pSlP : PTy := .val false [.slice 234]
abbrev rSlP : RTy := ⟨false, [(.slice 234, true)]⟩

def H_sPlacesOf (s : Int) (o : List (List C)) (n : Nat) (r : List (List C)) (j : Int) : St := { slots := [(0, int64 s), (1, .l (.sl o)), (5, .l (.ref 0 0 n)), (6, int64 j)], heap := [(0, .arr 2 r)], next := 1, pins := [] }
def E_sPlacesOf : Env := mkE [(3, [0, 1, 5, 6])] []

def E_sLess : Env := mkE [] []

def H_sPlacesText (r : List (List C)) (t : List UInt8) (a b j : Int) : St := { slots := [(0, .l (.sl r)), (3, wstr t), (4, .l (.ptr 0 0)), (5, int64 j)], heap := [(0, .box [.i .i64 a, .i .i64 b])], next := 1, pins := [] }
def E_sPlacesText : Env := mkE [(4, [0, 3, 4, 5])] [(238, (sg [pI] [rS]), varTextSpec), (274, (sg [pI, pI] [rI]), lessSpec)]

def H_sTrailer (t : List UInt8) (a b c d j : Int) : St := { slots := [(9, wstr t), (10, .l (.ref 0 0 4)), (11, int64 j)], heap := [(0, .arr 1 [[.int .i64 a], [.int .i64 b], [.int .i64 c], [.int .i64 d]])], next := 1, pins := [] }
def E_sTrailer : Env := mkE [(4, [9, 10, 11])] [(232, (sg [pI, pI] [rS]), fixSpec)]

def E_sFoot : Env := mkE [] [(237, (sg [pS] [rI]), sumOfSpec), (198, (sg [pHead] [rB]), headOkSpec), (235, (sg [pI, pI] [rS]), endMarkSpec), (240, (⟨[pI, pSlI], [rSlP], true⟩), placesOfSpec), (239, (⟨[pSlP], [rS], true⟩), placesTextSpec), (241, (sg [pI, pI, pI, pI] [rS]), trailerSpec)]

def H_sSeal (v s b l : Int) (r : List (List C)) (n : Nat) (x : List (List C)) (q : Nat) (o : List (List C)) (j : Int) : St := { slots := [(1, .l (.sl r)), (2, .l (.ptr 0 0)), (5, .l (.ref 1 0 n)), (6, .l (.ref 2 0 q)), (7, int64 j)], heap := [(0, .box [.i .i64 v, .i .i64 s, .i .i64 b, .i .i64 l]), (1, .arr 1 x), (2, .arr 1 o)], next := 3, pins := [] }
def E_sSeal : Env := mkE [(6, [1, 2, 5, 6, 7])] [(198, (sg [pHead] [rB]), headOkSpec), (199, (sg [pHead] [rS]), headTextSpec), (200, (sg [pI, pI, pS] [rS]), frameSpec), (201, (⟨[pHead, pSlI, pI], [rS], true⟩), footSpec)]

end
end Go.Proofs.YtggmbjbmklimdaaGreatDoor.V

namespace Go.Proofs.YtggmbjbmklimdaaGreatDoor.V
set_option maxRecDepth 100000
theorem sPlacesOf_tree (H : List Pt → Nat → St → T (List C)) (s : Int) (o : List (List C)) : (vBodyL E_sPlacesOf noInl { params := [pI, pSlI], results := [rSlP], nested := true } Tryz.f240 H
  [C.int IntKind.i64 s, C.sl o]).eval =
 ((H [Pt.r, Pt.r, Pt.l, Pt.r, Pt.b] (9223372036854775808 : Nat) (H_sPlacesOf (s) (o) ((0 : Nat)) ([]) ((0 : Int)))) : T (List C)).eval := evalEq (by kernel_rfl)
theorem sPlacesOf_round0 (H : List Pt → Nat → St → T (List C)) (s : Int) (o : List (List C)) (n : Nat) (r : List (List C)) (j : Int) (k : Nat) : (vRound E_sPlacesOf noInl { params := [pI, pSlI], results := [rSlP], nested := true } Tryz.f240 H
  [Pt.r, Pt.r, Pt.l, Pt.r, Pt.b] k (H_sPlacesOf s o n r j)).eval =
 ((.ask (decide (j < (↑o.length : Int)))
 (.ask (decide ((1 : Int) ≤ s))
  (.must (decide ¬s = (0 : Int))
   (.ask (decide (j.tmod s = (0 : Int)))
    (.must (decide ((0 : Int) ≤ j) && decide (j < (↑o.length : Int)) && decide ((o.getD j.toNat []).length = (1 : Nat)))
     (.must (decide ((0 : Nat) < (o.getD j.toNat []).length) &&
    C.is (K.int IntKind.i64) ((o.getD j.toNat []).getD (0 : Nat) (C.fn (0 : FuncId) [])) &&
  true)
      (.must (decide (n = r.length) && roomy (r.length + (1 : Nat)) (16 : Nat) &&
  (decide ((Nat.add (1 : Nat) (0 : Nat)).succ = (2 : Nat)) && true))
       (H [Pt.r, Pt.r, Pt.l, Pt.r, Pt.b] k (H_sPlacesOf (s) (o) (r.length + (1 : Nat)) (r.append [[C.int IntKind.i64 j, C.int IntKind.i64 ((o.getD j.toNat []).getD (0 : Nat) (C.fn (0 : FuncId) [])).toInt]]) (IntKind.i64.wrap (j + (1 : Int))))))))
    (H [Pt.r, Pt.r, Pt.l, Pt.r, Pt.b] k (H_sPlacesOf (s) (o) (n) (r) (IntKind.i64.wrap (j + (1 : Int)))))))
  (.must (decide (n = r.length) && (true || r.all fun r => r.all C.flat) && true && true && true)
   (.ret [C.sl r])))
 (.must (decide (n = r.length) && (true || r.all fun r => r.all C.flat) && true && true && true)
  (.ret [C.sl r]))) : T (List C)).eval := evalEq (by kernel_rfl)
theorem sLess_tree (H : List Pt → Nat → St → T (List C)) (a : Int) (b : Int) : (vBodyL E_sLess noInl (sg [pI, pI] [rI]) Tryz.f274 H [C.int IntKind.i64 a, C.int IntKind.i64 b]).eval =
 ((.ask (decide (a < b))
 (.ret [C.int IntKind.i64 (-1 : Int)])
 (.ask (decide (IntKind.i64.wrap (a - b) < (0 : Int)))
  (.ret [C.int IntKind.i64 (-1 : Int)])
  (.ret [C.int IntKind.i64 (IntKind.i64.wrap (a - b))]))) : T (List C)).eval := evalEq (by kernel_rfl)
theorem sPlacesText_tree (H : List Pt → Nat → St → T (List C)) (r : List (List C)) : (vBodyL E_sPlacesText noInl { params := [pSlP], results := [rS], nested := true } Tryz.f239 H [C.sl r]).eval =
 ((H [Pt.r, Pt.r, Pt.r, Pt.l, Pt.r, Pt.b] (9223372036854775808 : Nat) (H_sPlacesText (r) (varText (↑r.length : Int)) ((0 : Int)) ((0 : Int)) ((0 : Int)))) : T (List C)).eval := evalEq (by kernel_rfl)
theorem sPlacesText_round0 (H : List Pt → Nat → St → T (List C)) (r : List (List C)) (t : List UInt8) (a : Int) (b : Int) (j : Int) (k : Nat) : (vRound E_sPlacesText noInl { params := [pSlP], results := [rS], nested := true } Tryz.f239 H
  [Pt.r, Pt.r, Pt.r, Pt.l, Pt.r, Pt.b] k (H_sPlacesText r t a b j)).eval =
 ((.ask (decide (j < (↑r.length : Int)))
 (.must (decide ((0 : Int) ≤ j) && decide (j < (↑r.length : Int)) && decide ((r.getD j.toNat []).length = (2 : Nat)))
  (.must (decide ((0 : Nat) < (r.getD j.toNat []).length) &&
    C.is (K.int IntKind.i64) ((r.getD j.toNat []).getD (0 : Nat) (C.fn (0 : FuncId) [])) &&
  (decide ((0 : Nat) + (1 : Nat) < (r.getD j.toNat []).length) &&
      C.is (K.int IntKind.i64) ((r.getD j.toNat []).getD ((0 : Nat) + (1 : Nat)) (C.fn (0 : FuncId) [])) &&
    true))
   (.ask (varText (less ((r.getD j.toNat []).getD (0 : Nat) (C.fn (0 : FuncId) [])).toInt a) == [])
    (.ret [C.str []])
    (.ask (varText (less ((r.getD j.toNat []).getD ((0 : Nat) + (1 : Nat)) (C.fn (0 : FuncId) [])).toInt b) == [])
     (.ret [C.str []])
     (.must (decide
  (t.length + (varText (less ((r.getD j.toNat []).getD (0 : Nat) (C.fn (0 : FuncId) [])).toInt a)).length ≤
    (9223372036854775807 : Nat)))
      (.must (decide
  ((t ++ varText (less ((r.getD j.toNat []).getD (0 : Nat) (C.fn (0 : FuncId) [])).toInt a)).length +
      (varText (less ((r.getD j.toNat []).getD ((0 : Nat) + (1 : Nat)) (C.fn (0 : FuncId) [])).toInt b)).length ≤
    (9223372036854775807 : Nat)))
       (H [Pt.r, Pt.r, Pt.r, Pt.l, Pt.r, Pt.b] k (H_sPlacesText (r) (t ++ varText (less ((r.getD j.toNat []).getD (0 : Nat) (C.fn (0 : FuncId) [])).toInt a) ++
  varText (less ((r.getD j.toNat []).getD ((0 : Nat) + (1 : Nat)) (C.fn (0 : FuncId) [])).toInt b)) (((r.getD j.toNat []).getD (0 : Nat) (C.fn (0 : FuncId) [])).toInt) (((r.getD j.toNat []).getD ((0 : Nat) + (1 : Nat)) (C.fn (0 : FuncId) [])).toInt) (IntKind.i64.wrap (j + (1 : Int)))))))))))
 (.ret [C.str t])) : T (List C)).eval := evalEq (by kernel_rfl)
theorem sTrailer_tree (H : List Pt → Nat → St → T (List C)) (a : Int) (b : Int) (c : Int) (d : Int) : (vBodyL E_sTrailer noInl (sg [pI, pI, pI, pI] [rS]) Tryz.f241 H
  [C.int IntKind.i64 a, C.int IntKind.i64 b, C.int IntKind.i64 c, C.int IntKind.i64 d]).eval =
 ((H [Pt.r, Pt.r, Pt.r, Pt.l, Pt.r, Pt.b] (9223372036854775808 : Nat) (H_sTrailer ([]) (a) (b) (c) (d) ((0 : Int)))) : T (List C)).eval := evalEq (by kernel_rfl)
theorem sTrailer_round0 (H : List Pt → Nat → St → T (List C)) (t : List UInt8) (a : Int) (b : Int) (c : Int) (d : Int) (j : Int) (k : Nat) : (vRound E_sTrailer noInl (sg [pI, pI, pI, pI] [rS]) Tryz.f241 H [Pt.r, Pt.r, Pt.r, Pt.l, Pt.r, Pt.b] k
  (H_sTrailer t a b c d j)).eval =
 ((.ask (decide (j < (4 : Int)))
 (.must (decide ((0 : Int) ≤ j) && decide (j < (↑(4 : Nat) : Int)))
  (.must (decide ((0 : Nat) + j.toNat < (((Nat.add (1 : Nat) (0 : Nat)).succ.add (0 : Nat)).succ.add (0 : Nat)).succ) &&
  (decide
        ((0 : Nat) <
          ([[C.int IntKind.i64 a], [C.int IntKind.i64 b], [C.int IntKind.i64 c], [C.int IntKind.i64 d]].getD
              ((0 : Nat) + j.toNat) []).length) &&
      C.is (K.int IntKind.i64)
        (([[C.int IntKind.i64 a], [C.int IntKind.i64 b], [C.int IntKind.i64 c], [C.int IntKind.i64 d]].getD
              ((0 : Nat) + j.toNat) []).getD
          (0 : Nat) (C.fn (0 : FuncId) [])) &&
    true))
   (.must (decide
    ((-9223372036854775808 : Int) ≤
      (([[C.int IntKind.i64 a], [C.int IntKind.i64 b], [C.int IntKind.i64 c], [C.int IntKind.i64 d]].getD
              ((0 : Nat) + j.toNat) []).getD
          (0 : Nat) (C.fn (0 : FuncId) [])).toInt) &&
  decide
    ((([[C.int IntKind.i64 a], [C.int IntKind.i64 b], [C.int IntKind.i64 c], [C.int IntKind.i64 d]].getD
              ((0 : Nat) + j.toNat) []).getD
          (0 : Nat) (C.fn (0 : FuncId) [])).toInt ≤
      (9223372036854775807 : Int)))
    (.ask (fixOf
    (([[C.int IntKind.i64 a], [C.int IntKind.i64 b], [C.int IntKind.i64 c], [C.int IntKind.i64 d]].getD
            ((0 : Nat) + j.toNat) []).getD
        (0 : Nat) (C.fn (0 : FuncId) [])).toInt
    (4 : Int) ==
  [])
     (.ret [C.str []])
     (.must (decide
  (t.length +
      (fixOf
          (([[C.int IntKind.i64 a], [C.int IntKind.i64 b], [C.int IntKind.i64 c], [C.int IntKind.i64 d]].getD
                  ((0 : Nat) + j.toNat) []).getD
              (0 : Nat) (C.fn (0 : FuncId) [])).toInt
          (4 : Int)).length ≤
    (9223372036854775807 : Nat)))
      (H [Pt.r, Pt.r, Pt.r, Pt.l, Pt.r, Pt.b] k (H_sTrailer (t ++
  fixOf
    (([[C.int IntKind.i64 a], [C.int IntKind.i64 b], [C.int IntKind.i64 c], [C.int IntKind.i64 d]].getD
            ((0 : Nat) + j.toNat) []).getD
        (0 : Nat) (C.fn (0 : FuncId) [])).toInt
    (4 : Int)) (a) (b) (c) (d) (IntKind.i64.wrap (j + (1 : Int))))))))))
 (.must (decide (t.length + (4 : Nat) ≤ (9223372036854775807 : Nat)))
  (.ret [C.str (t ++ [(73 : UInt8), (68 : UInt8), (88 : UInt8), (33 : UInt8)])]))) : T (List C)).eval := evalEq (by kernel_rfl)
theorem sFoot_tree (H : List Pt → Nat → St → T (List C)) (v : Int) (s : Int) (b : Int) (l : Int) (o : List (List C)) (e : Int) : (vBodyL E_sFoot noInl { params := [pHead, pSlI, pI], results := [rS], nested := true } Tryz.f201 H
  [C.int IntKind.i64 v, C.int IntKind.i64 s, C.int IntKind.i64 b, C.int IntKind.i64 l, C.sl o, C.int IntKind.i64 e]).eval =
 ((.ask (headOk v s b l)
 (.must (rowsOk [K.int IntKind.i64] o && decide (o.length ≤ (1048576 : Nat)))
  (.must ((true && (List.map ePl (places s (ints o))).all fun row => decide (row.length = (2 : Nat))) && true && true && true)
   (.must (rowsOk [K.int IntKind.i64, K.int IntKind.i64]
    (List.take (List.map ePl (places s (ints o))).length (List.map ePl (places s (ints o)))) &&
  decide
    ((List.take (List.map ePl (places s (ints o))).length (List.map ePl (places s (ints o)))).length ≤ (1048576 : Nat)))
    (.must (inB e (-9223372036854775808 : Int) (9223372036854775807 : Int) &&
  (inB (↑o.length : Int) (-9223372036854775808 : Int) (9223372036854775807 : Int) &&
    (inB s (-9223372036854775808 : Int) (9223372036854775807 : Int) &&
      inB (0 : Int) (-9223372036854775808 : Int) (9223372036854775807 : Int))))
     (.ask (endMark v (IntKind.i64.wrap (b + (↑o.length : Int))) == [])
      (.ret [C.str []])
      (.ask (placesText (pls (List.take (List.map ePl (places s (ints o))).length (List.map ePl (places s (ints o))))) == [])
       (.ret [C.str []])
       (.ask (trailer e (↑o.length : Int) s (0 : Int) == [])
        (.ret [C.str []])
        (.must (decide
  ((endMark v (IntKind.i64.wrap (b + (↑o.length : Int)))).length +
      (placesText
          (pls (List.take (List.map ePl (places s (ints o))).length (List.map ePl (places s (ints o)))))).length ≤
    (9223372036854775807 : Nat)))
         (.must (decide ((0 : Int) ≤ (12 : Int)) && decide ((12 : Int) ≤ (↑(trailer e (↑o.length : Int) s (0 : Int)).length : Int)))
          (.must (decide
  ((endMark v (IntKind.i64.wrap (b + (↑o.length : Int))) ++
          placesText
            (pls (List.take (List.map ePl (places s (ints o))).length (List.map ePl (places s (ints o)))))).length +
      (List.drop (0 : Nat) (List.take (Int.toNat (12 : Int)) (trailer e (↑o.length : Int) s (0 : Int)))).length ≤
    (9223372036854775807 : Nat)))
           (.must (decide
  ((endMark v (IntKind.i64.wrap (b + (↑o.length : Int))) ++
          placesText (pls (List.take (List.map ePl (places s (ints o))).length (List.map ePl (places s (ints o))))) ++
        List.drop (0 : Nat) (List.take (Int.toNat (12 : Int)) (trailer e (↑o.length : Int) s (0 : Int)))).length ≤
    (281474976710656 : Nat)))
            (.must (decide
  ((endMark v (IntKind.i64.wrap (b + (↑o.length : Int)))).length +
      (placesText
          (pls (List.take (List.map ePl (places s (ints o))).length (List.map ePl (places s (ints o)))))).length ≤
    (9223372036854775807 : Nat)))
             (.must (inB e (-9223372036854775808 : Int) (9223372036854775807 : Int) &&
  (inB (↑o.length : Int) (-9223372036854775808 : Int) (9223372036854775807 : Int) &&
    (inB s (-9223372036854775808 : Int) (9223372036854775807 : Int) &&
      inB
        (Int.ofNat
          (crcMore (0 : Nat)
            (endMark v (IntKind.i64.wrap (b + (↑o.length : Int))) ++
                placesText
                  (pls (List.take (List.map ePl (places s (ints o))).length (List.map ePl (places s (ints o))))) ++
              List.drop (0 : Nat) (List.take (Int.toNat (12 : Int)) (trailer e (↑o.length : Int) s (0 : Int))))))
        (-9223372036854775808 : Int) (9223372036854775807 : Int))))
              (.must (decide
  ((endMark v (IntKind.i64.wrap (b + (↑o.length : Int))) ++
          placesText
            (pls (List.take (List.map ePl (places s (ints o))).length (List.map ePl (places s (ints o)))))).length +
      (trailer e (↑o.length : Int) s
          (Int.ofNat
            (crcMore (0 : Nat)
              (endMark v (IntKind.i64.wrap (b + (↑o.length : Int))) ++
                  placesText
                    (pls (List.take (List.map ePl (places s (ints o))).length (List.map ePl (places s (ints o))))) ++
                List.drop (0 : Nat)
                  (List.take (Int.toNat (12 : Int)) (trailer e (↑o.length : Int) s (0 : Int))))))).length ≤
    (9223372036854775807 : Nat)))
               (.ret [C.str
    (endMark v (IntKind.i64.wrap (b + (↑o.length : Int))) ++
        placesText (pls (List.take (List.map ePl (places s (ints o))).length (List.map ePl (places s (ints o))))) ++
      trailer e (↑o.length : Int) s
        (Int.ofNat
          (crcMore (0 : Nat)
            (endMark v (IntKind.i64.wrap (b + (↑o.length : Int))) ++
                placesText
                  (pls (List.take (List.map ePl (places s (ints o))).length (List.map ePl (places s (ints o))))) ++
              List.drop (0 : Nat) (List.take (Int.toNat (12 : Int)) (trailer e (↑o.length : Int) s (0 : Int)))))))])))))))))))))))
 (.ret [C.str []])) : T (List C)).eval := evalEq (by kernel_rfl)
theorem sSeal_tree (H : List Pt → Nat → St → T (List C)) (v : Int) (s : Int) (b : Int) (l : Int) (r : List (List C)) : (vBodyL E_sSeal noInl { params := [pHead, pSlS], results := [rS], nested := true } Tryz.f162 H
  [C.int IntKind.i64 v, C.int IntKind.i64 s, C.int IntKind.i64 b, C.int IntKind.i64 l, C.sl r]).eval =
 ((.ask (headOk v s b l)
 (.ask (decide ((1000 : Int) < (↑r.length : Int)))
  (.ret [C.str []])
  (.ask (decide ((1000000000 : Int) < IntKind.i64.wrap (b + (↑r.length : Int))))
   (.ret [C.str []])
   (H [Pt.r, Pt.r, Pt.r, Pt.r, Pt.l, Pt.r, Pt.b] (9223372036854775808 : Nat) (H_sSeal (v) (s) (b) (l) (r) ((headText v s b l).length) (rowsOfStr (headText v s b l)) ((0 : Nat)) ([]) ((0 : Int))))))
 (.ret [C.str []])) : T (List C)).eval := evalEq (by kernel_rfl)
theorem sSeal_round0 (H : List Pt → Nat → St → T (List C)) (v : Int) (s : Int) (b : Int) (l : Int) (r : List (List C)) (n : Nat) (x : List (List C)) (q : Nat) (o : List (List C)) (j : Int) (k : Nat) : (vRound E_sSeal noInl { params := [pHead, pSlS], results := [rS], nested := true } Tryz.f162 H
  [Pt.r, Pt.r, Pt.r, Pt.r, Pt.l, Pt.r, Pt.b] k (H_sSeal v s b l r n x q o j)).eval =
 ((.ask (decide (j < (↑r.length : Int)))
 (.must (decide ((0 : Int) ≤ j) && decide (j < (↑r.length : Int)) && decide ((r.getD j.toNat []).length = (1 : Nat)))
  (.must (decide ((0 : Nat) < (r.getD j.toNat []).length) &&
    C.is K.str ((r.getD j.toNat []).getD (0 : Nat) (C.fn (0 : FuncId) [])) &&
  true)
   (.ask (decide ((60 : Int) < (↑((r.getD j.toNat []).getD (0 : Nat) (C.fn (0 : FuncId) [])).toStr.length : Int)))
    (.ret [C.str []])
    (.must (decide (q = o.length) && roomy (o.length + (1 : Nat)) (8 : Nat) && (decide ((1 : Nat) = (1 : Nat)) && true))
     (.must (decide ((0 : Int) ≤ j) && decide (j < (↑r.length : Int)) && decide ((r.getD j.toNat []).length = (1 : Nat)))
      (.must (decide ((0 : Nat) < (r.getD j.toNat []).length) &&
    C.is K.str ((r.getD j.toNat []).getD (0 : Nat) (C.fn (0 : FuncId) [])) &&
  true)
       (.must (decide (((r.getD j.toNat []).getD (0 : Nat) (C.fn (0 : FuncId) [])).toStr.length ≤ (281474976710656 : Nat)))
        (.must (decide (n = x.length) &&
    roomy
      (x.length +
        (rowsOfStr
            (frameText v (IntKind.i64.wrap (b + j))
              ((r.getD j.toNat []).getD (0 : Nat) (C.fn (0 : FuncId) [])).toStr)).length)
      (1 : Nat) &&
  (rowsOfStr
        (frameText v (IntKind.i64.wrap (b + j)) ((r.getD j.toNat []).getD (0 : Nat) (C.fn (0 : FuncId) [])).toStr)).all
    fun r => decide (r.length = (1 : Nat)))
         (H [Pt.r, Pt.r, Pt.r, Pt.r, Pt.l, Pt.r, Pt.b] k (H_sSeal (v) (s) (b) (l) (r) (x.length +
  (rowsOfStr
      (frameText v (IntKind.i64.wrap (b + j)) ((r.getD j.toNat []).getD (0 : Nat) (C.fn (0 : FuncId) [])).toStr)).length) (x.append
  (rowsOfStr (frameText v (IntKind.i64.wrap (b + j)) ((r.getD j.toNat []).getD (0 : Nat) (C.fn (0 : FuncId) [])).toStr))) (o.length + (1 : Nat)) (o.append [[C.int IntKind.i64 (↑n : Int)]]) (IntKind.i64.wrap (j + (1 : Int)))))))))))))
 (.must (rowsOk [K.int IntKind.i64] (List.take q o) &&
  (decide ((List.take q o).length ≤ (1048576 : Nat)) &&
    inB (↑n : Int) (-9223372036854775808 : Int) (9223372036854775807 : Int)))
  (.must (decide (n = x.length) &&
    roomy (x.length + (rowsOfStr (footText v s b l (ints (List.take q o)) (↑n : Int))).length) (1 : Nat) &&
  (rowsOfStr (footText v s b l (ints (List.take q o)) (↑n : Int))).all fun r => decide (r.length = (1 : Nat)))
   (.must ((List.take (x.length + (rowsOfStr (footText v s b l (ints (List.take q o)) (↑n : Int))).length)
      (x.append (rowsOfStr (footText v s b l (ints (List.take q o)) (↑n : Int))))).all
  byteRow)
    (.ret [C.str
    (strOfRows
      (List.take (x.length + (rowsOfStr (footText v s b l (ints (List.take q o)) (↑n : Int))).length)
        (x.append (rowsOfStr (footText v s b l (ints (List.take q o)) (↑n : Int))))))]))))) : T (List C)).eval := evalEq (by kernel_rfl)
end Go.Proofs.YtggmbjbmklimdaaGreatDoor.V

namespace Go.Proofs.YtggmbjbmklimdaaGreatDoor.V

theorem row_pl {r : List C} (h : kindsOk r [.int .i64, .int .i64] = true) : r = ePl (plOf r) := by
  cases r with
  | nil => simp [kindsOk] at h
  | cons c r =>
    cases r with
    | nil => simp [kindsOk] at h
    | cons d r =>
      cases r with
      | cons e r => simp [kindsOk] at h
      | nil => cases c <;> simp [kindsOk, C.is] at h <;> cases d <;> simp [kindsOk, C.is] at h <;> (obtain ⟨rfl, rfl⟩ := h; rfl)
theorem rows_pls {rows : List (List C)} (h : rowsOk [.int .i64, .int .i64] rows = true) : rows = (pls rows).map ePl := by
  simp only [rowsOk, List.all_eq_true] at h
  simp only [pls, List.map_map]
  rw [List.map_congr_left (g := id)]
  · simp
  · intro r hr; exact (row_pl (h r hr)).symm
@[simp] theorem pls_map (l : List Pl) : pls (l.map ePl) = l := by simp [pls, plOf, ePl, Function.comp_def, C.toInt]
@[simp] theorem rowsOk_pls (l : List Pl) : rowsOk [.int .i64, .int .i64] (l.map ePl) = true := by simp [rowsOk, kindsOk, C.is, ePl]
theorem len2_pl (l : List Pl) : ((l.map ePl).all fun row => decide (row.length = 2)) = true := by simp [ePl]
theorem placesTo_len (s : Int) (os : List Int) : ∀ i, (placesTo s os i).length ≤ i
  | 0 => Nat.le_refl _
  | i + 1 => by
    have := placesTo_len s os i
    simp only [placesTo, List.length_append]
    split <;> simp <;> omega
theorem places_len (s : Int) (os : List Int) : (places s os).length ≤ os.length := by
  unfold places
  split
  · simp
  · exact placesTo_len _ _ _
theorem ptGo_len : ∀ (l : List Pl) (q : Pl) (t : List UInt8), ptGo q l = some t → t.length ≤ 10 * l.length
  | [], q, t, h => by simp [ptGo] at h; subst h; simp
  | p :: r, q, t, h => by
    unfold ptGo at h
    split at h
    · cases h
    · cases hr : ptGo p r with
      | none => rw [hr] at h; cases h
      | some u =>
        rw [hr] at h
        simp only [Option.map_some, Option.some.injEq] at h
        subst h
        have := ptGo_len r p u hr
        have h1 := varText_len (less p.1 q.1)
        have h2 := varText_len (less p.2 q.2)
        simp only [List.length_append, List.length_cons]
        omega
theorem placesText_len (l : List Pl) : (placesText l).length ≤ 5 + 10 * l.length := by
  unfold placesText
  cases h : ptGo (0, 0) l with
  | none => simp
  | some t =>
    have := ptGo_len l _ t h
    have h1 := varText_len (l.length : Int)
    simp only [List.length_append]
    omega
theorem trGo_len : ∀ (l : List Int) (t : List UInt8), trGo l t = [] ∨ (trGo l t).length = t.length + 4 * l.length + 4
  | [], t => .inr (by simp [trGo])
  | x :: r, t => by
    unfold trGo
    split
    · exact .inl rfl
    · rename_i hx
      have hf : (fixOf x 4).length = 4 := by
        unfold fixOf at hx ⊢
        split at hx
        · rename_i hc; rw [if_pos hc, leBytes_length]; rfl
        · exact absurd rfl hx
      rcases trGo_len r (t ++ fixOf x 4) with h | h
      · exact .inl h
      · right; rw [h]; simp [hf]; omega
theorem trailer_len (a b c d : Int) : trailer a b c d = [] ∨ (trailer a b c d).length = 20 := trGo_len [a, b, c, d] []
theorem trailer_le (a b c d : Int) : (trailer a b c d).length ≤ 20 := by
  rcases trailer_len a b c d with h | h <;> rw [h] <;> simp
theorem headText_le (v s b l : Int) : (headText v s b l).length ≤ 60 := by
  unfold headText headPre
  have h1 := fixOf_len v 1
  have h2 := fixOf_len s 1
  have h3 := fixOf_len b 8
  have h4 := fixOf_len l 4
  have h5 := fun x : Int => fixOf_len x 4
  split
  · simp only [List.length_append, List.length_cons, List.length_nil]
    have := h5 ((crcMore 0 ([83, 69, 71, 77] ++ fixOf v 1 ++ fixOf s 1 ++ [0, 0] ++ fixOf b 8 ++ fixOf l 4) : Nat) : Int)
    omega
  · simp
theorem footText_le (v s b l : Int) (os : List Int) (e : Int) : (footText v s b l os e).length ≤ 41 + 10 * os.length := by
  unfold footText
  split
  · simp
  · have h1 := endMark_len v (b + os.length)
    have h2 := placesText_len (places s os)
    have h3 := places_len s os
    simp only [List.length_append]
    have h4 := trailer_le e os.length s (crcMore 0 (endMark v (b + os.length) ++ placesText (places s os) ++ (trailer e os.length s 0).take 12) : Nat)
    omega
theorem sealGo_len (v b : Int) : ∀ (rs : List (List UInt8)) (i : Int) (t : List UInt8) (os : List Int) (x : List UInt8 × List Int), sealGo v b i rs t os = some x → x.1.length ≤ t.length + 90 * rs.length ∧ x.2.length = os.length + rs.length
  | [], i, t, os, x, h => by simp [sealGo] at h; subst h; simp
  | r :: rs, i, t, os, x, h => by
    unfold sealGo at h
    split at h
    · cases h
    · have := sealGo_len v b rs _ _ _ x h
      have h1 := frameText_len v (b + i) r
      simp only [List.length_append, List.length_cons, List.length_nil] at this ⊢
      omega
theorem sealText_le (v s b l : Int) (rs : List (List UInt8)) : (sealText v s b l rs).length ≤ 120000 := by
  unfold sealText
  split
  · simp
  · rename_i hc
    have hl : rs.length ≤ 1000 := by
      have : ¬ 1000 < rs.length := fun h => hc (.inr (.inl h))
      omega
    cases h : sealGo v b 0 rs (headText v s b l) [] with
    | none => simp
    | some x =>
      obtain ⟨t, os⟩ := x
      have h1 := sealGo_len v b rs 0 _ _ _ h
      have h2 := headText_le v s b l
      have h3 := footText_le v s b l os t.length
      simp only [List.length_append, List.length_nil] at h1 ⊢
      omega

theorem sPlacesOf_loop (s : Int) (os : List Int) (hs : 1 ≤ s) (hl : os.length ≤ 1048576) : ∀ (f n i : Nat), i + f = os.length → f < n →
    (vLoop E_sPlacesOf noInl (⟨[pI, pSlI], [rSlP], true⟩) Tryz.f240 [.r, .r, .l, .r, .b] n (H_sPlacesOf s (os.map eInt) (placesTo s os i).length ((placesTo s os i).map ePl) i)).eval = some [.sl ((placesTo s os os.length).map ePl)] := by
  intro f
  induction f with
  | zero =>
    intro n i h1 h2
    obtain ⟨n, rfl⟩ : ∃ q, n = q + 1 := ⟨n - 1, by omega⟩
    rw [vLoop_L _ _ _ _ _ _ _ (by kernel_rfl), sPlacesOf_round0]
    have c : ¬ ((i : Int) < (os.length : Int)) := by omega
    have ei : i = os.length := by omega
    simp only [List.length_map, eval_ask', eval_must', eval_ret', decide_eq_true_eq, c, if_false, decide_true, Bool.true_or, Bool.and_self, if_true]
    rw [ei]
  | succ f ih =>
    intro n i h1 h2
    obtain ⟨n, rfl⟩ : ∃ q, n = q + 1 := ⟨n - 1, by omega⟩
    rw [vLoop_L _ _ _ _ _ _ _ (by kernel_rfl), sPlacesOf_round0]
    have hi : i < os.length := by omega
    have c : (i : Int) < (os.length : Int) := by omega
    have z : (0 : Int) ≤ (i : Int) := by omega
    have ns : ¬ s = 0 := by omega
    have tm : (i : Int).tmod s = (i : Int) % s := Int.tmod_eq_emod_of_nonneg z
    have g := map_getD eInt os 0 i hi
    have w : IntKind.i64.wrap ((i : Int) + 1) = ((i + 1 : Nat) : Int) := by rw [wrap64] <;> omega
    have pl := placesTo_len s os i
    have ro : roomy ((placesTo s os i).length + 1) 16 = true := by simp only [roomy, decide_eq_true_eq]; omega
    have e := ih n (i + 1) (by omega) (by omega)
    simp only [List.length_map, eval_ask', eval_must', decide_eq_true_eq, c, hs, ns, tm, z, Int.toNat_natCast, g, w, ro, not_false_eq_true, if_true, decide_true, Bool.and_true, Bool.true_and, List.length_cons, List.length_nil, Nat.zero_add, Nat.zero_lt_one, C.is, beq_self_eq_true, List.getD_cons_zero, C.toInt]
    by_cases hm : (i : Int) % s = 0
    · have ep : placesTo s os (i + 1) = placesTo s os i ++ [((i : Int), os.getD i 0)] := by simp only [placesTo, hm, if_true]
      rw [ep, List.map_append, List.length_append] at e
      simp only [hm, if_true]
      exact e
    · have ep : placesTo s os (i + 1) = placesTo s os i := by simp only [placesTo, hm, if_false, List.append_nil]
      rw [ep] at e
      simp only [hm, if_false]
      exact e
theorem sPlacesOf_E : EnvSound Tryz.prog E_sPlacesOf := mkE_sound (by simp [])
theorem sPlacesOf_sound : Sound Tryz.prog 240 (⟨[pI, pSlI], [rSlP], true⟩) placesOfSpec := vBody_sound sPlacesOf_E noInl_ok Tryz.func240 (by kernel_rfl) fun cs outs hk h => by
  unfold placesOfSpec at h
  split at h
  · simp only [Option.some.injEq, Prod.mk.injEq, Bool.and_eq_true, decide_eq_true_eq] at h
    obtain ⟨⟨h1, h2⟩, rfl⟩ := h
    rename_i s o
    have hr := rows_ints h1
    generalize ints o = os at hr ⊢
    subst hr
    rw [List.length_map] at h2
    rw [vBody_L, sPlacesOf_tree]
    by_cases hs : 1 ≤ s
    · have e := sPlacesOf_loop s os hs h2 os.length 9223372036854775808 0 (by omega) (by omega)
      have ep : places s os = placesTo s os os.length := by unfold places; rw [if_neg (by omega)]
      rw [ep]
      exact e
    · have ep : places s os = [] := by unfold places; rw [if_pos (by omega)]
      rw [ep, vLoop_L _ _ _ _ _ 9223372036854775807 _ (by kernel_rfl), sPlacesOf_round0]
      by_cases c : (0 : Int) < (os.length : Int)
      · simp only [List.length_map, eval_ask', eval_must', eval_ret', decide_eq_true_eq, c, hs, if_true, if_false]; rfl
      · simp only [List.length_map, eval_ask', eval_must', eval_ret', decide_eq_true_eq, c, if_false]; rfl
  · cases h

theorem sLess_E : EnvSound Tryz.prog E_sLess := mkE_sound (by simp [])
theorem sLess_sound : Sound Tryz.prog 274 (sg [pI, pI] [rI]) lessSpec := vBody_sound sLess_E noInl_ok Tryz.func274 (by kernel_rfl) fun cs outs hk h => by
  unfold lessSpec at h
  split at h
  · simp only [Option.some.injEq, Prod.mk.injEq, true_and] at h
    rename_i a b
    rw [← h, vBody_L, sLess_tree]
    unfold less
    by_cases c : a < b
    · simp [eval_ask', eval_ret', c]
    · by_cases d : IntKind.i64.wrap (a - b) < 0 <;> simp [eval_ask', eval_ret', c, d]
  · cases h

theorem sPlacesText_loop (l : List Pl) (hl : l.length ≤ 1048576) : ∀ (f n i : Nat) (q : Pl) (t : List UInt8), i + f = l.length → f < n → t.length ≤ 5 + 10 * i →
    (vLoop E_sPlacesText noInl (⟨[pSlP], [rS], true⟩) Tryz.f239 [.r, .r, .r, .l, .r, .b] n (H_sPlacesText (l.map ePl) t q.1 q.2 i)).eval = some [.str (match ptGo q (l.drop i) with | some x => t ++ x | none => [])] := by
  intro f
  induction f with
  | zero =>
    intro n i q t h1 h2 h3
    obtain ⟨n, rfl⟩ : ∃ q, n = q + 1 := ⟨n - 1, by omega⟩
    rw [vLoop_L _ _ _ _ _ _ _ (by kernel_rfl), sPlacesText_round0]
    have c : ¬ ((i : Int) < (l.length : Int)) := by omega
    have hd : l.drop i = [] := List.drop_eq_nil_of_le (by omega)
    simp only [List.length_map, eval_ask', eval_ret', decide_eq_true_eq, c, if_false, hd, ptGo, List.append_nil]
  | succ f ih =>
    intro n i q t h1 h2 h3
    obtain ⟨n, rfl⟩ : ∃ q, n = q + 1 := ⟨n - 1, by omega⟩
    rw [vLoop_L _ _ _ _ _ _ _ (by kernel_rfl), sPlacesText_round0]
    have hi : i < l.length := by omega
    have c : (i : Int) < (l.length : Int) := by omega
    have z : (0 : Int) ≤ (i : Int) := by omega
    have g := map_getD ePl l (0, 0) i hi
    have hd := drop_cons l i (0, 0) hi
    generalize l.getD i (0, 0) = p at g hd
    have w : IntKind.i64.wrap ((i : Int) + 1) = ((i + 1 : Nat) : Int) := by rw [wrap64] <;> omega
    have v1 := varText_len (less p.1 q.1)
    have v2 := varText_len (less p.2 q.2)
    have m1 : t.length + (varText (less p.1 q.1)).length ≤ 9223372036854775807 := by omega
    have m2 : t.length + (varText (less p.1 q.1)).length + (varText (less p.2 q.2)).length ≤ 9223372036854775807 := by omega
    have e := ih n (i + 1) p (t ++ varText (less p.1 q.1) ++ varText (less p.2 q.2)) (by omega) (by omega) (by simp only [List.length_append]; omega)
    rw [hd]
    simp only [List.length_map, eval_ask', eval_must', eval_ret', decide_eq_true_eq, c, z, Int.toNat_natCast, g, w, if_true, decide_true, Bool.and_true, Bool.true_and, ePl, List.length_cons, List.length_nil, C.is, beq_self_eq_true, List.getD_cons_zero, List.getD_cons_succ, C.toInt, Nat.zero_add, Nat.reduceAdd, Nat.reduceLT, beq_iff_eq, List.length_append, m1, m2, ptGo]
    by_cases a1 : varText (less p.1 q.1) = []
    · simp only [a1, true_or, if_true]
    · by_cases a2 : varText (less p.2 q.2) = []
      · simp only [a1, a2, or_true, if_true, if_false]
      · simp only [a1, a2, or_self, if_false]
        refine e.trans ?_
        cases ptGo p (l.drop (i + 1)) with
        | none => rfl
        | some x => simp only [Option.map_some, List.append_assoc]
theorem sPlacesText_E : EnvSound Tryz.prog E_sPlacesText := mkE_sound (by simp [sVarText_sound, sLess_sound])
theorem sPlacesText_sound : Sound Tryz.prog 239 (⟨[pSlP], [rS], true⟩) placesTextSpec := vBody_sound sPlacesText_E noInl_ok Tryz.func239 (by kernel_rfl) fun cs outs hk h => by
  unfold placesTextSpec at h
  split at h
  · simp only [Option.some.injEq, Prod.mk.injEq, Bool.and_eq_true, decide_eq_true_eq] at h
    obtain ⟨⟨h1, h2⟩, rfl⟩ := h
    rename_i r
    have hr := rows_pls h1
    generalize pls r = l at hr ⊢
    subst hr
    rw [List.length_map] at h2
    rw [vBody_L, sPlacesText_tree, List.length_map]
    have e := sPlacesText_loop l h2 l.length 9223372036854775808 0 (0, 0) (varText (l.length : Int)) (by omega) (by omega) (by have := varText_len (l.length : Int); omega)
    exact e
  · cases h

theorem four_at (a b c d : Int) (i : Nat) (hi : i < 4) : ([[C.int .i64 a], [C.int .i64 b], [C.int .i64 c], [C.int .i64 d]] : List (List C)).getD i [] = eInt (([a, b, c, d] : List Int).getD i 0) := by
  exact map_getD eInt [a, b, c, d] 0 i hi
theorem sTrailer_loop (a b c d : Int) (hx : ∀ i, i < 4 → -9223372036854775808 ≤ ([a, b, c, d] : List Int).getD i 0 ∧ ([a, b, c, d] : List Int).getD i 0 ≤ 9223372036854775807) : ∀ (f n i : Nat) (t : List UInt8), i + f = 4 → f < n → t.length ≤ 8 * i →
    (vLoop E_sTrailer noInl (sg [pI, pI, pI, pI] [rS]) Tryz.f241 [.r, .r, .r, .l, .r, .b] n (H_sTrailer t a b c d i)).eval = some [.str (trGo (([a, b, c, d] : List Int).drop i) t)] := by
  intro f
  induction f with
  | zero =>
    intro n i t h1 h2 h3
    obtain ⟨n, rfl⟩ : ∃ q, n = q + 1 := ⟨n - 1, by omega⟩
    rw [vLoop_L _ _ _ _ _ _ _ (by kernel_rfl), sTrailer_round0]
    have c4 : ¬ ((i : Int) < 4) := by omega
    have hd : ([a, b, c, d] : List Int).drop i = [] := List.drop_eq_nil_of_le (by simp; omega)
    have m : t.length + 4 ≤ 9223372036854775807 := by omega
    simp only [eval_ask', eval_must', eval_ret', decide_eq_true_eq, c4, if_false, hd, trGo, m, if_true]
  | succ f ih =>
    intro n i t h1 h2 h3
    obtain ⟨n, rfl⟩ : ∃ q, n = q + 1 := ⟨n - 1, by omega⟩
    rw [vLoop_L _ _ _ _ _ _ _ (by kernel_rfl), sTrailer_round0]
    have hi : i < 4 := by omega
    have c4 : (i : Int) < 4 := by omega
    have z : (0 : Int) ≤ (i : Int) := by omega
    have g := four_at a b c d i hi
    have hd := drop_cons ([a, b, c, d] : List Int) i 0 hi
    have hx1 := hx i hi
    generalize ([a, b, c, d] : List Int).getD i 0 = x at g hd hx1
    have w : IntKind.i64.wrap ((i : Int) + 1) = ((i + 1 : Nat) : Int) := by rw [wrap64] <;> omega
    have v1 := fixOf_len x 4
    have m1 : t.length + (fixOf x 4).length ≤ 9223372036854775807 := by omega
    have e := ih n (i + 1) (t ++ fixOf x 4) (by omega) (by omega) (by simp only [List.length_append]; omega)
    have k1 : i < (((Nat.add 1 0).succ.add 0).succ.add 0).succ := by show i < 4; omega
    rw [hd]
    have c4' : (i : Int) < ((4 : Nat) : Int) := by omega
    simp only [eval_ask', eval_must', eval_ret', decide_eq_true_eq, c4, c4', z, Int.toNat_natCast, k1, g, w, if_true, decide_true, Bool.and_true, Bool.true_and, Bool.and_self, List.length_cons, List.length_nil, C.is, beq_self_eq_true, List.getD_cons_zero, C.toInt, Nat.zero_add, Nat.zero_lt_one, hx1.1, hx1.2, beq_iff_eq, m1, trGo]
    by_cases a1 : fixOf x 4 = []
    · simp only [a1, if_true]
    · simp only [a1, if_false]
      exact e
theorem sTrailer_E : EnvSound Tryz.prog E_sTrailer := mkE_sound (by simp [sFixText_sound])
theorem sTrailer_sound : Sound Tryz.prog 241 (sg [pI, pI, pI, pI] [rS]) trailerSpec := vBody_sound sTrailer_E noInl_ok Tryz.func241 (by kernel_rfl) fun cs outs hk h => by
  unfold trailerSpec at h
  split at h
  · simp only [Option.some.injEq, Prod.mk.injEq, Bool.and_eq_true, in_iff] at h
    obtain ⟨⟨ha, hb, hc, hd⟩, rfl⟩ := h
    rename_i a b c d
    rw [vBody_L, sTrailer_tree]
    exact sTrailer_loop a b c d (fun i hi => by
      match i, hi with
      | 0, _ => exact ha
      | 1, _ => exact hb
      | 2, _ => exact hc
      | 3, _ => exact hd) 4 9223372036854775808 0 [] (by omega) (by omega) (by simp)
  · cases h

theorem sFoot_E : EnvSound Tryz.prog E_sFoot := mkE_sound (by simp [sSumOf_sound, sHeadOk_sound, sEndMark_sound, sPlacesOf_sound, sPlacesText_sound, sTrailer_sound])
theorem sFoot_sound : Sound Tryz.prog 201 (⟨[pHead, pSlI, pI], [rS], true⟩) footSpec := vBody_sound sFoot_E noInl_ok Tryz.func201 (by kernel_rfl) fun cs outs hk h => by
  unfold footSpec at h
  split at h
  · simp only [Option.some.injEq, Prod.mk.injEq, Bool.and_eq_true, decide_eq_true_eq, in_iff] at h
    obtain ⟨⟨h1, h2, h3⟩, rfl⟩ := h
    rename_i v s b l o e
    have hr := rows_ints h1
    rw [vBody_L, sFoot_tree]
    generalize ints o = os at hr ⊢
    subst hr
    simp only [List.length_map] at h1 h2 ⊢
    by_cases hh : headOk v s b l = true
    · obtain ⟨hv, hs, hb, hl⟩ := (headOk_iff v s b l).1 hh
      have w : IntKind.i64.wrap (b + (os.length : Int)) = b + os.length := by rw [wrap64] <;> omega
      have pl := places_len s os
      have tk : List.take (places s os).length (List.map ePl (places s os)) = List.map ePl (places s os) := List.take_of_length_le (by simp)
      have i1 : inB e (-9223372036854775808) 9223372036854775807 = true := (in_iff _ _ _).2 h3
      have i2 : inB (os.length : Int) (-9223372036854775808) 9223372036854775807 = true := (in_iff _ _ _).2 ⟨by omega, by omega⟩
      have i3 : inB s (-9223372036854775808) 9223372036854775807 = true := (in_iff _ _ _).2 ⟨by omega, by omega⟩
      have i4 : inB 0 (-9223372036854775808) 9223372036854775807 = true := rfl
      have l1 := endMark_len v (b + os.length)
      have l2 := placesText_len (places s os)
      have p1 : (places s os).length ≤ 1048576 := by omega
      simp only [eval_ask', eval_must', eval_ret', hh, if_true, w, tk, pls_map, len2_pl, rowsOk_pls, h1, h2, i1, i2, i3, i4, List.length_map, p1, decide_true, Bool.and_self, Bool.true_and, beq_iff_eq, List.drop_zero]
      unfold footText
      by_cases c1 : endMark v (b + os.length) = []
      · rw [if_pos c1, if_pos (.inr (.inl c1))]
      · by_cases c2 : placesText (places s os) = []
        · rw [if_neg c1, if_pos c2, if_pos (.inr (.inr (.inl c2)))]
        · by_cases c3 : trailer e os.length s 0 = []
          · rw [if_neg c1, if_neg c2, if_pos c3, if_pos (.inr (.inr (.inr c3)))]
          · have t20 : (trailer e os.length s 0).length = 20 := by
              rcases trailer_len e os.length s 0 with h | h
              · exact absurd h c3
              · exact h
            have hn : ¬ (headOk v s b l = false ∨ endMark v (b + os.length) = [] ∨ placesText (places s os) = [] ∨ trailer e os.length s 0 = []) := by
              intro h
              rcases h with h | h | h | h
              · rw [hh] at h; cases h
              · exact c1 h
              · exact c2 h
              · exact c3 h
            rw [if_neg c1, if_neg c2, if_neg c3, if_neg hn]
            have t12 : Int.toNat 12 = 12 := rfl
            have d0 : List.drop 0 (List.take 12 (trailer e os.length s 0)) = List.take 12 (trailer e os.length s 0) := rfl
            have cl := crcMore_lt 0 (endMark v (b + os.length) ++ placesText (places s os) ++ (trailer e os.length s 0).take 12) (by omega)
            have i5 : ∀ z : Nat, z < 4294967296 → inB (Int.ofNat z) (-9223372036854775808) 9223372036854775807 = true := fun z hz => (in_iff _ _ _).2 ⟨by show _ ≤ (z : Int); omega, by show (z : Int) ≤ _; omega⟩
            have l3 := trailer_le e os.length s (Int.ofNat (crcMore 0 (endMark v (b + os.length) ++ placesText (places s os) ++ (trailer e os.length s 0).take 12)))
            rw [t12]
            rw [if_pos (decide_eq_true (by omega)), if_pos (by rw [t20]; rfl), if_pos (decide_eq_true (by simp only [List.length_append, List.length_take]; omega)), if_pos (decide_eq_true (by simp only [List.length_append, List.length_take]; omega)), if_pos (decide_eq_true (by omega)), if_pos (i5 _ cl), if_pos (decide_eq_true (by simp only [List.length_append]; omega))]
            rfl
    · have hh' : headOk v s b l = false := by simpa using hh
      simp only [eval_ask', eval_ret', hh, Bool.false_eq_true, if_false]
      unfold footText
      rw [if_pos (.inl hh')]
  · cases h

theorem sSeal_loop (v s b l : Int) (rs : List (List UInt8)) (hb : 0 ≤ b ∧ b ≤ 1000000000) (hl : rs.length ≤ 1000) : ∀ (f n i : Nat) (t : List UInt8) (os : List Int), i + f = rs.length → f < n → os.length = i → t.length ≤ 60 + 90 * i →
    (vLoop E_sSeal noInl (⟨[pHead, pSlS], [rS], true⟩) Tryz.f162 [.r, .r, .r, .r, .l, .r, .b] n (H_sSeal v s b l (rs.map eStr) t.length (rowsOfStr t) os.length (os.map eInt) i)).eval = some [.str (match sealGo v b i (rs.drop i) t os with | some (t', os') => t' ++ footText v s b l os' t'.length | none => [])] := by
  intro f
  induction f with
  | zero =>
    intro n i t os h1 h2 h3 h4
    obtain ⟨n, rfl⟩ : ∃ q, n = q + 1 := ⟨n - 1, by omega⟩
    rw [vLoop_L _ _ _ _ _ _ _ (by kernel_rfl), sSeal_round0]
    have c : ¬ ((i : Int) < (rs.length : Int)) := by omega
    have hd : rs.drop i = [] := List.drop_eq_nil_of_le (by omega)
    have tk : List.take os.length (os.map eInt) = os.map eInt := List.take_of_length_le (by simp)
    have i1 : inB (t.length : Int) (-9223372036854775808) 9223372036854775807 = true := (in_iff _ _ _).2 ⟨by omega, by omega⟩
    have fl := footText_le v s b l os t.length
    have ro : roomy (t.length + (footText v s b l os t.length).length) 1 = true := by simp only [roomy, decide_eq_true_eq]; omega
    have ap : (rowsOfStr t).append (rowsOfStr (footText v s b l os t.length)) = rowsOfStr (t ++ footText v s b l os t.length) := by rw [List.append_eq, rowsStr_append]
    have tk2 : List.take (t.length + (footText v s b l os t.length).length) (rowsOfStr (t ++ footText v s b l os t.length)) = rowsOfStr (t ++ footText v s b l os t.length) := List.take_of_length_le (by rw [rows_length, List.length_append]; exact Nat.le_refl _)
    have o1 : os.length ≤ 1048576 := by omega
    have al : ((rowsOfStr (footText v s b l os t.length)).all fun r => decide (r.length = 1)) = true := by simp [rowsOfStr]
    simp only [List.length_map, eval_ask', eval_must', eval_ret', decide_eq_true_eq, c, if_false, hd, sealGo, tk, ints_map, rowsOk_ints, i1, rows_length, ro, ap, tk2, rows_bytes, str_rows, o1, al, decide_true, Bool.and_self, if_true]
  | succ f ih =>
    intro n i t os h1 h2 h3 h4
    obtain ⟨n, rfl⟩ : ∃ q, n = q + 1 := ⟨n - 1, by omega⟩
    rw [vLoop_L _ _ _ _ _ _ _ (by kernel_rfl), sSeal_round0]
    have hi : i < rs.length := by omega
    have c : (i : Int) < (rs.length : Int) := by omega
    have z : (0 : Int) ≤ (i : Int) := by omega
    have g := map_getD eStr rs [] i hi
    have hd := drop_cons rs i [] hi
    generalize rs.getD i [] = r at g hd
    have w : IntKind.i64.wrap ((i : Int) + 1) = ((i + 1 : Nat) : Int) := by rw [wrap64] <;> omega
    have w2 : IntKind.i64.wrap (b + (i : Int)) = b + i := by rw [wrap64] <;> omega
    have fl := frameText_len v (b + i) r
    have ro1 : roomy (os.length + 1) 8 = true := by simp only [roomy, decide_eq_true_eq]; omega
    have ro2 : roomy (t.length + (frameText v (b + i) r).length) 1 = true := by simp only [roomy, decide_eq_true_eq]; omega
    have ap : (rowsOfStr t).append (rowsOfStr (frameText v (b + i) r)) = rowsOfStr (t ++ frameText v (b + i) r) := by rw [List.append_eq, rowsStr_append]
    have ap2 : (os.map eInt).append [[C.int .i64 (t.length : Int)]] = (os ++ [(t.length : Int)]).map eInt := by simp
    have al : ((rowsOfStr (frameText v (b + i) r)).all fun r => decide (r.length = 1)) = true := by simp [rowsOfStr]
    have e := ih n (i + 1) (t ++ frameText v (b + i) r) (os ++ [(t.length : Int)]) (by omega) (by omega) (by simp; omega) (by simp only [List.length_append]; omega)
    rw [List.length_append, List.length_append] at e
    rw [hd]
    simp only [List.length_map, eval_ask', eval_must', eval_ret', decide_eq_true_eq, c, z, Int.toNat_natCast, g, w, w2, if_true, decide_true, Bool.and_true, Bool.true_and, Bool.and_self, List.length_cons, List.length_nil, C.is, List.getD_cons_zero, C.toStr, Nat.zero_add, Nat.zero_lt_one, rows_length, ro1, ro2, ap, ap2, al, sealGo]
    by_cases h60 : (60 : Int) < (r.length : Int)
    · have h60' : 60 < r.length := by omega
      simp only [h60, h60', if_true]
    · have h60' : ¬ 60 < r.length := by omega
      have hm : r.length ≤ 281474976710656 := by omega
      simp only [h60, h60', hm, if_false, if_true]
      exact e
theorem sSeal_E : EnvSound Tryz.prog E_sSeal := mkE_sound (by simp [sHeadOk_sound, sHeadText_sound, sFrameText_sound, sFoot_sound])
theorem sSeal_sound : Sound Tryz.prog 162 (⟨[pHead, pSlS], [rS], true⟩) sealSpec := vBody_sound sSeal_E noInl_ok Tryz.func162 (by kernel_rfl) fun cs outs hk h => by
  unfold sealSpec at h
  split at h
  · simp only [Option.some.injEq, Prod.mk.injEq, Bool.and_eq_true, decide_eq_true_eq] at h
    obtain ⟨⟨h1, h2⟩, rfl⟩ := h
    rename_i v s b l r
    rw [vBody_L, sSeal_tree]
    have hr := rows_strs h1
    generalize strs r = rs at hr ⊢
    subst hr
    rw [List.length_map] at h2 ⊢
    unfold sealText
    by_cases hh : headOk v s b l = true
    · obtain ⟨hv, hs, hb, hl⟩ := (headOk_iff v s b l).1 hh
      have w : IntKind.i64.wrap (b + (rs.length : Int)) = b + rs.length := by rw [wrap64] <;> omega
      have hh' : ¬ headOk v s b l = false := by rw [hh]; decide
      simp only [eval_ask', eval_ret', hh, if_true, w, decide_eq_true_eq]
      by_cases c1 : (1000 : Int) < (rs.length : Int)
      · rw [if_pos c1, if_pos (.inr (.inl (by omega)))]
      · by_cases c2 : (1000000000 : Int) < b + (rs.length : Int)
        · rw [if_neg c1, if_pos c2, if_pos (.inr (.inr c2))]
        · have hn : ¬ (true = false ∨ 1000 < rs.length ∨ 1000000000 < b + (rs.length : Int)) := by
            intro h
            rcases h with h | h | h
            · cases h
            · omega
            · omega
          rw [if_neg c1, if_neg c2, if_neg hn]
          have e := sSeal_loop v s b l rs hb (by omega) rs.length 9223372036854775808 0 (headText v s b l) [] (by omega) (by omega) rfl (by have := headText_le v s b l; omega)
          exact e
    · have hh' : headOk v s b l = false := by simpa using hh
      simp only [eval_ask', eval_ret', hh', Bool.false_eq_true, if_false]
      rw [if_pos (.inl trivial)]
  · cases h

end Go.Proofs.YtggmbjbmklimdaaGreatDoor.V

namespace Go.Proofs.YtggmbjbmklimdaaGreatDoor.V
noncomputable section

def H_iPlacesOf (s : Int) (o : List (List C)) (n : Nat) (r : List (List C)) (j : Int) : St := { slots := [(0, int64 s), (1, .l (.sl o)), (5, .l (.ref 0 0 n)), (6, int64 j)], heap := [(0, .arr 2 r)], next := 1, pins := [] }
def E_iPlacesOf : Env := mkE [(5, [0, 1, 5, 6])] []

def aboveSpec : Spec := fun cs => match cs with
  | [.int .i64 a, .int .i64 b] => some (inB a (-9223372036854775808) 9223372036854775807 && inB b (-9223372036854775808) 9223372036854775807, [.str (varText (less a b))])
  | _ => none
def E_iAbove : Env := mkE [] [(264, (sg [pI] [rS]), varTextSpec)]

def H_iPlacesText (r : List (List C)) (t : List UInt8) (a b j : Int) : St := { slots := [(3, .l (.ptr 0 0)), (4, .l (.ptr 1 0)), (15, .l (.sl r)), (16, int64 r.length), (17, int64 j)], heap := [(0, .bld 194 5 (some 2)), (1, .box [.i .i64 a, .i .i64 b]), (2, .own 5 t)], next := 3, pins := [] }
def plOk (p : Pl) : Bool := inB p.1 (-9223372036854775808) 9223372036854775807 && inB p.2 (-9223372036854775808) 9223372036854775807
def placesTextISpec : Spec := fun cs => match cs with
  | [.sl r] => some (rowsOk [.int .i64, .int .i64] r && (decide (r.length ≤ 1048576) && (pls r).all plOk), [.str (placesText (pls r))])
  | _ => none
def E_iPlacesText : Env := mkB [(5, [3, 4, 15, 16, 17])] [(264, (sg [pI] [rS]), varTextSpec), (285, (sg [pI, pI] [rS]), aboveSpec)]

def H_iTrailer (t : List UInt8) (a b c d j : Int) : St := { slots := [(9, wstr t), (17, .l (.ref 0 0 4)), (18, int64 ((4 : Nat) : Int)), (19, int64 j)], heap := [(0, .arr 1 [[.int .i64 a], [.int .i64 b], [.int .i64 c], [.int .i64 d]])], next := 1, pins := [] }
def E_iTrailer : Env := mkE [(3, [9, 17, 18, 19])] [(247, (sg [pI, pI] [rS]), fixSpec)]

def okI (x : Int) : Bool := inB x (-9223372036854775808) 9223372036854775807
def footISpec : Spec := fun cs => match cs with
  | [.int .i64 v, .int .i64 s, .int .i64 b, .int .i64 l, .sl os, .int .i64 e] => some (rowsOk [.int .i64] os && (decide (os.length ≤ 1048576) && (inB e (-9223372036854775808) 9223372036854775807 && (ints os).all okI)), [.str (footText v s b l (ints os) e)])
  | _ => none
def E_iFoot : Env := mkE [] [(263, (sg [pS] [rI]), sumOfSpec), (218, (sg [pHead] [rB]), headOkSpec), (243, (sg [pI, pI] [rS]), endMarkSpec), (267, (⟨[pI, pSlI], [rSlP], true⟩), placesOfSpec), (266, (⟨[pSlP], [rS], true⟩), placesTextISpec), (268, (sg [pI, pI, pI, pI] [rS]), trailerSpec)]

def longClSpec : Spec := fun cs => match cs with
  | [.str r] => some (decide (r.length ≤ 281474976710656), [.bool (decide (60 < r.length))])
  | _ => none
def isLong (r : List UInt8) : Bool := decide (60 < r.length)
def ixLong (rs : List (List UInt8)) : Int := idxGo isLong rs 0
def anyLong (rs : List (List UInt8)) : Bool := decide (0 ≤ ixLong rs)
def recsOk (rows : List (List C)) : Bool := rowsOk [.str] rows && (decide (rows.length ≤ 1048576) && (strs rows).all fun r => decide (r.length ≤ 1048576))
def ixLongSpec : Spec := fun cs => match cs with
  | [.sl r, .fn f []] => some (decide (f = 220) && recsOk r, [.int .i64 (ixLong (strs r))])
  | _ => none
def anyLongSpec : Spec := fun cs => match cs with
  | [.sl r, .fn f []] => some (decide (f = 220) && recsOk r, [.bool (anyLong (strs r))])
  | _ => none
def sealISpec : Spec := fun cs => match cs with
  | [.int .i64 v, .int .i64 s, .int .i64 b, .int .i64 l, .sl r] => some (recsOk r, [.str (sealText v s b l (strs r))])
  | _ => none
def H_ixLongF (r : List (List C)) (n i : Int) : St := st0 [(0, .l (.sl r)), (1, .l (.fn 220 [])), (7, int64 n), (8, int64 i)]
def H_iSeal (v s b l : Int) (r : List (List C)) (t : List UInt8) (q : Nat) (o : List (List C)) (j : Int) : St := { slots := [(2, .l (.ptr 0 0)), (5, .l (.ptr 1 0)), (6, .l (.ref 2 0 q)), (35, .l (.sl r)), (36, int64 r.length), (37, int64 j)], heap := [(0, .box [.i .i64 v, .i .i64 s, .i .i64 b, .i .i64 l]), (1, .bld 194 5 (some 3)), (2, .arr 1 o), (3, .own 5 t)], next := 4, pins := [] }
def E_longCl : Env := mkE [] []
def E_ixLongF : Env := mkE [(2, [0, 1, 7, 8])] [(220, (sg [pS] [rB]), longClSpec)]
def E_anyLongF : Env := mkE [] [(214, (sg [pSlS, pF] [rI]), ixLongSpec)]
def E_iSeal : Env := mkB [(7, [2, 5, 6, 35, 36, 37])] [(136, (sg [pI] [rB]), isNumberSpec), (218, (sg [pHead] [rB]), headOkSpec), (221, (sg [pHead] [rS]), headTextSpec), (222, (sg [pI, pI, pS] [rS]), frameSpec), (223, (⟨[pHead, pSlI, pI], [rS], true⟩), footISpec), (220, (sg [pS] [rB]), longClSpec), (219, (sg [pSlS, pF] [rB]), anyLongSpec)]

end
end Go.Proofs.YtggmbjbmklimdaaGreatDoor.V

namespace Go.Proofs.YtggmbjbmklimdaaGreatDoor.V
set_option maxRecDepth 100000
theorem iPlacesOf_tree (H : List Pt → Nat → St → T (List C)) (s : Int) (o : List (List C)) : (vBodyL E_iPlacesOf noInl { params := [pI, pSlI], results := [rSlP], nested := true } Tryz.f267 H
  [C.int IntKind.i64 s, C.sl o]).eval =
 ((.ask (decide (s < (1 : Int)))
 (.ret [C.sl []])
 (H [Pt.r, Pt.r, Pt.r, Pt.l, Pt.r, Pt.b] (9223372036854775808 : Nat) (H_iPlacesOf (s) (o) ((0 : Nat)) ([]) ((0 : Int))))) : T (List C)).eval := evalEq (by kernel_rfl)
theorem iPlacesOf_round0 (H : List Pt → Nat → St → T (List C)) (s : Int) (o : List (List C)) (n : Nat) (r : List (List C)) (j : Int) (k : Nat) : (vRound E_iPlacesOf noInl { params := [pI, pSlI], results := [rSlP], nested := true } Tryz.f267 H
  [Pt.r, Pt.r, Pt.r, Pt.l, Pt.r, Pt.b] k (H_iPlacesOf s o n r j)).eval =
 ((.ask (decide (j < (↑o.length : Int)))
 (.must (decide ((0 : Int) ≤ j) && decide (j < (↑o.length : Int)) && decide ((o.getD j.toNat []).length = (1 : Nat)))
  (.must (decide ((0 : Nat) < (o.getD j.toNat []).length) &&
    C.is (K.int IntKind.i64) ((o.getD j.toNat []).getD (0 : Nat) (C.fn (0 : FuncId) [])) &&
  true)
   (.must (decide (n = r.length) && roomy (r.length + (1 : Nat)) (16 : Nat) &&
  (decide ((Nat.add (1 : Nat) (0 : Nat)).succ = (2 : Nat)) && true))
    (.ask (decide (IntKind.i64.wrap ((↑o.length : Int) - j) < s))
     (.must (decide
          (r.length + (1 : Nat) =
            (r.append
                [[C.int IntKind.i64 j,
                    C.int IntKind.i64 ((o.getD j.toNat []).getD (0 : Nat) (C.fn (0 : FuncId) [])).toInt]]).length) &&
        (true ||
          (r.append
                [[C.int IntKind.i64 j,
                    C.int IntKind.i64 ((o.getD j.toNat []).getD (0 : Nat) (C.fn (0 : FuncId) [])).toInt]]).all
            fun r => r.all C.flat) &&
      true &&
    true &&
  true)
      (.ret [C.sl
    (r.append
      [[C.int IntKind.i64 j, C.int IntKind.i64 ((o.getD j.toNat []).getD (0 : Nat) (C.fn (0 : FuncId) [])).toInt]])]))
     (H [Pt.r, Pt.r, Pt.r, Pt.l, Pt.r, Pt.b] k (H_iPlacesOf (s) (o) (r.length + (1 : Nat)) (r.append [[C.int IntKind.i64 j, C.int IntKind.i64 ((o.getD j.toNat []).getD (0 : Nat) (C.fn (0 : FuncId) [])).toInt]]) (IntKind.i64.wrap (j + s))))))))
 (.must (decide (n = r.length) && (true || r.all fun r => r.all C.flat) && true && true && true)
  (.ret [C.sl r]))) : T (List C)).eval := evalEq (by kernel_rfl)
theorem iAbove_tree (H : List Pt → Nat → St → T (List C)) (a : Int) (b : Int) : (vBodyL E_iAbove noInl (sg [pI, pI] [rS]) Tryz.f285 H [C.int IntKind.i64 a, C.int IntKind.i64 b]).eval =
 ((.ask (decide (a < b))
 (.ret [C.str []])
 (.ask (decide ((1000000000 : Int) < IntKind.u64.wrap (IntKind.u64.wrap a - IntKind.u64.wrap b)))
  (.ret [C.str []])
  (.ret [C.str (varText (IntKind.i64.wrap (a - b)))]))) : T (List C)).eval := evalEq (by kernel_rfl)
theorem iPlacesText_tree (H : List Pt → Nat → St → T (List C)) (r : List (List C)) : (vBodyL E_iPlacesText (natI bldB) { params := [pSlP], results := [rS], nested := true } Tryz.f266 H [C.sl r]).eval =
 ((.must (decide ((0 : Nat) + (varText (↑r.length : Int)).length ≤ (140737488355328 : Nat)) &&
  decide ((0 : Nat) < (0 : Nat) + (varText (↑r.length : Int)).length))
 (H [Pt.r, Pt.r, Pt.r, Pt.r, Pt.l, Pt.r, Pt.b] (9223372036854775808 : Nat) (H_iPlacesText (r) ([] ++ varText (↑r.length : Int)) ((0 : Int)) ((0 : Int)) ((0 : Int))))) : T (List C)).eval := evalEq (by kernel_rfl)
theorem iPlacesText_round0 (H : List Pt → Nat → St → T (List C)) (r : List (List C)) (t : List UInt8) (a : Int) (b : Int) (j : Int) (k : Nat) : (vRound E_iPlacesText (natI bldB) { params := [pSlP], results := [rS], nested := true } Tryz.f266 H
  [Pt.r, Pt.r, Pt.r, Pt.r, Pt.l, Pt.r, Pt.b] k (H_iPlacesText r t a b j)).eval =
 ((.ask (decide (j < (↑r.length : Int)))
 (.must (decide ((0 : Int) ≤ j) && decide (j < (↑r.length : Int)) && decide ((r.getD j.toNat []).length = (2 : Nat)))
  (.must (decide ((0 : Nat) < (r.getD j.toNat []).length) &&
    C.is (K.int IntKind.i64) ((r.getD j.toNat []).getD (0 : Nat) (C.fn (0 : FuncId) [])) &&
  (decide ((0 : Nat) + (1 : Nat) < (r.getD j.toNat []).length) &&
      C.is (K.int IntKind.i64) ((r.getD j.toNat []).getD ((0 : Nat) + (1 : Nat)) (C.fn (0 : FuncId) [])) &&
    true))
   (.must (inB ((r.getD j.toNat []).getD (0 : Nat) (C.fn (0 : FuncId) [])).toInt (-9223372036854775808 : Int)
    (9223372036854775807 : Int) &&
  inB a (-9223372036854775808 : Int) (9223372036854775807 : Int))
    (.must (inB ((r.getD j.toNat []).getD ((0 : Nat) + (1 : Nat)) (C.fn (0 : FuncId) [])).toInt (-9223372036854775808 : Int)
    (9223372036854775807 : Int) &&
  inB b (-9223372036854775808 : Int) (9223372036854775807 : Int))
     (.ask (varText (less ((r.getD j.toNat []).getD (0 : Nat) (C.fn (0 : FuncId) [])).toInt a) == [])
      (.ret [C.str []])
      (.ask (varText (less ((r.getD j.toNat []).getD ((0 : Nat) + (1 : Nat)) (C.fn (0 : FuncId) [])).toInt b) == [])
       (.ret [C.str []])
       (.must (decide
  ((varText (less ((r.getD j.toNat []).getD (0 : Nat) (C.fn (0 : FuncId) [])).toInt a)).length +
      (varText (less ((r.getD j.toNat []).getD ((0 : Nat) + (1 : Nat)) (C.fn (0 : FuncId) [])).toInt b)).length ≤
    (9223372036854775807 : Nat)))
        (.must (decide
    (t.length +
        (varText (less ((r.getD j.toNat []).getD (0 : Nat) (C.fn (0 : FuncId) [])).toInt a) ++
            varText (less ((r.getD j.toNat []).getD ((0 : Nat) + (1 : Nat)) (C.fn (0 : FuncId) [])).toInt b)).length ≤
      (140737488355328 : Nat)) &&
  decide
    ((0 : Nat) <
      t.length +
        (varText (less ((r.getD j.toNat []).getD (0 : Nat) (C.fn (0 : FuncId) [])).toInt a) ++
            varText (less ((r.getD j.toNat []).getD ((0 : Nat) + (1 : Nat)) (C.fn (0 : FuncId) [])).toInt b)).length))
         (H [Pt.r, Pt.r, Pt.r, Pt.r, Pt.l, Pt.r, Pt.b] k (H_iPlacesText (r) (t ++
  (varText (less ((r.getD j.toNat []).getD (0 : Nat) (C.fn (0 : FuncId) [])).toInt a) ++
    varText (less ((r.getD j.toNat []).getD ((0 : Nat) + (1 : Nat)) (C.fn (0 : FuncId) [])).toInt b))) (((r.getD j.toNat []).getD (0 : Nat) (C.fn (0 : FuncId) [])).toInt) (((r.getD j.toNat []).getD ((0 : Nat) + (1 : Nat)) (C.fn (0 : FuncId) [])).toInt) (IntKind.i64.wrap (j + (1 : Int)))))))))))))
 (.must (decide ¬(5 : TypeId) = (0 : TypeId) && decide ((0 : Nat) < t.length))
  (.ret [C.str t]))) : T (List C)).eval := evalEq (by kernel_rfl)
theorem iTrailer_tree (H : List Pt → Nat → St → T (List C)) (a : Int) (b : Int) (c : Int) (d : Int) : (vBodyL E_iTrailer noInl (sg [pI, pI, pI, pI] [rS]) Tryz.f268 H
  [C.int IntKind.i64 a, C.int IntKind.i64 b, C.int IntKind.i64 c, C.int IntKind.i64 d]).eval =
 ((H [Pt.r, Pt.r, Pt.l, Pt.r, Pt.b] (9223372036854775808 : Nat) (H_iTrailer ([]) (a) (b) (c) (d) ((0 : Int)))) : T (List C)).eval := evalEq (by kernel_rfl)
theorem iTrailer_round0 (H : List Pt → Nat → St → T (List C)) (t : List UInt8) (a : Int) (b : Int) (c : Int) (d : Int) (j : Int) (k : Nat) : (vRound E_iTrailer noInl (sg [pI, pI, pI, pI] [rS]) Tryz.f268 H [Pt.r, Pt.r, Pt.l, Pt.r, Pt.b] k (H_iTrailer t a b c d j)).eval =
 ((.ask (decide (j < (↑(4 : Nat) : Int)))
 (.must (decide ((0 : Int) ≤ j) && decide (j < (↑(4 : Nat) : Int)))
  (.must (decide ((0 : Nat) + j.toNat < (((Nat.add (1 : Nat) (0 : Nat)).succ.add (0 : Nat)).succ.add (0 : Nat)).succ) &&
  (decide
        ((0 : Nat) <
          ([[C.int IntKind.i64 a], [C.int IntKind.i64 b], [C.int IntKind.i64 c], [C.int IntKind.i64 d]].getD
              ((0 : Nat) + j.toNat) []).length) &&
      C.is (K.int IntKind.i64)
        (([[C.int IntKind.i64 a], [C.int IntKind.i64 b], [C.int IntKind.i64 c], [C.int IntKind.i64 d]].getD
              ((0 : Nat) + j.toNat) []).getD
          (0 : Nat) (C.fn (0 : FuncId) [])) &&
    true))
   (.must (decide
    ((-9223372036854775808 : Int) ≤
      (([[C.int IntKind.i64 a], [C.int IntKind.i64 b], [C.int IntKind.i64 c], [C.int IntKind.i64 d]].getD
              ((0 : Nat) + j.toNat) []).getD
          (0 : Nat) (C.fn (0 : FuncId) [])).toInt) &&
  decide
    ((([[C.int IntKind.i64 a], [C.int IntKind.i64 b], [C.int IntKind.i64 c], [C.int IntKind.i64 d]].getD
              ((0 : Nat) + j.toNat) []).getD
          (0 : Nat) (C.fn (0 : FuncId) [])).toInt ≤
      (9223372036854775807 : Int)))
    (.ask (fixOf
    (([[C.int IntKind.i64 a], [C.int IntKind.i64 b], [C.int IntKind.i64 c], [C.int IntKind.i64 d]].getD
            ((0 : Nat) + j.toNat) []).getD
        (0 : Nat) (C.fn (0 : FuncId) [])).toInt
    (4 : Int) ==
  [])
     (.ret [C.str []])
     (.must (decide
  (t.length +
      (fixOf
          (([[C.int IntKind.i64 a], [C.int IntKind.i64 b], [C.int IntKind.i64 c], [C.int IntKind.i64 d]].getD
                  ((0 : Nat) + j.toNat) []).getD
              (0 : Nat) (C.fn (0 : FuncId) [])).toInt
          (4 : Int)).length ≤
    (9223372036854775807 : Nat)))
      (H [Pt.r, Pt.r, Pt.l, Pt.r, Pt.b] k (H_iTrailer (t ++
  fixOf
    (([[C.int IntKind.i64 a], [C.int IntKind.i64 b], [C.int IntKind.i64 c], [C.int IntKind.i64 d]].getD
            ((0 : Nat) + j.toNat) []).getD
        (0 : Nat) (C.fn (0 : FuncId) [])).toInt
    (4 : Int)) (a) (b) (c) (d) (IntKind.i64.wrap (j + (1 : Int))))))))))
 (.must (decide (t.length + (4 : Nat) ≤ (9223372036854775807 : Nat)))
  (.ret [C.str (t ++ [(73 : UInt8), (68 : UInt8), (88 : UInt8), (33 : UInt8)])]))) : T (List C)).eval := evalEq (by kernel_rfl)
theorem iFoot_tree (H : List Pt → Nat → St → T (List C)) (v : Int) (s : Int) (b : Int) (l : Int) (o : List (List C)) (e : Int) : (vBodyL E_iFoot noInl { params := [pHead, pSlI, pI], results := [rS], nested := true } Tryz.f223 H
  [C.int IntKind.i64 v, C.int IntKind.i64 s, C.int IntKind.i64 b, C.int IntKind.i64 l, C.sl o, C.int IntKind.i64 e]).eval =
 ((.ask (headOk v s b l)
 (.must (rowsOk [K.int IntKind.i64] o && decide (o.length ≤ (1048576 : Nat)))
  (.must ((true && (List.map ePl (places s (ints o))).all fun row => decide (row.length = (2 : Nat))) && true && true && true)
   (.must (rowsOk [K.int IntKind.i64, K.int IntKind.i64]
    (List.take (List.map ePl (places s (ints o))).length (List.map ePl (places s (ints o)))) &&
  (decide
      ((List.take (List.map ePl (places s (ints o))).length (List.map ePl (places s (ints o)))).length ≤
        (1048576 : Nat)) &&
    (pls (List.take (List.map ePl (places s (ints o))).length (List.map ePl (places s (ints o))))).all plOk))
    (.must (inB e (-9223372036854775808 : Int) (9223372036854775807 : Int) &&
  (inB (↑o.length : Int) (-9223372036854775808 : Int) (9223372036854775807 : Int) &&
    (inB s (-9223372036854775808 : Int) (9223372036854775807 : Int) &&
      inB (0 : Int) (-9223372036854775808 : Int) (9223372036854775807 : Int))))
     (.ask (endMark v (IntKind.i64.wrap (b + (↑o.length : Int))) == [])
      (.ret [C.str []])
      (.ask (placesText (pls (List.take (List.map ePl (places s (ints o))).length (List.map ePl (places s (ints o))))) == [])
       (.ret [C.str []])
       (.ask (trailer e (↑o.length : Int) s (0 : Int) == [])
        (.ret [C.str []])
        (.must (decide
  ((endMark v (IntKind.i64.wrap (b + (↑o.length : Int)))).length +
      (placesText
          (pls (List.take (List.map ePl (places s (ints o))).length (List.map ePl (places s (ints o)))))).length ≤
    (9223372036854775807 : Nat)))
         (.must (decide ((0 : Int) ≤ (12 : Int)) && decide ((12 : Int) ≤ (↑(trailer e (↑o.length : Int) s (0 : Int)).length : Int)))
          (.must (decide
  ((endMark v (IntKind.i64.wrap (b + (↑o.length : Int))) ++
          placesText
            (pls (List.take (List.map ePl (places s (ints o))).length (List.map ePl (places s (ints o)))))).length +
      (List.drop (0 : Nat) (List.take (Int.toNat (12 : Int)) (trailer e (↑o.length : Int) s (0 : Int)))).length ≤
    (9223372036854775807 : Nat)))
           (.must (decide
  ((endMark v (IntKind.i64.wrap (b + (↑o.length : Int))) ++
          placesText (pls (List.take (List.map ePl (places s (ints o))).length (List.map ePl (places s (ints o))))) ++
        List.drop (0 : Nat) (List.take (Int.toNat (12 : Int)) (trailer e (↑o.length : Int) s (0 : Int)))).length ≤
    (281474976710656 : Nat)))
            (.must (decide
  ((endMark v (IntKind.i64.wrap (b + (↑o.length : Int)))).length +
      (placesText
          (pls (List.take (List.map ePl (places s (ints o))).length (List.map ePl (places s (ints o)))))).length ≤
    (9223372036854775807 : Nat)))
             (.must (inB e (-9223372036854775808 : Int) (9223372036854775807 : Int) &&
  (inB (↑o.length : Int) (-9223372036854775808 : Int) (9223372036854775807 : Int) &&
    (inB s (-9223372036854775808 : Int) (9223372036854775807 : Int) &&
      inB
        (Int.ofNat
          (crcMore (0 : Nat)
            (endMark v (IntKind.i64.wrap (b + (↑o.length : Int))) ++
                placesText
                  (pls (List.take (List.map ePl (places s (ints o))).length (List.map ePl (places s (ints o))))) ++
              List.drop (0 : Nat) (List.take (Int.toNat (12 : Int)) (trailer e (↑o.length : Int) s (0 : Int))))))
        (-9223372036854775808 : Int) (9223372036854775807 : Int))))
              (.must (decide
  ((endMark v (IntKind.i64.wrap (b + (↑o.length : Int))) ++
          placesText
            (pls (List.take (List.map ePl (places s (ints o))).length (List.map ePl (places s (ints o)))))).length +
      (trailer e (↑o.length : Int) s
          (Int.ofNat
            (crcMore (0 : Nat)
              (endMark v (IntKind.i64.wrap (b + (↑o.length : Int))) ++
                  placesText
                    (pls (List.take (List.map ePl (places s (ints o))).length (List.map ePl (places s (ints o))))) ++
                List.drop (0 : Nat)
                  (List.take (Int.toNat (12 : Int)) (trailer e (↑o.length : Int) s (0 : Int))))))).length ≤
    (9223372036854775807 : Nat)))
               (.ret [C.str
    (endMark v (IntKind.i64.wrap (b + (↑o.length : Int))) ++
        placesText (pls (List.take (List.map ePl (places s (ints o))).length (List.map ePl (places s (ints o))))) ++
      trailer e (↑o.length : Int) s
        (Int.ofNat
          (crcMore (0 : Nat)
            (endMark v (IntKind.i64.wrap (b + (↑o.length : Int))) ++
                placesText
                  (pls (List.take (List.map ePl (places s (ints o))).length (List.map ePl (places s (ints o))))) ++
              List.drop (0 : Nat) (List.take (Int.toNat (12 : Int)) (trailer e (↑o.length : Int) s (0 : Int)))))))])))))))))))))))
 (.ret [C.str []])) : T (List C)).eval := evalEq (by kernel_rfl)
theorem longCl_tree (H : List Pt → Nat → St → T (List C)) (r : List UInt8) : (vBodyL E_longCl noInl (sg [pS] [rB]) Tryz.f220 H [C.str r]).eval =
 ((.ask (decide ((60 : Int) < (↑r.length : Int)))
 (.ret [C.bool true])
 (.ret [C.bool false])) : T (List C)).eval := evalEq (by kernel_rfl)
theorem ixLongF_tree (H : List Pt → Nat → St → T (List C)) (r : List (List C)) : (vBodyL E_ixLongF noInl (sg [pSlS, pF] [rI]) Tryz.f214 H [C.sl r, C.fn (220 : FuncId) []]).eval =
 ((H [Pt.r, Pt.l, Pt.r, Pt.b] (9223372036854775808 : Nat) (H_ixLongF (r) ((↑r.length : Int)) ((0 : Int)))) : T (List C)).eval := evalEq (by kernel_rfl)
theorem anyLongF_tree (H : List Pt → Nat → St → T (List C)) (r : List (List C)) : (vBodyL E_anyLongF noInl (sg [pSlS, pF] [rB]) Tryz.f219 H [C.sl r, C.fn (220 : FuncId) []]).eval =
 ((.must (decide ((220 : FuncId) = (220 : FuncId)) && recsOk r)
 (.ask (decide ((0 : Int) ≤ ixLong (strs r)))
  (.ret [C.bool true])
  (.ret [C.bool false]))) : T (List C)).eval := evalEq (by kernel_rfl)
theorem iSeal_tree (H : List Pt → Nat → St → T (List C)) (v : Int) (s : Int) (b : Int) (l : Int) (r : List (List C)) : (vBodyL E_iSeal (natI bldB) { params := [pHead, pSlS], results := [rS], nested := true } Tryz.f176 H
  [C.int IntKind.i64 v, C.int IntKind.i64 s, C.int IntKind.i64 b, C.int IntKind.i64 l, C.sl r]).eval =
 ((.ask (headOk v s b l)
 (.ask (decide ((1000 : Int) < (↑r.length : Int)))
  (.ret [C.str []])
  (.ask (inB (IntKind.i64.wrap (b + (↑r.length : Int))) (0 : Int) (1000000000 : Int))
   (.must (decide ((220 : Nat) = (220 : FuncId)) && recsOk r)
    (.ask (anyLong (strs r))
     (.ret [C.str []])
     (.must (decide ((0 : Nat) + (headText v s b l).length ≤ (140737488355328 : Nat)) &&
  decide ((0 : Nat) < (0 : Nat) + (headText v s b l).length))
      (H [Pt.r, Pt.r, Pt.r, Pt.r, Pt.r, Pt.l, Pt.r, Pt.b] (9223372036854775808 : Nat) (H_iSeal (v) (s) (b) (l) (r) ([] ++ headText v s b l) ((0 : Nat)) ([]) ((0 : Int)))))))
   (.ret [C.str []])))
 (.ret [C.str []])) : T (List C)).eval := evalEq (by kernel_rfl)
theorem ixLongF_round0 (H : List Pt → Nat → St → T (List C)) (r : List (List C)) (n : Int) (i : Int) (k : Nat) : (vRound E_ixLongF noInl (sg [pSlS, pF] [rI]) Tryz.f214 H [Pt.r, Pt.l, Pt.r, Pt.b] k (H_ixLongF r n i)).eval =
 ((.ask (decide (i < n))
 (.must (decide ((0 : Int) ≤ i) && decide (i < (↑r.length : Int)) && decide ((r.getD i.toNat []).length = (1 : Nat)))
  (.must (decide ((0 : Nat) < (r.getD i.toNat []).length) &&
    C.is K.str ((r.getD i.toNat []).getD (0 : Nat) (C.fn (0 : FuncId) [])) &&
  true)
   (.must (decide (((r.getD i.toNat []).getD (0 : Nat) (C.fn (0 : FuncId) [])).toStr.length ≤ (281474976710656 : Nat)))
    (.ask (decide ((60 : Nat) < ((r.getD i.toNat []).getD (0 : Nat) (C.fn (0 : FuncId) [])).toStr.length))
     (.ret [C.int IntKind.i64 i])
     (H [Pt.r, Pt.l, Pt.r, Pt.b] k (H_ixLongF (r) (n) (IntKind.i64.wrap (i + (1 : Int)))))))))
 (.ret [C.int IntKind.i64 (-1 : Int)])) : T (List C)).eval := evalEq (by kernel_rfl)
theorem iSeal_round0 (H : List Pt → Nat → St → T (List C)) (v : Int) (s : Int) (b : Int) (l : Int) (r : List (List C)) (t : List UInt8) (q : Nat) (o : List (List C)) (j : Int) (k : Nat) : (vRound E_iSeal (natI bldB) { params := [pHead, pSlS], results := [rS], nested := true } Tryz.f176 H
  [Pt.r, Pt.r, Pt.r, Pt.r, Pt.r, Pt.l, Pt.r, Pt.b] k (H_iSeal v s b l r t q o j)).eval =
 ((.ask (decide (j < (↑r.length : Int)))
 (.must (decide ((0 : Int) ≤ j) && decide (j < (↑r.length : Int)) && decide ((r.getD j.toNat []).length = (1 : Nat)))
  (.must (decide ((0 : Nat) < (r.getD j.toNat []).length) &&
    C.is K.str ((r.getD j.toNat []).getD (0 : Nat) (C.fn (0 : FuncId) [])) &&
  true)
   (.must (decide (q = o.length) && roomy (o.length + (1 : Nat)) (8 : Nat) && (decide ((1 : Nat) = (1 : Nat)) && true))
    (.must (decide (((r.getD j.toNat []).getD (0 : Nat) (C.fn (0 : FuncId) [])).toStr.length ≤ (281474976710656 : Nat)))
     (.must (decide
    (t.length +
        (frameText v (IntKind.i64.wrap (b + j))
            ((r.getD j.toNat []).getD (0 : Nat) (C.fn (0 : FuncId) [])).toStr).length ≤
      (140737488355328 : Nat)) &&
  decide
    ((0 : Nat) <
      t.length +
        (frameText v (IntKind.i64.wrap (b + j))
            ((r.getD j.toNat []).getD (0 : Nat) (C.fn (0 : FuncId) [])).toStr).length))
      (H [Pt.r, Pt.r, Pt.r, Pt.r, Pt.r, Pt.l, Pt.r, Pt.b] k (H_iSeal (v) (s) (b) (l) (r) (t ++ frameText v (IntKind.i64.wrap (b + j)) ((r.getD j.toNat []).getD (0 : Nat) (C.fn (0 : FuncId) [])).toStr) (o.length + (1 : Nat)) (o.append [[C.int IntKind.i64 (↑t.length : Int)]]) (IntKind.i64.wrap (j + (1 : Int))))))))))
 (.must (decide ¬(5 : TypeId) = (0 : TypeId) && decide ((0 : Nat) < t.length))
  (.must (rowsOk [K.int IntKind.i64] (List.take q o) &&
  (decide ((List.take q o).length ≤ (1048576 : Nat)) &&
    (inB (↑t.length : Int) (-9223372036854775808 : Int) (9223372036854775807 : Int) && (ints (List.take q o)).all okI)))
   (.must (decide (t.length + (footText v s b l (ints (List.take q o)) (↑t.length : Int)).length ≤ (9223372036854775807 : Nat)))
    (.ret [C.str (t ++ footText v s b l (ints (List.take q o)) (↑t.length : Int))]))))) : T (List C)).eval := evalEq (by kernel_rfl)
end Go.Proofs.YtggmbjbmklimdaaGreatDoor.V

namespace Go.Proofs.YtggmbjbmklimdaaGreatDoor.V

theorem placesTo_gap (s : Int) (os : List Int) (i : Nat) (hs : 1 ≤ s) (hm : (i : Int) % s = 0) : ∀ d : Nat, (d : Int) < s → placesTo s os (i + 1 + d) = placesTo s os (i + 1)
  | 0, _ => rfl
  | d + 1, h => by
    show placesTo s os (i + 1 + d + 1) = _
    rw [placesTo, placesTo_gap s os i hs hm d (by omega)]
    have : ((i + 1 + d : Nat) : Int) % s = (d : Int) + 1 := by
      have e : ((i + 1 + d : Nat) : Int) = (i : Int) + ((d : Int) + 1) := by omega
      rw [e, Int.add_emod, hm, Int.zero_add, Int.emod_emod_of_dvd _ (Int.dvd_refl s), Int.emod_eq_of_lt (by omega) (by omega)]
    rw [this, if_neg (by omega), List.append_nil]
theorem iPlacesOf_loop (s : Int) (os : List Int) (hs : 1 ≤ s) (hl : os.length ≤ 1048576) : ∀ (f n i : Nat), os.length - i ≤ f → i ≤ os.length → (i : Int) % s = 0 → f < n →
    (vLoop E_iPlacesOf noInl (⟨[pI, pSlI], [rSlP], true⟩) Tryz.f267 [.r, .r, .r, .l, .r, .b] n (H_iPlacesOf s (os.map eInt) (placesTo s os i).length ((placesTo s os i).map ePl) i)).eval = some [.sl ((placesTo s os os.length).map ePl)] := by
  intro f
  induction f with
  | zero =>
    intro n i h1 h2 h3 h4
    obtain ⟨n, rfl⟩ : ∃ q, n = q + 1 := ⟨n - 1, by omega⟩
    rw [vLoop_L _ _ _ _ _ _ _ (by kernel_rfl), iPlacesOf_round0]
    have c : ¬ ((i : Int) < (os.length : Int)) := by omega
    have ei : i = os.length := by omega
    simp only [List.length_map, eval_ask', eval_must', eval_ret', decide_eq_true_eq, c, if_false, decide_true, Bool.true_or, Bool.and_self, if_true]
    rw [ei]
  | succ f ih =>
    intro n i h1 h2 h3 h4
    obtain ⟨n, rfl⟩ : ∃ q, n = q + 1 := ⟨n - 1, by omega⟩
    rw [vLoop_L _ _ _ _ _ _ _ (by kernel_rfl), iPlacesOf_round0]
    by_cases c : (i : Int) < (os.length : Int)
    · have hi : i < os.length := by omega
      have z : (0 : Int) ≤ (i : Int) := by omega
      have g := map_getD eInt os 0 i hi
      have pl := placesTo_len s os i
      have ro : roomy ((placesTo s os i).length + 1) 16 = true := by simp only [roomy, decide_eq_true_eq]; omega
      have w : IntKind.i64.wrap ((os.length : Int) - (i : Int)) = (os.length : Int) - i := by rw [wrap64] <;> omega
      have ep : placesTo s os (i + 1) = placesTo s os i ++ [((i : Int), os.getD i 0)] := by simp only [placesTo, h3, if_true]
      simp only [List.length_map, eval_ask', eval_must', eval_ret', decide_eq_true_eq, c, z, Int.toNat_natCast, g, w, ro, hi, if_true, decide_true, Bool.and_true, Bool.true_and, Bool.and_self, List.length_cons, List.length_nil, Nat.zero_add, Nat.zero_lt_one, C.is, beq_self_eq_true, List.getD_cons_zero, C.toInt]
      by_cases hb : (os.length : Int) - i < s
      · have e1 := placesTo_gap s os i hs h3 (os.length - (i + 1)) (by omega)
        rw [show i + 1 + (os.length - (i + 1)) = os.length by omega, ep] at e1
        simp only [hb, if_true]
        rw [e1]
        simp [ePl]
      · obtain ⟨k, rfl⟩ : ∃ k : Nat, s = k := ⟨s.toNat, by omega⟩
        have e1 := placesTo_gap k os i hs h3 (k - 1) (by omega)
        rw [show i + 1 + (k - 1) = i + k by omega, ep] at e1
        have w2 : IntKind.i64.wrap ((i : Int) + (k : Int)) = ((i + k : Nat) : Int) := by rw [wrap64] <;> omega
        have e := ih n (i + k) (by omega) (by omega) (by rw [show ((i + k : Nat) : Int) = (i : Int) + k by omega, Int.add_emod_right]; exact h3) (by omega)
        rw [e1, List.map_append, List.length_append] at e
        simp only [hb, if_false, w2]
        exact e
    · have ei : i = os.length := by omega
      simp only [List.length_map, eval_ask', eval_must', eval_ret', decide_eq_true_eq, c, if_false, decide_true, Bool.true_or, Bool.and_self, if_true]
      rw [ei]
theorem iPlacesOf_E : EnvSound Tryz.prog E_iPlacesOf := mkE_sound (by simp [])
theorem iPlacesOf_sound : Sound Tryz.prog 267 (⟨[pI, pSlI], [rSlP], true⟩) placesOfSpec := vBody_sound iPlacesOf_E noInl_ok Tryz.func267 (by kernel_rfl) fun cs outs hk h => by
  unfold placesOfSpec at h
  split at h
  · simp only [Option.some.injEq, Prod.mk.injEq, Bool.and_eq_true, decide_eq_true_eq] at h
    obtain ⟨⟨h1, h2⟩, rfl⟩ := h
    rename_i s o
    have hr := rows_ints h1
    generalize ints o = os at hr ⊢
    subst hr
    rw [List.length_map] at h2
    rw [vBody_L, iPlacesOf_tree]
    by_cases hs : s < 1
    · have ep : places s os = [] := by unfold places; rw [if_pos hs]
      rw [ep]
      simp only [eval_ask', eval_ret', decide_eq_true_eq, hs, if_true]
      rfl
    · have e := iPlacesOf_loop s os (by omega) h2 os.length 9223372036854775808 0 (by omega) (by omega) (by simp) (by omega)
      have ep : places s os = placesTo s os os.length := by unfold places; rw [if_neg hs]
      rw [ep]
      simp only [eval_ask', decide_eq_true_eq, hs, if_false]
      exact e
  · cases h

theorem u64_mod (x : Int) : IntKind.u64.wrap x = x % 18446744073709551616 := by
  simp only [IntKind.wrap, IntKind.bits, IntKind.signed]
  first
    | rfl
    | simp
theorem varText_big (n : Int) (h : ¬ (0 ≤ n ∧ n ≤ 1000000000)) : varText n = [] := by
  unfold varText
  rw [if_neg (fun hh => h ((in_iff _ _ _).1 hh))]
theorem wrap64_neg (x : Int) (h1 : 9223372036854775807 < x) (h2 : x < 18446744073709551616) : IntKind.i64.wrap x < 0 := by
  simp only [IntKind.wrap, IntKind.bits, IntKind.signed]
  first
    | (split <;> omega)
    | (simp; split <;> omega)
theorem iAbove_E : EnvSound Tryz.prog E_iAbove := mkE_sound (by simp [iVarText_sound])
theorem iAbove_sound : Sound Tryz.prog 285 (sg [pI, pI] [rS]) aboveSpec := vBody_sound iAbove_E noInl_ok Tryz.func285 (by kernel_rfl) fun cs outs hk h => by
  unfold aboveSpec at h
  split at h
  · simp only [Option.some.injEq, Prod.mk.injEq, Bool.and_eq_true, in_iff] at h
    obtain ⟨⟨h1, h2⟩, rfl⟩ := h
    rename_i a b
    rw [vBody_L, iAbove_tree]
    unfold less
    by_cases c : a < b
    · simp only [eval_ask', eval_ret', decide_eq_true_eq, c, if_true, true_or]
      rw [varText_big (-1) (by omega)]
    · have eu : IntKind.u64.wrap (IntKind.u64.wrap a - IntKind.u64.wrap b) = a - b := by
        rw [u64_mod, u64_mod, u64_mod]
        omega
      simp only [eval_ask', eval_ret', decide_eq_true_eq, c, if_false, eu, false_or]
      by_cases d : 1000000000 < a - b
      · rw [if_pos d]
        by_cases e : a - b ≤ 9223372036854775807
        · have w : IntKind.i64.wrap (a - b) = a - b := by rw [wrap64] <;> omega
          rw [w, if_neg (by omega), varText_big (a - b) (by omega)]
        · rw [if_pos (wrap64_neg _ (by omega) (by omega)), varText_big (-1) (by omega)]
      · have w : IntKind.i64.wrap (a - b) = a - b := by rw [wrap64] <;> omega
        rw [if_neg d, w, if_neg (by omega)]
  · cases h

theorem iPlacesText_loop (l : List Pl) (hl : l.length ≤ 1048576) (ho : ∀ p ∈ l, plOk p = true) : ∀ (f n i : Nat) (q : Pl) (t : List UInt8), i + f = l.length → f < n → t.length ≤ 5 + 10 * i → 0 < t.length → plOk q = true →
    (vLoop E_iPlacesText (natI bldB) (⟨[pSlP], [rS], true⟩) Tryz.f266 [.r, .r, .r, .r, .l, .r, .b] n (H_iPlacesText (l.map ePl) t q.1 q.2 i)).eval = some [.str (match ptGo q (l.drop i) with | some x => t ++ x | none => [])] := by
  intro f
  induction f with
  | zero =>
    intro n i q t h1 h2 h3 h4 h5
    obtain ⟨n, rfl⟩ : ∃ q, n = q + 1 := ⟨n - 1, by omega⟩
    rw [vLoop_L _ _ _ _ _ _ _ (by kernel_rfl), iPlacesText_round0]
    have c : ¬ ((i : Int) < (l.length : Int)) := by omega
    have hd : l.drop i = [] := List.drop_eq_nil_of_le (by omega)
    have n0 : ¬ ((5 : TypeId) = 0) := by decide
    simp only [List.length_map, eval_ask', eval_must', eval_ret', decide_eq_true_eq, c, if_false, hd, ptGo, List.append_nil, n0, not_false_eq_true, h4, decide_true, Bool.and_self, if_true]
  | succ f ih =>
    intro n i q t h1 h2 h3 h4 h5
    obtain ⟨n, rfl⟩ : ∃ q, n = q + 1 := ⟨n - 1, by omega⟩
    rw [vLoop_L _ _ _ _ _ _ _ (by kernel_rfl), iPlacesText_round0]
    have hi : i < l.length := by omega
    have c : (i : Int) < (l.length : Int) := by omega
    have z : (0 : Int) ≤ (i : Int) := by omega
    have g := map_getD ePl l (0, 0) i hi
    have hd := drop_cons l i (0, 0) hi
    have hm : l.getD i (0, 0) ∈ l := by rw [List.getD_eq_getElem?_getD, List.getElem?_eq_getElem hi]; exact List.getElem_mem hi
    have hp := ho _ hm
    generalize l.getD i (0, 0) = p at g hd hp
    have w : IntKind.i64.wrap ((i : Int) + 1) = ((i + 1 : Nat) : Int) := by rw [wrap64] <;> omega
    have v1 := varText_len (less p.1 q.1)
    have v2 := varText_len (less p.2 q.2)
    have hp' := hp
    have h5' := h5
    unfold plOk at hp' h5'
    simp only [Bool.and_eq_true] at hp' h5'
    have m1 : (varText (less p.1 q.1)).length + (varText (less p.2 q.2)).length ≤ 9223372036854775807 := by omega
    have m2 : t.length + ((varText (less p.1 q.1)).length + (varText (less p.2 q.2)).length) ≤ 140737488355328 := by omega
    have m3 : 0 < t.length + ((varText (less p.1 q.1)).length + (varText (less p.2 q.2)).length) := by omega
    have e := ih n (i + 1) p (t ++ (varText (less p.1 q.1) ++ varText (less p.2 q.2))) (by omega) (by omega) (by simp only [List.length_append]; omega) (by simp only [List.length_append]; omega) hp
    rw [hd]
    simp only [List.length_map, eval_ask', eval_must', eval_ret', decide_eq_true_eq, c, z, Int.toNat_natCast, g, w, if_true, decide_true, Bool.and_true, Bool.true_and, Bool.and_self, ePl, List.length_cons, List.length_nil, C.is, beq_self_eq_true, List.getD_cons_zero, List.getD_cons_succ, C.toInt, Nat.zero_add, Nat.reduceAdd, Nat.reduceLT, beq_iff_eq, List.length_append, m1, m2, m3, hp'.1, hp'.2, h5'.1, h5'.2, ptGo]
    by_cases a1 : varText (less p.1 q.1) = []
    · simp only [a1, true_or, if_true]
    · by_cases a2 : varText (less p.2 q.2) = []
      · simp only [a1, a2, or_true, if_true, if_false]
      · simp only [a1, a2, or_self, if_false]
        refine e.trans ?_
        cases ptGo p (l.drop (i + 1)) with
        | none => rfl
        | some x => simp only [Option.map_some, List.append_assoc]
theorem varText_ne (n : Nat) (h : n ≤ 1000000000) : 0 < (varText (n : Int)).length := by
  unfold varText
  rw [if_pos ((in_iff _ _ _).2 ⟨by omega, by omega⟩)]
  unfold varBytes
  split <;> simp
theorem iPlacesText_E : EnvSound Tryz.prog E_iPlacesText := mkB_sound (by simp [iVarText_sound, iAbove_sound])
theorem iPlacesText_sound : Sound Tryz.prog 266 (⟨[pSlP], [rS], true⟩) placesTextISpec := vBody_sound iPlacesText_E (natI_ok bldLaws) Tryz.func266 (by kernel_rfl) fun cs outs hk h => by
  unfold placesTextISpec at h
  split at h
  · simp only [Option.some.injEq, Prod.mk.injEq, Bool.and_eq_true, decide_eq_true_eq, List.all_eq_true] at h
    obtain ⟨⟨h1, h2, h3⟩, rfl⟩ := h
    rename_i r
    have hr := rows_pls h1
    generalize pls r = l at hr h3 ⊢
    subst hr
    rw [List.length_map] at h2
    rw [vBody_L, iPlacesText_tree, List.length_map]
    have v1 := varText_len (l.length : Int)
    have v0 := varText_ne l.length (by omega)
    have e := iPlacesText_loop l h2 h3 l.length 9223372036854775808 0 (0, 0) (varText (l.length : Int)) (by omega) (by omega) (by omega) v0 (by decide)
    have m1 : 0 + (varText (l.length : Int)).length ≤ 140737488355328 := by omega
    have m2 : 0 < 0 + (varText (l.length : Int)).length := by omega
    rw [eval_must', if_pos (by rw [decide_eq_true m1, decide_eq_true m2]; rfl)]
    exact e
  · cases h

theorem iTrailer_loop (a b c d : Int) (hx : ∀ i, i < 4 → -9223372036854775808 ≤ ([a, b, c, d] : List Int).getD i 0 ∧ ([a, b, c, d] : List Int).getD i 0 ≤ 9223372036854775807) : ∀ (f n i : Nat) (t : List UInt8), i + f = 4 → f < n → t.length ≤ 8 * i →
    (vLoop E_iTrailer noInl (sg [pI, pI, pI, pI] [rS]) Tryz.f268 [.r, .r, .l, .r, .b] n (H_iTrailer t a b c d i)).eval = some [.str (trGo (([a, b, c, d] : List Int).drop i) t)] := by
  intro f
  induction f with
  | zero =>
    intro n i t h1 h2 h3
    obtain ⟨n, rfl⟩ : ∃ q, n = q + 1 := ⟨n - 1, by omega⟩
    rw [vLoop_L _ _ _ _ _ _ _ (by kernel_rfl), iTrailer_round0]
    have c4 : ¬ ((i : Int) < ((4 : Nat) : Int)) := by omega
    have hd : ([a, b, c, d] : List Int).drop i = [] := List.drop_eq_nil_of_le (by simp; omega)
    have m : t.length + 4 ≤ 9223372036854775807 := by omega
    simp only [eval_ask', eval_must', eval_ret', decide_eq_true_eq, c4, if_false, hd, trGo, m, if_true]
  | succ f ih =>
    intro n i t h1 h2 h3
    obtain ⟨n, rfl⟩ : ∃ q, n = q + 1 := ⟨n - 1, by omega⟩
    rw [vLoop_L _ _ _ _ _ _ _ (by kernel_rfl), iTrailer_round0]
    have hi : i < 4 := by omega
    have c4 : (i : Int) < ((4 : Nat) : Int) := by omega
    have z : (0 : Int) ≤ (i : Int) := by omega
    have g := four_at a b c d i hi
    have hd := drop_cons ([a, b, c, d] : List Int) i 0 hi
    have hx1 := hx i hi
    generalize ([a, b, c, d] : List Int).getD i 0 = x at g hd hx1
    have w : IntKind.i64.wrap ((i : Int) + 1) = ((i + 1 : Nat) : Int) := by rw [wrap64] <;> omega
    have v1 := fixOf_len x 4
    have m1 : t.length + (fixOf x 4).length ≤ 9223372036854775807 := by omega
    have e := ih n (i + 1) (t ++ fixOf x 4) (by omega) (by omega) (by simp only [List.length_append]; omega)
    have k1 : i < (((Nat.add 1 0).succ.add 0).succ.add 0).succ := by show i < 4; omega
    rw [hd]
    simp only [eval_ask', eval_must', eval_ret', decide_eq_true_eq, c4, z, Int.toNat_natCast, k1, g, w, if_true, decide_true, Bool.and_true, Bool.true_and, Bool.and_self, List.length_cons, List.length_nil, C.is, beq_self_eq_true, List.getD_cons_zero, C.toInt, Nat.zero_add, Nat.zero_lt_one, hx1.1, hx1.2, beq_iff_eq, m1, trGo]
    by_cases a1 : fixOf x 4 = []
    · simp only [a1, if_true]
    · simp only [a1, if_false]
      exact e
theorem iTrailer_E : EnvSound Tryz.prog E_iTrailer := mkE_sound (by simp [iFixText_sound])
theorem iTrailer_sound : Sound Tryz.prog 268 (sg [pI, pI, pI, pI] [rS]) trailerSpec := vBody_sound iTrailer_E noInl_ok Tryz.func268 (by kernel_rfl) fun cs outs hk h => by
  unfold trailerSpec at h
  split at h
  · simp only [Option.some.injEq, Prod.mk.injEq, Bool.and_eq_true, in_iff] at h
    obtain ⟨⟨ha, hb, hc, hd⟩, rfl⟩ := h
    rename_i a b c d
    rw [vBody_L, iTrailer_tree]
    exact iTrailer_loop a b c d (fun i hi => by
      match i, hi with
      | 0, _ => exact ha
      | 1, _ => exact hb
      | 2, _ => exact hc
      | 3, _ => exact hd) 4 9223372036854775808 0 [] (by omega) (by omega) (by simp)
  · cases h

theorem placesTo_mem (s : Int) (os : List Int) : ∀ (i : Nat) (p : Pl), p ∈ placesTo s os i → ∃ j, j < i ∧ p = ((j : Int), os.getD j 0)
  | 0, p, h => by simp [placesTo] at h
  | i + 1, p, h => by
    simp only [placesTo, List.mem_append] at h
    rcases h with h | h
    · obtain ⟨j, h1, h2⟩ := placesTo_mem s os i p h
      exact ⟨j, by omega, h2⟩
    · split at h
      · simp only [List.mem_singleton] at h
        exact ⟨i, by omega, h⟩
      · simp at h
theorem places_mem (s : Int) (os : List Int) (p : Pl) (h : p ∈ places s os) : ∃ j, j < os.length ∧ p = ((j : Int), os.getD j 0) := by
  unfold places at h
  split at h
  · simp at h
  · exact placesTo_mem s os _ p h
theorem places_ok (s : Int) (os : List Int) (hl : os.length ≤ 1048576) (h : os.all okI = true) : (places s os).all plOk = true := by
  simp only [List.all_eq_true] at h ⊢
  intro p hp
  obtain ⟨j, hj, rfl⟩ := places_mem s os p hp
  have hm : os.getD j 0 ∈ os := by rw [List.getD_eq_getElem?_getD, List.getElem?_eq_getElem hj]; exact List.getElem_mem hj
  unfold plOk
  simp only [Bool.and_eq_true]
  exact ⟨(in_iff _ _ _).2 ⟨by omega, by omega⟩, h _ hm⟩
theorem iFoot_E : EnvSound Tryz.prog E_iFoot := mkE_sound (by simp [iSumOf_sound, iHeadOk_sound, iEndMark_sound, iPlacesOf_sound, iPlacesText_sound, iTrailer_sound])
theorem iFoot_sound : Sound Tryz.prog 223 (⟨[pHead, pSlI, pI], [rS], true⟩) footISpec := vBody_sound iFoot_E noInl_ok Tryz.func223 (by kernel_rfl) fun cs outs hk h => by
  unfold footISpec at h
  split at h
  · simp only [Option.some.injEq, Prod.mk.injEq, Bool.and_eq_true, decide_eq_true_eq, in_iff] at h
    obtain ⟨⟨h1, h2, h3, h4⟩, rfl⟩ := h
    rename_i v s b l o e
    have hr := rows_ints h1
    rw [vBody_L, iFoot_tree]
    generalize ints o = os at hr h4 ⊢
    subst hr
    simp only [List.length_map] at h1 h2 ⊢
    by_cases hh : headOk v s b l = true
    · obtain ⟨hv, hs, hb, hl⟩ := (headOk_iff v s b l).1 hh
      have w : IntKind.i64.wrap (b + (os.length : Int)) = b + os.length := by rw [wrap64] <;> omega
      have pl := places_len s os
      have tk : List.take (places s os).length (List.map ePl (places s os)) = List.map ePl (places s os) := List.take_of_length_le (by simp)
      have i1 : inB e (-9223372036854775808) 9223372036854775807 = true := (in_iff _ _ _).2 h3
      have i2 : inB (os.length : Int) (-9223372036854775808) 9223372036854775807 = true := (in_iff _ _ _).2 ⟨by omega, by omega⟩
      have i3 : inB s (-9223372036854775808) 9223372036854775807 = true := (in_iff _ _ _).2 ⟨by omega, by omega⟩
      have i4 : inB 0 (-9223372036854775808) 9223372036854775807 = true := rfl
      have l1 := endMark_len v (b + os.length)
      have l2 := placesText_len (places s os)
      have p1 : (places s os).length ≤ 1048576 := by omega
      have p2 : (places s os).all plOk = true := places_ok s os (by omega) h4
      simp only [eval_ask', eval_must', eval_ret', hh, if_true, w, tk, p2, pls_map, len2_pl, rowsOk_pls, h1, h2, i1, i2, i3, i4, List.length_map, p1, decide_true, Bool.and_self, Bool.true_and, beq_iff_eq, List.drop_zero]
      unfold footText
      by_cases c1 : endMark v (b + os.length) = []
      · rw [if_pos c1, if_pos (.inr (.inl c1))]
      · by_cases c2 : placesText (places s os) = []
        · rw [if_neg c1, if_pos c2, if_pos (.inr (.inr (.inl c2)))]
        · by_cases c3 : trailer e os.length s 0 = []
          · rw [if_neg c1, if_neg c2, if_pos c3, if_pos (.inr (.inr (.inr c3)))]
          · have t20 : (trailer e os.length s 0).length = 20 := by
              rcases trailer_len e os.length s 0 with h | h
              · exact absurd h c3
              · exact h
            have hn : ¬ (headOk v s b l = false ∨ endMark v (b + os.length) = [] ∨ placesText (places s os) = [] ∨ trailer e os.length s 0 = []) := by
              intro h
              rcases h with h | h | h | h
              · rw [hh] at h; cases h
              · exact c1 h
              · exact c2 h
              · exact c3 h
            rw [if_neg c1, if_neg c2, if_neg c3, if_neg hn]
            have t12 : Int.toNat 12 = 12 := rfl
            have d0 : List.drop 0 (List.take 12 (trailer e os.length s 0)) = List.take 12 (trailer e os.length s 0) := rfl
            have cl := crcMore_lt 0 (endMark v (b + os.length) ++ placesText (places s os) ++ (trailer e os.length s 0).take 12) (by omega)
            have i5 : ∀ z : Nat, z < 4294967296 → inB (Int.ofNat z) (-9223372036854775808) 9223372036854775807 = true := fun z hz => (in_iff _ _ _).2 ⟨by show _ ≤ (z : Int); omega, by show (z : Int) ≤ _; omega⟩
            have l3 := trailer_le e os.length s (Int.ofNat (crcMore 0 (endMark v (b + os.length) ++ placesText (places s os) ++ (trailer e os.length s 0).take 12)))
            rw [t12]
            rw [if_pos (decide_eq_true (by omega)), if_pos (by rw [t20]; rfl), if_pos (decide_eq_true (by simp only [List.length_append, List.length_take]; omega)), if_pos (decide_eq_true (by simp only [List.length_append, List.length_take]; omega)), if_pos (decide_eq_true (by omega)), if_pos (i5 _ cl), if_pos (decide_eq_true (by simp only [List.length_append]; omega))]
            rfl
    · have hh' : headOk v s b l = false := by simpa using hh
      simp only [eval_ask', eval_ret', hh, Bool.false_eq_true, if_false]
      unfold footText
      rw [if_pos (.inl hh')]
  · cases h

theorem longCl_E : EnvSound Tryz.prog E_longCl := mkE_sound (by simp [])
theorem longCl_sound : Sound Tryz.prog 220 (sg [pS] [rB]) longClSpec := vBody_sound longCl_E noInl_ok Tryz.func220 (by kernel_rfl) fun cs outs hk h => by
  unfold longClSpec at h
  split at h
  · simp only [Option.some.injEq, Prod.mk.injEq, decide_eq_true_eq] at h
    obtain ⟨h1, rfl⟩ := h
    rename_i r
    rw [vBody_L, longCl_tree]
    by_cases c : 60 < r.length
    · have c' : (60 : Int) < (r.length : Int) := by omega
      simp only [eval_ask', eval_ret', decide_eq_true_eq, c, c', if_true, decide_true]
    · have c' : ¬ (60 : Int) < (r.length : Int) := by omega
      simp only [eval_ask', eval_ret', decide_eq_true_eq, c, c', if_false, decide_false, Bool.false_eq_true]
  · cases h
theorem recsOk_iff (rows : List (List C)) : recsOk rows = true ↔ rowsOk [.str] rows = true ∧ rows.length ≤ 1048576 ∧ ∀ r ∈ strs rows, r.length ≤ 1048576 := by
  simp only [recsOk, Bool.and_eq_true, decide_eq_true_eq, List.all_eq_true]
theorem ixLongF_loop (l : List (List UInt8)) (hl : l.length ≤ 1048576) (hr : ∀ r ∈ l, r.length ≤ 1048576) : ∀ (n i : Nat), i ≤ l.length → l.length < i + n →
    (vLoop E_ixLongF noInl (sg [pSlS, pF] [rI]) Tryz.f214 [.r, .l, .r, .b] n (H_ixLongF (l.map eStr) l.length i)).eval = some [.int .i64 (idxGo isLong (l.drop i) i)] := by
  intro n
  induction n with
  | zero => intro i h1 h2; omega
  | succ n ih =>
    intro i h1 h2
    rw [vLoop_L _ _ _ _ _ _ _ (by kernel_rfl), ixLongF_round0]
    by_cases hi : i < l.length
    · have g := map_getD eStr l [] i hi
      have w : IntKind.i64.wrap ((i : Int) + 1) = ((i + 1 : Nat) : Int) := by rw [wrap64] <;> omega
      have hz : (0 : Int) ≤ i := by omega
      have hi' : (i : Int) < l.length := by omega
      have hm : l.getD i [] ∈ l := by rw [List.getD_eq_getElem?_getD, List.getElem?_eq_getElem hi]; exact List.getElem_mem hi
      have hx := hr _ hm
      rw [drop_cons l i [] hi]
      generalize l.getD i [] = y at g hx ⊢
      have hx' : y.length ≤ 281474976710656 := by omega
      simp only [eval_must', eval_ask', eval_ret', if_true, decide_eq_true_eq, Bool.and_eq_true, w, hz, hi', Int.toNat_natCast, List.length_map, g, and_self, List.getD_cons_zero, List.getD_cons_succ, C.toStr, C.toInt, C.is, List.length_cons, List.length_nil, Nat.zero_add, Nat.reduceAdd, Nat.reduceLT, decide_true, beq_self_eq_true, hx', idxGo, isLong]
      by_cases hy : 60 < y.length
      · simp only [hy, if_true]
      · simp only [hy, if_false]
        exact ih (i + 1) (by omega) (by omega)
    · have e : i = l.length := by omega
      subst e
      have hi' : ¬ ((l.length : Int) < (l.length : Int)) := by omega
      simp only [eval_ask', eval_ret', decide_eq_true_eq, hi', if_false, List.drop_length, idxGo]
theorem ixLongF_E : EnvSound Tryz.prog E_ixLongF := mkE_sound (by simp [longCl_sound])
theorem ixLongF_sound : Sound Tryz.prog 214 (sg [pSlS, pF] [rI]) ixLongSpec := vBody_sound ixLongF_E noInl_ok Tryz.func214 (by kernel_rfl) fun cs outs hk h => by
  unfold ixLongSpec at h
  split at h
  · simp only [Option.some.injEq, Prod.mk.injEq, Bool.and_eq_true, decide_eq_true_eq] at h
    obtain ⟨⟨rfl, h1⟩, rfl⟩ := h
    rename_i rows
    obtain ⟨h1, h2, h3⟩ := (recsOk_iff _).1 h1
    have hr := rows_strs h1
    generalize strs rows = l at hr h3 ⊢
    subst hr
    rw [List.length_map] at h2
    rw [vBody_L, ixLongF_tree]
    have := ixLongF_loop l h2 h3 9223372036854775808 0 (by omega) (by omega)
    rw [show (l.length : Int) = ((l.map eStr).length : Int) by rw [List.length_map]] at this
    exact this
  · cases h
theorem anyLongF_E : EnvSound Tryz.prog E_anyLongF := mkE_sound (by simp [ixLongF_sound])
theorem anyLongF_sound : Sound Tryz.prog 219 (sg [pSlS, pF] [rB]) anyLongSpec := vBody_sound anyLongF_E noInl_ok Tryz.func219 (by kernel_rfl) fun cs outs hk h => by
  unfold anyLongSpec at h
  split at h
  · simp only [Option.some.injEq, Prod.mk.injEq, Bool.and_eq_true, decide_eq_true_eq] at h
    obtain ⟨⟨rfl, h1⟩, rfl⟩ := h
    rename_i rows
    rw [vBody_L, anyLongF_tree]
    unfold anyLong
    simp only [eval_ask', eval_must', eval_ret', h1, decide_true, Bool.and_self, if_true]
    by_cases c : 0 ≤ ixLong (strs rows) <;> simp [c]
  · cases h
theorem isLong_iff : ∀ (l : List (List UInt8)) (i : Nat), idxGo isLong l i = -1 ↔ ∀ r ∈ l, ¬ 60 < r.length
  | [], i => by simp [idxGo]
  | x :: l, i => by
    simp only [idxGo, List.mem_cons, forall_eq_or_imp]
    by_cases c : 60 < x.length
    · have e : isLong x = true := by unfold isLong; exact decide_eq_true c
      rw [if_pos e]
      exact ⟨fun h => by omega, fun h => absurd c h.1⟩
    · have e : ¬ isLong x = true := by unfold isLong; simpa using c
      rw [if_neg e, isLong_iff l (i + 1)]
      exact ⟨fun h => ⟨c, h⟩, fun h => h.2⟩
theorem anyLong_no {l : List (List UInt8)} (h : anyLong l = false) : ∀ r ∈ l, r.length ≤ 60 := by
  unfold anyLong ixLong at h
  have h0 : ¬ 0 ≤ idxGo isLong l 0 := by simpa using h
  rcases idxGo_shift isLong l 0 with e | e
  · intro r hr; have := (isLong_iff l 0).1 e r hr; omega
  · omega
theorem anyLong_yes {l : List (List UInt8)} (h : anyLong l = true) : ∃ r ∈ l, 60 < r.length := by
  unfold anyLong ixLong at h
  have h0 : 0 ≤ idxGo isLong l 0 := by simpa using h
  refine Classical.byContradiction fun hn => ?_
  have : idxGo isLong l 0 = -1 := (isLong_iff l 0).2 fun r hr hc => hn ⟨r, hr, hc⟩
  omega
theorem sealGo_long (v b : Int) : ∀ (l : List (List UInt8)) (i : Int) (t : List UInt8) (os : List Int), (∃ r ∈ l, 60 < r.length) → sealGo v b i l t os = none
  | [], i, t, os, h => by obtain ⟨r, hr, _⟩ := h; cases hr
  | x :: l, i, t, os, h => by
    simp only [sealGo]
    by_cases c : 60 < x.length
    · rw [if_pos c]
    · rw [if_neg c]
      refine sealGo_long v b l _ _ _ ?_
      obtain ⟨r, hr, h60⟩ := h
      rcases List.mem_cons.1 hr with rfl | hr
      · exact absurd h60 c
      · exact ⟨r, hr, h60⟩
theorem iSeal_loop (v s b l : Int) (rs : List (List UInt8)) (hb : 0 ≤ b ∧ b ≤ 1000000000) (hl : rs.length ≤ 1000) (h60 : ∀ r ∈ rs, r.length ≤ 60) : ∀ (f n i : Nat) (t : List UInt8) (os : List Int), i + f = rs.length → f < n → os.length = i → t.length ≤ 60 + 90 * i → 0 < t.length → os.all okI = true →
    (vLoop E_iSeal (natI bldB) (⟨[pHead, pSlS], [rS], true⟩) Tryz.f176 [.r, .r, .r, .r, .r, .l, .r, .b] n (H_iSeal v s b l (rs.map eStr) t os.length (os.map eInt) i)).eval = some [.str (match sealGo v b i (rs.drop i) t os with | some (t', os') => t' ++ footText v s b l os' t'.length | none => [])] := by
  intro f
  induction f with
  | zero =>
    intro n i t os h1 h2 h3 h4 h5 h6
    obtain ⟨n, rfl⟩ : ∃ q, n = q + 1 := ⟨n - 1, by omega⟩
    rw [vLoop_L _ _ _ _ _ _ _ (by kernel_rfl), iSeal_round0]
    have c : ¬ ((i : Int) < (rs.length : Int)) := by omega
    have hd : rs.drop i = [] := List.drop_eq_nil_of_le (by omega)
    have tk : List.take os.length (os.map eInt) = os.map eInt := List.take_of_length_le (by simp)
    have i1 : inB (t.length : Int) (-9223372036854775808) 9223372036854775807 = true := (in_iff _ _ _).2 ⟨by omega, by omega⟩
    have fl := footText_le v s b l os t.length
    have o1 : os.length ≤ 1048576 := by omega
    have m1 : t.length + (footText v s b l os t.length).length ≤ 9223372036854775807 := by omega
    have n0 : ¬ ((5 : TypeId) = 0) := by decide
    simp only [List.length_map, eval_ask', eval_must', eval_ret', decide_eq_true_eq, c, if_false, hd, sealGo, tk, ints_map, rowsOk_ints, i1, o1, m1, h5, h6, n0, not_false_eq_true, decide_true, Bool.and_self, if_true]
  | succ f ih =>
    intro n i t os h1 h2 h3 h4 h5 h6
    obtain ⟨n, rfl⟩ : ∃ q, n = q + 1 := ⟨n - 1, by omega⟩
    rw [vLoop_L _ _ _ _ _ _ _ (by kernel_rfl), iSeal_round0]
    have hi : i < rs.length := by omega
    have c : (i : Int) < (rs.length : Int) := by omega
    have z : (0 : Int) ≤ (i : Int) := by omega
    have g := map_getD eStr rs [] i hi
    have hd := drop_cons rs i [] hi
    have hm : rs.getD i [] ∈ rs := by rw [List.getD_eq_getElem?_getD, List.getElem?_eq_getElem hi]; exact List.getElem_mem hi
    have hr := h60 _ hm
    generalize rs.getD i [] = r at g hd hr
    have w : IntKind.i64.wrap ((i : Int) + 1) = ((i + 1 : Nat) : Int) := by rw [wrap64] <;> omega
    have w2 : IntKind.i64.wrap (b + (i : Int)) = b + i := by rw [wrap64] <;> omega
    have fl := frameText_len v (b + i) r
    have ro1 : roomy (os.length + 1) 8 = true := by simp only [roomy, decide_eq_true_eq]; omega
    have ap2 : (os.map eInt).append [[C.int .i64 (t.length : Int)]] = (os ++ [(t.length : Int)]).map eInt := by simp
    have m1 : t.length + (frameText v (b + i) r).length ≤ 140737488355328 := by omega
    have m2 : 0 < t.length + (frameText v (b + i) r).length := by omega
    have hr' : r.length ≤ 281474976710656 := by omega
    have h60' : ¬ 60 < r.length := by omega
    have e := ih n (i + 1) (t ++ frameText v (b + i) r) (os ++ [(t.length : Int)]) (by omega) (by omega) (by simp; omega) (by simp only [List.length_append]; omega) (by simp only [List.length_append]; omega) (by
      rw [List.all_append, h6]
      simp only [List.all_cons, List.all_nil, Bool.and_true, Bool.true_and]
      exact (in_iff _ _ _).2 ⟨by omega, by omega⟩)
    rw [List.length_append] at e
    rw [hd]
    simp only [List.length_map, eval_ask', eval_must', eval_ret', decide_eq_true_eq, c, z, Int.toNat_natCast, g, w, w2, if_true, decide_true, Bool.and_true, Bool.true_and, Bool.and_self, List.length_cons, List.length_nil, C.is, List.getD_cons_zero, C.toStr, Nat.zero_add, Nat.zero_lt_one, ro1, ap2, sealGo, m1, m2, hr', h60', if_false]
    exact e
theorem iSeal_E : EnvSound Tryz.prog E_iSeal := mkB_sound (by simp [iIsNumber_sound, iHeadOk_sound, iHeadText_sound, iFrameText_sound, iFoot_sound, longCl_sound, anyLongF_sound])
theorem iSeal_sound : Sound Tryz.prog 176 (⟨[pHead, pSlS], [rS], true⟩) sealISpec := vBody_sound iSeal_E (natI_ok bldLaws) Tryz.func176 (by kernel_rfl) fun cs outs hk h => by
  unfold sealISpec at h
  split at h
  · simp only [Option.some.injEq, Prod.mk.injEq] at h
    obtain ⟨h0, rfl⟩ := h
    rename_i v s b l r
    obtain ⟨h1, h2, h3⟩ := (recsOk_iff _).1 h0
    rw [vBody_L, iSeal_tree]
    have hr := rows_strs h1
    generalize strs r = rs at hr h3 ⊢
    subst hr
    rw [List.length_map] at h2 ⊢
    unfold sealText
    by_cases hh : headOk v s b l = true
    · obtain ⟨hv, hs, hb, hl⟩ := (headOk_iff v s b l).1 hh
      have w : IntKind.i64.wrap (b + (rs.length : Int)) = b + rs.length := by rw [wrap64] <;> omega
      simp only [eval_ask', eval_must', eval_ret', hh, if_true, w, decide_eq_true_eq, h0, decide_true, Bool.and_self]
      by_cases c1 : (1000 : Int) < (rs.length : Int)
      · rw [if_pos c1, if_pos (.inr (.inl (by omega)))]
      · by_cases c2 : (1000000000 : Int) < b + (rs.length : Int)
        · have hi : ¬ inB (b + (rs.length : Int)) 0 1000000000 = true := fun h => by have := (in_iff _ _ _).1 h; omega
          rw [if_neg c1, if_neg hi, if_pos (.inr (.inr c2))]
        · have hi : inB (b + (rs.length : Int)) 0 1000000000 = true := (in_iff _ _ _).2 ⟨by omega, by omega⟩
          have hn : ¬ (true = false ∨ 1000 < rs.length ∨ 1000000000 < b + (rs.length : Int)) := by
            intro h
            rcases h with h | h | h
            · cases h
            · omega
            · omega
          rw [if_neg c1, if_pos hi, if_neg hn]
          have ht : 0 < (headText v s b l).length := by
            unfold headText headPre
            rw [hh]
            simp
          have hle := headText_le v s b l
          cases ha : anyLong rs with
          | true =>
            have := sealGo_long v b rs 0 (headText v s b l) [] (anyLong_yes ha)
            simp only [if_true, this]
          | false =>
            have e := iSeal_loop v s b l rs hb (by omega) (anyLong_no ha) rs.length 9223372036854775808 0 (headText v s b l) [] (by omega) (by omega) rfl (by omega) ht rfl
            have m1 : 0 + (headText v s b l).length ≤ 140737488355328 := by omega
            have m2 : 0 < 0 + (headText v s b l).length := by omega
            simp only [Bool.false_eq_true, if_false]
            rw [if_pos (by rw [decide_eq_true m1, decide_eq_true m2]; rfl)]
            exact e
    · have hh' : headOk v s b l = false := by simpa using hh
      simp only [eval_ask', eval_ret', hh', Bool.false_eq_true, if_false]
      rw [if_pos (.inl trivial)]
  · cases h

end Go.Proofs.YtggmbjbmklimdaaGreatDoor.V

namespace Go.Proofs.YtggmbjbmklimdaaGreatDoor.V
noncomputable section

def sealedOk (b : List UInt8) : Bool := readHeadOk b && decide (sealText (rhV b) (rhS b) (rhB b) (rhL b) (scRecs b) = b)

def sealRecs (b : List UInt8) : List (List UInt8) := if sealedOk b then scRecs b else []
def readSealedSpec : Spec := fun cs => match cs with
  | [.str b] => some (decide (b.length ≤ 1048576), [.int .i64 (ifI (sealedOk b) (rhV b)), .int .i64 (ifI (sealedOk b) (rhS b)), .int .i64 (ifI (sealedOk b) (rhB b)), .int .i64 (ifI (sealedOk b) (rhL b)), .sl ((sealRecs b).map eStr), .bool (sealedOk b)])
  | _ => none
def sealedOkSpec : Spec := fun cs => match cs with
  | [.str b] => some (decide (b.length ≤ 1048576), [.bool (sealedOk b)])
  | _ => none
abbrev rSlF : RTy := ⟨false, [(.slice 9, false)]⟩
def E_sReadSealed : Env := mkE [] [(161, (sg [pS] [rScan]), scanSpec), (162, (⟨[pHead, pSlS], [rS], true⟩), sealSpec)]
def E_iReadSealed : Env := mkE [] [(164, (sg [pS] [rScan]), scanSpec), (176, (⟨[pHead, pSlS], [rS], true⟩), sealISpec)]

def E_iSealedOk : Env := mkE [] [(124, (⟨[pS], [rHead, rSlF, rB], true⟩), readSealedSpec)]
def seekOk (b : List UInt8) (i : Int) : Bool := sealedOk b && (decide (rhB b ≤ i) && decide (i - rhB b < (scRecs b).length))
def seekRec (b : List UInt8) (i : Int) : List UInt8 := if seekOk b i then (scRecs b).getD (i - rhB b).toNat [] else []
def seekSpec : Spec := fun cs => match cs with
  | [.str b, .int .i64 i] => some (decide (b.length ≤ 1048576) && inB i (-9223372036854775808) 9223372036854775807, [.str (seekRec b i), .bool (seekOk b i)])
  | _ => none
def E_sSeekRecord : Env := mkE [] [(121, (⟨[pS], [rHead, rSlF, rB], true⟩), readSealedSpec)]

def lsOk (c : List Lk) (i : Int) : Bool := fileHas c i && sealedOk (fileLk c i).2
def lsCode (c : List Lk) (i : Int) : Int := if fileHas c i then (if sealedOk (fileLk c i).2 then 0 else 2) else 1
def lsRec (c : List Lk) (i : Int) : List UInt8 := if lsOk c i then (scRecs (fileLk c i).2).getD (i - rhB (fileLk c i).2).toNat [] else []
def logSeekSpec : Spec := fun cs => match cs with
  | [.sl ns, .sl es, .sl _, .sl _, .int .i64 _, .int .i64 _, .int .i64 i] => some (dkOk ns es && inB i (-9223372036854775808) 9223372036854775807, [.str (lsRec (chain (nds ns) (ens es)) i), .int .i64 (lsCode (chain (nds ns) (ens es)) i)])
  | _ => none
def E_sLogSeek : Env := mkE [] [(47, (sg [pDisk, pI] [rS]), textAtSpec), (45, (sg [pDisk, pI] [rI]), fileNoSpec), (46, (sg [pS, pI] [rS, rB]), seekSpec)]
def E_iLogSeek : Env := mkE [] [(53, (sg [pScan, pI] [rI]), scanAtSpec), (51, (⟨[pDisk, pI], [rLink, rB], true⟩), fileOfSpec), (52, (sg [pS] [rB]), sealedOkSpec)]
def E_lLogSeek : Env := mkE [] [(11, (sg [pLDisk, pI] [rI]), szDiskSpec), (13, (sg [pLDisk] [rDisk]), toDiskSpec), (15, (sg [pDisk, pDisk] [rB]), eqDiskSpec), (12, (sg [pDisk, pI] [rS, rI]), logSeekSpec), (14, (sg [pDisk, pI] [rS, rI]), logSeekSpec)]

end
end Go.Proofs.YtggmbjbmklimdaaGreatDoor.V

namespace Go.Proofs.YtggmbjbmklimdaaGreatDoor.V
set_option maxRecDepth 100000
theorem sReadSealed_tree (H : List Pt → Nat → St → T (List C)) (b : List UInt8) : (vBodyL E_sReadSealed noInl { params := [pS], results := [rHead, rSlF, rB], nested := true } Tryz.f121 H [C.str b]).eval =
 ((.must (decide (b.length ≤ (1048576 : Nat)))
 (.must (decide ((0 : Nat) < (1 : Nat)) && true &&
      (decide ((0 : Nat) < (1 : Nat)) && true &&
        (decide ((0 : Nat) < (1 : Nat)) && true &&
          (decide ((0 : Nat) < (1 : Nat)) && true &&
            (decide ((0 : Nat) < (1 : Nat)) && true &&
              ((true && (List.map eStr (scRecs b)).all fun row => decide (row.length = (1 : Nat))) &&
                ((true && (List.map eInt (scOffs b)).all fun row => decide (row.length = (1 : Nat))) &&
                  (decide ((0 : Nat) < (1 : Nat)) && true && (decide ((0 : Nat) < (1 : Nat)) && true && true)))))))) &&
    true &&
  true)
  (.ask (readHeadOk b)
   (.ask (scMark b)
    (.must (rowsOk [K.str] (List.take (List.map eStr (scRecs b)).length (List.map eStr (scRecs b))) &&
  decide ((List.take (List.map eStr (scRecs b)).length (List.map eStr (scRecs b))).length ≤ (1048576 : Nat)))
     (.ask (!sealText (ifI (readHeadOk b) (rhV b)) (ifI (readHeadOk b) (rhS b)) (ifI (readHeadOk b) (rhB b))
      (ifI (readHeadOk b) (rhL b)) (strs (List.take (List.map eStr (scRecs b)).length (List.map eStr (scRecs b)))) ==
    b)
      (.ret [C.int IntKind.i64 (0 : Int), C.int IntKind.i64 (0 : Int), C.int IntKind.i64 (0 : Int), C.int IntKind.i64 (0 : Int),
  C.sl [], C.bool false])
      (.ret [C.int IntKind.i64 (ifI (readHeadOk b) (rhV b)), C.int IntKind.i64 (ifI (readHeadOk b) (rhS b)),
  C.int IntKind.i64 (ifI (readHeadOk b) (rhB b)), C.int IntKind.i64 (ifI (readHeadOk b) (rhL b)),
  C.sl (List.take (List.map eStr (scRecs b)).length (List.map eStr (scRecs b))), C.bool true])))
    (.ret [C.int IntKind.i64 (0 : Int), C.int IntKind.i64 (0 : Int), C.int IntKind.i64 (0 : Int), C.int IntKind.i64 (0 : Int),
  C.sl [], C.bool false]))
   (.ret [C.int IntKind.i64 (0 : Int), C.int IntKind.i64 (0 : Int), C.int IntKind.i64 (0 : Int), C.int IntKind.i64 (0 : Int),
  C.sl [], C.bool false])))) : T (List C)).eval := evalEq (by kernel_rfl)
theorem iReadSealed_tree (H : List Pt → Nat → St → T (List C)) (b : List UInt8) : (vBodyL E_iReadSealed noInl { params := [pS], results := [rHead, rSlF, rB], nested := true } Tryz.f124 H [C.str b]).eval =
 ((.must (decide (b.length ≤ (1048576 : Nat)))
 (.must (decide ((0 : Nat) < (1 : Nat)) && true &&
      (decide ((0 : Nat) < (1 : Nat)) && true &&
        (decide ((0 : Nat) < (1 : Nat)) && true &&
          (decide ((0 : Nat) < (1 : Nat)) && true &&
            (decide ((0 : Nat) < (1 : Nat)) && true &&
              ((true && (List.map eStr (scRecs b)).all fun row => decide (row.length = (1 : Nat))) &&
                ((true && (List.map eInt (scOffs b)).all fun row => decide (row.length = (1 : Nat))) &&
                  (decide ((0 : Nat) < (1 : Nat)) && true && (decide ((0 : Nat) < (1 : Nat)) && true && true)))))))) &&
    true &&
  true)
  (.ask (readHeadOk b)
   (.must (recsOk (List.take (List.map eStr (scRecs b)).length (List.map eStr (scRecs b))))
    (.ask (!sealText (ifI (readHeadOk b) (rhV b)) (ifI (readHeadOk b) (rhS b)) (ifI (readHeadOk b) (rhB b))
      (ifI (readHeadOk b) (rhL b)) (strs (List.take (List.map eStr (scRecs b)).length (List.map eStr (scRecs b)))) ==
    b)
     (.ret [C.int IntKind.i64 (0 : Int), C.int IntKind.i64 (0 : Int), C.int IntKind.i64 (0 : Int), C.int IntKind.i64 (0 : Int),
  C.sl [], C.bool false])
     (.ret [C.int IntKind.i64 (ifI (readHeadOk b) (rhV b)), C.int IntKind.i64 (ifI (readHeadOk b) (rhS b)),
  C.int IntKind.i64 (ifI (readHeadOk b) (rhB b)), C.int IntKind.i64 (ifI (readHeadOk b) (rhL b)),
  C.sl (List.take (List.map eStr (scRecs b)).length (List.map eStr (scRecs b))), C.bool true])))
   (.ret [C.int IntKind.i64 (0 : Int), C.int IntKind.i64 (0 : Int), C.int IntKind.i64 (0 : Int), C.int IntKind.i64 (0 : Int),
  C.sl [], C.bool false])))) : T (List C)).eval := evalEq (by kernel_rfl)
theorem iSealedOk_tree (H : List Pt → Nat → St → T (List C)) (b : List UInt8) : (vBodyL E_iSealedOk noInl (sg [pS] [rB]) Tryz.f52 H [C.str b]).eval =
 ((.must (decide (b.length ≤ (1048576 : Nat)))
 (.ask (sealedOk b)
  (.ret [C.bool true])
  (.ret [C.bool false]))) : T (List C)).eval := evalEq (by kernel_rfl)
theorem sSeekRecord_tree (H : List Pt → Nat → St → T (List C)) (b : List UInt8) (i : Int) : (vBodyL E_sSeekRecord noInl (sg [pS, pI] [rS, rB]) Tryz.f46 H [C.str b, C.int IntKind.i64 i]).eval =
 ((.must (decide (b.length ≤ (1048576 : Nat)))
 (.ask (sealedOk b)
  (.ask (decide (i < ifI (sealedOk b) (rhB b)))
   (.ret [C.str [], C.bool false])
   (.ask (decide ((↑(List.map eStr (sealRecs b)).length : Int) ≤ IntKind.i64.wrap (i - ifI (sealedOk b) (rhB b))))
    (.ret [C.str [], C.bool false])
    (.must (decide ((0 : Int) ≤ IntKind.i64.wrap (i - ifI (sealedOk b) (rhB b))) &&
    decide (IntKind.i64.wrap (i - ifI (sealedOk b) (rhB b)) < (↑(List.map eStr (sealRecs b)).length : Int)) &&
  decide
    (((List.map eStr (sealRecs b)).getD (IntKind.i64.wrap (i - ifI (sealedOk b) (rhB b))).toNat []).length = (1 : Nat)))
     (.must (decide
      ((0 : Nat) <
        ((List.map eStr (sealRecs b)).getD (IntKind.i64.wrap (i - ifI (sealedOk b) (rhB b))).toNat []).length) &&
    C.is K.str
      (((List.map eStr (sealRecs b)).getD (IntKind.i64.wrap (i - ifI (sealedOk b) (rhB b))).toNat []).getD (0 : Nat)
        (C.fn (0 : FuncId) [])) &&
  true)
      (.ret [C.str
    (((List.map eStr (sealRecs b)).getD (IntKind.i64.wrap (i - ifI (sealedOk b) (rhB b))).toNat []).getD (0 : Nat)
        (C.fn (0 : FuncId) [])).toStr,
  C.bool true])))))
  (.ret [C.str [], C.bool false]))) : T (List C)).eval := evalEq (by kernel_rfl)
theorem sLogSeek_tree (H : List Pt → Nat → St → T (List C)) (ns : List (List C)) (es : List (List C)) (os : List (List C)) (ss : List (List C)) (r : Int) (x : Int) (i : Int) : (vBodyL E_sLogSeek noInl (sg [pDisk, pI] [rS, rI]) Tryz.f12 H
  [C.sl ns, C.sl es, C.sl os, C.sl ss, C.int IntKind.i64 r, C.int IntKind.i64 x, C.int IntKind.i64 i]).eval =
 ((.must (dkOk ns es)
 (.ask (decide (fileBase (chain (nds ns) (ens es)) i < (0 : Int)))
  (.ret [C.str [], C.int IntKind.i64 (1 : Int)])
  (.must (neOk ns es)
   (.must (decide ((textAt (nds ns) (ens es) (fileBase (chain (nds ns) (ens es)) i)).length ≤ (1048576 : Nat)) &&
  inB i (-9223372036854775808 : Int) (9223372036854775807 : Int))
    (.ask (seekOk (textAt (nds ns) (ens es) (fileBase (chain (nds ns) (ens es)) i)) i)
     (.ret [C.str (seekRec (textAt (nds ns) (ens es) (fileBase (chain (nds ns) (ens es)) i)) i), C.int IntKind.i64 (0 : Int)])
     (.ret [C.str [], C.int IntKind.i64 (2 : Int)])))))) : T (List C)).eval := evalEq (by kernel_rfl)
theorem iLogSeek_tree (H : List Pt → Nat → St → T (List C)) (ns : List (List C)) (es : List (List C)) (os : List (List C)) (ss : List (List C)) (r : Int) (x : Int) (i : Int) : (vBodyL E_iLogSeek noInl (sg [pDisk, pI] [rS, rI]) Tryz.f14 H
  [C.sl ns, C.sl es, C.sl os, C.sl ss, C.int IntKind.i64 r, C.int IntKind.i64 x, C.int IntKind.i64 i]).eval =
 ((.must (dkOk ns es)
 (.ask (fileHas (chain (nds ns) (ens es)) i)
  (.must (decide ((fText (fileLk (chain (nds ns) (ens es)) i)).length ≤ (1048576 : Nat)))
   (.ask (sealedOk (fText (fileLk (chain (nds ns) (ens es)) i)))
    (.must (decide
      ((0 : Int) ≤
        ifI (readHeadOk (fText (fileLk (chain (nds ns) (ens es)) i)))
          (rhB (fText (fileLk (chain (nds ns) (ens es)) i)))) &&
    decide
      (ifI (readHeadOk (fText (fileLk (chain (nds ns) (ens es)) i)))
          (rhB (fText (fileLk (chain (nds ns) (ens es)) i))) ≤
        (4294967296 : Int)) &&
  decide ((List.map eStr (scRecs (fText (fileLk (chain (nds ns) (ens es)) i)))).length ≤ (16777216 : Nat)))
     (.must (decide
      ((0 : Int) ≤
        scanAt
          (ifI (readHeadOk (fText (fileLk (chain (nds ns) (ens es)) i)))
            (rhB (fText (fileLk (chain (nds ns) (ens es)) i))))
          (↑(List.map eStr (scRecs (fText (fileLk (chain (nds ns) (ens es)) i)))).length : Int) i) &&
    decide
      (scanAt
          (ifI (readHeadOk (fText (fileLk (chain (nds ns) (ens es)) i)))
            (rhB (fText (fileLk (chain (nds ns) (ens es)) i))))
          (↑(List.map eStr (scRecs (fText (fileLk (chain (nds ns) (ens es)) i)))).length : Int) i <
        (↑(List.map eStr (scRecs (fText (fileLk (chain (nds ns) (ens es)) i)))).length : Int)) &&
  decide
    (((List.map eStr (scRecs (fText (fileLk (chain (nds ns) (ens es)) i)))).getD
          (scanAt
              (ifI (readHeadOk (fText (fileLk (chain (nds ns) (ens es)) i)))
                (rhB (fText (fileLk (chain (nds ns) (ens es)) i))))
              (↑(List.map eStr (scRecs (fText (fileLk (chain (nds ns) (ens es)) i)))).length : Int) i).toNat
          []).length =
      (1 : Nat)))
      (.must (decide
      ((0 : Nat) <
        ((List.map eStr (scRecs (fText (fileLk (chain (nds ns) (ens es)) i)))).getD
            (scanAt
                (ifI (readHeadOk (fText (fileLk (chain (nds ns) (ens es)) i)))
                  (rhB (fText (fileLk (chain (nds ns) (ens es)) i))))
                (↑(List.map eStr (scRecs (fText (fileLk (chain (nds ns) (ens es)) i)))).length : Int) i).toNat
            []).length) &&
    C.is K.str
      (((List.map eStr (scRecs (fText (fileLk (chain (nds ns) (ens es)) i)))).getD
            (scanAt
                (ifI (readHeadOk (fText (fileLk (chain (nds ns) (ens es)) i)))
                  (rhB (fText (fileLk (chain (nds ns) (ens es)) i))))
                (↑(List.map eStr (scRecs (fText (fileLk (chain (nds ns) (ens es)) i)))).length : Int) i).toNat
            []).getD
        (0 : Nat) (C.fn (0 : FuncId) [])) &&
  true)
       (.ret [C.str
    (((List.map eStr (scRecs (fText (fileLk (chain (nds ns) (ens es)) i)))).getD
            (scanAt
                (ifI (readHeadOk (fText (fileLk (chain (nds ns) (ens es)) i)))
                  (rhB (fText (fileLk (chain (nds ns) (ens es)) i))))
                (↑(List.map eStr (scRecs (fText (fileLk (chain (nds ns) (ens es)) i)))).length : Int) i).toNat
            []).getD
        (0 : Nat) (C.fn (0 : FuncId) [])).toStr,
  C.int IntKind.i64 (0 : Int)]))))
    (.ret [C.str [], C.int IntKind.i64 (2 : Int)])))
  (.ret [C.str [], C.int IntKind.i64 (1 : Int)]))) : T (List C)).eval := evalEq (by kernel_rfl)
theorem lLogSeek_tree (H : List Pt → Nat → St → T (List C)) (ns : List (List C)) (es : List (List C)) (os : List (List C)) (ss : List (List C)) (r : Int) (x : Int) (i : Int) : (vBodyL E_lLogSeek noInl (sg [pLDisk, pI] [rB]) Tryz.f3 H
  [C.sl ns, C.sl es, C.sl os, C.sl ss, C.int IntKind.i64 r, C.int IntKind.i64 x, C.int IntKind.i64 i]).eval =
 ((.must (decide ((0 : Int) ≤ (1048576 : Int)) && decide ((1048576 : Int) ≤ (1048576 : Int)) &&
  (diskLens (281474976710656 : Nat) ns es os ss && diskRows ns es os ss && diskTexts ns es os ss))
 (.ask (decide (szDisk (nds ns) (ens es) (ens os) (strs ss) (1048576 : Int) < (0 : Int)))
  (.ret [C.bool true])
  (.must (diskLens (1048576 : Nat) ns es os ss && diskRows ns es os ss)
   (.must ((true && ns.all fun row => decide (row.length = (3 : Nat))) &&
      ((true && es.all fun row => decide (row.length = (2 : Nat))) &&
        ((true && os.all fun row => decide (row.length = (2 : Nat))) &&
          ((true && ss.all fun row => decide (row.length = (1 : Nat))) &&
            (decide ((0 : Nat) < (1 : Nat)) && true && (decide ((0 : Nat) < (1 : Nat)) && true && true))))) &&
    true &&
  true)
    (.must (dkOk (List.take ns.length ns) (List.take es.length es) && inB i (-9223372036854775808 : Int) (9223372036854775807 : Int))
     (.must (diskLens (1048576 : Nat) ns es os ss && diskRows ns es os ss)
      (.must ((true && ns.all fun row => decide (row.length = (3 : Nat))) &&
      ((true && es.all fun row => decide (row.length = (2 : Nat))) &&
        ((true && os.all fun row => decide (row.length = (2 : Nat))) &&
          ((true && ss.all fun row => decide (row.length = (1 : Nat))) &&
            (decide ((0 : Nat) < (1 : Nat)) && true && (decide ((0 : Nat) < (1 : Nat)) && true && true))))) &&
    true &&
  true)
       (.must (dkOk (List.take ns.length ns) (List.take es.length es) && inB i (-9223372036854775808 : Int) (9223372036854775807 : Int))
        (.ask (!lsRec (chain (nds (List.take ns.length ns)) (ens (List.take es.length es))) i ==
    lsRec (chain (nds (List.take ns.length ns)) (ens (List.take es.length es))) i)
         (.ret [C.bool false])
         (.ask (lsCode (chain (nds (List.take ns.length ns)) (ens (List.take es.length es))) i !=
  lsCode (chain (nds (List.take ns.length ns)) (ens (List.take es.length es))) i)
          (.ret [C.bool false])
          (.must (diskLens (1048576 : Nat) ns es os ss && diskRows ns es os ss)
           (.must ((true && ns.all fun row => decide (row.length = (3 : Nat))) &&
      ((true && es.all fun row => decide (row.length = (2 : Nat))) &&
        ((true && os.all fun row => decide (row.length = (2 : Nat))) &&
          ((true && ss.all fun row => decide (row.length = (1 : Nat))) &&
            (decide ((0 : Nat) < (1 : Nat)) && true && (decide ((0 : Nat) < (1 : Nat)) && true && true))))) &&
    true &&
  true)
            (.must (diskLens (1048576 : Nat) (List.take ns.length ns) (List.take es.length es) (List.take os.length os)
      (List.take ss.length ss) &&
    diskRows (List.take ns.length ns) (List.take es.length es) (List.take os.length os) (List.take ss.length ss) &&
  diskRows (List.take ns.length ns) (List.take es.length es) (List.take os.length os) (List.take ss.length ss))
             (.ask (eqDk (List.take ns.length ns) (List.take es.length es) (List.take os.length os) (List.take ss.length ss) r x
  (List.take ns.length ns) (List.take es.length es) (List.take os.length os) (List.take ss.length ss) r x)
              (.ret [C.bool true])
              (.ret [C.bool false]))))))))))))))) : T (List C)).eval := evalEq (by kernel_rfl)
end Go.Proofs.YtggmbjbmklimdaaGreatDoor.V

namespace Go.Proofs.YtggmbjbmklimdaaGreatDoor.V

theorem head_oks {b : List UInt8} (h : readHeadOk b = true) : headOk (rhV b) (rhS b) (rhB b) (rhL b) = true ∧ 24 ≤ b.length ∧ (headText (rhV b) (rhS b) (rhB b) (rhL b)).length = 24 := by
  unfold readHeadOk at h
  simp only [Bool.and_eq_true, decide_eq_true_eq] at h
  obtain ⟨⟨h1, _⟩, h2⟩ := h
  have hl : (headText (rhV b) (rhS b) (rhB b) (rhL b)).length = 24 := by rw [h2, List.length_take]; omega
  refine ⟨?_, h1, hl⟩
  cases hk : headOk (rhV b) (rhS b) (rhB b) (rhL b) with
  | true => rfl
  | false => unfold headText at hl; rw [hk] at hl; simp at hl
theorem sealGo_app (v b : Int) : ∀ (rs : List (List UInt8)) (i : Int) (t : List UInt8) (os : List Int) (t' : List UInt8) (os' : List Int), sealGo v b i rs t os = some (t', os') → ∀ r : List UInt8, r.length ≤ 60 →
    sealGo v b i (rs ++ [r]) t os = some (t' ++ frameText v (b + i + rs.length) r, os' ++ [(t'.length : Int)])
  | [], i, t, os, t', os', h, r, hr => by
    simp only [sealGo, Option.some.injEq, Prod.mk.injEq] at h
    obtain ⟨rfl, rfl⟩ := h
    simp only [List.nil_append, sealGo, if_neg (by omega : ¬ 60 < r.length), List.length_nil]
    rw [show b + i + ((0 : Nat) : Int) = b + i by omega]
  | x :: rs, i, t, os, t', os', h, r, hr => by
    simp only [sealGo] at h
    split at h
    · cases h
    · rename_i hx
      have := sealGo_app v b rs (i + 1) _ _ t' os' h r hr
      simp only [List.cons_append, sealGo, if_neg hx]
      rw [this, show b + (i + 1) + (rs.length : Int) = b + i + ((x :: rs).length : Int) by simp only [List.length_cons]; omega]
theorem rfText_60 {v p : Int} {b : List UInt8} {a : Int} (h : rfOk v p b a = true) : (rfText v b a).length ≤ 60 := by
  unfold rfOk at h
  simp only [Bool.and_eq_true, decide_eq_true_eq] at h
  unfold rfText
  have := h.1.2.1
  rw [List.length_take]
  omega
theorem scanGo_seal (v p : Int) (b h0 : List UInt8) : ∀ (f : Nat) (k e : Int) (rs : List (List UInt8)) (os : List Int), (∃ t, sealGo v p 0 rs h0 [] = some (t, os) ∧ (t.length : Int) = e) → k = rs.length →
    ∃ t, sealGo v p 0 (scanGo v p b f k e rs os).1 h0 [] = some (t, (scanGo v p b f k e rs os).2.1) ∧ (t.length : Int) = (scanGo v p b f k e rs os).2.2.1
  | 0, k, e, rs, os, h, _ => h
  | f + 1, k, e, rs, os, h, hk => by
    simp only [scanGo]
    split
    · exact h
    · split
      · rename_i ho
        obtain ⟨t, h1, h2⟩ := h
        have h60 := rfText_60 ho
        have e1 : rfRec v (p + k) b e = rfText v b e := by unfold rfRec; rw [if_pos ho]
        have e2 : rfEnd v (p + k) b e = e + (frameText v (p + k) (rfText v b e)).length := by unfold rfEnd; rw [if_pos ho]
        have := sealGo_app v p rs 0 h0 [] t os h1 (rfText v b e) h60
        rw [e1, e2]
        refine scanGo_seal v p b h0 f (k + 1) _ _ _ ⟨t ++ frameText v (p + k) (rfText v b e), ?_, ?_⟩ (by simp only [List.length_append, List.length_cons, List.length_nil]; omega)
        · rw [this, hk, h2, show p + 0 + (rs.length : Int) = p + rs.length by omega]
        · rw [List.length_append]; omega
      · exact h
theorem mark_far (v p : Int) (b : List UInt8) (e : Int) (h : (b.length : Int) < e) : markAt v p b e = false := by
  cases hm : markAt v p b e with
  | false => rfl
  | true =>
    unfold markAt hasAt at hm
    simp only [Bool.and_eq_true, decide_eq_true_eq] at hm
    omega
theorem scanGo_stop (v p : Int) (b : List UInt8) : ∀ (f : Nat) (k e : Int) (rs : List (List UInt8)) (os : List Int), (b.length : Int) + 1 ≤ e + f → k = rs.length → (scanGo v p b f k e rs os).2.2.2 = false →
    markAt v (p + (scanGo v p b f k e rs os).1.length) b (scanGo v p b f k e rs os).2.2.1 = false
  | 0, k, e, rs, os, h, hk, _ => by
    simp only [scanGo]
    exact mark_far _ _ _ _ (by omega)
  | f + 1, k, e, rs, os, h, hk, hf => by
    simp only [scanGo] at hf ⊢
    split at hf
    · cases hf
    · rename_i hm
      rw [if_neg hm]
      split at hf
      · rename_i ho
        obtain ⟨g1, g2, g3⟩ := rfOk_end _ _ _ _ ho
        rw [if_pos ho]
        exact scanGo_stop v p b f (k + 1) _ _ _ (by omega) (by simp only [List.length_append, List.length_cons, List.length_nil]; omega) hf
      · rename_i ho
        rw [if_neg ho, ← hk]
        simpa using hm
theorem fixOf_small (n : Int) (h0 : 0 ≤ n) (h : n < 4294967296) : (fixOf n 4).length = 4 := by
  obtain ⟨k, rfl⟩ : ∃ k : Nat, n = k := ⟨n.toNat, by omega⟩
  rw [show (4 : Int) = ((4 : Nat) : Int) from rfl, fix_good k 4 (by omega) (by omega), if_pos (by omega), leBytes_length]
theorem fixOf_ne (n : Int) (h0 : 0 ≤ n) (h : n < 4294967296) : fixOf n 4 ≠ [] := fun he => by
  have := fixOf_small n h0 h
  rw [he] at this
  cases this
theorem endMark_ne (v p : Int) (hv : 1 ≤ v ∧ v ≤ 2) (hp : 0 ≤ p ∧ p ≤ 1000000000) : endMark v p ≠ [] := by
  unfold endMark
  rw [(in_iff _ _ _).2 hv, (in_iff _ _ _).2 hp]
  simp only [Bool.and_self, if_true]
  split
  · simp
  · unfold sizedOf
    intro h
    have h1 := fixOf_small 4294967295 (by omega) (by omega)
    have := congrArg List.length h
    rw [List.length_append, h1] at this
    simp at this
theorem trailer_ne (a b c d : Int) (ha : 0 ≤ a ∧ a < 4294967296) (hb : 0 ≤ b ∧ b < 4294967296) (hc : 0 ≤ c ∧ c < 4294967296) (hd : 0 ≤ d ∧ d < 4294967296) : trailer a b c d ≠ [] := by
  unfold trailer
  simp only [trGo, if_neg (fixOf_ne a ha.1 ha.2), if_neg (fixOf_ne b hb.1 hb.2), if_neg (fixOf_ne c hc.1 hc.2), if_neg (fixOf_ne d hd.1 hd.2)]
  simp
theorem varText_nn (n : Int) (h0 : 0 ≤ n) (h : n ≤ 1000000000) : varText n ≠ [] := by
  unfold varText
  rw [if_pos ((in_iff _ _ _).2 ⟨h0, h⟩)]
  unfold varBytes
  split <;> simp
def PlLe (a b : Pl) : Prop := a.1 ≤ b.1 ∧ a.2 ≤ b.2
theorem ptGo_some : ∀ (l : List Pl) (q : Pl), (∀ p ∈ q :: l, (0 ≤ p.1 ∧ p.1 ≤ 1000000) ∧ (0 ≤ p.2 ∧ p.2 ≤ 1000000)) → List.Pairwise PlLe (q :: l) → ∃ t, ptGo q l = some t
  | [], q, _, _ => ⟨[], rfl⟩
  | p :: r, q, h1, h2 => by
    have hq := h1 q (by simp)
    have hp := h1 p (by simp)
    obtain ⟨h3, h4⟩ := List.pairwise_cons.1 h2
    have hl := h3 p (by simp)
    unfold PlLe at hl
    obtain ⟨t, ht⟩ := ptGo_some r p (fun x hx => h1 x (by simp at hx ⊢; exact .inr hx)) h4
    have l1 : less p.1 q.1 = p.1 - q.1 := by
      have w : IntKind.i64.wrap (p.1 - q.1) = p.1 - q.1 := by rw [wrap64] <;> omega
      unfold less
      rw [w, if_neg (by omega)]
    have l2 : less p.2 q.2 = p.2 - q.2 := by
      have w : IntKind.i64.wrap (p.2 - q.2) = p.2 - q.2 := by rw [wrap64] <;> omega
      unfold less
      rw [w, if_neg (by omega)]
    unfold ptGo
    rw [l1, l2, if_neg (by
      intro h
      rcases h with h | h
      · exact varText_nn _ (by omega) (by omega) h
      · exact varText_nn _ (by omega) (by omega) h), ht]
    exact ⟨_, rfl⟩
theorem placesTo_mem2 (s : Int) (os : List Int) : ∀ (i : Nat) (p : Pl), p ∈ placesTo s os i → ∃ j, j < i ∧ p = ((j : Int), os.getD j 0)
  | 0, p, h => by simp [placesTo] at h
  | i + 1, p, h => by
    simp only [placesTo, List.mem_append] at h
    rcases h with h | h
    · obtain ⟨j, h1, h2⟩ := placesTo_mem2 s os i p h
      exact ⟨j, by omega, h2⟩
    · split at h
      · simp only [List.mem_singleton] at h
        exact ⟨i, by omega, h⟩
      · simp at h
theorem placesTo_up (s : Int) (os : List Int) (hm : ∀ i j, i ≤ j → j < os.length → os.getD i 0 ≤ os.getD j 0) : ∀ i, i ≤ os.length → List.Pairwise PlLe (placesTo s os i)
  | 0, _ => by simp [placesTo]
  | i + 1, h => by
    simp only [placesTo]
    refine List.pairwise_append.2 ⟨placesTo_up s os hm i (by omega), by split <;> simp, fun a ha b hb => ?_⟩
    obtain ⟨j, h1, rfl⟩ := placesTo_mem2 s os i a ha
    split at hb
    · simp only [List.mem_singleton] at hb
      subst hb
      exact ⟨by show (j : Int) ≤ i; omega, hm j i (by omega) (by omega)⟩
    · simp at hb
theorem placesText_ne (s : Int) (os : List Int) (hl : os.length ≤ 1000) (h0 : ∀ j, j < os.length → 0 ≤ os.getD j 0 ∧ os.getD j 0 ≤ 1000000) (hm : ∀ i j, i ≤ j → j < os.length → os.getD i 0 ≤ os.getD j 0) : placesText (places s os) ≠ [] := by
  have hp : ∀ p ∈ places s os, ∃ j, j < os.length ∧ p = ((j : Int), os.getD j 0) := fun p hp => by
    unfold places at hp
    split at hp
    · simp at hp
    · exact placesTo_mem2 s os _ p hp
  have hu : List.Pairwise PlLe (places s os) := by
    unfold places
    split
    · simp
    · exact placesTo_up s os hm _ (Nat.le_refl _)
  obtain ⟨t, ht⟩ := ptGo_some (places s os) (0, 0) (fun p h => by
    rcases List.mem_cons.1 h with rfl | h
    · exact ⟨⟨by decide, by decide⟩, by decide, by decide⟩
    · obtain ⟨j, hj, rfl⟩ := hp p h
      exact ⟨⟨by show (0 : Int) ≤ j; omega, by show (j : Int) ≤ 1000000; omega⟩, h0 j hj⟩) (List.pairwise_cons.2 ⟨fun p h => by
    obtain ⟨j, hj, rfl⟩ := hp p h
    exact ⟨by show (0 : Int) ≤ j; omega, (h0 j hj).1⟩, hu⟩)
  have pl := places_len s os
  unfold placesText
  rw [ht]
  have := varText_nn ((places s os).length : Int) (by omega) (by omega)
  simp [this]
/-- offsets go up -/
def OffUp (os : List Int) (e : Int) : Prop := (∀ i j, i ≤ j → j < os.length → os.getD i 0 ≤ os.getD j 0) ∧ ∀ j, j < os.length → 0 ≤ os.getD j 0 ∧ os.getD j 0 ≤ e
theorem getD_snoc_lt (os : List Int) (x : Int) (i : Nat) (h : i < os.length) : (os ++ [x]).getD i 0 = os.getD i 0 := by
  rw [List.getD_eq_getElem?_getD, List.getD_eq_getElem?_getD, List.getElem?_append_left h]
theorem getD_snoc_eq (os : List Int) (x : Int) : (os ++ [x]).getD os.length 0 = x := by
  rw [List.getD_eq_getElem?_getD, List.getElem?_append_right (Nat.le_refl _)]
  simp
theorem offUp_snoc {os : List Int} {e x : Int} (h : OffUp os e) (he : e ≤ x) (h0 : 0 ≤ e) : OffUp (os ++ [x]) x := by
  have key : ∀ j, j < (os ++ [x]).length → (j < os.length ∧ (os ++ [x]).getD j 0 = os.getD j 0) ∨ (j = os.length ∧ (os ++ [x]).getD j 0 = x) := fun j hj => by
    rw [List.length_append] at hj
    simp only [List.length_cons, List.length_nil] at hj
    by_cases h : j < os.length
    · exact .inl ⟨h, getD_snoc_lt _ _ _ h⟩
    · have e : j = os.length := by omega
      subst e
      exact .inr ⟨rfl, getD_snoc_eq _ _⟩
  refine ⟨fun i j hij hj => ?_, fun j hj => ?_⟩
  · rcases key j hj with ⟨j1, j2⟩ | ⟨j1, j2⟩
    · rcases key i (by omega) with ⟨i1, i2⟩ | ⟨i1, i2⟩
      · rw [i2, j2]; exact h.1 i j hij j1
      · omega
    · rcases key i (by omega) with ⟨i1, i2⟩ | ⟨i1, i2⟩
      · rw [i2, j2]; have := (h.2 i i1).2; omega
      · rw [i2, j2]; exact Int.le_refl _
  · rcases key j hj with ⟨j1, j2⟩ | ⟨j1, j2⟩
    · rw [j2]; have := h.2 j j1; omega
    · rw [j2]; omega
theorem sealGo_up (v b : Int) : ∀ (rs : List (List UInt8)) (i : Int) (t : List UInt8) (os : List Int) (x : List UInt8 × List Int), sealGo v b i rs t os = some x → OffUp os t.length → OffUp x.2 x.1.length
  | [], i, t, os, x, h, ho => by simp [sealGo] at h; subst h; exact ho
  | r :: rs, i, t, os, x, h, ho => by
    unfold sealGo at h
    split at h
    · cases h
    · refine sealGo_up v b rs _ _ _ x h ?_
      have := offUp_snoc ho (Int.le_refl _) (by omega)
      exact ⟨this.1, fun j hj => by
        have := this.2 j hj
        rw [List.length_append]
        omega⟩
theorem sealed_mark {b : List UInt8} (h : sealedOk b = true) : scMark b = true := by
  unfold sealedOk at h
  simp only [Bool.and_eq_true, decide_eq_true_eq] at h
  obtain ⟨hr, hs⟩ := h
  obtain ⟨hk, h24, hl⟩ := head_oks hr
  have e1 : scRecs b = (scanGo (rhV b) (rhB b) b (b.length + 1) 0 24 [] []).1 := by unfold scRecs scanOf; rw [if_pos hr]
  have e2 : scMark b = (scanGo (rhV b) (rhB b) b (b.length + 1) 0 24 [] []).2.2.2 := by unfold scMark scanOf; rw [if_pos hr]
  obtain ⟨t, s1, s2⟩ := scanGo_seal (rhV b) (rhB b) b (headText (rhV b) (rhS b) (rhB b) (rhL b)) (b.length + 1) 0 24 [] [] ⟨_, rfl, by rw [hl]; rfl⟩ rfl
  have st := scanGo_stop (rhV b) (rhB b) b (b.length + 1) 0 24 [] [] (by omega) rfl
  rw [e2]
  rw [e1] at hs
  generalize scanGo (rhV b) (rhB b) b (b.length + 1) 0 24 [] [] = X at hs s1 s2 st ⊢
  obtain ⟨rs, os, e, m⟩ := X
  simp only at hs s1 s2 st ⊢
  unfold sealText at hs
  split at hs
  · rw [← hs] at h24; simp at h24
  · rename_i hc
    rw [s1] at hs
    simp only at hs
    have hn : rs.length ≤ 1000 := by have : ¬ 1000 < rs.length := fun h => hc (.inr (.inl h)); omega
    have hq : ¬ 1000000000 < rhB b + rs.length := fun h => hc (.inr (.inr h))
    obtain ⟨hv, hst, hb, _⟩ := (headOk_iff _ _ _ _).1 hk
    have lens := sealGo_len _ _ _ _ _ _ _ s1
    simp only [List.length_nil, Nat.zero_add] at lens
    have up := sealGo_up _ _ _ _ _ _ _ s1 ⟨fun i j _ hj => by simp at hj, fun j hj => by simp at hj⟩
    simp only at up
    have q1 := endMark_ne (rhV b) (rhB b + os.length) hv (by rw [lens.2]; omega)
    have q2 := placesText_ne (rhS b) os (by omega) (fun j hj => by have := up.2 j hj; omega) up.1
    have q3 := trailer_ne (t.length : Int) os.length (rhS b) 0 (by omega) (by omega) (by omega) (by omega)
    cases hm : m with
    | true => rfl
    | false =>
      exfalso
      have hf := st hm
      have : markAt (rhV b) (rhB b + rs.length) b e = true := by
        unfold footText at hs
        rw [if_neg (by
          intro h
          rcases h with h | h | h | h
          · rw [hk] at h; cases h
          · exact q1 h
          · exact q2 h
          · exact q3 h)] at hs
        unfold markAt hasAt
        rw [← s2]
        rw [lens.2] at q1 hs
        simp only [Bool.and_eq_true, decide_eq_true_eq, Int.toNat_natCast]
        refine ⟨q1, by omega, ?_, ?_⟩
        · rw [← hs, List.length_append]; omega
        · generalize endMark (rhV b) (rhB b + ↑rs.length) = M at hs ⊢
          rw [← hs, List.drop_left, List.append_assoc, List.take_left]
      rw [this] at hf
      cases hf

theorem strs_take (l : List (List UInt8)) : List.take (l.map eStr).length (l.map eStr) = l.map eStr := List.take_length
theorem recsOk_map (l : List (List UInt8)) (h1 : l.length ≤ 1048576) (h2 : ∀ r ∈ l, r.length ≤ 60) : recsOk (l.map eStr) = true := by
  refine (recsOk_iff _).2 ⟨by simp, by simpa using h1, fun r hr => ?_⟩
  rw [strs_map] at hr
  have := h2 r hr
  omega
theorem sReadSealed_E : EnvSound Tryz.prog E_sReadSealed := mkE_sound (by simp [sScanText_sound, sSeal_sound])
theorem sReadSealed_sound : Sound Tryz.prog 121 (⟨[pS], [rHead, rSlF, rB], true⟩) readSealedSpec := vBody_sound sReadSealed_E noInl_ok Tryz.func121 (by kernel_rfl) fun cs outs hk h => by
  unfold readSealedSpec at h
  split at h
  · simp only [Option.some.injEq, Prod.mk.injEq, decide_eq_true_eq] at h
    obtain ⟨hb, rfl⟩ := h
    rename_i b
    rw [vBody_L, sReadSealed_tree]
    obtain ⟨f1, f2, f3⟩ := scan_facts b
    have hl : (scRecs b).length ≤ 1048576 := by omega
    have tk : List.take (scRecs b).length ((scRecs b).map eStr) = (scRecs b).map eStr := List.take_of_length_le (by simp)
    have d1 : decide (0 < 1) = true := by decide
    simp only [eval_must', eval_ask', eval_ret', hb, d1, rows1, rows1i, decide_true, Bool.and_self, if_true, strs_take, strs_map, rowsOk_strs, List.length_map, hl, tk, sealRecs, ifI]
    cases hr : readHeadOk b with
    | false =>
      have hs : sealedOk b = false := by unfold sealedOk; rw [hr]; rfl
      simp [hs]
    | true =>
      by_cases he : sealText (rhV b) (rhS b) (rhB b) (rhL b) (scRecs b) = b
      · have hs : sealedOk b = true := by unfold sealedOk; rw [hr, he]; simp
        have hm := sealed_mark hs
        simp [hs, hm, he]
      · have hs : sealedOk b = false := by unfold sealedOk; rw [hr]; simp [he]
        cases hm : scMark b <;> simp [hs, he]
  · cases h
theorem iReadSealed_E : EnvSound Tryz.prog E_iReadSealed := mkE_sound (by simp [iScanText_sound, iSeal_sound])
theorem iReadSealed_sound : Sound Tryz.prog 124 (⟨[pS], [rHead, rSlF, rB], true⟩) readSealedSpec := vBody_sound iReadSealed_E noInl_ok Tryz.func124 (by kernel_rfl) fun cs outs hk h => by
  unfold readSealedSpec at h
  split at h
  · simp only [Option.some.injEq, Prod.mk.injEq, decide_eq_true_eq] at h
    obtain ⟨hb, rfl⟩ := h
    rename_i b
    rw [vBody_L, iReadSealed_tree]
    obtain ⟨f1, f2, f3⟩ := scan_facts b
    have hl : (scRecs b).length ≤ 1048576 := by omega
    have ro := recsOk_map (scRecs b) hl f3
    have d1 : decide (0 < 1) = true := by decide
    simp only [eval_must', eval_ask', eval_ret', hb, d1, rows1, rows1i, decide_true, Bool.and_self, if_true, strs_take, strs_map, ro, sealRecs, ifI]
    cases hr : readHeadOk b with
    | false =>
      have hs : sealedOk b = false := by unfold sealedOk; rw [hr]; rfl
      simp [hs]
    | true =>
      by_cases he : sealText (rhV b) (rhS b) (rhB b) (rhL b) (scRecs b) = b
      · have hs : sealedOk b = true := by unfold sealedOk; rw [hr, he]; simp
        simp [hs, he]
      · have hs : sealedOk b = false := by unfold sealedOk; rw [hr]; simp [he]
        simp [hs, he]
  · cases h

theorem iSealedOk_E : EnvSound Tryz.prog E_iSealedOk := mkE_sound (by simp [iReadSealed_sound])
theorem iSealedOk_sound : Sound Tryz.prog 52 (sg [pS] [rB]) sealedOkSpec := vBody_sound iSealedOk_E noInl_ok Tryz.func52 (by kernel_rfl) fun cs outs hk h => by
  unfold sealedOkSpec at h
  split at h
  · simp only [Option.some.injEq, Prod.mk.injEq, decide_eq_true_eq] at h
    obtain ⟨hb, rfl⟩ := h
    rename_i b
    rw [vBody_L, iSealedOk_tree]
    cases hs : sealedOk b <;> simp [eval_must', eval_ask', eval_ret', hb]
  · cases h
theorem sealed_head {b : List UInt8} (h : sealedOk b = true) : readHeadOk b = true := by
  unfold sealedOk at h
  simp only [Bool.and_eq_true] at h
  exact h.1
theorem sSeekRecord_E : EnvSound Tryz.prog E_sSeekRecord := mkE_sound (by simp [sReadSealed_sound])
theorem sSeekRecord_sound : Sound Tryz.prog 46 (sg [pS, pI] [rS, rB]) seekSpec := vBody_sound sSeekRecord_E noInl_ok Tryz.func46 (by kernel_rfl) fun cs outs hk h => by
  unfold seekSpec at h
  split at h
  · simp only [Option.some.injEq, Prod.mk.injEq, Bool.and_eq_true, decide_eq_true_eq, in_iff] at h
    obtain ⟨⟨hb, hi⟩, rfl⟩ := h
    rename_i b i
    rw [vBody_L, sSeekRecord_tree]
    obtain ⟨f1, f2, f3⟩ := scan_facts b
    unfold seekRec seekOk sealRecs
    simp only [eval_must', eval_ask', eval_ret', hb, decide_true, if_true, decide_eq_true_eq, List.length_map, Bool.and_eq_true, ifI]
    cases hs : sealedOk b with
    | false => simp
    | true =>
      have hh := (headOk_iff _ _ _ _).1 (head_oks (sealed_head hs)).1
      simp only [if_true]
      by_cases c1 : i < rhB b
      · have c1' : ¬ rhB b ≤ i := by omega
        simp [c1, c1']
      · have c1' : rhB b ≤ i := by omega
        have w : IntKind.i64.wrap (i - rhB b) = i - rhB b := by rw [wrap64] <;> omega
        simp only [w, c1, c1', if_false]
        by_cases c2 : ((scRecs b).length : Int) ≤ i - rhB b
        · have c2' : ¬ i - rhB b < (scRecs b).length := by omega
          simp [c2, c2']
        · have c2' : i - rhB b < (scRecs b).length := by omega
          have z : 0 ≤ i - rhB b := by omega
          have hk : (i - rhB b).toNat < (scRecs b).length := by omega
          have g := map_getD eStr (scRecs b) [] (i - rhB b).toNat hk
          simp only [c2, c2', z, if_false, if_true, g, decide_true, Bool.and_self, and_self, List.length_cons, List.length_nil, Nat.zero_add, Nat.zero_lt_one, C.is, List.getD_cons_zero, C.toStr, Bool.and_true, decide_false, Bool.false_eq_true]
  · cases h

theorem fileGo_mem : ∀ (c : List Lk) (i : Int) (x : Lk), fileGo c i = some x → x ∈ c ∧ 0 ≤ scanAt (ifI (readHeadOk x.2) (rhB x.2)) (scRecs x.2).length i
  | [], i, x, h => by cases h
  | y :: r, i, x, h => by
    simp only [fileGo] at h
    split at h
    · rename_i hy
      obtain rfl := Option.some.inj h
      exact ⟨by simp, hy⟩
    · have := fileGo_mem r i x h
      exact ⟨by simp [this.1], this.2⟩
theorem fileLk_facts (ns : List Nd) (es : List En) (i : Int) (h : fileHas (chain ns es) i = true) :
    fileLk (chain ns es) i ∈ chain ns es ∧ (fileLk (chain ns es) i).2 = textAt ns es (fileLk (chain ns es) i).1 ∧ 0 ≤ scanAt (ifI (readHeadOk (fileLk (chain ns es) i).2) (rhB (fileLk (chain ns es) i).2)) (scRecs (fileLk (chain ns es) i).2).length i := by
  unfold fileHas at h
  unfold fileLk
  cases hg : fileGo (chain ns es) i with
  | none => rw [hg] at h; cases h
  | some x =>
    obtain ⟨h1, h2⟩ := fileGo_mem _ _ _ hg
    exact ⟨h1, chainGo_text ns es 16 0 0 x h1, h2⟩
theorem consec_pos : ∀ (c : List Lk) (b : Int), Consec c b → 0 ≤ b → ∀ x ∈ c, 0 ≤ x.1
  | [], _, _, _, x, hx => by cases hx
  | y :: r, b, h, hb, x, hx => by
    obtain ⟨h1, _, _, h4, h5⟩ := h
    rcases List.mem_cons.1 hx with rfl | hx
    · omega
    · exact consec_pos r _ h5 (by omega) x hx
theorem scanAt_val {b n i : Int} (h : 0 ≤ scanAt b n i) : scanAt b n i = i - b ∧ b ≤ i ∧ i ≤ b + n - 1 := by
  obtain ⟨h1, h2⟩ := (scanAt_pos b n i).1 h
  refine ⟨?_, h1, h2⟩
  unfold scanAt
  rw [if_pos ⟨h1, h2⟩]
theorem sLogSeek_E : EnvSound Tryz.prog E_sLogSeek := mkE_sound (by simp [sTextAt_sound, sFileOf_sound, sSeekRecord_sound])
theorem sLogSeek_sound : Sound Tryz.prog 12 (sg [pDisk, pI] [rS, rI]) logSeekSpec := vBody_sound sLogSeek_E noInl_ok Tryz.func12 (by kernel_rfl) fun cs outs hk h => by
  unfold logSeekSpec at h
  split at h
  · simp only [Option.some.injEq, Prod.mk.injEq, Bool.and_eq_true] at h
    obtain ⟨⟨hd, hi⟩, rfl⟩ := h
    rename_i ns es os ss r x i
    rw [vBody_L, sLogSeek_tree]
    have hne := neOk_of hd
    have tl := textAt_le hd (fileBase (chain (nds ns) (ens es)) i)
    simp only [eval_must', eval_ask', eval_ret', hd, hne, hi, tl, decide_true, Bool.and_self, if_true, decide_eq_true_eq]
    unfold lsRec lsCode lsOk
    cases hh : fileHas (chain (nds ns) (ens es)) i with
    | false =>
      have hb : fileBase (chain (nds ns) (ens es)) i < 0 := by unfold fileBase; rw [hh]; simp
      simp only [hb, if_true, Bool.false_and, Bool.false_eq_true, if_false]
    | true =>
      obtain ⟨m1, m2, m3⟩ := fileLk_facts _ _ _ hh
      have m0 := consec_pos _ _ (chainGo_consec (nds ns) (ens es) 16 0 0) (by omega) _ m1
      have eb : fileBase (chain (nds ns) (ens es)) i = (fileLk (chain (nds ns) (ens es)) i).1 := by unfold fileBase; rw [hh]; rfl
      have hb : ¬ (fileLk (chain (nds ns) (ens es)) i).1 < 0 := by omega
      rw [eb, ← m2]
      generalize fileLk (chain (nds ns) (ens es)) i = y at hb m3 ⊢
      simp only [hb, if_false, Bool.true_and, if_true]
      unfold seekRec seekOk
      cases hs : sealedOk y.2 with
      | false => simp
      | true =>
        have hk := sealed_head hs
        rw [hk] at m3
        simp only [ifI, if_true] at m3
        obtain ⟨v1, v2, v3⟩ := scanAt_val m3
        have c2 : i - rhB y.2 < (scRecs y.2).length := by omega
        simp [v2, c2]
  · cases h
theorem iLogSeek_E : EnvSound Tryz.prog E_iLogSeek := mkE_sound (by simp [scanAtF_sound, fileOfF_sound, iSealedOk_sound])
theorem iLogSeek_sound : Sound Tryz.prog 14 (sg [pDisk, pI] [rS, rI]) logSeekSpec := vBody_sound iLogSeek_E noInl_ok Tryz.func14 (by kernel_rfl) fun cs outs hk h => by
  unfold logSeekSpec at h
  split at h
  · simp only [Option.some.injEq, Prod.mk.injEq, Bool.and_eq_true] at h
    obtain ⟨⟨hd, hi⟩, rfl⟩ := h
    rename_i ns es os ss r x i
    rw [vBody_L, iLogSeek_tree]
    unfold lsRec lsCode lsOk
    simp only [eval_must', eval_ask', eval_ret', hd, if_true]
    cases hh : fileHas (chain (nds ns) (ens es)) i with
    | false => simp only [Bool.false_and, Bool.false_eq_true, if_false]
    | true =>
      obtain ⟨m1, m2, m3⟩ := fileLk_facts _ _ _ hh
      have ht := chain_text hd _ m1
      have ef : fText (fileLk (chain (nds ns) (ens es)) i) = (fileLk (chain (nds ns) (ens es)) i).2 := rfl
      rw [ef]
      generalize fileLk (chain (nds ns) (ens es)) i = y at ht m3 ⊢
      obtain ⟨f1, f2, f3⟩ := scan_facts y.2
      simp only [Bool.true_and, if_true, ht, decide_true]
      cases hs : sealedOk y.2 with
      | false => simp
      | true =>
        have hk := sealed_head hs
        have hhd := (headOk_iff _ _ _ _).1 (head_oks hk).1
        rw [hk] at m3 ⊢
        simp only [ifI, if_true] at m3 ⊢
        obtain ⟨v1, v2, v3⟩ := scanAt_val m3
        rw [List.length_map, v1]
        have z : 0 ≤ i - rhB y.2 := by omega
        have c2 : i - rhB y.2 < (scRecs y.2).length := by omega
        have hkk : (i - rhB y.2).toNat < (scRecs y.2).length := by omega
        have g := map_getD eStr (scRecs y.2) [] (i - rhB y.2).toNat hkk
        have b1 : rhB y.2 ≤ 4294967296 := by omega
        have b2 : (scRecs y.2).length ≤ 16777216 := by omega
        simp only [hhd.2.2.1.1, b1, b2, z, c2, g, decide_true, Bool.and_self, if_true, List.length_cons, List.length_nil, Nat.zero_add, Nat.zero_lt_one, C.is, List.getD_cons_zero, C.toStr, Bool.and_true]
  · cases h
theorem lLogSeek_E : EnvSound Tryz.prog E_lLogSeek := mkE_sound (by simp [szDiskF_sound, toDisk_sound, eqDisk_sound, sLogSeek_sound, iLogSeek_sound])
theorem lLogSeek_sound : Sound Tryz.prog 3 (sg [pLDisk, pI] [rB]) diskIntLaw := vBody_sound lLogSeek_E noInl_ok Tryz.func3 (by kernel_rfl) fun cs outs hk h => by
  unfold diskIntLaw at h
  split at h
  · simp only [Option.some.injEq, Prod.mk.injEq, Bool.and_eq_true] at h
    obtain ⟨⟨hl, hi0⟩, rfl⟩ := h
    rename_i ns es os ss r x i
    rw [vBody_L, lLogSeek_tree]
    have hl' := hl
    unfold lawDisk at hl'
    simp only [Bool.and_eq_true] at hl'
    obtain ⟨⟨g1, g2⟩, g3⟩ := hl'
    have d0 : decide ((0 : Int) ≤ 1048576) = true := by decide
    have d1 : decide ((1048576 : Int) ≤ 1048576) = true := by decide
    have d2 : decide (0 < 1) = true := by decide
    have hi1 : inB i (-9223372036854775808) 9223372036854775807 = true := (in_iff _ _ _).2 ⟨by simpa using hi0.1, by simpa using hi0.2⟩
    simp only [eval_must', eval_ask', eval_ret', d0, d1, d2, g1, g2, g3, Bool.and_self, if_true, decide_eq_true_eq]
    by_cases hs : szDisk (nds ns) (ens es) (ens os) (strs ss) 1048576 < 0
    · simp only [hs, if_true]
    · obtain ⟨_, _, _, q4, q5⟩ := small_disk hl hs
      obtain ⟨r1, r2, r3, r4⟩ := disk_rows g2
      simp only [hs, if_false, List.take_length, g2, q4, q5, r1, r2, r3, r4, hi1, Bool.and_self, if_true, bne_self_eq_false, beq_self_eq_true, Bool.not_true, Bool.false_eq_true, eqDk_self]
  · cases h

end Go.Proofs.YtggmbjbmklimdaaGreatDoor.V
