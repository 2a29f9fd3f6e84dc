/- The value-level interpreter over the model, part D: definitions, or lemmas that show that it is the model's. -/
import Derived.Test.YtpjcnjefffakpaaGreatDoorVC
set_option linter.unusedVariables false
set_option linter.unusedSimpArgs false
set_option linter.unusedSectionVars false
set_option linter.unnecessarySimpa false
namespace Go.Proofs.YtpjcnjefffakpaaGreatDoor.V

section
variable {c : Ctx} {w : World} {β : Beta} {σ : St} {E : Env} {a : Act} {o : Oper} {r : R}

theorem vop_ok (hE : EnvOk c.P E) (hh : HeapOk c w σ.heap σ.next β) (hs : ∀ x, RepW (okD c σ.heap β) w σ.heap σ.next β (a.eval x) (σ.ev x)) (he : vopO E σ o.op = some r) : OpDone c σ β w (execOp a.eval o) r := by
  generalize ho : o.op = op at he
  cases op with
  | move x => exact ok_move hh hs (.inl ho) he
  | assign x => exact ok_move hh hs (.inr ho) he
  | pick x y z => exact ok_pick hh hs ho he
  | binOp op t x y u => exact ok_binOp hE hh hs ho he
  | unOp op t x => exact ok_unOp hh hs ho he
  | convert s d x =>
    cases hf : r.eff with
    | true => exact ok_convBytes hE hh hs ho he hf
    | false => exact ok_convPure hE hh hs ho he hf
  | load t x => exact ok_load hE hh hs ho he
  | store t p x => exact ok_store hE hh hs ho he
  | nilCheck x => exact ok_nilCheck hh hs ho he
  | fieldAddr t x f => exact ok_fieldAddr hE hh hs ho he
  | field t x f => exact ok_field hE hh hs ho he
  | indexAddr t x i => exact ok_indexAddr hE hh hs ho he
  | index t x i => exact ok_index hE hh hs ho he
  | slice t x lo hi mx => exact ok_slice hE hh hs ho he
  | makeSlice t n m => exact ok_makeSlice hE hh hs ho he
  | build t ps => exact ok_build hE hh hs ho he
  | buildSlice t n ps => exact ok_buildSlice hE hh hs ho he
  | alloc t => exact ok_alloc hE hh hs ho he
  | box t x => exact ok_box hE hh hs ho he
  | extract x i => exact ok_extract hh hs ho he
  | makeFunc f first caps =>
    cases f with
    | func f => exact ok_makeFunc hh hs ho he
    | _ => exact (eval_bad he).elim
  | call cl =>
    obtain ⟨callee, args, ats⟩ := cl
    cases callee with
    | builtin b =>
      cases b with
      | len => exact ok_len hE hh hs rfl ho he
      | append => exact ok_append hE hh hs rfl ho he
      | max =>
        simp only [vopO, vop] at he
        split at he
        · rename_i kd n hf
          obtain rfl := ret_eq he
          exact ok_minmax hh hs .max _ (.inl ⟨rfl, rfl⟩) rfl ho hf
        · exact (eval_bad he).elim
      | min =>
        simp only [vopO, vop] at he
        split at he
        · rename_i kd n hf
          obtain rfl := ret_eq he
          exact ok_minmax hh hs .min _ (.inr ⟨rfl, rfl⟩) rfl ho hf
        · exact (eval_bad he).elim
      | _ => exact (eval_bad he).elim
    | _ => exact (eval_bad he).elim
  | _ => exact (eval_bad he).elim

end

section
variable {α : Type} {E : Env} {σ : St}

theorem eval_must' (t : Bool) (n : T α) : (T.must t n).eval = if t then n.eval else none := by cases t <;> rfl
theorem eval_ask' (t : Bool) (y n : T α) : (T.ask t y n).eval = if t then y.eval else n.eval := by cases t <;> rfl
theorem eval_bad' : (T.bad : T α).eval = none := rfl
theorem eval_ret' (x : α) : (T.ret x).eval = some x := rfl

theorem vbin_nat (op : BinOp) (x y : W) (k : W → T α) : (vbin op x y k).eval = ((vbin op x y T.ret).eval).bind fun v => (k v).eval := by
  unfold vbin
  split <;> (try split) <;> (simp only [eval_must', eval_bad', eval_ret', Option.bind_some, Option.bind_none]) <;> (try split) <;> rfl

theorem vslice_nat (lo hi : Option W) (n : Nat) (k : Nat → Nat → T α) : (vslice lo hi n k).eval = ((vslice lo hi n fun x y => T.ret (x, y)).eval).bind fun p => (k p.1 p.2).eval := by
  unfold vslice
  split <;> (simp only [eval_must', eval_bad', eval_ret', Option.bind_some, Option.bind_none]) <;> (try split) <;> rfl

theorem vop_nat (op : Op) (k : R → T α) : (vop E σ op k).eval = (vopO E σ op).bind fun R => (k R).eval := by
  unfold vopO vop
  split
  all_goals (repeat' split)
  all_goals (try simp only [eval_must', eval_ask', eval_bad', eval_ret', Option.bind_some, Option.bind_none])
  all_goals (try rw [vbin_nat])
  all_goals (try (conv => rhs; rw [vbin_nat]))
  all_goals (try rw [vslice_nat])
  all_goals (try (conv => rhs; rw [vslice_nat]))
  all_goals (try (simp only [eval_ret', Option.bind_assoc, Option.bind_some]; done))
  all_goals (repeat' split)
  all_goals (first | rfl | (simp only [eval_ret', eval_must', eval_bad', Option.bind_assoc, Option.bind_some, Option.bind_none]; done) | skip)
  all_goals (repeat' split)
  all_goals (first | rfl | (simp [eval_ret', eval_must', eval_bad', Option.bind_assoc]; done) | skip)
  all_goals (try simp only [eval_must', eval_bad', eval_ret'])
  all_goals (repeat' split)
  all_goals (first | rfl | (simp; done) | skip)
  all_goals (try simp only [eval_must', eval_bad', eval_ret'])
  all_goals (repeat' split)
  all_goals (first | rfl | (simp; done) | skip)
end
end Go.Proofs.YtpjcnjefffakpaaGreatDoor.V

namespace Go.Proofs.YtpjcnjefffakpaaGreatDoor.V

section
variable {E : Env} {σ σ2 : St} {R : R}

/-- operations that leave memory alone -/
def Op.plain : Op → Bool
  | .alloc _ | .box _ _ | .makeSlice _ _ _ | .convert _ _ _ | .store _ _ _ | .buildSlice _ _ _ | .call _ => false
  | _ => true

theorem eval_vslice {α : Type} {r : α} {lo hi : Option W} {n : Nat} {k : Nat → Nat → T α} (h : (vslice lo hi n k).eval = some r) : ∃ x y, (k x y).eval = some r := by
  rw [vslice_nat] at h
  cases hv : (vslice lo hi n fun x y => T.ret (x, y)).eval with
  | none => rw [hv] at h; cases h
  | some p => rw [hv] at h; exact ⟨p.1, p.2, h⟩

theorem eval_vbin {α : Type} {r : α} {op : BinOp} {x y : W} {k : W → T α} (h : (vbin op x y k).eval = some r) : ∃ v, (k v).eval = some r := by
  rw [vbin_nat] at h
  cases hv : (vbin op x y T.ret).eval with
  | none => rw [hv] at h; cases h
  | some p => rw [hv] at h; exact ⟨p, h⟩

theorem plain_pure {op : Op} (hp : Op.plain op = true) (h : vopO E σ op = some R) : ∃ v, R = pureR σ v := by
  cases op <;> simp only [Op.plain] at hp <;> (try cases hp) <;> simp only [vopO, vop] at h
  case binOp op t x y u =>
    repeat' split at h
    all_goals first
      | exact (eval_bad h).elim
      | exact ⟨_, (ret_eq h).symm⟩
      | (obtain ⟨v, h⟩ := eval_vbin h; exact ⟨_, (ret_eq h).symm⟩)
  case slice t x lo hi mx =>
    repeat' split at h
    all_goals first
      | exact (eval_bad h).elim
      | (obtain ⟨x, y, h⟩ := eval_vslice h; exact ⟨_, (ret_eq h).symm⟩)
      | (obtain ⟨_, h⟩ := eval_must h; obtain ⟨x, y, h⟩ := eval_vslice h; exact ⟨_, (ret_eq h).symm⟩)
  case makeFunc f first caps =>
    cases f <;> simp only [vop] at h
    case func f =>
      repeat' split at h
      all_goals first
        | exact (eval_bad h).elim
        | exact ⟨_, (ret_eq h).symm⟩
    all_goals exact (eval_bad h).elim
  all_goals
    repeat' split at h
  all_goals first
    | exact (eval_bad h).elim
    | exact ⟨_, (ret_eq h).symm⟩
    | (obtain ⟨_, h⟩ := eval_must h; exact ⟨_, (ret_eq h).symm⟩)
    | (rcases eval_ask h with ⟨_, h⟩ | ⟨_, h⟩ <;> exact ⟨_, (ret_eq h).symm⟩)


def upto (σ2 : St) (o : Option V.R) : Option V.R := o.map fun r => { r with st := σ2 }

theorem upto_ret (v : W) : upto σ2 (T.ret (pureR σ v)).eval = (T.ret (pureR σ2 v)).eval := rfl
theorem upto_bad : upto σ2 (T.bad : T V.R).eval = (T.bad : T V.R).eval := rfl
theorem upto_must {t : Bool} {x y : T V.R} (h : upto σ2 x.eval = y.eval) : upto σ2 (T.must t x).eval = (T.must t y).eval := by cases t <;> first | rfl | exact h
theorem upto_ask {t : Bool} {x y x' y' : T V.R} (h : upto σ2 x.eval = y.eval) (h' : upto σ2 x'.eval = y'.eval) : upto σ2 (T.ask t x x').eval = (T.ask t y y').eval := by cases t <;> first | exact h | exact h'
theorem upto_vbin {op : BinOp} {x y : W} {k k' : W → T V.R} (h : ∀ v, upto σ2 (k v).eval = (k' v).eval) : upto σ2 (vbin op x y k).eval = (vbin op x y k').eval := by
  rw [vbin_nat, vbin_nat op x y k']
  cases (vbin op x y T.ret).eval with
  | none => rfl
  | some v => exact h v
theorem upto_vslice {lo hi : Option W} {n : Nat} {k k' : Nat → Nat → T V.R} (h : ∀ x y, upto σ2 (k x y).eval = (k' x y).eval) : upto σ2 (vslice lo hi n k).eval = (vslice lo hi n k').eval := by
  rw [vslice_nat, vslice_nat lo hi n k']
  cases (vslice lo hi n fun x y => T.ret (x, y)).eval with
  | none => rfl
  | some p => exact h p.1 p.2

theorem vfill_congr {fields : List (Nat × TypeId)} : ∀ (parts : List (Nat × Operand)) (cells : List L), (∀ p ∈ parts, σ2.ev p.2 = σ.ev p.2) → vfill E σ2 fields cells parts = vfill E σ fields cells parts
  | [], _, _ => rfl
  | (i, x) :: r, cells, h => by
    have e : σ2.ev x = σ.ev x := h (i, x) (by simp)
    have ih := fun cells => vfill_congr (fields := fields) r cells (fun p hp => h p (by simp [hp]))
    simp only [vfill, e, ih]

/-- what is looked at in memory -/
def agree (σ σ2 : St) (x : W) : Prop := ∀ id, id ∈ x.ids → σ2.heap.lookup id = σ.heap.lookup id

theorem agree_ref {id off n : Nat} : agree σ σ2 (.l (.ref id off n)) ↔ σ2.heap.lookup id = σ.heap.lookup id := by simp [agree, W.ids, L.ids]
theorem agree_ptr {id off : Nat} : agree σ σ2 (.l (.ptr id off)) ↔ σ2.heap.lookup id = σ.heap.lookup id := by simp [agree, W.ids, L.ids]
theorem agree_eptr {id r off : Nat} : agree σ σ2 (.l (.eptr id r off)) ↔ σ2.heap.lookup id = σ.heap.lookup id := by simp [agree, W.ids, L.ids]

theorem arrAddr_congr {E : Env} {te : TI} {o : Operand} {x : W} (h : agree σ σ2 x) : arrAddr E σ2.heap te o x = arrAddr E σ.heap te o x := by
  unfold arrAddr
  split <;> try rfl
  rw [agree_eptr] at h
  rw [h]

theorem arrRows_congr {te : TI} {x : W} (h : agree σ σ2 x) : arrRows σ2.heap te x = arrRows σ.heap te x := by
  unfold arrRows
  split <;> try rfl
  rw [agree_eptr] at h
  rw [h]

theorem rowsOf_congr {x : W} (h : agree σ σ2 x) : rowsOf σ2.heap x = rowsOf σ.heap x := by
  unfold rowsOf
  split <;> try rfl
  rename_i id off n
  rw [h id (by simp [W.ids, L.ids])]

theorem capsM_congr {xs : List Operand} (h : ∀ x ∈ xs, σ2.ev x = σ.ev x) (hk : ∀ x ∈ xs, agree σ σ2 (σ.ev x)) : xs.mapM (capOf σ2) = xs.mapM (capOf σ) := by
  induction xs with
  | nil => rfl
  | cons x xs ih =>
    simp only [List.mapM_cons]
    have : capOf σ2 x = capOf σ x := by
      have hx := hk x (by simp)
      unfold capOf
      rw [h x (by simp)]
      generalize σ.ev x = X at hx ⊢
      cases X with
      | l l =>
        cases l with
        | ptr id off =>
          rw [agree_ptr] at hx
          cases off with
          | zero => simp only [hx]
          | succ n => rfl
        | ref id off n => rfl
        | eptr id r off => rfl
        | clo f caps =>
          show (match capIds caps with | [] => Option.map Sum.inr none | _ => none) = (match capIds caps with | [] => Option.map Sum.inr none | _ => none)
          rfl
        | _ => rfl
      | _ => rfl
    rw [ih (fun y hy => h y (by simp [hy])) (fun y hy => hk y (by simp [hy])), this]

theorem vop_plain_congr {op : Op} (hp : Op.plain op = true) (hev : ∀ x, x ∈ op.operands → σ2.ev x = σ.ev x) (hk : ∀ x, x ∈ op.operands → agree σ σ2 (σ.ev x)) : upto σ2 (vopO E σ op) = vopO E σ2 op := by
  cases op <;> simp only [Op.plain] at hp <;> (try cases hp) <;> simp only [Op.operands] at hev hk
  case move x => simp only [vopO, vop]; rw [hev x (by simp)]; exact upto_ret _
  case assign x => simp only [vopO, vop]; rw [hev x (by simp)]; exact upto_ret _
  case pick x y z =>
    simp only [vopO, vop]
    rw [hev x (by simp), hev y (by simp), hev z (by simp)]
    split <;> first | exact upto_bad | exact upto_ret _
  case binOp op t x y u =>
    simp only [vopO, vop]
    rw [hev x (by simp), hev y (by simp)]
    (repeat' split) <;> first | exact upto_bad | exact upto_ret _ | exact upto_vbin fun v => upto_ret _
  case unOp op t x =>
    simp only [vopO, vop]
    rw [hev x (by simp)]
    split <;> first | exact upto_bad | exact upto_ret _
  case load t x =>
    have hx := hk x (by simp)
    simp only [vopO, vop]
    rw [hev x (by simp)]
    generalize σ.ev x = X at hx ⊢
    cases E.Ty t with
    | none => exact upto_bad
    | some ti =>
    rcases X with (l | xs | ps)
    · cases l <;> (try simp only [agree_ref, agree_ptr, agree_eptr] at hx) <;> (try dsimp only) <;> (try rw [hx]) <;> (repeat' split) <;> first | exact upto_bad | exact upto_ret _ | exact upto_must (upto_ret _)
    · first | exact upto_bad | ((repeat' split) <;> exact upto_bad)
    · first | exact upto_bad | ((repeat' split) <;> exact upto_bad)
  case nilCheck x =>
    have hx := hk x (by simp)
    simp only [vopO, vop]
    rw [hev x (by simp)]
    generalize σ.ev x = X at hx ⊢
    rcases X with (l | xs | ps)
    · cases l <;> (try simp only [agree_ref, agree_ptr, agree_eptr] at hx) <;> (try dsimp only) <;> (try rw [hx]) <;> (repeat' split) <;> first | exact upto_bad | exact upto_ret _ | exact upto_must (upto_ret _)
    · first | exact upto_bad | ((repeat' split) <;> exact upto_bad)
    · first | exact upto_bad | ((repeat' split) <;> exact upto_bad)
  case fieldAddr t x f =>
    have hx := hk x (by simp)
    simp only [vopO, vop]
    rw [hev x (by simp)]
    generalize σ.ev x = X at hx ⊢
    cases E.Ty t with
    | none => exact upto_bad
    | some ti =>
    rcases X with (l | xs | ps)
    · cases l <;> (try simp only [agree_ref, agree_ptr, agree_eptr] at hx) <;> (try dsimp only) <;> (try rw [hx]) <;> (repeat' split) <;> first | exact upto_bad | exact upto_ret _ | exact upto_must (upto_ret _)
    · first | exact upto_bad | ((repeat' split) <;> exact upto_bad)
    · first | exact upto_bad | ((repeat' split) <;> exact upto_bad)
  case field t x f =>
    simp only [vopO, vop]
    rw [hev x (by simp)]
    (repeat' split) <;> first | exact upto_bad | exact upto_ret _
  case indexAddr t x y =>
    have hx := hk x (by simp)
    simp only [vopO, vop]
    rw [hev x (by simp), hev y (by simp)]
    generalize σ.ev x = X at hx ⊢
    generalize σ.ev y = Y
    cases E.Arr t with
    | some p =>
      obtain ⟨m, e⟩ := p
      dsimp only
      cases E.Ty e with
      | none => exact upto_bad
      | some te =>
        dsimp only
        rw [arrAddr_congr hx]
        split
        · exact upto_must (upto_ret _)
        · exact upto_bad
    | none =>
    dsimp only
    cases E.Ty t with
    | none => exact upto_bad
    | some ti =>
    rcases X with (l | xs | ps)
    · cases l <;> rcases Y with (y | ys | ps) <;> (try cases y) <;> (try simp only [agree_ref, agree_ptr, agree_eptr] at hx) <;> (try dsimp only) <;> (try rw [hx]) <;> (repeat' split) <;> first | exact upto_bad | exact upto_ret _ | exact upto_must (upto_ret _)
    · first | exact upto_bad | ((repeat' split) <;> exact upto_bad)
    · first | exact upto_bad | ((repeat' split) <;> exact upto_bad)
  case index t x y =>
    simp only [vopO, vop]
    rw [hev x (by simp), hev y (by simp)]
    (repeat' split) <;> first | exact upto_bad | exact upto_ret _ | exact upto_must (upto_ret _)
  case slice t x lo hi mx =>
    have hx := hk x (by simp)
    have hlo : lo.map σ2.ev = lo.map σ.ev := by cases lo with | none => rfl | some y => simp only [Option.map_some]; rw [hev y (by simp)]
    have hhi : hi.map σ2.ev = hi.map σ.ev := by cases hi with | none => rfl | some y => simp only [Option.map_some]; rw [hev y (by simp)]
    simp only [vopO, vop]
    rw [hev x (by simp), hlo, hhi]
    generalize σ.ev x = X at hx ⊢
    cases E.Arr t with
    | some p =>
      obtain ⟨m, e⟩ := p
      dsimp only
      cases E.Ty e with
      | none => exact upto_bad
      | some te =>
        dsimp only
        rw [arrRows_congr hx]
        split
        · split
          · exact upto_must (upto_vslice fun _ _ => upto_ret _)
          · exact upto_bad
        · exact upto_bad
    | none =>
    dsimp only
    cases mx with
    | some m =>
      cases E.Ty t with
      | none => exact upto_bad
      | some ti => rcases X with (l | xs | ps) <;> (try cases l) <;> exact upto_bad
    | none =>
    cases E.Ty t with
    | none => exact upto_bad
    | some ti =>
    rcases X with (l | xs | ps)
    · cases l <;> (try simp only [agree_ref, agree_ptr, agree_eptr] at hx) <;> (try dsimp only) <;> (try rw [hx]) <;> (repeat' split) <;> first | exact upto_bad | exact upto_vslice fun _ _ => upto_ret _ | exact upto_must (upto_vslice fun _ _ => upto_ret _)
    · first | exact upto_bad | ((repeat' split) <;> exact upto_bad)
    · first | exact upto_bad | ((repeat' split) <;> exact upto_bad)
  case build t ps =>
    simp only [vopO, vop]
    have : ∀ fields cells, vfill E σ2 fields cells ps.toList = vfill E σ fields cells ps.toList := fun fields cells => vfill_congr ps.toList cells fun p hp => hev p.2 (by simp; exact ⟨p.1, by simpa using hp⟩)
    simp only [this]
    (repeat' split) <;> first | exact upto_bad | exact upto_ret _
  case extract x i =>
    simp only [vopO, vop]
    rw [hev x (by simp)]
    (repeat' split) <;> first | exact upto_bad | exact upto_ret _
  case makeFunc f first caps =>
    cases f with
    | func f =>
      simp only [vopO, vop]
      rw [capsM_congr (σ := σ) (σ2 := σ2) (xs := caps.toList) (fun x hx => hev x (by simp; exact .inr (by simpa using hx))) (fun x hx => hk x (by simp; exact .inr (by simpa using hx)))]
      (repeat' split) <;> first | exact upto_bad | exact upto_ret _
    | _ => exact upto_bad
  all_goals exact upto_bad

theorem vop_pure_congr {op : Op} (hev : ∀ x, x ∈ op.operands → σ2.ev x = σ.ev x) (hk : ∀ x, x ∈ op.operands → agree σ σ2 (σ.ev x)) {R : V.R} (h : vopO E σ op = some R) (hf : R.eff = false) :
    ∃ v, R = pureR σ v ∧ vopO E σ2 op = some (pureR σ2 v) := by
  by_cases hp : Op.plain op = true
  · obtain ⟨v, rfl⟩ := plain_pure hp h
    refine ⟨v, rfl, ?_⟩
    rw [← vop_plain_congr hp hev hk, h]
    rfl
  · have fin : (upto σ2 (vopO E σ op) = vopO E σ2 op) → (∃ v, R = pureR σ v) → ∃ v, R = pureR σ v ∧ vopO E σ2 op = some (pureR σ2 v) := by
      rintro h1 ⟨v, rfl⟩
      exact ⟨v, rfl, by rw [← h1, h]; rfl⟩
    cases op <;> simp only [Op.plain, not_true, not_false_iff] at hp <;> simp only [Op.operands] at hev hk
    case alloc t =>
      exfalso
      simp only [vopO, vop] at h
      (repeat' split at h) <;> first | exact eval_bad h | (obtain rfl := ret_eq h; cases hf)
    case box t x =>
      exfalso
      simp only [vopO, vop] at h
      (repeat' split at h) <;> first | exact eval_bad h | (obtain rfl := ret_eq h; cases hf)
    case makeSlice t n m =>
      exfalso
      simp only [vopO, vop] at h
      (repeat' split at h) <;> first | exact eval_bad h | (obtain ⟨_, h⟩ := eval_must h; obtain rfl := ret_eq h; cases hf)
    case store t p x =>
      exfalso
      simp only [vopO, vop] at h
      (repeat' split at h) <;> first | exact eval_bad h | (obtain rfl := ret_eq h; cases hf) | (obtain ⟨_, h⟩ := eval_must h; obtain rfl := ret_eq h; cases hf)
    case buildSlice t n ps =>
      exfalso
      simp only [vopO, vop] at h
      (repeat' split at h) <;> first | exact eval_bad h | (obtain rfl := ret_eq h; cases hf)
    case convert s d x =>
      have hx := hk x (by simp)
      have hr := rowsOf_congr hx
      simp only [vopO, vop] at h ⊢
      rw [hev x (by simp), hr]
      (repeat' split at h) <;> first
        | exact (eval_bad h).elim
        | (obtain rfl := ret_eq h; first | (exfalso; cases hf; done) | exact ⟨_, rfl, by simp_all [eval_ret', eval_must', pureR]⟩)
        | (obtain ⟨hm, h⟩ := eval_must h; obtain rfl := ret_eq h; first | (exfalso; cases hf; done) | exact ⟨_, rfl, by simp_all [eval_ret', eval_must', pureR]⟩)
    case call cl =>
      obtain ⟨callee, args, ats⟩ := cl
      cases callee with
      | builtin b =>
        simp only [Call.operands] at hev hk
        cases b with
        | len =>
          simp only [vopO, vop] at h ⊢
          split at h
          · rename_i x t hx0 ht0
            have hxm : x ∈ args := Array.mem_of_getElem? hx0
            have hx := hk x (by simpa using hxm)
            rw [hev x (by simpa using hxm)]
            generalize hX : σ.ev x = X at hx h ⊢
            rcases X with (l | xs | ps)
            · cases l <;> (try simp only [agree_ref, agree_ptr, agree_eptr] at hx) <;> (try dsimp only) <;> (try rw [hx]) <;> (repeat' split at h) <;> first
                | exact (eval_bad h).elim
                | (obtain rfl := ret_eq h; exact ⟨_, rfl, by simp_all [eval_ret', pureR]⟩)
            · cases hT : E.Ty t <;> rw [hT] at h <;> exact (eval_bad h).elim
            · cases hT : E.Ty t <;> rw [hT] at h <;> exact (eval_bad h).elim
          · exact (eval_bad h).elim
        | append =>
          exfalso
          simp only [vopO, vop] at h
          (repeat' split at h) <;> first | exact eval_bad h | (obtain ⟨_, h⟩ := eval_must h; obtain rfl := ret_eq h; cases hf)
        | max =>
          have : args.toList.map σ2.ev = args.toList.map σ.ev := List.map_congr_left fun x hx => hev x (by simpa using hx)
          simp only [vopO, vop] at h ⊢
          rw [this]
          (repeat' split at h) <;> first | exact (eval_bad h).elim | (obtain rfl := ret_eq h; exact ⟨_, rfl, rfl⟩)
        | min =>
          have : args.toList.map σ2.ev = args.toList.map σ.ev := List.map_congr_left fun x hx => hev x (by simpa using hx)
          simp only [vopO, vop] at h ⊢
          rw [this]
          (repeat' split at h) <;> first | exact (eval_bad h).elim | (obtain rfl := ret_eq h; exact ⟨_, rfl, rfl⟩)
        | _ => exact (eval_bad h).elim
      | _ => exact (eval_bad h).elim


def reslot (s2 : List (Nat × W)) (r : V.R) : V.R := { r with st := { r.st with slots := s2 } }
def upts (s2 : List (Nat × W)) (o : Option V.R) : Option V.R := o.map (reslot s2)

theorem upts_ret {s2 : List (Nat × W)} {x y : V.R} (h : reslot s2 x = y) : upts s2 (T.ret x).eval = (T.ret y).eval := by subst h; rfl
theorem upts_bad {s2 : List (Nat × W)} : upts s2 (T.bad : T V.R).eval = (T.bad : T V.R).eval := rfl
theorem upts_must {s2 : List (Nat × W)} {t : Bool} {x y : T V.R} (h : upts s2 x.eval = y.eval) : upts s2 (T.must t x).eval = (T.must t y).eval := by cases t <;> first | rfl | exact h

theorem vop_slots {s2 : List (Nat × W)} {op : Op} (hev : ∀ x, x ∈ op.operands → ({ σ with slots := s2 } : St).ev x = σ.ev x) : upts s2 (vopO E σ op) = vopO E { σ with slots := s2 } op := by
  by_cases hp : Op.plain op = true
  · rw [← vop_plain_congr hp hev (fun _ _ _ _ => rfl)]
    cases h : vopO E σ op with
    | none => rfl
    | some r => obtain ⟨v, rfl⟩ := plain_pure hp h; rfl
  · cases op <;> simp only [Op.plain, not_true, not_false_iff] at hp <;> simp only [Op.operands] at hev
    case alloc t =>
      simp only [vopO, vop]
      (repeat' split) <;> first | exact upts_bad | exact upts_ret rfl
    case box t x =>
      simp only [vopO, vop]
      rw [hev x (by simp)]
      (repeat' split) <;> first | exact upts_bad | exact upts_ret rfl
    case makeSlice t n m =>
      simp only [vopO, vop]
      rw [hev n (by simp), hev m (by simp)]
      (repeat' split) <;> first | exact upts_bad | exact upts_must (upts_ret rfl)
    case store t p x =>
      simp only [vopO, vop]
      rw [hev p (by simp), hev x (by simp)]
      (repeat' split) <;> first | exact upts_bad | exact upts_ret rfl | exact upts_must (upts_ret rfl)
    case buildSlice t n ps =>
      have h1 : (ps.toList.mapM fun p => (lsOf (({ σ with slots := s2 } : St).ev p.2)).bind (datas σ.heap)) = ps.toList.mapM fun p => (lsOf (σ.ev p.2)).bind (datas σ.heap) := by
        have : ∀ p ∈ ps.toList, ({ σ with slots := s2 } : St).ev p.2 = σ.ev p.2 := fun p hp => hev p.2 (by simp; exact ⟨p.1, by simpa using hp⟩)
        revert this
        generalize ps.toList = l
        intro this
        induction l with
        | nil => rfl
        | cons p l ih => simp only [List.mapM_cons]; rw [this p (by simp), ih (fun q hq => this q (by simp [hq]))]
      have h2 : (ps.toList.flatMap fun p => (({ σ with slots := s2 } : St).ev p.2).ids) = ps.toList.flatMap fun p => (σ.ev p.2).ids := by
        have : ∀ p ∈ ps.toList, ({ σ with slots := s2 } : St).ev p.2 = σ.ev p.2 := fun p hp => hev p.2 (by simp; exact ⟨p.1, by simpa using hp⟩)
        revert this
        generalize ps.toList = l
        intro this
        induction l with
        | nil => rfl
        | cons p l ih => simp only [List.flatMap_cons]; rw [this p (by simp), ih (fun q hq => this q (by simp [hq]))]
      simp only [vopO, vop]
      rw [h1, h2]
      (repeat' split) <;> first | exact upts_bad | exact upts_ret rfl
    case convert s d x =>
      simp only [vopO, vop]
      rw [hev x (by simp)]
      (repeat' split) <;> first | exact upts_bad | exact upts_ret rfl | exact upts_must (upts_ret rfl)
    case call cl =>
      obtain ⟨callee, args, ats⟩ := cl
      cases callee with
      | builtin b =>
        simp only [Call.operands] at hev
        cases b with
        | len =>
          simp only [vopO, vop]
          cases hx0 : args[0]? with
          | none => exact upts_bad
          | some x =>
            have hxm : x ∈ args := Array.mem_of_getElem? hx0
            cases ats[0]? with
            | none => exact upts_bad
            | some t =>
            dsimp only
            rw [hev x (by simpa using hxm)]
            (repeat' split) <;> first | exact upts_bad | exact upts_ret rfl
        | append =>
          simp only [vopO, vop]
          split
          · rename_i y x t u hargs hats
            have hargs' : args = #[y, x] := by apply Array.ext'; simpa using hargs
            subst hargs'
            rw [hev y (by simp), hev x (by simp)]
            (repeat' split) <;> first | exact upts_bad | exact upts_must (upts_ret rfl)
          · exact upts_bad
        | max =>
          have : args.toList.map ({ σ with slots := s2 } : St).ev = args.toList.map σ.ev := List.map_congr_left fun x hx => hev x (by simpa using hx)
          simp only [vopO, vop]
          rw [this]
          (repeat' split) <;> first | exact upts_bad | exact upts_ret rfl
        | min =>
          have : args.toList.map ({ σ with slots := s2 } : St).ev = args.toList.map σ.ev := List.map_congr_left fun x hx => hev x (by simpa using hx)
          simp only [vopO, vop]
          rw [this]
          (repeat' split) <;> first | exact upts_bad | exact upts_ret rfl
        | _ => exact upts_bad
      | _ => exact upts_bad

end
end Go.Proofs.YtpjcnjefffakpaaGreatDoor.V

namespace Go.Proofs.YtpjcnjefffakpaaGreatDoor.V

def CellsOk (w : World) (ok : Nat → Prop) (cur : Array Value) (cs : List C) : Prop :=
  cur.size = cs.length ∧ ∀ (j : Nat) (d : C), cs[j]? = some d → ∃ u, cur[j]? = some u ∧ Rep w ok u d

/-- a parameter's value reads as data -/
def RepV (w : World) (ok : Nat → Prop) : Bool → Value → List C → Prop
  | true, v, cs => ∃ us : Array Value, v = .agg us ∧ CellsOk w ok us cs
  | false, v, cs => ∃ d, cs = [d] ∧ Rep w ok v d

inductive ArgsOk (w : World) (ok : Nat → Prop) : List PTy → List Value → List C → List Nat → Prop
  | nil : ArgsOk w ok [] [] [] []
  | val {agg : Bool} {ks : List K} {ps : List PTy} {v : Value} {vs : List Value} {cs1 cs : List C} {pb : List Nat} : cs1.length = ks.length → RepV w ok agg v cs1 → ArgsOk w ok ps vs cs pb → ArgsOk w ok (.val agg ks :: ps) (v :: vs) (cs1 ++ cs) pb
  | box {ks : List K} {ps : List PTy} {vs : List Value} {cs1 cs : List C} {pb : List Nat} {b : Nat} {cur : Array Value} {E : TypeId} {fr : Nat × Nat} : cs1.length = ks.length → w.heap[b]? = some (.cells cur E fr) → thawed cur.size fr → CellsOk w ok cur cs1 →
      ArgsOk w ok ps vs cs pb → ArgsOk w ok (.box ks :: ps) (.pointer (some ⟨b, 0, none⟩) :: vs) (cs1 ++ cs) (b :: pb)

inductive LeavesOut (P : Program) (w : World) (ok : Nat → Prop) : List (K × Bool) → List Value → List C → List (Option Nat) → Prop
  | nil : LeavesOut P w ok [] [] [] []
  | data {kd : K} {ks : List (K × Bool)} {v : Value} {vs : List Value} {c : C} {cs : List C} {bs : List (Option Nat)} : Rep w ok v c → LeavesOut P w ok ks vs cs bs → LeavesOut P w ok ((kd, false) :: ks) (v :: vs) (c :: cs) bs
  | none {e : TypeId} {ks : List (K × Bool)} {a : Option Addr} {vs : List Value} {cs : List C} {bs : List (Option Nat)} : LeavesOut P w ok ks vs cs bs → LeavesOut P w ok ((.slice e, true) :: ks) (.slice a 0 0 :: vs) (.sl [] :: cs) (.none :: bs)
  | own {e : TypeId} {ks : List (K × Bool)} {vs : List Value} {rows : List (List C)} {cs : List C} {bs : List (Option Nat)} {b cap : Nat} {cur : Array Value} {E : TypeId} {fr : Nat × Nat} {i : TypeInfo} : P.info? e = some i → rows.length ≤ cap →
      w.heap[b]? = some (.cells cur E fr) → thawed cur.size fr → cap * i.size ≤ cur.size →
      (∀ (k : Nat) (r : List C) (j : Nat) (x : C), rows[k]? = some r → r[j]? = some x → ∃ u, cur[k * i.size + j]? = some u ∧ Rep w ok u x) → LeavesOut P w ok ks vs cs bs →
      LeavesOut P w ok ((.slice e, true) :: ks) (.slice (some ⟨b, 0, none⟩) rows.length cap :: vs) (.sl rows :: cs) (some b :: bs)

inductive RetsOut (P : Program) (w : World) (ok : Nat → Prop) : List RTy → List Value → List C → List (Option Nat) → Prop
  | nil : RetsOut P w ok [] [] [] []
  | agg {t : RTy} {ts : List RTy} {us : Array Value} {vs : List Value} {cs1 cs : List C} {bs1 bs : List (Option Nat)} : t.agg = true → LeavesOut P w ok t.ls us.toList cs1 bs1 → RetsOut P w ok ts vs cs bs → RetsOut P w ok (t :: ts) (.agg us :: vs) (cs1 ++ cs) (bs1 ++ bs)
  | one {t : RTy} {ts : List RTy} {v : Value} {vs : List Value} {cs1 cs : List C} {bs1 bs : List (Option Nat)} : t.agg = false → LeavesOut P w ok t.ls [v] cs1 bs1 → RetsOut P w ok ts vs cs bs → RetsOut P w ok (t :: ts) (v :: vs) (cs1 ++ cs) (bs1 ++ bs)

inductive BoxesOut (w w' : World) (ok : Nat → Prop) : List PTy → List Nat → List C → Prop
  | nil : BoxesOut w w' ok [] [] []
  | val {agg : Bool} {ks : List K} {ps : List PTy} {pb : List Nat} {cs : List C} : BoxesOut w w' ok ps pb cs → BoxesOut w w' ok (.val agg ks :: ps) pb cs
  | box {ks : List K} {ps : List PTy} {pb : List Nat} {cs1 cs : List C} {b : Nat} {cur cur' : Array Value} {E : TypeId} {fr : Nat × Nat} : cs1.length = ks.length → w.heap[b]? = some (.cells cur E fr) → w'.heap[b]? = some (.cells cur' E fr) → cur'.size = cur.size → CellsOk w' ok cur' cs1 →
      BoxesOut w w' ok ps pb cs → BoxesOut w w' ok (.box ks :: ps) (b :: pb) (cs1 ++ cs)

def retV : List Value → Value
  | [v] => v
  | vs => .tuple vs.toArray

/-- what came out of a call -/
structure After (P : Program) (w : World) (okR : Nat → Prop) (pb : List Nat) (sig : Sig) (outs : List C) (v : Value) (w' : World) : Prop where
  out : ∃ vs bs cs1 cs2 okN, (∀ b, okN b → (sig.nested = true ∧ okR b) ∨ (w.heap.size ≤ b ∧ some b ∉ bs)) ∧ v = retV vs ∧ outs = cs1 ++ cs2 ∧ RetsOut P w' okN sig.results vs cs1 bs ∧
    BoxesOut w w' okN sig.params pb cs2 ∧ (∀ (i j b : Nat), bs[i]? = some (some b) → bs[j]? = some (some b) → i = j) ∧ (∀ b, some b ∈ bs → w.heap.size ≤ b ∧ b < w'.heap.size)
  size : w.heap.size ≤ w'.heap.size
  frame : ∀ b, b < w.heap.size → b ∉ pb → w'.heap[b]? = w.heap[b]?
  os : w'.os = w.os
  output : w'.output = w.output

def Goes (P : Program) (f : FuncId) (args : Array Value) (w : World) (R : Value → World → Prop) : Prop :=
  ((callFunc f args).run P w = .ok (.enter f args) w ∧ Calls P f args w fun e w' => ∃ v, e = .returned v ∧ R v w') ∨ ∃ v w', (callFunc f args).run P w = .ok (.value v) w' ∧ R v w'

theorem Goes.mono {P : Program} {f : FuncId} {args : Array Value} {w : World} {R R' : Value → World → Prop} (h : Goes P f args w R) (hr : ∀ v w', R v w' → R' v w') : Goes P f args w R' := by
  rcases h with ⟨h1, h2⟩ | ⟨v, w', h1, h2⟩
  · exact .inl ⟨h1, h2.mono fun e w' ⟨v, he, hv⟩ => ⟨v, he, hr _ _ hv⟩⟩
  · exact .inr ⟨v, w', h1, hr _ _ h2⟩

/-- a function's law -/
def Sound (P : Program) (f : FuncId) (sig : Sig) (spec : Spec) : Prop :=
  ∀ (w : World) (okR : Nat → Prop) (pb : List Nat) (vals : List Value) (cs outs : List C), (∀ b, okR b → b < w.heap.size ∧ b ∉ pb) → GlobOk P w okR → pb.Nodup → ArgsOk w okR sig.params vals cs pb → kindsOk cs (allKinds sig.params) = true →
    spec cs = some (true, outs) → Goes P f vals.toArray w (After P w okR pb sig outs)

/-- what an operation or a call comes to -/
def Done (c : Ctx) (σ : St) (β : Beta) (w : World) (r : R) (v : Value) (w' : World) : Prop :=
  ∃ β', HeapOk c w' r.st.heap r.st.next β' ∧ Ext c w σ.heap σ.next β w' r.st.heap r.st.next β' ∧ RepW (okD c r.st.heap β') w' r.st.heap r.st.next β' v r.val ∧ r.st.slots = σ.slots ∧ r.st.pins = σ.pins ∧
    (∀ id cells, σ.heap.lookup id = some (.box cells) → ∃ cells', r.st.heap.lookup id = some (.box cells') ∧ cells'.length = cells.length ∧ β' id = β id)

section
variable {c : Ctx} {w w' : World} {h : Heap} {nx : Nat} {β : Beta}

theorem CellsOk.rep {ok ok' : Nat → Prop} {w : World} {cur : Array Value} {cs : List C} (hc : CellsOk w ok cur cs) (hk : ∀ b, ok b → b < w.heap.size → ok' b) : CellsOk w ok' cur cs :=
  ⟨hc.1, fun j d hj => let ⟨u, hu, hr⟩ := hc.2 j d hj; ⟨u, hu, hr.mono (fun b hb hlt => ⟨hk b hb hlt, rfl⟩) (Nat.le_refl _)⟩⟩

theorem arg_ok (hh : HeapOk c w h nx β) {okR : Nat → Prop} (hok : ∀ b, okD c h β b → b < w.heap.size → okR b) {vids : List Nat} (hid : ∀ id b blk, id ∈ vids → h.lookup id = some blk → β id = some b → okR b)
    {v : Value} {x : L} {d : C} (hr : RepL (okD c h β) w h nx β v x) (hd : x.arg h = some d) (hx : ∀ id, id ∈ x.ids → id ∈ vids) (hx2 : ∀ id, id ∈ boxRefs h x.ids → id ∈ vids) : Rep w okR v d := by
  have data : ∀ {v : Value} {x : L} {d : C}, RepL (okD c h β) w h nx β v x → x.data h = some d → (∀ id, id ∈ x.ids → id ∈ vids) → Rep w okR v d := fun {v x d} hr hd hx =>
    (data_rep hh (ok' := fun b => b < w.heap.size → okR b) (fun b hb hlt => hok b hb hlt) (fun id b blk p hxi hl hr' hb _ => hid id b blk (hx id hxi) hl hb) hr hd).mono (fun b hb hlt => ⟨hb hlt, rfl⟩) (Nat.le_refl _)
  have box : ∀ {v : Value} {id : Nat} {d : C}, (∀ cells, h.lookup id = some (.box cells) → ∃ b, β id = some b ∧ v = .pointer (some ⟨b, 0, none⟩)) → boxC h id = some d → id ∈ vids → (∀ id', id' ∈ boxRefs h [id] → id' ∈ vids) → Rep w okR v d := fun {v id d} hv hd hi hi2 => by
    unfold boxC at hd
    split at hd
    · rename_i cells hl
      obtain ⟨b, hb, rfl⟩ := hv cells hl
      cases hds : datas h cells with
      | none => rw [hds] at hd; cases hd
      | some row =>
        rw [hds] at hd
        obtain rfl := Option.some.inj hd
        obtain ⟨b', cur, E, fr, hb2, hw, hth, hrep⟩ := (hh.blk id _ hl).2
        obtain rfl : b' = b := by rw [hb] at hb2; exact (Option.some.inj hb2).symm
        obtain ⟨h1, h2⟩ := datas_rep hh (ok' := fun b => b < w.heap.size → okR b) (fun b hb hlt => hok b hb hlt) (fun id' b blk p hxi hl' hr' hb _ => hid id' b blk (hi2 id' (by simp [boxRefs, hl]; simpa using hxi)) hl' hb) hrep hds
        refine .pt b' 0 row (fun j => cur.getD j undef) (hid id b' _ hi hl hb) (hh.place id _ b' hl hb).2 (fun j hj => ?_) fun j y hj => ?_
        · rw [cell_of_row w b' _ cur E fr hw]
          have : j < cur.size := by omega
          simp [this]
        · obtain ⟨u, hu, hru⟩ := h2 j y hj
          rw [Array.getD_eq_getD_getElem?, hu]
          exact hru.mono (fun b hb hlt => ⟨hb hlt, rfl⟩) (Nat.le_refl _)
    · cases hd
  cases x with
  | ptr id off =>
    cases off with
    | succ n => simp [L.arg, L.data] at hd
    | zero => exact box hr.2.2 hd (hx id (by simp [L.ids])) fun id' hi => hx2 id' (by simpa [L.ids] using hi)
  | rp row off =>
    obtain rfl := Option.some.inj hd
    obtain ⟨b, o, rfl, h1, h2, h3⟩ := hr
    have mono : ∀ {v : Value} {d : C}, Rep w (okD c h β) v d → Rep w okR v d := fun hr => hr.mono (fun b hb hlt => ⟨hok b hb hlt, rfl⟩) (Nat.le_refl _)
    refine .pt b o _ (fun j => (w.cell? ⟨b, o + j, none⟩).getD undef) (hok b h1 h2) h2 (fun j hj => ?_) fun j y hj => ?_
    · have hj' : off + j < row.length := by simp at hj; omega
      obtain ⟨u, hu, _⟩ := h3 j _ (List.getElem?_eq_getElem hj')
      rw [hu]; rfl
    · rw [List.getElem?_drop] at hj
      obtain ⟨u, hu, hru⟩ := h3 j y hj
      rw [hu]
      exact mono hru
  | clo f caps =>
    obtain ⟨vs, rfl, hl, hcap⟩ := hr
    simp only [L.arg] at hd
    cases hm : caps.mapM (capC h) with
    | none => rw [hm] at hd; cases hd
    | some cs =>
      rw [hm] at hd
      obtain rfl := Option.some.inj hd
      refine .fn f vs cs (by rw [hl]; exact (mapM_some_length hm).symm) fun i u y hu hy => ?_
      cases hci : caps[i]? with
      | none =>
        have h1 := List.getElem?_eq_none_iff.1 hci
        have h2 := (List.getElem?_eq_some_iff.1 hu).1
        omega
      | some cp =>
        have hg := mapM_some_get hm i cp hci
        rw [hy] at hg
        have hc := hcap i u cp hu hci
        cases cp with
        | inr z =>
          obtain rfl := Option.some.inj hg
          exact Rep.mono (ok := okD c h β) hc (fun b hb hlt => ⟨hok b hb hlt, rfl⟩) (Nat.le_refl _)
        | inl id =>
          have hmem : id ∈ capIds caps := by
            have : (Sum.inl id : Sum Nat C) ∈ caps := List.mem_of_getElem? hci
            clear hcap hm hci hl hx hx2
            induction caps with
            | nil => cases this
            | cons z r ih =>
              rcases List.mem_cons.1 this with rfl | hm
              · simp [capIds]
              · cases z <;> simp [capIds, ih hm]
          exact box hc.2.2 hg (hx id (by simpa [L.ids] using hmem)) fun id' hi => hx2 id' (by
            simp only [boxRefs, List.mem_flatMap] at hi ⊢
            obtain ⟨z, hz1, hz2⟩ := hi
            obtain rfl : z = id := by simpa using hz1
            exact ⟨z, by simpa [L.ids] using hmem, hz2⟩)
  | _ => exact data hr hd hx

/-- the arguments, as data -/
theorem passArgs_ok (hh : HeapOk c w h nx β) {okR : Nat → Prop} (hok : ∀ b, okD c h β b → b < w.heap.size → okR b) {vids : List Nat} (hid : ∀ id b blk, id ∈ vids → h.lookup id = some blk → β id = some b → okR b) :
    ∀ {ps : List PTy} {ws : List W} {vals : List Value} {cs : List C}, passArgs h ps ws = some cs → (∀ id, id ∈ valIds h ps ws → id ∈ vids) → vals.length = ws.length →
      (∀ (i : Nat) (v : Value) (x : W), vals[i]? = some v → ws[i]? = some x → RepW (okD c h β) w h nx β v x) →
      ∃ pb, ArgsOk w okR ps vals cs pb ∧ (boxIds ps ws).map β = pb.map some ∧ ∀ id, id ∈ boxIds ps ws → ∃ cells, h.lookup id = some (.box cells)
  | [], [], vals, cs, hp, _, hl, _ => by
    simp only [passArgs, Option.some.injEq] at hp
    subst hp
    have : vals = [] := List.length_eq_zero_iff.1 hl
    subst this
    exact ⟨[], .nil, rfl, fun id hi => by simp [boxIds] at hi⟩
  | [], _ :: _, _, _, hp, _, _, _ => by simp [passArgs] at hp
  | p :: ps, ws, vals, cs, hp, hi, hl, hv => by
    have cells : ∀ {cur : Array Value} {xs : List L} {ds : List C}, RepLs (okD c h β) w h nx β cur xs → datas h xs = some ds → (∀ id, id ∈ xs.flatMap L.ids → id ∈ vids) → CellsOk w okR cur ds := fun {cur xs ds} hr hd hx => by
      obtain ⟨h1, h2⟩ := datas_rep hh (ok' := fun b => b < w.heap.size → okR b) (fun b hb hlt => hok b hb hlt) (fun id b blk p hxi hl hr' hb _ => hid id b blk (hx id hxi) hl hb) hr hd
      exact ⟨h1, fun j d hj => let ⟨u, hu, hr⟩ := h2 j d hj; ⟨u, hu, hr.mono (fun b hb hlt => ⟨hb hlt, rfl⟩) (Nat.le_refl _)⟩⟩
    cases ws with
    | nil => cases p with
      | val agg ks => cases agg <;> simp [passArgs] at hp
      | box ks => simp [passArgs] at hp
    | cons x ws =>
      cases vals with
      | nil => simp at hl
      | cons v vals =>
        have hv0 : RepW (okD c h β) w h nx β v x := hv 0 v x rfl rfl
        have hvs : ∀ (i : Nat) (v : Value) (x : W), vals[i]? = some v → ws[i]? = some x → RepW (okD c h β) w h nx β v x := fun i v x h1 h2 => hv (i + 1) v x (by simpa using h1) (by simpa using h2)
        have hl' : vals.length = ws.length := by simpa using hl
        unfold passArgs at hp
        split at hp
        · cases ‹_ :: _ = _›
        · rename_i ks ps' x' ws' h1 h2
          simp only [List.cons.injEq] at h1 h2
          obtain ⟨rfl, rfl⟩ := h1
          obtain ⟨rfl, rfl⟩ := h2
          split at hp
          · rename_i cs1 r hd hr
            split at hp
            · rename_i hk
              obtain rfl := Option.some.inj hp
              have hids : ∀ id, id ∈ valIds h ps ws → id ∈ vids := fun id hx => hi id (by simp [valIds, hx])
              obtain ⟨pb, ha, hb, hbx⟩ := passArgs_ok hh hok hid hr hids hl' hvs
              refine ⟨pb, .val (cs1 := [cs1]) hk.symm ⟨cs1, rfl, arg_ok hh hok hid hv0 hd (fun id hx => hi id ?_) fun id hx => hi id ?_⟩ ha, by simpa [boxIds] using hb, fun id hx => hbx id (by simpa [boxIds] using hx)⟩
              · simp [valIds, W.ids, hx]
              · simp [valIds, W.ids, hx]
            · cases hp
          · cases hp
        · rename_i ks ps' xs ws' h1 h2
          simp only [List.cons.injEq] at h1 h2
          obtain ⟨rfl, rfl⟩ := h1
          obtain ⟨rfl, rfl⟩ := h2
          split at hp
          · rename_i cs1 r hd hr
            split at hp
            · rename_i hk
              obtain rfl := Option.some.inj hp
              have hids : ∀ id, id ∈ valIds h ps ws → id ∈ vids := fun id hx => hi id (by simp [valIds, hx])
              obtain ⟨pb, ha, hb, hbx⟩ := passArgs_ok hh hok hid hr hids hl' hvs
              obtain ⟨us, rfl, hus⟩ := hv0
              have hc := cells hus hd fun id hx => hi id (by simp only [valIds, W.ids, List.append_assoc]; exact List.mem_append_left _ hx)
              refine ⟨pb, .val (by rw [(datas_get hd).1, hk]) ⟨us, rfl, hc⟩ ha, by simpa [boxIds] using hb, fun id hx => hbx id (by simpa [boxIds] using hx)⟩
            · cases hp
          · cases hp
        · rename_i ks ps' id ws' h1 h2
          simp only [List.cons.injEq] at h1 h2
          obtain ⟨rfl, rfl⟩ := h1
          obtain ⟨rfl, rfl⟩ := h2
          split at hp
          · rename_i cells0 r hlk hr
            split at hp
            · rename_i cs1 hd
              split at hp
              · rename_i hk
                obtain rfl := Option.some.inj hp
                have hids : ∀ id, id ∈ valIds h ps ws → id ∈ vids := fun id' hx => hi id' (by simp only [valIds]; exact List.mem_append_right _ hx)
                obtain ⟨pb, ha, hb, hbx⟩ := passArgs_ok hh hok hid hr hids hl' hvs
                obtain ⟨b, hb1, rfl⟩ := hv0.2.2 cells0 hlk
                obtain ⟨b', cur, E, fr, hb2, hw, hth, hrep⟩ := (hh.blk id _ hlk).2
                obtain rfl : b' = b := by rw [hb1] at hb2; exact (Option.some.inj hb2).symm
                have hc := cells hrep hd fun id' hx => hi id' (by simp only [valIds]; exact List.mem_append_left _ (by simp [boxRefs, hlk]; simpa using hx))
                refine ⟨b' :: pb, .box (by rw [(datas_get hd).1, hk]) hw hth hc ha, by simp [boxIds, hb, hb1], fun id' hx => ?_⟩
                simp only [boxIds, List.mem_cons] at hx
                rcases hx with rfl | hx
                · exact ⟨cells0, hlk⟩
                · exact hbx id' hx
              · cases hp
            · cases hp
          · cases hp
        · cases hp

end
end Go.Proofs.YtpjcnjefffakpaaGreatDoor.V

namespace Go.Proofs.YtpjcnjefffakpaaGreatDoor.V

section
variable {c : Ctx} {w w' : World} {h : Heap} {nx : Nat} {β : Beta} {E : Env}

theorem takeLeaves_ok (hE : EnvOk c.P E) {okN : Nat → Prop} : ∀ {ks : List (K × Bool)} {cs : List C} {n : Nat} {ls : List L} {rest : List C} {nb : List Blk} {vs : List Value} {cs1 : List C} {bs : List (Option Nat)} {cs2 : List C},
    takeLeaves E ks cs n = some (true, ls, rest, nb) → LeavesOut c.P w' okN ks vs cs1 bs → cs = cs1 ++ cs2 → rest = cs2 ∧ nb.length = bs.length ∧ ls.length = vs.length ∧
      (∀ (i : Nat) (blk : Blk), nb[i]? = some blk → ∃ sz rows, blk = .arr sz rows ∧ RowsOk okN w' (bs[i]?).join sz rows) ∧
      (∀ (h' : Heap) (nx' : Nat) (β' : Beta) (ok' : Nat → Prop), (∀ b, okN b → ok' b) → n + nb.length ≤ nx' → (∀ (i : Nat) (blk : Blk), nb[i]? = some blk → h'.lookup (n + i) = some blk) → (∀ i, i < nb.length → β' (n + i) = (bs[i]?).join) →
        ∀ (j : Nat) (x : L), ls[j]? = some x → ∃ u, vs[j]? = some u ∧ RepL ok' w' h' nx' β' u x) := by
  intro ks
  induction ks with
  | nil =>
    intro cs n ls rest nb vs cs1 bs cs2 ht hl hc
    cases hl
    simp only [takeLeaves, Option.some.injEq, Prod.mk.injEq, true_and] at ht
    obtain ⟨rfl, rfl, rfl⟩ := ht
    exact ⟨by simpa using hc, rfl, rfl, fun i blk hi => by simp at hi, fun _ _ _ _ _ _ _ _ j x hj => by simp at hj⟩
  | cons k ks ih =>
    intro cs n ls rest nb vs cs1 bs cs2 ht hl hc
    subst hc
    cases hl with
    | data hr hl =>
      rename_i kd v vs cc cs1
      simp only [List.cons_append, takeLeaves] at ht
      split at ht
      · rename_i b ls' cs' bs' hrec
        simp only [Option.some.injEq, Prod.mk.injEq, Bool.and_eq_true] at ht
        obtain ⟨⟨hb1, rfl⟩, rfl, rfl, rfl⟩ := ht
        obtain ⟨i1, i2, i3, i4, i5⟩ := ih hrec hl rfl
        refine ⟨i1, i2, by simp [i3], i4, fun h' nx' β' ok' hok hnx hlk hβ j x hj => ?_⟩
        cases j with
        | zero =>
          simp only [List.getElem?_cons_zero, Option.some.injEq] at hj
          subst hj
          obtain ⟨y, hy, hrep⟩ := leafAt_ok (w := w') (ok := ok') (h := h') (nx := nx') (β := β') hb1
          simp only [List.getElem?_cons_zero, Option.some.injEq] at hy
          subst hy
          exact ⟨v, rfl, hrep v (hr.mono (fun b hb _ => ⟨hok b hb, rfl⟩) (Nat.le_refl _))⟩
        | succ j => exact i5 h' nx' β' ok' hok hnx hlk hβ j x hj
      · cases ht
    | none hl =>
      rename_i e a vs cs1 bs
      simp only [List.cons_append, takeLeaves] at ht
      split at ht
      · rename_i te hte
        split at ht
        · rename_i b ls' cs' bs' hrec
          simp only [Option.some.injEq, Prod.mk.injEq, Bool.and_eq_true] at ht
          obtain ⟨⟨_, rfl⟩, rfl, rfl, rfl⟩ := ht
          obtain ⟨i1, i2, i3, i4, i5⟩ := ih hrec hl rfl
          refine ⟨i1, by simp [i2], by simp [i3], fun i blk hi => ?_, fun h' nx' β' ok' hok hnx hlk hβ j x hj => ?_⟩
          · cases i with
            | zero =>
              simp only [List.getElem?_cons_zero, Option.some.injEq] at hi
              subst hi
              exact ⟨_, _, rfl, fun r hr => by simp [C.toRows] at hr, .inl rfl⟩
            | succ i => exact i4 i blk hi
          · simp only [List.length_cons] at hnx
            cases j with
            | zero =>
              simp only [List.getElem?_cons_zero, Option.some.injEq] at hj
              subst hj
              refine ⟨_, rfl, by omega, rfl, fun blk sz rows hl' hr' => ?_⟩
              have := hlk 0 _ rfl
              rw [Nat.add_zero] at this
              rw [this] at hl'
              obtain rfl := Option.some.inj hl'
              simp only [Blk.rows?, Option.some.injEq, Prod.mk.injEq] at hr'
              obtain ⟨rfl, rfl⟩ := hr'
              exact ⟨by simp [C.toRows], .inl ⟨a, rfl, rfl⟩⟩
            | succ j =>
              exact i5 h' nx' β' ok' hok (by omega) (fun i blk hi => by have := hlk (i + 1) blk hi; rw [show n + 1 + i = n + (i + 1) by omega]; exact this)
                (fun i hi => by have := hβ (i + 1) (by simpa using hi); rw [show n + 1 + i = n + (i + 1) by omega]; exact this) j x hj
        · cases ht
      · cases ht
    | own hi hcap hw hth hsz hrows hl =>
      rename_i e vs rows cs1 bs b cap cur E' fr i
      simp only [List.cons_append, takeLeaves] at ht
      split at ht
      · rename_i te hte
        split at ht
        · rename_i b0 ls' cs' bs' hrec
          simp only [Option.some.injEq, Prod.mk.injEq, Bool.and_eq_true] at ht
          obtain ⟨⟨⟨_, hall⟩, rfl⟩, rfl, rfl, rfl⟩ := ht
          obtain ⟨i1, i2, i3, i4, i5⟩ := ih hrec hl rfl
          obtain ⟨ii, _, hii, his, _⟩ := (hE.ty e te hte).info
          rw [hi] at hii
          obtain rfl := Option.some.inj hii
          rw [his] at hsz hrows
          refine ⟨i1, by simp [i2], by simp [i3], fun k blk hk => ?_, fun h' nx' β' ok' hok hnx hlk hβ j x hj => ?_⟩
          · cases k with
            | zero =>
              simp only [List.getElem?_cons_zero, Option.some.injEq] at hk
              subst hk
              refine ⟨_, _, rfl, fun r hr => by have := List.all_eq_true.1 hall r hr; simpa using this, .inr ⟨b, cur, E', fr, by simp, hw, hth, ?_, fun k r j x hk hj => hrows k r j x hk hj⟩⟩
              exact Nat.le_trans (Nat.mul_le_mul_right _ hcap) hsz
            | succ k => exact i4 k blk hk
          · simp only [List.length_cons] at hnx
            cases j with
            | zero =>
              simp only [List.getElem?_cons_zero, Option.some.injEq] at hj
              subst hj
              refine ⟨_, rfl, by omega, rfl, fun blk sz rows' hl' hr' => ?_⟩
              have := hlk 0 _ rfl
              rw [Nat.add_zero] at this
              rw [this] at hl'
              obtain rfl := Option.some.inj hl'
              simp only [Blk.rows?, Option.some.injEq, Prod.mk.injEq] at hr'
              obtain ⟨rfl, rfl⟩ := hr'
              have hb0 := hβ 0 (by simp)
              rw [Nat.add_zero] at hb0
              refine ⟨by simp [C.toRows], .inr ⟨b, cap, cur, E', fr, by rw [hb0]; rfl, by rw [Nat.zero_mul]; rfl, hcap, hw, hth, by rw [Nat.zero_add]; exact hsz⟩⟩
            | succ j =>
              exact i5 h' nx' β' ok' hok (by omega) (fun i blk hi => by have := hlk (i + 1) blk hi; rw [show n + 1 + i = n + (i + 1) by omega]; exact this)
                (fun i hi => by have := hβ (i + 1) (by simpa using hi); rw [show n + 1 + i = n + (i + 1) by omega]; exact this) j x hj
        · cases ht
      · cases ht

theorem takeRes_ok (hE : EnvOk c.P E) {okN : Nat → Prop} : ∀ {ts : List RTy} {cs : List C} {n : Nat} {rs : List (Bool × List L)} {rest : List C} {nb : List Blk} {vs : List Value} {cs1 : List C} {bs : List (Option Nat)} {cs2 : List C},
    takeRes E ts cs n = some (true, rs, rest, nb) → RetsOut c.P w' okN ts vs cs1 bs → cs = cs1 ++ cs2 → rest = cs2 ∧ nb.length = bs.length ∧ rs.length = vs.length ∧
      (∀ (i : Nat) (blk : Blk), nb[i]? = some blk → ∃ sz rows, blk = .arr sz rows ∧ RowsOk okN w' (bs[i]?).join sz rows) ∧
      (∀ (h' : Heap) (nx' : Nat) (β' : Beta) (ok' : Nat → Prop), (∀ b, okN b → ok' b) → n + nb.length ≤ nx' → (∀ (i : Nat) (blk : Blk), nb[i]? = some blk → h'.lookup (n + i) = some blk) → (∀ i, i < nb.length → β' (n + i) = (bs[i]?).join) →
        ∀ (j : Nat) (p : Bool × List L), rs[j]? = some p → ∃ u, vs[j]? = some u ∧ RepP ok' w' h' nx' β' u p.1 p.2) := by
  intro ts
  induction ts with
  | nil =>
    intro cs n rs rest nb vs cs1 bs cs2 ht hl hc
    cases hl
    simp only [takeRes, Option.some.injEq, Prod.mk.injEq, true_and] at ht
    obtain ⟨rfl, rfl, rfl⟩ := ht
    exact ⟨by simpa using hc, rfl, rfl, fun i blk hi => by simp at hi, fun _ _ _ _ _ _ _ _ j x hj => by simp at hj⟩
  | cons t ts ih =>
    intro cs n rs rest nb vs cs1 bs cs2 ht hl hc
    subst hc
    have main : ∀ {us vs : List Value} {cs1 cs3 : List C} {bs1 bs : List (Option Nat)} {v : Value}, LeavesOut c.P w' okN t.ls us cs1 bs1 → RetsOut c.P w' okN ts vs cs3 bs →
        (∀ (h' : Heap) (nx' : Nat) (β' : Beta) (ok' : Nat → Prop) (ls : List L), ls.length = us.length → (∀ (j : Nat) (x : L), ls[j]? = some x → ∃ u, us[j]? = some u ∧ RepL ok' w' h' nx' β' u x) → RepP ok' w' h' nx' β' v t.agg ls) →
        takeRes E (t :: ts) (cs1 ++ cs3 ++ cs2) n = some (true, rs, rest, nb) →
        rest = cs2 ∧ nb.length = (bs1 ++ bs).length ∧ rs.length = (v :: vs).length ∧
        (∀ (i : Nat) (blk : Blk), nb[i]? = some blk → ∃ sz rows, blk = .arr sz rows ∧ RowsOk okN w' ((bs1 ++ bs)[i]?).join sz rows) ∧
        (∀ (h' : Heap) (nx' : Nat) (β' : Beta) (ok' : Nat → Prop), (∀ b, okN b → ok' b) → n + nb.length ≤ nx' → (∀ (i : Nat) (blk : Blk), nb[i]? = some blk → h'.lookup (n + i) = some blk) → (∀ i, i < nb.length → β' (n + i) = ((bs1 ++ bs)[i]?).join) →
          ∀ (j : Nat) (p : Bool × List L), rs[j]? = some p → ∃ u, (v :: vs)[j]? = some u ∧ RepP ok' w' h' nx' β' u p.1 p.2) := by
      intro us vs cs1 cs3 bs1 bs v hl hr hrep ht
      simp only [takeRes] at ht
      split at ht
      · rename_i b ls cs' nb1 h1
        split at ht
        · rename_i b' rs' cs'' nb2 h2
          simp only [Option.some.injEq, Prod.mk.injEq, Bool.and_eq_true] at ht
          obtain ⟨⟨rfl, rfl⟩, rfl, rfl, rfl⟩ := ht
          obtain ⟨rfl, l2, l3, l4, l5⟩ := takeLeaves_ok (cs2 := cs3 ++ cs2) hE h1 hl (by rw [List.append_assoc])
          obtain ⟨rfl, i2, i3, i4, i5⟩ := ih h2 hr rfl
          refine ⟨rfl, by simp [l2, i2], by simp [i3], fun i blk hi => ?_, fun h' nx' β' ok' hok hnx hlk hβ j p hj => ?_⟩
          · by_cases hlt : i < nb1.length
            · rw [List.getElem?_append_left hlt] at hi
              rw [List.getElem?_append_left (by omega)]
              exact l4 i blk hi
            · rw [List.getElem?_append_right (by omega)] at hi
              rw [List.getElem?_append_right (by omega), ← l2]
              exact i4 _ blk hi
          · simp only [List.length_append] at hnx
            have hb : ∀ i, i < nb1.length → β' (n + i) = (bs1[i]?).join := fun i hi => by
              rw [hβ i (by simp; omega), List.getElem?_append_left (by omega)]
            have hb2 : ∀ i, i < nb2.length → β' (n + nb1.length + i) = (bs[i]?).join := fun i hi => by
              rw [Nat.add_assoc, hβ _ (by simp; omega), List.getElem?_append_right (by omega)]
              congr 2; omega
            cases j with
            | zero =>
              simp only [List.getElem?_cons_zero, Option.some.injEq] at hj
              subst hj
              exact ⟨v, rfl, hrep h' nx' β' ok' ls l3 (l5 h' nx' β' ok' hok (by omega) (fun i blk hi => hlk i blk (by rw [List.getElem?_append_left (List.getElem?_eq_some_iff.1 hi).1]; exact hi)) hb)⟩
            | succ j =>
              exact i5 h' nx' β' ok' hok (by omega) (fun i blk hi => by
                rw [Nat.add_assoc]
                refine hlk _ blk ?_
                rw [List.getElem?_append_right (by omega), Nat.add_sub_cancel_left]
                exact hi) hb2 j p hj
        · cases ht
      · cases ht
    cases hl with
    | agg hag h1 h2 =>
      refine main h1 h2 (fun h' nx' β' ok' ls hl hr => ?_) ht
      rw [hag]
      exact ⟨_, rfl, by rw [hl, Array.length_toList], fun j x hj => let ⟨u, hu, hx⟩ := hr j x hj; ⟨u, by simpa using hu, hx⟩⟩
    | one hag h1 h2 =>
      refine main h1 h2 (fun h' nx' β' ok' ls hl hr => ?_) ht
      rw [hag]
      cases ls with
      | nil => simp at hl
      | cons x ls =>
        have : ls = [] := by simpa using hl
        subst this
        obtain ⟨u, hu, hx⟩ := hr 0 x rfl
        simp only [List.getElem?_cons_zero, Option.some.injEq] at hu
        subst hu
        exact ⟨x, rfl, hx⟩

theorem takeBoxes_ok {okN : Nat → Prop} : ∀ {ps : List PTy} {ws : List W} {cs : List C} {h h' : Heap} {pb : List Nat}, takeBoxes ps ws cs h = some (true, h') → BoxesOut w w' okN ps pb cs → (boxIds ps ws).map β = pb.map some → (boxIds ps ws).Nodup → (∀ id, id ∈ boxIds ps ws → ∃ cells, h.lookup id = some (.box cells)) →
    (∀ id, id ∉ boxIds ps ws → h'.lookup id = h.lookup id) ∧
    ∀ id, id ∈ boxIds ps ws → ∃ cells' b cur cur' E fr, h'.lookup id = some (.box cells') ∧ β id = some b ∧ w.heap[b]? = some (.cells cur E fr) ∧ w'.heap[b]? = some (.cells cur' E fr) ∧ cur'.size = cur.size ∧
      ∀ (ok' : Nat → Prop) (h : Heap) (nx : Nat) (β : Beta), (∀ b, okN b → ok' b) → RepLs ok' w' h nx β cur' cells' := by
  intro ps
  induction ps with
  | nil =>
    intro ws cs h h' pb ht hb hm hn hbx
    cases ws <;> cases cs <;> simp [takeBoxes] at ht
    subst ht
    exact ⟨fun _ _ => rfl, fun id hi => by simp [boxIds] at hi⟩
  | cons p ps ih =>
    intro ws cs h h' pb ht hb hm hn hbx
    cases ws with
    | nil => cases p <;> simp [takeBoxes] at ht
    | cons x ws =>
      cases p with
      | val agg ks =>
        have e : boxIds (.val agg ks :: ps) (x :: ws) = boxIds ps ws := by simp [boxIds]
        rw [e] at hm hn hbx ⊢
        have ht' : takeBoxes ps ws cs h = some (true, h') := by simpa [takeBoxes] using ht
        cases hb with
        | val hb => exact ih ht' hb hm hn hbx
      | box ks =>
        unfold takeBoxes at ht
        split at ht
        · cases ‹_ :: _ = _›
        · rename_i cs0 h0 d1 d2 d3 d4 ks' ps' id ws' h1 h2
          simp only [List.cons.injEq, PTy.box.injEq] at h1 h2
          obtain ⟨rfl, rfl⟩ := h1
          obtain ⟨rfl, rfl⟩ := h2
          split at ht
          · rename_i b0 h0' hrec
            simp only [Option.some.injEq, Prod.mk.injEq, Bool.and_eq_true] at ht
            obtain ⟨⟨hla, rfl⟩, rfl⟩ := ht
            have e : boxIds (.box ks :: ps) (.l (.ptr id 0) :: ws) = id :: boxIds ps ws := by simp [boxIds]
            rw [e] at hm hn hbx ⊢
            cases hb with
            | box hk hw hw' hsz hcells hb =>
              rename_i pb cs1 cs2 b cur cur' E fr
              rw [← hk, List.drop_left] at hrec
              simp only [List.map_cons, List.cons.injEq] at hm
              obtain ⟨hid, hnd⟩ := List.nodup_cons.1 hn
              obtain ⟨cells, hc⟩ := hbx id List.mem_cons_self
              have hlk := lookup_upd h0 id (.box (leavesAt (cs1 ++ cs2) 0 ks).2) ⟨_, hc⟩
              obtain ⟨i1, i2⟩ := ih hrec hb hm.2 hnd (fun id' hi' => by
                rw [hlk]
                split
                · exact ⟨_, rfl⟩
                · exact hbx id' (List.mem_cons_of_mem _ hi'))
              refine ⟨fun id' hi' => ?_, fun id' hi' => ?_⟩
              · simp only [List.mem_cons, not_or] at hi'
                rw [i1 id' hi'.2, hlk, if_neg hi'.1]
              · rcases List.mem_cons.1 hi' with rfl | hi'
                · refine ⟨_, b, cur, cur', E, fr, by rw [i1 id' hid, hlk, if_pos rfl], hm.1, hw, hw', hsz, fun ok' h nx β' hok => ?_⟩
                  obtain ⟨l1, l2⟩ := leavesAt_ok (w := w') (ok := ok') (h := h) (nx := nx) (β := β') hla
                  have hcl : cur'.size = (leavesAt (cs1 ++ cs2) 0 ks).2.length := by rw [l1, ← hk]; exact hcells.1
                  refine ⟨hcl, fun j y hj => ?_⟩
                  obtain ⟨d, hd, hr⟩ := l2 j y hj
                  have hjl := (List.getElem?_eq_some_iff.1 hj).1
                  rw [l1, ← hk] at hjl
                  rw [Nat.zero_add, List.getElem?_append_left hjl] at hd
                  obtain ⟨u, hu, hru⟩ := hcells.2 j d hd
                  exact ⟨u, hu, hr u (hru.mono (fun b hb _ => ⟨hok b hb, rfl⟩) (Nat.le_refl _))⟩
                · exact i2 id' hi'
          · cases ht
        · rename_i h1 _
          simp at h1
        · cases ht

theorem lookup_sites (n : Nat) : ∀ (nb : List Blk) (m : Nat) (h : Heap) (i : Nat), (newSites m nb ++ h).lookup i = if m ≤ i ∧ i < m + nb.length then nb[i - m]? else h.lookup i
  | [], m, h, i => by simp [newSites]; omega
  | b :: nb, m, h, i => by
    simp only [newSites, List.cons_append]
    by_cases hi : i = m
    · subst hi
      rw [lookup_self, if_pos (by simp)]
      simp
    · rw [lookup_new hi, lookup_sites n nb (m + 1) h i]
      by_cases hr : m + 1 ≤ i ∧ i < m + 1 + nb.length
      · rw [if_pos hr, if_pos (by simp; omega)]
        obtain ⟨d, hd⟩ : ∃ d, i - m = d + 1 := ⟨i - m - 1, by omega⟩
        rw [hd, List.getElem?_cons_succ]
        congr 1
        omega
      · rw [if_neg hr, if_neg (by simp; omega)]

/-- memory behind a call -/
theorem call_step (hh : HeapOk c w h nx β) {h' : Heap} {nx' : Nat} {β' : Beta} {ids own pbs : List Nat} {okN : Nat → Prop} (H1 : nx ≤ nx') (H1b : ∀ id, id < nx → β' id = β id) (H2 : ∀ id, id < nx → id ∉ ids → h'.lookup id = h.lookup id)
    (H3 : ∀ id, id ∈ ids → ∃ cells cells' b cur cur' E fr, h.lookup id = some (.box cells) ∧ h'.lookup id = some (.box cells') ∧ β id = some b ∧ w.heap[b]? = some (.cells cur E fr) ∧ w'.heap[b]? = some (.cells cur' E fr) ∧ cur'.size = cur.size ∧
      ∀ (ok' : Nat → Prop) (h : Heap) (nx : Nat) (β : Beta), (∀ b, okN b → ok' b) → RepLs ok' w' h nx β cur' cells')
    (H4 : ∀ id x, nx ≤ id → h'.lookup id = some x → id < nx' ∧ ∃ sz rows, x = .arr sz rows ∧ RowsOk okN w' (β' id) sz rows ∧ ∀ b, β' id = some b → b ∈ own)
    (H5 : ∀ id id' b, nx ≤ id → nx ≤ id' → β' id = some b → β' id' = some b → id = id')
    (H6 : ∀ b, b ∈ own → w.heap.size ≤ b ∧ b < w'.heap.size) (H7 : ∀ b, okN b → (okD c h β b ∧ b < w.heap.size) ∨ (w.heap.size ≤ b ∧ b ∉ own)) (H8 : ∀ b, b < w.heap.size → b ∉ pbs → w'.heap[b]? = w.heap[b]?)
    (H9 : ids.map β = pbs.map some) (H10 : w.heap.size ≤ w'.heap.size) (hos : w'.os = w.os) (hout : w'.output = w.output) :
    HeapOk c w' h' nx' β' ∧ Ext c w h nx β w' h' nx' β' ∧ ∀ b, okN b → okD c h' β' b := by
  have mem9 : ∀ b, b ∈ pbs → ∃ id, id ∈ ids ∧ β id = some b := fun b hb => by
    have : some b ∈ ids.map β := by rw [H9]; exact List.mem_map.2 ⟨b, hb, rfl⟩
    obtain ⟨id, h1, h2⟩ := List.mem_map.1 this
    exact ⟨id, h1, h2⟩
  have mem9' : ∀ id b, id ∈ ids → β id = some b → b ∈ pbs := fun id b hi hb => by
    have : β id ∈ ids.map β := List.mem_map.2 ⟨id, hi, rfl⟩
    rw [H9, hb] at this
    obtain ⟨b', h1, h2⟩ := List.mem_map.1 this
    obtain rfl := Option.some.inj h2
    exact h1
  -- what stood at a site stands there
  have back : ∀ id x', id < nx → h'.lookup id = some x' → ∃ x, h.lookup id = some x ∧ sameShape x x' ∧ x'.isBox = x.isBox ∧ x'.isFro = x.isFro ∧ (id ∉ ids → x' = x) := by
    intro id x' hid hl
    by_cases hi : id ∈ ids
    · obtain ⟨cells, cells', b, cur, cur', E, fr, h1, h2, h3, h4, h5, h6, h7⟩ := H3 id hi
      rw [h2] at hl
      obtain rfl := Option.some.inj hl
      refine ⟨_, h1, ?_, rfl, rfl, fun hn => absurd hi hn⟩
      have e1 := (h7 (fun _ => True) [] 0 (fun _ => none) (fun _ _ => trivial)).1
      obtain ⟨b', cur0, E0, fr0, hb0, hw0, _, hrep⟩ := (hh.blk id _ h1).2
      obtain rfl : b' = b := by rw [h3] at hb0; exact (Option.some.inj hb0).symm
      rw [h4] at hw0
      simp only [Option.some.injEq, Obj.cells.injEq] at hw0
      obtain ⟨rfl, rfl, rfl⟩ := hw0
      have e2 := hrep.1
      show cells'.length = cells.length
      omega
    · rw [H2 id hid hi] at hl
      exact ⟨x', hl, sameShape.refl _, rfl, rfl, fun _ => rfl⟩
  have keep : ∀ b, okD c h β b → b < w.heap.size → b ∉ pbs := fun b hb hlt hp => by
    obtain ⟨id, hi, hbi⟩ := mem9 b hp
    obtain ⟨cells, _, _, _, _, _, _, h1, _⟩ := H3 id hi
    exact hb.2 id _ h1 rfl hbi
  have okold : ∀ b, okD c h β b → b < w.heap.size → okD c h' β' b := by
    intro b hb hlt
    refine ⟨hb.1, fun id x hl hf hbi => ?_⟩
    by_cases hid : id < nx
    · obtain ⟨x0, h0, _, _, hfr, _⟩ := back id x hid hl
      rw [H1b id hid] at hbi
      exact hb.2 id x0 h0 (by rw [← hfr]; exact hf) hbi
    · obtain ⟨_, sz, rows, _, _, hown⟩ := H4 id x (by omega) hl
      have := H6 b (hown b hbi)
      omega
  have ext : Ext c w h nx β w' h' nx' β' := by
    refine ⟨H1, H10, fun b hb hlt => ⟨okold b hb hlt, H8 b hlt (keep b hb hlt)⟩, fun id x' hid hl => ?_, fun id x b cur E fr hid hl hbi hw => ?_⟩
    · obtain ⟨x0, h0, hs, _⟩ := back id x' hid hl
      exact ⟨H1b id hid, x0, h0, hs⟩
    · obtain ⟨x0, h0, _⟩ := back id x hid hl
      by_cases hi : id ∈ ids
      · obtain ⟨cells, cells', b', cur0, cur', E0, fr0, h1, h2, h3, h4, h5, h6, h7⟩ := H3 id hi
        obtain rfl : b' = b := by rw [h3] at hbi; exact Option.some.inj hbi
        rw [h4] at hw
        simp only [Option.some.injEq, Obj.cells.injEq] at hw
        obtain ⟨rfl, rfl, rfl⟩ := hw
        exact ⟨cur', h5, h6⟩
      · have hbn : b ∉ pbs := fun hp => by
          obtain ⟨id', hi', hbi'⟩ := mem9 b hp
          obtain ⟨cells, _, _, _, _, _, _, h1, _⟩ := H3 id' hi'
          have := hh.inj id id' x0 _ b h0 h1 hbi hbi'
          subst this
          exact hi hi'
        exact ⟨cur, by rw [H8 b (hh.place id x0 b h0 hbi).2 hbn]; exact hw, rfl⟩
  have okn : ∀ b, okN b → okD c h' β' b := by
    intro b hb
    rcases H7 b hb with ⟨h1, h2⟩ | ⟨h1, h2⟩
    · exact okold b h1 h2
    · refine ⟨.inr (Nat.le_trans hh.size h1), fun id x hl hf hbi => ?_⟩
      by_cases hid : id < nx
      · obtain ⟨x0, h0, _⟩ := back id x hid hl
        rw [H1b id hid] at hbi
        have := (hh.place id x0 b h0 hbi).2
        omega
      · obtain ⟨_, sz, rows, _, _, hown⟩ := H4 id x (by omega) hl
        exact h2 (hown b hbi)
  refine ⟨⟨fun id x hl => ?_, fun id x b hl hbi => ?_, fun id id' x x' b hl hl' hbi hbi' => ?_, Nat.le_trans hh.size H10, fun b hb hpb => ?_, hos.trans hh.os, hout.trans hh.out, fun b hb cur0 E0 fr0 hw0 => ?_⟩, ext, okn⟩
  · by_cases hid : id < nx
    · refine ⟨by omega, ?_⟩
      rw [H1b id hid]
      by_cases hi : id ∈ ids
      · obtain ⟨cells, cells', b, cur, cur', E, fr, h1, h2, h3, h4, h5, h6, h7⟩ := H3 id hi
        rw [h2] at hl
        obtain rfl := Option.some.inj hl
        obtain ⟨b', cur0, E0, fr0, hb0, hw0, hth, hrep⟩ := (hh.blk id _ h1).2
        obtain rfl : b' = b := by rw [h3] at hb0; exact (Option.some.inj hb0).symm
        rw [h4] at hw0
        simp only [Option.some.injEq, Obj.cells.injEq] at hw0
        obtain ⟨rfl, rfl, rfl⟩ := hw0
        exact ⟨b', cur', E, fr, h3, h5, by rw [h6]; exact hth, h7 _ h' nx' β' okn⟩
      · obtain ⟨x0, h0, _, _, _, hx⟩ := back id x hid hl
        have := hx hi
        subst this
        refine (hh.blk id x h0).2.ext ext fun b hb => H8 b (hh.place id x b h0 hb).2 fun hp => ?_
        obtain ⟨id', hi', hbi'⟩ := mem9 b hp
        obtain ⟨cells, _, _, _, _, _, _, h1, _⟩ := H3 id' hi'
        have := hh.inj id id' x _ b h0 h1 hb hbi'
        subst this
        exact hi hi'
    · obtain ⟨h1, sz, rows, rfl, ⟨r1, r2⟩, _⟩ := H4 id x (by omega) hl
      refine ⟨h1, r1, r2.imp (fun x => x) ?_⟩
      rintro ⟨b, cur, E, fr, hb, hw, hth, hsz, hr⟩
      exact ⟨b, cur, E, fr, hb, hw, hth, hsz, fun i r j y hi hj => let ⟨u, hu, hru⟩ := hr i r j y hi hj; ⟨u, hu, hru.mono (fun b hb _ => ⟨okn b hb, rfl⟩) (Nat.le_refl _)⟩⟩
  · by_cases hid : id < nx
    · obtain ⟨x0, h0, _, hbx, _⟩ := back id x hid hl
      rw [H1b id hid] at hbi
      have := hh.place id x0 b h0 hbi
      rw [hbx]
      exact ⟨this.1, by omega⟩
    · obtain ⟨_, sz, rows, _, _, hown⟩ := H4 id x (by omega) hl
      have := H6 b (hown b hbi)
      exact ⟨.inl (Nat.le_trans hh.size this.1), this.2⟩
  · by_cases hid : id < nx <;> by_cases hid' : id' < nx
    · obtain ⟨x0, h0, _⟩ := back id x hid hl
      obtain ⟨x1, h1, _⟩ := back id' x' hid' hl'
      rw [H1b id hid] at hbi
      rw [H1b id' hid'] at hbi'
      exact hh.inj id id' x0 x1 b h0 h1 hbi hbi'
    · exfalso
      obtain ⟨x0, h0, _⟩ := back id x hid hl
      rw [H1b id hid] at hbi
      obtain ⟨_, sz, rows, _, _, hown⟩ := H4 id' x' (by omega) hl'
      have := H6 b (hown b hbi')
      have := (hh.place id x0 b h0 hbi).2
      omega
    · exfalso
      obtain ⟨x0, h0, _⟩ := back id' x' hid' hl'
      rw [H1b id' hid'] at hbi'
      obtain ⟨_, sz, rows, _, _, hown⟩ := H4 id x (by omega) hl
      have := H6 b (hown b hbi)
      have := (hh.place id' x0 b h0 hbi').2
      omega
    · exact H5 id id' b (by omega) (by omega) hbi hbi'
  · have hbn : b ∉ pbs := fun hp => by
      obtain ⟨id, hi, hbi⟩ := mem9 b hp
      obtain ⟨cells, _, _, _, _, _, _, h1, _⟩ := H3 id hi
      rcases (hh.place id _ b h1 hbi).1 with h2 | h2
      · omega
      · exact hpb h2.1
    rw [H8 b (by have := hh.size; omega) hbn]
    exact hh.frame b hb hpb
  · obtain ⟨cur1, h1, h2⟩ := hh.pbs b hb cur0 E0 fr0 hw0
    by_cases hbn : b ∈ pbs
    · obtain ⟨id, hi, hbi⟩ := mem9 b hbn
      obtain ⟨cells, cells', b', cur, cur', E, fr, g1, g2, g3, g4, g5, g6, g7⟩ := H3 id hi
      obtain rfl : b' = b := by rw [g3] at hbi; exact Option.some.inj hbi
      rw [h1] at g4
      simp only [Option.some.injEq, Obj.cells.injEq] at g4
      obtain ⟨rfl, rfl, rfl⟩ := g4
      exact ⟨cur', g5, by omega⟩
    · exact ⟨cur1, by rw [H8 b (by have := hh.size; have := c.oldpb b hb; omega) hbn]; exact h1, h2⟩

end
end Go.Proofs.YtpjcnjefffakpaaGreatDoor.V

namespace Go.Proofs.YtpjcnjefffakpaaGreatDoor.V

/-- the result of a call whose law is known -/
def CallR (E : Env) (σ : St) (sig : Sig) (spec : Spec) (ws : List W) (R : V.R) : Prop :=
  ∃ cs outs rs rest nb h', passArgs σ.heap sig.params ws = some cs ∧ (ndup (boxIds sig.params ws) = true ∧ ((boxIds sig.params ws).all fun i => !(valIds σ.heap sig.params ws).contains i) = true ∧ (!sig.nested || (valIds σ.heap sig.params ws).all fun i => !isBoxAt σ.heap i) = true) ∧ spec cs = some (true, outs) ∧ kindsOk cs (allKinds sig.params) = true ∧
    takeRes E sig.results outs σ.next = some (true, rs, rest, nb) ∧ takeBoxes sig.params ws rest (if sig.nested then freeze σ.heap (valIds σ.heap sig.params ws) else σ.heap) = some (true, h') ∧
    R = { val := resW rs, st := { σ with heap := newSites σ.next nb ++ h', next := σ.next + nb.length }, eff := true, touched := boxIds sig.params ws ++ (if sig.nested then valIds σ.heap sig.params ws else []) }

theorem vcall_eval {α : Type} {E : Env} {σ : St} {sig : Sig} {spec : Spec} {ws : List W} {k : V.R → T α} {r : α} (he : (vcall E σ sig spec ws k).eval = some r) : ∃ R, CallR E σ sig spec ws R ∧ (k R).eval = some r := by
  unfold vcall at he
  split at he
  · exact (eval_bad he).elim
  · rename_i cs hp
    simp only [] at he
    split at he
    · rename_i hn
      split at he
      · exact (eval_bad he).elim
      · rename_i pre outs hs
        obtain ⟨hk, he1⟩ := eval_must he
        obtain ⟨hpre, he2⟩ := eval_must he1
        rw [hpre] at hs
        clear he he1
        split at he2
        · rename_i b rs rest nb ht
          split at he2
          · rename_i b' h' hb
            obtain ⟨hbb, he3⟩ := eval_must he2
            simp only [Bool.and_eq_true] at hbb
            obtain ⟨hb1, hb2⟩ := hbb
            rw [hb1] at ht
            rw [hb2] at hb
            exact ⟨_, ⟨cs, outs, rs, rest, nb, h', hp, hn, hs, hk, ht, hb, rfl⟩, he3⟩
          · exact (eval_bad he2).elim
        · exact (eval_bad he2).elim
    · exact (eval_bad he).elim

theorem ndup_nodup : ∀ {l : List Nat}, ndup l = true → l.Nodup
  | [], _ => List.nodup_nil
  | x :: xs, h => by
    simp only [ndup, Bool.and_eq_true, Bool.not_eq_true'] at h
    exact List.nodup_cons.2 ⟨by simpa using h.1, ndup_nodup h.2⟩

theorem ret_rep {ok : Nat → Prop} {w : World} {h : Heap} {nx : Nat} {β : Beta} {rs : List (Bool × List L)} {vs : List Value} (hl : rs.length = vs.length)
    (hr : ∀ (j : Nat) (p : Bool × List L), rs[j]? = some p → ∃ u, vs[j]? = some u ∧ RepP ok w h nx β u p.1 p.2) : RepW ok w h nx β (retV vs) (resW rs) := by
  have tup : RepW ok w h nx β (.tuple vs.toArray) (.tup rs) := ⟨vs.toArray, rfl, by simp [hl], fun j p hj => let ⟨u, hu, hp⟩ := hr j p hj; ⟨u, by simpa using hu, hp⟩⟩
  match rs, vs, hl with
  | [], [], _ => exact tup
  | [(agg, ls)], [v], _ =>
    obtain ⟨u, hu, hp⟩ := hr 0 _ rfl
    simp only [List.getElem?_cons_zero, Option.some.injEq] at hu
    subst hu
    cases agg with
    | true => exact hp
    | false => obtain ⟨x, rfl, hx⟩ := hp; exact hx
  | p :: q :: rs, u :: v :: vs, _ => exact tup

section
variable {c : Ctx} {w : World} {β : Beta} {E : Env} {σ : St}

theorem vcall_ok (hE : EnvOk c.P E) {f : FuncId} {sig : Sig} {spec : Spec} (hS : Sound c.P f sig spec) {ws : List W} {R : V.R} (hR : CallR E σ sig spec ws R) (hh : HeapOk c w σ.heap σ.next β) {vals : List Value} (hl : vals.length = ws.length)
    (hv : ∀ (i : Nat) (v : Value) (x : W), vals[i]? = some v → ws[i]? = some x → RepW (okD c σ.heap β) w σ.heap σ.next β v x) : Goes c.P f vals.toArray w (Done c σ β w R) := by
  obtain ⟨cs, outs, rs, rest, nb, h', hp, ⟨hn, hdis, hnb⟩, hs, hk, ht, htb, rfl⟩ := hR
  have hids := ndup_nodup hn
  generalize hvid : valIds σ.heap sig.params ws = vids at htb hdis hnb
  let h1 : Heap := if sig.nested then freeze σ.heap vids else σ.heap
  have hh1 : HeapOk c w h1 σ.next β := by
    simp only [h1]; split
    · exact heapOk_freeze hh vids
    · exact hh
  have e1 : Ext c w σ.heap σ.next β w h1 σ.next β := by
    simp only [h1]; split
    · exact ext_freeze vids
    · exact Ext.refl _ _ _ _ _
  have box1 : ∀ id cells, σ.heap.lookup id = some (.box cells) → h1.lookup id = some (.box cells) := fun id cells hlk => by
    simp only [h1]; split
    · rw [lookup_freeze, hlk]; simp
    · exact hlk
  let okR : Nat → Prop := fun b => b < w.heap.size ∧ (okD c h1 β b ∨ ∃ id blk, id ∈ vids ∧ σ.heap.lookup id = some blk ∧ β id = some b)
  obtain ⟨pb, hargs, hmap, hbx⟩ := passArgs_ok hh (okR := okR) (fun b hb hlt => ⟨hlt, .inl (e1.data b hb hlt).1⟩) (vids := vids) (fun id b blk hi hlk hb => ⟨(hh.place id blk b hlk hb).2, .inr ⟨id, blk, hi, hlk, hb⟩⟩) hp (fun id hi => hvid ▸ hi) hl hv
  have mem9 : ∀ b, b ∈ pb → ∃ id, id ∈ boxIds sig.params ws ∧ β id = some b := fun b hb => by
    have : some b ∈ (boxIds sig.params ws).map β := by rw [hmap]; exact List.mem_map.2 ⟨b, hb, rfl⟩
    obtain ⟨id, h1, h2⟩ := List.mem_map.1 this
    exact ⟨id, h1, h2⟩
  have hokR : ∀ b, okR b → b < w.heap.size ∧ b ∉ pb := fun b ⟨hlt, hb⟩ => ⟨hlt, fun hpb => by
    obtain ⟨id, hi, hbi⟩ := mem9 b hpb
    obtain ⟨cells, hc⟩ := hbx id hi
    rcases hb with hb | ⟨id2, blk, hi2, hlk, hb2⟩
    · exact hb.2 id _ (box1 id cells hc) rfl hbi
    · have := hh.inj id id2 _ blk b hc hlk hbi hb2
      subst this
      have := List.all_eq_true.1 hdis id hi
      simp [hi2] at this⟩
  have hglob : GlobOk c.P w okR := fun g row hg => by
    obtain ⟨g1, g2⟩ := c.glob g row hg
    obtain ⟨g3, g4⟩ := c.old g g1
    have up : ∀ b, c.okR b → okD c h1 β b := fun b hb => ⟨.inl hb, fun id blk hl hf hbi => by
      rcases (hh1.place id blk b hl hbi).1 with h | h
      · have := (c.old b hb).1; omega
      · exact (c.old b hb).2 h.1⟩
    have up2 : ∀ b, c.okR b → okR b := fun b hb => ⟨Nat.lt_of_lt_of_le (c.old b hb).1 hh.size, .inl (up b hb)⟩
    refine ⟨up2 g g1, fun j x hx => ?_⟩
    obtain ⟨u, hu, hru⟩ := g2 j x hx
    exact ⟨u, by rw [cell_of_heap (hh.frame g g3 g4)]; exact hu, hru.mono (fun b hb hlt => ⟨up2 b hb, hh.frame b hlt (c.old b hb).2⟩) hh.size⟩
  have hpbn : pb.Nodup := by
    have h2 : ((boxIds sig.params ws).map β).Pairwise (· ≠ ·) := by
      rw [List.pairwise_map]
      refine hids.imp_of_mem fun {x y} hx hy hne he => ?_
      obtain ⟨c1, hc1⟩ := hbx x hx
      obtain ⟨c2, hc2⟩ := hbx y hy
      obtain ⟨b, _, _, _, hb, _⟩ := (hh.blk x _ hc1).2
      exact hne (hh.inj x y _ _ b hc1 hc2 hb (he ▸ hb))
    rw [hmap, List.pairwise_map] at h2
    exact h2.imp fun {x y} hxy he => hxy (by rw [he])
  refine (hS w okR pb vals cs outs hokR hglob hpbn hargs hk hs).mono fun v w' ha => ?_
  obtain ⟨⟨vs, bs, cs1, cs2, okN, hokN, rfl, hcs, hrets, hboxes, hbsn, hown⟩, hsz, hframe, hos, hout⟩ := ha
  obtain ⟨rfl, t2, t3, t4, t5⟩ := takeRes_ok hE ht hrets hcs
  obtain ⟨b1, b2⟩ := takeBoxes_ok (h := h1) htb hboxes hmap hids (fun id hi => let ⟨cells, hc⟩ := hbx id hi; ⟨cells, box1 id cells hc⟩)
  let β' : Beta := fun id => if id < σ.next then β id else (bs[id - σ.next]?).join
  have hlk := fun i => lookup_sites 0 nb σ.next h' i
  have hbnx : ∀ id, id ∈ boxIds sig.params ws → id < σ.next := fun id hi => let ⟨cells, hc⟩ := hbx id hi; (hh.blk id _ hc).1
  have hjoin : ∀ {i b : Nat}, (bs[i]?).join = some b → bs[i]? = some (some b) := fun {i b} hj => by
    cases hb : bs[i]? with
    | none => rw [hb] at hj; cases hj
    | some x => rw [hb] at hj; simp only [Option.join_some] at hj; rw [hj]
  obtain ⟨s1, s2, s3⟩ := call_step (w' := w') (h' := newSites σ.next nb ++ h') (nx' := σ.next + nb.length) (β' := β') (ids := boxIds sig.params ws) (own := bs.filterMap id) (pbs := pb) hh1 (by omega) (fun id hid => if_pos hid)
    (fun id hid hi => by rw [hlk, if_neg (by omega), b1 id hi])
    (fun id hi => by
      obtain ⟨cells, hc⟩ := hbx id hi
      obtain ⟨cells', b, cur, cur', E', fr, g1, g2, g3, g4, g5, g6⟩ := b2 id hi
      exact ⟨cells, cells', b, cur, cur', E', fr, box1 id cells hc, by rw [hlk, if_neg (by have := hbnx id hi; omega)]; exact g1, g2, g3, g4, g5, g6⟩)
    (fun id x hid hx => by
      rw [hlk] at hx
      split at hx
      · rename_i hr
        obtain ⟨sz, rows, h2, h3⟩ := t4 _ x hx
        have hβ' : β' id = (bs[id - σ.next]?).join := if_neg (by omega)
        refine ⟨hr.2, sz, rows, h2, by rw [hβ']; exact h3, fun b hb => ?_⟩
        rw [hβ'] at hb
        exact List.mem_filterMap.2 ⟨some b, List.mem_of_getElem? (hjoin hb), rfl⟩
      · exfalso
        have hni : id ∉ boxIds sig.params ws := fun hi => by have := hbnx id hi; omega
        rw [b1 id hni] at hx
        have := (hh1.blk id x hx).1
        omega)
    (fun id id' b hid hid' hb hb' => by
      have h2 : β' id = (bs[id - σ.next]?).join := if_neg (by omega)
      have h3 : β' id' = (bs[id' - σ.next]?).join := if_neg (by omega)
      rw [h2] at hb
      rw [h3] at hb'
      have := hbsn _ _ b (hjoin hb) (hjoin hb')
      omega)
    (fun b hb => by
      obtain ⟨x, hx, hxb⟩ := List.mem_filterMap.1 hb
      have hxb : x = some b := hxb
      subst hxb
      exact hown b hx)
    (fun b hb => by
      rcases hokN b hb with ⟨hnest, hlt, hb⟩ | ⟨hge, hnot⟩
      · refine .inl ⟨?_, hlt⟩
        rcases hb with hb | ⟨id, blk, hi, hlk', hbi⟩
        · exact hb
        · simp only [h1, hnest, if_true]
          have hnbx : isBoxAt σ.heap id = false := by
            rw [hnest] at hnb
            simpa using List.all_eq_true.1 hnb id hi
          obtain ⟨p, hr⟩ : ∃ p, blk.rows? = some p := by
            cases blk with
            | box cells => simp [isBoxAt, hlk'] at hnbx
            | arr sz rows => exact ⟨_, rfl⟩
            | fro sz rows => exact ⟨_, rfl⟩
          exact okD_freeze hh hi hlk' hr hbi
      · refine .inr ⟨hge, fun hm => hnot ?_⟩
        obtain ⟨x, hx, hxb⟩ := List.mem_filterMap.1 hm
        have hxb : x = some b := hxb
        subst hxb
        exact hx) hframe hmap hsz hos hout
  refine ⟨β', s1, e1.trans s2, ?_, rfl, rfl, fun id cells hc => ?_⟩
  · refine ret_rep t3 (t5 _ _ _ _ s3 (Nat.le_refl _) (fun i blk hi => ?_) (fun i hi => ?_))
    · show List.lookup (σ.next + i) (newSites σ.next nb ++ h') = some blk
      rw [hlk, if_pos (by have := (List.getElem?_eq_some_iff.1 hi).1; omega), Nat.add_sub_cancel_left]
      exact hi
    · show (if σ.next + i < σ.next then _ else _) = _
      rw [if_neg (by omega), Nat.add_sub_cancel_left]
  · have hid := (hh.blk id _ hc).1
    show ∃ cells', List.lookup id (newSites σ.next nb ++ h') = _ ∧ _
    rw [hlk, if_neg (by omega)]
    by_cases hi : id ∈ boxIds sig.params ws
    · obtain ⟨cells', b, cur, cur', E', fr, g1, g2, g3, g4, g5, g6⟩ := b2 id hi
      refine ⟨cells', g1, ?_, if_pos hid⟩
      obtain ⟨b0, cur0, E0, fr0, hb0, hw0, _, hrep⟩ := (hh.blk id _ hc).2
      obtain rfl : b = b0 := by rw [g2] at hb0; exact Option.some.inj hb0
      rw [g3] at hw0
      simp only [Option.some.injEq, Obj.cells.injEq] at hw0
      obtain ⟨rfl, rfl, rfl⟩ := hw0
      have e2 := (g6 (fun _ => True) [] 0 (fun _ => none) (fun _ _ => trivial)).1
      have e3 := hrep.1
      omega
    · rw [b1 id hi]
      exact ⟨cells, box1 id cells hc, rfl, if_pos hid⟩

end
end Go.Proofs.YtpjcnjefffakpaaGreatDoor.V
