/- The value-level interpreter over the model, part D: definitions, or lemmas that show that it is the model's. -/
import Derived.Test.YtigodjkegcibhaaGreatDoorVC
set_option linter.unusedVariables false
set_option linter.unusedSimpArgs false
set_option linter.unusedSectionVars false
set_option linter.unnecessarySimpa false
namespace Go.Proofs.YtigodjkegcibhaaGreatDoor.V
section
variable {c:Ctx} {w:World} {β:aCr} {σ:St} {E:Env} {a:Act} {o:Oper} {r:R}
theorem bTl (hE:aDx c.P E) (hh:aB7 c w σ.heap σ.next β) (hs:∀ x,aFs (okD c σ.heap β) w σ.heap σ.next β (a.eval x) (σ.ev x)) (hfree:∀ id x b,id∈o.op.eats σ→σ.heap.lookup id=some x→β id=some b→c.w0.heap.size≤b) (he:aBv E σ o.op=some r):aC9 c σ β w (execOp a.eval o) r:=by
 generalize ho:o.op=op at he hfree
 cases op with
 |move x=>exact bKo hh hs (.inl ho) he
 |assign x=>exact bKo hh hs (.inr ho) he
 |pick x y z=>exact bS9 hh hs ho he
 |binOp op t x y u=>exact bOp hE hh hs ho he
 |unOp op t x=>exact bS8 hh hs ho he
 |convert s d x =>
  cases hf:r.eff with
  |true=>exact aZi hE hh hs ho he hf
  |false=>exact bCl hE hh hs ho he hf
 |makeInterface t x=>exact bHd hE hh hs ho he
 |load t x=>exact bSa hE hh hs ho he
 |store t p x=>exact bOj hE hh hs ho he
 |nilCheck x=>exact bCj hh hs ho he
 |fieldAddr t x f=>exact aZh hE hh hs ho he
 |field t x f=>exact bOm hE hh hs ho he
 |indexAddr t x i=>exact aZg hE hh hs ho he
 |index t x i=>exact bOl hE hh hs ho he
 |slice t x lo hi mx=>exact bOk hE hh hs ho he
 |makeSlice t n m=>exact aZf hE hh hs ho he
 |build t ps=>exact bOo hE hh hs ho he
 |buildSlice t n ps=>exact aW7 hE hh hs hfree ho he
 |alloc t=>exact bOq hE hh hs ho he
 |box t x=>exact bU4 hE hh hs ho he
 |extract x i=>exact bHf hh hs ho he
 |makeMap t x=>exact bHe hh ho he
 |mapUpdate t m x y=>exact aZe hE hh hs ho he
 |lookup t m x q=>exact bKp hE hh hs ho he
 |makeFunc f first caps =>
  cases f with
  |func f=>exact bCk hh hs ho he
  |_=>exact (aA0 he).elim
 |call cl =>
  obtain⟨callee,args,ats⟩:=cl
  cases callee with
  |builtin b =>
   cases b with
   |len=>exact bU3 hE hh hs rfl ho he
   |append=>exact bKq hE hh hs rfl ho hfree he
   |clear=>exact bOn hE hh hs rfl ho he
   |max =>
    simp only[aBv,vop]at he
    split at he
    ·rename_i kd n hf
     obtain rfl:=aAh he
     exact aZd hh hs .max _ (.inl ⟨rfl,rfl⟩) rfl ho hf
    ·exact (aA0 he).elim
   |min =>
    simp only[aBv,vop]at he
    split at he
    ·rename_i kd n hf
     obtain rfl:=aAh he
     exact aZd hh hs .min _ (.inr ⟨rfl,rfl⟩) rfl ho hf
    ·exact (aA0 he).elim
   |_=>exact (aA0 he).elim
  |_=>exact (aA0 he).elim
 |_=>exact (aA0 he).elim
end
section
variable {α:Type} {E:Env} {σ:St}
theorem aA3 (t:Bool) (n:T α):(T.must t n).eval=if t then n.eval else none:=by cases t<;>rfl
theorem aA6 (t:Bool) (y n:T α):(T.ask t y n).eval=if t then y.eval else n.eval:=by cases t<;>rfl
theorem aGz:(T.bad:T α).eval=none:=rfl
theorem aA4 (x:α):(T.ret x).eval=some x:=rfl
theorem aLw (op:BinOp) (x y:W) (k:W→T α):(bJc op x y k).eval=((bJc op x y T.ret).eval).bind fun v=>(k v).eval:=by
 unfold bJc
 split<;>(try split)<;>(simp only[aA3,aGz,aA4,Option.bind_some,Option.bind_none])<;>(try split)<;>rfl
theorem aHs (lo hi:Option W) (n:Nat) (k:Nat→Nat→T α):(aFr lo hi n k).eval=((aFr lo hi n fun x y=>T.ret (x,y)).eval).bind fun p=>(k p.1 p.2).eval:=by
 unfold aFr
 split<;>(simp only[aA3,aGz,aA4,Option.bind_some,Option.bind_none])<;>(try split)<;>rfl
theorem bJ9 (op:Op) (k:R→T α):(vop E σ op k).eval=(aBv E σ op).bind fun R=>(k R).eval:=by
 unfold aBv vop
 split
 all_goals (repeat' split)
 all_goals (try simp only[aA3,aA6,aGz,aA4,Option.bind_some,Option.bind_none])
 all_goals (try rw[aLw])
 all_goals (try (conv=>rhs;rw[aLw]))
 all_goals (try rw[aHs])
 all_goals (try (conv=>rhs;rw[aHs]))
 all_goals (try (simp only[aA4,Option.bind_assoc,Option.bind_some];done))
 all_goals (repeat' split)
 all_goals (first | rfl | (simp only[aA4,aA3,aGz,Option.bind_assoc,Option.bind_some,Option.bind_none];done) | skip)
 all_goals (repeat' split)
 all_goals (first | rfl | (simp[aA4,aA3,aGz,Option.bind_assoc];done) | skip)
 all_goals (try simp only[aA3,aGz,aA4])
 all_goals (repeat' split)
 all_goals (first | rfl | (simp;done) | skip)
 all_goals (try simp only[aA3,aGz,aA4])
 all_goals (repeat' split)
 all_goals (first | rfl | (simp;done) | skip)
end
section
variable {E:Env} {σ σ2:St} {R:R}
def Op.plain:Op→Bool
 |.alloc _ | .box _ _ | .makeMap _ _ | .mapUpdate _ _ _ _ | .makeSlice _ _ _ | .convert _ _ _ | .store _ _ _ | .buildSlice _ _ _ | .call _=>false
 |_=>true
theorem aRg {α:Type} {r:α} {lo hi:Option W} {n:Nat} {k:Nat→Nat→T α} (h:(aFr lo hi n k).eval=some r):∃ x y,(k x y).eval=some r:=by
 rw[aHs]at h
 cases hv:(aFr lo hi n fun x y=>T.ret (x,y)).eval with
 |none=>rw[hv]at h;cases h
 |some p=>rw[hv]at h;exact⟨p.1,p.2,h⟩
theorem bM2 {α:Type} {r:α} {op:BinOp} {x y:W} {k:W→T α} (h:(bJc op x y k).eval=some r):∃ v,(k v).eval=some r:=by
 rw[aLw]at h
 cases hv:(bJc op x y T.ret).eval with
 |none=>rw[hv]at h;cases h
 |some p=>rw[hv]at h;exact⟨p,h⟩
theorem aHw {op:Op} (hp:Op.plain op=true) (h:aBv E σ op=some R):∃ v,R=aBe σ v:=by
 cases op<;>simp only[Op.plain]at hp<;>(try cases hp)<;>simp only[aBv,vop]at h
 case lookup t m x q =>
  cases q<;>simp only[vop]at h
  all_goals
   repeat' split at h
  all_goals first
   |exact (aA0 h).elim
   |exact⟨_,(aAh h).symm⟩
 case binOp op t x y u =>
  repeat' split at h
  all_goals first
   |exact (aA0 h).elim
   |exact⟨_,(aAh h).symm⟩
   |(obtain⟨v,h⟩:=bM2 h;exact⟨_,(aAh h).symm⟩)
 case slice t x lo hi mx =>
  repeat' split at h
  all_goals first
   |exact (aA0 h).elim
   |(obtain⟨x,y,h⟩:=aRg h;exact⟨_,(aAh h).symm⟩)
   |(obtain⟨_,h⟩:=aAl h;obtain⟨x,y,h⟩:=aRg h;exact⟨_,(aAh h).symm⟩)
 case makeFunc f first caps =>
  cases f<;>simp only[vop]at h
  case func f =>
   repeat' split at h
   all_goals first
    |exact (aA0 h).elim
    |exact⟨_,(aAh h).symm⟩
  all_goals exact (aA0 h).elim
 all_goals
  repeat' split at h
 all_goals first
  |exact (aA0 h).elim
  |exact⟨_,(aAh h).symm⟩
  |(obtain⟨_,h⟩:=aAl h;exact⟨_,(aAh h).symm⟩)
  |(rcases aWy h with⟨_,h⟩ | ⟨_,h⟩<;>exact⟨_,(aAh h).symm⟩)
def bNj (σ2:St) (o:Option V.R):Option V.R:=o.map fun r=>{r with st:=σ2}
theorem aBx (v:W):bNj σ2 (T.ret (aBe σ v)).eval=(T.ret (aBe σ2 v)).eval:=rfl
theorem aAp:bNj σ2 (T.bad:T V.R).eval=(T.bad:T V.R).eval:=rfl
theorem aG1 {t:Bool} {x y:T V.R} (h:bNj σ2 x.eval=y.eval):bNj σ2 (T.must t x).eval=(T.must t y).eval:=by cases t<;>first | rfl | exact h
theorem bJe {op:BinOp} {x y:W} {k k':W→T V.R} (h:∀ v,bNj σ2 (k v).eval=(k' v).eval):bNj σ2 (bJc op x y k).eval=(bJc op x y k').eval:=by
 rw[aLw,aLw op x y k']
 cases (bJc op x y T.ret).eval with
 |none=>rfl
 |some v=>exact h v
theorem aLa {lo hi:Option W} {n:Nat} {k k':Nat→Nat→T V.R} (h:∀ x y,bNj σ2 (k x y).eval=(k' x y).eval):bNj σ2 (aFr lo hi n k).eval=(aFr lo hi n k').eval:=by
 rw[aHs,aHs lo hi n k']
 cases (aFr lo hi n fun x y=>T.ret (x,y)).eval with
 |none=>rfl
 |some p=>exact h p.1 p.2
theorem aPv {fields:List (Nat×TypeId)}:∀ (parts:List (Nat×Operand)) (cells:List L),(∀ p∈parts,σ2.ev p.2=σ.ev p.2)→aSh E σ2 fields cells parts=aSh E σ fields cells parts
 |[],_,_=>rfl
 |(i,x)::r,cells,h=>by
  have e:σ2.ev x=σ.ev x:=h (i,x) (by simp)
  have ih:=fun cells=>aPv (fields:=fields) r cells (fun p hp=>h p (by simp[hp]))
  simp only[aSh,e,ih]
def aMp (σ σ2:St) (x:W):Prop:=∀ id,id∈x.ids→σ2.heap.lookup id=σ.heap.lookup id
theorem aI4 {id off n:Nat}:aMp σ σ2 (.l (.ref id off n))↔σ2.heap.lookup id=σ.heap.lookup id:=by simp[aMp,W.ids,L.ids]
theorem aH2 {id off:Nat}:aMp σ σ2 (.l (.ptr id off))↔σ2.heap.lookup id=σ.heap.lookup id:=by simp[aMp,W.ids,L.ids]
theorem aFb {id r off:Nat}:aMp σ σ2 (.l (.eptr id r off))↔σ2.heap.lookup id=σ.heap.lookup id:=by simp[aMp,W.ids,L.ids]
theorem aXd {E:Env} {te:TI} {o:Operand} {x:W} (h:aMp σ σ2 x):aRz E σ2.heap te o x=aRz E σ.heap te o x:=by
 unfold aRz
 split<;>try rfl
 rw[aFb]at h
 rw[h]
theorem aXc {te:TI} {x:W} (h:aMp σ σ2 x):aRy σ2.heap te x=aRy σ.heap te x:=by
 unfold aRy
 split<;>try rfl
 rw[aFb]at h
 rw[h]
theorem aZ6 {x:W} (h:aMp σ σ2 x):aM5 σ2.heap x=aM5 σ.heap x:=by
 unfold aM5
 split<;>try rfl
 rename_i id off n
 rw[h id (by simp[W.ids,L.ids])]
theorem bE8 {xs:List Operand} (h:∀ x∈xs,σ2.ev x=σ.ev x) (hk:∀ x∈xs,aMp σ σ2 (σ.ev x)):xs.mapM (bB3 σ2)=xs.mapM (bB3 σ):=by
 induction xs with
 |nil=>rfl
 |cons x xs ih =>
  simp only[List.mapM_cons]
  have:bB3 σ2 x=bB3 σ x:=by
   have hx:=hk x (by simp)
   unfold bB3
   rw[h x (by simp)]
   generalize σ.ev x=X at hx ⊢
   cases X with
   |l l =>
    cases l with
    |ptr id off =>
     rw[aH2]at hx
     cases off with
     |zero=>simp only[hx]
     |succ n=>rfl
    |ref id off n=>rfl
    |eptr id r off=>rfl
    |clo f caps =>
     show (match aL7 caps with | []=>Option.map Sum.inr none | _=>none)=(match aL7 caps with | []=>Option.map Sum.inr none | _=>none)
     rfl
    |_=>rfl
   |_=>rfl
  rw[ih (fun y hy=>h y (by simp[hy])) (fun y hy=>hk y (by simp[hy])),this]
theorem aJc {op:Op} (hp:Op.plain op=true) (hev:∀ x,x∈op.operands→σ2.ev x=σ.ev x) (hk:∀ x,x∈op.operands→aMp σ σ2 (σ.ev x)):bNj σ2 (aBv E σ op)=aBv E σ2 op:=by
 cases op<;>simp only[Op.plain]at hp<;>(try cases hp)<;>simp only[Op.operands]at hev hk
 case move x=>simp only[aBv,vop];rw[hev x (by simp)];exact aBx _
 case assign x=>simp only[aBv,vop];rw[hev x (by simp)];exact aBx _
 case pick x y z =>
  simp only[aBv,vop]
  rw[hev x (by simp),hev y (by simp),hev z (by simp)]
  split<;>first | exact aAp | exact aBx _
 case binOp op t x y u =>
  simp only[aBv,vop]
  rw[hev x (by simp),hev y (by simp)]
  (repeat' split)<;>first | exact aAp | exact aBx _ | exact bJe fun v=>aBx _
 case unOp op t x =>
  simp only[aBv,vop]
  rw[hev x (by simp)]
  split<;>first | exact aAp | exact aBx _
 case load t x =>
  have hx:=hk x (by simp)
  simp only[aBv,vop]
  rw[hev x (by simp)]
  generalize σ.ev x=X at hx ⊢
  cases E.Ty t with
  |none=>exact aAp
  |some ti =>
  rcases X with (l | xs | ps | bb)
  ·cases l<;>(try simp only[aI4,aH2,aFb]at hx)<;>(try dsimp only)<;>(try rw[hx])<;>(repeat' split)<;>first | exact aAp | exact aBx _ | exact aG1 (aBx _)
  ·first | exact aAp | ((repeat' split)<;>exact aAp)
  ·first | exact aAp | ((repeat' split)<;>exact aAp)
  ·first | exact aAp | ((repeat' split)<;>exact aAp)
 case nilCheck x =>
  have hx:=hk x (by simp)
  simp only[aBv,vop]
  rw[hev x (by simp)]
  generalize σ.ev x=X at hx ⊢
  rcases X with (l | xs | ps | bb)
  ·cases l<;>(try simp only[aI4,aH2,aFb]at hx)<;>(try dsimp only)<;>(try rw[hx])<;>(repeat' split)<;>first | exact aAp | exact aBx _ | exact aG1 (aBx _)
  ·first | exact aAp | ((repeat' split)<;>exact aAp)
  ·first | exact aAp | ((repeat' split)<;>exact aAp)
  ·first | exact aAp | ((repeat' split)<;>exact aAp)
 case fieldAddr t x f =>
  have hx:=hk x (by simp)
  simp only[aBv,vop]
  rw[hev x (by simp)]
  generalize σ.ev x=X at hx ⊢
  cases E.Ty t with
  |none=>exact aAp
  |some ti =>
  rcases X with (l | xs | ps | bb)
  ·cases l<;>(try simp only[aI4,aH2,aFb]at hx)<;>(try dsimp only)<;>(try rw[hx])<;>(repeat' split)<;>first | exact aAp | exact aBx _ | exact aG1 (aBx _)
  ·first | exact aAp | ((repeat' split)<;>exact aAp)
  ·first | exact aAp | ((repeat' split)<;>exact aAp)
  ·first | exact aAp | ((repeat' split)<;>exact aAp)
 case field t x f =>
  simp only[aBv,vop]
  rw[hev x (by simp)]
  (repeat' split)<;>first | exact aAp | exact aBx _
 case indexAddr t x y =>
  have hx:=hk x (by simp)
  simp only[aBv,vop]
  rw[hev x (by simp),hev y (by simp)]
  generalize σ.ev x=X at hx ⊢
  generalize σ.ev y=Y
  cases E.Arr t with
  |some p =>
   obtain⟨m,e⟩:=p
   dsimp only
   cases E.Ty e with
   |none=>exact aAp
   |some te =>
    dsimp only
    rw[aXd hx]
    split
    ·exact aG1 (aBx _)
    ·exact aAp
  |none =>
  dsimp only
  cases E.Ty t with
  |none=>exact aAp
  |some ti =>
  rcases X with (l | xs | ps | bb)
  ·cases l<;>rcases Y with (y | ys | ps)<;>(try cases y)<;>(try simp only[aI4,aH2,aFb]at hx)<;>(try dsimp only)<;>(try rw[hx])<;>(repeat' split)<;>first | exact aAp | exact aBx _ | exact aG1 (aBx _)
  ·first | exact aAp | ((repeat' split)<;>exact aAp)
  ·first | exact aAp | ((repeat' split)<;>exact aAp)
  ·first | exact aAp | ((repeat' split)<;>exact aAp)
 case index t x y =>
  simp only[aBv,vop]
  rw[hev x (by simp),hev y (by simp)]
  (repeat' split)<;>first | exact aAp | exact aBx _ | exact aG1 (aBx _)
 case slice t x lo hi mx =>
  have hx:=hk x (by simp)
  have hlo:lo.map σ2.ev=lo.map σ.ev:=by cases lo with | none=>rfl | some y=>simp only[Option.map_some];rw[hev y (by simp)]
  have hhi:hi.map σ2.ev=hi.map σ.ev:=by cases hi with | none=>rfl | some y=>simp only[Option.map_some];rw[hev y (by simp)]
  simp only[aBv,vop]
  rw[hev x (by simp),hlo,hhi]
  generalize σ.ev x=X at hx ⊢
  cases E.Arr t with
  |some p =>
   obtain⟨m,e⟩:=p
   dsimp only
   cases E.Ty e with
   |none=>exact aAp
   |some te =>
    dsimp only
    rw[aXc hx]
    split
    ·split
     ·exact aG1 (aLa fun _ _=>aBx _)
     ·exact aAp
    ·exact aAp
  |none =>
  dsimp only
  cases mx with
  |some m =>
   cases E.Ty t with
   |none=>exact aAp
   |some ti=>rcases X with (l | xs | ps | bb)<;>(try cases l)<;>exact aAp
  |none =>
  cases E.Ty t with
  |none=>exact aAp
  |some ti =>
  rcases X with (l | xs | ps | bb)
  ·cases l<;>(try simp only[aI4,aH2,aFb]at hx)<;>(try dsimp only)<;>(try rw[hx])<;>(repeat' split)<;>first | exact aAp | exact aLa fun _ _=>aBx _ | exact aG1 (aLa fun _ _=>aBx _)
  ·first | exact aAp | ((repeat' split)<;>exact aAp)
  ·first | exact aAp | ((repeat' split)<;>exact aAp)
  ·first | exact aAp | ((repeat' split)<;>exact aAp)
 case build t ps =>
  simp only[aBv,vop]
  have:∀ fields cells,aSh E σ2 fields cells ps.toList=aSh E σ fields cells ps.toList:=fun fields cells=>aPv ps.toList cells fun p hp=>hev p.2 (by simp;exact⟨p.1,by simpa using hp⟩)
  simp only[this]
  (repeat' split)<;>first | exact aAp | exact aBx _
 case extract x i =>
  simp only[aBv,vop]
  rw[hev x (by simp)]
  (repeat' split)<;>first | exact aAp | exact aBx _
 case lookup t m x q =>
  cases q with
  |true=>exact aAp
  |false =>
   simp only[aBv,vop]
   rw[hev m (by simp),hev x (by simp)]
   (repeat' split)<;>first | exact aAp | exact aBx _
 case makeInterface t x =>
  simp only[aBv,vop]
  rw[hev x (by simp)]
  (repeat' split)<;>first | exact aAp | exact aBx _
 case makeFunc f first caps =>
  cases f with
  |func f =>
   simp only[aBv,vop]
   rw[bE8 (σ:=σ) (σ2:=σ2) (xs:=caps.toList) (fun x hx=>hev x (by simp;exact .inr (by simpa using hx))) (fun x hx=>hk x (by simp;exact .inr (by simpa using hx)))]
   (repeat' split)<;>first | exact aAp | exact aBx _
  |_=>exact aAp
 all_goals exact aAp
theorem aG0 {op:Op} (hev:∀ x,x∈op.operands→σ2.ev x=σ.ev x) (hk:aNg op=false→∀ x,x∈op.operands→aMp σ σ2 (σ.ev x)) {R:V.R} (h:aBv E σ op=some R) (hf:R.eff=false) :
  ∃ v,R=aBe σ v∧aBv E σ2 op=some (aBe σ2 v):=by
 by_cases hst:aNg op=true
 ·cases op<;>simp only[aNg,Bool.false_eq_true]at hst
  case move x =>
   obtain rfl:=Option.some.inj h
   exact⟨σ.ev x,rfl,by show some (aBe σ2 (σ2.ev x))=_;rw[hev x (by simp[Op.operands])]⟩
  case assign x =>
   obtain rfl:=Option.some.inj h
   exact⟨σ.ev x,rfl,by show some (aBe σ2 (σ2.ev x))=_;rw[hev x (by simp[Op.operands])]⟩
 replace hk:=hk (by simpa using hst)
 clear hst
 by_cases hp:Op.plain op=true
 ·obtain⟨v,rfl⟩:=aHw hp h
  refine⟨v,rfl,?_⟩
  rw[←aJc hp hev hk,h]
  rfl
 ·have fin:(bNj σ2 (aBv E σ op)=aBv E σ2 op)→(∃ v,R=aBe σ v)→∃ v,R=aBe σ v∧aBv E σ2 op=some (aBe σ2 v):=by
   rintro h1 ⟨v,rfl⟩
   exact⟨v,rfl,by rw[←h1,h];rfl⟩
  cases op<;>simp only[Op.plain,not_true,not_false_iff]at hp<;>simp only[Op.operands]at hev hk
  case alloc t =>
   exfalso
   simp only[aBv,vop]at h
   (repeat' split at h)<;>first | exact aA0 h | (obtain rfl:=aAh h;cases hf)
  case box t x =>
   exfalso
   simp only[aBv,vop]at h
   (repeat' split at h)<;>first | exact aA0 h | (obtain rfl:=aAh h;cases hf)
  case makeMap t x =>
   exfalso
   cases x<;>simp only[aBv,vop]at h
   all_goals (repeat' split at h)<;>first | exact aA0 h | (obtain rfl:=aAh h;cases hf)
  case mapUpdate t m x y =>
   exfalso
   simp only[aBv,vop]at h
   (repeat' split at h)<;>first | exact aA0 h | (obtain rfl:=aAh h;cases hf)
  case makeSlice t n m =>
   exfalso
   simp only[aBv,vop]at h
   (repeat' split at h)<;>first | exact aA0 h | (obtain⟨_,h⟩:=aAl h;obtain rfl:=aAh h;cases hf)
  case store t p x =>
   exfalso
   simp only[aBv,vop]at h
   (repeat' split at h)<;>first | exact aA0 h | (obtain rfl:=aAh h;cases hf) | (obtain⟨_,h⟩:=aAl h;obtain rfl:=aAh h;cases hf)
  case buildSlice t n ps =>
   exfalso
   simp only[aBv,vop]at h
   (repeat' split at h)<;>first | exact aA0 h | (obtain rfl:=aAh h;cases hf)
  case convert s d x =>
   have hx:=hk x (by simp)
   have hr:=aZ6 hx
   simp only[aBv,vop]at h ⊢
   rw[hev x (by simp),hr]
   (repeat' split at h)<;>first
    |exact (aA0 h).elim
    |(obtain rfl:=aAh h;first | (exfalso;cases hf;done) | exact⟨_,rfl,by simp_all [aA4,aA3,aBe]⟩)
    |(obtain⟨hm,h⟩:=aAl h;obtain rfl:=aAh h;first | (exfalso;cases hf;done) | exact⟨_,rfl,by simp_all [aA4,aA3,aBe]⟩)
  case call cl =>
   obtain⟨callee,args,ats⟩:=cl
   cases callee with
   |builtin b =>
    simp only[Call.operands]at hev hk
    cases b with
    |len =>
     simp only[aBv,vop]at h ⊢
     split at h
     ·rename_i x t hx0 ht0
      have hxm:x∈args:=Array.mem_of_getElem? hx0
      have hx:=hk x (by simpa using hxm)
      rw[hev x (by simpa using hxm)]
      generalize hX:σ.ev x=X at hx h ⊢
      rcases X with (l | xs | ps | bb)
      ·cases l<;>(try simp only[aI4,aH2,aFb]at hx)<;>(try dsimp only)<;>(try rw[hx])<;>(repeat' split at h)<;>first
        |exact (aA0 h).elim
        |(obtain rfl:=aAh h;exact⟨_,rfl,by simp_all [aA4,aBe]⟩)
      ·cases hT:E.Ty t<;>rw[hT]at h<;>exact (aA0 h).elim
      ·cases hT:E.Ty t<;>rw[hT]at h<;>exact (aA0 h).elim
      ·cases hT:E.Ty t<;>rw[hT]at h<;>exact (aA0 h).elim
     ·exact (aA0 h).elim
    |clear =>
     exfalso
     simp only[aBv,vop]at h
     (repeat' split at h)<;>first | exact aA0 h | (obtain⟨_,h⟩:=aAl h;obtain rfl:=aAh h;cases hf)
    |append =>
     exfalso
     simp only[aBv,vop]at h
     (repeat' split at h)<;>first | exact aA0 h | (obtain⟨_,h⟩:=aAl h;obtain rfl:=aAh h;cases hf)
    |max =>
     have:args.toList.map σ2.ev=args.toList.map σ.ev:=List.map_congr_left fun x hx=>hev x (by simpa using hx)
     simp only[aBv,vop]at h ⊢
     rw[this]
     (repeat' split at h)<;>first | exact (aA0 h).elim | (obtain rfl:=aAh h;exact⟨_,rfl,rfl⟩)
    |min =>
     have:args.toList.map σ2.ev=args.toList.map σ.ev:=List.map_congr_left fun x hx=>hev x (by simpa using hx)
     simp only[aBv,vop]at h ⊢
     rw[this]
     (repeat' split at h)<;>first | exact (aA0 h).elim | (obtain rfl:=aAh h;exact⟨_,rfl,rfl⟩)
    |_=>exact (aA0 h).elim
   |_=>exact (aA0 h).elim
def aJo (s2:List (Nat×W)) (r:V.R):V.R:={r with st:={r.st with slots:=s2}}
def bTm (s2:List (Nat×W)) (o:Option V.R):Option V.R:=o.map (aJo s2)
theorem aDm {s2:List (Nat×W)} {x y:V.R} (h:aJo s2 x=y):bTm s2 (T.ret x).eval=(T.ret y).eval:=by subst h;rfl
theorem aCm {s2:List (Nat×W)}:bTm s2 (T.bad:T V.R).eval=(T.bad:T V.R).eval:=rfl
theorem aJh {s2:List (Nat×W)} {t:Bool} {x y:T V.R} (h:bTm s2 x.eval=y.eval):bTm s2 (T.must t x).eval=(T.must t y).eval:=by cases t<;>first | rfl | exact h
theorem bJ8 {s2:List (Nat×W)} {op:Op} (hev:∀ x,x∈op.operands→({σ with slots:=s2}:St).ev x=σ.ev x):bTm s2 (aBv E σ op)=aBv E {σ with slots:=s2} op:=by
 by_cases hp:Op.plain op=true
 ·rw[←aJc hp hev (fun _ _ _ _=>rfl)]
  cases h:aBv E σ op with
  |none=>rfl
  |some r=>obtain⟨v,rfl⟩:=aHw hp h;rfl
 ·cases op<;>simp only[Op.plain,not_true,not_false_iff]at hp<;>simp only[Op.operands]at hev
  case alloc t =>
   simp only[aBv,vop]
   (repeat' split)<;>first | exact aCm | exact aDm rfl
  case box t x =>
   simp only[aBv,vop]
   rw[hev x (by simp)]
   (repeat' split)<;>first | exact aCm | exact aDm rfl
  case makeMap t x =>
   cases x<;>simp only[aBv,vop]
   all_goals (repeat' split)<;>first | exact aCm | exact aDm rfl
  case mapUpdate t m x y =>
   simp only[aBv,vop]
   rw[hev m (by simp),hev x (by simp),hev y (by simp)]
   (repeat' split)<;>first | exact aCm | exact aDm rfl
  case makeSlice t n m =>
   simp only[aBv,vop]
   rw[hev n (by simp),hev m (by simp)]
   (repeat' split)<;>first | exact aCm | exact aJh (aDm rfl)
  case store t p x =>
   simp only[aBv,vop]
   rw[hev p (by simp),hev x (by simp)]
   (repeat' split)<;>first | exact aCm | exact aDm rfl | exact aJh (aDm rfl)
  case buildSlice t n ps =>
   have h1:(ps.toList.mapM fun p=>(aXv (({σ with slots:=s2}:St).ev p.2)).bind (aLr σ.heap))=ps.toList.mapM fun p=>(aXv (σ.ev p.2)).bind (aLr σ.heap):=by
    have:∀ p∈ps.toList,({σ with slots:=s2}:St).ev p.2=σ.ev p.2:=fun p hp=>hev p.2 (by simp;exact⟨p.1,by simpa using hp⟩)
    revert this
    generalize ps.toList=l
    intro this
    induction l with
    |nil=>rfl
    |cons p l ih=>simp only[List.mapM_cons];rw[this p (by simp),ih (fun q hq=>this q (by simp[hq]))]
   have h2:(ps.toList.flatMap fun p=>(({σ with slots:=s2}:St).ev p.2).ids)=ps.toList.flatMap fun p=>(σ.ev p.2).ids:=by
    have:∀ p∈ps.toList,({σ with slots:=s2}:St).ev p.2=σ.ev p.2:=fun p hp=>hev p.2 (by simp;exact⟨p.1,by simpa using hp⟩)
    revert this
    generalize ps.toList=l
    intro this
    induction l with
    |nil=>rfl
    |cons p l ih=>simp only[List.flatMap_cons];rw[this p (by simp),ih (fun q hq=>this q (by simp[hq]))]
   have h3:(ps.toList.all fun p=>(({σ with slots:=s2}:St).ev p.2).ids.all (aZj σ.heap))=ps.toList.all fun p=>(σ.ev p.2).ids.all (aZj σ.heap):=by
    have:∀ p∈ps.toList,({σ with slots:=s2}:St).ev p.2=σ.ev p.2:=fun p hp=>hev p.2 (by simp;exact⟨p.1,by simpa using hp⟩)
    revert this
    generalize ps.toList=l
    intro this
    induction l with
    |nil=>rfl
    |cons p l ih=>simp only[List.all_cons];rw[this p (by simp),ih (fun q hq=>this q (by simp[hq]))]
   simp only[aBv,vop]
   rw[h1,h2,h3]
   (repeat' split)<;>first | exact aCm | exact aDm rfl
  case convert s d x =>
   simp only[aBv,vop]
   rw[hev x (by simp)]
   (repeat' split)<;>first | exact aCm | exact aDm rfl | exact aJh (aDm rfl)
  case call cl =>
   obtain⟨callee,args,ats⟩:=cl
   cases callee with
   |builtin b =>
    simp only[Call.operands]at hev
    cases b with
    |len =>
     simp only[aBv,vop]
     cases hx0:args[0]? with
     |none=>exact aCm
     |some x =>
      have hxm:x∈args:=Array.mem_of_getElem? hx0
      cases ats[0]? with
      |none=>exact aCm
      |some t =>
      dsimp only
      rw[hev x (by simpa using hxm)]
      (repeat' split)<;>first | exact aCm | exact aDm rfl
    |clear =>
     simp only[aBv,vop]
     split
     ·rename_i x t hargs hats
      have hargs':args=#[x]:=by apply Array.ext';simpa using hargs
      subst hargs'
      rw[hev x (by simp)]
      (repeat' split)<;>first | exact aCm | exact aJh (aDm rfl)
     ·exact aCm
    |append =>
     simp only[aBv,vop]
     split
     ·rename_i y x t u hargs hats
      have hargs':args=#[y,x]:=by apply Array.ext';simpa using hargs
      subst hargs'
      rw[hev y (by simp),hev x (by simp)]
      (repeat' split)<;>first | exact aCm | exact aJh (aDm rfl)
     ·exact aCm
    |max =>
     have:args.toList.map ({σ with slots:=s2}:St).ev=args.toList.map σ.ev:=List.map_congr_left fun x hx=>hev x (by simpa using hx)
     simp only[aBv,vop]
     rw[this]
     (repeat' split)<;>first | exact aCm | exact aDm rfl
    |min =>
     have:args.toList.map ({σ with slots:=s2}:St).ev=args.toList.map σ.ev:=List.map_congr_left fun x hx=>hev x (by simpa using hx)
     simp only[aBv,vop]
     rw[this]
     (repeat' split)<;>first | exact aCm | exact aDm rfl
    |_=>exact aCm
   |_=>exact aCm
end
def aLt (w:World) (ok:Nat→Prop) (cur:Array Value) (cs:List C):Prop :=
 cur.size=cs.length∧∀ (j:Nat) (d:C),cs[j]? =some d→∃ u,cur[j]? =some u∧Rep w ok u d
def bWh (w:World) (ok:Nat→Prop):Bool→Value→List C→Prop
 |true,v,cs=>∃ us:Array Value,v=.agg us∧aLt w ok us cs
 |false,v,cs=>∃ d,cs=[d]∧Rep w ok v d
inductive aC1 (P:Program) (w:World) (ok:Nat→Prop) (pb:List (Option Nat)):List (K×Bool)→List Value→List C→List (Option Nat)→Prop
 |nil:aC1 P w ok pb [] [] [] []
 |data {kd:K} {ks:List (K×Bool)} {v:Value} {vs:List Value} {c:C} {cs:List C} {bs:List (Option Nat)}:Rep w ok v c→aC1 P w ok pb ks vs cs bs→aC1 P w ok pb ((kd,false)::ks) (v::vs) (c::cs) bs
 |none {e:TypeId} {ks:List (K×Bool)} {a:Option Addr} {vs:List Value} {cs:List C} {bs:List (Option Nat)}:aC1 P w ok pb ks vs cs bs→aC1 P w ok pb ((.slice e,true)::ks) (.slice a 0 0::vs) (.sl []::cs) (.none::bs)
 |own {e:TypeId} {ks:List (K×Bool)} {vs:List Value} {rows:List (List C)} {cs:List C} {bs:List (Option Nat)} {b cap:Nat} {cur:Array Value} {E:TypeId} {fr:Nat×Nat} {i:TypeInfo}:P.info? e=some i→rows.length≤cap →
   w.heap[b]? =some (.cells cur E fr)→aFd (bd i.size cur.size) fr→cap*i.size≤cur.size →
   (∀ (k:Nat) (r:List C) (j:Nat) (x:C),rows[k]? =some r→r[j]? =some x→∃ u,cur[k*i.size+j]? =some u∧Rep w ok u x)→aC1 P w ok pb ks vs cs bs →
   aC1 P w ok pb ((.slice e,true)::ks) (.slice (some ⟨b,0,none⟩) rows.length cap::vs) (.sl rows::cs) (some b::bs)
 |back {e:TypeId} {j:Nat} {ks:List (K×Bool)} {v:Value} {vs:List Value} {rows:List (List C)} {cs:List C} {bs:List (Option Nat)} {ob:Option Nat} {i:TypeInfo}:P.info? e=some i→pb[j]? =some ob→v.oneCell'=true→bIt w ob i.size v 0 rows.length →
   aC1 P w ok pb ks vs cs bs→aC1 P w ok pb ((.back e j,true)::ks) (v::vs) (.sl rows::cs) bs
def WrV:Bool→Value→List Value→Prop
 |true,v,us=>∃ a:Array Value,v=.agg a∧us=a.toList
 |false,v,us=>us=[v]
inductive aIa (P:Program) (w:World) (ok:Nat→Prop):List PTy→List Value→List C→List (Option Nat)→Prop
 |nil:aIa P w ok [] [] [] []
 |val {agg:Bool} {ks:List K} {ps:List PTy} {v:Value} {vs:List Value} {cs1 cs:List C} {pb:List (Option Nat)}:cs1.length=ks.length→bWh w ok agg v cs1→aIa P w ok ps vs cs pb→aIa P w ok (.val agg ks::ps) (v::vs) (cs1++cs) pb
 |box {ks:List K} {ps:List PTy} {vs:List Value} {cs1 cs:List C} {pb:List (Option Nat)} {b:Nat} {cur:Array Value} {E:TypeId} {fr:Nat×Nat}:cs1.length=ks.length→w.heap[b]? =some (.cells cur E fr)→aFd cur.size fr→aLt w ok cur cs1 →
   aIa P w ok ps vs cs pb→aIa P w ok (.box ks::ps) (.pointer (some ⟨b,0,none⟩)::vs) (cs1++cs) (some b::pb)
 |wr {agg:Bool} {ks:List (K×Bool)} {ps:List PTy} {v:Value} {us vs:List Value} {cs1 cs:List C} {pb1 pb:List (Option Nat)}:WrV agg v us→aC1 P w ok [] ks us cs1 pb1→aIa P w ok ps vs cs pb→aIa P w ok (.wr agg ks::ps) (v::vs) (cs1++cs) (pb1++pb)
inductive aO3 (P:Program) (w w':World) (ok:Nat→Prop):List (K×Bool)→List (Option Nat)→List C→Prop
 |nil:aO3 P w w' ok [] [] []
 |data {kd:K} {ks:List (K×Bool)} {bs:List (Option Nat)} {cs:List C}:aO3 P w w' ok ks bs cs→aO3 P w w' ok ((kd,false)::ks) bs cs
 |none {e:TypeId} {ks:List (K×Bool)} {bs:List (Option Nat)} {cs:List C}:aO3 P w w' ok ks bs cs→aO3 P w w' ok ((.slice e,true)::ks) (.none::bs) (.sl []::cs)
 |own {e:TypeId} {ks:List (K×Bool)} {bs:List (Option Nat)} {cs:List C} {rows:List (List C)} {b:Nat} {cur cur':Array Value} {E:TypeId} {fr:Nat×Nat} {i:TypeInfo}:P.info? e=some i→w.heap[b]? =some (.cells cur E fr)→w'.heap[b]? =some (.cells cur' E fr)→cur'.size=cur.size →
   (∀ (k:Nat) (r:List C) (j:Nat) (x:C),rows[k]? =some r→r[j]? =some x→∃ u,cur'[k*i.size+j]? =some u∧Rep w' ok u x)→aO3 P w w' ok ks bs cs→aO3 P w w' ok ((.slice e,true)::ks) (some b::bs) (.sl rows::cs)
inductive aIs (P:Program) (w:World) (ok:Nat→Prop) (pb:List (Option Nat)):List RTy→List Value→List C→List (Option Nat)→Prop
 |nil:aIs P w ok pb [] [] [] []
 |agg {t:RTy} {ts:List RTy} {us:Array Value} {vs:List Value} {cs1 cs:List C} {bs1 bs:List (Option Nat)}:t.agg=true→aC1 P w ok pb t.ls us.toList cs1 bs1→aIs P w ok pb ts vs cs bs→aIs P w ok pb (t::ts) (.agg us::vs) (cs1++cs) (bs1++bs)
 |one {t:RTy} {ts:List RTy} {v:Value} {vs:List Value} {cs1 cs:List C} {bs1 bs:List (Option Nat)}:t.agg=false→aC1 P w ok pb t.ls [v] cs1 bs1→aIs P w ok pb ts vs cs bs→aIs P w ok pb (t::ts) (v::vs) (cs1++cs) (bs1++bs)
inductive aFq (P:Program) (w w':World) (ok:Nat→Prop):List PTy→List (Option Nat)→List C→Prop
 |nil:aFq P w w' ok [] [] []
 |val {agg:Bool} {ks:List K} {ps:List PTy} {pb:List (Option Nat)} {cs:List C}:aFq P w w' ok ps pb cs→aFq P w w' ok (.val agg ks::ps) pb cs
 |box {ks:List K} {ps:List PTy} {pb:List (Option Nat)} {cs1 cs:List C} {b:Nat} {cur cur':Array Value} {E:TypeId} {fr:Nat×Nat}:cs1.length=ks.length→w.heap[b]? =some (.cells cur E fr)→w'.heap[b]? =some (.cells cur' E fr)→cur'.size=cur.size→aLt w' ok cur' cs1 →
   aFq P w w' ok ps pb cs→aFq P w w' ok (.box ks::ps) (some b::pb) (cs1++cs)
 |wr {agg:Bool} {ks:List (K×Bool)} {ps:List PTy} {pb1 pb:List (Option Nat)} {cs1 cs:List C}:aO3 P w w' ok ks pb1 cs1→aFq P w w' ok ps pb cs→aFq P w w' ok (.wr agg ks::ps) (pb1++pb) (cs1++cs)
def bRx:List Value→Value
 |[v]=>v
 |vs=>.tuple vs.toArray
structure bNh (P:Program) (w:World) (okR:Nat→Prop) (pb:List (Option Nat)) (sig:Sig) (outs:List C) (v:Value) (w':World):Prop where
 out:∃ vs bs cs1 cs2 okN,(∀ b,okN b→(sig.nested=true∧okR b)∨(w.heap.size≤b∧some b∉bs))∧v=bRx vs∧outs=cs1++cs2∧aIs P w' okN pb sig.results vs cs1 bs ∧
  aFq P w w' okN sig.params pb cs2∧(∀ (i j b:Nat),bs[i]? =some (some b)→bs[j]? =some (some b)→i=j)∧(∀ b,some b∈bs→w.heap.size≤b∧b<w'.heap.size)
 size:w.heap.size≤w'.heap.size
 frame:∀ b,b<w.heap.size→some b∉pb→w'.heap[b]? =w.heap[b]?
 os:w'.os=w.os
 output:w'.output=w.output
def bTf (P:Program) (f:FuncId) (args:Array Value) (w:World) (R:Value→World→Prop):Prop :=
 ((callFunc f args).run P w=.ok (.enter f args) w∧Calls P f args w fun e w'=>∃ v,e=.returned v∧R v w')∨∃ v w',(callFunc f args).run P w=.ok (.value v) w'∧R v w'
theorem bTf.mono {P:Program} {f:FuncId} {args:Array Value} {w:World} {R R':Value→World→Prop} (h:bTf P f args w R) (hr:∀ v w',R v w'→R' v w'):bTf P f args w R':=by
 rcases h with⟨h1,h2⟩ | ⟨v,w',h1,h2⟩
 ·exact .inl ⟨h1,h2.mono fun e w' ⟨v,he,hv⟩=>⟨v,he,hr _ _ hv⟩⟩
 ·exact .inr ⟨v,w',h1,hr _ _ h2⟩
def aAw (P:Program) (f:FuncId) (sig:Sig) (spec:Spec):Prop :=
 ∀ (w:World) (okR:Nat→Prop) (pb:List (Option Nat)) (vals:List Value) (cs outs:List C),(∀ b,okR b→b<w.heap.size∧some b∉pb)→aMy P w okR→(∀ (i j b:Nat),pb[i]? =some (some b)→pb[j]? =some (some b)→i=j)→aIa P w okR sig.params vals cs pb→aB6 cs (aEp sig.params)=true →
  spec cs=some (true,outs)→bTf P f vals.toArray w (bNh P w okR pb sig outs)
def bBm (c:Ctx) (σ:St) (β:aCr) (w:World) (r:R) (v:Value) (w':World):Prop :=
 ∃ β',aB7 c w' r.st.heap r.st.next β'∧Ext c w σ.heap σ.next β w' r.st.heap r.st.next β'∧aFs (okD c r.st.heap β') w' r.st.heap r.st.next β' v r.val∧r.st.slots=σ.slots∧r.st.pins=σ.pins ∧
  (∀ id cells,σ.heap.lookup id=some (.box cells)→∃ cells',r.st.heap.lookup id=some (.box cells')∧cells'.length=cells.length∧β' id=β id) ∧
  (∀ id x,id∈σ.pins→σ.heap.lookup id=some x→x.isFro=false→∃ x',r.st.heap.lookup id=some x'∧x'.isFro=false∧β' id=β id)
section
variable {c:Ctx} {w w':World} {h:aCq} {nx:Nat} {β:aCr}
theorem aLt.rep {ok ok':Nat→Prop} {w:World} {cur:Array Value} {cs:List C} (hc:aLt w ok cur cs) (hk:∀ b,ok b→b<w.heap.size→ok' b):aLt w ok' cur cs :=
 ⟨hc.1,fun j d hj=>let⟨u,hu,hr⟩:=hc.2 j d hj;⟨u,hu,hr.mono (fun b hb hlt=>⟨hk b hb hlt,rfl⟩) (Nat.le_refl _)⟩⟩
theorem bV0 (hh:aB7 c w h nx β) {okR:Nat→Prop} (hok:∀ b,okD c h β b→b<w.heap.size→okR b) {vids:List Nat} (hid:∀ id b blk,id∈vids→h.lookup id=some blk→β id=some b→okR b)
  {v:Value} {x:L} {d:C} (hr:aI5 (okD c h β) w h nx β v x) (hd:x.arg h=some d) (hx:∀ id,id∈x.ids→id∈vids) (hx2:∀ id,id∈aGe h x.ids→id∈vids):Rep w okR v d:=by
 have data:∀ {v:Value} {x:L} {d:C},aI5 (okD c h β) w h nx β v x→x.data h=some d→(∀ id,id∈x.ids→id∈vids)→Rep w okR v d:=fun {v x d} hr hd hx =>
  (aIq hh (ok':=fun b=>b<w.heap.size→okR b) (fun b hb hlt=>hok b hb hlt) (fun id b blk p hxi hl hr' hb _=>hid id b blk (hx id hxi) hl hb) hr hd).mono (fun b hb hlt=>⟨hb hlt,rfl⟩) (Nat.le_refl _)
 have box:∀ {v:Value} {id:Nat} {d:C},(∀ cells,h.lookup id=some (.box cells)→∃ b,β id=some b∧v=.pointer (some ⟨b,0,none⟩))→bVd h id=some d→id∈vids→(∀ id',id'∈aGe h [id]→id'∈vids)→Rep w okR v d:=fun {v id d} hv hd hi hi2=>by
  unfold bVd at hd
  split at hd
  ·rename_i cells hl
   obtain⟨b,hb,rfl⟩:=hv cells hl
   cases hds:aLr h cells with
   |none=>rw[hds]at hd;cases hd
   |some row =>
    rw[hds]at hd
    obtain rfl:=Option.some.inj hd
    obtain⟨b',cur,E,fr,hb2,hw,hth,hrep⟩:=(hh.blk id _ hl).2
    obtain rfl:b'=b:=by rw[hb]at hb2;exact (Option.some.inj hb2).symm
    obtain⟨h1,h2⟩:=aMl hh (ok':=fun b=>b<w.heap.size→okR b) (fun b hb hlt=>hok b hb hlt) (fun id' b blk p hxi hl' hr' hb _=>hid id' b blk (hi2 id' (by simp[aGe,hl];simpa using hxi)) hl' hb) hrep hds
    refine .pt b' 0 row (fun j=>cur.getD j undef) (hid id b' _ hi hl hb) (hh.place id _ b' hl hb).2 (fun j hj=>?_) fun j y hj=>?_
    ·rw[cell_of_row w b' _ cur E fr hw]
     have:j<cur.size:=by omega
     simp[this]
    ·obtain⟨u,hu,hru⟩:=h2 j y hj
     rw[Array.getD_eq_getD_getElem?,hu]
     exact hru.mono (fun b hb hlt=>⟨hb hlt,rfl⟩) (Nat.le_refl _)
  ·cases hd
 cases x with
 |ptr id off =>
  cases off with
  |succ n=>simp[L.arg,L.data]at hd
  |zero=>exact box hr.2.2.1 hd (hx id (by simp[L.ids])) fun id' hi=>hx2 id' (by simpa[L.ids]using hi)
 |rp row off =>
  obtain rfl:=Option.some.inj hd
  obtain⟨b,o,rfl,h1,h2,h3⟩:=hr
  have mono:∀ {v:Value} {d:C},Rep w (okD c h β) v d→Rep w okR v d:=fun hr=>hr.mono (fun b hb hlt=>⟨hok b hb hlt,rfl⟩) (Nat.le_refl _)
  refine .pt b o _ (fun j=>(w.cell? ⟨b,o+j,none⟩).getD undef) (hok b h1 h2) h2 (fun j hj=>?_) fun j y hj=>?_
  ·have hj':off+j<row.length:=by simp at hj;omega
   obtain⟨u,hu,_⟩:=h3 j _ (List.getElem?_eq_getElem hj')
   rw[hu];rfl
  ·rw[List.getElem?_drop]at hj
   obtain⟨u,hu,hru⟩:=h3 j y hj
   rw[hu]
   exact mono hru
 |clo f caps =>
  obtain⟨vs,rfl,hl,hcap⟩:=hr
  simp only[L.arg]at hd
  cases hm:caps.mapM (bVb h)with
  |none=>rw[hm]at hd;cases hd
  |some cs =>
   rw[hm]at hd
   obtain rfl:=Option.some.inj hd
   refine .fn f vs cs (by rw[hl];exact (mapM_some_length hm).symm) fun i u y hu hy=>?_
   cases hci:caps[i]? with
   |none =>
    have h1:=List.getElem?_eq_none_iff.1 hci
    have h2:=(List.getElem?_eq_some_iff.1 hu).1
    omega
   |some cp =>
    have hg:=mapM_some_get hm i cp hci
    rw[hy]at hg
    have hc:=hcap i u cp hu hci
    cases cp with
    |inr z =>
     obtain rfl:=Option.some.inj hg
     exact Rep.mono (ok:=okD c h β) hc (fun b hb hlt=>⟨hok b hb hlt,rfl⟩) (Nat.le_refl _)
    |inl id =>
     have hmem:id∈aL7 caps:=by
      have:(Sum.inl id:Sum Nat C)∈caps:=List.mem_of_getElem? hci
      clear hcap hm hci hl hx hx2
      induction caps with
      |nil=>cases this
      |cons z r ih =>
       rcases List.mem_cons.1 this with rfl | hm
       ·simp[aL7]
       ·cases z<;>simp[aL7,ih hm]
     exact box hc.2.2.1 hg (hx id (by simpa[L.ids]using hmem)) fun id' hi=>hx2 id' (by
      simp only[aGe,List.mem_flatMap]at hi ⊢
      obtain⟨z,hz1,hz2⟩:=hi
      obtain rfl:z=id:=by simpa using hz1
      exact⟨z,by simpa[L.ids]using hmem,hz2⟩)
 |_=>exact data hr hd hx
def aDy (β:aCr) (ids:List Nat) (pb:List (Option Nat)):Prop:=pb.length=ids.length∧∀ (j id b:Nat),ids[j]? =some id→pb[j]? =some (some b)→β id=some b
theorem aDy.nil {β:aCr}:aDy β [] []:=⟨rfl,fun j id b h=>by simp at h⟩
theorem aDy.cons {β:aCr} {id:Nat} {ids:List Nat} {ob:Option Nat} {pb:List (Option Nat)} (h:aDy β ids pb) (h0:∀ b,ob=some b→β id=some b):aDy β (id::ids) (ob::pb) :=
 ⟨by simp[h.1],fun j i b hi hb=>by
  cases j with
  |zero=>simp at hi hb;subst hi;exact h0 b hb
  |succ j=>exact h.2 j i b (by simpa using hi) (by simpa using hb)⟩
theorem aDy.app {β:aCr} {ids ids':List Nat} {pb pb':List (Option Nat)} (h:aDy β ids pb) (h':aDy β ids' pb'):aDy β (ids++ids') (pb++pb') :=
 ⟨by simp[h.1,h'.1],fun j i b hi hb=>by
  by_cases hj:j<ids.length
  ·rw[List.getElem?_append_left hj]at hi
   rw[List.getElem?_append_left (by rw[h.1];exact hj)]at hb
   exact h.2 j i b hi hb
  ·rw[List.getElem?_append_right (by omega)]at hi
   rw[List.getElem?_append_right (by rw[h.1];omega),h.1]at hb
   exact h'.2 _ i b hi hb⟩
theorem aW1 {E:Env} (hE:aDx c.P E) (hh:aB7 c w h nx β) {okR:Nat→Prop} (hok:∀ b,okD c h β b→b<w.heap.size→okR b) {vids:List Nat} (hid:∀ id b blk,id∈vids→h.lookup id=some blk→β id=some b→okR b) :
  ∀ {ks:List (K×Bool)} {ls:List L} {us:List Value} {cs:List C},aCz E h ks ls=some cs→aFt h ks ls=true→(∀ id,id∈aCy ks ls→id∈vids)→us.length=ls.length →
   (∀ (j:Nat) (x:L),ls[j]? =some x→∃ u,us[j]? =some u∧aI5 (okD c h β) w h nx β u x) →
   ∃ pb,aC1 c.P w okR [] ks us cs pb∧aDy β (aD9 ks ls) pb∧∀ id,id∈aD9 ks ls→∃ sz rows,h.lookup id=some (.arr sz rows):=by
 intro ks
 induction ks with
 |nil =>
  intro ls us cs hp hw hi hl hr
  cases ls with
  |cons x ls=>simp[aCz]at hp
  |nil =>
   simp only[aCz,Option.some.injEq]at hp
   subst hp
   have:us=[]:=List.length_eq_zero_iff.1 hl
   subst this
   exact⟨[],.nil,aDy.nil,fun id hi=>by simp[aD9]at hi⟩
 |cons k ks ih =>
  intro ls us cs hp hw hi hl hr
  obtain⟨kd,own⟩:=k
  cases ls with
  |nil=>cases own<;>cases kd<;>simp[aCz]at hp
  |cons x ls =>
   cases us with
   |nil=>simp at hl
   |cons u us =>
    have hl':us.length=ls.length:=by simpa using hl
    have hr0:aI5 (okD c h β) w h nx β u x:=by obtain⟨u',hu,h⟩:=hr 0 x rfl;simp at hu;subst hu;exact h
    have hr':∀ (j:Nat) (x:L),ls[j]? =some x→∃ u,us[j]? =some u∧aI5 (okD c h β) w h nx β u x:=fun j y hj=>by simpa using hr (j+1) y (by simpa using hj)
    cases own with
    |false =>
     simp only[aCz]at hp
     split at hp
     ·rename_i d cs0 hd hrec
      obtain rfl:=Option.some.inj hp
      obtain⟨pb,b1,b2,b3⟩:=ih hrec (by simpa[aFt]using hw) (fun id hx=>hi id (by simp only[aCy];exact List.mem_append_right _ hx)) hl' hr'
      refine⟨pb,.data ?_ b1,by simpa[aD9]using b2,fun id hx=>b3 id (by simpa[aD9]using hx)⟩
      exact (aIq hh (ok':=fun b=>b<w.heap.size→okR b) (fun b hb hlt=>hok b hb hlt) (fun id b blk p hxi hl hr' hb _=>hid id b blk (hi id (by simp[aCy,hxi])) hl hb) hr0 hd).mono (fun b hb hlt=>⟨hb hlt,rfl⟩) (Nat.le_refl _)
     ·cases hp
    |true =>
     cases kd with
     |slice e =>
      cases x with
      |ref id off n =>
       cases off with
       |succ m=>simp[aCz]at hp
       |zero =>
        simp only[aCz]at hp
        split at hp
        ·rename_i te sz rows cs0 hte hlk hrec
         split at hp
         ·rename_i hsz
          subst hsz
          obtain rfl:=Option.some.inj hp
          simp only[aFt,hlk,Bool.and_eq_true,decide_eq_true_eq]at hw
          obtain⟨rfl,hw'⟩:=hw
          obtain⟨pb,b1,b2,b3⟩:=ih hrec hw' (fun id hx=>hi id (by simpa only[aCy]using hx)) hl' hr'
          have hids:∀ i,i∈aD9 ((K.slice e,true)::ks) (L.ref id 0 rows.length::ls)→∃ sz rows,h.lookup i=some (.arr sz rows):=fun i hx=>by
           simp only[aD9,List.mem_cons]at hx
           rcases hx with rfl | hx
           ·exact⟨_,_,hlk⟩
           ·exact b3 i hx
          obtain⟨i,_,hi',his,_⟩:=(hE.ty e te hte).info
          obtain⟨_,hhdr⟩:=hr0.2.2 _ _ _ hlk rfl
          obtain⟨hrl,hrows⟩:=(hh.blk id _ hlk).2
          rcases hhdr with⟨a0,rfl,hn0'⟩ | ⟨b0,cc,cur,E',fr,hb0,rfl,hnc,hcw,hth,hle⟩
          ·have:rows=[]:=List.length_eq_zero_iff.1 hn0'
           subst this
           exact⟨none::pb,.none b1,by simp only[aD9];exact b2.cons (fun b hb=>by cases hb),hids⟩
          ·refine⟨some b0::pb,?_,by simp only[aD9];exact b2.cons (fun b hb=>by obtain rfl:=Option.some.inj hb;exact hb0),hids⟩
           rw[Nat.zero_mul]
           rw[Nat.zero_add]at hle
           refine .own hi' hnc hcw (by rw[his];exact hth) (by rw[his];exact hle) (fun k r j y hk hj=>?_) b1
           have hne:rows≠[]:=fun e=>by subst e;simp at hk
           obtain⟨b',cur',E2,fr',hb',hw2,_,_,hcells⟩:=hrows.resolve_left hne
           obtain rfl:b'=b0:=by rw[hb0]at hb';exact (Option.some.inj hb').symm
           rw[hcw]at hw2
           simp only[Option.some.injEq,Obj.cells.injEq]at hw2
           obtain⟨rfl,rfl,rfl⟩:=hw2
           obtain⟨u,hu,hru⟩:=hcells k r j y hk hj
           exact⟨u,by rw[his];exact hu,hru.mono (fun b hb hlt=>⟨hok b hb hlt,rfl⟩) (Nat.le_refl _)⟩
         ·cases hp
        ·cases hp
      |_=>simp[aCz]at hp
     |_=>simp[aCz]at hp
theorem bCf {ok:Nat→Prop} {v:Value} {agg:Bool} {x:W} {xs:List L} (hw:wrL agg x=some xs) (hr:aFs ok w h nx β v x):∃ us,WrV agg v us∧us.length=xs.length∧∀ (j:Nat) (y:L),xs[j]? =some y→∃ u,us[j]? =some u∧aI5 ok w h nx β u y:=by
 cases agg<;>cases x<;>simp only[wrL,Option.some.injEq]at hw<;>first | (cases hw;done) | skip
 ·subst hw
  refine⟨[v],rfl,rfl,fun j y hj=>?_⟩
  cases j with
  |zero=>simp at hj;subst hj;exact⟨v,rfl,hr⟩
  |succ j=>simp at hj
 ·subst hw
  obtain⟨us,rfl,h1,h2⟩:=hr
  exact⟨us.toList,⟨us,rfl,rfl⟩,by simpa using h1,fun j y hj=>let⟨u,hu,hx⟩:=h2 j y hj;⟨u,by simpa using hu,hx⟩⟩
theorem aGu {E:Env} (hE:aDx c.P E) (hh:aB7 c w h nx β) {okR:Nat→Prop} (hok:∀ b,okD c h β b→b<w.heap.size→okR b) {vids:List Nat} (hid:∀ id b blk,id∈vids→h.lookup id=some blk→β id=some b→okR b) :
  ∀ {ps:List PTy} {ws:List W} {vals:List Value} {cs:List C},aD1 E h ps ws=some cs→aE2 h ps ws=true→(∀ id,id∈aDz h ps ws→id∈vids)→vals.length=ws.length →
   (∀ (i:Nat) (v:Value) (x:W),vals[i]? =some v→ws[i]? =some x→aFs (okD c h β) w h nx β v x) →
   ∃ pb,aIa c.P w okR ps vals cs pb∧aDy β (aBg ps ws) pb∧∀ id,id∈aBg ps ws→∃ x,h.lookup id=some x∧x.isFro=false
 |[],[],vals,cs,hp,_,_,hl,_=>by
  simp only[aD1,Option.some.injEq]at hp
  subst hp
  have:vals=[]:=List.length_eq_zero_iff.1 hl
  subst this
  exact⟨[],.nil,aDy.nil,fun id hi=>by simp[aBg]at hi⟩
 |[],_::_,_,_,hp,_,_,_,_=>by simp[aD1]at hp
 |p::ps,ws,vals,cs,hp,hwh,hi,hl,hv=>by
  have cells:∀ {cur:Array Value} {xs:List L} {ds:List C},aJ9 (okD c h β) w h nx β cur xs→aLr h xs=some ds→(∀ id,id∈xs.flatMap L.ids→id∈vids)→aLt w okR cur ds:=fun {cur xs ds} hr hd hx=>by
   obtain⟨h1,h2⟩:=aMl hh (ok':=fun b=>b<w.heap.size→okR b) (fun b hb hlt=>hok b hb hlt) (fun id b blk p hxi hl hr' hb _=>hid id b blk (hx id hxi) hl hb) hr hd
   exact⟨h1,fun j d hj=>let⟨u,hu,hr⟩:=h2 j d hj;⟨u,hu,hr.mono (fun b hb hlt=>⟨hb hlt,rfl⟩) (Nat.le_refl _)⟩⟩
  cases ws with
  |nil=>cases p with
   |val agg ks=>cases agg<;>simp[aD1]at hp
   |box ks=>simp[aD1]at hp
   |wr agg ks=>simp[aD1]at hp
  |cons x ws =>
   cases vals with
   |nil=>simp at hl
   |cons v vals =>
    have hv0:aFs (okD c h β) w h nx β v x:=hv 0 v x rfl rfl
    have hvs:∀ (i:Nat) (v:Value) (x:W),vals[i]? =some v→ws[i]? =some x→aFs (okD c h β) w h nx β v x:=fun i v x h1 h2=>hv (i+1) v x (by simpa using h1) (by simpa using h2)
    have hl':vals.length=ws.length:=by simpa using hl
    unfold aD1 at hp
    split at hp
    ·cases ‹_::_=_›
    ·rename_i ks ps' x' ws' h1 h2
     simp only[List.cons.injEq]at h1 h2
     obtain⟨rfl,rfl⟩:=h1
     obtain⟨rfl,rfl⟩:=h2
     split at hp
     ·rename_i cs1 r hd hr
      split at hp
      ·rename_i hk
       obtain rfl:=Option.some.inj hp
       have hids:∀ id,id∈aDz h ps ws→id∈vids:=fun id hx=>hi id (by simp[aDz,hx])
       obtain⟨pb,ha,hb,hbx⟩:=aGu hE hh hok hid hr (by simpa[aE2]using hwh) hids hl' hvs
       refine⟨pb,.val (cs1:=[cs1]) hk.symm ⟨cs1,rfl,bV0 hh hok hid hv0 hd (fun id hx=>hi id ?_) fun id hx=>hi id ?_⟩ ha,by simpa[aBg]using hb,fun id hx=>hbx id (by simpa[aBg]using hx)⟩
       ·simp[aDz,W.ids,hx]
       ·simp[aDz,W.ids,hx]
      ·cases hp
     ·cases hp
    ·rename_i ks ps' xs ws' h1 h2
     simp only[List.cons.injEq]at h1 h2
     obtain⟨rfl,rfl⟩:=h1
     obtain⟨rfl,rfl⟩:=h2
     split at hp
     ·rename_i cs1 r hd hr
      split at hp
      ·rename_i hk
       obtain rfl:=Option.some.inj hp
       have hids:∀ id,id∈aDz h ps ws→id∈vids:=fun id hx=>hi id (by simp[aDz,hx])
       obtain⟨pb,ha,hb,hbx⟩:=aGu hE hh hok hid hr (by simpa[aE2]using hwh) hids hl' hvs
       obtain⟨us,rfl,hus⟩:=hv0
       have hc:=cells hus hd fun id hx=>hi id (by simp only[aDz,W.ids,List.append_assoc];exact List.mem_append_left _ hx)
       refine⟨pb,.val (by rw[(aRu hd).1,hk]) ⟨us,rfl,hc⟩ ha,by simpa[aBg]using hb,fun id hx=>hbx id (by simpa[aBg]using hx)⟩
      ·cases hp
     ·cases hp
    ·rename_i ks ps' id ws' h1 h2
     simp only[List.cons.injEq]at h1 h2
     obtain⟨rfl,rfl⟩:=h1
     obtain⟨rfl,rfl⟩:=h2
     split at hp
     ·rename_i cells0 r hlk hr
      split at hp
      ·rename_i cs1 hd
       split at hp
       ·rename_i hk
        obtain rfl:=Option.some.inj hp
        have hids:∀ id,id∈aDz h ps ws→id∈vids:=fun id' hx=>hi id' (by simp only[aDz];exact List.mem_append_right _ hx)
        obtain⟨pb,ha,hb,hbx⟩:=aGu hE hh hok hid hr (by simpa[aE2]using hwh) hids hl' hvs
        obtain⟨b,hb1,rfl⟩:=hv0.2.2.1 cells0 hlk
        obtain⟨b',cur,E,fr,hb2,hw,hth,hrep⟩:=(hh.blk id _ hlk).2
        obtain rfl:b'=b:=by rw[hb1]at hb2;exact (Option.some.inj hb2).symm
        have hc:=cells hrep hd fun id' hx=>hi id' (by simp only[aDz];exact List.mem_append_left _ (by simp[aGe,hlk];simpa using hx))
        refine⟨some b'::pb,.box (by rw[(aRu hd).1,hk]) hw hth hc ha,by simp only[aBg];exact hb.cons (fun b2 hb2=>by rw[←hb2];exact hb1),fun id' hx=>?_⟩
        simp only[aBg,List.mem_cons]at hx
        rcases hx with rfl | hx
        ·exact⟨_,hlk,rfl⟩
        ·exact hbx id' hx
       ·cases hp
      ·cases hp
     ·cases hp
    ·rename_i agg ks ps' x' ws' h1 h2
     simp only[List.cons.injEq]at h1 h2
     obtain⟨rfl,rfl⟩:=h1
     obtain⟨rfl,rfl⟩:=h2
     split at hp
     ·rename_i xs r hwl hr
      split at hp
      ·rename_i cs1 hpl
       obtain rfl:=Option.some.inj hp
       simp only[aE2,hwl,Bool.and_eq_true]at hwh
       have hids:∀ id,id∈aDz h ps ws→id∈vids:=fun id' hx=>hi id' (by simp only[aDz];exact List.mem_append_right _ hx)
       obtain⟨pb,ha,hb,hbx⟩:=aGu hE hh hok hid hr hwh.2 hids hl' hvs
       obtain⟨us,u1,u2,u3⟩:=bCf hwl hv0
       obtain⟨pb1,g1,g2,g3⟩:=aW1 hE hh hok hid hpl hwh.1 (fun id' hx=>hi id' (by simp only[aDz,hwl];exact List.mem_append_left _ hx)) u2 u3
       refine⟨pb1++pb,.wr u1 g1 ha,by simp only[aBg,hwl];exact g2.app hb,fun id' hx=>?_⟩
       simp only[aBg,hwl,List.mem_append]at hx
       rcases hx with hx | hx
       ·obtain⟨sz,rows,hlk⟩:=g3 id' hx
        exact⟨_,hlk,rfl⟩
       ·exact hbx id' hx
      ·cases hp
     ·cases hp
    ·cases hp
end
section
variable {c:Ctx} {w w':World} {h:aCq} {nx:Nat} {β:aCr} {E:Env}
def bTh (h0:aCq) (ids:List Nat) (pb:List (Option Nat)) (h':aCq) (nx':Nat) (β':aCr):Prop :=
 ∀ (j id:Nat) (ob:Option Nat),ids[j]? =some id→pb[j]? =some ob→id<nx'∧(∀ b,ob=some b→β' id=some b) ∧
  ∀ sz rows,h0.lookup id=some (.arr sz rows)→∀ blk sz' rows',h'.lookup id=some blk→blk.rows? =some (sz',rows')→sz'=sz∧rows'.length=rows.length
theorem aId (hE:aDx c.P E) {okN:Nat→Prop} {h0:aCq} {ids:List Nat} {pb:List (Option Nat)}:∀ {ks:List (K×Bool)} {cs:List C} {n:Nat} {ls:List L} {rest:List C} {nb:List Blk} {vs:List Value} {cs1:List C} {bs:List (Option Nat)} {cs2:List C},
  aB9 E h0 ids ks cs n=some (true,ls,rest,nb)→aC1 c.P w' okN pb ks vs cs1 bs→cs=cs1++cs2→rest=cs2∧nb.length=bs.length∧ls.length=vs.length ∧
   (∀ (i:Nat) (blk:Blk),nb[i]? =some blk→∃ sz rows,blk=.arr sz rows∧aGg okN w' (bs[i]?).join sz rows) ∧
   (∀ (h':aCq) (nx':Nat) (β':aCr) (ok':Nat→Prop),(∀ b,okN b→ok' b)→n+nb.length≤nx'→(∀ (i:Nat) (blk:Blk),nb[i]? =some blk→h'.lookup (n+i)=some blk)→(∀ i,i<nb.length→β' (n+i)=(bs[i]?).join)→bTh h0 ids pb h' nx' β' →
    ∀ (j:Nat) (x:L),ls[j]? =some x→∃ u,vs[j]? =some u∧aI5 ok' w' h' nx' β' u x):=by
 intro ks
 induction ks with
 |nil =>
  intro cs n ls rest nb vs cs1 bs cs2 ht hl hc
  cases hl
  simp only[aB9,Option.some.injEq,Prod.mk.injEq,true_and]at ht
  obtain⟨rfl,rfl,rfl⟩:=ht
  exact⟨by simpa using hc,rfl,rfl,fun i blk hi=>by simp at hi,fun _ _ _ _ _ _ _ _ _ j x hj=>by simp at hj⟩
 |cons k ks ih =>
  intro cs n ls rest nb vs cs1 bs cs2 ht hl hc
  subst hc
  cases hl with
  |data hr hl =>
   rename_i kd v vs cc cs1
   simp only[List.cons_append,aB9]at ht
   split at ht
   ·rename_i b ls' cs' bs' hrec
    simp only[Option.some.injEq,Prod.mk.injEq,Bool.and_eq_true]at ht
    obtain⟨⟨hb1,rfl⟩,rfl,rfl,rfl⟩:=ht
    obtain⟨i1,i2,i3,i4,i5⟩:=ih hrec hl rfl
    refine⟨i1,i2,by simp[i3],i4,fun h' nx' β' ok' hok hnx hlk hβ hbk j x hj=>?_⟩
    cases j with
    |zero =>
     simp only[List.getElem?_cons_zero,Option.some.injEq]at hj
     subst hj
     obtain⟨y,hy,hrep⟩:=aR5 (w:=w') (ok:=ok') (h:=h') (nx:=nx') (β:=β') hb1
     simp only[List.getElem?_cons_zero,Option.some.injEq]at hy
     subst hy
     exact⟨v,rfl,hrep v (hr.mono (fun b hb _=>⟨hok b hb,rfl⟩) (Nat.le_refl _))⟩
    |succ j=>exact i5 h' nx' β' ok' hok hnx hlk hβ hbk j x hj
   ·cases ht
  |none hl =>
   rename_i e a vs cs1 bs
   simp only[List.cons_append,aB9]at ht
   split at ht
   ·rename_i te hte
    split at ht
    ·rename_i b ls' cs' bs' hrec
     simp only[Option.some.injEq,Prod.mk.injEq,Bool.and_eq_true]at ht
     obtain⟨⟨_,rfl⟩,rfl,rfl,rfl⟩:=ht
     obtain⟨i1,i2,i3,i4,i5⟩:=ih hrec hl rfl
     refine⟨i1,by simp[i2],by simp[i3],fun i blk hi=>?_,fun h' nx' β' ok' hok hnx hlk hβ hbk j x hj=>?_⟩
     ·cases i with
      |zero =>
       simp only[List.getElem?_cons_zero,Option.some.injEq]at hi
       subst hi
       exact⟨_,_,rfl,fun r hr=>by simp[C.toRows]at hr,.inl rfl⟩
      |succ i=>exact i4 i blk hi
     ·simp only[List.length_cons]at hnx
      cases j with
      |zero =>
       simp only[List.getElem?_cons_zero,Option.some.injEq]at hj
       subst hj
       refine⟨_,rfl,by omega,rfl,fun blk sz rows hl' hr'=>?_⟩
       have:=hlk 0 _ rfl
       rw[Nat.add_zero]at this
       rw[this]at hl'
       obtain rfl:=Option.some.inj hl'
       simp only[Blk.rows?,Option.some.injEq,Prod.mk.injEq]at hr'
       obtain⟨rfl,rfl⟩:=hr'
       exact⟨by simp[C.toRows],.inl ⟨a,rfl,rfl⟩⟩
      |succ j =>
       exact i5 h' nx' β' ok' hok (by omega) (fun i blk hi=>by have:=hlk (i+1) blk hi;rw[show n+1+i=n+(i+1) by omega];exact this)
        (fun i hi=>by have:=hβ (i+1) (by simpa using hi);rw[show n+1+i=n+(i+1) by omega];exact this) hbk j x hj
    ·cases ht
   ·cases ht
  |own hi hcap hw hth hsz hrows hl =>
   rename_i e vs rows cs1 bs b cap cur E' fr i
   simp only[List.cons_append,aB9]at ht
   split at ht
   ·rename_i te hte
    split at ht
    ·rename_i b0 ls' cs' bs' hrec
     simp only[Option.some.injEq,Prod.mk.injEq,Bool.and_eq_true]at ht
     obtain⟨⟨⟨_,hall⟩,rfl⟩,rfl,rfl,rfl⟩:=ht
     obtain⟨i1,i2,i3,i4,i5⟩:=ih hrec hl rfl
     obtain⟨ii,_,hii,his,_⟩:=(hE.ty e te hte).info
     rw[hi]at hii
     obtain rfl:=Option.some.inj hii
     rw[his]at hsz hrows hth
     refine⟨i1,by simp[i2],by simp[i3],fun k blk hk=>?_,fun h' nx' β' ok' hok hnx hlk hβ hbk j x hj=>?_⟩
     ·cases k with
      |zero =>
       simp only[List.getElem?_cons_zero,Option.some.injEq]at hk
       subst hk
       refine⟨_,_,rfl,fun r hr=>by have:=List.all_eq_true.1 hall r hr;simpa using this,.inr ⟨b,cur,E',fr,by simp,hw,hth,?_,fun k r j x hk hj=>hrows k r j x hk hj⟩⟩
       exact Nat.le_trans (Nat.mul_le_mul_right _ hcap) hsz
      |succ k=>exact i4 k blk hk
     ·simp only[List.length_cons]at hnx
      cases j with
      |zero =>
       simp only[List.getElem?_cons_zero,Option.some.injEq]at hj
       subst hj
       refine⟨_,rfl,by omega,rfl,fun blk sz rows' hl' hr'=>?_⟩
       have:=hlk 0 _ rfl
       rw[Nat.add_zero]at this
       rw[this]at hl'
       obtain rfl:=Option.some.inj hl'
       simp only[Blk.rows?,Option.some.injEq,Prod.mk.injEq]at hr'
       obtain⟨rfl,rfl⟩:=hr'
       have hb0:=hβ 0 (by simp)
       rw[Nat.add_zero]at hb0
       refine⟨by simp[C.toRows],.inr ⟨b,cap,cur,E',fr,by rw[hb0];rfl,by rw[Nat.zero_mul];rfl,hcap,hw,hth,by rw[Nat.zero_add];exact hsz⟩⟩
      |succ j =>
       exact i5 h' nx' β' ok' hok (by omega) (fun i blk hi=>by have:=hlk (i+1) blk hi;rw[show n+1+i=n+(i+1) by omega];exact this)
        (fun i hi=>by have:=hβ (i+1) (by simpa using hi);rw[show n+1+i=n+(i+1) by omega];exact this) hbk j x hj
    ·cases ht
   ·cases ht
  |back hi hpb hone hhdr hl =>
   rename_i e jj v vs rows cs1 ob i
   simp only[List.cons_append,aB9]at ht
   split at ht
   ·rename_i te id hte hid
    split at ht
    ·rename_i sz rows0 hlk0
     split at ht
     ·rename_i hsz
      split at ht
      ·rename_i b0 ls' cs' bs' hrec
       simp only[Option.some.injEq,Prod.mk.injEq,Bool.and_eq_true,decide_eq_true_eq]at ht
       obtain⟨⟨hle,rfl⟩,rfl,rfl,rfl⟩:=ht
       obtain⟨i1,i2,i3,i4,i5⟩:=ih hrec hl rfl
       obtain⟨ii,_,hii,his,_⟩:=(hE.ty e te hte).info
       rw[hi]at hii
       obtain rfl:=Option.some.inj hii
       refine⟨i1,i2,by simp[i3],i4,fun h' nx' β' ok' hok hnx hlk hβ hbk j x hj=>?_⟩
       cases j with
       |zero =>
        simp only[List.getElem?_cons_zero,Option.some.injEq]at hj
        subst hj
        obtain⟨k1,k2,k3⟩:=hbk jj id ob hid hpb
        refine⟨v,rfl,k1,hone,fun blk sz' rows' hl' hr'=>?_⟩
        obtain⟨rfl,hlen⟩:=k3 sz rows0 hlk0 blk sz' rows' hl' hr'
        rw[his,←hsz]at hhdr
        refine⟨by omega,hhdr.imp (fun x=>x) ?_⟩
        rintro⟨b,cc,cur,E1,fr,q1,q2⟩
        exact⟨b,cc,cur,E1,fr,k2 b q1,q2⟩
       |succ j=>exact i5 h' nx' β' ok' hok hnx hlk hβ hbk j x hj
      ·cases ht
     ·cases ht
    ·cases ht
   ·cases ht
theorem bGm (hE:aDx c.P E) {okN:Nat→Prop} {h0:aCq} {ids:List Nat} {pb:List (Option Nat)}:∀ {ts:List RTy} {cs:List C} {n:Nat} {rs:List (Bool×List L)} {rest:List C} {nb:List Blk} {vs:List Value} {cs1:List C} {bs:List (Option Nat)} {cs2:List C},
  aEy E h0 ids ts cs n=some (true,rs,rest,nb)→aIs c.P w' okN pb ts vs cs1 bs→cs=cs1++cs2→rest=cs2∧nb.length=bs.length∧rs.length=vs.length ∧
   (∀ (i:Nat) (blk:Blk),nb[i]? =some blk→∃ sz rows,blk=.arr sz rows∧aGg okN w' (bs[i]?).join sz rows) ∧
   (∀ (h':aCq) (nx':Nat) (β':aCr) (ok':Nat→Prop),(∀ b,okN b→ok' b)→n+nb.length≤nx'→(∀ (i:Nat) (blk:Blk),nb[i]? =some blk→h'.lookup (n+i)=some blk)→(∀ i,i<nb.length→β' (n+i)=(bs[i]?).join)→bTh h0 ids pb h' nx' β' →
    ∀ (j:Nat) (p:Bool×List L),rs[j]? =some p→∃ u,vs[j]? =some u∧bIs ok' w' h' nx' β' u p.1 p.2):=by
 intro ts
 induction ts with
 |nil =>
  intro cs n rs rest nb vs cs1 bs cs2 ht hl hc
  cases hl
  simp only[aEy,Option.some.injEq,Prod.mk.injEq,true_and]at ht
  obtain⟨rfl,rfl,rfl⟩:=ht
  exact⟨by simpa using hc,rfl,rfl,fun i blk hi=>by simp at hi,fun _ _ _ _ _ _ _ _ _ j x hj=>by simp at hj⟩
 |cons t ts ih =>
  intro cs n rs rest nb vs cs1 bs cs2 ht hl hc
  subst hc
  have main:∀ {us vs:List Value} {cs1 cs3:List C} {bs1 bs:List (Option Nat)} {v:Value},aC1 c.P w' okN pb t.ls us cs1 bs1→aIs c.P w' okN pb ts vs cs3 bs →
    (∀ (h':aCq) (nx':Nat) (β':aCr) (ok':Nat→Prop) (ls:List L),ls.length=us.length→(∀ (j:Nat) (x:L),ls[j]? =some x→∃ u,us[j]? =some u∧aI5 ok' w' h' nx' β' u x)→bIs ok' w' h' nx' β' v t.agg ls) →
    aEy E h0 ids (t::ts) (cs1++cs3++cs2) n=some (true,rs,rest,nb) →
    rest=cs2∧nb.length=(bs1++bs).length∧rs.length=(v::vs).length ∧
    (∀ (i:Nat) (blk:Blk),nb[i]? =some blk→∃ sz rows,blk=.arr sz rows∧aGg okN w' ((bs1++bs)[i]?).join sz rows) ∧
    (∀ (h':aCq) (nx':Nat) (β':aCr) (ok':Nat→Prop),(∀ b,okN b→ok' b)→n+nb.length≤nx'→(∀ (i:Nat) (blk:Blk),nb[i]? =some blk→h'.lookup (n+i)=some blk)→(∀ i,i<nb.length→β' (n+i)=((bs1++bs)[i]?).join)→bTh h0 ids pb h' nx' β' →
     ∀ (j:Nat) (p:Bool×List L),rs[j]? =some p→∃ u,(v::vs)[j]? =some u∧bIs ok' w' h' nx' β' u p.1 p.2):=by
   intro us vs cs1 cs3 bs1 bs v hl hr hrep ht
   simp only[aEy]at ht
   split at ht
   ·rename_i b ls cs' nb1 h1
    split at ht
    ·rename_i b' rs' cs'' nb2 h2
     simp only[Option.some.injEq,Prod.mk.injEq,Bool.and_eq_true]at ht
     obtain⟨⟨rfl,rfl⟩,rfl,rfl,rfl⟩:=ht
     obtain⟨rfl,l2,l3,l4,l5⟩:=aId (cs2:=cs3++cs2) hE h1 hl (by rw[List.append_assoc])
     obtain⟨rfl,i2,i3,i4,i5⟩:=ih h2 hr rfl
     refine⟨rfl,by simp[l2,i2],by simp[i3],fun i blk hi=>?_,fun h' nx' β' ok' hok hnx hlk hβ hbk j p hj=>?_⟩
     ·by_cases hlt:i<nb1.length
      ·rw[List.getElem?_append_left hlt]at hi
       rw[List.getElem?_append_left (by omega)]
       exact l4 i blk hi
      ·rw[List.getElem?_append_right (by omega)]at hi
       rw[List.getElem?_append_right (by omega),←l2]
       exact i4 _ blk hi
     ·simp only[List.length_append]at hnx
      have hb:∀ i,i<nb1.length→β' (n+i)=(bs1[i]?).join:=fun i hi=>by
       rw[hβ i (by simp;omega),List.getElem?_append_left (by omega)]
      have hb2:∀ i,i<nb2.length→β' (n+nb1.length+i)=(bs[i]?).join:=fun i hi=>by
       rw[Nat.add_assoc,hβ _ (by simp;omega),List.getElem?_append_right (by omega)]
       congr 2;omega
      cases j with
      |zero =>
       simp only[List.getElem?_cons_zero,Option.some.injEq]at hj
       subst hj
       exact⟨v,rfl,hrep h' nx' β' ok' ls l3 (l5 h' nx' β' ok' hok (by omega) (fun i blk hi=>hlk i blk (by rw[List.getElem?_append_left (List.getElem?_eq_some_iff.1 hi).1];exact hi)) hb hbk)⟩
      |succ j =>
       exact i5 h' nx' β' ok' hok (by omega) (fun i blk hi=>by
        rw[Nat.add_assoc]
        refine hlk _ blk ?_
        rw[List.getElem?_append_right (by omega),Nat.add_sub_cancel_left]
        exact hi) hb2 hbk j p hj
    ·cases ht
   ·cases ht
  cases hl with
  |agg hag h1 h2 =>
   refine main h1 h2 (fun h' nx' β' ok' ls hl hr=>?_) ht
   rw[hag]
   exact⟨_,rfl,by rw[hl,Array.length_toList],fun j x hj=>let⟨u,hu,hx⟩:=hr j x hj;⟨u,by simpa using hu,hx⟩⟩
  |one hag h1 h2 =>
   refine main h1 h2 (fun h' nx' β' ok' ls hl hr=>?_) ht
   rw[hag]
   cases ls with
   |nil=>simp at hl
   |cons x ls =>
    have:ls=[]:=by simpa using hl
    subst this
    obtain⟨u,hu,hx⟩:=hr 0 x rfl
    simp only[List.getElem?_cons_zero,Option.some.injEq]at hu
    subst hu
    exact⟨x,rfl,hx⟩
theorem bJ3 {P:Program} {okN:Nat→Prop}:∀ {ks:List (K×Bool)} {ls:List L} {cs cs0 rest:List C} {h h':aCq} {pb:List (Option Nat)} {b:Bool},aO3 P w w' okN ks pb cs→aD4 E ks ls cs0 h=some (b,rest,h')→(aD9 ks ls).length=pb.length:=by
 intro ks
 induction ks with
 |nil=>intro ls cs cs0 rest h h' pb b ho ht;cases ho;cases ls<;>simp[aD4,aD9]at ht ⊢
 |cons k ks ih =>
  intro ls cs cs0 rest h h' pb b ho ht
  obtain⟨kd,own⟩:=k
  cases ls with
  |nil=>cases own<;>cases kd<;>simp[aD4]at ht
  |cons x ls =>
   cases own with
   |false =>
    cases ho with
    |data ho =>
     have:=ih ho (by simpa[aD4]using ht)
     simpa[aD9]using this
   |true =>
    cases kd with
    |slice e =>
     cases x with
     |ref id off n =>
      cases cs0 with
      |nil=>simp[aD4]at ht
      |cons d cs0 =>
       simp only[aD4]at ht
       split at ht
       ·split at ht
        ·split at ht
         ·rename_i hrec
          cases ho with
          |none ho=>have:=ih ho hrec;simp[aD9,this]
          |own _ _ _ _ _ ho=>have:=ih ho hrec;simp[aD9,this]
         ·cases ht
        ·cases ht
       ·cases ht
     |_=>cases cs0<;>simp[aD4]at ht
    |_=>cases x<;>cases cs0<;>simp[aD4]at ht
def bTd (w:World) (ob:Option Nat):Blk→Prop
 |.box cells=>∃ b cur E fr,ob=some b∧w.heap[b]? =some (.cells cur E fr)∧aFd cur.size fr∧cur.size=cells.length
 |.arr sz rows | .fro sz rows=>rows=[]∨∃ b cur E fr,ob=some b∧w.heap[b]? =some (.cells cur E fr)∧aFd (bd sz cur.size) fr∧rows.length*sz≤cur.size
 |.bld _ _ _ | .own _ _ | .mset _=>True
theorem aO6.stand {ok:Nat→Prop} {ob:Option Nat} {x:Blk} (hb:aO6 ok w h nx β ob x):bTd w ob x:=by
 cases x with
 |box cells=>obtain⟨b,cur,E,fr,h1,h2,h3,h4⟩:=hb;exact⟨b,cur,E,fr,h1,h2,h3,h4.1⟩
 |arr sz rows=>exact hb.2.imp (fun x=>x) fun⟨b,cur,E,fr,h1,h2,h3,h4,_⟩=>⟨b,cur,E,fr,h1,h2,h3,h4⟩
 |fro sz rows=>exact hb.2.imp (fun x=>x) fun⟨b,cur,E,fr,h1,h2,h3,h4,_⟩=>⟨b,cur,E,fr,h1,h2,h3,h4⟩
 |bld t e0 row=>exact trivial
 |own e0 bs=>exact trivial
 |mset ks=>exact trivial
def aS1 (w':World) (okN:Nat→Prop) (ob:Option Nat) (h h':aCq) (id:Nat):Prop :=
 ∃ x x',h.lookup id=some x∧h'.lookup id=some x'∧x.isFro=false∧x'.isFro=false∧aAf x x' ∧
  ∀ (ok':Nat→Prop) (h:aCq) (nx:Nat) (β:aCr),(∀ b,okN b→ok' b)→aO6 ok' w' h nx β ob x'
theorem bJl (hE:aDx c.P E) {okN:Nat→Prop}:∀ {ks:List (K×Bool)} {ls:List L} {cs cs1 cs2 rest:List C} {h h':aCq} {pb:List (Option Nat)},aD4 E ks ls cs h=some (true,rest,h')→aO3 c.P w w' okN ks pb cs1→cs=cs1++cs2→aDy β (aD9 ks ls) pb→(aD9 ks ls).Nodup →
  (∀ id x,id∈aD9 ks ls→h.lookup id=some x→bTd w (β id) x) →
  rest=cs2∧(∀ id,id∉aD9 ks ls→h'.lookup id=h.lookup id)∧∀ id,id∈aD9 ks ls→aS1 w' okN (β id) h h' id:=by
 intro ks
 induction ks with
 |nil =>
  intro ls cs cs1 cs2 rest h h' pb ht ho hc ha hn hs
  cases ho
  cases ls with
  |cons x ls=>simp[aD4]at ht
  |nil =>
   simp only[aD4,Option.some.injEq,Prod.mk.injEq,true_and]at ht
   obtain⟨rfl,rfl⟩:=ht
   exact⟨by simpa using hc,fun _ _=>rfl,fun id hi=>by simp[aD9]at hi⟩
 |cons k ks ih =>
  intro ls cs cs1 cs2 rest h h' pb ht ho hc ha hn hs
  obtain⟨kd,own⟩:=k
  cases ls with
  |nil=>cases own<;>cases kd<;>simp[aD4]at ht
  |cons x ls =>
   cases own with
   |false =>
    have e:aD9 ((kd,false)::ks) (x::ls)=aD9 ks ls:=by simp[aD9]
    rw[e]at ha hn hs ⊢
    cases ho with
    |data ho=>exact ih (by simpa[aD4]using ht) ho hc ha hn hs
   |true =>
    cases kd with
    |slice e =>
     cases x with
     |ref id off n =>
      cases cs with
      |nil=>simp[aD4]at ht
      |cons d cs =>
       have ew:aD9 ((.slice e,true)::ks) (.ref id off n::ls)=id::aD9 ks ls:=by simp[aD9]
       rw[ew]at ha hn hs ⊢
       obtain⟨hni,hnd⟩:=List.nodup_cons.1 hn
       simp only[aD4]at ht
       split at ht
       ·rename_i te sz rows hte hlk
        split at ht
        ·rename_i hsz
         subst hsz
         split at ht
         ·rename_i b cs' h1 hrec
          simp only[Option.some.injEq,Prod.mk.injEq,Bool.and_eq_true,decide_eq_true_eq]at ht
          obtain⟨⟨⟨hlen,hall⟩,rfl⟩,rfl,rfl⟩:=ht
          have hup:=aC6 h id (.arr te.leaves.length d.toRows) ⟨_,hlk⟩
          have hrl:∀ r,r∈d.toRows→r.length=te.leaves.length:=fun r hr=>by have:=List.all_eq_true.1 hall r hr;simpa using this
          have hst:=hs id _ List.mem_cons_self hlk
          have main:∀ {pb:List (Option Nat)} {cs1':List C},aO3 c.P w w' okN ks pb cs1'→cs=cs1'++cs2→aDy β (aD9 ks ls) pb →
            (∀ (ok':Nat→Prop),(∀ b,okN b→ok' b)→aGg ok' w' (β id) te.leaves.length d.toRows) →
            cs'=cs2∧(∀ i,i∉id::aD9 ks ls→h1.lookup i=h.lookup i)∧∀ i,i∈id::aD9 ks ls→aS1 w' okN (β i) h h1 i:=by
           intro pb cs1' ho hc ha hrows
           obtain⟨i1,i2,i3⟩:=ih hrec ho hc ha hnd (fun i x hi hx=>by
            rw[hup,if_neg (fun e:i=id=>hni (e▸hi))]at hx
            exact hs i x (List.mem_cons_of_mem _ hi) hx)
           refine⟨i1,fun i hi=>?_,fun i hi=>?_⟩
           ·simp only[List.mem_cons,not_or]at hi
            rw[i2 i hi.2,hup,if_neg hi.1]
           ·rcases List.mem_cons.1 hi with rfl | hi
            ·exact⟨.arr te.leaves.length rows,.arr te.leaves.length d.toRows,hlk,by rw[i2 i hni,hup,if_pos rfl],rfl,rfl,⟨rfl,hlen⟩,fun ok' _ _ _ hok=>hrows ok' hok⟩
            ·obtain⟨x,x',g1,g2⟩:=i3 i hi
             rw[hup,if_neg (fun e:i=id=>hni (e▸hi))]at g1
             exact⟨x,x',g1,g2⟩
          cases ho with
          |none ho =>
           rename_i pb cs1'
           simp only[List.cons_append,List.cons.injEq]at hc
           obtain⟨rfl,hc⟩:=hc
           exact main ho hc ⟨by have:=ha.1;simpa using this,fun j i b hi hb=>ha.2 (j+1) i b (by simpa using hi) (by simpa using hb)⟩ (fun ok' hok=>⟨hrl,.inl rfl⟩)
          |own hi hw hw' hsz hrows ho =>
           rename_i pb cs1' rows' b cur cur' E' fr i
           simp only[List.cons_append,List.cons.injEq]at hc
           obtain⟨rfl,hc⟩:=hc
           obtain⟨ii,_,hii,his,_⟩:=(hE.ty e te hte).info
           rw[hi]at hii
           obtain rfl:=Option.some.inj hii
           rw[his]at hrows
           have hβ:β id=some b:=ha.2 0 id b rfl rfl
           refine main ho hc ⟨by have:=ha.1;simpa using this,fun j i b hi hb=>ha.2 (j+1) i b (by simpa using hi) (by simpa using hb)⟩ (fun ok' hok=>⟨hrl,?_⟩)
           rcases hst with hst | ⟨b',cur0,E0,fr0,hb',hw0,hth,hle⟩
           ·subst hst
            exact .inl (List.length_eq_zero_iff.1 hlen)
           ·obtain rfl:b'=b:=by rw[hβ]at hb';exact (Option.some.inj hb').symm
            rw[hw]at hw0
            simp only[Option.some.injEq,Obj.cells.injEq]at hw0
            obtain⟨rfl,rfl,rfl⟩:=hw0
            exact .inr ⟨b',cur',E',fr,hβ,hw',by rw[hsz];exact hth,by rw[hlen,hsz];exact hle,fun k r j y hk hj=>let⟨u,hu,hru⟩:=hrows k r j y hk hj;⟨u,hu,hru.mono (fun b hb _=>⟨hok b hb,rfl⟩) (Nat.le_refl _)⟩⟩
         ·cases ht
        ·cases ht
       ·cases ht
     |_=>cases cs<;>simp[aD4]at ht
    |_=>cases x<;>cases cs<;>simp[aD4]at ht
theorem aS1.step {okN:Nat→Prop} {ob:Option Nat} {h0 h1 h2:aCq} {id:Nat} (t:aS1 w' okN ob h0 h1 id) (e:h2.lookup id=h1.lookup id):aS1 w' okN ob h0 h2 id:=by
 obtain⟨x,x',g1,g2,g3⟩:=t
 exact⟨x,x',g1,e.trans g2,g3⟩
theorem aY8 (hE:aDx c.P E) {okN:Nat→Prop}:∀ {ps:List PTy} {ws:List W} {cs:List C} {h h':aCq} {pb:List (Option Nat)},aB2 E ps ws cs h=some (true,h')→aFq c.P w w' okN ps pb cs→aDy β (aBg ps ws) pb→(aBg ps ws).Nodup →
  (∀ id x,id∈aBg ps ws→h.lookup id=some x→bTd w (β id) x) →
  (∀ id,id∉aBg ps ws→h'.lookup id=h.lookup id)∧∀ id,id∈aBg ps ws→aS1 w' okN (β id) h h' id:=by
 intro ps
 induction ps with
 |nil =>
  intro ws cs h h' pb ht hb hm hn hbx
  cases ws<;>cases cs<;>simp[aB2]at ht
  subst ht
  exact⟨fun _ _=>rfl,fun id hi=>by simp[aBg]at hi⟩
 |cons p ps ih =>
  intro ws cs h h' pb ht hb hm hn hbx
  cases ws with
  |nil=>cases p<;>simp[aB2]at ht
  |cons x ws =>
   cases p with
   |val agg ks =>
    have e:aBg (.val agg ks::ps) (x::ws)=aBg ps ws:=by simp[aBg]
    rw[e]at hm hn hbx ⊢
    have ht':aB2 E ps ws cs h=some (true,h'):=by simpa[aB2]using ht
    cases hb with
    |val hb=>exact ih ht' hb hm hn hbx
   |wr agg ks =>
    simp only[aB2]at ht
    split at ht
    ·rename_i xs hwl
     have e:aBg (.wr agg ks::ps) (x::ws)=aD9 ks xs++aBg ps ws:=by simp[aBg,hwl]
     rw[e]at hm hn hbx ⊢
     obtain⟨n1,n2,n3⟩:=List.nodup_append.1 hn
     split at ht
     ·rename_i b1 cs' h1 hw1
      split at ht
      ·rename_i b2 h2 hrec
       simp only[Option.some.injEq,Prod.mk.injEq,Bool.and_eq_true]at ht
       obtain⟨⟨rfl,rfl⟩,rfl⟩:=ht
       cases hb with
       |wr ho hb =>
        rename_i pb1 pb cs1 cs2
        have hlen:(aD9 ks xs).length=pb1.length:=bJ3 ho hw1
        have m1:aDy β (aD9 ks xs) pb1:=⟨hlen.symm,fun j i b hi hb=>hm.2 j i b (by rw[List.getElem?_append_left (List.getElem?_eq_some_iff.1 hi).1];exact hi) (by rw[List.getElem?_append_left (List.getElem?_eq_some_iff.1 hb).1];exact hb)⟩
        have m2:aDy β (aBg ps ws) pb:=⟨by have:=hm.1;simp only[List.length_append]at this;omega,fun j i b hi hb=>hm.2 ((aD9 ks xs).length+j) i b (by rw[List.getElem?_append_right (by omega),Nat.add_sub_cancel_left];exact hi) (by rw[hlen,List.getElem?_append_right (by omega),Nat.add_sub_cancel_left];exact hb)⟩
        obtain⟨rfl,i2,i3⟩:=bJl (cs2:=cs2) hE hw1 ho rfl m1 n1 (fun id x hi hx=>hbx id x (List.mem_append_left _ hi) hx)
        obtain⟨j1,j2⟩:=ih hrec hb m2 n2 (fun id x hi hx=>by
         rw[i2 id (fun hi'=>n3 id hi' id hi rfl)]at hx
         exact hbx id x (List.mem_append_right _ hi) hx)
        refine⟨fun id hi=>?_,fun id hi=>?_⟩
        ·simp only[List.mem_append,not_or]at hi
         rw[j1 id hi.2,i2 id hi.1]
        ·rcases List.mem_append.1 hi with hi | hi
         ·exact (i3 id hi).step (j1 id fun hi'=>n3 id hi id hi' rfl)
         ·obtain⟨x,x',g1,g2⟩:=j2 id hi
          rw[i2 id (fun hi'=>n3 id hi' id hi rfl)]at g1
          exact⟨x,x',g1,g2⟩
      ·cases ht
     ·cases ht
    ·cases ht
   |box ks =>
    unfold aB2 at ht
    split at ht
    ·cases ‹_::_=_›
    ·rename_i cs0 h0 d1 d2 d3 d4 ks' ps' id ws' h1 h2
     simp only[List.cons.injEq,PTy.box.injEq]at h1 h2
     obtain⟨rfl,rfl⟩:=h1
     obtain⟨rfl,rfl⟩:=h2
     split at ht
     ·rename_i cells hc
      split at ht
      ·rename_i b0 h0' hrec
       simp only[Option.some.injEq,Prod.mk.injEq,Bool.and_eq_true]at ht
       obtain⟨⟨hla,rfl⟩,rfl⟩:=ht
       have e:aBg (.box ks::ps) (.l (.ptr id 0)::ws)=id::aBg ps ws:=by simp[aBg]
       rw[e]at hm hn hbx ⊢
       cases hb with
       |box hk hw hw' hsz hcells hb =>
        rename_i pb cs1 cs2 b cur cur' E fr
        rw[←hk,List.drop_left]at hrec
        have hβ:β id=some b:=hm.2 0 id b rfl rfl
        obtain⟨hid,hnd⟩:=List.nodup_cons.1 hn
        have hlk:=aC6 h0 id (.box (aBt (cs1++cs2) 0 ks).2) ⟨_,hc⟩
        obtain⟨b',cur0,E0,fr0,hb',hw0,hth,hcs⟩:=hbx id _ List.mem_cons_self hc
        obtain rfl:b'=b:=by rw[hβ]at hb';exact (Option.some.inj hb').symm
        rw[hw]at hw0
        simp only[Option.some.injEq,Obj.cells.injEq]at hw0
        obtain⟨rfl,rfl,rfl⟩:=hw0
        obtain⟨i1,i2⟩:=ih hrec hb ⟨by have:=hm.1;simpa using this,fun j i b hi hb=>hm.2 (j+1) i b (by simpa using hi) (by simpa using hb)⟩ hnd (fun id' x hi' hx=>by
         rw[hlk,if_neg (fun e:id'=id=>hid (e▸hi'))]at hx
         exact hbx id' x (List.mem_cons_of_mem _ hi') hx)
        have hcl:cur'.size=(aBt (cs1++cs2) 0 ks).2.length:=by rw[(aE9 (w:=w') (ok:=okN) (h:=h0) (nx:=0) (β:=β) hla).1,←hk];exact hcells.1
        refine⟨fun id' hi'=>?_,fun id' hi'=>?_⟩
        ·simp only[List.mem_cons,not_or]at hi'
         rw[i1 id' hi'.2,hlk,if_neg hi'.1]
        ·rcases List.mem_cons.1 hi' with rfl | hi'
         ·refine⟨.box cells,.box (aBt (cs1++cs2) 0 ks).2,hc,by rw[i1 id' hid,hlk,if_pos rfl],rfl,rfl,(by show (aBt (cs1++cs2) 0 ks).2.length=cells.length;omega),fun ok' h nx β' hok=>⟨b',cur',E,fr,hβ,hw',by rw[hsz];exact hth,hcl,fun j y hj=>?_⟩⟩
          obtain⟨l1,l2⟩:=aE9 (w:=w') (ok:=ok') (h:=h) (nx:=nx) (β:=β') hla
          obtain⟨d,hd,hr⟩:=l2 j y hj
          have hjl:=(List.getElem?_eq_some_iff.1 hj).1
          rw[l1,←hk]at hjl
          rw[Nat.zero_add,List.getElem?_append_left hjl]at hd
          obtain⟨u,hu,hru⟩:=hcells.2 j d hd
          exact⟨u,hu,hr u (hru.mono (fun b hb _=>⟨hok b hb,rfl⟩) (Nat.le_refl _))⟩
         ·obtain⟨x,x',g1,g2⟩:=i2 id' hi'
          rw[hlk,if_neg (fun e:id'=id=>hid (e▸hi'))]at g1
          exact⟨x,x',g1,g2⟩
      ·cases ht
     ·cases ht
    all_goals first | (cases ht;done) | (rename_i h1 h2;first | (simp at h1;done) | (simp at h2;done))
theorem aTe {P:Program} {okN:Nat→Prop} {ps:List PTy} {pb:List (Option Nat)} {cs:List C} (h:aFq P w w' okN ps pb cs):∀ b,some b∈pb→∃ cur cur' E fr,w.heap[b]? =some (.cells cur E fr)∧w'.heap[b]? =some (.cells cur' E fr)∧cur'.size=cur.size:=by
 have wr:∀ {ks:List (K×Bool)} {pb:List (Option Nat)} {cs:List C},aO3 P w w' okN ks pb cs→∀ b,some b∈pb→∃ cur cur' E fr,w.heap[b]? =some (.cells cur E fr)∧w'.heap[b]? =some (.cells cur' E fr)∧cur'.size=cur.size:=by
  intro ks pb cs h
  induction h with
  |nil=>intro b hb;simp at hb
  |data _ ih=>exact ih
  |none _ ih=>intro b hb;exact ih b (by simpa using hb)
  |own _ h1 h2 h3 _ _ ih =>
   intro b hb
   rcases List.mem_cons.1 hb with hb | hb
   ·obtain rfl:=Option.some.inj hb;exact⟨_,_,_,_,h1,h2,h3⟩
   ·exact ih b hb
 induction h with
 |nil=>intro b hb;simp at hb
 |val _ ih=>exact ih
 |box _ h1 h2 h3 _ _ ih =>
  intro b hb
  rcases List.mem_cons.1 hb with hb | hb
  ·obtain rfl:=Option.some.inj hb;exact⟨_,_,_,_,h1,h2,h3⟩
  ·exact ih b hb
 |wr h1 _ ih =>
  intro b hb
  rcases List.mem_append.1 hb with hb | hb
  ·exact wr h1 b hb
  ·exact ih b hb
theorem aF6 (n:Nat):∀ (nb:List Blk) (m:Nat) (h:aCq) (i:Nat),(aBj m nb++h).lookup i=if m≤i∧i<m+nb.length then nb[i-m]? else h.lookup i
 |[],m,h,i=>by simp[aBj];omega
 |b::nb,m,h,i=>by
  simp only[aBj,List.cons_append]
  by_cases hi:i=m
  ·subst hi
   rw[aBw,if_pos (by simp)]
   simp
  ·rw[aAt hi,aF6 n nb (m+1) h i]
   by_cases hr:m+1≤i∧i<m+1+nb.length
   ·rw[if_pos hr,if_pos (by simp;omega)]
    obtain⟨d,hd⟩:∃ d,i-m=d+1:=⟨i-m-1,by omega⟩
    rw[hd,List.getElem?_cons_succ]
    congr 1
    omega
   ·rw[if_neg hr,if_neg (by simp;omega)]
theorem bMv (hh:aB7 c w h nx β) {h':aCq} {nx':Nat} {β':aCr} {ids own:List Nat} {pbs:List (Option Nat)} {okN:Nat→Prop} (H1:nx≤nx') (H1b:∀ id,id<nx→β' id=β id) (H2:∀ id,id<nx→id∉ids→h'.lookup id=h.lookup id)
  (H3:∀ id,id∈ids→aS1 w' okN (β id) h h' id) (H3c:∀ b,some b∈pbs→∃ cur cur' E fr,w.heap[b]? =some (.cells cur E fr)∧w'.heap[b]? =some (.cells cur' E fr)∧cur'.size=cur.size)
  (H4:∀ id x,nx≤id→h'.lookup id=some x→id<nx'∧∃ sz rows,x=.arr sz rows∧aGg okN w' (β' id) sz rows∧∀ b,β' id=some b→b∈own)
  (H5:∀ id id' b,nx≤id→nx≤id'→β' id=some b→β' id'=some b→id=id')
  (H6:∀ b,b∈own→w.heap.size≤b∧b<w'.heap.size) (H7:∀ b,okN b→(okD c h β b∧b<w.heap.size)∨(w.heap.size≤b∧b∉own)) (H8:∀ b,b<w.heap.size→some b∉pbs→w'.heap[b]? =w.heap[b]?)
  (mem9:∀ b,some b∈pbs→∃ id,id∈ids∧β id=some b) (H10:w.heap.size≤w'.heap.size) (hos:w'.os=w.os) (hout:w'.output=w.output) :
  aB7 c w' h' nx' β'∧Ext c w h nx β w' h' nx' β'∧∀ b,okN b→okD c h' β' b:=by
 -- what stood at a site stands aOm
 have back:∀ id x',id<nx→h'.lookup id=some x'→∃ x,h.lookup id=some x∧aAf x x'∧x'.isFro=x.isFro∧(id∉ids→x'=x):=by
  intro id x' hid hl
  by_cases hi:id∈ids
  ·obtain⟨x,y,h1,h2,h3,h4,h5,_⟩:=H3 id hi
   rw[h2]at hl
   obtain rfl:=Option.some.inj hl
   exact⟨x,h1,h5,by rw[h3,h4],fun hn=>absurd hi hn⟩
  ·rw[H2 id hid hi]at hl
   exact⟨x',hl,aAf.refl _,rfl,fun _=>rfl⟩
 have keep:∀ b,okD c h β b→b<w.heap.size→some b∉pbs:=fun b hb hlt hp=>by
  obtain⟨id,hi,hbi⟩:=mem9 b hp
  obtain⟨x,_,h1,_,h3,_⟩:=H3 id hi
  exact hb.2 id _ h1 h3 hbi
 have okold:∀ b,okD c h β b→b<w.heap.size→okD c h' β' b:=by
  intro b hb hlt
  refine⟨hb.1,fun id x hl hf hbi=>?_⟩
  by_cases hid:id<nx
  ·obtain⟨x0,h0,_,hfr,_⟩:=back id x hid hl
   rw[H1b id hid]at hbi
   exact hb.2 id x0 h0 (by rw[←hfr];exact hf) hbi
  ·obtain⟨_,sz,rows,_,_,hown⟩:=H4 id x (by omega) hl
   have:=H6 b (hown b hbi)
   omega
 have ext:Ext c w h nx β w' h' nx' β':=by
  refine⟨H1,H10,fun b hb hlt=>⟨okold b hb hlt,H8 b hlt (keep b hb hlt)⟩,fun id x' hid hl=>?_,fun id x b cur E fr hid hl hbi hw=>?_⟩
  ·obtain⟨x0,h0,hs,_⟩:=back id x' hid hl
   exact⟨H1b id hid,x0,h0,hs⟩
  ·obtain⟨x0,h0,_⟩:=back id x hid hl
   by_cases hbn:some b∈pbs
   ·obtain⟨cur0,cur',E0,fr0,h4,h5,h6⟩:=H3c b hbn
    rw[h4]at hw
    simp only[Option.some.injEq,Obj.cells.injEq]at hw
    obtain⟨rfl,rfl,rfl⟩:=hw
    exact⟨cur',h5,h6⟩
   ·exact⟨cur,by rw[H8 b (hh.place id x0 b h0 hbi).2 hbn];exact hw,rfl⟩
 have okn:∀ b,okN b→okD c h' β' b:=by
  intro b hb
  rcases H7 b hb with⟨h1,h2⟩ | ⟨h1,h2⟩
  ·exact okold b h1 h2
  ·refine⟨.inr ⟨Nat.le_trans hh.size h1,hh.fresh h1⟩,fun id x hl hf hbi=>?_⟩
   by_cases hid:id<nx
   ·obtain⟨x0,h0,_⟩:=back id x hid hl
    rw[H1b id hid]at hbi
    have:=(hh.place id x0 b h0 hbi).2
    omega
   ·obtain⟨_,sz,rows,_,_,hown⟩:=H4 id x (by omega) hl
    exact h2 (hown b hbi)
 refine⟨⟨fun id x hl=>?_,fun id x b hl hbi=>?_,fun id id' x x' b hl hl' hbi hbi'=>?_,Nat.le_trans hh.size H10,fun b hb hpb=>?_,hos.trans hh.os,hout.trans hh.out,fun b hb cur0 E0 fr0 hw0=>?_,fun g o hg=>?_⟩,ext,okn⟩
 ·by_cases hid:id<nx
  ·refine⟨by omega,?_⟩
   rw[H1b id hid]
   by_cases hi:id∈ids
   ·obtain⟨x0,y,h1,h2,h3,h4,h5,h6⟩:=H3 id hi
    rw[h2]at hl
    obtain rfl:=Option.some.inj hl
    exact h6 _ h' nx' β' okn
   ·obtain⟨x0,h0,_,_,hx⟩:=back id x hid hl
    have:=hx hi
    subst this
    refine (hh.blk id x h0).2.ext ext fun b hb=>H8 b (hh.place id x b h0 hb).2 fun hp=>?_
    obtain⟨id',hi',hbi'⟩:=mem9 b hp
    obtain⟨x1,_,h1,_⟩:=H3 id' hi'
    have:=hh.inj id id' x _ b h0 h1 hb hbi'
    subst this
    exact hi hi'
  ·obtain⟨h1,sz,rows,rfl,⟨r1,r2⟩,_⟩:=H4 id x (by omega) hl
   refine⟨h1,r1,r2.imp (fun x=>x) ?_⟩
   rintro⟨b,cur,E,fr,hb,hw,hth,hsz,hr⟩
   exact⟨b,cur,E,fr,hb,hw,hth,hsz,fun i r j y hi hj=>let⟨u,hu,hru⟩:=hr i r j y hi hj;⟨u,hu,hru.mono (fun b hb _=>⟨okn b hb,rfl⟩) (Nat.le_refl _)⟩⟩
 ·by_cases hid:id<nx
  ·obtain⟨x0,h0,_,hbx,_⟩:=back id x hid hl
   rw[H1b id hid]at hbi
   have:=hh.place id x0 b h0 hbi
   rw[hbx]
   exact⟨this.1,by omega⟩
  ·obtain⟨_,sz,rows,_,_,hown⟩:=H4 id x (by omega) hl
   have:=H6 b (hown b hbi)
   exact⟨.inl (Nat.le_trans hh.size this.1),this.2⟩
 ·by_cases hid:id<nx<;>by_cases hid':id'<nx
  ·obtain⟨x0,h0,_⟩:=back id x hid hl
   obtain⟨x1,h1,_⟩:=back id' x' hid' hl'
   rw[H1b id hid]at hbi
   rw[H1b id' hid']at hbi'
   exact hh.inj id id' x0 x1 b h0 h1 hbi hbi'
  ·exfalso
   obtain⟨x0,h0,_⟩:=back id x hid hl
   rw[H1b id hid]at hbi
   obtain⟨_,sz,rows,_,_,hown⟩:=H4 id' x' (by omega) hl'
   have:=H6 b (hown b hbi')
   have:=(hh.place id x0 b h0 hbi).2
   omega
  ·exfalso
   obtain⟨x0,h0,_⟩:=back id' x' hid' hl'
   rw[H1b id' hid']at hbi'
   obtain⟨_,sz,rows,_,_,hown⟩:=H4 id x (by omega) hl
   have:=H6 b (hown b hbi)
   have:=(hh.place id' x0 b h0 hbi').2
   omega
  ·exact H5 id id' b (by omega) (by omega) hbi hbi'
 ·have hbn:some b∉pbs:=fun hp=>by
   obtain⟨id,hi,hbi⟩:=mem9 b hp
   obtain⟨x0,_,h1,_⟩:=H3 id hi
   rcases (hh.place id _ b h1 hbi).1 with h2 | h2
   ·omega
   ·exact hpb h2.1
  rw[H8 b (by have:=hh.size;omega) hbn]
  exact hh.frame b hb hpb
 ·obtain⟨cur1,h1,h2⟩:=hh.pbs b hb cur0 E0 fr0 hw0
  by_cases hbn:some b∈pbs
  ·obtain⟨cur,cur',E,fr,g4,g5,g6⟩:=H3c b hbn
   rw[h1]at g4
   simp only[Option.some.injEq,Obj.cells.injEq]at g4
   obtain⟨rfl,rfl,rfl⟩:=g4
   exact⟨cur',g5,by omega⟩
  ·exact⟨cur1,by rw[H8 b (by have:=hh.size;have:=c.oldpb b hb;omega) hbn];exact h1,h2⟩
 ·obtain⟨g1,g2⟩:=hh.gh g o hg
  have hlt:=(Array.getElem?_eq_some_iff.1 g1).1
  refine⟨(H8 g hlt fun hp=>by
   obtain⟨id,hi,hbi⟩:=mem9 g hp
   obtain⟨x0,_,h1,_⟩:=H3 id hi
   exact g2 id x0 h1 hbi).trans g1,fun id x hl hbi=>?_⟩
  by_cases hid:id<nx
  ·obtain⟨x0,h0,_⟩:=back id x hid hl
   rw[H1b id hid]at hbi
   exact g2 id x0 h0 hbi
  ·obtain⟨_,sz,rows,_,_,hown⟩:=H4 id x (by omega) hl
   have:=H6 g (hown g hbi)
   omega
end
def bEg (E:Env) (σ:St) (sig:Sig) (spec:Spec) (ws:List W) (R:V.R):Prop :=
 ∃ cs outs rs rest nb h',aD1 E σ.heap sig.params ws=some cs∧(bTj (aBg sig.params ws)=true∧((aBg sig.params ws).all fun i=> !(aDz σ.heap sig.params ws).contains i)=true∧(!sig.nested||(aDz σ.heap sig.params ws).all fun i=> !aLm σ.heap i)=true∧(!sig.nested||aE1 σ.pins (aDz σ.heap sig.params ws))=true)∧spec cs=some (true,outs)∧(aB6 cs (aEp sig.params)&&aE2 σ.heap sig.params ws)=true ∧
  aEy E σ.heap (aBg sig.params ws) sig.results outs σ.next=some (true,rs,rest,nb)∧aB2 E sig.params ws rest (if sig.nested then freeze σ.heap (aDz σ.heap sig.params ws)else σ.heap)=some (true,h') ∧
  R={val:=bV8 rs,st:={σ with heap:=aBj σ.next nb++h',next:=σ.next+nb.length},eff:=true,touched:=aBg sig.params ws++(if sig.nested then aDz σ.heap sig.params ws else[])}
theorem aKb {α:Type} {E:Env} {σ:St} {sig:Sig} {spec:Spec} {ws:List W} {k:V.R→T α} {r:α} (he:(bNt E σ sig spec ws k).eval=some r):∃ R,bEg E σ sig spec ws R∧(k R).eval=some r:=by
 unfold bNt at he
 split at he
 ·exact (aA0 he).elim
 ·rename_i cs hp
  simp only[]at he
  split at he
  ·rename_i hn
   split at he
   ·exact (aA0 he).elim
   ·rename_i pre outs hs
    obtain⟨hk,he1⟩:=aAl he
    obtain⟨hpre,he2⟩:=aAl he1
    rw[hpre]at hs
    clear he he1
    split at he2
    ·rename_i b rs rest nb ht
     split at he2
     ·rename_i b' h' hb
      obtain⟨hbb,he3⟩:=aAl he2
      simp only[Bool.and_eq_true]at hbb
      obtain⟨hb1,hb2⟩:=hbb
      rw[hb1]at ht
      rw[hb2]at hb
      exact⟨_,⟨cs,outs,rs,rest,nb,h',hp,hn,hs,hk,ht,hb,rfl⟩,he3⟩
     ·exact (aA0 he2).elim
    ·exact (aA0 he2).elim
  ·exact (aA0 he).elim
theorem aNn:∀ {l:List Nat},bTj l=true→l.Nodup
 |[],_=>List.nodup_nil
 |x::xs,h=>by
  simp only[bTj,Bool.and_eq_true,Bool.not_eq_true']at h
  exact List.nodup_cons.2 ⟨by simpa using h.1,aNn h.2⟩
theorem bRw {ok:Nat→Prop} {w:World} {h:aCq} {nx:Nat} {β:aCr} {rs:List (Bool×List L)} {vs:List Value} (hl:rs.length=vs.length)
  (hr:∀ (j:Nat) (p:Bool×List L),rs[j]? =some p→∃ u,vs[j]? =some u∧bIs ok w h nx β u p.1 p.2):aFs ok w h nx β (bRx vs) (bV8 rs):=by
 have tup:aFs ok w h nx β (.tuple vs.toArray) (.tup rs):=⟨vs.toArray,rfl,by simp[hl],fun j p hj=>let⟨u,hu,hp⟩:=hr j p hj;⟨u,by simpa using hu,hp⟩⟩
 match rs,vs,hl with
 |[],[],_=>exact tup
 |[(agg,ls)],[v],_ =>
  obtain⟨u,hu,hp⟩:=hr 0 _ rfl
  simp only[List.getElem?_cons_zero,Option.some.injEq]at hu
  subst hu
  cases agg with
  |true=>exact hp
  |false=>obtain⟨x,rfl,hx⟩:=hp;exact hx
 |p::q::rs,u::v::vs,_=>exact tup
section
variable {c:Ctx} {w:World} {β:aCr} {E:Env} {σ:St}
theorem aV2 (hE:aDx c.P E) {f:FuncId} {sig:Sig} {spec:Spec} (hS:aAw c.P f sig spec) {ws:List W} {R:V.R} (hR:bEg E σ sig spec ws R) (hh:aB7 c w σ.heap σ.next β)
  (hfree:∀ id x b,aE1 σ.pins [id]=true→σ.heap.lookup id=some x→β id=some b→c.w0.heap.size≤b) {vals:List Value} (hl:vals.length=ws.length)
  (hv:∀ (i:Nat) (v:Value) (x:W),vals[i]? =some v→ws[i]? =some x→aFs (okD c σ.heap β) w σ.heap σ.next β v x):bTf c.P f vals.toArray w (bBm c σ β w R):=by
 obtain⟨cs,outs,rs,rest,nb,h',hp,⟨hn,hdis,hnb,hfb⟩,hs,hkw,ht,htb,rfl⟩:=hR
 simp only[Bool.and_eq_true]at hkw
 obtain⟨hk,hwh⟩:=hkw
 have hids:=aNn hn
 generalize hvid:aDz σ.heap sig.params ws=vids at htb hdis hnb hfb
 have hfree':sig.nested=true→∀ id x b,id∈vids→σ.heap.lookup id=some x→β id=some b→c.w0.heap.size≤b:=fun hnest id x b hi hl hb=>by
  rw[hnest]at hfb
  refine hfree id x b ?_ hl hb
  have:=List.all_eq_true.1 (show aE1 σ.pins vids=true by simpa using hfb) id hi
  simpa[aE1]using this
 let h1:aCq:=if sig.nested then freeze σ.heap vids else σ.heap
 have hh1:aB7 c w h1 σ.next β:=by
  simp only[h1];split
  ·rename_i hnest
   exact aMg hh vids (hfree' hnest)
  ·exact hh
 have e1:Ext c w σ.heap σ.next β w h1 σ.next β:=by
  simp only[h1];split
  ·exact aNu vids
  ·exact Ext.refl _ _ _ _ _
 have box1:∀ id cells,σ.heap.lookup id=some (.box cells)→h1.lookup id=some (.box cells):=fun id cells hlk=>by
  simp only[h1];split
  ·rw[aDp,hlk];simp
  ·exact hlk
 have keep1:∀ id,id∉vids→h1.lookup id=σ.heap.lookup id:=fun id hi=>by
  simp only[h1];split
  ·rw[aDp]
   have:vids.contains id=false:=by simpa using hi
   simp only[this]
   cases σ.heap.lookup id<;>simp
  ·rfl
 have disj:∀ id,id∈aBg sig.params ws→id∉vids:=fun id hi hv=>by
  have:=List.all_eq_true.1 hdis id hi
  simp[hv]at this
 let okR:Nat→Prop:=fun b=>b<w.heap.size∧(okD c h1 β b∨∃ id blk,id∈vids∧σ.heap.lookup id=some blk∧β id=some b)
 obtain⟨pb,hargs,hmap,hbx⟩:=aGu hE hh (okR:=okR) (fun b hb hlt=>⟨hlt,.inl (e1.data b hb hlt).1⟩) (vids:=vids) (fun id b blk hi hlk hb=>⟨(hh.place id blk b hlk hb).2,.inr ⟨id,blk,hi,hlk,hb⟩⟩) hp hwh (fun id hi=>hvid▸hi) hl hv
 have mem9:∀ b,some b∈pb→∃ id,id∈aBg sig.params ws∧β id=some b:=fun b hb=>by
  obtain⟨j,hj⟩:=List.getElem?_of_mem hb
  have hlt:j<(aBg sig.params ws).length:=by rw[←hmap.1];exact (List.getElem?_eq_some_iff.1 hj).1
  exact⟨_,List.getElem_mem hlt,hmap.2 j _ b (List.getElem?_eq_getElem hlt) hj⟩
 have hokR:∀ b,okR b→b<w.heap.size∧some b∉pb:=fun b ⟨hlt,hb⟩=>⟨hlt,fun hpb=>by
  obtain⟨id,hi,hbi⟩:=mem9 b hpb
  obtain⟨x,hc,hxf⟩:=hbx id hi
  rcases hb with hb | ⟨id2,blk,hi2,hlk,hb2⟩
  ·exact hb.2 id _ ((keep1 id (disj id hi)).trans hc) hxf hbi
  ·have:=hh.inj id id2 _ blk b hc hlk hbi hb2
   subst this
   exact disj id hi hi2⟩
 have hglob:aMy c.P w okR:=fun g row hg=>by
  obtain⟨⟨g1,gt⟩,g2⟩:=c.glob g row hg
  obtain⟨g3,g4⟩:=c.old g g1
  have up:∀ b,c.okR b→okD c h1 β b:=fun b hb=>⟨.inl hb,fun id blk hl hf hbi=>by
   rcases (hh1.place id blk b hl hbi).1 with h | h
   ·have:=(c.old b hb).1;omega
   ·exact (c.old b hb).2 h.1⟩
  have up2:∀ b,c.okR b→okR b:=fun b hb=>⟨Nat.lt_of_lt_of_le (c.old b hb).1 hh.size,.inl (up b hb)⟩
  refine⟨⟨up2 g g1,fun he=>let⟨E1,fr1,h1⟩:=gt he;⟨E1,fr1,(hh.frame g g3 g4).trans h1⟩⟩,fun j x hx=>?_⟩
  obtain⟨u,hu,hru⟩:=g2 j x hx
  exact⟨u,by rw[aEf (hh.frame g g3 g4)];exact hu,hru.mono (fun b hb hlt=>⟨up2 b hb,hh.frame b hlt (c.old b hb).2⟩) hh.size⟩
 have hpbn:∀ (i j b:Nat),pb[i]? =some (some b)→pb[j]? =some (some b)→i=j:=fun i j b hi hj=>by
  have hli:i<(aBg sig.params ws).length:=by rw[←hmap.1];exact (List.getElem?_eq_some_iff.1 hi).1
  have hlj:j<(aBg sig.params ws).length:=by rw[←hmap.1];exact (List.getElem?_eq_some_iff.1 hj).1
  have b1:=hmap.2 i _ b (List.getElem?_eq_getElem hli) hi
  have b2:=hmap.2 j _ b (List.getElem?_eq_getElem hlj) hj
  obtain⟨x1,hx1,_⟩:=hbx _ (List.getElem_mem hli)
  obtain⟨x2,hx2,_⟩:=hbx _ (List.getElem_mem hlj)
  exact (List.getElem_inj hids).1 (hh.inj _ _ x1 x2 b hx1 hx2 b1 b2)
 refine (hS w okR pb vals cs outs hokR hglob hpbn hargs hk hs).mono fun v w' ha=>?_
 obtain⟨⟨vs,bs,cs1,cs2,okN,hokN,rfl,hcs,hrets,hboxes,hbsn,hown⟩,hsz,hframe,hos,hout⟩:=ha
 obtain⟨rfl,t2,t3,t4,t5⟩:=bGm hE ht hrets hcs
 obtain⟨b1,b2⟩:=aY8 (h:=h1) hE htb hboxes hmap hids (fun id x hi hx=>(hh1.blk id x hx).2.stand)
 let β':aCr:=fun id=>if id<σ.next then β id else (bs[id-σ.next]?).join
 have hlk:=fun i=>aF6 0 nb σ.next h' i
 have hbnx:∀ id,id∈aBg sig.params ws→id<σ.next:=fun id hi=>let⟨x,hc,_⟩:=hbx id hi;(hh.blk id _ hc).1
 have hjoin:∀ {i b:Nat},(bs[i]?).join=some b→bs[i]? =some (some b):=fun {i b} hj=>by
  cases hb:bs[i]? with
  |none=>rw[hb]at hj;cases hj
  |some x=>rw[hb]at hj;simp only[Option.join_some]at hj;rw[hj]
 obtain⟨s1,s2,s3⟩:=bMv (w':=w') (h':=aBj σ.next nb++h') (nx':=σ.next+nb.length) (β':=β') (ids:=aBg sig.params ws) (own:=bs.filterMap id) (pbs:=pb) hh1 (by omega) (fun id hid=>if_pos hid)
  (fun id hid hi=>by rw[hlk,if_neg (by omega),b1 id hi])
  (fun id hi=>(b2 id hi).step (by rw[hlk,if_neg (by have:=hbnx id hi;omega)]))
  (aTe hboxes)
  (fun id x hid hx=>by
   rw[hlk]at hx
   split at hx
   ·rename_i hr
    obtain⟨sz,rows,h2,h3⟩:=t4 _ x hx
    have hβ':β' id=(bs[id-σ.next]?).join:=if_neg (by omega)
    refine⟨hr.2,sz,rows,h2,by rw[hβ'];exact h3,fun b hb=>?_⟩
    rw[hβ']at hb
    exact List.mem_filterMap.2 ⟨some b,List.mem_of_getElem? (hjoin hb),rfl⟩
   ·exfalso
    have hni:id∉aBg sig.params ws:=fun hi=>by have:=hbnx id hi;omega
    rw[b1 id hni]at hx
    have:=(hh1.blk id x hx).1
    omega)
  (fun id id' b hid hid' hb hb'=>by
   have h2:β' id=(bs[id-σ.next]?).join:=if_neg (by omega)
   have h3:β' id'=(bs[id'-σ.next]?).join:=if_neg (by omega)
   rw[h2]at hb
   rw[h3]at hb'
   have:=hbsn _ _ b (hjoin hb) (hjoin hb')
   omega)
  (fun b hb=>by
   obtain⟨x,hx,hxb⟩:=List.mem_filterMap.1 hb
   have hxb:x=some b:=hxb
   subst hxb
   exact hown b hx)
  (fun b hb=>by
   rcases hokN b hb with⟨hnest,hlt,hb⟩ | ⟨hge,hnot⟩
   ·refine .inl ⟨?_,hlt⟩
    rcases hb with hb | ⟨id,blk,hi,hlk',hbi⟩
    ·exact hb
    ·simp only[h1,hnest,if_true]
     have hnbx:aLm σ.heap id=false:=by
      rw[hnest]at hnb
      simpa using List.all_eq_true.1 hnb id hi
     obtain⟨p,hr⟩:∃ p,blk.rows? =some p:=by
      cases blk with
      |box cells=>simp[aLm,hlk']at hnbx
      |arr sz rows=>exact⟨_,rfl⟩
      |fro sz rows=>exact⟨_,rfl⟩
      |bld t e0 row=>simp[aLm,hlk']at hnbx
      |own e0 bs0=>simp[aLm,hlk']at hnbx
      |mset ks=>simp[aLm,hlk']at hnbx
     exact aU2 hh hi hlk' hr hbi (hfree' hnest id blk b hi hlk' hbi)
   ·refine .inr ⟨hge,fun hm=>hnot ?_⟩
    obtain⟨x,hx,hxb⟩:=List.mem_filterMap.1 hm
    have hxb:x=some b:=hxb
    subst hxb
    exact hx) hframe mem9 hsz hos hout
 refine⟨β',s1,e1.trans s2,?_,rfl,rfl,fun id cells hc=>?_,fun id x hpin hx hxf=>?_⟩
 ·refine bRw t3 (t5 _ _ _ _ s3 (Nat.le_refl _) (fun i blk hi=>?_) (fun i hi=>?_) fun j id ob hj hob=>?_)
  ·show List.lookup (σ.next+i) (aBj σ.next nb++h')=some blk
   rw[hlk,if_pos (by have:=(List.getElem?_eq_some_iff.1 hi).1;omega),Nat.add_sub_cancel_left]
   exact hi
  ·show (if σ.next+i<σ.next then _ else _)=_
   rw[if_neg (by omega),Nat.add_sub_cancel_left]
  ·have hi:=List.mem_of_getElem? hj
   have hid:=hbnx id hi
   refine⟨Nat.lt_of_lt_of_le hid (Nat.le_add_right _ _),fun b hb=>?_,fun sz rows hl blk sz' rows' hlk' hr'=>?_⟩
   ·subst hb
    show (if id<σ.next then β id else _)=_
    rw[if_pos hid]
    exact hmap.2 j id b hj hob
   ·have hlk':List.lookup id (aBj σ.next nb++h')=some blk:=hlk'
    rw[hlk,if_neg (by omega)]at hlk'
    obtain⟨x,x',g1,g2,g3,g4,g5,_⟩:=b2 id hi
    rw[keep1 id (disj id hi),hl]at g1
    obtain rfl:=Option.some.inj g1
    rw[g2]at hlk'
    obtain rfl:=Option.some.inj hlk'
    cases x' with
    |arr sz1 aM6 =>
     simp only[Blk.rows?,Option.some.injEq,Prod.mk.injEq]at hr'
     obtain⟨rfl,rfl⟩:=hr'
     exact g5
    |fro sz1 aM6=>simp[Blk.isFro]at g4
    |box _=>exact g5.elim
    |bld _ _ _=>exact g5.elim
    |own _ _=>exact g5.elim
    |mset _=>exact g5.elim
 ·have hid:=(hh.blk id _ hc).1
  show ∃ cells',List.lookup id (aBj σ.next nb++h')=_∧_
  rw[hlk,if_neg (by omega)]
  by_cases hi:id∈aBg sig.params ws
  ·obtain⟨x,x',g1,g2,g3,g4,g5,_⟩:=b2 id hi
   rw[box1 id cells hc]at g1
   obtain rfl:=Option.some.inj g1
   cases x' with
   |box cells'=>exact⟨cells',g2,g5,if_pos hid⟩
   |arr sz rows=>exact g5.elim
   |fro sz rows=>exact g5.elim
   |bld t e0 row=>exact g5.elim
   |own e0 bs0=>exact g5.elim
   |mset _=>exact g5.elim
  ·rw[b1 id hi]
   exact⟨cells,box1 id cells hc,rfl,if_pos hid⟩
 ·have hid:=(hh.blk id _ hx).1
  show ∃ x',List.lookup id (aBj σ.next nb++h')=_∧_
  rw[hlk,if_neg (by omega)]
  by_cases hi:id∈aBg sig.params ws
  ·obtain⟨x0,x',g1,g2,g3,g4,g5,_⟩:=b2 id hi
   exact⟨x',g2,g4,if_pos hid⟩
  ·rw[b1 id hi]
   by_cases hv:id∈vids
   ·cases hnest:sig.nested with
    |true =>
     rw[hnest]at hfb
     have:=List.all_eq_true.1 (show aE1 σ.pins vids=true by simpa using hfb) id hv
     simp[hpin]at this
    |false =>
     have:h1=σ.heap:=by simp only[h1,hnest];rfl
     rw[this]
     exact⟨x,hx,hxf,if_pos hid⟩
   ·exact⟨x,by rw[keep1 id hv];exact hx,hxf,if_pos hid⟩
end
end Go.Proofs.YtigodjkegcibhaaGreatDoor.V
