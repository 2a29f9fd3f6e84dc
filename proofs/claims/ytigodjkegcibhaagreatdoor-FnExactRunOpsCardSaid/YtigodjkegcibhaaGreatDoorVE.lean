/- The value-level interpreter over the model, part E: definitions, or lemmas that show that it is the model's. -/
import Derived.Test.YtigodjkegcibhaaGreatDoorVD
set_option linter.unusedVariables false
set_option linter.unusedSimpArgs false
set_option linter.unusedSectionVars false
set_option linter.unnecessarySimpa false
namespace Go.Proofs.YtigodjkegcibhaaGreatDoor.V
section
variable {c:Ctx} {w:World} {β:aCr} {E:Env} {σ:St} {R:V.R}
theorem aEl (h:aCq) (id:Nat) (new:Blk) {i:Nat} (hi:i≠id):(upd h id new).lookup i=h.lookup i:=by
 induction h with
 |nil=>rfl
 |cons p h ih =>
  obtain⟨k,b⟩:=p
  have ih':List.lookup i (List.map (fun p=>if (p.1==id)=true then (id,new)else p) h)=h.lookup i:=ih
  simp only[upd,List.map_cons]
  by_cases hk:k=id
  ·subst hk
   have:(i==k)=false:=by simpa using hi
   simp only[beq_self_eq_true,if_true,List.lookup,this]
   exact ih'
  ·have:(k==id)=false:=by simpa using hk
   simp only[this,Bool.false_eq_true,if_false,List.lookup]
   split
   ·rfl
   ·exact ih'
theorem aJ0 (h:aCq) (ids:List Nat) {i:Nat} (hi:i∉ids):(freeze h ids).lookup i=h.lookup i:=by
 rw[aDp]
 have:ids.contains i=false:=by simpa using hi
 simp only[this]
 cases h.lookup i<;>simp
theorem bEi {op:Op} (h:aBv E σ op=some R) {id:Nat} (hid:id<σ.next) (ht:id∉R.touched):R.st.heap.lookup id=σ.heap.lookup id:=by
 by_cases hp:Op.plain op=true
 ·obtain⟨v,rfl⟩:=aHw hp h
  rfl
 ·have hne:id≠σ.next:=by omega
  cases hf:R.eff with
  |false =>
   obtain⟨v,rfl,_⟩:=aG0 (σ2:=σ) (fun _ _=>rfl) (fun _ _ _ _ _=>rfl) h hf
   rfl
  |true =>
   cases op<;>simp only[Op.plain,not_true,not_false_iff]at hp<;>simp only[aBv,vop]at h
   case alloc t =>
    (repeat' split at h)<;>first | exact (aA0 h).elim | (obtain rfl:=aAh h;exact aAt hne)
   case makeMap t x =>
    cases x<;>simp only[vop]at h
    all_goals (repeat' split at h)<;>first | exact (aA0 h).elim | (obtain rfl:=aAh h;exact aAt hne)
   case mapUpdate t m x y =>
    (repeat' split at h)<;>first
     |exact (aA0 h).elim
     |(obtain rfl:=aAh h;exact aEl _ _ _ (by simpa using ht))
   case box t x =>
    (repeat' split at h)<;>first | exact (aA0 h).elim | (obtain rfl:=aAh h;exact aAt hne)
   case makeSlice t n m =>
    (repeat' split at h)<;>first | exact (aA0 h).elim | (obtain⟨_,h⟩:=aAl h;obtain rfl:=aAh h;exact aAt hne)
   case store t p x =>
    (repeat' split at h)<;>first
     |exact (aA0 h).elim
     |(obtain rfl:=aAh h;exact aEl _ _ _ (by simpa using ht))
     |(obtain⟨_,h⟩:=aAl h;obtain rfl:=aAh h;exact aEl _ _ _ (by simpa using ht))
   case buildSlice t n ps =>
    (repeat' split at h)<;>first
     |exact (aA0 h).elim
     |(obtain rfl:=aAh h;exact (aAt hne).trans (aJ0 _ _ ht))
   case convert s d x =>
    (repeat' split at h)<;>first
     |exact (aA0 h).elim
     |(obtain rfl:=aAh h;first | (cases hf;done) | exact aAt hne)
     |(obtain⟨_,h⟩:=aAl h;obtain rfl:=aAh h;first | (cases hf;done) | exact aAt hne)
   case call cl =>
    obtain⟨callee,args,ats⟩:=cl
    cases callee with
    |builtin b =>
     cases b with
     |clear =>
      simp only[vop]at h
      (repeat' split at h)<;>first
       |exact (aA0 h).elim
       |(obtain⟨_,h⟩:=aAl h;obtain rfl:=aAh h;exact aEl _ _ _ (by simpa using ht))
     |append =>
      simp only[vop]at h
      (repeat' split at h)<;>first
       |exact (aA0 h).elim
       |(obtain⟨_,h⟩:=aAl h;obtain rfl:=aAh h;first
        |exact aAt hne
        |(refine (aAt hne).trans ?_;rw[aCe,if_neg (by simpa using ht)]))
     |len =>
      exfalso
      simp only[vop]at h
      (repeat' split at h)<;>first | exact (aA0 h).elim | (obtain rfl:=aAh h;cases hf)
     |max =>
      exfalso
      simp only[vop]at h
      (repeat' split at h)<;>first | exact (aA0 h).elim | (obtain rfl:=aAh h;cases hf)
     |min =>
      exfalso
      simp only[vop]at h
      (repeat' split at h)<;>first | exact (aA0 h).elim | (obtain rfl:=aAh h;cases hf)
     |_=>exact (aA0 h).elim
    |_=>exact (aA0 h).elim
theorem bIh {op : Op} {σ2 : St} (h : ∀ x, x ∈ op.operands → σ2.ev x = σ.ev x) : op.eats σ2 = op.eats σ := by
  cases op with
  | buildSlice t n ps =>
    simp only [Op.eats, List.flatMap]
    congr 1
    refine List.map_congr_left fun p hp => ?_
    rw [h p.2 (by simp only [Op.operands]; simp; exact ⟨p.1, by simpa using hp⟩)]
  | call cl =>
    obtain ⟨callee, args, ats⟩ := cl
    cases callee with
    | builtin b =>
      cases b with
      | append =>
        simp only [Op.eats]
        cases ha : args.toList with
        | nil => rfl
        | cons s r =>
          have : s ∈ args := by have : s ∈ args.toList := by rw [ha]; exact List.mem_cons_self
                                simpa using this
          simp only []
          rw [h s (by simp [Op.operands, Call.operands, this])]
      | _ => rfl
    | _ => rfl
  | _ => rfl
theorem bMc {op:Op} (h:aBv E σ op=some R) (hf:R.eff=false) (σ2:St):op.eats σ2=[]:=by
 cases op with
 |buildSlice t n ps =>
  exfalso
  simp only[aBv,vop]at h
  (repeat' split at h)<;>first
   |exact (aA0 h).elim
   |(obtain rfl:=aAh h;cases hf)
 |call cl =>
  obtain⟨callee,args,ats⟩:=cl
  cases callee with
  |builtin b =>
   cases b with
   |append =>
    exfalso
    simp only[aBv,vop]at h
    (repeat' split at h)<;>first
     |exact (aA0 h).elim
     |(obtain⟨_,h⟩:=aAl h;obtain rfl:=aAh h;cases hf)
   |_=>rfl
  |_=>rfl
 |_=>rfl
theorem bFi {pins ids:List Nat} (h:aE1 pins ids=true) {id:Nat} (hp:id∈pins):id∉ids:=fun hi=>by
 have:=List.all_eq_true.1 h id hi
 simp[hp]at this
theorem bR7 {op:Op} (h:aBv E σ op=some R) {id:Nat} {x:Blk} (hid:id<σ.next) (hpin:id∈σ.pins) (hfr:aE1 σ.pins (op.eats σ)=true) (hx:σ.heap.lookup id=some x) (hxf:x.isFro=false) :
  ∃ x',R.st.heap.lookup id=some x'∧x'.isFro=false:=by
 by_cases ht:id∈R.touched
 ·have hno:=bFi hfr hpin
  by_cases hp:Op.plain op=true
  ·obtain⟨v,rfl⟩:=aHw hp h
   cases ht
  ·cases hf:R.eff with
   |false =>
    obtain⟨v,rfl,_⟩:=aG0 (σ2:=σ) (fun _ _=>rfl) (fun _ _ _ _ _=>rfl) h hf
    cases ht
   |true =>
    cases op<;>simp only[Op.plain,not_true,not_false_iff]at hp<;>simp only[aBv,vop]at h
    case alloc t =>
     exfalso
     (repeat' split at h)<;>first | exact (aA0 h).elim | (obtain rfl:=aAh h;cases ht)
    case makeMap t y =>
     exfalso
     cases y<;>simp only[vop]at h
     all_goals (repeat' split at h)<;>first | exact (aA0 h).elim | (obtain rfl:=aAh h;cases ht)
    case mapUpdate t m y z =>
     (repeat' split at h)<;>first
      |exact (aA0 h).elim
      |(obtain rfl:=aAh h;obtain rfl:=List.mem_singleton.1 ht;exact⟨_,(aC6 _ _ _ ⟨x,hx⟩ _).trans (if_pos rfl),rfl⟩)
    case box t y =>
     exfalso
     (repeat' split at h)<;>first | exact (aA0 h).elim | (obtain rfl:=aAh h;cases ht)
    case makeSlice t n m =>
     exfalso
     (repeat' split at h)<;>first | exact (aA0 h).elim | (obtain⟨_,h⟩:=aAl h;obtain rfl:=aAh h;cases ht)
    case store t p y =>
     (repeat' split at h)<;>first
      |exact (aA0 h).elim
      |(obtain rfl:=aAh h;obtain rfl:=List.mem_singleton.1 ht;exact⟨_,(aC6 _ _ _ ⟨x,hx⟩ _).trans (if_pos rfl),rfl⟩)
      |(obtain⟨_,h⟩:=aAl h;obtain rfl:=aAh h;obtain rfl:=List.mem_singleton.1 ht;exact⟨_,(aC6 _ _ _ ⟨x,hx⟩ _).trans (if_pos rfl),rfl⟩)
    case buildSlice t n ps =>
     exfalso
     (repeat' split at h)<;>first
      |exact (aA0 h).elim
      |(obtain rfl:=aAh h;exact hno ht)
    case convert s d y =>
     exfalso
     (repeat' split at h)<;>first
      |exact (aA0 h).elim
      |(obtain rfl:=aAh h;cases ht)
      |(obtain⟨_,h⟩:=aAl h;obtain rfl:=aAh h;cases ht)
    case call cl =>
     obtain⟨callee,args,ats⟩:=cl
     cases callee with
     |builtin b =>
      cases b with
      |clear =>
       simp only[vop]at h
       (repeat' split at h)<;>first
        |exact (aA0 h).elim
        |(obtain⟨_,h⟩:=aAl h;obtain rfl:=aAh h;obtain rfl:=List.mem_singleton.1 ht;exact⟨_,(aC6 _ _ _ ⟨x,hx⟩ _).trans (if_pos rfl),rfl⟩)
      |append =>
       exfalso
       simp only[vop]at h
       split at h
       ·rename_i s y t u hargs hats
        simp only[Op.eats,hargs]at hno
        (repeat' split at h)<;>first
         |exact (aA0 h).elim
         |(obtain⟨_,h⟩:=aAl h;obtain rfl:=aAh h;first
          |(cases ht;done)
          |(rw[show σ.ev s=W.l (L.ref _ 0 _) by assumption]at hno;exact hno (by simpa[W.ids,L.ids]using ht)))
       ·exact (aA0 h).elim
      |len =>
       exfalso
       simp only[vop]at h
       (repeat' split at h)<;>first | exact (aA0 h).elim | (obtain rfl:=aAh h;cases hf)
      |max =>
       exfalso
       simp only[vop]at h
       (repeat' split at h)<;>first | exact (aA0 h).elim | (obtain rfl:=aAh h;cases hf)
      |min =>
       exfalso
       simp only[vop]at h
       (repeat' split at h)<;>first | exact (aA0 h).elim | (obtain rfl:=aAh h;cases hf)
      |_=>exact (aA0 h).elim
     |_=>exact (aA0 h).elim
 ·exact⟨x,(bEi h hid ht).trans hx,hxf⟩
theorem bBw:∀ {ks:List (K×Bool)} {ls:List L} {cs rest:List C} {h h':aCq} {b:Bool},aD4 E ks ls cs h=some (b,rest,h')→∀ {id:Nat},id∉aD9 ks ls→h'.lookup id=h.lookup id:=by
 intro ks
 induction ks with
 |nil =>
  intro ls cs rest h h' b ht id hid
  cases ls<;>simp[aD4]at ht
  obtain⟨_,_,rfl⟩:=ht
  rfl
 |cons k ks ih =>
  intro ls cs rest h h' b ht id hid
  obtain⟨kd,own⟩:=k
  cases ls with
  |nil=>cases own<;>cases kd<;>simp[aD4]at ht
  |cons x ls =>
   cases own with
   |false =>
    have e:aD9 ((kd,false)::ks) (x::ls)=aD9 ks ls:=by simp[aD9]
    rw[e]at hid
    exact ih (by simpa[aD4]using ht) hid
   |true =>
    cases kd with
    |slice e =>
     cases x with
     |ref i off n =>
      cases cs with
      |nil=>simp[aD4]at ht
      |cons d cs =>
       simp only[aD9,List.mem_cons,not_or]at hid
       simp only[aD4]at ht
       split at ht
       ·split at ht
        ·split at ht
         ·rename_i hrec
          simp only[Option.some.injEq,Prod.mk.injEq]at ht
          obtain⟨_,_,rfl⟩:=ht
          rw[ih hrec hid.2,aEl _ _ _ hid.1]
         ·cases ht
        ·cases ht
       ·cases ht
     |_=>cases cs<;>simp[aD4]at ht
    |_=>cases x<;>cases cs<;>simp[aD4]at ht
theorem aSn:∀ {ps:List PTy} {ws:List W} {cs:List C} {h h':aCq} {b:Bool},aB2 E ps ws cs h=some (b,h')→∀ {id:Nat},id∉aBg ps ws→h'.lookup id=h.lookup id:=by
 intro ps
 induction ps with
 |nil =>
  intro ws cs h h' b ht id hid
  cases ws<;>cases cs<;>simp[aB2]at ht
  obtain⟨_,rfl⟩:=ht
  rfl
 |cons p ps ih =>
  intro ws cs h h' b ht id hid
  cases ws with
  |nil=>cases p<;>simp[aB2]at ht
  |cons x ws =>
   cases p with
   |val agg ks =>
    have e:aBg (.val agg ks::ps) (x::ws)=aBg ps ws:=by simp[aBg]
    rw[e]at hid
    exact ih (by simpa[aB2]using ht) hid
   |wr agg ks =>
    simp only[aB2]at ht
    split at ht
    ·rename_i xs hwl
     simp only[aBg,hwl,List.mem_append,not_or]at hid
     split at ht
     ·rename_i hw1
      split at ht
      ·rename_i hrec
       simp only[Option.some.injEq,Prod.mk.injEq]at ht
       obtain⟨_,rfl⟩:=ht
       rw[ih hrec hid.2,bBw hw1 hid.1]
      ·cases ht
     ·cases ht
    ·cases ht
   |box ks =>
    cases x with
    |agg xs=>simp[aB2]at ht
    |tup xs=>simp[aB2]at ht
    |bz t=>simp[aB2]at ht
    |l y =>
     cases y with
     |ptr i off =>
      cases off with
      |succ k=>simp[aB2]at ht
      |zero =>
       simp only[aBg,List.mem_cons,not_or]at hid
       simp only[aB2]at ht
       split at ht
       ·cases hr:aB2 E ps ws (cs.drop ks.length) (upd h i (.box (aBt cs 0 ks).2))with
        |none=>rw[hr]at ht;cases ht
        |some q =>
         obtain⟨b',h''⟩:=q
         rw[hr]at ht
         simp only[Option.some.injEq,Prod.mk.injEq]at ht
         obtain⟨_,rfl⟩:=ht
         rw[ih hr hid.2,aEl _ _ _ hid.1]
       ·cases ht
     |_=>simp[aB2]at ht
theorem aUl {sig:Sig} {spec:Spec} {ws:List W} (hR:bEg E σ sig spec ws R) {id:Nat} (hid:id<σ.next) (ht:id∉R.touched):R.st.heap.lookup id=σ.heap.lookup id:=by
 obtain⟨cs,outs,rs,rest,nb,h',hp,hn,hs,hk,htk,htb,rfl⟩:=hR
 simp only[List.mem_append,not_or]at ht
 show List.lookup id (aBj σ.next nb++h')=_
 rw[aF6 0,if_neg (by omega),aSn htb ht.1]
 split
 ·rename_i hnest
  rw[hnest]at ht
  exact aJ0 _ _ ht.2
 ·rfl
def bV2 (c:Ctx) (o:Oper) (σ:St) (R:V.R):Prop :=
 ∀ β a w,Rel c σ β a w→∀ (next:Act→World→Prop) (Q:Exit→Act→World→Prop),(∀ v w',bBm c σ β w R v w'→next (a.put o.dst v) w')→o.wp c.P a w next Q
structure aHj (c:Ctx) (o:Oper) (σ:St) (R:V.R) (all:Bool):Prop where
 eff:R.eff=true→∀ s2,(∀ x,x∈o.op.operands→({σ with slots:=s2}:St).ev x=σ.ev x)→bV2 c o {σ with slots:=s2} (aJo s2 R)
 pure:R.eff=false→∀ σ2:St,(∀ x,x∈o.op.operands→σ2.ev x=σ.ev x)→(aNg o.op=false→∀ x,x∈o.op.operands→aMp σ σ2 (σ.ev x))→bV2 c o σ2 (aBe σ2 R.val)
 st:(R.eff=false→R=aBe σ R.val)∧R.st.slots=σ.slots∧R.st.pins=σ.pins
 keep:all=false→∀ id,id<σ.next→id∉R.touched→R.st.heap.lookup id=σ.heap.lookup id
def aMr {α:Type} (c:Ctx) (I:Inl α):Prop :=
 ∀ g fn ws σ (k:W→St→Option (List Nat)→T α) r,c.P.funcs[g]? =some fn→(I g fn ws σ k).eval=some r→∃ x σ' ts,(k x σ' ts).eval=some r∧(∀ l,ts=some l→∀ id,id<σ.next→id∉l→σ'.heap.lookup id=σ.heap.lookup id)∧σ'.pins=σ.pins∧fn.body.isSome=true∧∀ (β:aCr) (w:World) (vals:List Value),aB7 c w σ.heap σ.next β→vals.length=ws.length →
  (∀ (i:Nat) (v:Value) (x:W),vals[i]? =some v→ws[i]? =some x→aFs (okD c σ.heap β) w σ.heap σ.next β v x) →
  (∀ (j:Nat) (id:Nat),σ.pins[j]? =some id→id<σ.next∧(∃ x,σ.heap.lookup id=some x∧x.isFro=false)∧c.pb[j]? =some (β id))→σ.pins.length=c.pb.length →
  Calls c.P g vals.toArray w fun e w'=>∃ v,e=.returned v∧bBm c σ β w {val:=x,st:={σ' with slots:=σ.slots},eff:=true} v w'
structure aA8 (P:Program) (E:Env):Prop where
 ok:aDx P E
 law:∀ g sig spec,E.Γ g=some (sig,spec)→aAw P g sig spec
 name : ∀ g fn, E.inl g = some fn → (fn.name == "runtime.NumGoroutine") = false
 mixed:P.follows .mixedOrders=true
theorem aUx {P:Program} {o:Oper} {a:Act} {f:FuncId} {vals:Array Value} {Rr:Value→World→Prop} {next:Act→World→Prop} {Q:Exit→Act→World→Prop} (hrun:execOp a.eval o=callFunc f vals) (hg:bTf P f vals w Rr)
  (hn:∀ v w',Rr v w'→next (a.put o.dst v) w'):o.wp P a w next Q:=by
 unfold Oper.wp
 rw[hrun]
 rcases hg with⟨h1,h2⟩ | ⟨v,w',h1,h2⟩
 ·rw[h1,Oper.upon_enter]
  refine h2.mono fun e w' he=>?_
  obtain⟨v,rfl,hv⟩:=he
  exact hn v w' hv
 ·rw[h1,Oper.upon_value]
  exact hn v w' h2
theorem bCm {ok:Nat→Prop} {h:aCq} {nx:Nat} {v:Value} {x:C} (hr:Rep w ok v x):aI5 ok w h nx β v (L.ofC x):=by
 cases x with
 |int k n=>cases hr;rfl
 |bool t=>cases hr;rfl
 |str s=>cases hr;exact⟨_,rfl,rfl⟩
 |sl rows=>exact hr
 |fn g caps=>exact hr
 |pt row =>
  cases hr with
  |pt b o _ f h1 h2 h3 h4 =>
   refine⟨b,o,rfl,h1,h2,fun j x hx=>?_⟩
   rw[Nat.zero_add]at hx
   exact⟨_,h3 j (List.getElem?_eq_some_iff.1 hx).1,h4 j x hx⟩
 |err x=>exact hr
 |mp ks=>exact hr
theorem bPw {ok:Nat→Prop} {h:aCq} {nx:Nat} {v:Value} {x:Sum Nat C} (hr:aMq ok w h nx β v x):aI5 ok w h nx β v (bVa x):=by
 cases x with
 |inl id=>exact hr
 |inr y=>exact bCm hr
theorem aNy {s2:List (Nat×W)} {v:Value} {w':World} (h:bBm c σ β w R v w'):bBm c {σ with slots:=s2} β w (aJo s2 R) v w':=by
 obtain⟨β',d1,d2,d3,d4,d5,d6⟩:=h
 exact⟨β',d1,d2,d3,rfl,d5,d6⟩
theorem bIi {s:Sem Next} (hd:aC9 c σ β w s R) (hpin:∀ id x,id<σ.next→id∈σ.pins→σ.heap.lookup id=some x→x.isFro=false→∃ x',R.st.heap.lookup id=some x'∧x'.isFro=false):∃ v w',(s.run c.P w=.ok (.value v) w'∨(s.run c.P w=.ok .skip w'∧v=undef))∧(aB7 c w σ.heap σ.next β→bBm c σ β w R v w'):=by
 obtain⟨v,w',β',h1,h2,h3,h4,h5,h6,h7,h8⟩:=hd
 refine⟨v,w',h1,fun hh=>⟨β',h2,h3,h4,h5,h6,fun id cells hl=>?_,fun id x hp hl hf=>?_⟩⟩
 ·obtain⟨cells',hl'⟩:=h7 id cells hl
  obtain⟨e1,x,hx,hs⟩:=h3.site id _ (hh.blk id _ hl).1 hl'
  rw[hl]at hx
  obtain rfl:=Option.some.inj hx
  exact⟨cells',hl',hs,e1⟩
 ·obtain⟨x',hl',hf'⟩:=hpin id x (hh.blk id _ hl).1 hp hl hf
  exact⟨x',hl',hf',(h3.site id _ (hh.blk id _ hl).1 hl').1⟩
theorem aKh {a:Act} (hr:Rel c σ β a w):∀ id x b,aE1 σ.pins [id]=true→σ.heap.lookup id=some x→β id=some b→c.w0.heap.size≤b:=by
 intro id x b hf hl hb
 rcases (hr.heap.place id x b hl hb).1 with h | ⟨h,_⟩
 ·exact h
 ·exfalso
  obtain⟨j,hj⟩:=List.getElem?_of_mem h
  have hlt:j<σ.pins.length:=by rw[hr.npins];exact (List.getElem?_eq_some_iff.1 hj).1
  obtain⟨_,⟨y,hy,_⟩,h3⟩:=hr.pins j _ (List.getElem?_eq_getElem hlt)
  rw[hj]at h3
  have:=hr.heap.inj id _ x y b hl hy hb (Option.some.inj h3).symm
  exact bFi hf (this▸List.getElem_mem hlt) List.mem_cons_self
theorem bJw (hE:aDx c.P E) {o:Oper} {R:V.R} (he:aBv E σ o.op=some R) (hfr:aE1 σ.pins (o.op.eats σ)=true):bV2 c o σ R:=by
 intro β a w hr next Q hn
 obtain⟨v,w',hrun,hd⟩:=bIi (bTl hE hr.heap (aLj hr.slot) (fun id x b hi hl hb=>aKh hr id x b (by have:=List.all_eq_true.1 hfr id hi;simpa[aE1]using this) hl hb) he) (fun id x hid hp hl hf=>bR7 he hid hp hfr hl hf)
 unfold Oper.wp
 rcases hrun with h | ⟨h,rfl⟩
 ·rw[h,Oper.upon_value];exact hn _ _ (hd hr.heap)
 ·rw[h,Oper.upon_skip];exact hn _ _ (hd hr.heap)
theorem aYg (hE:aDx c.P E) {o:Oper} {R:V.R} (he:aBv E σ o.op=some R) (hfr:aE1 σ.pins (o.op.eats σ)=true):aHj c o σ R false:=by
 refine⟨fun hf s2 hev=>?_,fun hf σ2 hev hk=>?_,?_,fun _ id hid ht=>bEi he hid ht⟩
 ·have:=bJ8 (E:=E) (s2:=s2) hev
  rw[he]at this
  exact bJw hE this.symm (by rw[bIh hev];exact hfr)
 ·obtain⟨v,rfl,h2⟩:=aG0 hev hk he hf
  exact bJw hE h2 (by rw[bMc he hf];rfl)
 ·cases hf:R.eff with
  |false =>
   obtain⟨v,rfl,_⟩:=aG0 (σ2:=σ) (fun _ _=>rfl) (fun _ _ _ _ _=>rfl) he hf
   exact⟨fun _=>rfl,rfl,rfl⟩
  |true =>
   have hp:Op.plain o.op≠true:=fun hp=>by obtain⟨v,rfl⟩:=aHw hp he;cases hf
   refine⟨fun h=>(nomatch h),?_⟩
   generalize o.op=op at he hp
   cases op<;>simp only[Op.plain,ne_eq,not_true,not_false_iff]at hp<;>simp only[aBv,vop]at he
   case call cl =>
    obtain⟨callee,args,ats⟩:=cl
    cases callee with
    |builtin b =>
     cases b<;>simp only[vop]at he<;>(repeat' split at he)<;>first
      |exact (aA0 he).elim
      |(obtain rfl:=aAh he;exact⟨rfl,rfl⟩)
      |(obtain⟨_,he⟩:=aAl he;obtain rfl:=aAh he;exact⟨rfl,rfl⟩)
    |_=>exact (aA0 he).elim
   case makeMap t x =>
    cases x<;>simp only[vop]at he
    all_goals (repeat' split at he)<;>first | exact (aA0 he).elim | (obtain rfl:=aAh he;exact⟨rfl,rfl⟩)
   all_goals
    (repeat' split at he)<;>first
     |exact (aA0 he).elim
     |(obtain rfl:=aAh he;exact⟨rfl,rfl⟩)
     |(obtain⟨_,he⟩:=aAl he;obtain rfl:=aAh he;exact⟨rfl,rfl⟩)
theorem aXe {γ:Type} {a:Act} {args:Array Operand} {vs:List Value} {caps:List γ} {F:γ→L} (hr:Rel c σ β a w) (hc:vs.length=caps.length) (hcr:∀ (i:Nat) (v:Value) (x:γ),vs[i]? =some v→caps[i]? =some x→aI5 (okD c σ.heap β) w σ.heap σ.next β v (F x)) :
  (args.toList.map a.eval++vs).length=(args.toList.map σ.ev++caps.map fun c=>W.l (F c)).length ∧
  ∀ (i:Nat) (v:Value) (x:W),(args.toList.map a.eval++vs)[i]? =some v→(args.toList.map σ.ev++caps.map fun c=>W.l (F c))[i]? =some x→aFs (okD c σ.heap β) w σ.heap σ.next β v x:=by
 refine⟨by simp[hc],fun i v x hv hx=>?_⟩
 by_cases hi:i<args.toList.length
 ·rw[List.getElem?_append_left (by simpa using hi),List.getElem?_map]at hv hx
  cases ha:args.toList[i]? with
  |none=>rw[ha]at hv;cases hv
  |some y =>
   rw[ha]at hv hx
   obtain rfl:=Option.some.inj hv
   obtain rfl:=Option.some.inj hx
   exact aLj hr.slot y
 ·rw[List.getElem?_append_right (by simpa using hi)]at hv hx
  simp only[List.length_map]at hv hx
  rw[List.getElem?_map]at hx
  cases hcx:caps[i-args.toList.length]? with
  |none=>rw[hcx]at hx;cases hx
  |some y =>
   rw[hcx]at hx
   obtain rfl:=Option.some.inj hx
   exact hcr _ v y hv hcx
theorem bB4 {h h2:aCq}:∀ {caps:List (Sum Nat C)},aL7 caps=[]→caps.mapM (bVb h2)=caps.mapM (bVb h)
 |[],_=>rfl
 |.inl id::r,hc=>by simp[aL7]at hc
 |.inr x::r,hc=>by
  have ih:=bB4 (h:=h) (h2:=h2) (caps:=r) hc
  simp only[List.mapM_cons,ih]
  rfl
theorem bPx {h h2:aCq} {x:L} (hx:x.ids=[]):x.arg h2=x.arg h:=by
 cases x<;>first
  |rfl
  |(simp[L.ids]at hx;done)
  |(simp only[L.arg];rw[bB4 (h:=h) hx])
theorem bMn {h h2:aCq} {x:L} (hx:x.ids=[]):x.data h2=x.data h:=by
 cases x<;>first
  |rfl
  |(simp[L.ids]at hx;done)
theorem aUh {h h2:aCq}:∀ {xs:List L},xs.flatMap L.ids=[]→aLr h2 xs=aLr h xs
 |[],_=>rfl
 |x::r,hx=>by
  rw[List.flatMap_cons,List.append_eq_nil_iff]at hx
  have ih:=aUh (h:=h) (h2:=h2) hx.2
  unfold aLr at ih ⊢
  simp only[List.mapM_cons,ih,bMn (h:=h) (h2:=h2) hx.1]
def PTy.isVal:PTy→Bool | .val _ _=>true | _=>false
theorem aZb {h h2:aCq}:∀ {ps:List PTy} {ws:List W},(ps.all PTy.isVal)=true→(ws.all fun w=>w.ids.isEmpty)=true→aD1 E h2 ps ws=aD1 E h ps ws∧aBg ps ws=[]∧aE2 h2 ps ws=true
 |[],[],_,_=>⟨rfl,rfl,rfl⟩
 |[],_::_,_,_=>⟨rfl,rfl,rfl⟩
 |.val agg ks::ps,[],_,_=>by cases agg<;>exact⟨rfl,rfl,rfl⟩
 |.val agg ks::ps,w::ws,hp,hw=>by
  simp only[List.all_cons,Bool.and_eq_true,List.isEmpty_iff]at hp hw
  obtain⟨i1,i2,i3⟩:=aZb (h:=h) (h2:=h2) hp.2 hw.2
  refine⟨?_,by simpa[aBg]using i2,by simpa[aE2]using i3⟩
  cases agg with
  |false =>
   cases w with
   |l x=>simp only[aD1,i1];rw[bPx (h:=h) (by simpa[W.ids]using hw.1)]
   |_=>rfl
  |true =>
   cases w with
   |agg xs=>simp only[aD1,i1];rw[aUh (h:=h) (by simpa[W.ids]using hw.1)]
   |_=>rfl
 |.box _::_,_,hp,_=>by simp[PTy.isVal]at hp
 |.wr _ _::_,_,hp,_=>by simp[PTy.isVal]at hp
theorem aTj {h h2:aCq} {ids ids2:List Nat} {n2:Nat}:∀ {ks:List (K×Bool)} {cs:List C} {n:Nat},(ks.all fun p=> !p.2)=true→aB9 E h2 ids2 ks cs n2=aB9 E h ids ks cs n∧∀ x,aB9 E h ids ks cs n=some x→x.2.2.2=[]
 |[],cs,n,_=>⟨rfl,fun x hx=>by obtain rfl:=Option.some.inj hx;rfl⟩
 |(kd,true)::r,cs,n,hk=>by simp at hk
 |(kd,false)::r,[],n,_=>by
  refine⟨rfl,fun x hx=>?_⟩
  simp[aB9]at hx
 |(kd,false)::r,c::cs,n,hk=>by
  simp only[List.all_cons,Bool.not_false,Bool.true_and]at hk
  obtain⟨i1,i2⟩:=aTj (h:=h) (h2:=h2) (ids:=ids) (ids2:=ids2) (n2:=n2) (cs:=cs) (n:=n) hk
  refine⟨by simp only[aB9,i1],fun x hx=>?_⟩
  simp only[aB9]at hx
  cases ht:aB9 E h ids r cs n with
  |none=>rw[ht]at hx;cases hx
  |some y =>
   obtain⟨b,ls,cs',bs⟩:=y
   rw[ht]at hx
   obtain rfl:=Option.some.inj hx
   exact i2 (b,ls,cs',bs) ht
theorem aTi {h h2:aCq} {ids ids2:List Nat}:∀ {ts:List RTy} {cs:List C} {n n2:Nat},(ts.all fun t=>t.ls.all fun p=> !p.2)=true→aEy E h2 ids2 ts cs n2=aEy E h ids ts cs n∧∀ x,aEy E h ids ts cs n=some x→x.2.2.2=[]
 |[],cs,n,n2,_=>⟨rfl,fun x hx=>by obtain rfl:=Option.some.inj hx;rfl⟩
 |t::ts,cs,n,n2,hk=>by
  simp only[List.all_cons,Bool.and_eq_true]at hk
  obtain⟨j1,j2⟩:=aTj (E:=E) (h:=h) (h2:=h2) (ids:=ids) (ids2:=ids2) (n2:=n2) (cs:=cs) (n:=n) hk.1
  cases ht:aB9 E h ids t.ls cs n with
  |none =>
   refine⟨by simp only[aEy,j1,ht],fun x hx=>?_⟩
   simp only[aEy,ht]at hx
   cases hx
  |some y =>
   obtain⟨b,ls,cs',bs⟩:=y
   obtain rfl:bs=[]:=j2 _ ht
   obtain⟨i1,i2⟩:=aTi (h:=h) (h2:=h2) (ids:=ids) (ids2:=ids2) (ts:=ts) (cs:=cs') (n:=n) (n2:=n2) hk.2
   refine⟨by simp only[aEy,j1,ht,List.length_nil,Nat.add_zero,i1],fun x hx=>?_⟩
   simp only[aEy,ht,List.length_nil,Nat.add_zero]at hx
   cases hr:aEy E h ids ts cs' n with
   |none=>rw[hr]at hx;cases hx
   |some z =>
    obtain⟨b',rs,cs'',bs'⟩:=z
    rw[hr]at hx
    obtain rfl:=Option.some.inj hx
    exact i2 (b',rs,cs'',bs') hr
theorem aTk {h2:aCq}:∀ {ps:List PTy} {ws:List W} {cs:List C} {h h':aCq} {b:Bool},(ps.all PTy.isVal)=true→aB2 E ps ws cs h=some (b,h')→h'=h∧aB2 E ps ws cs h2=some (b,h2)
 |[],[],[],h,h',b,_,ht=>by
  simp only[aB2,Option.some.injEq,Prod.mk.injEq]at ht
  obtain⟨rfl,rfl⟩:=ht
  exact⟨rfl,rfl⟩
 |[],[],_::_,h,h',b,_,ht=>by simp[aB2]at ht
 |[],_::_,cs,h,h',b,_,ht=>by cases cs<;>simp[aB2]at ht
 |.val agg ks::ps,[],cs,h,h',b,_,ht=>by cases cs<;>simp[aB2]at ht
 |.val agg ks::ps,w::ws,cs,h,h',b,hp,ht=>by
  simp only[List.all_cons,Bool.and_eq_true]at hp
  have ht':aB2 E ps ws cs h=some (b,h'):=by cases cs<;>simpa[aB2]using ht
  obtain⟨i1,i2⟩:=aTk (h2:=h2) hp.2 ht'
  exact⟨i1,by cases cs<;>simpa[aB2]using i2⟩
 |.box _::_,_,_,_,_,_,hp,_=>by simp[PTy.isVal]at hp
 |.wr _ _::_,_,_,_,_,_,hp,_=>by simp[PTy.isVal]at hp
theorem bIq {sig:Sig} {spec:Spec} {ws:List W} (hR:bEg E σ sig spec ws R) (hc:(aQr sig&&ws.all fun w=>w.ids.isEmpty)=true) (σ2:St):∃ R2,bEg E σ2 sig spec ws R2∧R2.val=R.val∧R2.st=σ2:=by
 obtain⟨cs,outs,rs,rest,nb,h',hp,⟨hn,hdis,hnb,hfb⟩,hs,hkw,ht,htb,rfl⟩:=hR
 simp only[Bool.and_eq_true,aQr,Bool.not_eq_true']at hc
 obtain⟨⟨⟨hnest,hpv⟩,hrv⟩,hws⟩:=hc
 have hpv':(sig.params.all PTy.isVal)=true:=hpv
 obtain⟨p1,p2,p3⟩:=aZb (E:=E) (h:=σ.heap) (h2:=σ2.heap) hpv' hws
 obtain⟨q1,q2⟩:=aTi (E:=E) (h:=σ.heap) (h2:=σ2.heap) (ids:=aBg sig.params ws) (ids2:=aBg sig.params ws) (ts:=sig.results) (cs:=outs) (n:=σ.next) (n2:=σ2.next) hrv
 obtain rfl:nb=[]:=q2 _ ht
 rw[hnest]at htb
 simp only[Bool.false_eq_true,if_false]at htb
 obtain⟨_,b2⟩:=aTk (E:=E) (h2:=σ2.heap) hpv' htb
 simp only[Bool.and_eq_true]at hkw
 refine⟨{val:=bV8 rs,st:={σ2 with heap:=aBj σ2.next []++σ2.heap,next:=σ2.next+0},eff:=true,touched:=[]},⟨cs,outs,rs,rest,[],σ2.heap,by rw[p1];exact hp,⟨by rw[p2];rfl,by rw[p2];rfl,by rw[hnest];rfl,by rw[hnest];rfl⟩,hs,?_,?_,?_,?_⟩,rfl,rfl⟩
 ·rw[Bool.and_eq_true];exact⟨hkw.1,p3⟩
 ·rw[q1];exact ht
 ·rw[hnest];simpa using b2
 ·rw[p2,hnest];rfl
theorem bMe {σ2:St} {R2:V.R} {x:W} {v:Value} {w':World} (h:bBm c σ2 β w R2 v w') (h1:R2.st=σ2) (h2:R2.val=x):bBm c σ2 β w (aBe σ2 x) v w':=by
 unfold bBm at h ⊢
 rw[h1,h2]at h
 exact h
theorem bEs (hE:aA8 c.P E) {o:Oper} {f:Operand} {args:Array Operand} {ats:Array TypeId} {g:FuncId} {caps:List (Sum Nat C)} {sig:Sig} {spec:Spec} (hop:o.op=.call {callee:=.value f,args:=args,argTypes:=ats}) (hf:σ.ev f=.l (.clo g caps))
  (hΓ:E.Γ g=some (sig,spec)) (hR:bEg E σ sig spec (args.toList.map σ.ev++caps.map fun c=>W.l (bVa c)) R):aHj c o σ R false:=by
 have heff:R.eff=true:=by obtain⟨_,_,_,_,_,_,_,_,_,_,_,_,rfl⟩:=hR;rfl
 refine⟨fun _ s2 hev=>?_,fun hf=>(by rw[heff]at hf;cases hf),⟨fun hf=>(by rw[heff]at hf;cases hf),by obtain⟨_,_,_,_,_,_,_,_,_,_,_,_,rfl⟩:=hR;exact⟨rfl,rfl⟩⟩,fun _ id hid ht=>aUl hR hid ht⟩
 intro β a w hr next Q hn
 have hfr:=aLj hr.slot f
 rw[hev f (by rw[hop];simp[Op.operands,Call.operands]),hf]at hfr
 obtain⟨vs,hfv,hl,hc⟩:=hfr
 have harg:args.toList.map ({σ with slots:=s2}:St).ev=args.toList.map σ.ev:=List.map_congr_left fun x hx=>hev x (by rw[hop];simp[Op.operands,Call.operands];exact .inr (by simpa using hx))
 obtain⟨r1,r2⟩:=aXe (args:=args) (F:=bVa) hr hl fun i v x hv hx=>bPw (hc i v x hv hx)
 rw[harg]at r1 r2
 have h1:execOp a.eval o=callFunc g (args.toList.map a.eval++vs).toArray:=by
  simp only[execOp,hop,resolve,hfv,Deferred.ofValue]
  show (invoke (.fn (.func g) vs.toArray) (#[]++args.map a.eval))=_
  simp only[invoke]
  congr 1
  apply Array.ext'
  simp
 exact aUx h1 (aV2 hE.ok (hE.law g sig spec hΓ) hR hr.heap (aKh (σ:={σ with slots:=s2}) hr) r1 r2) fun v w' hd=>hn v w' (aNy hd)
theorem bMu {o:Oper} {f:Operand} {args:Array Operand} {ats:Array TypeId} {g:FuncId} {caps:List C} (hop:o.op=.call {callee:=.value f,args:=args,argTypes:=ats}) (hf:σ.ev f=.l (.fn g caps)) {s2:List (Nat×W)} {β:aCr} {a:Act} {w:World} (hev:∀ x,x∈o.op.operands→({σ with slots:=s2}:St).ev x=σ.ev x) (hr:Rel c {σ with slots:=s2} β a w) :
  ∃ vs:List Value,execOp a.eval o=callFunc g (args.toList.map a.eval++vs).toArray∧(args.toList.map a.eval++vs).length=(args.toList.map σ.ev++caps.map fun c=>W.l (L.ofC c)).length ∧
   ∀ (i:Nat) (v:Value) (x:W),(args.toList.map a.eval++vs)[i]? =some v→(args.toList.map σ.ev++caps.map fun c=>W.l (L.ofC c))[i]? =some x→aFs (okD c σ.heap β) w σ.heap σ.next β v x:=by
 have hfr:=aLj hr.slot f
 rw[hev f (by rw[hop];simp[Op.operands,Call.operands]),hf]at hfr
 have hfr':Rep w (okD c σ.heap β) (a.eval f) (.fn g caps):=hfr
 generalize hfv:a.eval f=fv at hfr'
 cases hfr' with
 |fn _ vs _ hl hc =>
  have harg:args.toList.map ({σ with slots:=s2}:St).ev=args.toList.map σ.ev:=List.map_congr_left fun x hx=>hev x (by rw[hop];simp[Op.operands,Call.operands];exact .inr (by simpa using hx))
  obtain⟨r1,r2⟩:=aXe (args:=args) (F:=L.ofC) hr hl fun i v x hv hx=>bCm (hc i v x hv hx)
  rw[harg]at r1 r2
  refine⟨vs,?_,r1,r2⟩
  simp only[execOp,hop,resolve,hfv,Deferred.ofValue]
  show (invoke (.fn (.func g) vs.toArray) (#[]++args.map a.eval))=_
  simp only[invoke]
  congr 1
  apply Array.ext'
  simp
theorem bT7 {o:Oper} {f:Operand} {args:Array Operand} {ats:Array TypeId} {g:FuncId} {caps:List C} (hop:o.op=.call {callee:=.value f,args:=args,argTypes:=ats}) (hf:σ.ev f=.l (.fn g caps)) {σ2:St} {β:aCr} {a:Act} {w:World} (hev:∀ x,x∈o.op.operands→σ2.ev x=σ.ev x) (hr:Rel c σ2 β a w) :
  ∃ vs:List Value,execOp a.eval o=callFunc g (args.toList.map a.eval++vs).toArray∧(args.toList.map a.eval++vs).length=(args.toList.map σ.ev++caps.map fun c=>W.l (L.ofC c)).length ∧
   ∀ (i:Nat) (v:Value) (x:W),(args.toList.map a.eval++vs)[i]? =some v→(args.toList.map σ.ev++caps.map fun c=>W.l (L.ofC c))[i]? =some x→aFs (okD c σ2.heap β) w σ2.heap σ2.next β v x:=by
 have hfr:=aLj hr.slot f
 rw[hev f (by rw[hop];simp[Op.operands,Call.operands]),hf]at hfr
 have hfr':Rep w (okD c σ2.heap β) (a.eval f) (.fn g caps):=hfr
 generalize hfv:a.eval f=fv at hfr'
 cases hfr' with
 |fn _ vs _ hl hc =>
  have harg:args.toList.map σ2.ev=args.toList.map σ.ev:=List.map_congr_left fun x hx=>hev x (by rw[hop];simp[Op.operands,Call.operands];exact .inr (by simpa using hx))
  obtain⟨r1,r2⟩:=aXe (args:=args) (F:=L.ofC) hr hl fun i v x hv hx=>bCm (hc i v x hv hx)
  rw[harg]at r1 r2
  refine⟨vs,?_,r1,r2⟩
  simp only[execOp,hop,resolve,hfv,Deferred.ofValue]
  show (invoke (.fn (.func g) vs.toArray) (#[]++args.map a.eval))=_
  simp only[invoke]
  congr 1
  apply Array.ext'
  simp
theorem bJx (hE:aA8 c.P E) {o:Oper} {f:Operand} {args:Array Operand} {ats:Array TypeId} {g:FuncId} {caps:List C} (hop:o.op=.call {callee:=.value f,args:=args,argTypes:=ats}) (hf:σ.ev f=.l (.fn g caps)) {sig:Sig} {spec:Spec}
  (hΓ:E.Γ g=some (sig,spec)) (hR:bEg E σ sig spec (args.toList.map σ.ev++caps.map fun c=>W.l (L.ofC c)) R):aHj c o σ (bVc σ sig (args.toList.map σ.ev++caps.map fun c=>W.l (L.ofC c)) R) false:=by
 by_cases hcalm:(aQr sig&&(args.toList.map σ.ev++caps.map fun c=>W.l (L.ofC c)).all fun w=>w.ids.isEmpty)=true
 ·have hce:bVc σ sig (args.toList.map σ.ev++caps.map fun c=>W.l (L.ofC c)) R=aBe σ R.val:=if_pos hcalm
  rw[hce]
  refine⟨fun hf=>(Bool.noConfusion hf),fun _ σ2 hev _=>?_,⟨fun _=>rfl,rfl,rfl⟩,fun _ _ _ _=>rfl⟩
  intro β a w hr next Q hn
  obtain⟨R2,hR2,hv2,hs2⟩:=bIq hR hcalm σ2
  obtain⟨vs,h1,h2,h3⟩:=bT7 hop hf hev hr
  exact aUx h1 (aV2 hE.ok (hE.law g sig spec hΓ) hR2 hr.heap (aKh hr) h2 h3) fun v w' hd=>hn v w' (bMe hd hs2 hv2)
 have hce:bVc σ sig (args.toList.map σ.ev++caps.map fun c=>W.l (L.ofC c)) R=R:=if_neg hcalm
 rw[hce]
 have heff:R.eff=true:=by obtain⟨_,_,_,_,_,_,_,_,_,_,_,_,rfl⟩:=hR;rfl
 refine⟨fun _ s2 hev=>?_,fun hf=>(by rw[heff]at hf;cases hf),⟨fun hf=>(by rw[heff]at hf;cases hf),by obtain⟨_,_,_,_,_,_,_,_,_,_,_,_,rfl⟩:=hR;exact⟨rfl,rfl⟩⟩,fun _ id hid ht=>aUl hR hid ht⟩
 intro β a w hr next Q hn
 obtain⟨vs,h1,h2,h3⟩:=bMu hop hf hev hr
 exact aUx h1 (aV2 hE.ok (hE.law g sig spec hΓ) hR hr.heap (aKh (σ:={σ with slots:=s2}) hr) h2 h3) fun v w' hd=>hn v w' (aNy hd)
theorem bNr {α:Type} (hE:aA8 c.P E) {I:Inl α} (hI:aMr c I) {o:Oper} {k:V.R→Bool→T α} {r:α} (he:(bBo E I o σ k).eval=some r):∃ R all,aHj c o σ R all∧(k R all).eval=some r:=by
 have plain:((if aE1 σ.pins (o.op.eats σ)then vop E σ o.op fun r=>k r false else .bad).eval=some r)→∃ R all,aHj c o σ R all∧(k R all).eval=some r:=by
  intro h
  split at h
  ·rename_i hfr
   rw[bJ9]at h
   cases hv:aBv E σ o.op with
   |none=>rw[hv]at h;cases h
   |some R=>rw[hv]at h;exact⟨R,false,aYg hE.ok hv hfr,h⟩
  ·exact (aA0 h).elim
 unfold bBo at he
 split at he
 ·rename_i f args ats hop
  split at he
  ·rename_i g caps hf
   simp only[]at he
   split at he
   ·rename_i sig spec hΓ
    obtain⟨R,hR,he'⟩:=aKb he
    exact⟨R,false,bEs hE hop hf hΓ hR,he'⟩
   ·exact (aA0 he).elim
  ·rename_i g caps hf
   split at he
   ·rename_i sig spec hΓ
    obtain⟨R,hR,he'⟩:=aKb he
    exact⟨_,false,bJx hE hop hf hΓ hR,he'⟩
   ·split at he
    ·rename_i fn hfn
     obtain⟨x,σ',ts,he',hkeep,hpins,hbody,hcall⟩:=hI g fn _ σ _ r (hE.ok.inl g fn hfn) he
     refine⟨{val:=x,st:={σ' with slots:=σ.slots},eff:=true,touched:=ts.getD []},ts.isNone,⟨fun _ s2 hev=>?_,fun hf=>(Bool.noConfusion hf),⟨fun hf=>(Bool.noConfusion hf),rfl,hpins⟩,fun h id hid hnt=>?_⟩,he'⟩
     rotate_left
     ·cases ts with
      |none=>exact absurd h (by decide)
      |some l=>exact hkeep l rfl id hid hnt
     intro β a w hr next Q hn
     obtain⟨vs,h1,h2,h3⟩:=bMu hop hf hev hr
     have hfun:=hE.ok.inl g fn hfn
     refine aUx (Rr:=bBm c σ β w {val:=x,st:={σ' with slots:=σ.slots},eff:=true}) h1 (.inl ⟨?_,hcall β w _ hr.heap h2 h3 hr.pins hr.npins⟩) fun v w' hd=>hn v w' (aNy hd)
     have hnm : ¬ fn.name = "runtime.NumGoroutine" := by simpa using hE.name g fn hfn
     have hbn:¬fn.body=none:=fun hb=>by simp[hb]at hbody
     simp[callFunc,hfun,hnm,hbn]
    ·exact (aA0 he).elim
  ·exact (aA0 he).elim
 ·exact plain he
theorem bJ6 {α:Type} {P:Program} (hE:aA8 P E) {o:Oper} {k:V.R→Bool→T α} {r:α} (he:(bBo E aAe o σ k).eval=some r):∃ R all,(∀ c:Ctx,c.P=P→aHj c o σ R all)∧((∀ cl,o.op≠.call cl)→aBv E σ o.op=some R)∧(k R all).eval=some r:=by
 have plain:((if aE1 σ.pins (o.op.eats σ)then vop E σ o.op fun r=>k r false else .bad).eval=some r)→∃ R all,(∀ c:Ctx,c.P=P→aHj c o σ R all)∧((∀ cl,o.op≠.call cl)→aBv E σ o.op=some R)∧(k R all).eval=some r:=by
  intro h
  split at h
  ·rename_i hfr
   rw[bJ9]at h
   cases hv:aBv E σ o.op with
   |none=>rw[hv]at h;cases h
   |some R=>rw[hv]at h;exact⟨R,false,fun c hc=>aYg (by rw[hc];exact hE.ok) hv hfr,fun _=>rfl,h⟩
  ·exact (aA0 h).elim
 unfold bBo at he
 split at he
 ·rename_i f args ats hop
  split at he
  ·rename_i g caps hf
   simp only[]at he
   split at he
   ·rename_i sig spec hΓ
    obtain⟨R,hR,he'⟩:=aKb he
    exact⟨R,false,fun c hc=>bEs (by rw[hc];exact hE) hop hf hΓ hR,fun h=>absurd hop (h _),he'⟩
   ·exact (aA0 he).elim
  ·rename_i g caps hf
   split at he
   ·rename_i sig spec hΓ
    obtain⟨R,hR,he'⟩:=aKb he
    exact⟨_,false,fun c hc=>bJx (by rw[hc];exact hE) hop hf hΓ hR,fun h=>absurd hop (h _),he'⟩
   ·split at he
    ·exact (aA0 he).elim
    ·exact (aA0 he).elim
  ·exact (aA0 he).elim
 ·exact plain he
end
structure Far (c:Ctx) (σ:St) (β:aCr) (w:World) (σ':St) (β':aCr) (w':World):Prop where
 ext:Ext c w σ.heap σ.next β w' σ'.heap σ'.next β'
 pins:σ'.pins=σ.pins
 box:∀ id cells,σ.heap.lookup id=some (.box cells)→∃ cells',σ'.heap.lookup id=some (.box cells')∧cells'.length=cells.length∧β' id=β id
 pin:∀ id x,id∈σ.pins→σ.heap.lookup id=some x→x.isFro=false→∃ x',σ'.heap.lookup id=some x'∧x'.isFro=false∧β' id=β id
theorem Far.refl (c:Ctx) (σ:St) (β:aCr) (w:World):Far c σ β w σ β w:=⟨Ext.refl _ _ _ _ _,rfl,fun _ cells h=>⟨cells,h,rfl,rfl⟩,fun _ x _ h hf=>⟨x,h,hf,rfl⟩⟩
theorem Far.trans {c:Ctx} {σ σ1 σ2:St} {β β1 β2:aCr} {w w1 w2:World} (x:Far c σ β w σ1 β1 w1) (y:Far c σ1 β1 w1 σ2 β2 w2):Far c σ β w σ2 β2 w2 :=
 ⟨x.ext.trans y.ext,y.pins.trans x.pins,fun id cells h=>by
  obtain⟨c1,h1,l1,b1⟩:=x.box id cells h
  obtain⟨c2,h2,l2,b2⟩:=y.box id c1 h1
  exact⟨c2,h2,l2.trans l1,b2.trans b1⟩,fun id z hp h hf=>by
  obtain⟨x1,h1,l1,b1⟩:=x.pin id z hp h hf
  obtain⟨x2,h2,l2,b2⟩:=y.pin id x1 (by rw[x.pins];exact hp) h1 l1
  exact⟨x2,h2,l2,b2.trans b1⟩⟩
structure Ent where
 i:Nat
 o:Oper
 σ:St
 res:Option (V.R×Bool)
def Ent.ev? (e:Ent):Option Ev:=e.res.map fun p=>{at':=e.i,eff:=p.1.eff,keys:=Op.keys e.σ e.o.op,touched:=p.1.touched,all:=p.2,next:=e.σ.next}
def app (σ:St) (e:Ent):St :=
 match e.res with
 |none=>σ.put e.o.dst (.l .und)
 |some (R,_)=>({slots:=σ.slots,heap:=if R.eff then R.st.heap else σ.heap,next:=if R.eff then R.st.next else σ.next,pins:=σ.pins}:St).put e.o.dst R.val
def aD6 (ops:Array Oper) (o:Oper) (σ:St):Option Bool :=
 match o.guard with
 |none=>some true
 |some (g,b)=>match (ops[g]?).bind (·.dst)with
  |none=>none
  |some d=>match σ.get d,b with
   |.l (.b t),true=>some t
   |.l (.b t),false=>some (!t)
   |.l .und,_=>some false
   |_,_=>none
def bB7 (c:Ctx) (E:Env) (ops:Array Oper):List Nat→St→List Ent→St→Prop
 |[],σ,[],σ'=>σ'=σ
 |i::r,σ,e::es,σ'=>e.i=i∧ops[i]? =some e.o∧e.σ=σ∧(∀ d,e.o.dst=some d→d<E.nt)∧aD6 ops e.o σ=some e.res.isSome∧(∀ R all,e.res=some (R,all)→aHj c e.o σ R all)∧bB7 c E ops r (app σ e) es σ'
 |_,_,_,_=>False
theorem bMx {c:Ctx} {o:Oper} {σ:St} {R:V.R} {all:Bool} (h:aHj c o σ R all) (i:Nat):app σ ⟨i,o,σ,some (R,all)⟩=R.st.put o.dst R.val:=by
 simp only[app]
 congr 1
 obtain⟨h1,h2,h3⟩:=h.st
 cases hf:R.eff with
 |false=>rw[show R.st=σ by rw[h1 hf];rfl];rfl
 |true=>rw[←h2,←h3];rfl
theorem bGg {α:Type} {R:V.R} {k:V.R→T α} {r:α} (h:(bR8 R k).eval=some r):(k R).eval=some r:=by
 obtain⟨v,st,e,tc⟩:=R
 unfold bR8 at h
 split at h
 ·rename_i t ht
  simp only at ht
  subst ht
  rcases aWy h with⟨rfl,h⟩ | ⟨rfl,h⟩<;>exact h
 ·exact h
theorem aO7 {α:Type} {op:Op} {R:V.R} {k:V.R→T α} {r:α} (h:(aPw op R k).eval=some r):(k R).eval=some r:=by
 unfold aPw at h
 split at h
 ·exact h
 ·exact bGg h
theorem aUn {α:Type} {r:α}:∀ {ws:List W} {k:List W→T α},(bB5 ws k).eval=some r→(k ws).eval=some r:=by
 intro ws
 induction ws with
 |nil=>intro k h;exact h
 |cons w ws ih =>
  intro k h
  unfold bB5 at h
  split at h
  ·cases ‹_::_=_›
  ·rename_i t r' heq
   simp only[List.cons.injEq]at heq
   obtain⟨rfl,rfl⟩:=heq
   rcases aWy h with⟨rfl,h⟩ | ⟨rfl,h⟩<;>exact ih h
  ·rename_i heq
   simp only[List.cons.injEq]at heq
   obtain⟨rfl,rfl⟩:=heq
   exact ih h
theorem bEh {α:Type} {c:Ctx} {E:Env} (hE:aA8 c.P E) {I:Inl α} (hI:aMr c I) {ops:Array Oper}:∀ {l:List Nat} {σ:St} {tr:List Ev} {k:St→List Ev→T α} {r:α},(bIu E I ops l σ tr k).eval=some r →
  ∃ es σ',(k σ' ((es.filterMap Ent.ev?).reverse++tr)).eval=some r∧bB7 c E ops l σ es σ':=by
 intro l
 induction l with
 |nil=>intro σ tr k r he;exact⟨[],σ,he,rfl⟩
 |cons i l ih =>
  intro σ tr k r he
  simp only[bIu]at he
  split at he
  ·exact (aA0 he).elim
  ·rename_i o ho
   split at he
   ·rename_i hd
    have hd':∀ d,o.dst=some d→d<E.nt:=fun d hod=>by rw[hod]at hd;simpa[bT0]using hd
    have go:aD6 ops o σ=some true→(bBo E I o σ fun R all=>aPw o.op R fun R=>bIu E I ops l (R.st.put o.dst R.val) ({at':=i,eff:=R.eff,keys:=Op.keys σ o.op,touched:=R.touched,all,next:=σ.next}::tr) k).eval=some r →
      ∃ es σ',(k σ' ((es.filterMap Ent.ev?).reverse++tr)).eval=some r∧bB7 c E ops (i::l) σ es σ':=by
     intro hg h
     obtain⟨R,all,hs,h⟩:=bNr hE hI h
     have h:=aO7 h
     obtain⟨es,σ',h1,h2⟩:=ih h
     refine⟨⟨i,o,σ,some (R,all)⟩::es,σ',?_,rfl,ho,rfl,hd',hg,fun R' all' he=>?_,?_⟩
     ·simpa[Ent.ev?]using h1
     ·obtain⟨rfl,rfl⟩:R=R'∧all=all':=by simpa using he
      exact hs
     ·rw[bMx hs];exact h2
    have skip:aD6 ops o σ=some false→(bIu E I ops l (σ.put o.dst (.l .und)) tr k).eval=some r→∃ es σ',(k σ' ((es.filterMap Ent.ev?).reverse++tr)).eval=some r∧bB7 c E ops (i::l) σ es σ':=by
     intro hg h
     obtain⟨es,σ',h1,h2⟩:=ih h
     refine⟨⟨i,o,σ,none⟩::es,σ',?_,rfl,ho,rfl,hd',hg,fun R' all' he=>(by cases he),h2⟩
     rw[List.filterMap_cons]
     exact h1
    split at he
    ·rename_i hg
     exact go (by simp[aD6,hg]) he
    ·rename_i g b hg
     split at he
     ·exact (aA0 he).elim
     ·rename_i d hgd
      split at he
      ·rename_i hb
       exact go (by simp[aD6,hg,hgd,hb]) he
      ·rename_i hb
       exact skip (by simp[aD6,hg,hgd,hb]) he
      ·rename_i hb
       exact skip (by simp[aD6,hg,hgd,hb]) he
      ·rename_i hb
       exact go (by simp[aD6,hg,hgd,hb]) he
      ·rename_i hb
       exact skip (by simp[aD6,hg,hgd,hb]) he
      ·exact (aA0 he).elim
   ·exact (aA0 he).elim
theorem bJ7 {α:Type} {P:Program} {E:Env} (hE:aA8 P E) {ops:Array Oper}:∀ {l:List Nat} {σ:St} {tr:List Ev} {k:St→List Ev→T α} {r:α},(bIu E aAe ops l σ tr k).eval=some r →
  ∃ es σ',(k σ' ((es.filterMap Ent.ev?).reverse++tr)).eval=some r∧(∀ c:Ctx,c.P=P→bB7 c E ops l σ es σ')∧∀ e,e∈es→(∀ cl,e.o.op≠.call cl)→∀ R all,e.res=some (R,all)→aBv E e.σ e.o.op=some R:=by
 intro l
 induction l with
 |nil=>intro σ tr k r he;exact⟨[],σ,he,fun _ _=>rfl,fun _ h=>by cases h⟩
 |cons i l ih =>
  intro σ tr k r he
  simp only[bIu]at he
  split at he
  ·exact (aA0 he).elim
  ·rename_i o ho
   split at he
   ·rename_i hd
    have hd':∀ d,o.dst=some d→d<E.nt:=fun d hod=>by rw[hod]at hd;simpa[bT0]using hd
    have go:aD6 ops o σ=some true→(bBo E aAe o σ fun R all=>aPw o.op R fun R=>bIu E aAe ops l (R.st.put o.dst R.val) ({at':=i,eff:=R.eff,keys:=Op.keys σ o.op,touched:=R.touched,all,next:=σ.next}::tr) k).eval=some r →
      ∃ es σ',(k σ' ((es.filterMap Ent.ev?).reverse++tr)).eval=some r∧(∀ c:Ctx,c.P=P→bB7 c E ops (i::l) σ es σ')∧∀ e,e∈es→(∀ cl,e.o.op≠.call cl)→∀ R all,e.res=some (R,all)→aBv E e.σ e.o.op=some R:=by
     intro hg h
     obtain⟨R,all,hs,hv,h⟩:=bJ6 hE h
     have h:=aO7 h
     obtain⟨es,σ',h1,h2,h3⟩:=ih h
     refine⟨⟨i,o,σ,some (R,all)⟩::es,σ',by simpa[Ent.ev?]using h1,fun c hc=>⟨rfl,ho,rfl,hd',hg,fun R' all' he=>?_,?_⟩,fun e he hcl R' all' hr=>?_⟩
     ·obtain⟨rfl,rfl⟩:R=R'∧all=all':=by simpa using he
      exact hs c hc
     ·rw[bMx (hs c hc)];exact h2 c hc
     ·rcases List.mem_cons.1 he with rfl | he
      ·obtain⟨rfl,rfl⟩:R=R'∧all=all':=by simpa using hr
       exact hv hcl
      ·exact h3 e he hcl R' all' hr
    have skip:aD6 ops o σ=some false→(bIu E aAe ops l (σ.put o.dst (.l .und)) tr k).eval=some r→∃ es σ',(k σ' ((es.filterMap Ent.ev?).reverse++tr)).eval=some r∧(∀ c:Ctx,c.P=P→bB7 c E ops (i::l) σ es σ')∧∀ e,e∈es→(∀ cl,e.o.op≠.call cl)→∀ R all,e.res=some (R,all)→aBv E e.σ e.o.op=some R:=by
     intro hg h
     obtain⟨es,σ',h1,h2,h3⟩:=ih h
     refine⟨⟨i,o,σ,none⟩::es,σ',?_,fun c hc=>⟨rfl,ho,rfl,hd',hg,fun R' all' he=>(by cases he),h2 c hc⟩,fun e he hcl R' all' hr=>?_⟩
     ·rw[List.filterMap_cons]
      exact h1
     ·rcases List.mem_cons.1 he with rfl | he
      ·cases hr
      ·exact h3 e he hcl R' all' hr
    split at he
    ·rename_i hg
     exact go (by simp[aD6,hg]) he
    ·rename_i g b hg
     split at he
     ·exact (aA0 he).elim
     ·rename_i d hgd
      split at he
      ·rename_i hb
       exact go (by simp[aD6,hg,hgd,hb]) he
      ·rename_i hb
       exact skip (by simp[aD6,hg,hgd,hb]) he
      ·rename_i hb
       exact skip (by simp[aD6,hg,hgd,hb]) he
      ·rename_i hb
       exact go (by simp[aD6,hg,hgd,hb]) he
      ·rename_i hb
       exact skip (by simp[aD6,hg,hgd,hb]) he
      ·exact (aA0 he).elim
   ·exact (aA0 he).elim
section
variable {c:Ctx} {E:Env} {σ:St} {β:aCr} {a:Act} {w w':World} {ops:Array Oper} {o:Oper}
theorem aVw (a:Act) (d:Option Tmp) (v:Value):(a.put d v).tmps.size=a.tmps.size:=by
 cases d<;>simp[Act.put]
theorem aVx {d:Option Tmp} {v:Value} (t:Nat) (hd:∀ x,d=some x→x<a.tmps.size):(a.put d v).tmps.getD t undef=if d=some t then v else a.tmps.getD t undef:=by
 cases d with
 |none=>simp[Act.put]
 |some x =>
  have:=hd x rfl
  simp only[Act.put]
  by_cases h:x=t
  ·subst h
   simp[this]
  ·have h':¬some x=some t:=fun e=>h (Option.some.inj e)
   rw[if_neg h']
   simp[Array.getD_eq_getD_getElem?,Array.getElem?_setIfInBounds_ne h]
theorem aIz {d:Option Nat} {x:W} (t:Nat):(σ.put d x).get t=if d=some t then x else σ.get t:=by
 cases d with
 |none=>simp[St.put]
 |some y =>
  simp only[St.put,St.get]
  by_cases h:y=t
  ·subst h;simp[List.lookup]
  ·have h':¬some y=some t:=fun e=>h (Option.some.inj e)
   have:(t==y)=false:=by simpa using fun e=>h (Eq.symm e)
   rw[if_neg h']
   simp[List.lookup,this]
theorem aD0 (σ:St) (d:Option Nat) (x:W):(σ.put d x).heap=σ.heap∧(σ.put d x).next=σ.next∧(σ.put d x).pins=σ.pins:=by
 cases d<;>exact⟨rfl,rfl,rfl⟩
theorem bS1 (hr:Rel c σ β a w) {R:V.R} {v:Value} (hd:bBm c σ β w R v w') (hs:∀ d,o.dst=some d→d<a.tmps.size):∃ β',Rel c (R.st.put o.dst R.val) β' (a.put o.dst v) w'∧Far c σ β w (R.st.put o.dst R.val) β' w':=by
 obtain⟨β',d1,d2,d3,d4,d5,d6,d7⟩:=hd
 obtain⟨p1,p2,p3⟩:=aD0 R.st o.dst R.val
 refine⟨β',⟨by rw[p1,p2];exact d1,fun t=>?_,?_,fun j id hj=>?_,?_⟩,⟨by rw[p1,p2];exact d2,by rw[p3,d5],fun id cells h=>by rw[p1];exact d6 id cells h,fun id x hp h hf=>by rw[p1];exact d7 id x hp h hf⟩⟩
 ·rw[p1,p2,aVx t hs,aIz]
  split
  ·exact d3
  ·have:R.st.get t=σ.get t:=by simp[St.get,d4]
   rw[this]
   exact d2.repW (hr.slot t)
 ·have:(a.put o.dst v).defers=a.defers:=by cases o.dst<;>rfl
  rw[this];exact hr.defers
 ·rw[p3,d5]at hj
  obtain⟨h1,⟨x,h2,hf⟩,h3⟩:=hr.pins j id hj
  obtain⟨x',g1,g3,g2⟩:=d7 id x (List.mem_of_getElem? hj) h2 hf
  rw[p1,p2]
  exact⟨Nat.lt_of_lt_of_le h1 d2.nxle,⟨x',g1,g3⟩,by rw[g2];exact h3⟩
 ·rw[p3,d5];exact hr.npins
theorem bOd (hr:Rel c σ β a w) (hs:∀ d,o.dst=some d→d<a.tmps.size):Rel c (σ.put o.dst (.l .und)) β (a.put o.dst undef) w∧Far c σ β w (σ.put o.dst (.l .und)) β w:=by
 obtain⟨p1,p2,p3⟩:=aD0 σ o.dst (.l .und)
 refine⟨⟨by rw[p1,p2];exact hr.heap,fun t=>?_,?_,fun j id hj=>?_,by rw[p3];exact hr.npins⟩,⟨by rw[p1,p2];exact Ext.refl _ _ _ _ _,p3,fun id cells h=>⟨cells,by rw[p1];exact h,rfl,rfl⟩,fun id x _ h hf=>⟨x,by rw[p1];exact h,hf,rfl⟩⟩⟩
 ·rw[p1,p2,aVx t hs,aIz]
  split
  ·exact rfl
  ·exact hr.slot t
 ·have:(a.put o.dst undef).defers=a.defers:=by cases o.dst<;>rfl
  rw[this];exact hr.defers
 ·rw[p3]at hj
  rw[p1,p2]
  exact hr.pins j id hj
theorem bJ5 (hr:Rel c σ β a w) {t:Bool} (hg:aD6 ops o σ=some t):Region.wanted o (yielded ops a.tmps)=t:=by
 unfold aD6 at hg
 unfold Region.wanted
 split at hg
 ·rename_i h
  rw[h]
  exact (Option.some.inj hg)
 ·rename_i g b h
  rw[h]
  simp only[]
  split at hg
  ·cases hg
  ·rename_i d hd
   have hslot:=hr.slot d
   split at hg
   ·rename_i t' hb
    obtain rfl:=Option.some.inj hg
    rw[hb]at hslot
    have hv:a.tmps.getD d undef=.bool t':=hslot
    have:a.tmps[d]? =some (.bool t'):=by
     rw[Array.getD_eq_getD_getElem?]at hv
     cases hx:a.tmps[d]? with
     |none=>rw[hx]at hv;simp[undef]at hv
     |some x=>rw[hx]at hv;simp at hv;rw[hv]
    simp[yielded,hd,this]
   ·rename_i t' hb
    obtain rfl:=Option.some.inj hg
    rw[hb]at hslot
    have hv:a.tmps.getD d undef=.bool t':=hslot
    have:a.tmps[d]? =some (.bool t'):=by
     rw[Array.getD_eq_getD_getElem?]at hv
     cases hx:a.tmps[d]? with
     |none=>rw[hx]at hv;simp[undef]at hv
     |some x=>rw[hx]at hv;simp at hv;rw[hv]
    cases t'<;>simp[yielded,hd,this]
   ·rename_i hb
    obtain rfl:=Option.some.inj hg
    rw[hb]at hslot
    have hv:a.tmps.getD d undef=undef:=hslot
    rw[Array.getD_eq_getD_getElem?]at hv
    cases hx:a.tmps[d]? with
    |none=>simp[yielded,hd,hx]
    |some x =>
     rw[hx]at hv
     simp only[Option.getD_some]at hv
     subst hv
     simp[yielded,hd,hx,undef]
   ·cases hg
theorem aP4 {i:Nat} {next:Act→World→Prop} {Q:Exit→Act→World→Prop} {res:Option (V.R×Bool)} (ho:ops[i]? =some o) (hr:Rel c σ β a w) (hg:aD6 ops o σ=some res.isSome)
  (hst:∀ R all,res=some (R,all)→bV2 c o σ R) (hs:∀ d,o.dst=some d→d<a.tmps.size)
  (hn:∀ σ1 β' a' w',(match res with | none=>σ1=σ.put o.dst (.l .und) | some (R,_)=>σ1=R.st.put o.dst R.val)→Rel c σ1 β' a' w'→a'.tmps.size=a.tmps.size→Far c σ β w σ1 β' w'→next a' w'):wpOp c.P ops Q i next a w:=by
 unfold wpOp
 rw[ho]
 simp only[bJ5 hr hg]
 cases res with
 |none =>
  simp only[Option.isSome_none,Bool.false_eq_true,if_false]
  obtain⟨h1,h2⟩:=bOd hr hs
  exact hn _ β _ w rfl h1 (aVw _ _ _) h2
 |some p =>
  obtain⟨R,all⟩:=p
  simp only[Option.isSome_some,if_true]
  refine .inl (hst R all rfl β a w hr next Q fun v w' hd=>?_)
  obtain⟨β',h1,h2⟩:=bS1 hr hd hs
  exact hn _ β' _ w' rfl h1 (aVw _ _ _) h2
theorem bCe {R:V.R} (h:R.st.slots=σ.slots):aJo σ.slots R=R:=by
 obtain⟨v,⟨s,hp,n,p⟩,e,t⟩:=R
 simp only at h
 subst h
 rfl
theorem aHj.here {R:V.R} {all:Bool} (h:aHj c o σ R all):bV2 c o σ R:=by
 cases hf:R.eff with
 |true =>
  have:=h.eff hf σ.slots (fun _ _=>rfl)
  rw[bCe h.st.2.1]at this
  exact this
 |false =>
  have:=h.pure hf σ (fun _ _=>rfl) (fun _ _ _ _ _=>rfl)
  rw[h.st.1 hf]
  exact this
end
section
variable {c:Ctx} {E:Env} {ops:Array Oper} {Q:Exit→Act→World→Prop}
theorem bSz {e:Ent} {σ σ1:St} (hσ:e.σ=σ) (hst:∀ R all,e.res=some (R,all)→aHj c e.o σ R all)
  (h:match e.res with | none=>σ1=σ.put e.o.dst (.l .und) | some (R,_)=>σ1=R.st.put e.o.dst R.val):σ1=app σ e:=by
 obtain⟨i,o,σe,res⟩:=e
 simp only at hσ hst h
 subst hσ
 cases res with
 |none=>exact h
 |some p=>obtain⟨R,all⟩:=p;rw[bMx (hst R all rfl)];exact h
theorem bU1:∀ {l:List Nat} {σ:St} {es:List Ent} {σ':St} {β:aCr} {a:Act} {w:World},bB7 c E ops l σ es σ'→Rel c σ β a w→E.nt≤a.tmps.size →
  (∀ β' a' w',Rel c σ' β' a' w'→E.nt≤a'.tmps.size→Far c σ β w σ' β' w'→Q .normal a' w')→wpOps c.P ops Q l a w:=by
 intro l
 induction l with
 |nil =>
  intro σ es σ' β a w hrun hr hs hk
  cases es with
  |cons e es=>exact hrun.elim
  |nil =>
   have hrun:σ'=σ:=hrun
   subst hrun
   exact hk β a w hr hs (Far.refl _ _ _ _)
 |cons i l ih =>
  intro σ es σ' β a w hrun hr hs hk
  cases es with
  |nil=>exact hrun.elim
  |cons e es =>
   obtain⟨rfl,ho,hσ,hd,hg,hst,hrest⟩:=hrun
   rw[wpOps_cons]
   refine aP4 ho hr hg (fun R all h=>(hst R all h).here) (fun d h=>Nat.lt_of_lt_of_le (hd d h) hs) fun σ1 β' a' w' h1 hr' hsz hfar=>?_
   have:=bSz hσ hst h1
   subst this
   exact ih hrest hr' (by omega) fun β2 a2 w2 hr2 hs2 hf2=>hk β2 a2 w2 hr2 hs2 (hfar.trans hf2)
def aBq (A:Nat→Bool):List Ent→St→St
 |[],σ=>σ
 |e::l,σ=>aBq A l (if A e.i then app σ e else σ)
def Ent.eff (e:Ent):Bool:=match e.res with | some (R,_)=>R.eff | none=>false
theorem bPy (σ:St) (e:Ent):(app σ e).pins=σ.pins:=by
 unfold app;split
 ·exact (aD0 _ _ _).2.2
 ·exact (aD0 _ _ _).2.2
theorem aIr {σ:St} {e:Ent} (h:e.eff=false):(app σ e).heap=σ.heap∧(app σ e).next=σ.next:=by
 unfold app
 unfold Ent.eff at h
 split
 ·exact⟨(aD0 _ _ _).1,(aD0 _ _ _).2.1⟩
 ·rename_i R all he
  rw[he]at h
  simp only at h
  rw[h]
  exact⟨(aD0 _ _ _).1,(aD0 _ _ _).2.1⟩
theorem aHi {σ σ2:St} {e:Ent} (h:e.eff=true):(app σ e).heap=(app σ2 e).heap∧(app σ e).next=(app σ2 e).next:=by
 unfold app
 unfold Ent.eff at h
 split
 ·rename_i he;rw[he]at h;cases h
 ·rename_i R all he
  rw[he]at h
  simp only at h
  simp only[h,if_true]
  exact⟨by rw[(aD0 _ _ _).1,(aD0 _ _ _).1],by rw[(aD0 _ _ _).2.1,(aD0 _ _ _).2.1]⟩
def Ent.val (e:Ent):W:=match e.res with | none=>.l .und | some (R,_)=>R.val
theorem aXg (σ:St) (e:Ent) (t:Nat):(app σ e).get t=if e.o.dst=some t then e.val else σ.get t:=by
 unfold app Ent.val
 split
 ·rename_i h;(simp only[aIz,h])<;>rfl
 ·rename_i R all h
  (simp only[aIz,h])<;>rfl
theorem aHz (A:Nat→Bool):∀ (l:List Ent) (σ:St),(aBq A l σ).pins=σ.pins
 |[],_=>rfl
 |e::l,σ=>by
  simp only[aBq]
  rw[aHz A l]
  split
  ·exact bPy σ e
  ·rfl
theorem aMh {A B:Nat→Bool} {t:Nat}:∀ (l:List Ent) (σ σ':St),(∀ e,e∈l→e.o.dst=some t→A e.i=B e.i)→σ.get t=σ'.get t→(aBq A l σ).get t=(aBq B l σ').get t
 |[],_,_,_,h=>h
 |e::l,σ,σ',hab,h=>by
  simp only[aBq]
  refine aMh l _ _ (fun e' he'=>hab e' (List.mem_cons_of_mem _ he')) ?_
  by_cases hd:e.o.dst=some t
  ·rw[hab e List.mem_cons_self hd]
   split
   ·rw[aXg,aXg,if_pos hd,if_pos hd]
   ·exact h
  ·have:∀ s:St,(app s e).get t=s.get t:=fun s=>by rw[aXg,if_neg hd]
   split<;>split<;>simp only[this,h]
theorem aGp {A B:Nat→Bool}:∀ (l:List Ent) (σ σ':St),(∀ e,e∈l→e.eff=true→A e.i=B e.i)→σ.heap=σ'.heap→σ.next=σ'.next→(aBq A l σ).heap=(aBq B l σ').heap∧(aBq A l σ).next=(aBq B l σ').next
 |[],_,_,_,h,h'=>⟨h,h'⟩
 |e::l,σ,σ',hab,h,h'=>by
  simp only[aBq]
  cases hf:e.eff with
  |true =>
   have hA:=hab e List.mem_cons_self hf
   rw[hA]
   have:=aHi (σ:=σ) (σ2:=σ') hf
   refine aGp l _ _ (fun e' he'=>hab e' (List.mem_cons_of_mem _ he')) ?_ ?_<;>split<;>first | exact this.1 | exact this.2 | exact h | exact h'
  |false =>
   have h1:=aIr (σ:=σ) hf
   have h2:=aIr (σ:=σ') hf
   refine aGp l _ _ (fun e' he'=>hab e' (List.mem_cons_of_mem _ he')) ?_ ?_<;>split<;>split<;>simp only[h1,h2,h,h']
theorem aUc {A:Nat→Bool} (l:List Ent) (σ:St) (h:∀ e,e∈l→e.eff=true→A e.i=false):(aBq A l σ).heap=σ.heap∧(aBq A l σ).next=σ.next:=by
 have h0:∀ (l:List Ent) (σ:St),aBq (fun _=>false) l σ=σ:=by
  intro l
  induction l with
  |nil=>intro σ;rfl
  |cons e l ih=>intro σ;simp only[aBq];exact ih _
 have:=aGp (A:=A) (B:=fun _=>false) l σ σ h rfl rfl
 rw[h0]at this
 exact this
def bNf:List Ent→St→Prop
 |[],_=>True
 |e::l,σ=>e.σ=σ∧bNf l (app σ e)
def Ent.keeps (e:Ent) (x:Nat):Prop:=∀ R all,e.res=some (R,all)→R.eff=true→R.st.heap.lookup x=e.σ.heap.lookup x
theorem bL6 {e:Ent} {x:Nat} (hf:e.eff=true) (hk:e.keeps x):∀ s:St,(app s e).heap.lookup x=e.σ.heap.lookup x:=by
 intro s
 unfold app
 unfold Ent.eff at hf
 split
 ·rename_i he;rw[he]at hf;cases hf
 ·rename_i R all he
  rw[he]at hf
  simp only at hf
  rw[(aD0 _ _ _).1]
  simp only[hf,if_true]
  exact hk R all he hf
theorem aW9 {B:Nat→Bool} {x:Nat}:∀ (l:List Ent) (σ σB:St),bNf l σ→σB.heap=σ.heap→l.Pairwise (fun p q=>p.eff=true→q.eff=true→B q.i=true→B p.i=true)→(∀ e,e∈l→e.eff=true→B e.i=true→e.keeps x) →
  (aBq B l σB).heap.lookup x=σ.heap.lookup x
 |[],_,_,_,h,_,_=>by simp only[aBq];rw[h]
 |e::l,σ,σB,hc,h,hp,hk=>by
  obtain⟨hσ,hc'⟩:=hc
  obtain⟨hp1,hp2⟩:=List.pairwise_cons.1 hp
  cases hf:e.eff with
  |false =>
   have h1:=aIr (σ:=σ) hf
   have h2:=aIr (σ:=σB) hf
   simp only[aBq]
   rw[aW9 l (app σ e) _ hc' (by split<;>simp only[h1,h2,h]) hp2 (fun e' he'=>hk e' (List.mem_cons_of_mem _ he')),h1.1]
  |true =>
   cases hB:B e.i with
   |true =>
    simp only[aBq,hB,if_true]
    rw[aW9 l (app σ e) _ hc' (aHi hf).1 hp2 (fun e' he'=>hk e' (List.mem_cons_of_mem _ he')),bL6 hf (hk e List.mem_cons_self hf hB),hσ]
   |false =>
    rw[(aUc (e::l) σB (fun e' he' hf'=>?_)).1,h]
    rcases List.mem_cons.1 he' with rfl | he'
    ·exact hB
    ·cases hB':B e'.i with
     |false=>rfl
     |true=>have:=hp1 e' he' hf hf' hB';rw[hB]at this;cases this
theorem aP0 {A B:Nat→Bool} {x:Nat}:∀ (l:List Ent) (σ σA σB:St),bNf l σ→σA.heap=σ.heap→σB.heap=σ.heap →
  l.Pairwise (fun p q=>p.eff=true→q.eff=true→A q.i=true→A p.i=true)→l.Pairwise (fun p q=>p.eff=true→q.eff=true→B q.i=true→B p.i=true) →
  (∀ e,e∈l→e.eff=true→A e.i=true→B e.i=true)→(∀ e,e∈l→e.eff=true→B e.i=true→A e.i=false→e.keeps x)→(aBq A l σA).heap.lookup x=(aBq B l σB).heap.lookup x
 |[],_,_,_,_,h,h',_,_,_,_=>by simp only[aBq];rw[h,h']
 |e::l,σ,σA,σB,hc,h,h',hpA,hpB,hab,hk=>by
  obtain⟨hσ,hc'⟩:=hc
  obtain⟨hA1,hA2⟩:=List.pairwise_cons.1 hpA
  obtain⟨hB1,hB2⟩:=List.pairwise_cons.1 hpB
  have hk':=fun e' he'=>hk e' (List.mem_cons_of_mem e he')
  have hab':=fun e' he'=>hab e' (List.mem_cons_of_mem e he')
  cases hf:e.eff with
  |false =>
   have h1:=aIr (σ:=σ) hf
   have h2:=aIr (σ:=σA) hf
   have h3:=aIr (σ:=σB) hf
   simp only[aBq]
   exact aP0 l (app σ e) _ _ hc' (by split<;>simp only[h1,h2,h]) (by split<;>simp only[h1,h3,h']) hA2 hB2 hab' hk'
  |true =>
   cases hA:A e.i with
   |true =>
    have hB:=hab e List.mem_cons_self hf hA
    simp only[aBq,hA,hB,if_true]
    exact aP0 l (app σ e) _ _ hc' (aHi hf).1 (aHi hf).1 hA2 hB2 hab' hk'
   |false =>
    have nA:∀ e',e'∈e::l→e'.eff=true→A e'.i=false:=fun e' he' hf'=>by
     rcases List.mem_cons.1 he' with rfl | he'
     ·exact hA
     ·cases hA':A e'.i with
      |false=>rfl
      |true=>have:=hA1 e' he' hf hf' hA';rw[hA]at this;cases this
    rw[(aUc (e::l) σA nA).1,h]
    exact (aW9 (e::l) σ σB ⟨hσ,hc'⟩ h' hpB (fun e' he' hf' hB'=>hk e' he' hf' hB' (nA e' he' hf'))).symm
end
section
variable {c:Ctx} {E:Env} {ops:Array Oper} {Q:Exit→Act→World→Prop}
def aEz (acc:List (List Nat)) (o:Oper):List (List Nat) :=
 acc++[((o.after.toList.filter (Region.binds .any)).flatMap fun e=>if e.on<acc.length then e.on::acc.getD e.on []else[]).eraseDups]
theorem bEn:∀ (l:List Oper) (acc:List (List Nat)),(l.foldl aEz acc).length=acc.length+l.length∧(∀ i,i<acc.length→(l.foldl aEz acc).getD i []=acc.getD i []) ∧
  ∀ (k:Nat) (o:Oper),l[k]? =some o→∀ x,x∈(l.foldl aEz acc).getD (acc.length+k) []→∃ e,e∈o.after∧Region.binds .any e=true∧e.on<acc.length+k∧(x=e.on∨x∈(l.foldl aEz acc).getD e.on [])
 |[],acc=>⟨by simp,fun _ _=>rfl,fun k o h=>by simp at h⟩
 |o::l,acc=>by
  obtain⟨h1,h2,h3⟩:=bEn l (aEz acc o)
  have hlen:(aEz acc o).length=acc.length+1:=by simp[aEz]
  simp only[List.foldl_cons]
  have hkeep:∀ i,i<acc.length→(l.foldl aEz (aEz acc o)).getD i []=acc.getD i []:=fun i hi=>by
   rw[h2 i (by omega)]
   simp[aEz,List.getElem?_append_left hi]
  refine⟨by rw[h1,hlen];simp;omega,hkeep,fun k o' hk x hx=>?_⟩
  cases k with
  |succ k =>
   simp only[List.getElem?_cons_succ]at hk
   have e1:acc.length+(k+1)=(aEz acc o).length+k:=by omega
   rw[e1]at hx ⊢
   exact h3 k o' hk x hx
  |zero =>
   simp only[List.getElem?_cons_zero,Option.some.injEq]at hk
   subst hk
   rw[Nat.add_zero,h2 _ (by omega)]at hx
   have e2:(aEz acc o).getD acc.length []=((o.after.toList.filter (Region.binds .any)).flatMap fun e=>if e.on<acc.length then e.on::acc.getD e.on []else[]).eraseDups:=by
    simp[aEz]
   rw[e2,List.mem_eraseDups,List.mem_flatMap]at hx
   obtain⟨e,he,hx⟩:=hx
   obtain⟨he1,he2⟩:=List.mem_filter.1 he
   split at hx
   ·rename_i hlt
    refine⟨e,by simpa using he1,he2,by omega,?_⟩
    rcases List.mem_cons.1 hx with h | h
    ·exact .inl h
    ·exact .inr (by rw[hkeep _ hlt];exact h)
   ·cases hx
theorem aVa {j x:Nat} (hx:x∈(aB4 ops).getD j []):∃ o e,ops[j]? =some o∧e∈o.after∧Region.binds .any e=true∧e.on<j∧(x=e.on∨x∈(aB4 ops).getD e.on []):=by
 obtain⟨h1,_,h3⟩:=bEn ops.toList []
 have e1:aB4 ops=ops.toList.foldl aEz []:=rfl
 rw[e1]at hx ⊢
 cases ho:ops.toList[j]? with
 |none =>
  have:=List.getElem?_eq_none_iff.1 ho
  have hn:(ops.toList.foldl aEz [])[j]? =none:=List.getElem?_eq_none_iff.2 (by rw[h1];simp at this ⊢;exact this)
  rw[List.getD_eq_getElem?_getD,hn]at hx
  cases hx
 |some o =>
  obtain⟨e,he,hb,hlt,hor⟩:=h3 j o ho x (by simpa using hx)
  exact⟨o,e,by simpa using ho,he,hb,by simpa using hlt,hor⟩
theorem bTq:∀ (j:Nat) {x:Nat},x∈(aB4 ops).getD j []→x<j:=by
 intro j
 induction j using Nat.strongRecOn with
 |_ j ih =>
  intro x hx
  obtain⟨o,e,_,_,_,hlt,h | h⟩:=aVa hx
  ·omega
  ·have:=ih e.on hlt h;omega
def aN6 (ops:Array Oper) (A:Nat→Bool):Prop:=∀ (j:Nat) (o:Oper),ops[j]? =some o→A j=true→∀ e,e∈o.after→Region.binds .any e=true→A e.on=true
theorem aGr {A:Nat→Bool} (hc:aN6 ops A):∀ (j:Nat) {x:Nat},A j=true→x∈(aB4 ops).getD j []→A x=true:=by
 intro j
 induction j using Nat.strongRecOn with
 |_ j ih =>
  intro x hj hx
  obtain⟨o,e,ho,he,hb,hlt,h | h⟩:=aVa hx
  ·subst h;exact hc j o ho hj e he hb
  ·exact ih e.on hlt (hc j o ho hj e he hb) h
theorem aQg:∀ {l:List Nat} {σ:St} {es:List Ent} {σ':St},bB7 c E ops l σ es σ'→es.map (·.i)=l∧bNf es σ∧σ'=aBq (fun _=>true) es σ ∧
  ∀ e,e∈es→ops[e.i]? =some e.o∧(∀ d,e.o.dst=some d→d<E.nt)∧aD6 ops e.o e.σ=some e.res.isSome∧∀ R all,e.res=some (R,all)→aHj c e.o e.σ R all:=by
 intro l
 induction l with
 |nil =>
  intro σ es σ' h
  cases es with
  |cons e es=>exact h.elim
  |nil=>exact⟨rfl,trivial,h,fun e he=>by cases he⟩
 |cons i l ih =>
  intro σ es σ' h
  cases es with
  |nil=>exact h.elim
  |cons e es =>
   obtain⟨rfl,ho,hσ,hd,hg,hst,hrest⟩:=h
   obtain⟨i1,i2,i3,i4⟩:=ih hrest
   refine⟨by simp[i1],⟨hσ,i2⟩,by simp only[aBq,if_true];exact i3,fun e' he'=>?_⟩
   rcases List.mem_cons.1 he' with rfl | he'
   ·subst hσ;exact⟨ho,hd,hg,hst⟩
   ·exact i4 e' he'
theorem aF2 {A B:Nat→Bool}:∀ (l:List Ent) (σ:St),(∀ e,e∈l→A e.i=B e.i)→aBq A l σ=aBq B l σ
 |[],_,_=>rfl
 |e::l,σ,h=>by
  simp only[aBq]
  rw[h e List.mem_cons_self]
  exact aF2 l _ fun e' he'=>h e' (List.mem_cons_of_mem _ he')
theorem aGx:∀ (l:List Ent) (σ:St),aBq (fun _=>false) l σ=σ
 |[],_=>rfl
 |e::l,σ=>by simp only[aBq];exact aGx l _
theorem bFs:∀ (es:List Ent) (σ:St),(es.map (·.i)).Pairwise (· < ·)→bNf es σ→∀ e,e∈es→e.σ=aBq (fun j=>decide (j<e.i)) es σ∧app e.σ e=aBq (fun j=>decide (j≤e.i)) es σ
 |[],_,_,_,e,he=>by cases he
 |e0::es,σ,hp,⟨hσ,hc⟩,e,he=>by
  simp only[List.map_cons]at hp
  obtain⟨hp1,hp2⟩:=List.pairwise_cons.1 hp
  have hgt:∀ e',e'∈es→e0.i<e'.i:=fun e' he'=>hp1 _ (List.mem_map.2 ⟨e',he',rfl⟩)
  rcases List.mem_cons.1 he with rfl | he
  ·refine⟨?_,?_⟩
   ·simp only[aBq,Nat.lt_irrefl,decide_false,Bool.false_eq_true,if_false]
    rw[aF2 (B:=fun _=>false) es σ (fun e' he'=>by have:=hgt e' he';simp;omega),aGx,hσ]
   ·simp only[aBq,Nat.le_refl,decide_true,if_true]
    rw[aF2 (B:=fun _=>false) es (app σ e) (fun e' he'=>by have:=hgt e' he';simp;omega),aGx,hσ]
  ·obtain⟨i1,i2⟩:=bFs es (app σ e0) hp2 hc e he
   have:=hgt e he
   refine⟨?_,?_⟩
   ·simp only[aBq,this,decide_true,if_true];exact i1
   ·simp only[aBq,Nat.le_of_lt this,decide_true,if_true];exact i2
theorem bJf {tab:List (List Nat)}:∀ {l:List Ev},bIv tab l=true→l.Pairwise fun e f=>(aDd tab e.at' f.at'||bQs e f)=true
 |[],_=>.nil
 |e::l,h=>by
  simp only[bIv,Bool.and_eq_true]at h
  exact .cons (fun f hf=>List.all_eq_true.1 h.1 f hf) (bJf h.2)
theorem aNz {p:Nat→Bool} {i:Nat}:∀ (l:List Nat),i∈l→p i=true→l.countP (fun j=>p j&&j != i)+1≤l.countP p
 |[],h,_=>by cases h
 |x::l,h,hp=>by
  have mono:l.countP (fun j=>p j&&j != i)≤l.countP p:=List.countP_mono_left fun x _ hx=>by simp only[Bool.and_eq_true]at hx;exact hx.1
  by_cases hx:x=i
  ·subst hx
   rw[List.countP_cons_of_pos hp,List.countP_cons_of_neg (by simp)]
   omega
  ·have hm:i∈l:=by
    rcases List.mem_cons.1 h with h | h
    ·exact absurd h.symm hx
    ·exact h
   have:=aNz l hm hp
   cases hpx:p x with
   |true=>rw[List.countP_cons_of_pos hpx,List.countP_cons_of_pos (by simp[hpx,hx])];omega
   |false=>rw[List.countP_cons_of_neg (by simp[hpx]),List.countP_cons_of_neg (by simp[hpx])];omega
structure bNg (σ σ':St):Prop where
 get:∀ t,σ.get t=σ'.get t
 heap:σ.heap=σ'.heap
 next:σ.next=σ'.next
 pins:σ.pins=σ'.pins
theorem bNg.rel {σ σ':St} (h:bNg σ σ') {β:aCr} {a:Act} {w:World} (hr:Rel c σ β a w):Rel c σ' β a w:=by
 obtain⟨h1,h2,h3,h4⟩:=h
 obtain⟨r1,r2,r3,r4,r5⟩:=hr
 rw[h2,h3]at r1
 exact⟨r1,fun t=>by have:=r2 t;rw[h1,h2,h3]at this;exact this,r3,fun j id hj=>by rw[←h4]at hj;have:=r4 j id hj;rw[h2,h3]at this;exact this,by rw[←h4];exact r5⟩
theorem bNg.far {σ0 σ σ':St} (h:bNg σ σ') {β β':aCr} {w w':World} (hf:Far c σ0 β w σ β' w'):Far c σ0 β w σ' β' w':=by
 obtain⟨h1,h2,h3,h4⟩:=h
 obtain⟨f1,f2,f3,f4⟩:=hf
 rw[h2,h3]at f1
 rw[h4]at f2
 exact⟨f1,f2,fun id cells hl=>by have:=f3 id cells hl;rw[h2]at this;exact this,fun id x hp hl hx=>by have:=f4 id x hp hl hx;rw[h2]at this;exact this⟩
end
section
variable {c:Ctx} {E:Env} {ops:Array Oper} {Q:Exit→Act→World→Prop}
theorem aM2 {tab:List (List Nat)} (h:aHv ops tab=true) {i j:Nat} {x y:Oper} (hi:ops[i]? =some x) (hj:ops[j]? =some y) (hlt:i<j):aDd tab i j=true∨x.apart ops y=true:=by
 simp only[aHv,Bool.and_eq_true]at h
 have mem:∀ {k:Nat} {z:Oper},ops[k]? =some z→(z,k)∈ops.toList.zipIdx:=fun {k z} hk=>by
  rw[List.mem_zipIdx_iff_getElem?]
  simpa using hk
 have:=List.all_eq_true.1 (List.all_eq_true.1 h.1 _ (mem hi)) _ (mem hj)
 simp only[hlt,decide_true,Bool.not_true,Bool.false_or,Bool.or_eq_true]at this
 exact this
theorem aQ7 {tab:List (List Nat)} (h:aHv ops tab=true) {j:Nat} {y:Oper} (hj:ops[j]? =some y) {e:Edge} (he:e∈y.after) (hb:Region.binds .any e=true):e.on<j:=by
 simp only[aHv,Bool.and_eq_true]at h
 have mem:(y,j)∈ops.toList.zipIdx:=by
  rw[List.mem_zipIdx_iff_getElem?]
  simpa using hj
 have:=List.all_eq_true.1 (List.all_eq_true.1 h.2 _ mem) e (by simpa using he)
 simpa[hb]using this
theorem aGn {i j:Nat} (hlt:i<j) (h:aDd (aB4 ops) i j=true):i∈(aB4 ops).getD j []:=by
 simp only[aDd,Bool.or_eq_true,List.contains_iff_mem]at h
 rcases h with h | h
 ·exact h
 ·have:=bTq _ h;omega
theorem bOv {o:Oper} {t:Tmp} (h:Operand.tmp t∈o.op.operands):t∈o.looksAt ops :=
 List.mem_append_left _ (List.mem_filterMap.2 ⟨.tmp t,by simpa using h,rfl⟩)
theorem bM3 {σ σ2:St} {x:Operand} (h:∀ t,x=.tmp t→σ2.get t=σ.get t):σ2.ev x=σ.ev x:=by
 cases x with
 |tmp t=>exact h t rfl
 |_=>rfl
theorem bAn {o:Oper} {σ σ2:St} (h:∀ t,t∈o.looksAt ops→σ2.get t=σ.get t):aD6 ops o σ2=aD6 ops o σ:=by
 unfold aD6
 cases hg:o.guard with
 |none=>rfl
 |some p =>
  obtain⟨g,b⟩:=p
  simp only[]
  cases hd:(ops[g]?).bind (·.dst)with
  |none=>rfl
  |some d =>
   simp only[]
   rw[h d (List.mem_append_right _ (by simp[hg,hd]))]
structure Inv (c:Ctx) (E:Env) (ops:Array Oper) (es:List Ent) (σ0:St) (β:aCr) (w:World) (listed:Array Bool) (a':Act) (w':World):Prop where
 size:listed.size=ops.size
 closed:aN6 ops fun i=>listed.getD i false
 nt:E.nt≤a'.tmps.size
 rel:∃ β',Rel c (aBq (fun i=>listed.getD i false) es σ0) β' a' w'∧Far c σ0 β w (aBq (fun i=>listed.getD i false) es σ0) β' w'
theorem aCs {l:Array Bool} {i:Nat} (hi:i<l.size) (d d':Bool):l.getD i d=l.getD i d':=by
 simp[Array.getD_eq_getD_getElem?,hi]
structure bW3 (c:Ctx) (E:Env) (ops:Array Oper) (es:List Ent) (σ0:St) (listed:Array Bool) (i:Nat) (e:Ent):Prop where
 mem:e∈es
 at':e.i=i
 op:ops[i]? =some e.o
 dst:∀ d,e.o.dst=some d→d<E.nt
 gd:aD6 ops e.o (aBq (fun i=>listed.getD i false) es σ0)=some e.res.isSome
 st:∀ R all,e.res=some (R,all)→aHj c e.o e.σ R all
 hev:∀ x,x∈e.o.op.operands→(aBq (fun i=>listed.getD i false) es σ0).ev x=e.σ.ev x
 keys:e.eff=false→∀ R all,e.res=some (R,all)→∀ id,id∈Op.keys e.σ e.o.op→(aBq (fun i=>listed.getD i false) es σ0).heap.lookup id=e.σ.heap.lookup id
 hh:e.eff=true→(aBq (fun i=>listed.getD i false) es σ0).heap=e.σ.heap∧(aBq (fun i=>listed.getD i false) es σ0).next=e.σ.next
 pins:(aBq (fun i=>listed.getD i false) es σ0).pins=e.σ.pins
 closed:aN6 ops fun j=>(listed.setIfInBounds i true).getD j false
 alike:∀ σ1:St,(∀ t,σ1.get t=if e.o.dst=some t then e.val else (aBq (fun i=>listed.getD i false) es σ0).get t)→σ1.heap=(if e.eff then (app e.σ e).heap else (aBq (fun i=>listed.getD i false) es σ0).heap)→σ1.next=(if e.eff then (app e.σ e).next else (aBq (fun i=>listed.getD i false) es σ0).next)→σ1.pins=(aBq (fun i=>listed.getD i false) es σ0).pins →
  bNg σ1 (aBq (fun j=>(listed.setIfInBounds i true).getD j false) es σ0)
theorem bLi {es:List Ent} {σ0 σN:St} (hstat:aHv ops (aB4 ops)=true) (hrun:bB7 c E ops (List.range ops.size) σ0 es σN) (htr:bIv (aB4 ops) (es.filterMap Ent.ev?).reverse=true)
  {listed:Array Bool} (hsize:listed.size=ops.size) (hclo:aN6 ops fun i=>listed.getD i false) {i:Nat} (hi:i∈Region.ready .any ops listed):∃ e,bW3 c E ops es σ0 listed i e:=by
 obtain⟨hun,o,ho,hdeps⟩:=mem_ready.1 hi
 have hin:i<ops.size:=(Array.getElem?_eq_some_iff.1 ho).1
 obtain⟨f1,f2,f3,f4⟩:=aQg hrun
 have hpw:(es.map (·.i)).Pairwise (· < ·):=by rw[f1];exact List.pairwise_lt_range
 -- the entry
 obtain⟨e,he,hei⟩:∃ e,e∈es∧e.i=i:=by
  have:i∈es.map (·.i):=by rw[f1];exact List.mem_range.2 hin
  obtain⟨e,he,h⟩:=List.mem_map.1 this
  exact⟨e,he,h⟩
 obtain⟨g1,g2,g3,g4⟩:=f4 e he
 have hoe:o=e.o:=by rw[hei,ho]at g1;exact Option.some.inj g1
 subst hoe
 obtain⟨c1,c2⟩:=bFs es σ0 hpw f2 e he
 rw[hei]at c1 c2
 have hAi:listed.getD i false=false:=by rw[aCs (by rw[hsize];exact hin) false true];exact hun
 have hA':∀ j,(listed.setIfInBounds i true).getD j false=if j=i then true else listed.getD j false:=fun j=>by
  by_cases hj:j=i
  ·subst hj;rw[if_pos rfl];simp[hsize,hin]
  ·rw[if_neg hj];exact getD_set_ne false (fun e=>hj e.symm)
 -- what is ahead of i is listed,what is behind it is not
 have ahead:∀ j,j<i→aDd (aB4 ops) j i=true→listed.getD j false=true:=fun j hlt hord=>by
  obtain⟨o',ed,ho',hed,hb,hlt',h | h⟩:=aVa (aGn hlt hord)
  ·rw[ho]at ho'
   obtain rfl:=Option.some.inj ho'
   rw[h];exact hdeps ed hed hb
  ·rw[ho]at ho'
   obtain rfl:=Option.some.inj ho'
   exact aGr hclo ed.on (hdeps ed hed hb) h
 have behind:∀ j,i<j→aDd (aB4 ops) i j=true→listed.getD j false=false:=fun j hlt hord=>by
  cases hj:listed.getD j false with
  |false=>rfl
  |true=>have:=aGr hclo j hj (aGn hlt hord);rw[hAi]at this;cases this
 have effOrd:∀ e1 e2,e1∈es→e2∈es→e1.i<e2.i→(aDd (aB4 ops) e2.i e1.i=true∨∀ v1 v2,e1.ev? =some v1→e2.ev? =some v2→bQs v2 v1=true):=by
  intro e1 e2 h1 h2 hlt
  have hp:=bJf htr
  rw[List.pairwise_reverse,List.pairwise_filterMap]at hp
  have hes:es.Pairwise fun p q=>p.i<q.i:=List.pairwise_map.1 hpw
  -- the pair stands in the list
  have key:∀ (l:List Ent),l.Pairwise (fun p q=>p.i<q.i)→l.Pairwise (fun p q=>∀ b,p.ev? =some b→∀ b',q.ev? =some b'→(aDd (aB4 ops) b'.at' b.at'||bQs b' b)=true)→e1∈l→e2∈l →
    ∀ v1 v2,e1.ev? =some v1→e2.ev? =some v2→(aDd (aB4 ops) v2.at' v1.at'||bQs v2 v1)=true:=by
   intro l
   induction l with
   |nil=>intro _ _ h;cases h
   |cons x l ih =>
    intro q1 q2 h1 h2 v1 v2 hv1 hv2
    obtain⟨q11,q12⟩:=List.pairwise_cons.1 q1
    obtain⟨q21,q22⟩:=List.pairwise_cons.1 q2
    rcases List.mem_cons.1 h1 with rfl | m1
    ·rcases List.mem_cons.1 h2 with m2 | m2
     ·subst m2;omega
     ·exact q21 e2 m2 v1 hv1 v2 hv2
    ·rcases List.mem_cons.1 h2 with rfl | m2
     ·have:=q11 e1 m1;omega
     ·exact ih q12 q22 m1 m2 v1 v2 hv1 hv2
  have at':∀ (e:Ent) (v:Ev),e.ev? =some v→v.at'=e.i:=fun e v hv=>by
   unfold Ent.ev? at hv
   cases hr:e.res with
   |none=>rw[hr]at hv;cases hv
   |some p=>rw[hr]at hv;obtain rfl:=Option.some.inj hv;rfl
  cases hor:aDd (aB4 ops) e2.i e1.i with
  |true=>exact .inl rfl
  |false =>
   refine .inr fun v1 v2 hv1 hv2=>?_
   have:=key es hes (hp.imp fun {p q} h b hb b' hb'=>by simpa using h b hb b' hb') h1 h2 v1 v2 hv1 hv2
   rw[at' e1 v1 hv1,at' e2 v2 hv2,hor]at this
   simpa using this
 have symO:∀ i j,aDd (aB4 ops) i j=aDd (aB4 ops) j i:=fun i j=>by simp only[aDd];exact Bool.or_comm _ _
 have evEff:∀ (e:Ent),e.eff=true→∃ R all,e.res=some (R,all)∧R.eff=true:=fun e hf=>by
  unfold Ent.eff at hf
  cases hr:e.res with
  |none=>rw[hr]at hf;cases hf
  |some p=>rw[hr]at hf;exact⟨p.1,p.2,rfl,hf⟩
 -- two effects are aDd
 have effPair:∀ e1 e2,e1∈es→e2∈es→e1.i<e2.i→e1.eff=true→e2.eff=true→aDd (aB4 ops) e1.i e2.i=true:=fun e1 e2 h1 h2 hlt hf1 hf2=>by
  obtain⟨R1,a1,hr1,hR1⟩:=evEff e1 hf1
  obtain⟨R2,a2,hr2,hR2⟩:=evEff e2 hf2
  rcases effOrd e1 e2 h1 h2 hlt with h | h
  ·rw[symO];exact h
  ·have:=h _ _ (by simp only[Ent.ev?,hr1];rfl) (by simp only[Ent.ev?,hr2];rfl)
   simp[bQs,hR1,hR2]at this
 have pref:∀ (A:Nat→Bool),aN6 ops A→es.Pairwise fun p q=>p.eff=true→q.eff=true→A q.i=true→A p.i=true:=fun A hA=>by
  have hes:es.Pairwise fun p q=>p.i<q.i:=List.pairwise_map.1 hpw
  exact hes.imp_of_mem fun {p q} hp hq hlt hpf hqf hAq=>aGr hA q.i hAq (aGn hlt (effPair p q hp hq hlt hpf hqf))
 -- writers of what i looks at
 have looks:∀ t,t∈e.o.looksAt ops→(aBq (fun i=>listed.getD i false) es σ0).get t=e.σ.get t:=fun t ht=>by
  rw[c1]
  refine aMh es σ0 σ0 (fun e' he' hd=>?_) rfl
  have ho':=(f4 e' he').1
  by_cases hlt:e'.i<i
  ·simp only[hlt,decide_true]
   rcases aM2 hstat ho' ho hlt with h | h
   ·exact ahead _ hlt h
   ·exact absurd ht ((Oper.apart_spec h).1 t hd)
  ·simp only[hlt,decide_false]
   by_cases hEq:e'.i=i
   ·rw[hEq];exact hAi
   ·have hgt:i<e'.i:=by omega
    rcases aM2 hstat ho ho' hgt with h | h
    ·exact behind _ hgt h
    ·exact absurd ht ((Oper.apart_spec h).2.2 t hd)
 have hev:∀ x,x∈e.o.op.operands→(aBq (fun i=>listed.getD i false) es σ0).ev x=e.σ.ev x:=fun x hx=>bM3 fun t ht=>looks t (bOv (by rw[←ht];exact hx))
 have hg:aD6 ops e.o (aBq (fun i=>listed.getD i false) es σ0)=some e.res.isSome:=by rw[bAn looks];exact g3
 -- memory,where i has an effect
 have effHeap:e.eff=true→∀ e',e'∈es→e'.eff=true→listed.getD e'.i false=decide (e'.i<i):=fun hf e' he' hf'=>by
  by_cases hlt:e'.i<i
  ·simp only[hlt,decide_true]
   exact ahead _ hlt (hei▸effPair e' e he' he (hei.symm▸hlt) hf' hf)
  ·simp only[hlt,decide_false]
   by_cases hEq:e'.i=i
   ·rw[hEq];exact hAi
   ·have hgt:i<e'.i:=by omega
    exact behind _ hgt (hei▸effPair e e' he he' (hei.symm▸hgt) hf hf')
 -- what i looks at in memory,where it has none
 have keys:e.eff=false→∀ R all,e.res=some (R,all)→∀ id,id∈Op.keys e.σ e.o.op→(aBq (fun i=>listed.getD i false) es σ0).heap.lookup id=e.σ.heap.lookup id:=fun hf R all hres id hid=>by
  have hRf:R.eff=false:=by unfold Ent.eff at hf;rw[hres]at hf;exact hf
  have hlt0:aN6 ops fun j=>decide (j<i):=fun j o' ho' hj ed hed hb=>by
   have:=aQ7 hstat ho' hed hb
   simp at hj ⊢;omega
  -- an effect that is on one side alone
  have single:∀ e',e'∈es→e'.eff=true→listed.getD e'.i false≠decide (e'.i<i)→e'.keeps id:=fun e' he' hf' hne=>by
   have hneq:e'.i≠i:=fun h=>by rw[h,hAi]at hne;simp at hne
   obtain⟨R',all',hr',hR'⟩:=evEff e' hf'
   intro R2 all2 hr2 _
   rw[hr']at hr2
   obtain⟨rfl,rfl⟩:R'=R2∧all'=all2:=by simpa using hr2
   have kp:=(f4 e' he').2.2.2 R' all' hr'
   have fin:(decide (id<e'.σ.next)&& !all'&& !R'.touched.contains id)=true→R'.st.heap.lookup id=e'.σ.heap.lookup id:=fun h=>by
    simp only[Bool.and_eq_true,decide_eq_true_eq,Bool.not_eq_true']at h
    exact kp.keep h.1.2 id h.1.1 (by simpa using h.2)
   by_cases hlt:e'.i<i
   ·rcases effOrd e' e he' he (hei.symm▸hlt)with h | h
    ·exact absurd (ahead _ hlt (by rw[symO,←hei];exact h)) (by simpa[hlt]using hne)
    ·have:=h _ _ (by simp only[Ent.ev?,hr'];rfl) (by simp only[Ent.ev?,hres];rfl)
     simp only[bQs,hRf,hR']at this
     exact fin (List.all_eq_true.1 this id hid)
   ·have hgt:i<e'.i:=by omega
    rcases effOrd e e' he he' (hei.symm▸hgt)with h | h
    ·exact absurd (behind _ hgt (by rw[symO,←hei];exact h)) (by simpa[hlt]using hne)
    ·have:=h _ _ (by simp only[Ent.ev?,hres];rfl) (by simp only[Ent.ev?,hr'];rfl)
     simp only[bQs,hRf,hR']at this
     exact fin (List.all_eq_true.1 this id hid)
  rw[c1]
  have pA:=pref _ hclo
  have pB:=pref _ hlt0
  by_cases hall:∀ e',e'∈es→e'.eff=true→listed.getD e'.i false=true→decide (e'.i<i)=true
  ·exact aP0 es σ0 σ0 σ0 f2 rfl rfl pA pB hall fun e' he' hf' hB hA=>single e' he' hf' (by rw[hA,hB];simp)
  ·refine (aP0 es σ0 σ0 σ0 f2 rfl rfl pB pA (fun e' he' hf' hB=>?_) fun e' he' hf' hA hB=>single e' he' hf' (by rw[hA,hB];simp)).symm
   -- one is listed behind i:all effects ahead of i are
   simp only[Classical.not_forall]at hall
   obtain⟨q,hq,hqf,hqA,hqB⟩:=hall
   have hB':e'.i<i:=by simpa using hB
   have hq':¬q.i<i:=by simpa using hqB
   exact aGr hclo q.i hqA (aGn (by omega) (effPair e' q he' hq (by omega) hf' hqf))
 -- the step
 let σ2:=aBq (fun i=>listed.getD i false) es σ0
 have hpins:σ2.pins=e.σ.pins:=by rw[c1];simp only[σ2];rw[aHz,aHz]
 have closed':aN6 ops fun j=>(listed.setIfInBounds i true).getD j false:=fun j o' ho' hj ed hed hb=>by
  simp only[hA']at hj ⊢
  split
  ·rfl
  ·by_cases hji:j=i
   ·subst hji
    rw[ho]at ho'
    obtain rfl:=Option.some.inj ho'
    exact hdeps ed hed hb
   ·rw[if_neg hji]at hj
    exact hclo j o' ho' hj ed hed hb
 have getNew:∀ t,(aBq (fun j=>(listed.setIfInBounds i true).getD j false) es σ0).get t=if e.o.dst=some t then e.val else σ2.get t:=fun t=>by
  split
  ·rename_i hdt
   have:(aBq (fun j=>(listed.setIfInBounds i true).getD j false) es σ0).get t=(aBq (fun j=>decide (j≤i)) es σ0).get t:=by
    refine aMh es σ0 σ0 (fun e' he' hd=>?_) rfl
    have ho':=(f4 e' he').1
    simp only[hA']
    by_cases hEq:e'.i=i
    ·rw[if_pos hEq];simp[hEq]
    ·rw[if_neg hEq]
     by_cases hlt:e'.i<i
     ·have:e'.i≤i:=by omega
      simp only[this,decide_true]
      rcases aM2 hstat ho' ho hlt with h | h
      ·exact ahead _ hlt h
      ·exact absurd hdt ((Oper.apart_spec h).2.1 t hd)
     ·have hgt:i<e'.i:=by omega
      have:¬e'.i≤i:=by omega
      simp only[this,decide_false]
      rcases aM2 hstat ho ho' hgt with h | h
      ·exact behind _ hgt h
      ·exact absurd hd ((Oper.apart_spec h).2.1 t hdt)
   rw[this,←c2,aXg,if_pos hdt]
  ·rename_i hdt
   refine aMh es σ0 σ0 (fun e' he' hd=>?_) rfl
   simp only[hA']
   rw[if_neg]
   intro hEq
   have ho':=(f4 e' he').1
   rw[hEq,ho]at ho'
   have:e'.o=e.o:=(Option.some.inj ho').symm
   rw[this]at hd
   exact hdt hd
 have heapNew:(aBq (fun j=>(listed.setIfInBounds i true).getD j false) es σ0).heap=(if e.eff then (app e.σ e).heap else σ2.heap)∧(aBq (fun j=>(listed.setIfInBounds i true).getD j false) es σ0).next=(if e.eff then (app e.σ e).next else σ2.next):=by
  cases hf:e.eff with
  |true =>
   simp only[if_true]
   rw[c2]
   refine aGp es σ0 σ0 (fun e' he' hf'=>?_) rfl rfl
   simp only[hA']
   by_cases hEq:e'.i=i
   ·rw[if_pos hEq];simp[hEq]
   ·rw[if_neg hEq,effHeap hf e' he' hf']
    by_cases hlt:e'.i<i
    ·simp[hlt,Nat.le_of_lt hlt]
    ·have:¬e'.i≤i:=by omega
     simp[hlt,this]
  |false =>
   simp only[Bool.false_eq_true,if_false]
   refine aGp es σ0 σ0 (fun e' he' hf'=>?_) rfl rfl
   simp only[hA']
   rw[if_neg]
   intro hEq
   have ho':=(f4 e' he').1
   have:e'=e:=by
    have hes:es.Pairwise fun p q=>p.i<q.i:=List.pairwise_map.1 hpw
    have key:∀ (l:List Ent),l.Pairwise (fun p q=>p.i<q.i)→e'∈l→e∈l→e'=e:=by
     intro l
     induction l with
     |nil=>intro _ h;cases h
     |cons x l ih =>
      intro q1 h1 h2
      obtain⟨q11,q12⟩:=List.pairwise_cons.1 q1
      rcases List.mem_cons.1 h1 with rfl | m1
      ·rcases List.mem_cons.1 h2 with m2 | m2
       ·exact m2.symm
       ·have:=q11 e m2;omega
      ·rcases List.mem_cons.1 h2 with rfl | m2
       ·have:=q11 e' m1;omega
       ·exact ih q12 m1 m2
    exact key es hes he' he
   rw[this,hf]at hf'
   cases hf'
 refine⟨e,he,hei,by rw[←hei];exact g1,g2,hg,g4,hev,keys,fun hef=>?_,hpins,closed',fun σ1 s1 s2 s3 s4=>⟨fun t=>by rw[s1,getNew],by rw[s2,heapNew.1],by rw[s3,heapNew.2],by rw[s4];rw[aHz,aHz]⟩⟩
 have hh:=aGp (A:=fun i=>listed.getD i false) (B:=fun j=>decide (j<i)) es σ0 σ0 (effHeap hef) rfl rfl
 rw[←c1]at hh
 exact hh
theorem bFf {es:List Ent} {σ0 σN:St} {β:aCr} {w:World} (hstat:aHv ops (aB4 ops)=true) (hrun:bB7 c E ops (List.range ops.size) σ0 es σN) (htr:bIv (aB4 ops) (es.filterMap Ent.ev?).reverse=true)
  {listed:Array Bool} {a':Act} {w':World} (hinv:Inv c E ops es σ0 β w listed a' w') {i:Nat} (hi:i∈Region.ready .any ops listed) {next:Act→World→Prop}
  (hn:∀ a2 w2,Inv c E ops es σ0 β w (listed.setIfInBounds i true) a2 w2→next a2 w2):wpOp c.P ops Q i next a' w':=by
 obtain⟨β',hr,hfar⟩:=hinv.rel
 obtain⟨e,he⟩:=bLi hstat hrun htr hinv.size hinv.closed hi
 have ho:=he.op
 have hg:=he.gd
 have hev:=he.hev
 let σ2:=aBq (fun i=>listed.getD i false) es σ0
 have hpins:σ2.pins=e.σ.pins:=he.pins
 have hdst:∀ d,e.o.dst=some d→d<a'.tmps.size:=fun d hd=>Nat.lt_of_lt_of_le (he.dst d hd) hinv.nt
 have finish:∀ {σ1:St} {β2:aCr} {a2:Act} {w2:World},(∀ t,σ1.get t=if e.o.dst=some t then e.val else σ2.get t)→σ1.heap=(if e.eff then (app e.σ e).heap else σ2.heap)→σ1.next=(if e.eff then (app e.σ e).next else σ2.next)→σ1.pins=σ2.pins →
   Rel c σ1 β2 a2 w2→a2.tmps.size=a'.tmps.size→Far c σ2 β' w' σ1 β2 w2→next a2 w2:=fun {σ1 β2 a2 w2} s1 s2 s3 s4 hr2 hsz hf2=>by
  have al:=he.alike σ1 s1 s2 s3 s4
  exact hn a2 w2 ⟨by simp[hinv.size],he.closed,by rw[hsz];exact hinv.nt,β2,al.rel hr2,al.far (hfar.trans hf2)⟩
 cases hres:e.res with
 |none =>
  refine aP4 (σ:=σ2) (res:=none) ho hr (by rw[hg,hres]) (fun R all h=>by cases h) hdst fun σ1 β2 a2 w2 hs1 hr2 hsz hf2=>?_
  have hs1:σ1=σ2.put e.o.dst (.l .und):=hs1
  subst hs1
  obtain⟨p1,p2,p3⟩:=aD0 σ2 e.o.dst (.l .und)
  have hf:e.eff=false:=by simp[Ent.eff,hres]
  exact finish (fun t=>by rw[aIz];simp[Ent.val,hres]) (by rw[p1,hf];rfl) (by rw[p2,hf];rfl) p3 hr2 hsz hf2
 |some p =>
  obtain⟨R,all⟩:=p
  have hst:=he.st R all hres
  cases hf:R.eff with
  |true =>
   have hef:e.eff=true:=by simp[Ent.eff,hres,hf]
   have hh:=he.hh hef
   have hσ2:({e.σ with slots:=σ2.slots}:St)=σ2:=by
    have gen:∀ (s t:St),s.heap=t.heap→s.next=t.next→t.pins=s.pins→({s with slots:=t.slots}:St)=t:=by
     rintro⟨_,_,_,_⟩ ⟨_,_,_,_⟩ h1 h2 h3
     simp only at h1 h2 h3
     subst h1;subst h2;subst h3
     rfl
    exact gen e.σ σ2 hh.1.symm hh.2.symm hpins
   have hstep:=hst.eff hf σ2.slots (by rw[hσ2];exact hev)
   rw[hσ2]at hstep
   refine aP4 (σ:=σ2) (res:=some (aJo σ2.slots R,all)) ho hr (by rw[hg,hres];rfl) (fun R' all' h=>by
    obtain⟨rfl,rfl⟩:aJo σ2.slots R=R'∧all=all':=by simpa using h
    exact hstep) hdst fun σ1 β2 a2 w2 hs1 hr2 hsz hf2=>?_
   have hs1:σ1=(aJo σ2.slots R).st.put e.o.dst (aJo σ2.slots R).val:=hs1
   subst hs1
   obtain⟨p1,p2,p3⟩:=aD0 (aJo σ2.slots R).st e.o.dst (aJo σ2.slots R).val
   have happ:(app e.σ e).heap=R.st.heap∧(app e.σ e).next=R.st.next:=by
    simp only[app,hres]
    obtain⟨q1,q2,_⟩:=aD0 ({slots:=e.σ.slots,heap:=if R.eff then R.st.heap else e.σ.heap,next:=if R.eff then R.st.next else e.σ.next,pins:=e.σ.pins}:St) e.o.dst R.val
    rw[q1,q2]
    simp[hf]
   refine finish (fun t=>?_) (by rw[p1,hef];simp only[if_true];rw[happ.1];rfl) (by rw[p2,hef];simp only[if_true];rw[happ.2];rfl) (by rw[p3];show R.st.pins=_;rw[hst.st.2.2,hpins]) hr2 hsz hf2
   rw[aIz]
   simp only[Ent.val,hres]
   rfl
  |false =>
   have hef:e.eff=false:=by simp[Ent.eff,hres,hf]
   have hag:aNg e.o.op=false→∀ x,x∈e.o.op.operands→aMp e.σ σ2 (e.σ.ev x):=fun hstill x hx id hid=>he.keys hef R all hres id (by unfold Op.keys;rw[hstill];exact List.mem_flatMap.2 ⟨x,by simpa using hx,hid⟩)
   have hstep:=hst.pure hf σ2 hev hag
   refine aP4 (σ:=σ2) (res:=some (aBe σ2 R.val,all)) ho hr (by rw[hg,hres];rfl) (fun R' all' h=>by
    obtain⟨rfl,rfl⟩:aBe σ2 R.val=R'∧all=all':=by simpa using h
    exact hstep) hdst fun σ1 β2 a2 w2 hs1 hr2 hsz hf2=>?_
   have hs1:σ1=σ2.put e.o.dst R.val:=hs1
   subst hs1
   obtain⟨p1,p2,p3⟩:=aD0 σ2 e.o.dst R.val
   refine finish (fun t=>by rw[aIz];simp[Ent.val,hres]) (by rw[p1,hef];rfl) (by rw[p2,hef];rfl) p3 hr2 hsz hf2
theorem bPo {es:List Ent} {σ0 σN:St} {β:aCr} {w:World} (hstat:aHv ops (aB4 ops)=true) (hrun:bB7 c E ops (List.range ops.size) σ0 es σN) (htr:bIv (aB4 ops) (es.filterMap Ent.ev?).reverse=true)
  (hk:∀ β' a' w',Rel c σN β' a' w'→E.nt≤a'.tmps.size→Far c σ0 β w σN β' w'→Q .normal a' w') :
  ∀ (fuel:Nat) (listed:Array Bool) (a':Act) (w':World),Inv c E ops es σ0 β w listed a' w'→(List.range ops.size).countP (fun j=> !(listed.getD j false))≤fuel→wpAny c.P .any ops Q fuel listed a' w':=by
 obtain⟨f1,f2,f3,f4⟩:=aQg hrun
 have all:∀ {listed:Array Bool} {a':Act} {w':World},Inv c E ops es σ0 β w listed a' w'→(∀ j,j<ops.size→listed.getD j false=true)→Q .normal a' w':=fun {listed a' w'} hinv h=>by
  obtain⟨β',hr,hfar⟩:=hinv.rel
  have:aBq (fun i=>listed.getD i false) es σ0=σN:=by
   rw[f3]
   refine aF2 es σ0 fun e he=>h e.i ?_
   have:e.i∈es.map (·.i):=List.mem_map.2 ⟨e,he,rfl⟩
   rw[f1]at this
   exact List.mem_range.1 this
  rw[this]at hr hfar
  exact hk β' a' w' hr hinv.nt hfar
 have none:∀ {listed:Array Bool},listed.size=ops.size→Region.ready .any ops listed=[]→∀ j,j<ops.size→listed.getD j false=true:=fun {listed} hsz hr j=>by
  induction j using Nat.strongRecOn with
  |_ j ih =>
   intro hj
   cases hl:listed.getD j false with
   |true=>rfl
   |false =>
    exfalso
    have:j∈Region.ready .any ops listed:=mem_ready.2 ⟨by rw[aCs (by omega) true false];exact hl,ops[j],Array.getElem?_eq_getElem hj,fun e he hb=>by
     have:=aQ7 hstat (Array.getElem?_eq_getElem hj) he hb
     exact ih e.on this (by omega)⟩
    rw[hr]at this
    cases this
 intro fuel
 induction fuel with
 |zero =>
  intro listed a' w' hinv hc
  have h:∀ j,j<ops.size→listed.getD j false=true:=fun j hj=>by
   have:=List.countP_eq_zero.1 (Nat.le_zero.1 hc) j (List.mem_range.2 hj)
   simpa using this
  refine⟨?_,all hinv h⟩
  cases hr:Region.ready .any ops listed with
  |nil=>rfl
  |cons i r =>
   exfalso
   have hi:i∈Region.ready .any ops listed:=by rw[hr];exact List.mem_cons_self
   obtain⟨hun,o,ho,_⟩:=mem_ready.1 hi
   have hin:i<ops.size:=(Array.getElem?_eq_some_iff.1 ho).1
   have:=h i hin
   rw[aCs (by rw[hinv.size];exact hin) false true,hun]at this
   cases this
 |succ fuel ih =>
  intro listed a' w' hinv hc
  refine⟨fun hr=>all hinv (none hinv.size hr),fun i hi=>bFf hstat hrun htr hinv hi fun a2 w2 hinv2=>ih _ a2 w2 hinv2 ?_⟩
  obtain⟨hun,o,ho,_⟩:=mem_ready.1 hi
  have hin:i<ops.size:=(Array.getElem?_eq_some_iff.1 ho).1
  have hAi:listed.getD i false=false:=by rw[aCs (by rw[hinv.size];exact hin) false true];exact hun
  have:=aNz (p:=fun j=> !(listed.getD j false)) (List.range ops.size) (List.mem_range.2 hin) (by simp only[hAi];rfl)
  have e:(fun j=> !((listed.setIfInBounds i true).getD j false))=fun j=> !(listed.getD j false)&&j != i:=by
   funext j
   by_cases hj:j=i
   ·subst hj;simp[hinv.size,hin]
   ·rw[getD_set_ne false (fun e=>hj e.symm)];simp[hj]
  rw[e]
  omega
end
def Ctx.gho (c:Ctx) (gh:Nat→Option Obj) (hge:∀ b o,gh b=some o→c.w0.heap.size≤b):Ctx:={c with gh:=gh,ghge:=hge}
section
variable {c:Ctx} {w:World} {gh gh':Nat→Option Obj} {hge:∀ b o,gh b=some o→c.w0.heap.size≤b} {hge':∀ b o,gh' b=some o→c.w0.heap.size≤b}
theorem aQu {h:aCq} {β:aCr} {b:Nat} (hb:gh b=gh' b) (hk:okD (c.gho gh hge) h β b):okD (c.gho gh' hge') h β b :=
 ⟨hk.1.imp id fun h=>⟨h.1,by rw[show (c.gho gh' hge').gh b=gh' b from rfl,←hb];exact h.2⟩,hk.2⟩
theorem bSb {h:aCq} {β:aCr} {b:Nat} {o:Obj} (hb:gh b=some o):¬okD (c.gho gh hge) h β b:=fun hk=>by
 rcases hk.1 with h | h
 ·have h1:=(c.old b h).1
  have h2:=hge b o hb
  omega
 ·have:gh b=none:=h.2
  rw[hb]at this;cases this
theorem bSx {σ σ':St} {β β':aCr} {w':World} (hb:∀ b,b<w.heap.size→gh b=gh' b) (hf:Far (c.gho gh hge) σ β w σ' β' w'):Far (c.gho gh' hge') σ β w σ' β' w':=by
 obtain⟨⟨e1,e2,e3,e4,e5⟩,f2,f3,f4⟩:=hf
 refine⟨⟨e1,e2,fun b hk hlt=>?_,e4,e5⟩,f2,f3,f4⟩
 obtain⟨h1,h2⟩:=e3 b (aQu (hb b hlt).symm hk) hlt
 exact⟨aQu (hb b hlt) h1,h2⟩
theorem bLw {σ:St} {β:aCr} {a a2:Act} {o:Obj} (hr:Rel (c.gho gh hge) σ β a w) (hgh':∀ b,gh' b=if b=w.heap.size then some o else gh b)
  (ha:∀ t,σ.get t≠.l .none'→a2.tmps.getD t undef=a.tmps.getD t undef) (hdf:a2.defers=a.defers) :
  Rel (c.gho gh' hge') σ β a2 {w with heap:=w.heap.push o}∧Far (c.gho gh' hge') σ β w σ β {w with heap:=w.heap.push o}:=by
 have hh:=hr.heap
 have old:∀ b,b<w.heap.size→(w.heap.push o)[b]? =w.heap[b]? :=fun b hb=>aC2 w o b hb
 have ne:∀ b,b<w.heap.size→gh b=gh' b:=fun b hb=>by rw[hgh',if_neg (by omega)]
 have ex:aUp (c.gho gh hge) (c.gho gh' hge') w σ.heap σ.next β {w with heap:=w.heap.push o} σ.heap σ.next β :=
  ⟨Nat.le_refl _,by simp,fun b hk hlt=>⟨aQu (ne b hlt) hk,old b hlt⟩,fun id x _ hx=>⟨rfl,x,hx,aAf.refl x⟩,fun id x b cur E fr _ _ _ hw=>⟨cur,by
   have hlt:=(Array.getElem?_eq_some_iff.1 hw).1
   show (w.heap.push o)[b]? =_
   rw[old b hlt];exact hw,rfl⟩⟩
 have ex':Ext (c.gho gh' hge') w σ.heap σ.next β {w with heap:=w.heap.push o} σ.heap σ.next β :=
  ⟨ex.nxle,ex.szle,fun b hk hlt=>⟨hk,old b hlt⟩,ex.site,ex.cells⟩
 refine⟨⟨⟨fun id b hl=>?_,fun id x b hl hb=>?_,hh.inj,?_,fun b hb hpb=>?_,hh.os,hh.out,fun b hb cur E fr hw=>?_,fun g o' hg=>?_⟩,fun t=>?_,hdf.trans hr.defers,hr.pins,hr.npins⟩,ex',rfl,fun id cells hl=>⟨cells,hl,rfl,rfl⟩,fun id x _ hl hx=>⟨x,hl,hx,rfl⟩⟩
 ·obtain⟨h1,h2⟩:=hh.blk id b hl
  exact⟨h1,h2.ext ex fun d hd=>old d (hh.place id b d hl hd).2⟩
 ·obtain⟨h1,h2⟩:=hh.place id x b hl hb
  exact⟨h1,by simp;omega⟩
 ·have:c.w0.heap.size≤w.heap.size:=hh.size
  show c.w0.heap.size≤(w.heap.push o).size
  simp;omega
 ·have hs:c.w0.heap.size≤w.heap.size:=hh.size
  have hb':b<c.w0.heap.size:=hb
  show (w.heap.push o)[b]? =_
  rw[old b (by omega)]
  exact hh.frame b hb hpb
 ·obtain⟨cur',h1,h2⟩:=hh.pbs b hb cur E fr hw
  exact⟨cur',(old b (Array.getElem?_eq_some_iff.1 h1).1).trans h1,h2⟩
 ·have hg2:gh' g=some o':=hg
  clear hg
  rw[hgh']at hg2
  split at hg2
  ·rename_i he
   subst he
   obtain rfl:=Option.some.inj hg2
   refine⟨by simp,fun id x hl hb=>?_⟩
   have:=(hh.place id x _ hl hb).2
   omega
  ·obtain⟨g1,g2⟩:=hh.gh g o' hg2
   exact⟨(old g (Array.getElem?_eq_some_iff.1 g1).1).trans g1,g2⟩
 ·by_cases hn:σ.get t=.l .none'
  ·rw[hn];exact trivial
  ·rw[ha t hn]
   exact ex.repW (hr.slot t)
theorem bI8 {σ:St} {β:aCr} {a a2:Act} {g d:Nat} {z:Array Value} {t:TypeId} {v:Value} {xs:List L} (hr:Rel (c.gho gh hge) σ β a w) (hg:gh g=some (.cells z t (0,0))) (hz:z.size=xs.length)
  (hv:aJ9 (okD (c.gho gh hge) σ.heap β) w σ.heap σ.next β v.cells xs) (hgh':∀ b,gh' b=if b=g then none else gh b)
  (ha:a2.tmps=a.tmps) (hdf:a2.defers=a.defers) (hd:a.tmps.getD d undef=.pointer (some ⟨g,0,none⟩)) :
  Rel (c.gho gh' hge') ((σ.new (.box xs)).put (some d) (.l (.ptr σ.next 0))) (aD8 β σ.next (some g)) a2 (w.setCells g 0 v.cells.toList) ∧
  (∀ β0 w1 σ0,Far (c.gho gh hge) σ0 β0 w1 σ β w→w1.heap.size≤g→Far (c.gho gh' hge') σ0 β0 w1 ((σ.new (.box xs)).put (some d) (.l (.ptr σ.next 0))) (aD8 β σ.next (some g)) (w.setCells g 0 v.cells.toList)):=by
 have hh:=hr.heap
 obtain⟨g1,g2⟩:=hh.gh g _ hg
 have hcz:v.cells.size=xs.length:=hv.1
 obtain⟨cur',a1,a2',a3,a4,a5,a6,a7⟩:=aBl g v.cells.toList 0 w z t (0,0) g1 (by rw[Array.length_toList,hcz,hz];omega)
 have hcur:cur'=v.cells:=by
  apply Array.ext'
  apply List.ext_getElem?
  intro i
  have:=a3 i
  rw[Array.getElem?_toList,this]
  split
  ·simp
  ·rename_i hn
   have:v.cells.size≤i:=by simp at hn;exact hn
   rw[Array.getElem?_toList,Array.getElem?_eq_none this,Array.getElem?_eq_none (by omega)]
 subst hcur
 have ne:∀ b,b≠g→gh b=gh' b:=fun b hb=>by rw[hgh',if_neg hb]
 have sizle:c.w0.heap.size≤g:=hge g _ hg
 have lk:∀ id,id≠σ.next→List.lookup id ((σ.next,Blk.box xs)::σ.heap)=σ.heap.lookup id:=fun id h=>aAt h
 have data:∀ b,okD (c.gho gh hge) σ.heap β b→okD (c.gho gh' hge') ((σ.next,Blk.box xs)::σ.heap) (aD8 β σ.next (some g)) b∧(w.setCells g 0 v.cells.toList).heap[b]? =w.heap[b]? :=fun b hk=>by
  have hbg:b≠g:=fun e=>bSb hg (e▸hk)
  obtain⟨k1,k2⟩:=aQu (hge':=hge') (ne b hbg) hk
  refine⟨⟨k1,fun id x hl hf=>?_⟩,a4 b hbg⟩
  by_cases hid:id=σ.next
  ·subst hid
   simp only[aD8,if_true]
   exact fun e=>hbg (Option.some.inj e).symm
  ·rw[lk id hid]at hl
   simp only[aD8,if_neg hid]
   exact k2 id x hl hf
 have site:∀ id x',id<σ.next→List.lookup id ((σ.next,Blk.box xs)::σ.heap)=some x'→aD8 β σ.next (some g) id=β id∧∃ x,σ.heap.lookup id=some x∧aAf x x':=fun id x' hid hl=>by
  rw[lk id (by omega)]at hl
  exact⟨by simp[aD8];omega,x',hl,aAf.refl _⟩
 have cells:∀ id x b cur E fr,id<σ.next→List.lookup id ((σ.next,Blk.box xs)::σ.heap)=some x→β id=some b→w.heap[b]? =some (.cells cur E fr)→∃ cur',(w.setCells g 0 v.cells.toList).heap[b]? =some (.cells cur' E fr)∧cur'.size=cur.size:=fun id x b cur E fr hid hl hb hw=>by
  rw[lk id (by omega)]at hl
  have hbg:b≠g:=fun e=>g2 id x hl (e▸hb)
  exact⟨cur,by rw[a4 b hbg];exact hw,rfl⟩
 have ex:aUp (c.gho gh hge) (c.gho gh' hge') w σ.heap σ.next β (w.setCells g 0 v.cells.toList) ((σ.next,Blk.box xs)::σ.heap) (σ.next+1) (aD8 β σ.next (some g)) :=
  ⟨by omega,by omega,fun b hk _=>data b hk,site,cells⟩
 have hlt:g<w.heap.size:=(Array.getElem?_eq_some_iff.1 g1).1
 refine⟨⟨⟨fun id b hl=>?_,fun id x b hl hb=>?_,fun id id' x x' b hl hl' hb hb'=>?_,?_,fun b hb hpb=>?_,a6.trans hh.os,a7.trans hh.out,fun b hb cur E fr hw=>?_,fun b o' hb=>?_⟩,fun t'=>?_,hdf.trans hr.defers,fun j id hj=>?_,hr.npins⟩,fun β0 w1 σ0 hf hle=>⟨?_,hf.pins,fun id cells0 hl=>?_,fun id x hp hl hx=>?_⟩⟩
 ·have hl:List.lookup id ((σ.next,Blk.box xs)::σ.heap)=some b:=hl
  by_cases hid:id=σ.next
  ·subst hid
   rw[aBw]at hl
   obtain rfl:=Option.some.inj hl
   exact⟨Nat.lt_succ_self _,g,v.cells,t,(0,0),by simp[aD8],a1,aFu _,ex.repLs hv⟩
  ·rw[lk id hid]at hl
   obtain⟨h1,h2⟩:=hh.blk id b hl
   have e:aD8 β σ.next (some g) id=β id:=by simp[aD8,hid]
   refine⟨Nat.lt_succ_of_lt h1,?_⟩
   rw[e]
   exact h2.ext ex fun d hd=>a4 d fun e=>g2 id b hl (e▸hd)
 ·have hl:List.lookup id ((σ.next,Blk.box xs)::σ.heap)=some x:=hl
  by_cases hid:id=σ.next
  ·subst hid
   simp only[aD8,if_true,Option.some.injEq]at hb
   subst hb
   exact⟨.inl sizle,by omega⟩
  ·rw[lk id hid]at hl
   simp only[aD8,if_neg hid]at hb
   obtain⟨h1,h2⟩:=hh.place id x b hl hb
   exact⟨h1,by omega⟩
 ·have hl:List.lookup id ((σ.next,Blk.box xs)::σ.heap)=some x:=hl
  have hl':List.lookup id' ((σ.next,Blk.box xs)::σ.heap)=some x':=hl'
  by_cases hid:id=σ.next<;>by_cases hid':id'=σ.next
  ·omega
  ·exfalso
   subst hid
   rw[lk id' hid']at hl'
   simp only[aD8,if_true,Option.some.injEq]at hb
   subst hb
   simp only[aD8,if_neg hid']at hb'
   exact g2 id' x' hl' hb'
  ·exfalso
   subst hid'
   rw[lk id hid]at hl
   simp only[aD8,if_true,Option.some.injEq]at hb'
   subst hb'
   simp only[aD8,if_neg hid]at hb
   exact g2 id x hl hb
  ·rw[lk id hid]at hl
   rw[lk id' hid']at hl'
   simp only[aD8,if_neg hid]at hb
   simp only[aD8,if_neg hid']at hb'
   exact hh.inj id id' x x' b hl hl' hb hb'
 ·have:c.w0.heap.size≤w.heap.size:=hh.size
  show c.w0.heap.size≤_
  omega
 ·have hb':b<c.w0.heap.size:=hb
  rw[a4 b (by omega)]
  exact hh.frame b hb hpb
 ·have hb':b<c.w0.heap.size:=c.oldpb b hb
  rw[a4 b (by omega)]
  exact hh.pbs b hb cur E fr hw
 ·have hb2:gh' b=some o':=hb
  clear hb
  rw[hgh']at hb2
  split at hb2
  ·cases hb2
  ·rename_i hne
   obtain⟨k1,k2⟩:=hh.gh b o' hb2
   refine⟨by rw[a4 b hne];exact k1,fun id x hl hbi=>?_⟩
   have hl:List.lookup id ((σ.next,Blk.box xs)::σ.heap)=some x:=hl
   by_cases hid:id=σ.next
   ·subst hid
    simp only[aD8,if_true,Option.some.injEq]at hbi
    exact hne hbi.symm
   ·rw[lk id hid]at hl
    simp only[aD8,if_neg hid]at hbi
    exact k2 id x hl hbi
 ·rw[ha,aIz]
  split
  ·rename_i hdt
   obtain rfl:=Option.some.inj hdt
   rw[hd]
   exact⟨Nat.lt_succ_self _,rfl,fun _ _=>⟨g,by simp[aD8],rfl⟩,fun _ _ _ _=>⟨g,by simp[aD8],rfl⟩⟩
  ·exact ex.repW (hr.slot t')
 ·obtain⟨p1,⟨x,p2,p3⟩,p4⟩:=hr.pins j id hj
  refine⟨Nat.lt_succ_of_lt p1,⟨x,?_,p3⟩,?_⟩
  ·show List.lookup id ((σ.next,Blk.box xs)::σ.heap)=_
   rw[lk id (by omega)];exact p2
  ·rw[show aD8 β σ.next (some g) id=β id by simp[aD8];omega];exact p4
 ·obtain⟨⟨e1,e2,e3,e4,e5⟩,_,_,_⟩:=hf
  refine⟨Nat.le_succ_of_le e1,by omega,fun b hk hlt1=>?_,fun id x' hid hl=>?_,fun id x b cur E fr hid hl hb hw=>?_⟩
  ·obtain⟨q1,q2⟩:=e3 b (aQu (ne b (by omega)).symm hk) hlt1
   obtain⟨r1,r2⟩:=data b q1
   exact⟨r1,r2.trans q2⟩
  ·obtain⟨s1,x,s2,s3⟩:=site id x' (by omega) hl
   obtain⟨t1,y,t2,t3⟩:=e4 id x hid s2
   exact⟨s1.trans t1,y,t2,t3.trans s3⟩
  ·obtain⟨s1,x1,s2,s3⟩:=site id x (by omega) hl
   obtain⟨cur1,c1,c2⟩:=e5 id x1 b cur E fr hid s2 hb hw
   obtain⟨t1,_⟩:=e4 id x1 hid s2
   obtain⟨cur2,c3,c4⟩:=cells id x b cur1 E fr (by omega) hl (t1.trans hb) c1
   exact⟨cur2,c3,c4.trans c2⟩
 ·obtain⟨c1,h1,h2,h3⟩:=hf.box id cells0 hl
  have hid:=(hh.blk id _ h1).1
  exact⟨c1,(lk id (by omega)).trans h1,h2,by rw[←h3];simp[aD8];omega⟩
 ·obtain⟨x1,h1,h2,h3⟩:=hf.pin id x hp hl hx
  have hid:=(hh.blk id _ h1).1
  exact⟨x1,(lk id (by omega)).trans h1,h2,by rw[←h3];simp[aD8];omega⟩
end
section
variable {c:Ctx} {E:Env} {ops:Array Oper} {Q:Exit→Act→World→Prop}
structure bTg (E:Env) (ops:Array Oper) (q d:Nat) (t:TypeId) (x:Operand) (o1 o2:Oper):Prop where
 h1:ops[q]? =some o1
 p1:o1.op=.alloc t
 d1:o1.dst=some d
 g1:o1.guard=none
 h2:ops[q+1]? =some o2
 p2:o2.op=.store t (.tmp d) x
 d2:o2.dst=none
 g2:o2.guard=none
 nx:x≠.tmp d
 ord:aDd (aB4 ops) q (q+1)=true
 ty:∃ ti,E.Ty t=some ti
 lone:∀ j o,ops[j]? =some o→j≠q→j≠q+1→o.dst≠some d∧d∉o.looksAt ops∧∀ g b,o.guard=some (g,b)→g≠q∧g≠q+1
theorem aFa {q d:Nat} {t:TypeId} {x:Operand} (h:aCb E ops (aB4 ops) q=some (d,t,x)):∃ o1 o2,bTg E ops q d t x o1 o2:=by
 unfold aCb at h
 split at h
 ·rename_i t1 d1 ty1 ps1 af1 h1
  split at h
  ·rename_i t2 d2 x2 ty2 ps2 af2 h2
   split at h
   ·rename_i hc
    simp only[Option.some.injEq,Prod.mk.injEq]at h
    obtain⟨rfl,rfl,rfl⟩:=h
    simp only[Bool.and_eq_true,beq_iff_eq,Bool.not_eq_true']at hc
    obtain⟨⟨⟨⟨⟨⟨e1,e2⟩,e3⟩,e4⟩,e5⟩,_⟩,e7⟩:=hc
    subst e1;subst e2
    refine⟨_,_,⟨h1,rfl,rfl,rfl,h2,rfl,rfl,rfl,fun e=>?_,e4,Option.isSome_iff_exists.1 e5,fun j o hj hn hn1=>?_⟩⟩
    ·rw[e]at e3;simp[bUg]at e3
    ·have mem:(o,j)∈ops.toList.zipIdx:=by
      rw[List.mem_zipIdx_iff_getElem?]
      simpa using hj
     have:=List.all_eq_true.1 e7 _ mem
     simp only[Bool.or_eq_true,beq_iff_eq,Bool.and_eq_true,bne_iff_ne,ne_eq,Bool.not_eq_true']at this
     rcases this with (h | h) | ⟨⟨k1,k2⟩,k3⟩
     ·exact absurd h hn
     ·exact absurd h hn1
     ·refine⟨k1,by simpa using k2,fun g b hg=>?_⟩
      rw[hg]at k3
      simpa using k3
   ·cases h
  ·cases h
 ·cases h
theorem aEc (i:Nat):(aB8 E ops)[i]? =(ops[i]?).map fun o=>aHq E ops (aB4 ops) o i:=by
 unfold aB8
 rw[List.getElem?_toArray,List.getElem?_map,List.getElem?_zipIdx]
 simp only[Array.getElem?_toList,Option.map_map,Nat.zero_add]
 rfl
theorem aCi:(aB8 E ops).size=ops.size:=by simp[aB8]
theorem aIo (o:Oper) (i:Nat):(aHq E ops (aB4 ops) o i).after=o.after:=by
 unfold aHq
 split
 ·rfl
 ·split
  ·rfl
  ·split<;>rfl
theorem aOh {o:Oper} {i:Nat} (h1:aCb E ops (aB4 ops) i=none) (h2:∀ j,i=j+1→aCb E ops (aB4 ops) j=none):aHq E ops (aB4 ops) o i=o:=by
 unfold aHq
 rw[h1]
 cases i with
 |zero=>rfl
 |succ j=>simp only[h2 j rfl]
theorem aOi {A:Nat→Bool} (h:aN6 (aB8 E ops) A):aN6 ops A:=fun j o hj hA e he hb=>by
 have h1:(aB8 E ops)[j]? =some (aHq E ops (aB4 ops) o j):=by rw[aEc,hj];rfl
 exact h j _ h1 hA e (by rw[aIo];exact he) hb
theorem aLk {listed:Array Bool} {i:Nat} (h:i∈Region.ready .any ops listed):i∈Region.ready .any (aB8 E ops) listed:=by
 obtain⟨h1,o,ho,h2⟩:=mem_ready.1 h
 exact mem_ready.2 ⟨h1,_,by rw[aEc,ho];rfl,fun e he hb=>h2 e (by rw[aIo]at he;exact he) hb⟩
theorem bNo {P:Program} {i:Nat} {o:Oper} {a:Act} {w:World} {K:Act→World→Prop} (ho:ops[i]? =some o) (hh:wpOp P ops Q i K a w):wpOp P ops Q i (fun a2 w2=>K a2 w2∧∃ v,a2.tmps=(a.put o.dst v).tmps) a w:=by
 unfold wpOp at *
 rw[ho]at hh ⊢
 simp only at hh ⊢
 split
 ·rename_i hw
  simp only[hw,if_true]at hh
  refine hh.imp (fun hh=>?_) id
  unfold Oper.wp at *
  generalize (execOp a.eval o).run P w=r at *
  cases r with
  |ok n w' =>
   cases n<;>simp only[Oper.upon]at hh ⊢ <;>
    first
     |exact⟨hh,_,rfl⟩
     |exact⟨hh,_,by cases o.dst<;>rfl⟩
     |exact Calls.mono hh (fun e w'' he=>by cases e<;>first | exact⟨he,_,rfl⟩ | exact he)
     |exact Rows.mono hh (fun _ _ he=>⟨he,_,rfl⟩)
  |halt x w'=>cases x<;>simp only[Oper.upon]at hh ⊢ <;>exact hh
 ·rename_i hw
  simp only[hw]at hh
  exact⟨by simpa using hh,_,rfl⟩
structure bNn (c:Ctx) (E:Env) (ops:Array Oper) (es:List Ent) (σ0:St) (β:aCr) (w:World) (listed:Array Bool) (a':Act) (w':World) (gh:Nat→Option Obj) (hge:∀ b o,gh b=some o→c.w0.heap.size≤b):Prop where
 inv:Inv (c.gho gh hge) E (aB8 E ops) es σ0 β w listed a' w'
 up:∀ b o,c.gh b=some o→gh b=some o
 pend:∀ q d t x,aCb E ops (aB4 ops) q=some (d,t,x)→listed.getD q false=true→listed.getD (q+1) false=false →
  ∃ g z ti,a'.tmps.getD d undef=.pointer (some ⟨g,0,none⟩)∧gh g=some (.cells z t (0,0))∧E.Ty t=some ti∧z.size=ti.leaves.length∧c.gh g=none∧w.heap.size≤g
 apart:∀ q d t x q' d' t' x',aCb E ops (aB4 ops) q=some (d,t,x)→listed.getD q false=true→listed.getD (q+1) false=false →
  aCb E ops (aB4 ops) q'=some (d',t',x')→listed.getD q' false=true→listed.getD (q'+1) false=false→a'.tmps.getD d undef=a'.tmps.getD d' undef→q=q'
 down:∀ b o,gh b=some o→c.gh b=some o∨∃ q d t x,aCb E ops (aB4 ops) q=some (d,t,x)∧listed.getD q false=true∧listed.getD (q+1) false=false∧a'.tmps.getD d undef=.pointer (some ⟨b,0,none⟩)
theorem aE0 {l:Array Bool} {i:Nat} (hi:i<l.size) (j:Nat):(l.setIfInBounds i true).getD j false=if j=i then true else l.getD j false:=by
 by_cases hj:j=i
 ·subst hj;rw[if_pos rfl];simp[hi]
 ·rw[if_neg hj];exact getD_set_ne false (fun e=>hj e.symm)
theorem aIn {q d q' d':Nat} {t t':TypeId} {x x':Operand} (h:aCb E ops (aB4 ops) q=some (d,t,x)) (h':aCb E ops (aB4 ops) q'=some (d',t',x')) (hne:q'≠q):q'≠q+1∧d'≠d:=by
 obtain⟨o1,o2,f⟩:=aFa h
 obtain⟨p1,p2,f'⟩:=aFa h'
 have h1:q'≠q+1:=fun e=>by
  subst e
  have:=f.h2.symm.trans f'.h1
  obtain rfl:=Option.some.inj this
  have:=f.p2.symm.trans f'.p1
  cases this
 refine⟨h1,fun e=>?_⟩
 have:=(f.lone q' p1 f'.h1 hne h1).1
 rw[f'.d1,e]at this
 exact this rfl
theorem aRf {es:List Ent} {σ0 σN:St} {β:aCr} {w:World} {gh:Nat→Option Obj} {hge:∀ b o,gh b=some o→c.w0.heap.size≤b} (hstat:aHv (aB8 E ops) (aB4 (aB8 E ops))=true)
  (hrun:∀ c':Ctx,c'.P=c.P→bB7 c' E (aB8 E ops) (List.range ops.size) σ0 es σN) (htr:bIv (aB4 (aB8 E ops)) (es.filterMap Ent.ev?).reverse=true)
  {listed:Array Bool} {a':Act} {w':World} (hf:bNn c E ops es σ0 β w listed a' w' gh hge) {i:Nat} (hi:i∈Region.ready .any ops listed)
  (n1:aCb E ops (aB4 ops) i=none) (n2:∀ j,i=j+1→aCb E ops (aB4 ops) j=none) {next:Act→World→Prop}
  (hn:∀ gh2 hge2 a2 w2,bNn c E ops es σ0 β w (listed.setIfInBounds i true) a2 w2 gh2 hge2→next a2 w2):wpOp c.P ops Q i next a' w':=by
 obtain⟨_,o,ho,_⟩:=mem_ready.1 hi
 have hin:i<ops.size:=(Array.getElem?_eq_some_iff.1 ho).1
 have ho':(aB8 E ops)[i]? =some o:=by rw[aEc,ho];simp only[Option.map_some];rw[aOh n1 n2]
 have hin':i<listed.size:=by rw[hf.inv.size,aCi];exact hin
 have nq:∀ q d t x,aCb E ops (aB4 ops) q=some (d,t,x)→i≠q∧i≠q+1:=fun q d t x hq=>by
  refine⟨fun e=>?_,fun e=>?_⟩
  ·rw[e]at n1;rw[n1]at hq;cases hq
  ·rw[n2 q e]at hq;cases hq
 have st:=bFf (c:=c.gho gh hge) (Q:=Q) hstat (by rw[aCi];exact hrun (c.gho gh hge) rfl) htr hf.inv (aLk hi) (next:=fun a2 w2=>Inv (c.gho gh hge) E (aB8 E ops) es σ0 β w (listed.setIfInBounds i true) a2 w2) (fun _ _ h=>h)
 have st2:=bNo ho' st
 have tr:wpOp c.P ops Q i (fun a2 w2=>Inv (c.gho gh hge) E (aB8 E ops) es σ0 β w (listed.setIfInBounds i true) a2 w2∧∃ v,a2.tmps=(a'.put o.dst v).tmps) a' w':=by
  unfold wpOp at st2 ⊢
  rw[ho']at st2
  rw[ho]
  have hw:Region.wanted o (yielded (aB8 E ops) a'.tmps)=Region.wanted o (yielded ops a'.tmps):=by
   unfold Region.wanted
   cases hg:o.guard with
   |none=>rfl
   |some p =>
    obtain⟨g,b⟩:=p
    have hgg:(aB8 E ops)[g]? =ops[g]? :=by
     rw[aEc]
     cases hog:ops[g]? with
     |none=>rfl
     |some og =>
      simp only[Option.map_some,Option.some.injEq]
      refine aOh ?_ fun j hj=>?_
      ·cases hfg:aCb E ops (aB4 ops) g with
       |none=>rfl
       |some p =>
        obtain⟨d,t,x⟩:=p
        obtain⟨o1,o2,f⟩:=aFa hfg
        have:=nq g d t x hfg
        exact absurd rfl (((f.lone i o ho this.1 this.2).2.2 g b hg).1)
      ·cases hfg:aCb E ops (aB4 ops) j with
       |none=>rfl
       |some p =>
        obtain⟨d,t,x⟩:=p
        obtain⟨o1,o2,f⟩:=aFa hfg
        have:=nq j d t x hfg
        exact absurd hj (((f.lone i o ho this.1 this.2).2.2 g b hg).2)
    simp only[yielded,hgg]
  simp only[hw]at st2
  exact st2
 refine wpOp_mono (fun a2 w2 h=>?_) tr
 obtain⟨hinv,v,htm⟩:=h
 have keep:∀ q d t x,aCb E ops (aB4 ops) q=some (d,t,x)→a2.tmps.getD d undef=a'.tmps.getD d undef:=fun q d t x hq=>by
  obtain⟨o1,o2,f⟩:=aFa hq
  have:=nq q d t x hq
  have hd:=(f.lone i o ho this.1 this.2).1
  rw[htm]
  cases hod:o.dst with
  |none=>rfl
  |some y =>
   have hyd:y≠d:=fun e=>hd (by rw[hod,e])
   simp only[Act.put]
   simp[Array.getD_eq_getD_getElem?,Array.getElem?_setIfInBounds_ne hyd]
 have pk:∀ q d t x,aCb E ops (aB4 ops) q=some (d,t,x)→(listed.setIfInBounds i true).getD q false=listed.getD q false∧(listed.setIfInBounds i true).getD (q+1) false=listed.getD (q+1) false:=fun q d t x hq=>by
  have:=nq q d t x hq
  rw[aE0 hin',aE0 hin',if_neg (fun e=>this.1 e.symm),if_neg (fun e=>this.2 e.symm)]
  exact⟨rfl,rfl⟩
 refine hn gh hge a2 w2 ⟨hinv,hf.up,fun q d t x hq h1 h2=>?_,fun q d t x q' d' t' x' hq h1 h2 hq' h1' h2' he=>?_,fun b ob hb=>?_⟩
 ·obtain⟨k1,k2⟩:=pk q d t x hq
  rw[k1]at h1;rw[k2]at h2
  rw[keep q d t x hq]
  exact hf.pend q d t x hq h1 h2
 ·obtain⟨k1,k2⟩:=pk q d t x hq
  obtain⟨k1',k2'⟩:=pk q' d' t' x' hq'
  rw[k1]at h1;rw[k2]at h2;rw[k1']at h1';rw[k2']at h2'
  rw[keep q d t x hq,keep q' d' t' x' hq']at he
  exact hf.apart q d t x q' d' t' x' hq h1 h2 hq' h1' h2' he
 ·rcases hf.down b ob hb with h | ⟨q,d,t,x,hq,h1,h2,h3⟩
  ·exact .inl h
  ·obtain⟨k1,k2⟩:=pk q d t x hq
   exact .inr ⟨q,d,t,x,hq,by rw[k1];exact h1,by rw[k2];exact h2,by rw[keep q d t x hq];exact h3⟩
theorem bDo (hE : aDx c.P E) {es : List Ent} {σ0 σN : St} {β : aCr} {w : World} {gh : Nat → Option Obj} {hge : ∀ b o, gh b = some o → c.w0.heap.size ≤ b} (hstat : aHv (aB8 E ops) (aB4 (aB8 E ops)) = true)
    (hrun : ∀ c' : Ctx, c'.P = c.P → bB7 c' E (aB8 E ops) (List.range ops.size) σ0 es σN) (hvop : ∀ e, e ∈ es → (∀ cl, e.o.op ≠ .call cl) → ∀ R all, e.res = some (R, all) → aBv E e.σ e.o.op = some R)
    (htr : bIv (aB4 (aB8 E ops)) (es.filterMap Ent.ev?).reverse = true)
    {listed : Array Bool} {a' : Act} {w' : World} (hf : bNn c E ops es σ0 β w listed a' w' gh hge) {i : Nat} (hi : i ∈ Region.ready .any ops listed)
    {d : Nat} {t : TypeId} {x : Operand} (hq : aCb E ops (aB4 ops) i = some (d, t, x)) {next : Act → World → Prop}
    (hn : ∀ gh2 hge2 a2 w2, bNn c E ops es σ0 β w (listed.setIfInBounds i true) a2 w2 gh2 hge2 → next a2 w2) : wpOp c.P ops Q i next a' w' := by
  obtain ⟨o1, o2, f⟩ := aFa hq
  obtain ⟨ti, hti⟩ := f.ty
  have hin : i < ops.size := (Array.getElem?_eq_some_iff.1 f.h1).1
  have hin' : i < listed.size := by rw [hf.inv.size, aCi]; exact hin
  obtain ⟨e, he⟩ := bLi (c := c.gho gh hge) hstat (by rw [aCi]; exact hrun (c.gho gh hge) rfl) htr hf.inv.size hf.inv.closed (aLk hi)
  have heo : e.o = { o1 with op := .move (.const (.pointer none)) } := by
    have h := he.op
    rw [aEc, f.h1] at h
    simp only [Option.map_some, Option.some.injEq] at h
    rw [← h]
    unfold aHq
    rw [hq]
  have hed : e.o.dst = some d := by rw [heo]; exact f.d1
  have hdlt : d < a'.tmps.size := Nat.lt_of_lt_of_le (he.dst d hed) hf.inv.nt
  obtain ⟨R, all, hres⟩ : ∃ R all, e.res = some (R, all) := by
    have h := he.gd
    unfold aD6 at h
    rw [show e.o.guard = none by rw [heo]; exact f.g1] at h
    simp only [Option.some.injEq] at h
    cases hr : e.res with
    | none => rw [hr] at h; cases h
    | some p => exact ⟨p.1, p.2, rfl⟩
  have hR : R = aBe e.σ (.l .none') := by
    have := hvop e he.mem (fun cl h => by rw [heo] at h; cases h) R all hres
    rw [heo] at this
    exact (aAh (show (T.ret (aBe e.σ (.l .none'))).eval = some R from this)).symm
  have heff : e.eff = false := by simp [Ent.eff, hres, hR, aBe]
  have hval : e.val = .l .none' := by simp [Ent.val, hres, hR, aBe]
  obtain ⟨β', hr, hfar⟩ := hf.inv.rel
  have al := he.alike ((aBq (fun i => listed.getD i false) es σ0).put (some d) (.l .none')) (fun t' => by rw [aIz, hed, hval]) (by rw [heff]; rfl) (by rw [heff]; rfl) rfl
  have hr1 : Rel (c.gho gh hge) ((aBq (fun i => listed.getD i false) es σ0).put (some d) (.l .none')) β' a' w' := ⟨hr.heap, fun t' => by
    rw [aIz]
    split
    · exact trivial
    · exact hr.slot t', hr.defers, hr.pins, hr.npins⟩
  have hfar1 : Far (c.gho gh hge) σ0 β w ((aBq (fun i => listed.getD i false) es σ0).put (some d) (.l .none')) β' w' := ⟨hfar.ext, hfar.pins, hfar.box, hfar.pin⟩
  obtain ⟨iz, z, hi0, hisz, hz, hzs, hzr⟩ := aUv (w := w') (β := β') (ok := fun _ => True) (h := []) (nx := 0) (hE.ty t ti hti)
  have hsz : c.w0.heap.size ≤ w'.heap.size := hr.heap.size
  have hge2 : ∀ b o, (fun b => if b = w'.heap.size then some (Obj.cells z.cells t (0, 0)) else gh b) b = some o → c.w0.heap.size ≤ b := fun b o h => by
    simp only at h
    split at h
    · rename_i e; omega
    · exact hge b o h
  have tm : ∀ t', t' ≠ d → (a'.put (some d) (.pointer (some ⟨w'.heap.size, 0, none⟩))).tmps.getD t' undef = a'.tmps.getD t' undef := fun t' hne => by
    rw [aVx t' (fun y hy => by obtain rfl := Option.some.inj hy; exact hdlt), if_neg (fun e => hne (Option.some.inj e).symm)]
  have tmd : (a'.put (some d) (.pointer (some ⟨w'.heap.size, 0, none⟩))).tmps.getD d undef = .pointer (some ⟨w'.heap.size, 0, none⟩) := by
    rw [aVx d (fun y hy => by obtain rfl := Option.some.inj hy; exact hdlt), if_pos rfl]
  obtain ⟨hr2, hf2⟩ := bLw (hge' := hge2) (a2 := a'.put (some d) (.pointer (some ⟨w'.heap.size, 0, none⟩))) (o := .cells z.cells t (0, 0)) hr1 (fun b => rfl) (fun t' hne => tm t' fun e => hne (by rw [aIz, if_pos (by rw [e])])) rfl
  have hwle : w.heap.size ≤ w'.heap.size := hfar.ext.szle
  have hfar2 := (bSx (hge := hge) (hge' := hge2) (fun b hb => (if_neg (by omega)).symm) hfar1).trans hf2
  have ghlt : ∀ b o, gh b = some o → b < w'.heap.size := fun b o h => (Array.getElem?_eq_some_iff.1 (hr.heap.gh b o h).1).1
  unfold wpOp
  rw [f.h1]
  have hwa : Region.wanted o1 (yielded ops a'.tmps) = true := by unfold Region.wanted; rw [f.g1]
  simp only [hwa, if_true]
  refine .inl ?_
  have hrun1 : (execOp a'.eval o1).run c.P w' = .ok (.value (.pointer (some ⟨w'.heap.size, 0, none⟩))) { w' with heap := w'.heap.push (.cells z.cells t) } := by
    simp only [execOp, f.p1]
    have hi0 : c.P.info? t = some iz := hi0
    simp [Instr.alloc, zeroValue, typeInfo, hi0, hz, newVar, newRow]
  unfold Oper.wp
  rw [hrun1, Oper.upon_value, f.d1]
  have ind : ∀ q' d' t' x', aCb E ops (aB4 ops) q' = some (d', t', x') → (listed.setIfInBounds i true).getD (q' + 1) false = false → listed.getD (q' + 1) false = false := fun q' d' t' x' hq' h => by
    rw [aE0 hin'] at h
    split at h
    · cases h
    · exact h
  refine hn _ hge2 _ _ ⟨⟨by simp [hf.inv.size], he.closed, by rw [aVw]; exact hf.inv.nt, β', al.rel hr2, al.far hfar2⟩, fun b o hb => ?_, fun q' d' t' x' hq' h1 h2 => ?_, fun q1 d1 t1 x1 q2 d2 t2 x2 hq1 h1 h2 hq2 h1' h2' heq => ?_, fun b ob hb => ?_⟩
  · have := hf.up b o hb
    have hlt := ghlt b o this
    exact (if_neg (by omega)).trans this
  · by_cases hqq : q' = i
    · subst hqq
      rw [hq] at hq'
      obtain ⟨rfl, rfl, rfl⟩ : d = d' ∧ t = t' ∧ x = x' := by simpa using hq'
      refine ⟨w'.heap.size, z.cells, ti, tmd, by simp, hti, hzs, ?_, hwle⟩
      cases hc : c.gh w'.heap.size with
      | none => rfl
      | some o => have := ghlt _ o (hf.up _ o hc); omega
    · obtain ⟨k1, k2⟩ := aIn hq hq' hqq
      rw [aE0 hin', if_neg hqq] at h1
      obtain ⟨g, z', ti', m1, m2, m3, m4, m5, m6⟩ := hf.pend q' d' t' x' hq' h1 (ind q' d' t' x' hq' h2)
      have := ghlt g _ m2
      refine ⟨g, z', ti', by rw [tm d' k2]; exact m1, (if_neg (by omega)).trans m2, m3, m4, m5, m6⟩
  · have hh : ∀ q' d' t' x', aCb E ops (aB4 ops) q' = some (d', t', x') → q' ≠ i → (listed.setIfInBounds i true).getD q' false = true → (listed.setIfInBounds i true).getD (q' + 1) false = false →
        (a'.put (some d) (.pointer (some ⟨w'.heap.size, 0, none⟩))).tmps.getD d' undef = a'.tmps.getD d' undef ∧ listed.getD q' false = true ∧ listed.getD (q' + 1) false = false ∧ a'.tmps.getD d' undef ≠ .pointer (some ⟨w'.heap.size, 0, none⟩) := fun q' d' t' x' hq' hqq h1 h2 => by
      obtain ⟨k1, k2⟩ := aIn hq hq' hqq
      rw [aE0 hin', if_neg hqq] at h1
      obtain ⟨g, z', ti', m1, m2, m3, m4, m5, m6⟩ := hf.pend q' d' t' x' hq' h1 (ind q' d' t' x' hq' h2)
      have := ghlt g _ m2
      refine ⟨tm d' k2, h1, ind q' d' t' x' hq' h2, fun e => ?_⟩
      rw [m1] at e
      simp at e
      omega
    by_cases e1 : q1 = i <;> by_cases e2 : q2 = i
    · rw [e1, e2]
    · exfalso
      subst e1
      rw [hq] at hq1
      obtain ⟨rfl, rfl, rfl⟩ : d = d1 ∧ t = t1 ∧ x = x1 := by simpa using hq1
      obtain ⟨m1, _, _, m2⟩ := hh q2 d2 t2 x2 hq2 e2 h1' h2'
      rw [m1, tmd] at heq
      exact m2 heq.symm
    · exfalso
      subst e2
      rw [hq] at hq2
      obtain ⟨rfl, rfl, rfl⟩ : d = d2 ∧ t = t2 ∧ x = x2 := by simpa using hq2
      obtain ⟨m1, _, _, m2⟩ := hh q1 d1 t1 x1 hq1 e1 h1 h2
      rw [m1, tmd] at heq
      exact m2 heq
    · obtain ⟨m1, l1, l2, _⟩ := hh q1 d1 t1 x1 hq1 e1 h1 h2
      obtain ⟨m1', l1', l2', _⟩ := hh q2 d2 t2 x2 hq2 e2 h1' h2'
      rw [m1, m1'] at heq
      exact hf.apart q1 d1 t1 x1 q2 d2 t2 x2 hq1 l1 l2 hq2 l1' l2' heq
  · split at hb
    · rename_i hbe
      subst hbe
      refine .inr ⟨i, d, t, x, hq, by rw [aE0 hin', if_pos rfl], ?_, tmd⟩
      rw [aE0 hin', if_neg (by omega)]
      -- the store is behind it
      cases hl : listed.getD (i + 1) false with
      | false => rfl
      | true =>
        exfalso
        have hcl := aOi hf.inv.closed
        have := aGr hcl (i + 1) hl (aGn (by omega) f.ord)
        obtain ⟨hun, _⟩ := mem_ready.1 hi
        have hAi : listed.getD i false = false := by rw [aCs hin' false true]; exact hun
        rw [hAi] at this; cases this
    · rcases hf.down b ob hb with h | ⟨q', d', t', x', hq', h1, h2, h3⟩
      · exact .inl h
      · have hqq : q' ≠ i := fun e => by
          obtain ⟨hun, _⟩ := mem_ready.1 hi
          have hAi : listed.getD i false = false := by rw [aCs hin' false true]; exact hun
          rw [e, hAi] at h1; cases h1
        obtain ⟨k1, k2⟩ := aIn hq hq' hqq
        refine .inr ⟨q', d', t', x', hq', by rw [aE0 hin', if_neg hqq]; exact h1, ?_, by rw [tm d' k2]; exact h3⟩
        rw [aE0 hin', if_neg]
        · exact h2
        · exact fun e => (aIn hq' hq (fun e' => hqq e'.symm)).1 e.symm
theorem bDn (hE:aDx c.P E) {es:List Ent} {σ0 σN:St} {β:aCr} {w:World} {gh:Nat→Option Obj} {hge:∀ b o,gh b=some o→c.w0.heap.size≤b} (hstat:aHv (aB8 E ops) (aB4 (aB8 E ops))=true)
  (hrun:∀ c':Ctx,c'.P=c.P→bB7 c' E (aB8 E ops) (List.range ops.size) σ0 es σN) (hvop:∀ e,e∈es→(∀ cl,e.o.op≠.call cl)→∀ R all,e.res=some (R,all)→aBv E e.σ e.o.op=some R)
  (htr:bIv (aB4 (aB8 E ops)) (es.filterMap Ent.ev?).reverse=true)
  {listed:Array Bool} {a':Act} {w':World} (hf:bNn c E ops es σ0 β w listed a' w' gh hge) {q:Nat} (hi:q+1∈Region.ready .any ops listed)
  {d:Nat} {t:TypeId} {x:Operand} (hq:aCb E ops (aB4 ops) q=some (d,t,x)) {next:Act→World→Prop}
  (hn:∀ gh2 hge2 a2 w2,bNn c E ops es σ0 β w (listed.setIfInBounds (q+1) true) a2 w2 gh2 hge2→next a2 w2):wpOp c.P ops Q (q+1) next a' w':=by
 obtain⟨o1,o2,f⟩:=aFa hq
 obtain⟨hun,o2',ho2,hdeps⟩:=mem_ready.1 hi
 obtain rfl:o2=o2':=by rw[f.h2]at ho2;exact Option.some.inj ho2
 have hin:q+1<ops.size:=(Array.getElem?_eq_some_iff.1 f.h2).1
 have hin':q+1<listed.size:=by rw[hf.inv.size,aCi];exact hin
 have hAi:listed.getD (q+1) false=false:=by rw[aCs hin' false true];exact hun
 have hcl:=aOi hf.inv.closed
 have hLq:listed.getD q false=true:=by
  obtain⟨o,e,ho,he,hb,hlt,h⟩:=aVa (aGn (by omega) f.ord)
  rw[f.h2]at ho
  obtain rfl:=Option.some.inj ho
  rcases h with h | h
  ·rw[h];exact hdeps e he hb
  ·exact aGr hcl e.on (hdeps e he hb) h
 obtain⟨g,z,ti,tmd,hgz,hti,hzs,hcg,hwg⟩:=hf.pend q d t x hq hLq hAi
 have nofl:aCb E ops (aB4 ops) (q+1)=none:=by
  cases h:aCb E ops (aB4 ops) (q+1)with
  |none=>rfl
  |some p =>
   obtain⟨d',t',x'⟩:=p
   exact absurd rfl (aIn hq h (by omega)).1
 obtain⟨e,he⟩:=bLi (c:=c.gho gh hge) hstat (by rw[aCi];exact hrun (c.gho gh hge) rfl) htr hf.inv.size hf.inv.closed (aLk hi)
 have heo:e.o={o2 with op:=.box t x,dst:=some d}:=by
  have h:=he.op
  rw[aEc,f.h2]at h
  simp only[Option.map_some,Option.some.injEq]at h
  rw[←h]
  unfold aHq
  simp only[nofl,hq]
 have hed:e.o.dst=some d:=by rw[heo]
 obtain⟨R,all,hres⟩:∃ R all,e.res=some (R,all):=by
  have h:=he.gd
  unfold aD6 at h
  rw[show e.o.guard=none by rw[heo];exact f.g2]at h
  simp only[Option.some.injEq]at h
  cases hr:e.res with
  |none=>rw[hr]at h;cases h
  |some p=>exact⟨p.1,p.2,rfl⟩
 obtain⟨xs,hls,hlen,hR⟩:∃ xs,aXv (e.σ.ev x)=some xs∧xs.length=ti.leaves.length∧R={val:=.l (.ptr e.σ.next 0),st:=e.σ.new (.box xs),eff:=true}:=by
  have:=hvop e he.mem (fun cl h=>by rw[heo]at h;cases h) R all hres
  rw[heo]at this
  simp only[aBv,vop]at this
  split at this
  ·rename_i ti' xs h1 h2
   split at this
   ·rename_i h3
    rw[hti]at h1
    obtain rfl:=Option.some.inj h1
    exact⟨xs,h2,h3,(aAh this).symm⟩
   ·exact (aA0 this).elim
  ·exact (aA0 this).elim
 have heff:e.eff=true:=by simp[Ent.eff,hres,hR]
 have hval:e.val=.l (.ptr e.σ.next 0):=by simp[Ent.val,hres,hR]
 obtain⟨hh1,hh2⟩:=he.hh heff
 obtain⟨β',hr,hfar⟩:=hf.inv.rel
 have hevx:(aBq (fun i=>listed.getD i false) es σ0).ev x=e.σ.ev x:=he.hev x (by rw[heo];simp[Op.operands])
 have hrx:=aLj hr.slot x
 rw[hevx]at hrx
 obtain⟨hrep,hone,_⟩:=aNo hrx hls
 have hcz:(a'.eval x).cells.size=xs.length:=hrep.1
 have hge2:∀ b o,(fun b=>if b=g then none else gh b) b=some o→c.w0.heap.size≤b:=fun b o h=>by
  simp only at h
  split at h
  ·cases h
  ·exact hge b o h
 obtain⟨hr2,hfar2⟩:=bI8 (hge':=hge2) (a2:=a') (d:=d) hr hgz (by rw[hzs,hlen]) hrep (fun b=>rfl) rfl rfl tmd
 have hfar3:=hfar2 β w σ0 hfar hwg
 have happ:(app e.σ e).heap=(e.σ.next,Blk.box xs)::e.σ.heap∧(app e.σ e).next=e.σ.next+1:=by
  simp only[app,hres,hR,hed,St.put,if_true]
  exact⟨rfl,rfl⟩
 have al:=he.alike (((aBq (fun i=>listed.getD i false) es σ0).new (.box xs)).put (some d) (.l (.ptr (aBq (fun i=>listed.getD i false) es σ0).next 0)))
  (fun t'=>by rw[aIz,hed,hval,hh2];rfl)
  (by rw[heff];simp only[if_true];rw[happ.1,←hh1,←hh2];rfl) (by rw[heff];simp only[if_true];rw[happ.2,←hh2];rfl) rfl
 have ghw:w'.heap[g]? =some (.cells z t (0,0)):=(hr.heap.gh g _ hgz).1
 have hrunS:=aGi (hE.ty t ti hti) (b:=g) (o:=0) (v:=a'.eval x) (by rw[hcz];exact hlen) hone ghw (aFu _) (by rw[hcz,hzs,hlen];omega)
 unfold wpOp
 rw[f.h2]
 have hwa:Region.wanted o2 (yielded ops a'.tmps)=true:=by unfold Region.wanted;rw[f.g2]
 simp only[hwa,if_true]
 refine .inl ?_
 have hev2:a'.eval (.tmp d)=.pointer (some ⟨g,0,none⟩):=tmd
 have hrun1:(execOp a'.eval o2).run c.P w'=.ok .skip (w'.setCells g 0 (a'.eval x).cells.toList):=by
  simp only[execOp,f.p2,hev2]
  rw[Sem.run_bind,hrunS]
  rfl
 unfold Oper.wp
 rw[hrun1,Oper.upon_skip,f.d2]
 have bef:∀ q' d' t' x',aCb E ops (aB4 ops) q'=some (d',t',x')→(listed.setIfInBounds (q+1) true).getD q' false=true→(listed.setIfInBounds (q+1) true).getD (q'+1) false=false →
   q'≠q∧listed.getD q' false=true∧listed.getD (q'+1) false=false:=fun q' d' t' x' hq' h1 h2=>by
  have hqq:q'≠q:=fun e=>by
   rw[e,aE0 hin',if_pos rfl]at h2;cases h2
  obtain⟨k1,_⟩:=aIn hq hq' hqq
  rw[aE0 hin',if_neg k1]at h1
  rw[aE0 hin',if_neg (by omega)]at h2
  exact⟨hqq,h1,h2⟩
 refine hn _ hge2 _ _ ⟨⟨by simp[hf.inv.size],he.closed,hf.inv.nt,_,al.rel hr2,al.far hfar3⟩,fun b o hb=>?_,fun q' d' t' x' hq' h1 h2=>?_,fun q1 d1 t1 x1 q2 d2 t2 x2 hq1 h1 h2 hq2 h1' h2' heq=>?_,fun b ob hb=>?_⟩
 ·exact (if_neg fun e=>by rw[e,hcg]at hb;cases hb).trans (hf.up b o hb)
 ·obtain⟨k0,k1,k2⟩:=bef q' d' t' x' hq' h1 h2
  obtain⟨g',z',ti',m1,m2,m3⟩:=hf.pend q' d' t' x' hq' k1 k2
  refine⟨g',z',ti',m1,(if_neg fun e=>?_).trans m2,m3⟩
  rw[e]at m1
  exact k0 (hf.apart q' d' t' x' q d t x hq' k1 k2 hq hLq hAi (m1.trans tmd.symm))
 ·obtain⟨_,k1,k2⟩:=bef q1 d1 t1 x1 hq1 h1 h2
  obtain⟨_,k1',k2'⟩:=bef q2 d2 t2 x2 hq2 h1' h2'
  exact hf.apart q1 d1 t1 x1 q2 d2 t2 x2 hq1 k1 k2 hq2 k1' k2' heq
 ·split at hb
  ·cases hb
  ·rename_i hbg
   rcases hf.down b ob hb with h | ⟨q',d',t',x',hq',h1,h2,h3⟩
   ·exact .inl h
   ·have hqq:q'≠q:=fun e=>by
     subst e
     rw[hq]at hq'
     obtain⟨rfl,rfl,rfl⟩:d=d'∧t=t'∧x=x':=by simpa using hq'
     rw[tmd]at h3
     simp at h3
     exact hbg h3.symm
    obtain⟨k1,_⟩:=aIn hq hq' hqq
    exact .inr ⟨q',d',t',x',hq',by rw[aE0 hin',if_neg k1];exact h1,by rw[aE0 hin',if_neg (by omega)];exact h2,h3⟩
theorem bVx (hE:aDx c.P E) {es:List Ent} {σ0 σN:St} {β:aCr} {w:World} {gh:Nat→Option Obj} {hge:∀ b o,gh b=some o→c.w0.heap.size≤b} (hstat:aHv (aB8 E ops) (aB4 (aB8 E ops))=true)
  (hrun:∀ c':Ctx,c'.P=c.P→bB7 c' E (aB8 E ops) (List.range ops.size) σ0 es σN) (hvop:∀ e,e∈es→(∀ cl,e.o.op≠.call cl)→∀ R all,e.res=some (R,all)→aBv E e.σ e.o.op=some R)
  (htr:bIv (aB4 (aB8 E ops)) (es.filterMap Ent.ev?).reverse=true)
  {listed:Array Bool} {a':Act} {w':World} (hf:bNn c E ops es σ0 β w listed a' w' gh hge) {i:Nat} (hi:i∈Region.ready .any ops listed) {next:Act→World→Prop}
  (hn:∀ gh2 hge2 a2 w2,bNn c E ops es σ0 β w (listed.setIfInBounds i true) a2 w2 gh2 hge2→next a2 w2):wpOp c.P ops Q i next a' w':=by
 cases h1:aCb E ops (aB4 ops) i with
 |some p =>
  obtain⟨d,t,x⟩:=p
  exact bDo hE hstat hrun hvop htr hf hi h1 hn
 |none =>
  cases i with
  |zero=>exact aRf hstat hrun htr hf hi h1 (fun j hj=>by omega) hn
  |succ q =>
   cases h2:aCb E ops (aB4 ops) q with
   |some p =>
    obtain⟨d,t,x⟩:=p
    exact bDn hE hstat hrun hvop htr hf hi h2 hn
   |none=>exact aRf hstat hrun htr hf hi h1 (fun j hj=>Nat.succ.inj hj▸h2) hn
theorem bMd (hE:aDx c.P E) {es:List Ent} {σ0 σN:St} {β:aCr} {w:World} (hstat:aHv (aB8 E ops) (aB4 (aB8 E ops))=true)
  (hrun:∀ c':Ctx,c'.P=c.P→bB7 c' E (aB8 E ops) (List.range ops.size) σ0 es σN) (hvop:∀ e,e∈es→(∀ cl,e.o.op≠.call cl)→∀ R all,e.res=some (R,all)→aBv E e.σ e.o.op=some R)
  (htr:bIv (aB4 (aB8 E ops)) (es.filterMap Ent.ev?).reverse=true)
  (hk:∀ β' a' w',Rel c σN β' a' w'→E.nt≤a'.tmps.size→Far c σ0 β w σN β' w'→Q .normal a' w') :
  ∀ (fuel:Nat) (listed:Array Bool) (a':Act) (w':World) gh hge,bNn c E ops es σ0 β w listed a' w' gh hge→(List.range ops.size).countP (fun j=> !(listed.getD j false))≤fuel→wpAny c.P .any ops Q fuel listed a' w':=by
 obtain⟨f1,f2,f3,f4⟩:=aQg (hrun c rfl)
 have all:∀ {listed:Array Bool} {a':Act} {w':World} {gh hge},bNn c E ops es σ0 β w listed a' w' gh hge→(∀ j,j<ops.size→listed.getD j false=true)→Q .normal a' w':=fun {listed a' w' gh hge} hf h=>by
  have hgh:gh=c.gh:=by
   funext b
   cases hb:gh b with
   |none =>
    cases hc:c.gh b with
    |none=>rfl
    |some o=>rw[hf.up b o hc]at hb;cases hb
   |some o =>
    rcases hf.down b o hb with hc | ⟨q,d,t,x,hq,_,h2,_⟩
    ·exact hc.symm
    ·obtain⟨o1,o2,ff⟩:=aFa hq
     rw[h (q+1) (Array.getElem?_eq_some_iff.1 ff.h2).1]at h2
     cases h2
  subst hgh
  obtain⟨β',hr,hfar⟩:=hf.inv.rel
  have:aBq (fun i=>listed.getD i false) es σ0=σN:=by
   rw[f3]
   refine aF2 es σ0 fun e he=>h e.i ?_
   have:e.i∈es.map (·.i):=List.mem_map.2 ⟨e,he,rfl⟩
   rw[f1]at this
   exact List.mem_range.1 this
  rw[this]at hr hfar
  exact hk β' a' w' hr hf.inv.nt hfar
 have none:∀ {listed:Array Bool},listed.size=ops.size→Region.ready .any ops listed=[]→∀ j,j<ops.size→listed.getD j false=true:=fun {listed} hsz hr j=>by
  induction j using Nat.strongRecOn with
  |_ j ih =>
   intro hj
   cases hl:listed.getD j false with
   |true=>rfl
   |false =>
    exfalso
    have:j∈Region.ready .any ops listed:=mem_ready.2 ⟨by rw[aCs (by omega) true false];exact hl,ops[j],Array.getElem?_eq_getElem hj,fun e he hb=>by
     have:=aQ7 (ops:=aB8 E ops) hstat (j:=j) (y:=aHq E ops (aB4 ops) ops[j] j) (by rw[aEc,Array.getElem?_eq_getElem hj];rfl) (e:=e) (by rw[aIo];exact he) hb
     exact ih e.on this (by omega)⟩
    rw[hr]at this
    cases this
 intro fuel
 induction fuel with
 |zero =>
  intro listed a' w' gh hge hf hc
  have hls:listed.size=ops.size:=by rw[hf.inv.size,aCi]
  have h:∀ j,j<ops.size→listed.getD j false=true:=fun j hj=>by
   have:=List.countP_eq_zero.1 (Nat.le_zero.1 hc) j (List.mem_range.2 hj)
   simpa using this
  refine⟨?_,all hf h⟩
  cases hr:Region.ready .any ops listed with
  |nil=>rfl
  |cons i r =>
   exfalso
   have hi:i∈Region.ready .any ops listed:=by rw[hr];exact List.mem_cons_self
   obtain⟨hun,o,ho,_⟩:=mem_ready.1 hi
   have hin:i<ops.size:=(Array.getElem?_eq_some_iff.1 ho).1
   have:=h i hin
   rw[aCs (by rw[hls];exact hin) false true,hun]at this
   cases this
 |succ fuel ih =>
  intro listed a' w' gh hge hf hc
  have hls:listed.size=ops.size:=by rw[hf.inv.size,aCi]
  refine⟨fun hr=>all hf (none hls hr),fun i hi=>bVx hE hstat hrun hvop htr hf hi fun gh2 hge2 a2 w2 hf2=>ih _ a2 w2 gh2 hge2 hf2 ?_⟩
  obtain⟨hun,o,ho,_⟩:=mem_ready.1 hi
  have hin:i<ops.size:=(Array.getElem?_eq_some_iff.1 ho).1
  have hAi:listed.getD i false=false:=by rw[aCs (by rw[hls];exact hin) false true];exact hun
  have:=aNz (p:=fun j=> !(listed.getD j false)) (List.range ops.size) (List.mem_range.2 hin) (by simp only[hAi];rfl)
  have e:(fun j=> !((listed.setIfInBounds i true).getD j false))=fun j=> !(listed.getD j false)&&j != i:=by
   funext j
   by_cases hj:j=i
   ·subst hj;simp[hls,hin]
   ·rw[getD_set_ne false (fun e=>hj e.symm)];simp[hj]
  rw[e]
  omega
end
end Go.Proofs.YtigodjkegcibhaaGreatDoor.V
