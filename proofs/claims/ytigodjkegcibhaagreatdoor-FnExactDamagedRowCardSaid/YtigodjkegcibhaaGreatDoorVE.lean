/- The value-level interpreter over the model, part E: definitions, or lemmas that show that it is the model's. -/
import Derived.Test.YtigodjkegcibhaaGreatDoorVD
set_option linter.unusedVariables false
set_option linter.unusedSimpArgs false
set_option linter.unusedSectionVars false
set_option linter.unnecessarySimpa false
namespace Go.Proofs.YtigodjkegcibhaaGreatDoor.V
section
variable {c:Ctx} {w:World} {β:aDr} {E:Env} {σ:St} {R:V.R}
theorem aF1 (h:aD7) (id:Nat) (new:Blk) {i:Nat} (hi:i≠id):(upd h id new).lookup i=h.lookup i:=by
 induction h with
 |nil=>rfl
 |cons p h ih =>
  obtain⟨k,b⟩:=p
  have ih':List.lookup i (List.map (fun p=>if (p.1==id)=true then (id,new)else p) h)=h.lookup i:=ih
  simp only[upd,List.map_cons]
  by_cases hk:k=id
  ·subst hk
   have:(i==k)=false:=by simpa using hi
   simp only[beq_self_eq_true,if_true,List.lookup,this]
   exact ih'
  ·have:(k==id)=false:=by simpa using hk
   simp only[this,Bool.false_eq_true,if_false,List.lookup]
   split
   ·rfl
   ·exact ih'
theorem aK3 (h:aD7) (ids:List Nat) {i:Nat} (hi:i∉ids):(freeze h ids).lookup i=h.lookup i:=by
 rw[aDj]
 have:ids.contains i=false:=by simpa using hi
 simp only[this]
 cases h.lookup i<;>simp
theorem bKy {op:Op} (h:aC7 E σ op=some R) {id:Nat} (hid:id<σ.next) (ht:id∉R.touched):R.st.heap.lookup id=σ.heap.lookup id:=by
 by_cases hp:Op.plain op=true
 ·obtain⟨v,rfl⟩:=aId hp h
  rfl
 ·have hne:id≠σ.next:=by omega
  cases hf:R.eff with
  |false =>
   obtain⟨v,rfl,_⟩:=aFx (σ2:=σ) (fun _ _=>rfl) (fun _ _ _ _ _=>rfl) h hf
   rfl
  |true =>
   cases op<;>simp only[Op.plain,not_true,not_false_iff]at hp<;>simp only[aC7,vop]at h
   case alloc t =>
    (repeat' split at h)<;>first | exact (aA3 h).elim | (obtain rfl:=aAo h;exact aB0 hne)
   case box t x =>
    (repeat' split at h)<;>first | exact (aA3 h).elim | (obtain rfl:=aAo h;exact aB0 hne)
   case makeSlice t n m =>
    (repeat' split at h)<;>first | exact (aA3 h).elim | (obtain⟨_,h⟩:=aAu h;obtain rfl:=aAo h;exact aB0 hne)
   case store t p x =>
    (repeat' split at h)<;>first
     |exact (aA3 h).elim
     |(obtain rfl:=aAo h;exact aF1 _ _ _ (by simpa using ht))
     |(obtain⟨_,h⟩:=aAu h;obtain rfl:=aAo h;exact aF1 _ _ _ (by simpa using ht))
   case buildSlice t n ps =>
    (repeat' split at h)<;>first
     |exact (aA3 h).elim
     |(obtain rfl:=aAo h;exact (aB0 hne).trans (aK3 _ _ ht))
   case convert s d x =>
    (repeat' split at h)<;>first
     |exact (aA3 h).elim
     |(obtain rfl:=aAo h;first | (cases hf;done) | exact aB0 hne)
     |(obtain⟨_,h⟩:=aAu h;obtain rfl:=aAo h;first | (cases hf;done) | exact aB0 hne)
   case call cl =>
    obtain⟨callee,args,ats⟩:=cl
    cases callee with
    |builtin b =>
     cases b with
     |clear =>
      simp only[vop]at h
      (repeat' split at h)<;>first
       |exact (aA3 h).elim
       |(obtain⟨_,h⟩:=aAu h;obtain rfl:=aAo h;exact aF1 _ _ _ (by simpa using ht))
     |append =>
      simp only[vop]at h
      (repeat' split at h)<;>first
       |exact (aA3 h).elim
       |(obtain⟨_,h⟩:=aAu h;obtain rfl:=aAo h;first
        |exact aB0 hne
        |(refine (aB0 hne).trans ?_;rw[aC5,if_neg (by simpa using ht)]))
     |len =>
      exfalso
      simp only[vop]at h
      (repeat' split at h)<;>first | exact (aA3 h).elim | (obtain rfl:=aAo h;cases hf)
     |max =>
      exfalso
      simp only[vop]at h
      (repeat' split at h)<;>first | exact (aA3 h).elim | (obtain rfl:=aAo h;cases hf)
     |min =>
      exfalso
      simp only[vop]at h
      (repeat' split at h)<;>first | exact (aA3 h).elim | (obtain rfl:=aAo h;cases hf)
     |_=>exact (aA3 h).elim
    |_=>exact (aA3 h).elim
theorem bP1 {op : Op} {σ2 : St} (h : ∀ x, x ∈ op.operands → σ2.ev x = σ.ev x) : op.eats σ2 = op.eats σ := by
  cases op with
  | buildSlice t n ps =>
    simp only [Op.eats, List.flatMap]
    congr 1
    refine List.map_congr_left fun p hp => ?_
    rw [h p.2 (by simp only [Op.operands]; simp; exact ⟨p.1, by simpa using hp⟩)]
  | call cl =>
    obtain ⟨callee, args, ats⟩ := cl
    cases callee with
    | builtin b =>
      cases b with
      | append =>
        simp only [Op.eats]
        cases ha : args.toList with
        | nil => rfl
        | cons s r =>
          have : s ∈ args := by have : s ∈ args.toList := by rw [ha]; exact List.mem_cons_self
                                simpa using this
          simp only []
          rw [h s (by simp [Op.operands, Call.operands, this])]
      | _ => rfl
    | _ => rfl
  | _ => rfl
theorem bSk {op:Op} (h:aC7 E σ op=some R) (hf:R.eff=false) (σ2:St):op.eats σ2=[]:=by
 cases op with
 |buildSlice t n ps =>
  exfalso
  simp only[aC7,vop]at h
  (repeat' split at h)<;>first
   |exact (aA3 h).elim
   |(obtain rfl:=aAo h;cases hf)
 |call cl =>
  obtain⟨callee,args,ats⟩:=cl
  cases callee with
  |builtin b =>
   cases b with
   |append =>
    exfalso
    simp only[aC7,vop]at h
    (repeat' split at h)<;>first
     |exact (aA3 h).elim
     |(obtain⟨_,h⟩:=aAu h;obtain rfl:=aAo h;cases hf)
   |_=>rfl
  |_=>rfl
 |_=>rfl
theorem bLt {pins ids:List Nat} (h:aEc pins ids=true) {id:Nat} (hp:id∈pins):id∉ids:=fun hi=>by
 have:=List.all_eq_true.1 h id hi
 simp[hp]at this
theorem bXf {op:Op} (h:aC7 E σ op=some R) {id:Nat} {x:Blk} (hid:id<σ.next) (hpin:id∈σ.pins) (hfr:aEc σ.pins (op.eats σ)=true) (hx:σ.heap.lookup id=some x) (hxf:x.isFro=false) :
  ∃ x',R.st.heap.lookup id=some x'∧x'.isFro=false:=by
 by_cases ht:id∈R.touched
 ·have hno:=bLt hfr hpin
  by_cases hp:Op.plain op=true
  ·obtain⟨v,rfl⟩:=aId hp h
   cases ht
  ·cases hf:R.eff with
   |false =>
    obtain⟨v,rfl,_⟩:=aFx (σ2:=σ) (fun _ _=>rfl) (fun _ _ _ _ _=>rfl) h hf
    cases ht
   |true =>
    cases op<;>simp only[Op.plain,not_true,not_false_iff]at hp<;>simp only[aC7,vop]at h
    case alloc t =>
     exfalso
     (repeat' split at h)<;>first | exact (aA3 h).elim | (obtain rfl:=aAo h;cases ht)
    case box t y =>
     exfalso
     (repeat' split at h)<;>first | exact (aA3 h).elim | (obtain rfl:=aAo h;cases ht)
    case makeSlice t n m =>
     exfalso
     (repeat' split at h)<;>first | exact (aA3 h).elim | (obtain⟨_,h⟩:=aAu h;obtain rfl:=aAo h;cases ht)
    case store t p y =>
     (repeat' split at h)<;>first
      |exact (aA3 h).elim
      |(obtain rfl:=aAo h;obtain rfl:=List.mem_singleton.1 ht;exact⟨_,(aCu _ _ _ ⟨x,hx⟩ _).trans (if_pos rfl),rfl⟩)
      |(obtain⟨_,h⟩:=aAu h;obtain rfl:=aAo h;obtain rfl:=List.mem_singleton.1 ht;exact⟨_,(aCu _ _ _ ⟨x,hx⟩ _).trans (if_pos rfl),rfl⟩)
    case buildSlice t n ps =>
     exfalso
     (repeat' split at h)<;>first
      |exact (aA3 h).elim
      |(obtain rfl:=aAo h;exact hno ht)
    case convert s d y =>
     exfalso
     (repeat' split at h)<;>first
      |exact (aA3 h).elim
      |(obtain rfl:=aAo h;cases ht)
      |(obtain⟨_,h⟩:=aAu h;obtain rfl:=aAo h;cases ht)
    case call cl =>
     obtain⟨callee,args,ats⟩:=cl
     cases callee with
     |builtin b =>
      cases b with
      |clear =>
       simp only[vop]at h
       (repeat' split at h)<;>first
        |exact (aA3 h).elim
        |(obtain⟨_,h⟩:=aAu h;obtain rfl:=aAo h;obtain rfl:=List.mem_singleton.1 ht;exact⟨_,(aCu _ _ _ ⟨x,hx⟩ _).trans (if_pos rfl),rfl⟩)
      |append =>
       exfalso
       simp only[vop]at h
       split at h
       ·rename_i s y t u hargs hats
        simp only[Op.eats,hargs]at hno
        (repeat' split at h)<;>first
         |exact (aA3 h).elim
         |(obtain⟨_,h⟩:=aAu h;obtain rfl:=aAo h;first
          |(cases ht;done)
          |(rw[show σ.ev s=W.l (L.ref _ 0 _) by assumption]at hno;exact hno (by simpa[W.ids,L.ids]using ht)))
       ·exact (aA3 h).elim
      |len =>
       exfalso
       simp only[vop]at h
       (repeat' split at h)<;>first | exact (aA3 h).elim | (obtain rfl:=aAo h;cases hf)
      |max =>
       exfalso
       simp only[vop]at h
       (repeat' split at h)<;>first | exact (aA3 h).elim | (obtain rfl:=aAo h;cases hf)
      |min =>
       exfalso
       simp only[vop]at h
       (repeat' split at h)<;>first | exact (aA3 h).elim | (obtain rfl:=aAo h;cases hf)
      |_=>exact (aA3 h).elim
     |_=>exact (aA3 h).elim
 ·exact⟨x,(bKy h hid ht).trans hx,hxf⟩
theorem bHt:∀ {ks:List (K×Bool)} {ls:List L} {cs rest:List C} {h h':aD7} {b:Bool},aD4 E ks ls cs h=some (b,rest,h')→∀ {id:Nat},id∉aD5 ks ls→h'.lookup id=h.lookup id:=by
 intro ks
 induction ks with
 |nil =>
  intro ls cs rest h h' b ht id hid
  cases ls<;>simp[aD4]at ht
  obtain⟨_,_,rfl⟩:=ht
  rfl
 |cons k ks ih =>
  intro ls cs rest h h' b ht id hid
  obtain⟨kd,own⟩:=k
  cases ls with
  |nil=>cases own<;>cases kd<;>simp[aD4]at ht
  |cons x ls =>
   cases own with
   |false =>
    have e:aD5 ((kd,false)::ks) (x::ls)=aD5 ks ls:=by simp[aD5]
    rw[e]at hid
    exact ih (by simpa[aD4]using ht) hid
   |true =>
    cases kd with
    |slice e =>
     cases x with
     |ref i off n =>
      cases cs with
      |nil=>simp[aD4]at ht
      |cons d cs =>
       simp only[aD5,List.mem_cons,not_or]at hid
       simp only[aD4]at ht
       split at ht
       ·split at ht
        ·split at ht
         ·rename_i hrec
          simp only[Option.some.injEq,Prod.mk.injEq]at ht
          obtain⟨_,_,rfl⟩:=ht
          rw[ih hrec hid.2,aF1 _ _ _ hid.1]
         ·cases ht
        ·cases ht
       ·cases ht
     |_=>cases cs<;>simp[aD4]at ht
    |_=>cases x<;>cases cs<;>simp[aD4]at ht
theorem aXb:∀ {ps:List PTy} {ws:List W} {cs:List C} {h h':aD7} {b:Bool},aB8 E ps ws cs h=some (b,h')→∀ {id:Nat},id∉aBi ps ws→h'.lookup id=h.lookup id:=by
 intro ps
 induction ps with
 |nil =>
  intro ws cs h h' b ht id hid
  cases ws<;>cases cs<;>simp[aB8]at ht
  obtain⟨_,rfl⟩:=ht
  rfl
 |cons p ps ih =>
  intro ws cs h h' b ht id hid
  cases ws with
  |nil=>cases p<;>simp[aB8]at ht
  |cons x ws =>
   cases p with
   |val agg ks =>
    have e:aBi (.val agg ks::ps) (x::ws)=aBi ps ws:=by simp[aBi]
    rw[e]at hid
    exact ih (by simpa[aB8]using ht) hid
   |wr agg ks =>
    simp only[aB8]at ht
    split at ht
    ·rename_i xs hwl
     simp only[aBi,hwl,List.mem_append,not_or]at hid
     split at ht
     ·rename_i hw1
      split at ht
      ·rename_i hrec
       simp only[Option.some.injEq,Prod.mk.injEq]at ht
       obtain⟨_,rfl⟩:=ht
       rw[ih hrec hid.2,bHt hw1 hid.1]
      ·cases ht
     ·cases ht
    ·cases ht
   |box ks =>
    cases x with
    |agg xs=>simp[aB8]at ht
    |tup xs=>simp[aB8]at ht
    |bz t=>simp[aB8]at ht
    |l y =>
     cases y with
     |ptr i off =>
      cases off with
      |succ k=>simp[aB8]at ht
      |zero =>
       simp only[aBi,List.mem_cons,not_or]at hid
       simp only[aB8]at ht
       split at ht
       ·cases hr:aB8 E ps ws (cs.drop ks.length) (upd h i (.box (aBv cs 0 ks).2))with
        |none=>rw[hr]at ht;cases ht
        |some q =>
         obtain⟨b',h''⟩:=q
         rw[hr]at ht
         simp only[Option.some.injEq,Prod.mk.injEq]at ht
         obtain⟨_,rfl⟩:=ht
         rw[ih hr hid.2,aF1 _ _ _ hid.1]
       ·cases ht
     |_=>simp[aB8]at ht
theorem aZp {sig:Sig} {spec:Spec} {ws:List W} (hR:bTh E σ sig spec ws R) {id:Nat} (hid:id<σ.next) (ht:id∉R.touched):R.st.heap.lookup id=σ.heap.lookup id:=by
 obtain⟨cs,outs,rs,rest,nb,h',hp,hn,hs,hk,htk,htb,rfl⟩:=hR
 simp only[List.mem_append,not_or]at ht
 show List.lookup id (aCz σ.next nb++h')=_
 rw[aHq 0,if_neg (by omega),aXb htb ht.1]
 split
 ·rename_i hnest
  rw[hnest]at ht
  exact aK3 _ _ ht.2
 ·rfl
def cB6 (c:Ctx) (o:Oper) (σ:St) (R:V.R):Prop :=
 ∀ β a w,Rel c σ β a w→∀ (next:Act→World→Prop) (Q:Exit→Act→World→Prop),(∀ v w',bHm c σ β w R v w'→next (a.put o.dst v) w')→o.wp c.P a w next Q
structure aQ5 (c:Ctx) (o:Oper) (σ:St) (R:V.R) (all:Bool):Prop where
 eff:R.eff=true→∀ s2,(∀ x,x∈o.op.operands→({σ with slots:=s2}:St).ev x=σ.ev x)→cB6 c o {σ with slots:=s2} (aKw s2 R)
 pure:R.eff=false→∀ σ2:St,(∀ x,x∈o.op.operands→σ2.ev x=σ.ev x)→(aQs o.op=false→∀ x,x∈o.op.operands→aQ4 σ σ2 (σ.ev x))→cB6 c o σ2 (aBl σ2 R.val)
 st:(R.eff=false→R=aBl σ R.val)∧R.st.slots=σ.slots∧R.st.pins=σ.pins
 keep:all=false→∀ id,id<σ.next→id∉R.touched→R.st.heap.lookup id=σ.heap.lookup id
def aWn {α:Type} (c:Ctx) (I:Inl α):Prop :=
 ∀ g fn ws σ (k:W→St→Option (List Nat)→T α) r,c.P.funcs[g]? =some fn→(I g fn ws σ k).eval=some r→∃ x σ' ts,(k x σ' ts).eval=some r∧(∀ l,ts=some l→∀ id,id<σ.next→id∉l→σ'.heap.lookup id=σ.heap.lookup id)∧σ'.pins=σ.pins∧fn.body.isSome=true∧∀ (β:aDr) (w:World) (vals:List Value),aBn c w σ.heap σ.next β→vals.length=ws.length →
  (∀ (i:Nat) (v:Value) (x:W),vals[i]? =some v→ws[i]? =some x→aFt (okD c σ.heap β) w σ.heap σ.next β v x) →
  (∀ (j:Nat) (id:Nat),σ.pins[j]? =some id→id<σ.next∧(∃ x,σ.heap.lookup id=some x∧x.isFro=false)∧c.pb[j]? =some (β id))→σ.pins.length=c.pb.length →
  Calls c.P g vals.toArray w fun e w'=>∃ v,e=.returned v∧bHm c σ β w {val:=x,st:={σ' with slots:=σ.slots},eff:=true} v w'
structure aA8 (P:Program) (E:Env):Prop where
 ok:aFu P E
 law:∀ g sig spec,E.Γ g=some (sig,spec)→aAs P g sig spec
 name : ∀ g fn, E.inl g = some fn → (fn.name == "runtime.NumGoroutine") = false
 mixed:P.follows .mixedOrders=true
theorem bA0 {P:Program} {o:Oper} {a:Act} {f:FuncId} {vals:Array Value} {Rr:Value→World→Prop} {next:Act→World→Prop} {Q:Exit→Act→World→Prop} (hrun:execOp a.eval o=callFunc f vals) (hg:bZf P f vals w Rr)
  (hn:∀ v w',Rr v w'→next (a.put o.dst v) w'):o.wp P a w next Q:=by
 unfold Oper.wp
 rw[hrun]
 rcases hg with⟨h1,h2⟩ | ⟨v,w',h1,h2⟩
 ·rw[h1,Oper.upon_enter]
  refine h2.mono fun e w' he=>?_
  obtain⟨v,rfl,hv⟩:=he
  exact hn v w' hv
 ·rw[h1,Oper.upon_value]
  exact hn v w' h2
theorem bIt {ok:Nat→Prop} {h:aD7} {nx:Nat} {v:Value} {x:C} (hr:Rep w ok v x):aMn ok w h nx β v (L.ofC x):=by
 cases x with
 |int k n=>cases hr;rfl
 |bool t=>cases hr;rfl
 |str s=>cases hr;exact⟨_,rfl,rfl⟩
 |sl rows=>exact hr
 |fn g caps=>exact hr
 |pt row =>
  cases hr with
  |pt b o _ f h1 h2 h3 h4 =>
   refine⟨b,o,rfl,h1,h2,fun j x hx=>?_⟩
   rw[Nat.zero_add]at hx
   exact⟨_,h3 j (List.getElem?_eq_some_iff.1 hx).1,h4 j x hx⟩
 |err x=>exact hr
theorem bW0 {ok:Nat→Prop} {h:aD7} {nx:Nat} {v:Value} {x:Sum Nat C} (hr:aQ6 ok w h nx β v x):aMn ok w h nx β v (cC1 x):=by
 cases x with
 |inl id=>exact hr
 |inr y=>exact bIt hr
theorem aRg {s2:List (Nat×W)} {v:Value} {w':World} (h:bHm c σ β w R v w'):bHm c {σ with slots:=s2} β w (aKw s2 R) v w':=by
 obtain⟨β',d1,d2,d3,d4,d5,d6⟩:=h
 exact⟨β',d1,d2,d3,rfl,d5,d6⟩
theorem bP2 {s:Sem Next} (hd:aCa c σ β w s R) (hpin:∀ id x,id<σ.next→id∈σ.pins→σ.heap.lookup id=some x→x.isFro=false→∃ x',R.st.heap.lookup id=some x'∧x'.isFro=false):∃ v w',(s.run c.P w=.ok (.value v) w'∨(s.run c.P w=.ok .skip w'∧v=undef))∧(aBn c w σ.heap σ.next β→bHm c σ β w R v w'):=by
 obtain⟨v,w',β',h1,h2,h3,h4,h5,h6,h7,h8⟩:=hd
 refine⟨v,w',h1,fun hh=>⟨β',h2,h3,h4,h5,h6,fun id cells hl=>?_,fun id x hp hl hf=>?_⟩⟩
 ·obtain⟨cells',hl'⟩:=h7 id cells hl
  obtain⟨e1,x,hx,hs⟩:=h3.site id _ (hh.blk id _ hl).1 hl'
  rw[hl]at hx
  obtain rfl:=Option.some.inj hx
  exact⟨cells',hl',hs,e1⟩
 ·obtain⟨x',hl',hf'⟩:=hpin id x (hh.blk id _ hl).1 hp hl hf
  exact⟨x',hl',hf',(h3.site id _ (hh.blk id _ hl).1 hl').1⟩
theorem aM2 {a:Act} (hr:Rel c σ β a w):∀ id x b,aEc σ.pins [id]=true→σ.heap.lookup id=some x→β id=some b→c.w0.heap.size≤b:=by
 intro id x b hf hl hb
 rcases (hr.heap.place id x b hl hb).1 with h | ⟨h,_⟩
 ·exact h
 ·exfalso
  obtain⟨j,hj⟩:=List.getElem?_of_mem h
  have hlt:j<σ.pins.length:=by rw[hr.npins];exact (List.getElem?_eq_some_iff.1 hj).1
  obtain⟨_,⟨y,hy,_⟩,h3⟩:=hr.pins j _ (List.getElem?_eq_getElem hlt)
  rw[hj]at h3
  have:=hr.heap.inj id _ x y b hl hy hb (Option.some.inj h3).symm
  exact bLt hf (this▸List.getElem_mem hlt) List.mem_cons_self
theorem bQ3 (hE:aFu c.P E) {o:Oper} {R:V.R} (he:aC7 E σ o.op=some R) (hfr:aEc σ.pins (o.op.eats σ)=true):cB6 c o σ R:=by
 intro β a w hr next Q hn
 obtain⟨v,w',hrun,hd⟩:=bP2 (bZk hE hr.heap (aR1 hr.slot) (fun id x b hi hl hb=>aM2 hr id x b (by have:=List.all_eq_true.1 hfr id hi;simpa[aEc]using this) hl hb) he) (fun id x hid hp hl hf=>bXf he hid hp hfr hl hf)
 unfold Oper.wp
 rcases hrun with h | ⟨h,rfl⟩
 ·rw[h,Oper.upon_value];exact hn _ _ (hd hr.heap)
 ·rw[h,Oper.upon_skip];exact hn _ _ (hd hr.heap)
theorem bQ4 (hE:aFu c.P E) {o:Oper} {R:V.R} (he:aC7 E σ o.op=some R) (hfr:aEc σ.pins (o.op.eats σ)=true):aQ5 c o σ R false:=by
 refine⟨fun hf s2 hev=>?_,fun hf σ2 hev hk=>?_,?_,fun _ id hid ht=>bKy he hid ht⟩
 ·have:=bPm (E:=E) (s2:=s2) hev
  rw[he]at this
  exact bQ3 hE this.symm (by rw[bP1 hev];exact hfr)
 ·obtain⟨v,rfl,h2⟩:=aFx hev hk he hf
  exact bQ3 hE h2 (by rw[bSk he hf];rfl)
 ·cases hf:R.eff with
  |false =>
   obtain⟨v,rfl,_⟩:=aFx (σ2:=σ) (fun _ _=>rfl) (fun _ _ _ _ _=>rfl) he hf
   exact⟨fun _=>rfl,rfl,rfl⟩
  |true =>
   have hp:Op.plain o.op≠true:=fun hp=>by obtain⟨v,rfl⟩:=aId hp he;cases hf
   refine⟨fun h=>(nomatch h),?_⟩
   generalize o.op=op at he hp
   cases op<;>simp only[Op.plain,ne_eq,not_true,not_false_iff]at hp<;>simp only[aC7,vop]at he
   case call cl =>
    obtain⟨callee,args,ats⟩:=cl
    cases callee with
    |builtin b =>
     cases b<;>simp only[vop]at he<;>(repeat' split at he)<;>first
      |exact (aA3 he).elim
      |(obtain rfl:=aAo he;exact⟨rfl,rfl⟩)
      |(obtain⟨_,he⟩:=aAu he;obtain rfl:=aAo he;exact⟨rfl,rfl⟩)
    |_=>exact (aA3 he).elim
   all_goals
    (repeat' split at he)<;>first
     |exact (aA3 he).elim
     |(obtain rfl:=aAo he;exact⟨rfl,rfl⟩)
     |(obtain⟨_,he⟩:=aAu he;obtain rfl:=aAo he;exact⟨rfl,rfl⟩)
theorem bD3 {γ:Type} {a:Act} {args:Array Operand} {vs:List Value} {caps:List γ} {F:γ→L} (hr:Rel c σ β a w) (hc:vs.length=caps.length) (hcr:∀ (i:Nat) (v:Value) (x:γ),vs[i]? =some v→caps[i]? =some x→aMn (okD c σ.heap β) w σ.heap σ.next β v (F x)) :
  (args.toList.map a.eval++vs).length=(args.toList.map σ.ev++caps.map fun c=>W.l (F c)).length ∧
  ∀ (i:Nat) (v:Value) (x:W),(args.toList.map a.eval++vs)[i]? =some v→(args.toList.map σ.ev++caps.map fun c=>W.l (F c))[i]? =some x→aFt (okD c σ.heap β) w σ.heap σ.next β v x:=by
 refine⟨by simp[hc],fun i v x hv hx=>?_⟩
 by_cases hi:i<args.toList.length
 ·rw[List.getElem?_append_left (by simpa using hi),List.getElem?_map]at hv hx
  cases ha:args.toList[i]? with
  |none=>rw[ha]at hv;cases hv
  |some y =>
   rw[ha]at hv hx
   obtain rfl:=Option.some.inj hv
   obtain rfl:=Option.some.inj hx
   exact aR1 hr.slot y
 ·rw[List.getElem?_append_right (by simpa using hi)]at hv hx
  simp only[List.length_map]at hv hx
  rw[List.getElem?_map]at hx
  cases hcx:caps[i-args.toList.length]? with
  |none=>rw[hcx]at hx;cases hx
  |some y =>
   rw[hcx]at hx
   obtain rfl:=Option.some.inj hx
   exact hcr _ v y hv hcx
theorem bGy {h h2:aD7}:∀ {caps:List (Sum Nat C)},aO1 caps=[]→caps.mapM (cBe h2)=caps.mapM (cBe h)
 |[],_=>rfl
 |.inl id::r,hc=>by simp[aO1]at hc
 |.inr x::r,hc=>by
  have ih:=bGy (h:=h) (h2:=h2) (caps:=r) hc
  simp only[List.mapM_cons,ih]
  rfl
theorem bW1 {h h2:aD7} {x:L} (hx:x.ids=[]):x.arg h2=x.arg h:=by
 cases x<;>first
  |rfl
  |(simp[L.ids]at hx;done)
  |(simp only[L.arg];rw[bGy (h:=h) hx])
theorem bSr {h h2:aD7} {x:L} (hx:x.ids=[]):x.data h2=x.data h:=by
 cases x<;>first
  |rfl
  |(simp[L.ids]at hx;done)
theorem aZj {h h2:aD7}:∀ {xs:List L},xs.flatMap L.ids=[]→aOn h2 xs=aOn h xs
 |[],_=>rfl
 |x::r,hx=>by
  rw[List.flatMap_cons,List.append_eq_nil_iff]at hx
  have ih:=aZj (h:=h) (h2:=h2) hx.2
  unfold aOn at ih ⊢
  simp only[List.mapM_cons,ih,bSr (h:=h) (h2:=h2) hx.1]
def PTy.isVal:PTy→Bool | .val _ _=>true | _=>false
theorem bF0 {h h2:aD7}:∀ {ps:List PTy} {ws:List W},(ps.all PTy.isVal)=true→(ws.all fun w=>w.ids.isEmpty)=true→aCy E h2 ps ws=aCy E h ps ws∧aBi ps ws=[]∧aDw h2 ps ws=true
 |[],[],_,_=>⟨rfl,rfl,rfl⟩
 |[],_::_,_,_=>⟨rfl,rfl,rfl⟩
 |.val agg ks::ps,[],_,_=>by cases agg<;>exact⟨rfl,rfl,rfl⟩
 |.val agg ks::ps,w::ws,hp,hw=>by
  simp only[List.all_cons,Bool.and_eq_true,List.isEmpty_iff]at hp hw
  obtain⟨i1,i2,i3⟩:=bF0 (h:=h) (h2:=h2) hp.2 hw.2
  refine⟨?_,by simpa[aBi]using i2,by simpa[aDw]using i3⟩
  cases agg with
  |false =>
   cases w with
   |l x=>simp only[aCy,i1];rw[bW1 (h:=h) (by simpa[W.ids]using hw.1)]
   |_=>rfl
  |true =>
   cases w with
   |agg xs=>simp only[aCy,i1];rw[aZj (h:=h) (by simpa[W.ids]using hw.1)]
   |_=>rfl
 |.box _::_,_,hp,_=>by simp[PTy.isVal]at hp
 |.wr _ _::_,_,hp,_=>by simp[PTy.isVal]at hp
theorem aYp {h h2:aD7} {ids ids2:List Nat} {n2:Nat}:∀ {ks:List (K×Bool)} {cs:List C} {n:Nat},(ks.all fun p=> !p.2)=true→aBt E h2 ids2 ks cs n2=aBt E h ids ks cs n∧∀ x,aBt E h ids ks cs n=some x→x.2.2.2=[]
 |[],cs,n,_=>⟨rfl,fun x hx=>by obtain rfl:=Option.some.inj hx;rfl⟩
 |(kd,true)::r,cs,n,hk=>by simp at hk
 |(kd,false)::r,[],n,_=>by
  refine⟨rfl,fun x hx=>?_⟩
  simp[aBt]at hx
 |(kd,false)::r,c::cs,n,hk=>by
  simp only[List.all_cons,Bool.not_false,Bool.true_and]at hk
  obtain⟨i1,i2⟩:=aYp (h:=h) (h2:=h2) (ids:=ids) (ids2:=ids2) (n2:=n2) (cs:=cs) (n:=n) hk
  refine⟨by simp only[aBt,i1],fun x hx=>?_⟩
  simp only[aBt]at hx
  cases ht:aBt E h ids r cs n with
  |none=>rw[ht]at hx;cases hx
  |some y =>
   obtain⟨b,ls,cs',bs⟩:=y
   rw[ht]at hx
   obtain rfl:=Option.some.inj hx
   exact i2 (b,ls,cs',bs) ht
theorem aYo {h h2:aD7} {ids ids2:List Nat}:∀ {ts:List RTy} {cs:List C} {n n2:Nat},(ts.all fun t=>t.ls.all fun p=> !p.2)=true→aEk E h2 ids2 ts cs n2=aEk E h ids ts cs n∧∀ x,aEk E h ids ts cs n=some x→x.2.2.2=[]
 |[],cs,n,n2,_=>⟨rfl,fun x hx=>by obtain rfl:=Option.some.inj hx;rfl⟩
 |t::ts,cs,n,n2,hk=>by
  simp only[List.all_cons,Bool.and_eq_true]at hk
  obtain⟨j1,j2⟩:=aYp (E:=E) (h:=h) (h2:=h2) (ids:=ids) (ids2:=ids2) (n2:=n2) (cs:=cs) (n:=n) hk.1
  cases ht:aBt E h ids t.ls cs n with
  |none =>
   refine⟨by simp only[aEk,j1,ht],fun x hx=>?_⟩
   simp only[aEk,ht]at hx
   cases hx
  |some y =>
   obtain⟨b,ls,cs',bs⟩:=y
   obtain rfl:bs=[]:=j2 _ ht
   obtain⟨i1,i2⟩:=aYo (h:=h) (h2:=h2) (ids:=ids) (ids2:=ids2) (ts:=ts) (cs:=cs') (n:=n) (n2:=n2) hk.2
   refine⟨by simp only[aEk,j1,ht,List.length_nil,Nat.add_zero,i1],fun x hx=>?_⟩
   simp only[aEk,ht,List.length_nil,Nat.add_zero]at hx
   cases hr:aEk E h ids ts cs' n with
   |none=>rw[hr]at hx;cases hx
   |some z =>
    obtain⟨b',rs,cs'',bs'⟩:=z
    rw[hr]at hx
    obtain rfl:=Option.some.inj hx
    exact i2 (b',rs,cs'',bs') hr
theorem aYq {h2:aD7}:∀ {ps:List PTy} {ws:List W} {cs:List C} {h h':aD7} {b:Bool},(ps.all PTy.isVal)=true→aB8 E ps ws cs h=some (b,h')→h'=h∧aB8 E ps ws cs h2=some (b,h2)
 |[],[],[],h,h',b,_,ht=>by
  simp only[aB8,Option.some.injEq,Prod.mk.injEq]at ht
  obtain⟨rfl,rfl⟩:=ht
  exact⟨rfl,rfl⟩
 |[],[],_::_,h,h',b,_,ht=>by simp[aB8]at ht
 |[],_::_,cs,h,h',b,_,ht=>by cases cs<;>simp[aB8]at ht
 |.val agg ks::ps,[],cs,h,h',b,_,ht=>by cases cs<;>simp[aB8]at ht
 |.val agg ks::ps,w::ws,cs,h,h',b,hp,ht=>by
  simp only[List.all_cons,Bool.and_eq_true]at hp
  have ht':aB8 E ps ws cs h=some (b,h'):=by cases cs<;>simpa[aB8]using ht
  obtain⟨i1,i2⟩:=aYq (h2:=h2) hp.2 ht'
  exact⟨i1,by cases cs<;>simpa[aB8]using i2⟩
 |.box _::_,_,_,_,_,_,hp,_=>by simp[PTy.isVal]at hp
 |.wr _ _::_,_,_,_,_,_,hp,_=>by simp[PTy.isVal]at hp
theorem bPb {sig:Sig} {spec:Spec} {ws:List W} (hR:bTh E σ sig spec ws R) (hc:(bB8 sig&&ws.all fun w=>w.ids.isEmpty)=true) (σ2:St):∃ R2,bTh E σ2 sig spec ws R2∧R2.val=R.val∧R2.st=σ2:=by
 obtain⟨cs,outs,rs,rest,nb,h',hp,⟨hn,hdis,hnb,hfb⟩,hs,hkw,ht,htb,rfl⟩:=hR
 simp only[Bool.and_eq_true,bB8,Bool.not_eq_true']at hc
 obtain⟨⟨⟨hnest,hpv⟩,hrv⟩,hws⟩:=hc
 have hpv':(sig.params.all PTy.isVal)=true:=hpv
 obtain⟨p1,p2,p3⟩:=bF0 (E:=E) (h:=σ.heap) (h2:=σ2.heap) hpv' hws
 obtain⟨q1,q2⟩:=aYo (E:=E) (h:=σ.heap) (h2:=σ2.heap) (ids:=aBi sig.params ws) (ids2:=aBi sig.params ws) (ts:=sig.results) (cs:=outs) (n:=σ.next) (n2:=σ2.next) hrv
 obtain rfl:nb=[]:=q2 _ ht
 rw[hnest]at htb
 simp only[Bool.false_eq_true,if_false]at htb
 obtain⟨_,b2⟩:=aYq (E:=E) (h2:=σ2.heap) hpv' htb
 simp only[Bool.and_eq_true]at hkw
 refine⟨{val:=cBc rs,st:={σ2 with heap:=aCz σ2.next []++σ2.heap,next:=σ2.next+0},eff:=true,touched:=[]},⟨cs,outs,rs,rest,[],σ2.heap,by rw[p1];exact hp,⟨by rw[p2];rfl,by rw[p2];rfl,by rw[hnest];rfl,by rw[hnest];rfl⟩,hs,?_,?_,?_,?_⟩,rfl,rfl⟩
 ·rw[Bool.and_eq_true];exact⟨hkw.1,p3⟩
 ·rw[q1];exact ht
 ·rw[hnest];simpa using b2
 ·rw[p2,hnest];rfl
theorem bSm {σ2:St} {R2:V.R} {x:W} {v:Value} {w':World} (h:bHm c σ2 β w R2 v w') (h1:R2.st=σ2) (h2:R2.val=x):bHm c σ2 β w (aBl σ2 x) v w':=by
 unfold bHm at h ⊢
 rw[h1,h2]at h
 exact h
theorem bTm {α:Type} (hE:aA8 c.P E) {I:Inl α} (hI:aWn c I) {o:Oper} {k:V.R→Bool→T α} {r:α} (he:(bTn E I o σ k).eval=some r):∃ R all,aQ5 c o σ R all∧(k R all).eval=some r:=by
 have plain:((if aEc σ.pins (o.op.eats σ)then vop E σ o.op fun r=>k r false else .bad).eval=some r)→∃ R all,aQ5 c o σ R all∧(k R all).eval=some r:=by
  intro h
  split at h
  ·rename_i hfr
   rw[bXg]at h
   cases hv:aC7 E σ o.op with
   |none=>rw[hv]at h;cases h
   |some R=>rw[hv]at h;exact⟨R,false,bQ4 hE.ok hv hfr,h⟩
  ·exact (aA3 h).elim
 unfold bTn at he
 split at he
 ·rename_i f args ats hop
  split at he
  ·rename_i g caps hf
   simp only[]at he
   split at he
   ·rename_i sig spec hΓ
    obtain⟨R,hR,he'⟩:=aYl he
    have heff:R.eff=true:=by obtain⟨_,_,_,_,_,_,_,_,_,_,_,_,rfl⟩:=hR;rfl
    refine⟨R,false,⟨fun _ s2 hev=>?_,fun hf=>(by rw[heff]at hf;cases hf),⟨fun hf=>(by rw[heff]at hf;cases hf),by obtain⟨_,_,_,_,_,_,_,_,_,_,_,_,rfl⟩:=hR;exact⟨rfl,rfl⟩⟩,fun _ id hid ht=>aZp hR hid ht⟩,he'⟩
    intro β a w hr next Q hn
    have hfr:=aR1 hr.slot f
    rw[hev f (by rw[hop];simp[Op.operands,Call.operands]),hf]at hfr
    obtain⟨vs,hfv,hl,hc⟩:=hfr
    have harg:args.toList.map ({σ with slots:=s2}:St).ev=args.toList.map σ.ev:=List.map_congr_left fun x hx=>hev x (by rw[hop];simp[Op.operands,Call.operands];exact .inr (by simpa using hx))
    obtain⟨r1,r2⟩:=bD3 (args:=args) (F:=cC1) hr hl fun i v x hv hx=>bW0 (hc i v x hv hx)
    rw[harg]at r1 r2
    have h1:execOp a.eval o=callFunc g (args.toList.map a.eval++vs).toArray:=by
     simp only[execOp,hop,resolve,hfv,Deferred.ofValue]
     show (invoke (.fn (.func g) vs.toArray) (#[]++args.map a.eval))=_
     simp only[invoke]
     congr 1
     apply Array.ext'
     simp
    exact bA0 h1 (bA3 hE.ok (hE.law g sig spec hΓ) hR hr.heap (aM2 (σ:={σ with slots:=s2}) hr) r1 r2) fun v w' hd=>hn v w' (aRg hd)
   ·exact (aA3 he).elim
  ·rename_i g caps hf
   -- the callee's value,in a state with other slots
   have callee:∀ {s2:List (Nat×W)} {β:aDr} {a:Act} {w:World},(∀ x,x∈o.op.operands→({σ with slots:=s2}:St).ev x=σ.ev x)→Rel c {σ with slots:=s2} β a w →
     ∃ vs:List Value,execOp a.eval o=callFunc g (args.toList.map a.eval++vs).toArray∧(args.toList.map a.eval++vs).length=(args.toList.map σ.ev++caps.map fun c=>W.l (L.ofC c)).length ∧
      ∀ (i:Nat) (v:Value) (x:W),(args.toList.map a.eval++vs)[i]? =some v→(args.toList.map σ.ev++caps.map fun c=>W.l (L.ofC c))[i]? =some x→aFt (okD c σ.heap β) w σ.heap σ.next β v x:=by
    intro s2 β a w hev hr
    have hfr:=aR1 hr.slot f
    rw[hev f (by rw[hop];simp[Op.operands,Call.operands]),hf]at hfr
    have hfr':Rep w (okD c σ.heap β) (a.eval f) (.fn g caps):=hfr
    generalize hfv:a.eval f=fv at hfr'
    cases hfr' with
    |fn _ vs _ hl hc =>
     have harg:args.toList.map ({σ with slots:=s2}:St).ev=args.toList.map σ.ev:=List.map_congr_left fun x hx=>hev x (by rw[hop];simp[Op.operands,Call.operands];exact .inr (by simpa using hx))
     obtain⟨r1,r2⟩:=bD3 (args:=args) (F:=L.ofC) hr hl fun i v x hv hx=>bIt (hc i v x hv hx)
     rw[harg]at r1 r2
     refine⟨vs,?_,r1,r2⟩
     simp only[execOp,hop,resolve,hfv,Deferred.ofValue]
     show (invoke (.fn (.func g) vs.toArray) (#[]++args.map a.eval))=_
     simp only[invoke]
     congr 1
     apply Array.ext'
     simp
   -- the callee's value,in any state where the operands are the same
   have callee2:∀ {σ2:St} {β:aDr} {a:Act} {w:World},(∀ x,x∈o.op.operands→σ2.ev x=σ.ev x)→Rel c σ2 β a w →
     ∃ vs:List Value,execOp a.eval o=callFunc g (args.toList.map a.eval++vs).toArray∧(args.toList.map a.eval++vs).length=(args.toList.map σ.ev++caps.map fun c=>W.l (L.ofC c)).length ∧
      ∀ (i:Nat) (v:Value) (x:W),(args.toList.map a.eval++vs)[i]? =some v→(args.toList.map σ.ev++caps.map fun c=>W.l (L.ofC c))[i]? =some x→aFt (okD c σ2.heap β) w σ2.heap σ2.next β v x:=by
    intro σ2 β a w hev hr
    have hfr:=aR1 hr.slot f
    rw[hev f (by rw[hop];simp[Op.operands,Call.operands]),hf]at hfr
    have hfr':Rep w (okD c σ2.heap β) (a.eval f) (.fn g caps):=hfr
    generalize hfv:a.eval f=fv at hfr'
    cases hfr' with
    |fn _ vs _ hl hc =>
     have harg:args.toList.map σ2.ev=args.toList.map σ.ev:=List.map_congr_left fun x hx=>hev x (by rw[hop];simp[Op.operands,Call.operands];exact .inr (by simpa using hx))
     obtain⟨r1,r2⟩:=bD3 (args:=args) (F:=L.ofC) hr hl fun i v x hv hx=>bIt (hc i v x hv hx)
     rw[harg]at r1 r2
     refine⟨vs,?_,r1,r2⟩
     simp only[execOp,hop,resolve,hfv,Deferred.ofValue]
     show (invoke (.fn (.func g) vs.toArray) (#[]++args.map a.eval))=_
     simp only[invoke]
     congr 1
     apply Array.ext'
     simp
   split at he
   ·rename_i sig spec hΓ
    obtain⟨R,hR,he'⟩:=aYl he
    by_cases hcalm:(bB8 sig&&(args.toList.map σ.ev++caps.map fun c=>W.l (L.ofC c)).all fun w=>w.ids.isEmpty)=true
    ·have hce:cC2 σ sig (args.toList.map σ.ev++caps.map fun c=>W.l (L.ofC c)) R=aBl σ R.val:=if_pos hcalm
     rw[hce]at he'
     refine⟨aBl σ R.val,false,⟨fun hf=>(Bool.noConfusion hf),fun _ σ2 hev _=>?_,⟨fun _=>rfl,rfl,rfl⟩,fun _ _ _ _=>rfl⟩,he'⟩
     intro β a w hr next Q hn
     obtain⟨R2,hR2,hv2,hs2⟩:=bPb hR hcalm σ2
     obtain⟨vs,h1,h2,h3⟩:=callee2 hev hr
     exact bA0 h1 (bA3 hE.ok (hE.law g sig spec hΓ) hR2 hr.heap (aM2 hr) h2 h3) fun v w' hd=>hn v w' (bSm hd hs2 hv2)
    have hce:cC2 σ sig (args.toList.map σ.ev++caps.map fun c=>W.l (L.ofC c)) R=R:=if_neg hcalm
    rw[hce]at he'
    have heff:R.eff=true:=by obtain⟨_,_,_,_,_,_,_,_,_,_,_,_,rfl⟩:=hR;rfl
    refine⟨R,false,⟨fun _ s2 hev=>?_,fun hf=>(by rw[heff]at hf;cases hf),⟨fun hf=>(by rw[heff]at hf;cases hf),by obtain⟨_,_,_,_,_,_,_,_,_,_,_,_,rfl⟩:=hR;exact⟨rfl,rfl⟩⟩,fun _ id hid ht=>aZp hR hid ht⟩,he'⟩
    intro β a w hr next Q hn
    obtain⟨vs,h1,h2,h3⟩:=callee hev hr
    exact bA0 h1 (bA3 hE.ok (hE.law g sig spec hΓ) hR hr.heap (aM2 (σ:={σ with slots:=s2}) hr) h2 h3) fun v w' hd=>hn v w' (aRg hd)
   ·split at he
    ·rename_i fn hfn
     obtain⟨x,σ',ts,he',hkeep,hpins,hbody,hcall⟩:=hI g fn _ σ _ r (hE.ok.inl g fn hfn) he
     refine⟨{val:=x,st:={σ' with slots:=σ.slots},eff:=true,touched:=ts.getD []},ts.isNone,⟨fun _ s2 hev=>?_,fun hf=>(Bool.noConfusion hf),⟨fun hf=>(Bool.noConfusion hf),rfl,hpins⟩,fun h id hid hnt=>?_⟩,he'⟩
     rotate_left
     ·cases ts with
      |none=>exact absurd h (by decide)
      |some l=>exact hkeep l rfl id hid hnt
     intro β a w hr next Q hn
     obtain⟨vs,h1,h2,h3⟩:=callee hev hr
     have hfun:=hE.ok.inl g fn hfn
     refine bA0 (Rr:=bHm c σ β w {val:=x,st:={σ' with slots:=σ.slots},eff:=true}) h1 (.inl ⟨?_,hcall β w _ hr.heap h2 h3 hr.pins hr.npins⟩) fun v w' hd=>hn v w' (aRg hd)
     have hnm : ¬ fn.name = "runtime.NumGoroutine" := by simpa using hE.name g fn hfn
     have hbn:¬fn.body=none:=fun hb=>by simp[hb]at hbody
     simp[callFunc,hfun,hnm,hbn]
    ·exact (aA3 he).elim
  ·exact (aA3 he).elim
 ·exact plain he
end
structure Far (c:Ctx) (σ:St) (β:aDr) (w:World) (σ':St) (β':aDr) (w':World):Prop where
 ext:Ext c w σ.heap σ.next β w' σ'.heap σ'.next β'
 pins:σ'.pins=σ.pins
 box:∀ id cells,σ.heap.lookup id=some (.box cells)→∃ cells',σ'.heap.lookup id=some (.box cells')∧cells'.length=cells.length∧β' id=β id
 pin:∀ id x,id∈σ.pins→σ.heap.lookup id=some x→x.isFro=false→∃ x',σ'.heap.lookup id=some x'∧x'.isFro=false∧β' id=β id
theorem Far.refl (c:Ctx) (σ:St) (β:aDr) (w:World):Far c σ β w σ β w:=⟨Ext.refl _ _ _ _ _,rfl,fun _ cells h=>⟨cells,h,rfl,rfl⟩,fun _ x _ h hf=>⟨x,h,hf,rfl⟩⟩
theorem Far.trans {c:Ctx} {σ σ1 σ2:St} {β β1 β2:aDr} {w w1 w2:World} (x:Far c σ β w σ1 β1 w1) (y:Far c σ1 β1 w1 σ2 β2 w2):Far c σ β w σ2 β2 w2 :=
 ⟨x.ext.trans y.ext,y.pins.trans x.pins,fun id cells h=>by
  obtain⟨c1,h1,l1,b1⟩:=x.box id cells h
  obtain⟨c2,h2,l2,b2⟩:=y.box id c1 h1
  exact⟨c2,h2,l2.trans l1,b2.trans b1⟩,fun id z hp h hf=>by
  obtain⟨x1,h1,l1,b1⟩:=x.pin id z hp h hf
  obtain⟨x2,h2,l2,b2⟩:=y.pin id x1 (by rw[x.pins];exact hp) h1 l1
  exact⟨x2,h2,l2,b2.trans b1⟩⟩
structure Ent where
 i:Nat
 o:Oper
 σ:St
 res:Option (V.R×Bool)
def Ent.ev? (e:Ent):Option Ev:=e.res.map fun p=>{at':=e.i,eff:=p.1.eff,keys:=Op.keys e.σ e.o.op,touched:=p.1.touched,all:=p.2,next:=e.σ.next}
def app (σ:St) (e:Ent):St :=
 match e.res with
 |none=>σ.put e.o.dst (.l .und)
 |some (R,_)=>({slots:=σ.slots,heap:=if R.eff then R.st.heap else σ.heap,next:=if R.eff then R.st.next else σ.next,pins:=σ.pins}:St).put e.o.dst R.val
def aGe (ops:Array Oper) (o:Oper) (σ:St):Option Bool :=
 match o.guard with
 |none=>some true
 |some (g,b)=>match (ops[g]?).bind (·.dst)with
  |none=>none
  |some d=>match σ.get d,b with
   |.l (.b t),true=>some t
   |.l (.b t),false=>some (!t)
   |.l .und,_=>some false
   |_,_=>none
def bX1 (c:Ctx) (E:Env) (ops:Array Oper):List Nat→St→List Ent→St→Prop
 |[],σ,[],σ'=>σ'=σ
 |i::r,σ,e::es,σ'=>e.i=i∧ops[i]? =some e.o∧e.σ=σ∧(∀ d,e.o.dst=some d→d<E.nt)∧aGe ops e.o σ=some e.res.isSome∧(∀ R all,e.res=some (R,all)→aQ5 c e.o σ R all)∧bX1 c E ops r (app σ e) es σ'
 |_,_,_,_=>False
theorem bX0 {c:Ctx} {o:Oper} {σ:St} {R:V.R} {all:Bool} (h:aQ5 c o σ R all) (i:Nat):app σ ⟨i,o,σ,some (R,all)⟩=R.st.put o.dst R.val:=by
 simp only[app]
 congr 1
 obtain⟨h1,h2,h3⟩:=h.st
 cases hf:R.eff with
 |false=>rw[show R.st=σ by rw[h1 hf];rfl];rfl
 |true=>rw[←h2,←h3];rfl
theorem bMr {α:Type} {R:V.R} {k:V.R→T α} {r:α} (h:(bXh R k).eval=some r):(k R).eval=some r:=by
 obtain⟨v,st,e,tc⟩:=R
 unfold bXh at h
 split at h
 ·rename_i t ht
  simp only at ht
  subst ht
  rcases bCo h with⟨rfl,h⟩ | ⟨rfl,h⟩<;>exact h
 ·exact h
theorem bDh {α:Type} {op:Op} {R:V.R} {k:V.R→T α} {r:α} (h:(bA4 op R k).eval=some r):(k R).eval=some r:=by
 unfold bA4 at h
 split at h
 ·exact h
 ·exact bMr h
theorem aZr {α:Type} {r:α}:∀ {ws:List W} {k:List W→T α},(bGz ws k).eval=some r→(k ws).eval=some r:=by
 intro ws
 induction ws with
 |nil=>intro k h;exact h
 |cons w ws ih =>
  intro k h
  unfold bGz at h
  split at h
  ·cases ‹_::_=_›
  ·rename_i t r' heq
   simp only[List.cons.injEq]at heq
   obtain⟨rfl,rfl⟩:=heq
   rcases bCo h with⟨rfl,h⟩ | ⟨rfl,h⟩<;>exact ih h
  ·rename_i heq
   simp only[List.cons.injEq]at heq
   obtain⟨rfl,rfl⟩:=heq
   exact ih h
theorem bKx {α:Type} {c:Ctx} {E:Env} (hE:aA8 c.P E) {I:Inl α} (hI:aWn c I) {ops:Array Oper}:∀ {l:List Nat} {σ:St} {tr:List Ev} {k:St→List Ev→T α} {r:α},(bW9 E I ops l σ tr k).eval=some r →
  ∃ es σ',(k σ' ((es.filterMap Ent.ev?).reverse++tr)).eval=some r∧bX1 c E ops l σ es σ':=by
 intro l
 induction l with
 |nil=>intro σ tr k r he;exact⟨[],σ,he,rfl⟩
 |cons i l ih =>
  intro σ tr k r he
  simp only[bW9]at he
  split at he
  ·exact (aA3 he).elim
  ·rename_i o ho
   split at he
   ·rename_i hd
    have hd':∀ d,o.dst=some d→d<E.nt:=fun d hod=>by rw[hod]at hd;simpa[cAx]using hd
    have go:aGe ops o σ=some true→(bTn E I o σ fun R all=>bA4 o.op R fun R=>bW9 E I ops l (R.st.put o.dst R.val) ({at':=i,eff:=R.eff,keys:=Op.keys σ o.op,touched:=R.touched,all,next:=σ.next}::tr) k).eval=some r →
      ∃ es σ',(k σ' ((es.filterMap Ent.ev?).reverse++tr)).eval=some r∧bX1 c E ops (i::l) σ es σ':=by
     intro hg h
     obtain⟨R,all,hs,h⟩:=bTm hE hI h
     have h:=bDh h
     obtain⟨es,σ',h1,h2⟩:=ih h
     refine⟨⟨i,o,σ,some (R,all)⟩::es,σ',?_,rfl,ho,rfl,hd',hg,fun R' all' he=>?_,?_⟩
     ·simpa[Ent.ev?]using h1
     ·obtain⟨rfl,rfl⟩:R=R'∧all=all':=by simpa using he
      exact hs
     ·rw[bX0 hs];exact h2
    have skip:aGe ops o σ=some false→(bW9 E I ops l (σ.put o.dst (.l .und)) tr k).eval=some r→∃ es σ',(k σ' ((es.filterMap Ent.ev?).reverse++tr)).eval=some r∧bX1 c E ops (i::l) σ es σ':=by
     intro hg h
     obtain⟨es,σ',h1,h2⟩:=ih h
     refine⟨⟨i,o,σ,none⟩::es,σ',?_,rfl,ho,rfl,hd',hg,fun R' all' he=>(by cases he),h2⟩
     rw[List.filterMap_cons]
     exact h1
    split at he
    ·rename_i hg
     exact go (by simp[aGe,hg]) he
    ·rename_i g b hg
     split at he
     ·exact (aA3 he).elim
     ·rename_i d hgd
      split at he
      ·rename_i hb
       exact go (by simp[aGe,hg,hgd,hb]) he
      ·rename_i hb
       exact skip (by simp[aGe,hg,hgd,hb]) he
      ·rename_i hb
       exact skip (by simp[aGe,hg,hgd,hb]) he
      ·rename_i hb
       exact go (by simp[aGe,hg,hgd,hb]) he
      ·rename_i hb
       exact skip (by simp[aGe,hg,hgd,hb]) he
      ·exact (aA3 he).elim
   ·exact (aA3 he).elim
section
variable {c:Ctx} {E:Env} {σ:St} {β:aDr} {a:Act} {w w':World} {ops:Array Oper} {o:Oper}
theorem bLf (a:Act) (d:Option Tmp) (v:Value):(a.put d v).tmps.size=a.tmps.size:=by
 cases d<;>simp[Act.put]
theorem bQs {d:Option Tmp} {v:Value} (t:Nat) (hd:∀ x,d=some x→x<a.tmps.size):(a.put d v).tmps.getD t undef=if d=some t then v else a.tmps.getD t undef:=by
 cases d with
 |none=>simp[Act.put]
 |some x =>
  have:=hd x rfl
  simp only[Act.put]
  by_cases h:x=t
  ·subst h
   simp[this]
  ·have h':¬some x=some t:=fun e=>h (Option.some.inj e)
   rw[if_neg h']
   simp[Array.getD_eq_getD_getElem?,Array.getElem?_setIfInBounds_ne h]
theorem aUd {d:Option Nat} {x:W} (t:Nat):(σ.put d x).get t=if d=some t then x else σ.get t:=by
 cases d with
 |none=>simp[St.put]
 |some y =>
  simp only[St.put,St.get]
  by_cases h:y=t
  ·subst h;simp[List.lookup]
  ·have h':¬some y=some t:=fun e=>h (Option.some.inj e)
   have:(t==y)=false:=by simpa using fun e=>h (Eq.symm e)
   rw[if_neg h']
   simp[List.lookup,this]
theorem aCx (σ:St) (d:Option Nat) (x:W):(σ.put d x).heap=σ.heap∧(σ.put d x).next=σ.next∧(σ.put d x).pins=σ.pins:=by
 cases d<;>exact⟨rfl,rfl,rfl⟩
theorem bY3 (hr:Rel c σ β a w) {R:V.R} {v:Value} (hd:bHm c σ β w R v w') (hs:∀ d,o.dst=some d→d<a.tmps.size):∃ β',Rel c (R.st.put o.dst R.val) β' (a.put o.dst v) w'∧Far c σ β w (R.st.put o.dst R.val) β' w':=by
 obtain⟨β',d1,d2,d3,d4,d5,d6,d7⟩:=hd
 obtain⟨p1,p2,p3⟩:=aCx R.st o.dst R.val
 refine⟨β',⟨by rw[p1,p2];exact d1,fun t=>?_,?_,fun j id hj=>?_,?_⟩,⟨by rw[p1,p2];exact d2,by rw[p3,d5],fun id cells h=>by rw[p1];exact d6 id cells h,fun id x hp h hf=>by rw[p1];exact d7 id x hp h hf⟩⟩
 ·rw[p1,p2,bQs t hs,aUd]
  split
  ·exact d3
  ·have:R.st.get t=σ.get t:=by simp[St.get,d4]
   rw[this]
   exact d2.repW (hr.slot t)
 ·have:(a.put o.dst v).defers=a.defers:=by cases o.dst<;>rfl
  rw[this];exact hr.defers
 ·rw[p3,d5]at hj
  obtain⟨h1,⟨x,h2,hf⟩,h3⟩:=hr.pins j id hj
  obtain⟨x',g1,g3,g2⟩:=d7 id x (List.mem_of_getElem? hj) h2 hf
  rw[p1,p2]
  exact⟨Nat.lt_of_lt_of_le h1 d2.nxle,⟨x',g1,g3⟩,by rw[g2];exact h3⟩
 ·rw[p3,d5];exact hr.npins
theorem bU9 (hr:Rel c σ β a w) (hs:∀ d,o.dst=some d→d<a.tmps.size):Rel c (σ.put o.dst (.l .und)) β (a.put o.dst undef) w∧Far c σ β w (σ.put o.dst (.l .und)) β w:=by
 obtain⟨p1,p2,p3⟩:=aCx σ o.dst (.l .und)
 refine⟨⟨by rw[p1,p2];exact hr.heap,fun t=>?_,?_,fun j id hj=>?_,by rw[p3];exact hr.npins⟩,⟨by rw[p1,p2];exact Ext.refl _ _ _ _ _,p3,fun id cells h=>⟨cells,by rw[p1];exact h,rfl,rfl⟩,fun id x _ h hf=>⟨x,by rw[p1];exact h,hf,rfl⟩⟩⟩
 ·rw[p1,p2,bQs t hs,aUd]
  split
  ·exact rfl
  ·exact hr.slot t
 ·have:(a.put o.dst undef).defers=a.defers:=by cases o.dst<;>rfl
  rw[this];exact hr.defers
 ·rw[p3]at hj
  rw[p1,p2]
  exact hr.pins j id hj
theorem bPl (hr:Rel c σ β a w) {t:Bool} (hg:aGe ops o σ=some t):Region.wanted o (yielded ops a.tmps)=t:=by
 unfold aGe at hg
 unfold Region.wanted
 split at hg
 ·rename_i h
  rw[h]
  exact (Option.some.inj hg)
 ·rename_i g b h
  rw[h]
  simp only[]
  split at hg
  ·cases hg
  ·rename_i d hd
   have hslot:=hr.slot d
   split at hg
   ·rename_i t' hb
    obtain rfl:=Option.some.inj hg
    rw[hb]at hslot
    have hv:a.tmps.getD d undef=.bool t':=hslot
    have:a.tmps[d]? =some (.bool t'):=by
     rw[Array.getD_eq_getD_getElem?]at hv
     cases hx:a.tmps[d]? with
     |none=>rw[hx]at hv;simp[undef]at hv
     |some x=>rw[hx]at hv;simp at hv;rw[hv]
    simp[yielded,hd,this]
   ·rename_i t' hb
    obtain rfl:=Option.some.inj hg
    rw[hb]at hslot
    have hv:a.tmps.getD d undef=.bool t':=hslot
    have:a.tmps[d]? =some (.bool t'):=by
     rw[Array.getD_eq_getD_getElem?]at hv
     cases hx:a.tmps[d]? with
     |none=>rw[hx]at hv;simp[undef]at hv
     |some x=>rw[hx]at hv;simp at hv;rw[hv]
    cases t'<;>simp[yielded,hd,this]
   ·rename_i hb
    obtain rfl:=Option.some.inj hg
    rw[hb]at hslot
    have hv:a.tmps.getD d undef=undef:=hslot
    rw[Array.getD_eq_getD_getElem?]at hv
    cases hx:a.tmps[d]? with
    |none=>simp[yielded,hd,hx]
    |some x =>
     rw[hx]at hv
     simp only[Option.getD_some]at hv
     subst hv
     simp[yielded,hd,hx,undef]
   ·cases hg
theorem aT6 {i:Nat} {next:Act→World→Prop} {Q:Exit→Act→World→Prop} {res:Option (V.R×Bool)} (ho:ops[i]? =some o) (hr:Rel c σ β a w) (hg:aGe ops o σ=some res.isSome)
  (hst:∀ R all,res=some (R,all)→cB6 c o σ R) (hs:∀ d,o.dst=some d→d<a.tmps.size)
  (hn:∀ σ1 β' a' w',(match res with | none=>σ1=σ.put o.dst (.l .und) | some (R,_)=>σ1=R.st.put o.dst R.val)→Rel c σ1 β' a' w'→a'.tmps.size=a.tmps.size→Far c σ β w σ1 β' w'→next a' w'):wpOp c.P ops Q i next a w:=by
 unfold wpOp
 rw[ho]
 simp only[bPl hr hg]
 cases res with
 |none =>
  simp only[Option.isSome_none,Bool.false_eq_true,if_false]
  obtain⟨h1,h2⟩:=bU9 hr hs
  exact hn _ β _ w rfl h1 (bLf _ _ _) h2
 |some p =>
  obtain⟨R,all⟩:=p
  simp only[Option.isSome_some,if_true]
  refine .inl (hst R all rfl β a w hr next Q fun v w' hd=>?_)
  obtain⟨β',h1,h2⟩:=bY3 hr hd hs
  exact hn _ β' _ w' rfl h1 (bLf _ _ _) h2
theorem bIl {R:V.R} (h:R.st.slots=σ.slots):aKw σ.slots R=R:=by
 obtain⟨v,⟨s,hp,n,p⟩,e,t⟩:=R
 simp only at h
 subst h
 rfl
theorem aQ5.here {R:V.R} {all:Bool} (h:aQ5 c o σ R all):cB6 c o σ R:=by
 cases hf:R.eff with
 |true =>
  have:=h.eff hf σ.slots (fun _ _=>rfl)
  rw[bIl h.st.2.1]at this
  exact this
 |false =>
  have:=h.pure hf σ (fun _ _=>rfl) (fun _ _ _ _ _=>rfl)
  rw[h.st.1 hf]
  exact this
end
section
variable {c:Ctx} {E:Env} {ops:Array Oper} {Q:Exit→Act→World→Prop}
theorem bZ1 {e:Ent} {σ σ1:St} (hσ:e.σ=σ) (hst:∀ R all,e.res=some (R,all)→aQ5 c e.o σ R all)
  (h:match e.res with | none=>σ1=σ.put e.o.dst (.l .und) | some (R,_)=>σ1=R.st.put e.o.dst R.val):σ1=app σ e:=by
 obtain⟨i,o,σe,res⟩:=e
 simp only at hσ hst h
 subst hσ
 cases res with
 |none=>exact h
 |some p=>obtain⟨R,all⟩:=p;rw[bX0 (hst R all rfl)];exact h
theorem cA2:∀ {l:List Nat} {σ:St} {es:List Ent} {σ':St} {β:aDr} {a:Act} {w:World},bX1 c E ops l σ es σ'→Rel c σ β a w→E.nt≤a.tmps.size →
  (∀ β' a' w',Rel c σ' β' a' w'→E.nt≤a'.tmps.size→Far c σ β w σ' β' w'→Q .normal a' w')→wpOps c.P ops Q l a w:=by
 intro l
 induction l with
 |nil =>
  intro σ es σ' β a w hrun hr hs hk
  cases es with
  |cons e es=>exact hrun.elim
  |nil =>
   have hrun:σ'=σ:=hrun
   subst hrun
   exact hk β a w hr hs (Far.refl _ _ _ _)
 |cons i l ih =>
  intro σ es σ' β a w hrun hr hs hk
  cases es with
  |nil=>exact hrun.elim
  |cons e es =>
   obtain⟨rfl,ho,hσ,hd,hg,hst,hrest⟩:=hrun
   rw[wpOps_cons]
   refine aT6 ho hr hg (fun R all h=>(hst R all h).here) (fun d h=>Nat.lt_of_lt_of_le (hd d h) hs) fun σ1 β' a' w' h1 hr' hsz hfar=>?_
   have:=bZ1 hσ hst h1
   subst this
   exact ih hrest hr' (by omega) fun β2 a2 w2 hr2 hs2 hf2=>hk β2 a2 w2 hr2 hs2 (hfar.trans hf2)
def aCi (A:Nat→Bool):List Ent→St→St
 |[],σ=>σ
 |e::l,σ=>aCi A l (if A e.i then app σ e else σ)
def Ent.eff (e:Ent):Bool:=match e.res with | some (R,_)=>R.eff | none=>false
theorem bW2 (σ:St) (e:Ent):(app σ e).pins=σ.pins:=by
 unfold app;split
 ·exact (aCx _ _ _).2.2
 ·exact (aCx _ _ _).2.2
theorem aJp {σ:St} {e:Ent} (h:e.eff=false):(app σ e).heap=σ.heap∧(app σ e).next=σ.next:=by
 unfold app
 unfold Ent.eff at h
 split
 ·exact⟨(aCx _ _ _).1,(aCx _ _ _).2.1⟩
 ·rename_i R all he
  rw[he]at h
  simp only at h
  rw[h]
  exact⟨(aCx _ _ _).1,(aCx _ _ _).2.1⟩
theorem aHt {σ σ2:St} {e:Ent} (h:e.eff=true):(app σ e).heap=(app σ2 e).heap∧(app σ e).next=(app σ2 e).next:=by
 unfold app
 unfold Ent.eff at h
 split
 ·rename_i he;rw[he]at h;cases h
 ·rename_i R all he
  rw[he]at h
  simp only at h
  simp only[h,if_true]
  exact⟨by rw[(aCx _ _ _).1,(aCx _ _ _).1],by rw[(aCx _ _ _).2.1,(aCx _ _ _).2.1]⟩
def Ent.val (e:Ent):W:=match e.res with | none=>.l .und | some (R,_)=>R.val
theorem bD5 (σ:St) (e:Ent) (t:Nat):(app σ e).get t=if e.o.dst=some t then e.val else σ.get t:=by
 unfold app Ent.val
 split
 ·rename_i h;(simp only[aUd,h])<;>rfl
 ·rename_i R all h
  (simp only[aUd,h])<;>rfl
theorem aIi (A:Nat→Bool):∀ (l:List Ent) (σ:St),(aCi A l σ).pins=σ.pins
 |[],_=>rfl
 |e::l,σ=>by
  simp only[aCi]
  rw[aIi A l]
  split
  ·exact bW2 σ e
  ·rfl
theorem aPw {A B:Nat→Bool} {t:Nat}:∀ (l:List Ent) (σ σ':St),(∀ e,e∈l→e.o.dst=some t→A e.i=B e.i)→σ.get t=σ'.get t→(aCi A l σ).get t=(aCi B l σ').get t
 |[],_,_,_,h=>h
 |e::l,σ,σ',hab,h=>by
  simp only[aCi]
  refine aPw l _ _ (fun e' he'=>hab e' (List.mem_cons_of_mem _ he')) ?_
  by_cases hd:e.o.dst=some t
  ·rw[hab e List.mem_cons_self hd]
   split
   ·rw[bD5,bD5,if_pos hd,if_pos hd]
   ·exact h
  ·have:∀ s:St,(app s e).get t=s.get t:=fun s=>by rw[bD5,if_neg hd]
   split<;>split<;>simp only[this,h]
theorem aH5 {A B:Nat→Bool}:∀ (l:List Ent) (σ σ':St),(∀ e,e∈l→e.eff=true→A e.i=B e.i)→σ.heap=σ'.heap→σ.next=σ'.next→(aCi A l σ).heap=(aCi B l σ').heap∧(aCi A l σ).next=(aCi B l σ').next
 |[],_,_,_,h,h'=>⟨h,h'⟩
 |e::l,σ,σ',hab,h,h'=>by
  simp only[aCi]
  cases hf:e.eff with
  |true =>
   have hA:=hab e List.mem_cons_self hf
   rw[hA]
   have:=aHt (σ:=σ) (σ2:=σ') hf
   refine aH5 l _ _ (fun e' he'=>hab e' (List.mem_cons_of_mem _ he')) ?_ ?_<;>split<;>first | exact this.1 | exact this.2 | exact h | exact h'
  |false =>
   have h1:=aJp (σ:=σ) hf
   have h2:=aJp (σ:=σ') hf
   refine aH5 l _ _ (fun e' he'=>hab e' (List.mem_cons_of_mem _ he')) ?_ ?_<;>split<;>split<;>simp only[h1,h2,h,h']
theorem aZc {A:Nat→Bool} (l:List Ent) (σ:St) (h:∀ e,e∈l→e.eff=true→A e.i=false):(aCi A l σ).heap=σ.heap∧(aCi A l σ).next=σ.next:=by
 have h0:∀ (l:List Ent) (σ:St),aCi (fun _=>false) l σ=σ:=by
  intro l
  induction l with
  |nil=>intro σ;rfl
  |cons e l ih=>intro σ;simp only[aCi];exact ih _
 have:=aH5 (A:=A) (B:=fun _=>false) l σ σ h rfl rfl
 rw[h0]at this
 exact this
def bTg:List Ent→St→Prop
 |[],_=>True
 |e::l,σ=>e.σ=σ∧bTg l (app σ e)
def Ent.keeps (e:Ent) (x:Nat):Prop:=∀ R all,e.res=some (R,all)→R.eff=true→R.st.heap.lookup x=e.σ.heap.lookup x
theorem bRf {e:Ent} {x:Nat} (hf:e.eff=true) (hk:e.keeps x):∀ s:St,(app s e).heap.lookup x=e.σ.heap.lookup x:=by
 intro s
 unfold app
 unfold Ent.eff at hf
 split
 ·rename_i he;rw[he]at hf;cases hf
 ·rename_i R all he
  rw[he]at hf
  simp only at hf
  rw[(aCx _ _ _).1]
  simp only[hf,if_true]
  exact hk R all he hf
theorem bBh {B:Nat→Bool} {x:Nat}:∀ (l:List Ent) (σ σB:St),bTg l σ→σB.heap=σ.heap→l.Pairwise (fun p q=>p.eff=true→q.eff=true→B q.i=true→B p.i=true)→(∀ e,e∈l→e.eff=true→B e.i=true→e.keeps x) →
  (aCi B l σB).heap.lookup x=σ.heap.lookup x
 |[],_,_,_,h,_,_=>by simp only[aCi];rw[h]
 |e::l,σ,σB,hc,h,hp,hk=>by
  obtain⟨hσ,hc'⟩:=hc
  obtain⟨hp1,hp2⟩:=List.pairwise_cons.1 hp
  cases hf:e.eff with
  |false =>
   have h1:=aJp (σ:=σ) hf
   have h2:=aJp (σ:=σB) hf
   simp only[aCi]
   rw[bBh l (app σ e) _ hc' (by split<;>simp only[h1,h2,h]) hp2 (fun e' he'=>hk e' (List.mem_cons_of_mem _ he')),h1.1]
  |true =>
   cases hB:B e.i with
   |true =>
    simp only[aCi,hB,if_true]
    rw[bBh l (app σ e) _ hc' (aHt hf).1 hp2 (fun e' he'=>hk e' (List.mem_cons_of_mem _ he')),bRf hf (hk e List.mem_cons_self hf hB),hσ]
   |false =>
    rw[(aZc (e::l) σB (fun e' he' hf'=>?_)).1,h]
    rcases List.mem_cons.1 he' with rfl | he'
    ·exact hB
    ·cases hB':B e'.i with
     |false=>rfl
     |true=>have:=hp1 e' he' hf hf' hB';rw[hB]at this;cases this
theorem aT3 {A B:Nat→Bool} {x:Nat}:∀ (l:List Ent) (σ σA σB:St),bTg l σ→σA.heap=σ.heap→σB.heap=σ.heap →
  l.Pairwise (fun p q=>p.eff=true→q.eff=true→A q.i=true→A p.i=true)→l.Pairwise (fun p q=>p.eff=true→q.eff=true→B q.i=true→B p.i=true) →
  (∀ e,e∈l→e.eff=true→A e.i=true→B e.i=true)→(∀ e,e∈l→e.eff=true→B e.i=true→A e.i=false→e.keeps x)→(aCi A l σA).heap.lookup x=(aCi B l σB).heap.lookup x
 |[],_,_,_,_,h,h',_,_,_,_=>by simp only[aCi];rw[h,h']
 |e::l,σ,σA,σB,hc,h,h',hpA,hpB,hab,hk=>by
  obtain⟨hσ,hc'⟩:=hc
  obtain⟨hA1,hA2⟩:=List.pairwise_cons.1 hpA
  obtain⟨hB1,hB2⟩:=List.pairwise_cons.1 hpB
  have hk':=fun e' he'=>hk e' (List.mem_cons_of_mem e he')
  have hab':=fun e' he'=>hab e' (List.mem_cons_of_mem e he')
  cases hf:e.eff with
  |false =>
   have h1:=aJp (σ:=σ) hf
   have h2:=aJp (σ:=σA) hf
   have h3:=aJp (σ:=σB) hf
   simp only[aCi]
   exact aT3 l (app σ e) _ _ hc' (by split<;>simp only[h1,h2,h]) (by split<;>simp only[h1,h3,h']) hA2 hB2 hab' hk'
  |true =>
   cases hA:A e.i with
   |true =>
    have hB:=hab e List.mem_cons_self hf hA
    simp only[aCi,hA,hB,if_true]
    exact aT3 l (app σ e) _ _ hc' (aHt hf).1 (aHt hf).1 hA2 hB2 hab' hk'
   |false =>
    have nA:∀ e',e'∈e::l→e'.eff=true→A e'.i=false:=fun e' he' hf'=>by
     rcases List.mem_cons.1 he' with rfl | he'
     ·exact hA
     ·cases hA':A e'.i with
      |false=>rfl
      |true=>have:=hA1 e' he' hf hf' hA';rw[hA]at this;cases this
    rw[(aZc (e::l) σA nA).1,h]
    exact (bBh (e::l) σ σB ⟨hσ,hc'⟩ h' hpB (fun e' he' hf' hB'=>hk e' he' hf' hB' (nA e' he' hf'))).symm
end
section
variable {c:Ctx} {E:Env} {ops:Array Oper} {Q:Exit→Act→World→Prop}
def aEl (acc:List (List Nat)) (o:Oper):List (List Nat) :=
 acc++[((o.after.toList.filter (Region.binds .any)).flatMap fun e=>if e.on<acc.length then e.on::acc.getD e.on []else[]).eraseDups]
theorem bL3:∀ (l:List Oper) (acc:List (List Nat)),(l.foldl aEl acc).length=acc.length+l.length∧(∀ i,i<acc.length→(l.foldl aEl acc).getD i []=acc.getD i []) ∧
  ∀ (k:Nat) (o:Oper),l[k]? =some o→∀ x,x∈(l.foldl aEl acc).getD (acc.length+k) []→∃ e,e∈o.after∧Region.binds .any e=true∧e.on<acc.length+k∧(x=e.on∨x∈(l.foldl aEl acc).getD e.on [])
 |[],acc=>⟨by simp,fun _ _=>rfl,fun k o h=>by simp at h⟩
 |o::l,acc=>by
  obtain⟨h1,h2,h3⟩:=bL3 l (aEl acc o)
  have hlen:(aEl acc o).length=acc.length+1:=by simp[aEl]
  simp only[List.foldl_cons]
  have hkeep:∀ i,i<acc.length→(l.foldl aEl (aEl acc o)).getD i []=acc.getD i []:=fun i hi=>by
   rw[h2 i (by omega)]
   simp[aEl,List.getElem?_append_left hi]
  refine⟨by rw[h1,hlen];simp;omega,hkeep,fun k o' hk x hx=>?_⟩
  cases k with
  |succ k =>
   simp only[List.getElem?_cons_succ]at hk
   have e1:acc.length+(k+1)=(aEl acc o).length+k:=by omega
   rw[e1]at hx ⊢
   exact h3 k o' hk x hx
  |zero =>
   simp only[List.getElem?_cons_zero,Option.some.injEq]at hk
   subst hk
   rw[Nat.add_zero,h2 _ (by omega)]at hx
   have e2:(aEl acc o).getD acc.length []=((o.after.toList.filter (Region.binds .any)).flatMap fun e=>if e.on<acc.length then e.on::acc.getD e.on []else[]).eraseDups:=by
    simp[aEl]
   rw[e2,List.mem_eraseDups,List.mem_flatMap]at hx
   obtain⟨e,he,hx⟩:=hx
   obtain⟨he1,he2⟩:=List.mem_filter.1 he
   split at hx
   ·rename_i hlt
    refine⟨e,by simpa using he1,he2,by omega,?_⟩
    rcases List.mem_cons.1 hx with h | h
    ·exact .inl h
    ·exact .inr (by rw[hkeep _ hlt];exact h)
   ·cases hx
theorem bHu {j x:Nat} (hx:x∈(aEi ops).getD j []):∃ o e,ops[j]? =some o∧e∈o.after∧Region.binds .any e=true∧e.on<j∧(x=e.on∨x∈(aEi ops).getD e.on []):=by
 obtain⟨h1,_,h3⟩:=bL3 ops.toList []
 have e1:aEi ops=ops.toList.foldl aEl []:=rfl
 rw[e1]at hx ⊢
 cases ho:ops.toList[j]? with
 |none =>
  have:=List.getElem?_eq_none_iff.1 ho
  have hn:(ops.toList.foldl aEl [])[j]? =none:=List.getElem?_eq_none_iff.2 (by rw[h1];simp at this ⊢;exact this)
  rw[List.getD_eq_getElem?_getD,hn]at hx
  cases hx
 |some o =>
  obtain⟨e,he,hb,hlt,hor⟩:=h3 j o ho x (by simpa using hx)
  exact⟨o,e,by simpa using ho,he,hb,by simpa using hlt,hor⟩
theorem bZp:∀ (j:Nat) {x:Nat},x∈(aEi ops).getD j []→x<j:=by
 intro j
 induction j using Nat.strongRecOn with
 |_ j ih =>
  intro x hx
  obtain⟨o,e,_,_,_,hlt,h | h⟩:=bHu hx
  ·omega
  ·have:=ih e.on hlt h;omega
def bHk (ops:Array Oper) (A:Nat→Bool):Prop:=∀ (j:Nat) (o:Oper),ops[j]? =some o→A j=true→∀ e,e∈o.after→Region.binds .any e=true→A e.on=true
theorem aMm {A:Nat→Bool} (hc:bHk ops A):∀ (j:Nat) {x:Nat},A j=true→x∈(aEi ops).getD j []→A x=true:=by
 intro j
 induction j using Nat.strongRecOn with
 |_ j ih =>
  intro x hj hx
  obtain⟨o,e,ho,he,hb,hlt,h | h⟩:=bHu hx
  ·subst h;exact hc j o ho hj e he hb
  ·exact ih e.on hlt (hc j o ho hj e he hb) h
theorem bEm:∀ {l:List Nat} {σ:St} {es:List Ent} {σ':St},bX1 c E ops l σ es σ'→es.map (·.i)=l∧bTg es σ∧σ'=aCi (fun _=>true) es σ ∧
  ∀ e,e∈es→ops[e.i]? =some e.o∧(∀ d,e.o.dst=some d→d<E.nt)∧aGe ops e.o e.σ=some e.res.isSome∧∀ R all,e.res=some (R,all)→aQ5 c e.o e.σ R all:=by
 intro l
 induction l with
 |nil =>
  intro σ es σ' h
  cases es with
  |cons e es=>exact h.elim
  |nil=>exact⟨rfl,trivial,h,fun e he=>by cases he⟩
 |cons i l ih =>
  intro σ es σ' h
  cases es with
  |nil=>exact h.elim
  |cons e es =>
   obtain⟨rfl,ho,hσ,hd,hg,hst,hrest⟩:=h
   obtain⟨i1,i2,i3,i4⟩:=ih hrest
   refine⟨by simp[i1],⟨hσ,i2⟩,by simp only[aCi,if_true];exact i3,fun e' he'=>?_⟩
   rcases List.mem_cons.1 he' with rfl | he'
   ·subst hσ;exact⟨ho,hd,hg,hst⟩
   ·exact i4 e' he'
theorem aHd {A B:Nat→Bool}:∀ (l:List Ent) (σ:St),(∀ e,e∈l→A e.i=B e.i)→aCi A l σ=aCi B l σ
 |[],_,_=>rfl
 |e::l,σ,h=>by
  simp only[aCi]
  rw[h e List.mem_cons_self]
  exact aHd l _ fun e' he'=>h e' (List.mem_cons_of_mem _ he')
theorem aJk:∀ (l:List Ent) (σ:St),aCi (fun _=>false) l σ=σ
 |[],_=>rfl
 |e::l,σ=>by simp only[aCi];exact aJk l _
theorem bLz:∀ (es:List Ent) (σ:St),(es.map (·.i)).Pairwise (· < ·)→bTg es σ→∀ e,e∈es→e.σ=aCi (fun j=>decide (j<e.i)) es σ∧app e.σ e=aCi (fun j=>decide (j≤e.i)) es σ
 |[],_,_,_,e,he=>by cases he
 |e0::es,σ,hp,⟨hσ,hc⟩,e,he=>by
  simp only[List.map_cons]at hp
  obtain⟨hp1,hp2⟩:=List.pairwise_cons.1 hp
  have hgt:∀ e',e'∈es→e0.i<e'.i:=fun e' he'=>hp1 _ (List.mem_map.2 ⟨e',he',rfl⟩)
  rcases List.mem_cons.1 he with rfl | he
  ·refine⟨?_,?_⟩
   ·simp only[aCi,Nat.lt_irrefl,decide_false,Bool.false_eq_true,if_false]
    rw[aHd (B:=fun _=>false) es σ (fun e' he'=>by have:=hgt e' he';simp;omega),aJk,hσ]
   ·simp only[aCi,Nat.le_refl,decide_true,if_true]
    rw[aHd (B:=fun _=>false) es (app σ e) (fun e' he'=>by have:=hgt e' he';simp;omega),aJk,hσ]
  ·obtain⟨i1,i2⟩:=bLz es (app σ e0) hp2 hc e he
   have:=hgt e he
   refine⟨?_,?_⟩
   ·simp only[aCi,this,decide_true,if_true];exact i1
   ·simp only[aCi,Nat.le_of_lt this,decide_true,if_true];exact i2
theorem bPs {tab:List (List Nat)}:∀ {l:List Ev},bZi tab l=true→l.Pairwise fun e f=>(aE2 tab e.at' f.at'||bWy e f)=true
 |[],_=>.nil
 |e::l,h=>by
  simp only[bZi,Bool.and_eq_true]at h
  exact .cons (fun f hf=>List.all_eq_true.1 h.1 f hf) (bPs h.2)
theorem aZm {p:Nat→Bool} {i:Nat}:∀ (l:List Nat),i∈l→p i=true→l.countP (fun j=>p j&&j != i)+1≤l.countP p
 |[],h,_=>by cases h
 |x::l,h,hp=>by
  have mono:l.countP (fun j=>p j&&j != i)≤l.countP p:=List.countP_mono_left fun x _ hx=>by simp only[Bool.and_eq_true]at hx;exact hx.1
  by_cases hx:x=i
  ·subst hx
   rw[List.countP_cons_of_pos hp,List.countP_cons_of_neg (by simp)]
   omega
  ·have hm:i∈l:=by
    rcases List.mem_cons.1 h with h | h
    ·exact absurd h.symm hx
    ·exact h
   have:=aZm l hm hp
   cases hpx:p x with
   |true=>rw[List.countP_cons_of_pos hpx,List.countP_cons_of_pos (by simp[hpx,hx])];omega
   |false=>rw[List.countP_cons_of_neg (by simp[hpx]),List.countP_cons_of_neg (by simp[hpx])];omega
structure bTi (σ σ':St):Prop where
 get:∀ t,σ.get t=σ'.get t
 heap:σ.heap=σ'.heap
 next:σ.next=σ'.next
 pins:σ.pins=σ'.pins
theorem bTi.rel {σ σ':St} (h:bTi σ σ') {β:aDr} {a:Act} {w:World} (hr:Rel c σ β a w):Rel c σ' β a w:=by
 obtain⟨h1,h2,h3,h4⟩:=h
 obtain⟨r1,r2,r3,r4,r5⟩:=hr
 rw[h2,h3]at r1
 exact⟨r1,fun t=>by have:=r2 t;rw[h1,h2,h3]at this;exact this,r3,fun j id hj=>by rw[←h4]at hj;have:=r4 j id hj;rw[h2,h3]at this;exact this,by rw[←h4];exact r5⟩
theorem bTi.far {σ0 σ σ':St} (h:bTi σ σ') {β β':aDr} {w w':World} (hf:Far c σ0 β w σ β' w'):Far c σ0 β w σ' β' w':=by
 obtain⟨h1,h2,h3,h4⟩:=h
 obtain⟨f1,f2,f3,f4⟩:=hf
 rw[h2,h3]at f1
 rw[h4]at f2
 exact⟨f1,f2,fun id cells hl=>by have:=f3 id cells hl;rw[h2]at this;exact this,fun id x hp hl hx=>by have:=f4 id x hp hl hx;rw[h2]at this;exact this⟩
end
section
variable {c:Ctx} {E:Env} {ops:Array Oper} {Q:Exit→Act→World→Prop}
theorem aP5 {tab:List (List Nat)} (h:aUc ops tab=true) {i j:Nat} {x y:Oper} (hi:ops[i]? =some x) (hj:ops[j]? =some y) (hlt:i<j):aE2 tab i j=true∨x.apart ops y=true:=by
 simp only[aUc,Bool.and_eq_true]at h
 have mem:∀ {k:Nat} {z:Oper},ops[k]? =some z→(z,k)∈ops.toList.zipIdx:=fun {k z} hk=>by
  rw[List.mem_zipIdx_iff_getElem?]
  simpa using hk
 have:=List.all_eq_true.1 (List.all_eq_true.1 h.1 _ (mem hi)) _ (mem hj)
 simp only[hlt,decide_true,Bool.not_true,Bool.false_or,Bool.or_eq_true]at this
 exact this
theorem bDu {tab:List (List Nat)} (h:aUc ops tab=true) {j:Nat} {y:Oper} (hj:ops[j]? =some y) {e:Edge} (he:e∈y.after) (hb:Region.binds .any e=true):e.on<j:=by
 simp only[aUc,Bool.and_eq_true]at h
 have mem:(y,j)∈ops.toList.zipIdx:=by
  rw[List.mem_zipIdx_iff_getElem?]
  simpa using hj
 have:=List.all_eq_true.1 (List.all_eq_true.1 h.2 _ mem) e (by simpa using he)
 simpa[hb]using this
theorem aM5 {i j:Nat} (hlt:i<j) (h:aE2 (aEi ops) i j=true):i∈(aEi ops).getD j []:=by
 simp only[aE2,Bool.or_eq_true,List.contains_iff_mem]at h
 rcases h with h | h
 ·exact h
 ·have:=bZp _ h;omega
theorem bUs {o:Oper} {t:Tmp} (h:Operand.tmp t∈o.op.operands):t∈o.looksAt ops :=
 List.mem_append_left _ (List.mem_filterMap.2 ⟨.tmp t,by simpa using h,rfl⟩)
theorem bSe {σ σ2:St} {x:Operand} (h:∀ t,x=.tmp t→σ2.get t=σ.get t):σ2.ev x=σ.ev x:=by
 cases x with
 |tmp t=>exact h t rfl
 |_=>rfl
theorem bG6 {o:Oper} {σ σ2:St} (h:∀ t,t∈o.looksAt ops→σ2.get t=σ.get t):aGe ops o σ2=aGe ops o σ:=by
 unfold aGe
 cases hg:o.guard with
 |none=>rfl
 |some p =>
  obtain⟨g,b⟩:=p
  simp only[]
  cases hd:(ops[g]?).bind (·.dst)with
  |none=>rfl
  |some d =>
   simp only[]
   rw[h d (List.mem_append_right _ (by simp[hg,hd]))]
structure Inv (c:Ctx) (E:Env) (ops:Array Oper) (es:List Ent) (σ0:St) (β:aDr) (w:World) (listed:Array Bool) (a':Act) (w':World):Prop where
 size:listed.size=ops.size
 closed:bHk ops fun i=>listed.getD i false
 nt:E.nt≤a'.tmps.size
 rel:∃ β',Rel c (aCi (fun i=>listed.getD i false) es σ0) β' a' w'∧Far c σ0 β w (aCi (fun i=>listed.getD i false) es σ0) β' w'
theorem aHs {l:Array Bool} {i:Nat} (hi:i<l.size) (d d':Bool):l.getD i d=l.getD i d':=by
 simp[Array.getD_eq_getD_getElem?,hi]
theorem bV5 {es:List Ent} {σ0 σN:St} {β:aDr} {w:World} (hstat:aUc ops (aEi ops)=true) (hrun:bX1 c E ops (List.range ops.size) σ0 es σN) (htr:bZi (aEi ops) (es.filterMap Ent.ev?).reverse=true)
  {listed:Array Bool} {a':Act} {w':World} (hinv:Inv c E ops es σ0 β w listed a' w') {i:Nat} (hi:i∈Region.ready .any ops listed) {next:Act→World→Prop}
  (hn:∀ a2 w2,Inv c E ops es σ0 β w (listed.setIfInBounds i true) a2 w2→next a2 w2):wpOp c.P ops Q i next a' w':=by
 obtain⟨hun,o,ho,hdeps⟩:=mem_ready.1 hi
 have hin:i<ops.size:=(Array.getElem?_eq_some_iff.1 ho).1
 obtain⟨f1,f2,f3,f4⟩:=bEm hrun
 obtain⟨β',hr,hfar⟩:=hinv.rel
 have hpw:(es.map (·.i)).Pairwise (· < ·):=by rw[f1];exact List.pairwise_lt_range
 -- the entry
 obtain⟨e,he,hei⟩:∃ e,e∈es∧e.i=i:=by
  have:i∈es.map (·.i):=by rw[f1];exact List.mem_range.2 hin
  obtain⟨e,he,h⟩:=List.mem_map.1 this
  exact⟨e,he,h⟩
 obtain⟨g1,g2,g3,g4⟩:=f4 e he
 have hoe:o=e.o:=by rw[hei,ho]at g1;exact Option.some.inj g1
 subst hoe
 obtain⟨c1,c2⟩:=bLz es σ0 hpw f2 e he
 rw[hei]at c1 c2
 have hAi:listed.getD i false=false:=by rw[aHs (by rw[hinv.size];exact hin) false true];exact hun
 have hA':∀ j,(listed.setIfInBounds i true).getD j false=if j=i then true else listed.getD j false:=fun j=>by
  by_cases hj:j=i
  ·subst hj;rw[if_pos rfl];simp[hinv.size,hin]
  ·rw[if_neg hj];exact getD_set_ne false (fun e=>hj e.symm)
 -- what is ahead of i is listed,what is behind it is not
 have ahead:∀ j,j<i→aE2 (aEi ops) j i=true→listed.getD j false=true:=fun j hlt hord=>by
  obtain⟨o',ed,ho',hed,hb,hlt',h | h⟩:=bHu (aM5 hlt hord)
  ·rw[ho]at ho'
   obtain rfl:=Option.some.inj ho'
   rw[h];exact hdeps ed hed hb
  ·rw[ho]at ho'
   obtain rfl:=Option.some.inj ho'
   exact aMm hinv.closed ed.on (hdeps ed hed hb) h
 have behind:∀ j,i<j→aE2 (aEi ops) i j=true→listed.getD j false=false:=fun j hlt hord=>by
  cases hj:listed.getD j false with
  |false=>rfl
  |true=>have:=aMm hinv.closed j hj (aM5 hlt hord);rw[hAi]at this;cases this
 have effOrd:∀ e1 e2,e1∈es→e2∈es→e1.i<e2.i→(aE2 (aEi ops) e2.i e1.i=true∨∀ v1 v2,e1.ev? =some v1→e2.ev? =some v2→bWy v2 v1=true):=by
  intro e1 e2 h1 h2 hlt
  have hp:=bPs htr
  rw[List.pairwise_reverse,List.pairwise_filterMap]at hp
  have hes:es.Pairwise fun p q=>p.i<q.i:=List.pairwise_map.1 hpw
  -- the pair stands in the list
  have key:∀ (l:List Ent),l.Pairwise (fun p q=>p.i<q.i)→l.Pairwise (fun p q=>∀ b,p.ev? =some b→∀ b',q.ev? =some b'→(aE2 (aEi ops) b'.at' b.at'||bWy b' b)=true)→e1∈l→e2∈l →
    ∀ v1 v2,e1.ev? =some v1→e2.ev? =some v2→(aE2 (aEi ops) v2.at' v1.at'||bWy v2 v1)=true:=by
   intro l
   induction l with
   |nil=>intro _ _ h;cases h
   |cons x l ih =>
    intro q1 q2 h1 h2 v1 v2 hv1 hv2
    obtain⟨q11,q12⟩:=List.pairwise_cons.1 q1
    obtain⟨q21,q22⟩:=List.pairwise_cons.1 q2
    rcases List.mem_cons.1 h1 with rfl | m1
    ·rcases List.mem_cons.1 h2 with m2 | m2
     ·subst m2;omega
     ·exact q21 e2 m2 v1 hv1 v2 hv2
    ·rcases List.mem_cons.1 h2 with rfl | m2
     ·have:=q11 e1 m1;omega
     ·exact ih q12 q22 m1 m2 v1 v2 hv1 hv2
  have at':∀ (e:Ent) (v:Ev),e.ev? =some v→v.at'=e.i:=fun e v hv=>by
   unfold Ent.ev? at hv
   cases hr:e.res with
   |none=>rw[hr]at hv;cases hv
   |some p=>rw[hr]at hv;obtain rfl:=Option.some.inj hv;rfl
  cases hor:aE2 (aEi ops) e2.i e1.i with
  |true=>exact .inl rfl
  |false =>
   refine .inr fun v1 v2 hv1 hv2=>?_
   have:=key es hes (hp.imp fun {p q} h b hb b' hb'=>by simpa using h b hb b' hb') h1 h2 v1 v2 hv1 hv2
   rw[at' e1 v1 hv1,at' e2 v2 hv2,hor]at this
   simpa using this
 have symO:∀ i j,aE2 (aEi ops) i j=aE2 (aEi ops) j i:=fun i j=>by simp only[aE2];exact Bool.or_comm _ _
 have evEff:∀ (e:Ent),e.eff=true→∃ R all,e.res=some (R,all)∧R.eff=true:=fun e hf=>by
  unfold Ent.eff at hf
  cases hr:e.res with
  |none=>rw[hr]at hf;cases hf
  |some p=>rw[hr]at hf;exact⟨p.1,p.2,rfl,hf⟩
 -- two effects are aE2
 have effPair:∀ e1 e2,e1∈es→e2∈es→e1.i<e2.i→e1.eff=true→e2.eff=true→aE2 (aEi ops) e1.i e2.i=true:=fun e1 e2 h1 h2 hlt hf1 hf2=>by
  obtain⟨R1,a1,hr1,hR1⟩:=evEff e1 hf1
  obtain⟨R2,a2,hr2,hR2⟩:=evEff e2 hf2
  rcases effOrd e1 e2 h1 h2 hlt with h | h
  ·rw[symO];exact h
  ·have:=h _ _ (by simp only[Ent.ev?,hr1];rfl) (by simp only[Ent.ev?,hr2];rfl)
   simp[bWy,hR1,hR2]at this
 have pref:∀ (A:Nat→Bool),bHk ops A→es.Pairwise fun p q=>p.eff=true→q.eff=true→A q.i=true→A p.i=true:=fun A hA=>by
  have hes:es.Pairwise fun p q=>p.i<q.i:=List.pairwise_map.1 hpw
  exact hes.imp_of_mem fun {p q} hp hq hlt hpf hqf hAq=>aMm hA q.i hAq (aM5 hlt (effPair p q hp hq hlt hpf hqf))
 -- writers of what i looks at
 have looks:∀ t,t∈e.o.looksAt ops→(aCi (fun i=>listed.getD i false) es σ0).get t=e.σ.get t:=fun t ht=>by
  rw[c1]
  refine aPw es σ0 σ0 (fun e' he' hd=>?_) rfl
  have ho':=(f4 e' he').1
  by_cases hlt:e'.i<i
  ·simp only[hlt,decide_true]
   rcases aP5 hstat ho' ho hlt with h | h
   ·exact ahead _ hlt h
   ·exact absurd ht ((Oper.apart_spec h).1 t hd)
  ·simp only[hlt,decide_false]
   by_cases hEq:e'.i=i
   ·rw[hEq];exact hAi
   ·have hgt:i<e'.i:=by omega
    rcases aP5 hstat ho ho' hgt with h | h
    ·exact behind _ hgt h
    ·exact absurd ht ((Oper.apart_spec h).2.2 t hd)
 have hev:∀ x,x∈e.o.op.operands→(aCi (fun i=>listed.getD i false) es σ0).ev x=e.σ.ev x:=fun x hx=>bSe fun t ht=>looks t (bUs (by rw[←ht];exact hx))
 have hg:aGe ops e.o (aCi (fun i=>listed.getD i false) es σ0)=some e.res.isSome:=by rw[bG6 looks];exact g3
 -- memory,where i has an effect
 have effHeap:e.eff=true→∀ e',e'∈es→e'.eff=true→listed.getD e'.i false=decide (e'.i<i):=fun hf e' he' hf'=>by
  by_cases hlt:e'.i<i
  ·simp only[hlt,decide_true]
   exact ahead _ hlt (hei▸effPair e' e he' he (hei.symm▸hlt) hf' hf)
  ·simp only[hlt,decide_false]
   by_cases hEq:e'.i=i
   ·rw[hEq];exact hAi
   ·have hgt:i<e'.i:=by omega
    exact behind _ hgt (hei▸effPair e e' he he' (hei.symm▸hgt) hf hf')
 -- what i looks at in memory,where it has none
 have keys:e.eff=false→∀ R all,e.res=some (R,all)→∀ id,id∈Op.keys e.σ e.o.op→(aCi (fun i=>listed.getD i false) es σ0).heap.lookup id=e.σ.heap.lookup id:=fun hf R all hres id hid=>by
  have hRf:R.eff=false:=by unfold Ent.eff at hf;rw[hres]at hf;exact hf
  have hlt0:bHk ops fun j=>decide (j<i):=fun j o' ho' hj ed hed hb=>by
   have:=bDu hstat ho' hed hb
   simp at hj ⊢;omega
  -- an effect that is on one side alone
  have single:∀ e',e'∈es→e'.eff=true→listed.getD e'.i false≠decide (e'.i<i)→e'.keeps id:=fun e' he' hf' hne=>by
   have hneq:e'.i≠i:=fun h=>by rw[h,hAi]at hne;simp at hne
   obtain⟨R',all',hr',hR'⟩:=evEff e' hf'
   intro R2 all2 hr2 _
   rw[hr']at hr2
   obtain⟨rfl,rfl⟩:R'=R2∧all'=all2:=by simpa using hr2
   have kp:=(f4 e' he').2.2.2 R' all' hr'
   have fin:(decide (id<e'.σ.next)&& !all'&& !R'.touched.contains id)=true→R'.st.heap.lookup id=e'.σ.heap.lookup id:=fun h=>by
    simp only[Bool.and_eq_true,decide_eq_true_eq,Bool.not_eq_true']at h
    exact kp.keep h.1.2 id h.1.1 (by simpa using h.2)
   by_cases hlt:e'.i<i
   ·rcases effOrd e' e he' he (hei.symm▸hlt)with h | h
    ·exact absurd (ahead _ hlt (by rw[symO,←hei];exact h)) (by simpa[hlt]using hne)
    ·have:=h _ _ (by simp only[Ent.ev?,hr'];rfl) (by simp only[Ent.ev?,hres];rfl)
     simp only[bWy,hRf,hR']at this
     exact fin (List.all_eq_true.1 this id hid)
   ·have hgt:i<e'.i:=by omega
    rcases effOrd e e' he he' (hei.symm▸hgt)with h | h
    ·exact absurd (behind _ hgt (by rw[symO,←hei];exact h)) (by simpa[hlt]using hne)
    ·have:=h _ _ (by simp only[Ent.ev?,hres];rfl) (by simp only[Ent.ev?,hr'];rfl)
     simp only[bWy,hRf,hR']at this
     exact fin (List.all_eq_true.1 this id hid)
  rw[c1]
  have pA:=pref _ hinv.closed
  have pB:=pref _ hlt0
  by_cases hall:∀ e',e'∈es→e'.eff=true→listed.getD e'.i false=true→decide (e'.i<i)=true
  ·exact aT3 es σ0 σ0 σ0 f2 rfl rfl pA pB hall fun e' he' hf' hB hA=>single e' he' hf' (by rw[hA,hB];simp)
  ·refine (aT3 es σ0 σ0 σ0 f2 rfl rfl pB pA (fun e' he' hf' hB=>?_) fun e' he' hf' hA hB=>single e' he' hf' (by rw[hA,hB];simp)).symm
   -- one is listed behind i:all effects ahead of i are
   simp only[Classical.not_forall]at hall
   obtain⟨q,hq,hqf,hqA,hqB⟩:=hall
   have hB':e'.i<i:=by simpa using hB
   have hq':¬q.i<i:=by simpa using hqB
   exact aMm hinv.closed q.i hqA (aM5 (by omega) (effPair e' q he' hq (by omega) hf' hqf))
 -- the step
 let σ2:=aCi (fun i=>listed.getD i false) es σ0
 have hpins:σ2.pins=e.σ.pins:=by rw[c1];simp only[σ2];rw[aIi,aIi]
 have closed':bHk ops fun j=>(listed.setIfInBounds i true).getD j false:=fun j o' ho' hj ed hed hb=>by
  simp only[hA']at hj ⊢
  split
  ·rfl
  ·by_cases hji:j=i
   ·subst hji
    rw[ho]at ho'
    obtain rfl:=Option.some.inj ho'
    exact hdeps ed hed hb
   ·rw[if_neg hji]at hj
    exact hinv.closed j o' ho' hj ed hed hb
 have getNew:∀ t,(aCi (fun j=>(listed.setIfInBounds i true).getD j false) es σ0).get t=if e.o.dst=some t then e.val else σ2.get t:=fun t=>by
  split
  ·rename_i hdt
   have:(aCi (fun j=>(listed.setIfInBounds i true).getD j false) es σ0).get t=(aCi (fun j=>decide (j≤i)) es σ0).get t:=by
    refine aPw es σ0 σ0 (fun e' he' hd=>?_) rfl
    have ho':=(f4 e' he').1
    simp only[hA']
    by_cases hEq:e'.i=i
    ·rw[if_pos hEq];simp[hEq]
    ·rw[if_neg hEq]
     by_cases hlt:e'.i<i
     ·have:e'.i≤i:=by omega
      simp only[this,decide_true]
      rcases aP5 hstat ho' ho hlt with h | h
      ·exact ahead _ hlt h
      ·exact absurd hdt ((Oper.apart_spec h).2.1 t hd)
     ·have hgt:i<e'.i:=by omega
      have:¬e'.i≤i:=by omega
      simp only[this,decide_false]
      rcases aP5 hstat ho ho' hgt with h | h
      ·exact behind _ hgt h
      ·exact absurd hd ((Oper.apart_spec h).2.1 t hdt)
   rw[this,←c2,bD5,if_pos hdt]
  ·rename_i hdt
   refine aPw es σ0 σ0 (fun e' he' hd=>?_) rfl
   simp only[hA']
   rw[if_neg]
   intro hEq
   have ho':=(f4 e' he').1
   rw[hEq,ho]at ho'
   have:e'.o=e.o:=(Option.some.inj ho').symm
   rw[this]at hd
   exact hdt hd
 have heapNew:(aCi (fun j=>(listed.setIfInBounds i true).getD j false) es σ0).heap=(if e.eff then (app e.σ e).heap else σ2.heap)∧(aCi (fun j=>(listed.setIfInBounds i true).getD j false) es σ0).next=(if e.eff then (app e.σ e).next else σ2.next):=by
  cases hf:e.eff with
  |true =>
   simp only[if_true]
   rw[c2]
   refine aH5 es σ0 σ0 (fun e' he' hf'=>?_) rfl rfl
   simp only[hA']
   by_cases hEq:e'.i=i
   ·rw[if_pos hEq];simp[hEq]
   ·rw[if_neg hEq,effHeap hf e' he' hf']
    by_cases hlt:e'.i<i
    ·simp[hlt,Nat.le_of_lt hlt]
    ·have:¬e'.i≤i:=by omega
     simp[hlt,this]
  |false =>
   simp only[Bool.false_eq_true,if_false]
   refine aH5 es σ0 σ0 (fun e' he' hf'=>?_) rfl rfl
   simp only[hA']
   rw[if_neg]
   intro hEq
   have ho':=(f4 e' he').1
   have:e'=e:=by
    have hes:es.Pairwise fun p q=>p.i<q.i:=List.pairwise_map.1 hpw
    have key:∀ (l:List Ent),l.Pairwise (fun p q=>p.i<q.i)→e'∈l→e∈l→e'=e:=by
     intro l
     induction l with
     |nil=>intro _ h;cases h
     |cons x l ih =>
      intro q1 h1 h2
      obtain⟨q11,q12⟩:=List.pairwise_cons.1 q1
      rcases List.mem_cons.1 h1 with rfl | m1
      ·rcases List.mem_cons.1 h2 with m2 | m2
       ·exact m2.symm
       ·have:=q11 e m2;omega
      ·rcases List.mem_cons.1 h2 with rfl | m2
       ·have:=q11 e' m1;omega
       ·exact ih q12 m1 m2
    exact key es hes he' he
   rw[this,hf]at hf'
   cases hf'
 have hdst:∀ d,e.o.dst=some d→d<a'.tmps.size:=fun d hd=>Nat.lt_of_lt_of_le (g2 d hd) hinv.nt
 have finish:∀ {σ1:St} {β2:aDr} {a2:Act} {w2:World},(∀ t,σ1.get t=if e.o.dst=some t then e.val else σ2.get t)→σ1.heap=(if e.eff then (app e.σ e).heap else σ2.heap)→σ1.next=(if e.eff then (app e.σ e).next else σ2.next)→σ1.pins=σ2.pins →
   Rel c σ1 β2 a2 w2→a2.tmps.size=a'.tmps.size→Far c σ2 β' w' σ1 β2 w2→next a2 w2:=fun {σ1 β2 a2 w2} s1 s2 s3 s4 hr2 hsz hf2=>by
  have al:bTi σ1 (aCi (fun j=>(listed.setIfInBounds i true).getD j false) es σ0):=⟨fun t=>by rw[s1,getNew],by rw[s2,heapNew.1],by rw[s3,heapNew.2],by rw[s4];simp only[σ2];rw[aIi,aIi]⟩
  exact hn a2 w2 ⟨by simp[hinv.size],closed',by rw[hsz];exact hinv.nt,β2,al.rel hr2,al.far (hfar.trans hf2)⟩
 cases hres:e.res with
 |none =>
  refine aT6 (σ:=σ2) (res:=none) ho hr (by rw[hg,hres]) (fun R all h=>by cases h) hdst fun σ1 β2 a2 w2 hs1 hr2 hsz hf2=>?_
  have hs1:σ1=σ2.put e.o.dst (.l .und):=hs1
  subst hs1
  obtain⟨p1,p2,p3⟩:=aCx σ2 e.o.dst (.l .und)
  have hf:e.eff=false:=by simp[Ent.eff,hres]
  exact finish (fun t=>by rw[aUd];simp[Ent.val,hres]) (by rw[p1,hf];rfl) (by rw[p2,hf];rfl) p3 hr2 hsz hf2
 |some p =>
  obtain⟨R,all⟩:=p
  have hst:=g4 R all hres
  cases hf:R.eff with
  |true =>
   have hef:e.eff=true:=by simp[Ent.eff,hres,hf]
   have hh:=aH5 (A:=fun i=>listed.getD i false) (B:=fun j=>decide (j<i)) es σ0 σ0 (effHeap hef) rfl rfl
   rw[←c1]at hh
   have hσ2:({e.σ with slots:=σ2.slots}:St)=σ2:=by
    have gen:∀ (s t:St),s.heap=t.heap→s.next=t.next→t.pins=s.pins→({s with slots:=t.slots}:St)=t:=by
     rintro⟨_,_,_,_⟩ ⟨_,_,_,_⟩ h1 h2 h3
     simp only at h1 h2 h3
     subst h1;subst h2;subst h3
     rfl
    exact gen e.σ σ2 hh.1.symm hh.2.symm hpins
   have hstep:=hst.eff hf σ2.slots (by rw[hσ2];exact hev)
   rw[hσ2]at hstep
   refine aT6 (σ:=σ2) (res:=some (aKw σ2.slots R,all)) ho hr (by rw[hg,hres];rfl) (fun R' all' h=>by
    obtain⟨rfl,rfl⟩:aKw σ2.slots R=R'∧all=all':=by simpa using h
    exact hstep) hdst fun σ1 β2 a2 w2 hs1 hr2 hsz hf2=>?_
   have hs1:σ1=(aKw σ2.slots R).st.put e.o.dst (aKw σ2.slots R).val:=hs1
   subst hs1
   obtain⟨p1,p2,p3⟩:=aCx (aKw σ2.slots R).st e.o.dst (aKw σ2.slots R).val
   have happ:(app e.σ e).heap=R.st.heap∧(app e.σ e).next=R.st.next:=by
    simp only[app,hres]
    obtain⟨q1,q2,_⟩:=aCx ({slots:=e.σ.slots,heap:=if R.eff then R.st.heap else e.σ.heap,next:=if R.eff then R.st.next else e.σ.next,pins:=e.σ.pins}:St) e.o.dst R.val
    rw[q1,q2]
    simp[hf]
   refine finish (fun t=>?_) (by rw[p1,hef];simp only[if_true];rw[happ.1];rfl) (by rw[p2,hef];simp only[if_true];rw[happ.2];rfl) (by rw[p3];show R.st.pins=_;rw[hst.st.2.2,hpins]) hr2 hsz hf2
   rw[aUd]
   simp only[Ent.val,hres]
   rfl
  |false =>
   have hef:e.eff=false:=by simp[Ent.eff,hres,hf]
   have hag:aQs e.o.op=false→∀ x,x∈e.o.op.operands→aQ4 e.σ σ2 (e.σ.ev x):=fun hstill x hx id hid=>keys hef R all hres id (by unfold Op.keys;rw[hstill];exact List.mem_flatMap.2 ⟨x,by simpa using hx,hid⟩)
   have hstep:=hst.pure hf σ2 hev hag
   refine aT6 (σ:=σ2) (res:=some (aBl σ2 R.val,all)) ho hr (by rw[hg,hres];rfl) (fun R' all' h=>by
    obtain⟨rfl,rfl⟩:aBl σ2 R.val=R'∧all=all':=by simpa using h
    exact hstep) hdst fun σ1 β2 a2 w2 hs1 hr2 hsz hf2=>?_
   have hs1:σ1=σ2.put e.o.dst R.val:=hs1
   subst hs1
   obtain⟨p1,p2,p3⟩:=aCx σ2 e.o.dst R.val
   refine finish (fun t=>by rw[aUd];simp[Ent.val,hres]) (by rw[p1,hef];rfl) (by rw[p2,hef];rfl) p3 hr2 hsz hf2
theorem bVt {es:List Ent} {σ0 σN:St} {β:aDr} {w:World} (hstat:aUc ops (aEi ops)=true) (hrun:bX1 c E ops (List.range ops.size) σ0 es σN) (htr:bZi (aEi ops) (es.filterMap Ent.ev?).reverse=true)
  (hk:∀ β' a' w',Rel c σN β' a' w'→E.nt≤a'.tmps.size→Far c σ0 β w σN β' w'→Q .normal a' w') :
  ∀ (fuel:Nat) (listed:Array Bool) (a':Act) (w':World),Inv c E ops es σ0 β w listed a' w'→(List.range ops.size).countP (fun j=> !(listed.getD j false))≤fuel→wpAny c.P .any ops Q fuel listed a' w':=by
 obtain⟨f1,f2,f3,f4⟩:=bEm hrun
 have all:∀ {listed:Array Bool} {a':Act} {w':World},Inv c E ops es σ0 β w listed a' w'→(∀ j,j<ops.size→listed.getD j false=true)→Q .normal a' w':=fun {listed a' w'} hinv h=>by
  obtain⟨β',hr,hfar⟩:=hinv.rel
  have:aCi (fun i=>listed.getD i false) es σ0=σN:=by
   rw[f3]
   refine aHd es σ0 fun e he=>h e.i ?_
   have:e.i∈es.map (·.i):=List.mem_map.2 ⟨e,he,rfl⟩
   rw[f1]at this
   exact List.mem_range.1 this
  rw[this]at hr hfar
  exact hk β' a' w' hr hinv.nt hfar
 have none:∀ {listed:Array Bool},listed.size=ops.size→Region.ready .any ops listed=[]→∀ j,j<ops.size→listed.getD j false=true:=fun {listed} hsz hr j=>by
  induction j using Nat.strongRecOn with
  |_ j ih =>
   intro hj
   cases hl:listed.getD j false with
   |true=>rfl
   |false =>
    exfalso
    have:j∈Region.ready .any ops listed:=mem_ready.2 ⟨by rw[aHs (by omega) true false];exact hl,ops[j],Array.getElem?_eq_getElem hj,fun e he hb=>by
     have:=bDu hstat (Array.getElem?_eq_getElem hj) he hb
     exact ih e.on this (by omega)⟩
    rw[hr]at this
    cases this
 intro fuel
 induction fuel with
 |zero =>
  intro listed a' w' hinv hc
  have h:∀ j,j<ops.size→listed.getD j false=true:=fun j hj=>by
   have:=List.countP_eq_zero.1 (Nat.le_zero.1 hc) j (List.mem_range.2 hj)
   simpa using this
  refine⟨?_,all hinv h⟩
  cases hr:Region.ready .any ops listed with
  |nil=>rfl
  |cons i r =>
   exfalso
   have hi:i∈Region.ready .any ops listed:=by rw[hr];exact List.mem_cons_self
   obtain⟨hun,o,ho,_⟩:=mem_ready.1 hi
   have hin:i<ops.size:=(Array.getElem?_eq_some_iff.1 ho).1
   have:=h i hin
   rw[aHs (by rw[hinv.size];exact hin) false true,hun]at this
   cases this
 |succ fuel ih =>
  intro listed a' w' hinv hc
  refine⟨fun hr=>all hinv (none hinv.size hr),fun i hi=>bV5 hstat hrun htr hinv hi fun a2 w2 hinv2=>ih _ a2 w2 hinv2 ?_⟩
  obtain⟨hun,o,ho,_⟩:=mem_ready.1 hi
  have hin:i<ops.size:=(Array.getElem?_eq_some_iff.1 ho).1
  have hAi:listed.getD i false=false:=by rw[aHs (by rw[hinv.size];exact hin) false true];exact hun
  have:=aZm (p:=fun j=> !(listed.getD j false)) (List.range ops.size) (List.mem_range.2 hin) (by simp only[hAi];rfl)
  have e:(fun j=> !((listed.setIfInBounds i true).getD j false))=fun j=> !(listed.getD j false)&&j != i:=by
   funext j
   by_cases hj:j=i
   ·subst hj;simp[hinv.size,hin]
   ·rw[getD_set_ne false (fun e=>hj e.symm)];simp[hj]
  rw[e]
  omega
end
end Go.Proofs.YtigodjkegcibhaaGreatDoor.V
