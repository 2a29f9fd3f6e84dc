/- The value-level interpreter over the model, part F: definitions, or lemmas that show that it is the model's. -/
import Derived.Test.YtigodjkegcibhaaGreatDoorVE
set_option linter.unusedVariables false
set_option linter.unusedSimpArgs false
set_option linter.unusedSectionVars false
set_option linter.unnecessarySimpa false
namespace Go.Proofs.YtigodjkegcibhaaGreatDoor.V
def bGd (c:Ctx) (E:Env) (code:Code) (σ:St) (e:Exit) (σ':St):Prop :=
 ∀ β a w,Rel c σ β a w→E.nt≤a.tmps.size→∀ Q:Exit→Act→World→Prop,(∀ β' a' w',Rel c σ' β' a' w'→E.nt≤a'.tmps.size→(E.ren=false→Far c σ β w σ' β' w')→Q e a' w')→code.wp c.P Q a w
section
variable {c:Ctx} {E:Env} {α:Type}
theorem bF4 {σ:St} {β:aCr} {a:Act} {w w':World} (hr:Rel c σ β a w) (h:w'.heap=w.heap) (ho:w'.os=w.os) (hu:w'.output=w.output):Rel c σ β a w'∧Far c σ β w σ β w':=by
 have e:Ext c w σ.heap σ.next β w' σ.heap σ.next β:=⟨Nat.le_refl _,by rw[h];exact Nat.le_refl _,fun b hb _=>⟨hb,by rw[h]⟩,fun id x _ hx=>⟨rfl,x,hx,aAf.refl x⟩,fun id x b cur E fr _ _ _ hw=>⟨cur,by rw[h];exact hw,rfl⟩⟩
 have hh:=hr.heap
 refine⟨⟨⟨fun id b hl=>⟨(hh.blk id b hl).1,(hh.blk id b hl).2.ext e fun _ _=>by rw[h]⟩,fun id x b hl hb=>by rw[h];exact hh.place id x b hl hb,hh.inj,by rw[h];exact hh.size,fun b hb hp=>by rw[h];exact hh.frame b hb hp,ho.trans hh.os,hu.trans hh.out,
  fun b hb cur E fr hw=>by rw[h];exact hh.pbs b hb cur E fr hw,fun g o hg=>by rw[h];exact hh.gh g o hg⟩,fun t=>e.repW (hr.slot t),hr.defers,hr.pins,hr.npins⟩,e,rfl,fun id cells hl=>⟨cells,hl,rfl,rfl⟩,fun id x _ hl hx=>⟨x,hl,hx,rfl⟩⟩
theorem bNs (hE:aA8 c.P E) {I:Inl α} (hI:aMr c I) {ops:Array Oper} {id:Nat} {σ:St} {k:St→T α} {r:α} (he:(bGf E I ops σ k).eval=some r) :
  ∃ σ',(k σ').eval=some r∧bGd c E (.region id ops true) σ .normal σ':=by
 unfold bGf at he
 split at he
 ·rename_i hstat
  obtain⟨es,σ',h1,h2⟩:=bEh hE hI he
  split at h1
  ·rename_i htr
   refine⟨σ',h1,fun β a w hr hs Q hq=>wp_region_any hE.mixed ?_⟩
   obtain⟨hr',hf'⟩:=bF4 (w':={w with drawn:=w.drawn+1}) hr rfl rfl rfl
   have hz:aBq (fun i=>(Array.replicate ops.size false).getD i false) es σ=σ:=by
    rw[aF2 (B:=fun _=>false) es σ (fun e _=>by simp[Array.getD_eq_getD_getElem?,Array.getElem?_replicate];split<;>rfl),aGx]
   refine bPo (σ0:=σ) (σN:=σ') (β:=β) (w:=w) hstat h2 (by simpa using htr) (fun β' a' w' hr' hs' hf=>hq β' a' w' hr' hs' fun _=>hf) ops.size _ a _ ⟨by simp,fun j o ho hj=>?_,hs,β,by rw[hz];exact hr',by rw[hz];exact hf'⟩ ?_
   ·simp[Array.getD_eq_getD_getElem?,Array.getElem?_replicate]at hj
    split at hj<;>cases hj
   ·exact Nat.le_trans List.countP_le_length (by simp)
  ·exact (aA0 h1).elim
 ·exact (aA0 he).elim
theorem bJb (hE:aA8 c.P E) {ops:Array Oper} {id:Nat} {σ:St} {k:St→T α} {r:α} (he:(bGf E aAe (aB8 E ops) σ k).eval=some r) :
  ∃ σ',(k σ').eval=some r∧bGd c E (.region id ops true) σ .normal σ':=by
 unfold bGf at he
 split at he
 ·rename_i hstat
  rw[aCi]at he
  obtain⟨es,σ',h1,h2,h3⟩:=bJ7 hE he
  split at h1
  ·rename_i htr
   refine⟨σ',h1,fun β a w hr hs Q hq=>wp_region_any hE.mixed ?_⟩
   obtain⟨hr',hf'⟩:=bF4 (w':={w with drawn:=w.drawn+1}) hr rfl rfl rfl
   have hz:aBq (fun i=>(Array.replicate ops.size false).getD i false) es σ=σ:=by
    rw[aF2 (B:=fun _=>false) es σ (fun e _=>by simp[Array.getD_eq_getD_getElem?,Array.getElem?_replicate];split<;>rfl),aGx]
   have nol:∀ j,(Array.replicate ops.size false).getD j false=true→False:=fun j hj=>by
    simp[Array.getD_eq_getD_getElem?,Array.getElem?_replicate]at hj
    split at hj<;>cases hj
   refine bMd hE.ok (σ0:=σ) (σN:=σ') (β:=β) (w:=w) hstat h2 h3 (by simpa using htr) (fun β' a' w' hr' hs' hf=>hq β' a' w' hr' hs' fun _=>hf) ops.size _ a _ c.gh c.ghge ⟨⟨by simp[aCi],fun j o ho hj=>(nol j hj).elim,hs,β,by rw[hz];exact hr',by rw[hz];exact hf'⟩,fun _ _ h=>h,fun q d t x _ h1=>(nol q h1).elim,fun q d t x q' d' t' x' _ h1=>(nol q h1).elim,fun _ _ h=>.inl h⟩ ?_
   exact Nat.le_trans List.countP_le_length (by simp)
  ·exact (aA0 h1).elim
 ·exact (aA0 he).elim
theorem bGe (hE:aA8 c.P E) {I:Inl α} (hI:aMr c I) {ops:Array Oper} {draw:Bool} {id:Nat} {σ:St} {k:St→T α} {r:α} (he:(aUz E I ops draw σ k).eval=some r) :
  ∃ σ',(k σ').eval=some r∧bGd c E (.region id ops draw) σ .normal σ':=by
 cases draw with
 |false =>
  obtain⟨es,σ',h1,h2⟩:=bEh hE hI he
  exact⟨σ',h1,fun β a w hr hs Q hq=>wp_region (bU1 h2 hr hs fun β' a' w' hr' hs' hf=>hq β' a' w' hr' hs' fun _=>hf)⟩
 |true =>
  simp only[aUz]at he
  split at he
  ·exact bJb hE he
  ·exact bNs hE hI he
def bVe (P:Program) (x:Code) (Q:Exit→Act→World→Prop) (a:Act) (w:World):Prop :=
 ∀ (b:Frame) (k:List Item) (cs:List Frame),∃ e a' w',Q e a' w'∧Arrives P (lone (b.at a (.code x:: .inLoop x::k)) cs w) b k cs e a' w'
theorem aGk {P:Program} {x:Code} {Q:Exit→Act→World→Prop} {a:Act} {w:World} (h:x.wp P (Exit.then (bVe P x Q) Q) a w):bVe P x Q a w:=by
 intro b k cs
 obtain⟨e,a₁,w₁,hq,harr⟩:=h b (.inLoop x::k) cs
 cases e with
 |normal =>
  obtain⟨e₂,a₂,w₂,hq₂,harr₂⟩:=hq b k cs
  exact⟨e₂,a₂,w₂,hq₂,.of_steps (Steps.trans harr (.one step_inLoop)) harr₂⟩
 |exit id=>exact⟨_,a₁,w₁,hq,.pass (x:=.inLoop x) rfl (fun _ _=>.inl (by simp)) harr⟩
 |goto l=>exact⟨_,a₁,w₁,hq,.pass (x:=.inLoop x) rfl (fun _ _=>.inl (by simp)) harr⟩
 |ret=>exact⟨_,a₁,w₁,hq,.pass (x:=.inLoop x) rfl (fun _ _=>.inl (by simp)) harr⟩
 |panic ch=>exact⟨_,a₁,w₁,hq,.pass (x:=.inLoop x) rfl (fun _ _=>.inl (by simp)) harr⟩
 |outgrown=>exact⟨_,a₁,w₁,hq,.pass (x:=.inLoop x) rfl (fun _ _=>.inl (by simp)) harr⟩
theorem bJ4 {P:Program} {x:Code} {Q:Exit→Act→World→Prop} {a:Act} {w:World} (h:bVe P x Q a w):(Code.loop x).wp P Q a w:=by
 intro b k cs
 obtain⟨e,a',w',hq,harr⟩:=h b k cs
 exact⟨e,a',w',hq,.of_steps (.one step_loop) harr⟩
theorem aHr:∀ (ids:List Nat) (k:Nat),ids.Nodup→∀ id j,(ids.zipIdx k).lookup id=some j↔k≤j∧ids[j-k]? =some id
 |[],k,_,id,j=>by simp
 |x::ids,k,hn,id,j=>by
  obtain⟨hx,hn'⟩:=List.nodup_cons.1 hn
  rw[List.zipIdx_cons]
  by_cases h:id=x
  ·subst h
   simp only[List.lookup,beq_self_eq_true,Option.some.injEq]
   constructor
   ·rintro rfl;exact⟨Nat.le_refl _,by simp⟩
   ·rintro⟨h1,h2⟩
    by_cases hj:j=k
    ·exact hj.symm
    ·exfalso
     obtain⟨d,hd⟩:∃ d,j-k=d+1:=⟨j-k-1,by omega⟩
     rw[hd,List.getElem?_cons_succ]at h2
     exact hx (List.mem_of_getElem? h2)
  ·have hf:(id==x)=false:=by simpa using h
   simp only[List.lookup,hf]
   rw[aHr ids (k+1) hn' id j]
   constructor
   ·rintro⟨h1,h2⟩
    refine⟨by omega,?_⟩
    obtain⟨d,hd⟩:∃ d,j-k=d+1:=⟨j-k-1,by omega⟩
    rw[hd,List.getElem?_cons_succ,←h2]
    congr 1;omega
   ·rintro⟨h1,h2⟩
    by_cases hj:j=k
    ·subst hj;simp at h2;exact absurd h2.symm h
    ·obtain⟨d,hd⟩:∃ d,j-k=d+1:=⟨j-k-1,by omega⟩
     rw[hd,List.getElem?_cons_succ]at h2
     refine⟨by omega,?_⟩
     rw[←h2];congr 1;omega
def aJp (h:aCq) (m:List (Nat×Nat)) (ms:List (Nat×Nat)):aCq:=ms.filterMap fun p=>(h.lookup p.1).map fun b=>(p.2,b.renm m)
theorem aL2 {h:aCq} {m:List (Nat×Nat)}:∀ (ids:List Nat) (k:Nat),(∀ id,id∈ids→(h.lookup id).isSome=true)→∀ j,(aJp h m (ids.zipIdx k)).lookup j=if k≤j then (ids[j-k]?).bind fun id=>(h.lookup id).map (Blk.renm m)else none
 |[],k,_,j=>by simp[aJp]
 |x::ids,k,hs,j=>by
  have hx:=hs x List.mem_cons_self
  obtain⟨b,hb⟩:=Option.isSome_iff_exists.1 hx
  have ih:=aL2 (m:=m) ids (k+1) (fun id hi=>hs id (List.mem_cons_of_mem _ hi)) j
  have e:aJp h m ((x::ids).zipIdx k)=(k,b.renm m)::aJp h m (ids.zipIdx (k+1)):=by
   simp[aJp,List.zipIdx_cons,hb]
  rw[e]
  by_cases hj:j=k
  ·subst hj
   rw[aBw]
   simp[hb]
  ·rw[aAt hj,ih]
   by_cases hk:k+1≤j
   ·rw[if_pos hk,if_pos (by omega)]
    obtain⟨d,hd⟩:∃ d,j-k=d+1:=⟨j-k-1,by omega⟩
    rw[hd,List.getElem?_cons_succ]
    congr 2
    omega
   ·rw[if_neg hk,if_neg (by omega)]
theorem aKg (m:List (Nat×Nat)) (b:Blk):(b.renm m).rows? =b.rows? ∧(b.renm m).isBox=b.isBox∧(b.renm m).isFro=b.isFro:=by
 cases b with
 |bld t e row =>
  cases row with
  |none=>exact⟨rfl,rfl,rfl⟩
  |some id=>simp only[Blk.renm];split<;>exact⟨rfl,rfl,rfl⟩
 |box c=>exact⟨rfl,rfl,rfl⟩
 |arr s r=>exact⟨rfl,rfl,rfl⟩
 |fro s r=>exact⟨rfl,rfl,rfl⟩
 |own e bs=>exact⟨rfl,rfl,rfl⟩
 |mset ks=>exact⟨rfl,rfl,rfl⟩
end
theorem aRr:∀ (l seen:List Nat) {x:Nat},x∈aTd l seen→x∉seen
 |[],_,x,h=>by cases h
 |y::l,seen,x,h=>by
  simp only[aTd]at h
  split at h
  ·exact aRr l seen h
  ·rename_i hy
   rcases List.mem_cons.1 h with rfl | h
   ·simpa using hy
   ·exact fun hx=>aRr l (y::seen) h (List.mem_cons_of_mem _ hx)
theorem aLq:∀ (l seen:List Nat),(aTd l seen).Nodup
 |[],_=>List.nodup_nil
 |y::l,seen=>by
  simp only[aTd]
  split
  ·exact aLq l seen
  ·exact List.nodup_cons.2 ⟨fun h=>aRr l (y::seen) h List.mem_cons_self,aLq l _⟩
theorem aX8:∀ (l seen:List Nat) {x:Nat},x∈l→x∉seen→x∈aTd l seen
 |[],_,x,h,_=>by cases h
 |y::l,seen,x,h,hs=>by
  simp only[aTd]
  split
  ·rename_i hy
   rcases List.mem_cons.1 h with rfl | h
   ·exact absurd (by simpa using hy) hs
   ·exact aX8 l seen h hs
  ·by_cases hxy:x=y
   ·subst hxy;exact List.mem_cons_self
   ·rcases List.mem_cons.1 h with h | h
    ·exact absurd h hxy
    ·exact List.mem_cons_of_mem _ (aX8 l (y::seen) h (fun hx=>by
      rcases List.mem_cons.1 hx with h | h
      ·exact hxy h
      ·exact hs h))
theorem aU7 (f:Nat→W):∀ (lv:List Nat) (t:Nat),(lv.map fun t=>(t,f t)).lookup t=if t∈lv then some (f t)else none
 |[],t=>by simp
 |x::lv,t=>by
  simp only[List.map_cons]
  by_cases h:t=x
  ·subst h;simp[List.lookup]
  ·have hf:(t==x)=false:=by simpa using h
   simp only[List.lookup,hf]
   rw[aU7 f lv t]
   simp[h]
section
variable {c:Ctx} {E:Env}
theorem bS0 {σ:St} {β:aCr} {a:Act} {w:World} (hr:Rel c σ β a w) {ids:List Nat} (hn:ids.Nodup) (hs:∀ id,id∈ids→(σ.heap.lookup id).isSome=true) (hp:∀ id,id∈σ.pins→id∈ids) {slots:List (Nat×W)}
  (hsl:∀ t,(({σ with slots:=slots}:St).get t=.l .none')∨({σ with slots:=slots}:St).get t=(σ.get t).renm ids.zipIdx) :
  ∃ β',Rel c {slots:=slots,heap:=aJp σ.heap ids.zipIdx ids.zipIdx,next:=ids.length,pins:=σ.pins.map fun i=>(ids.zipIdx.lookup i).getD ids.length} β' a w:=by
 let m:=ids.zipIdx
 let h':=aJp σ.heap m m
 let β':aCr:=fun j=>(ids[j]?).bind β
 have hm:∀ {id j:Nat},m.lookup id=some j→ids[j]? =some id:=fun {id j} h=>by
  have:=(aHr ids 0 hn id j).1 h
  simpa using this.2
 have hlk:∀ j,h'.lookup j=(ids[j]?).bind fun id=>(σ.heap.lookup id).map (Blk.renm m):=fun j=>by
  have:=aL2 (h:=σ.heap) (m:=m) ids 0 hs j
  simpa using this
 have back:∀ {j:Nat} {x:Blk},h'.lookup j=some x→∃ id x0,ids[j]? =some id∧σ.heap.lookup id=some x0∧x=x0.renm m∧β' j=β id∧j<ids.length:=fun {j x} h=>by
  rw[hlk]at h
  cases hi:ids[j]? with
  |none=>rw[hi]at h;cases h
  |some id =>
   rw[hi]at h
   simp only[Option.bind_some]at h
   cases hx:σ.heap.lookup id with
   |none=>rw[hx]at h;cases h
   |some x0 =>
    rw[hx]at h
    exact⟨id,x0,rfl,hx,(Option.some.inj h).symm,by simp[β',hi],(List.getElem?_eq_some_iff.1 hi).1⟩
 have hh:=hr.heap
 have ok':∀ b,okD c σ.heap β b→okD c h' β' b:=fun b hb=>⟨hb.1,fun j x hx hf hbj=>by
  obtain⟨id,x0,h1,h2,rfl,h4,_⟩:=back hx
  rw[h4]at hbj
  exact hb.2 id x0 h2 (by rw[←(aKg m x0).2.2];exact hf) hbj⟩
 have rep':∀ {v:Value} {d:C},Rep w (okD c σ.heap β) v d→Rep w (okD c h' β') v d:=fun hd=>hd.mono (fun b hb _=>⟨ok' b hb,rfl⟩) (Nat.le_refl _)
 have at':∀ {id j:Nat},m.lookup id=some j→j<ids.length∧β' j=β id∧h'.lookup j=(σ.heap.lookup id).map (Blk.renm m):=fun {id j} h=>by
  have h1:=hm h
  exact⟨(List.getElem?_eq_some_iff.1 h1).1,by simp[β',h1],by rw[hlk,h1];rfl⟩
 have repL:∀ {v:Value} {x:L},aI5 (okD c σ.heap β) w σ.heap σ.next β v x→aI5 (okD c h' β') w h' ids.length β' v (x.renm m):=by
  intro v x hx
  cases x with
  |sl rows=>exact rep' hx
  |sn _ rows=>exact⟨rep' hx.1,hx.2⟩
  |fn g caps=>exact rep' hx
  |e x=>exact rep' hx
  |m ks=>exact rep' hx
  |mref id =>
   simp only[L.renm]
   cases hj:m.lookup id with
   |none=>trivial
   |some j =>
    obtain⟨q1,q2,q3⟩:=at' hj
    refine⟨q1,hx.2.1,fun ks hl=>?_⟩
    rw[q3]at hl
    cases hb:σ.heap.lookup id with
    |none=>rw[hb]at hl;cases hl
    |some b0 =>
     rw[hb]at hl
     have hl:=Option.some.inj hl
     have:b0=.mset ks:=by
      cases b0 with
      |bld t e row=>cases row with
       |none=>cases hl
       |some r=>simp only[Blk.renm]at hl;split at hl<;>cases hl
      |mset k0=>exact hl
      |_=>cases hl
     subst this
     obtain⟨b,h1,h2⟩:=hx.2.2 ks hb
     exact⟨b,q2.trans h1,h2⟩
  |i k n=>exact hx
  |b t=>exact hx
  |s l=>exact hx
  |nil=>exact hx
  |und=>exact hx
  |none'=>exact hx
  |rp row off =>
   obtain⟨b,o,hv,hok,hlt,hrr⟩:=hx
   exact⟨b,o,hv,ok' b hok,hlt,fun j x hj=>let⟨u,hu,hru⟩:=hrr j x hj;⟨u,hu,rep' hru⟩⟩
  |ref id off n =>
   simp only[L.renm]
   cases hj:m.lookup id with
   |none=>trivial
   |some j =>
    obtain⟨q1,q2,q3⟩:=at' hj
    refine⟨q1,hx.2.1,fun blk sz rows hl hrw=>?_⟩
    rw[q3]at hl
    cases hb:σ.heap.lookup id with
    |none=>rw[hb]at hl;cases hl
    |some b0 =>
     rw[hb]at hl
     obtain rfl:=Option.some.inj hl
     rw[(aKg m b0).1]at hrw
     rw[q2]
     exact hx.2.2 b0 sz rows hb hrw
  |ptr id off =>
   simp only[L.renm]
   cases hj:m.lookup id with
   |none=>trivial
   |some j =>
    obtain⟨q1,q2,q3⟩:=at' hj
    refine⟨q1,hx.2.1,fun cells hl=>?_,fun tb e0 row hl=>?_⟩
    ·rw[q3]at hl
     cases hb:σ.heap.lookup id with
     |none=>rw[hb]at hl;cases hl
     |some b0 =>
      rw[hb]at hl
      have hl:=Option.some.inj hl
      cases b0 with
      |box cells0=>rw[q2];exact hx.2.2.1 cells0 hb
      |arr sz rows=>cases hl
      |fro sz rows=>cases hl
      |bld t0 e1 row0=>cases row0<;>simp only[Blk.renm]at hl<;>(try split at hl)<;>cases hl
      |own e1 bs0=>cases hl
      |mset _=>cases hl
    ·rw[q3]at hl
     cases hb:σ.heap.lookup id with
     |none=>rw[hb]at hl;cases hl
     |some b0 =>
      rw[hb]at hl
      have hl:=Option.some.inj hl
      cases b0 with
      |bld t0 e1 row0=>rw[q2];exact hx.2.2.2 t0 e1 row0 hb
      |own e1 bs0=>cases hl
      |mset _=>cases hl
      |arr sz rows=>cases hl
      |fro sz rows=>cases hl
      |box cells0=>cases hl
  |clo g caps =>
   simp only[L.renm]
   cases hj:aHo m caps with
   |none=>trivial
   |some cs =>
    obtain⟨vs,h1,h2,h3⟩:=hx
    have key:∀ (caps cs:List (Sum Nat C)) (vs:List Value),aHo m caps=some cs→vs.length=caps.length→(∀ (i:Nat) (u:Value) (x:Sum Nat C),vs[i]? =some u→caps[i]? =some x→aMq (okD c σ.heap β) w σ.heap σ.next β u x) →
      vs.length=cs.length∧∀ (i:Nat) (u:Value) (x:Sum Nat C),vs[i]? =some u→cs[i]? =some x→aMq (okD c h' β') w h' ids.length β' u x:=by
     intro caps
     induction caps with
     |nil =>
      intro cs vs h hl _
      obtain rfl:=Option.some.inj h
      exact⟨hl,fun i u x _ hx=>by simp at hx⟩
     |cons y r ih =>
      intro cs vs h hl hv
      cases vs with
      |nil=>simp at hl
      |cons v0 vs =>
       have hv0:=hv 0 v0 y rfl rfl
       have hvs:∀ (i:Nat) (u:Value) (x:Sum Nat C),vs[i]? =some u→r[i]? =some x→aMq (okD c σ.heap β) w σ.heap σ.next β u x:=fun i u x a b=>hv (i+1) u x (by simpa using a) (by simpa using b)
       have fin:∀ (z:Sum Nat C) (cs0:List (Sum Nat C)),aHo m r=some cs0→aMq (okD c h' β') w h' ids.length β' v0 z→cs=z::cs0→(v0::vs).length=cs.length∧∀ (i:Nat) (u:Value) (x:Sum Nat C),(v0::vs)[i]? =some u→cs[i]? =some x→aMq (okD c h' β') w h' ids.length β' u x:=by
        rintro z cs0 hr0 hz rfl
        obtain⟨i1,i2⟩:=ih cs0 vs hr0 (by simpa using hl) hvs
        refine⟨by simp[i1],fun i u x a b=>?_⟩
        cases i with
        |zero=>simp at a b;subst a;subst b;exact hz
        |succ i=>exact i2 i u x (by simpa using a) (by simpa using b)
       cases y with
       |inr d =>
        simp only[aHo]at h
        cases hr0:aHo m r with
        |none=>rw[hr0]at h;cases h
        |some cs0=>rw[hr0]at h;exact fin (.inr d) cs0 hr0 (rep' hv0) (Option.some.inj h).symm
       |inl id =>
        simp only[aHo]at h
        cases hj:m.lookup id with
        |none=>rw[hj]at h;cases h
        |some j =>
         cases hr0:aHo m r with
         |none=>rw[hj,hr0]at h;cases h
         |some cs0 =>
          rw[hj,hr0]at h
          refine fin (.inl j) cs0 hr0 ?_ (Option.some.inj h).symm
          obtain⟨q1,q2,q3⟩:=at' hj
          refine⟨q1,hv0.2.1,fun cells hl=>?_,fun tb e0 row hl=>?_⟩
          ·rw[q3]at hl
           cases hb:σ.heap.lookup id with
           |none=>rw[hb]at hl;cases hl
           |some b0 =>
            rw[hb]at hl
            have hl:=Option.some.inj hl
            cases b0 with
            |box cells0=>rw[q2];exact hv0.2.2.1 cells0 hb
            |arr sz rows=>cases hl
            |fro sz rows=>cases hl
            |bld t0 e1 row0=>cases row0<;>simp only[Blk.renm]at hl<;>(try split at hl)<;>cases hl
            |own e1 bs0=>cases hl
            |mset _=>cases hl
          ·rw[q3]at hl
           cases hb:σ.heap.lookup id with
           |none=>rw[hb]at hl;cases hl
           |some b0 =>
            rw[hb]at hl
            have hl:=Option.some.inj hl
            cases b0 with
            |bld t0 e1 row0=>rw[q2];exact hv0.2.2.2 t0 e1 row0 hb
            |own e1 bs0=>cases hl
            |mset _=>cases hl
            |arr sz rows=>cases hl
            |fro sz rows=>cases hl
            |box cells0=>cases hl
    obtain⟨k1,k2⟩:=key caps cs vs hj h2 h3
    exact⟨vs,h1,k1,k2⟩
  |eptr id r off =>
   simp only[L.renm]
   cases hj:m.lookup id with
   |none=>trivial
   |some j =>
    obtain⟨q1,q2,q3⟩:=at' hj
    refine⟨q1,hx.2.1,fun sz rows hl=>?_⟩
    rw[q3]at hl
    cases hb:σ.heap.lookup id with
    |none=>rw[hb]at hl;cases hl
    |some b0 =>
     rw[hb]at hl
     have hl:=Option.some.inj hl
     cases b0 with
     |box cells0=>cases hl
     |arr sz0 rows0 =>
      simp only[Blk.renm,Blk.arr.injEq]at hl
      obtain⟨rfl,rfl⟩:=hl
      rw[q2];exact hx.2.2 sz0 rows0 hb
     |fro sz0 rows0=>cases hl
     |bld t0 e1 row0=>cases row0<;>simp only[Blk.renm]at hl<;>(try split at hl)<;>cases hl
     |own e1 bs0=>cases hl
     |mset _=>cases hl
 have repLs:∀ {vs:Array Value} {xs:List L},aJ9 (okD c σ.heap β) w σ.heap σ.next β vs xs→aJ9 (okD c h' β') w h' ids.length β' vs (xs.map (L.renm m)):=fun {vs xs} hx =>
  ⟨by simp[hx.1],fun j y hj=>by
   rw[List.getElem?_map]at hj
   cases hxj:xs[j]? with
   |none=>rw[hxj]at hj;cases hj
   |some x =>
    rw[hxj]at hj
    obtain rfl:=Option.some.inj hj
    obtain⟨u,hu,hru⟩:=hx.2 j x hxj
    exact⟨u,hu,repL hru⟩⟩
 have repP:∀ {v:Value} {g:Bool} {xs:List L},bIs (okD c σ.heap β) w σ.heap σ.next β v g xs→bIs (okD c h' β') w h' ids.length β' v g (xs.map (L.renm m)):=fun {v g xs} hx=>by
  cases g with
  |true=>obtain⟨vs,hv,hxs⟩:=hx;exact⟨vs,hv,repLs hxs⟩
  |false=>obtain⟨x,rfl,hxx⟩:=hx;exact⟨x.renm m,rfl,repL hxx⟩
 have repW:∀ {v:Value} {x:W},aFs (okD c σ.heap β) w σ.heap σ.next β v x→aFs (okD c h' β') w h' ids.length β' v (x.renm m):=fun {v x} hx=>by
  cases x with
  |l x=>exact repL hx
  |agg xs=>exact repP (g:=true) hx
  |tup ps =>
   obtain⟨vs,hv,hsz,hps⟩:=hx
   refine⟨vs,hv,by simp[hsz],fun j p hj=>?_⟩
   rw[List.getElem?_map]at hj
   cases hpj:ps[j]? with
   |none=>rw[hpj]at hj;cases hj
   |some q =>
    rw[hpj]at hj
    obtain rfl:=Option.some.inj hj
    obtain⟨u,hu,hq⟩:=hps j q hpj
    exact⟨u,hu,repP hq⟩
  |bz t=>exact hx
 refine⟨β',⟨⟨fun j x hl=>?_,fun j x b hl hb=>?_,fun j j' x x' b hl hl' hb hb'=>?_,hh.size,hh.frame,hh.os,hh.out,hh.pbs,fun g o hg=>⟨(hh.gh g o hg).1,fun j x hl hb=>by
  obtain⟨id,x0,h1,h2,rfl,h4,_⟩:=back hl
  rw[h4]at hb
  exact (hh.gh g o hg).2 id x0 h2 hb⟩⟩,fun t=>?_,hr.defers,fun j id hj=>?_,by simp[hr.npins]⟩⟩
 ·obtain⟨id,x0,h1,h2,rfl,h4,h5⟩:=back hl
  refine⟨h5,?_⟩
  rw[h4]
  have:=(hh.blk id x0 h2).2
  cases x0 with
  |box cells =>
   obtain⟨b,cur,E',fr,hb,hw,hth,hrep⟩:=this
   exact⟨b,cur,E',fr,hb,hw,hth,repLs hrep⟩
  |own e0 bs=>exact this
  |mset ks=>exact this
  |bld tb e0 row =>
   obtain⟨b,p,u,hb,hw,hp,hn0,hu⟩:=this
   cases row with
   |none=>exact⟨b,p,u,hb,hw,hp,fun _=>hn0 rfl,fun id hid=>by cases hid⟩
   |some id0 =>
    obtain⟨hlt,hnb,hu⟩:=hu id0 rfl
    simp only[Blk.renm]
    cases hj:m.lookup id0 with
    |none=>exact⟨b,#[p,u],_,_,hb,hw,fun _=>⟨rfl,rfl⟩,Nat.zero_le _,by show 2≤maxLen;decide,rfl⟩
    |some j =>
     refine⟨b,p,u,hb,hw,hp,(fun (hc:some j=none)=>nomatch hc),fun id hid=>?_⟩
     obtain rfl:=Option.some.inj hid
     obtain⟨q1,q2,q3⟩:=at' hj
     refine⟨q1,fun t2 e2 r2 hl=>?_,fun e' bs hl=>?_⟩
     ·rw[q3]at hl
      cases hx0:σ.heap.lookup id0 with
      |none=>rw[hx0]at hl;cases hl
      |some x0 =>
       rw[hx0]at hl
       have hl:=Option.some.inj hl
       cases x0 with
       |bld t1 e1 r1=>exact hnb _ _ _ hx0
       |own e1 bs1=>cases hl
       |box c0=>cases hl
       |arr sz rows=>cases hl
       |fro sz rows=>cases hl
       |mset _=>cases hl
     rw[q3]at hl
     cases hx0:σ.heap.lookup id0 with
     |none=>rw[hx0]at hl;cases hl
     |some x0 =>
      rw[hx0]at hl
      have hl:=Option.some.inj hl
      cases x0 with
      |own e1 bs1 =>
       obtain⟨rfl,rfl⟩:=Blk.own.inj hl
       obtain⟨h1,g,cur,E1,fr1,hg,hcg,hue⟩:=hu _ _ hx0
       exact⟨h1,g,cur,E1,fr1,q2.trans hg,hcg,hue⟩
      |box c0=>cases hl
      |arr sz rows=>cases hl
      |fro sz rows=>cases hl
      |mset _=>cases hl
      |bld t1 e1 r1=>exact (hnb _ _ _ hx0).elim
  |arr sz rows=>exact⟨this.1,this.2.imp (fun h=>h) fun⟨b,cur,E',fr,hb,hw,hth,hl,hrr⟩=>⟨b,cur,E',fr,hb,hw,hth,hl,fun i r j y hi hj=>let⟨u,hu,hru⟩:=hrr i r j y hi hj;⟨u,hu,rep' hru⟩⟩⟩
  |fro sz rows=>exact⟨this.1,this.2.imp (fun h=>h) fun⟨b,cur,E',fr,hb,hw,hth,hl,hrr⟩=>⟨b,cur,E',fr,hb,hw,hth,hl,fun i r j y hi hj=>let⟨u,hu,hru⟩:=hrr i r j y hi hj;⟨u,hu,rep' hru⟩⟩⟩
 ·obtain⟨id,x0,h1,h2,rfl,h4,h5⟩:=back hl
  rw[h4]at hb
  rw[(aKg m x0).2.2]
  exact hh.place id x0 b h2 hb
 ·obtain⟨id,x0,h1,h2,_,h4,h5⟩:=back hl
  obtain⟨id',x0',h1',h2',_,h4',h5'⟩:=back hl'
  rw[h4]at hb
  rw[h4']at hb'
  have:=hh.inj id id' x0 x0' b h2 h2' hb hb'
  subst this
  have e1:=(aHr ids 0 hn id j).2 ⟨by omega,by simpa using h1⟩
  have e2:=(aHr ids 0 hn id j').2 ⟨by omega,by simpa using h1'⟩
  rw[e1]at e2
  exact Option.some.inj e2
 ·have hg:({slots:=slots,heap:=h',next:=ids.length,pins:=σ.pins.map fun i=>(m.lookup i).getD ids.length}:St).get t=({σ with slots:=slots}:St).get t:=rfl
  show aFs _ w h' ids.length β' _ (({slots:=slots,heap:=h',next:=ids.length,pins:=σ.pins.map fun i=>(m.lookup i).getD ids.length}:St).get t)
  rw[hg]
  rcases hsl t with h | h
  ·rw[h];trivial
  ·rw[h];exact repW (hr.slot t)
 ·have hj':(σ.pins.map fun i=>(m.lookup i).getD ids.length)[j]? =some id:=hj
  rw[List.getElem?_map]at hj'
  cases hpj:σ.pins[j]? with
  |none=>rw[hpj]at hj';cases hj'
  |some p =>
   rw[hpj]at hj'
   have hj':=Option.some.inj hj'
   obtain⟨q1,⟨x,q2,qf⟩,q3⟩:=hr.pins j p hpj
   obtain⟨k,hk⟩:=List.getElem?_of_mem (hp p (List.mem_of_getElem? hpj))
   have hmk:m.lookup p=some k:=(aHr ids 0 hn p k).2 ⟨by omega,by simpa using hk⟩
   have hj2:(List.lookup p m).getD ids.length=id:=hj'
   rw[hmk]at hj2
   obtain rfl:k=id:=hj2
   obtain⟨r1,r2,r3⟩:=at' hmk
   exact⟨r1,⟨x.renm m,by show h'.lookup k=_;rw[r3,q2];rfl,by rw[(aKg m x).2.2];exact qf⟩,by rw[r2];exact q3⟩
theorem bKr {hd:Nat} {σ:St} {β:aCr} {a:Act} {w:World} (hr:Rel c σ β a w):∃ β',Rel c (σ.norm E hd) β' a w∧(E.ren=false→Far c σ β w (σ.norm E hd) β' w):=by
 have getv:∀ (s:St) (f:Nat→W) (t:Nat),({s with slots:=(E.lv hd).map fun t=>(t,f t)}:St).get t=if t∈(E.lv hd)then f t else .l .none':=fun s f t=>by
  simp only[St.get]
  rw[aU7]
  split<;>rfl
 cases hren:E.ren with
 |false =>
  have e:σ.norm E hd={σ with slots:=(E.lv hd).map fun t=>(t,σ.get t)}:=by simp[St.norm,hren]
  rw[e]
  refine⟨β,⟨hr.heap,fun t=>?_,hr.defers,hr.pins,hr.npins⟩,fun _=>⟨Ext.refl _ _ _ _ _,rfl,fun id cells h=>⟨cells,h,rfl,rfl⟩,fun id x _ hl hx=>⟨x,hl,hx,rfl⟩⟩⟩
  rw[getv]
  split
  ·exact hr.slot t
  ·trivial
 |true =>
  let slots0:=(E.lv hd).map fun t=>(t,σ.get t)
  let r0:=(slots0.flatMap fun p=>p.2.ids)++σ.pins
  let ids:=(aTd (r0++aGe σ.heap r0) []).filter fun id=>(σ.heap.lookup id).isSome
  have e:σ.norm E hd={slots:=slots0.map fun p=>(p.1,p.2.renm ids.zipIdx),heap:=aJp σ.heap ids.zipIdx ids.zipIdx,next:=ids.length,pins:=σ.pins.map fun i=>(ids.zipIdx.lookup i).getD ids.length}:=by
   simp only[St.norm,hren,if_true]
   rfl
  rw[e]
  have hn:ids.Nodup:=(aLq _ _).filter _
  obtain⟨β',h⟩:=bS0 hr hn (fun id hi=>by have:=(List.mem_filter.1 hi).2;simpa using this) (fun id hi=>by
   obtain⟨j,hj⟩:=List.getElem?_of_mem hi
   obtain⟨_,⟨cells,hc⟩,_⟩:=hr.pins j id hj
   exact List.mem_filter.2 ⟨aX8 _ _ (List.mem_append_left _ (List.mem_append_right _ hi)) (by simp),by rw[hc.1];rfl⟩) (slots:=slots0.map fun p=>(p.1,p.2.renm ids.zipIdx)) (fun t=>by
   have e2:slots0.map (fun p=>(p.1,p.2.renm ids.zipIdx))=(E.lv hd).map fun t=>(t,(σ.get t).renm ids.zipIdx):=by simp[slots0,Function.comp_def]
   rw[e2,getv]
   split
   ·exact .inr rfl
   ·exact .inl rfl)
  exact⟨β',h,fun h=>by cases h⟩
end
section
variable {c:Ctx} {α:Type}
theorem aV1 {E:Env} (hE:aA8 c.P E) {I:Inl α} (hI:aMr c I):∀ (code:Code) {σ:St} {k:Exit→St→T α} {r:α},(aEt E I code σ k).eval=some r→∃ e σ',(k e σ').eval=some r∧bGd c E code σ e σ':=by
 intro code
 induction code with
 |skip =>
  intro σ k r he
  exact⟨.normal,σ,he,fun β a w hr hs Q hq=>wp_skip (hq β a w hr hs fun _=>Far.refl _ _ _ _)⟩
 |region id ops draw =>
  intro σ k r he
  obtain⟨σ',h1,h2⟩:=bGe (id:=id) hE hI he
  exact⟨.normal,σ',h1,h2⟩
 |seq x y ihx ihy =>
  intro σ k r he
  simp only[aEt]at he
  obtain⟨e1,σ1,h1,h2⟩:=ihx he
  cases e1 with
  |normal =>
   obtain⟨e2,σ2,h3,h4⟩:=ihy h1
   refine⟨e2,σ2,h3,fun β a w hr hs Q hq=>wp_seq (h2 β a w hr hs _ fun β1 a1 w1 hr1 hs1 hf1=>?_)⟩
   exact h4 β1 a1 w1 hr1 hs1 Q fun β2 a2 w2 hr2 hs2 hf2=>hq β2 a2 w2 hr2 hs2 fun hren=>(hf1 hren).trans (hf2 hren)
  |exit j=>exact⟨_,σ1,h1,fun β a w hr hs Q hq=>wp_seq (h2 β a w hr hs _ fun β1 a1 w1 hr1 hs1 hf1=>hq β1 a1 w1 hr1 hs1 hf1)⟩
  |ret=>exact⟨_,σ1,h1,fun β a w hr hs Q hq=>wp_seq (h2 β a w hr hs _ fun β1 a1 w1 hr1 hs1 hf1=>hq β1 a1 w1 hr1 hs1 hf1)⟩
  |goto l=>exact⟨_,σ1,h1,fun β a w hr hs Q hq=>wp_seq (h2 β a w hr hs _ fun β1 a1 w1 hr1 hs1 hf1=>hq β1 a1 w1 hr1 hs1 hf1)⟩
  |panic ch=>exact⟨_,σ1,h1,fun β a w hr hs Q hq=>wp_seq (h2 β a w hr hs _ fun β1 a1 w1 hr1 hs1 hf1=>hq β1 a1 w1 hr1 hs1 hf1)⟩
  |outgrown=>exact⟨_,σ1,h1,fun β a w hr hs Q hq=>wp_seq (h2 β a w hr hs _ fun β1 a1 w1 hr1 hs1 hf1=>hq β1 a1 w1 hr1 hs1 hf1)⟩
 |cond cc x y ihx ihy =>
  intro σ k r he
  simp only[aEt]at he
  have hv:∀ {t:Bool},σ.ev cc=.l (.b t)→∀ {β:aCr} {a:Act} {w:World},Rel c σ β a w→a.eval cc=.bool t:=fun {t} hc {β a w} hr=>by
   have:=aLj hr.slot cc
   rw[hc]at this
   exact this
  split at he
  ·rename_i hc
   obtain⟨e,σ',h1,h2⟩:=ihx he
   exact⟨e,σ',h1,fun β a w hr hs Q hq=>wp_cond_true (hv hc hr) (h2 β a w hr hs Q hq)⟩
  ·rename_i hc
   obtain⟨e,σ',h1,h2⟩:=ihy he
   exact⟨e,σ',h1,fun β a w hr hs Q hq=>wp_cond_false (hv hc hr) (h2 β a w hr hs Q hq)⟩
  ·exact (aA0 he).elim
 |block id x ih =>
  intro σ k r he
  simp only[aEt]at he
  obtain⟨e,σ',h1,h2⟩:=ih he
  cases e with
  |exit j =>
   simp only[aRw]at h1
   split at h1
   ·rename_i hj
    refine⟨.normal,σ',h1,fun β a w hr hs Q hq=>wp_block (h2 β a w hr hs _ fun β1 a1 w1 hr1 hs1 hf1=>?_)⟩
    simp only[Exit.inBlock,hj,if_true]
    exact hq β1 a1 w1 hr1 hs1 hf1
   ·rename_i hj
    refine⟨.exit j,σ',h1,fun β a w hr hs Q hq=>wp_block (h2 β a w hr hs _ fun β1 a1 w1 hr1 hs1 hf1=>?_)⟩
    simp only[Exit.inBlock,hj,if_false]
    exact hq β1 a1 w1 hr1 hs1 hf1
  |normal=>exact⟨_,σ',h1,fun β a w hr hs Q hq=>wp_block (h2 β a w hr hs _ fun β1 a1 w1 hr1 hs1 hf1=>hq β1 a1 w1 hr1 hs1 hf1)⟩
  |ret=>exact⟨_,σ',h1,fun β a w hr hs Q hq=>wp_block (h2 β a w hr hs _ fun β1 a1 w1 hr1 hs1 hf1=>hq β1 a1 w1 hr1 hs1 hf1)⟩
  |goto l=>exact⟨_,σ',h1,fun β a w hr hs Q hq=>wp_block (h2 β a w hr hs _ fun β1 a1 w1 hr1 hs1 hf1=>hq β1 a1 w1 hr1 hs1 hf1)⟩
  |panic ch=>exact⟨_,σ',h1,fun β a w hr hs Q hq=>wp_block (h2 β a w hr hs _ fun β1 a1 w1 hr1 hs1 hf1=>hq β1 a1 w1 hr1 hs1 hf1)⟩
  |outgrown=>exact⟨_,σ',h1,fun β a w hr hs Q hq=>wp_block (h2 β a w hr hs _ fun β1 a1 w1 hr1 hs1 hf1=>hq β1 a1 w1 hr1 hs1 hf1)⟩
 |loop x ih =>
  have rounds:∀ (n:Nat) {σ:St} {k:Exit→St→T α} {r:α},(aN7 (aEt E I x) (St.norm E (aF8 x)) n σ k).eval=some r→∃ e σ',(k e σ').eval=some r ∧
    ∀ β a w,Rel c σ β a w→E.nt≤a.tmps.size→∀ Q:Exit→Act→World→Prop,(∀ β' a' w',Rel c σ' β' a' w'→E.nt≤a'.tmps.size→(E.ren=false→Far c σ β w σ' β' w')→Q e a' w')→bVe c.P x Q a w:=by
   intro n
   induction n with
   |zero=>intro σ k r he;exact (aA0 he).elim
   |succ n ihn =>
    intro σ k r he
    simp only[aN7]at he
    obtain⟨e,σ1,h1,h2⟩:=ih he
    cases e with
    |normal =>
     obtain⟨e',σ',h3,h4⟩:=ihn h1
     refine⟨e',σ',h3,fun β a w hr hs Q hq=>aGk ?_⟩
     exact h2 β a w hr hs _ fun β1 a1 w1 hr1 hs1 hf1=>by
      obtain⟨β0,hr0,hf0⟩:=bKr (E:=E) (hd:=aF8 x) hr1
      exact h4 β0 a1 w1 hr0 hs1 Q fun β2 a2 w2 hr2 hs2 hf2=>hq β2 a2 w2 hr2 hs2 fun hren=>((hf1 hren).trans (hf0 hren)).trans (hf2 hren)
    |exit j=>exact⟨_,σ1,h1,fun β a w hr hs Q hq=>aGk (h2 β a w hr hs _ fun β1 a1 w1 hr1 hs1 hf1=>hq β1 a1 w1 hr1 hs1 hf1)⟩
    |ret=>exact⟨_,σ1,h1,fun β a w hr hs Q hq=>aGk (h2 β a w hr hs _ fun β1 a1 w1 hr1 hs1 hf1=>hq β1 a1 w1 hr1 hs1 hf1)⟩
    |goto l=>exact⟨_,σ1,h1,fun β a w hr hs Q hq=>aGk (h2 β a w hr hs _ fun β1 a1 w1 hr1 hs1 hf1=>hq β1 a1 w1 hr1 hs1 hf1)⟩
    |panic ch=>exact⟨_,σ1,h1,fun β a w hr hs Q hq=>aGk (h2 β a w hr hs _ fun β1 a1 w1 hr1 hs1 hf1=>hq β1 a1 w1 hr1 hs1 hf1)⟩
    |outgrown=>exact⟨_,σ1,h1,fun β a w hr hs Q hq=>aGk (h2 β a w hr hs _ fun β1 a1 w1 hr1 hs1 hf1=>hq β1 a1 w1 hr1 hs1 hf1)⟩
  intro σ k r he
  obtain⟨e,σ',h1,h2⟩:=rounds _ he
  refine⟨e,σ',h1,fun β a w hr hs Q hq=>bJ4 ?_⟩
  obtain⟨β0,hr0,hf0⟩:=bKr (E:=E) (hd:=aF8 x) hr
  exact h2 β0 a w hr0 hs Q fun β2 a2 w2 hr2 hs2 hf2=>hq β2 a2 w2 hr2 hs2 fun hren=>(hf0 hren).trans (hf2 hren)
 |exit id =>
  intro σ k r he
  exact⟨.exit id,σ,he,fun β a w hr hs Q hq=>wp_exit (hq β a w hr hs fun _=>Far.refl _ _ _ _)⟩
 |ret =>
  intro σ k r he
  exact⟨.ret,σ,he,fun β a w hr hs Q hq=>wp_ret (hq β a w hr hs fun _=>Far.refl _ _ _ _)⟩
 |_=>intro σ k r he;exact (aA0 he).elim
theorem bF1 {E:Env} (hE:aDx c.P E) {σ:St} {β:aCr} {a:Act} {w:World} (hr:Rel c σ β a w):∀ {rs:List ResultVar} {ws:List W},rs.mapM (bKa E σ)=some ws →
  ∃ vs:List Value,vs.length=ws.length∧(rs.mapM fun | .tmp t=>pure (a.tmps.getD t undef) | .cell b t=>do loadVar t (←asAddr (a.tmps.getD b undef)):Sem (List Value)).run c.P w=.ok vs w ∧
   ∀ (i:Nat) (v:Value) (x:W),vs[i]? =some v→ws[i]? =some x→aFs (okD c σ.heap β) w σ.heap σ.next β v x
 |[],ws,h=>by
  simp only[List.mapM_nil,Option.pure_def,Option.some.injEq]at h
  subst h
  exact⟨[],rfl,rfl,fun i v x hv=>by simp at hv⟩
 |r::rs,ws,h=>by
  simp only[List.mapM_cons,Option.pure_def,Option.bind_eq_bind]at h
  cases h1:bKa E σ r with
  |none=>rw[h1]at h;cases h
  |some x0 =>
   rw[h1]at h
   simp only[Option.bind_some]at h
   cases h2:rs.mapM (bKa E σ)with
   |none=>rw[h2]at h;cases h
   |some ws0 =>
    rw[h2]at h
    obtain rfl:=Option.some.inj h
    obtain⟨vs,q1,q2,q3⟩:=bF1 hE hr h2
    have one:∃ v,(match r with | .tmp t=>pure (a.tmps.getD t undef) | .cell b t=>do loadVar t (←asAddr (a.tmps.getD b undef)):Sem Value).run c.P w=.ok v w∧aFs (okD c σ.heap β) w σ.heap σ.next β v x0:=by
     cases r with
     |tmp t =>
      obtain rfl:=Option.some.inj h1
      exact⟨_,rfl,hr.slot t⟩
     |cell b t =>
      simp only[bKa]at h1
      split at h1
      ·rename_i ti id off hti hb
       have hbv:=hr.slot b
       rw[hb]at hbv
       split at h1
       ·rename_i cells hl
        split at h1
        ·rename_i hlen
         obtain rfl:=Option.some.inj h1
         obtain⟨blk,hbl,hpv⟩:=hbv.2.2.1 cells hl
         obtain⟨b',cur,E',fr,hb',hw,hth,hrep⟩:=(hr.heap.blk id _ hl).2
         obtain rfl:b'=blk:=by rw[hbl]at hb';exact (Option.some.inj hb').symm
         have hll:((cells.drop off).take ti.leaves.length).length=ti.leaves.length:=by simp;omega
         obtain⟨v,hv,hrv⟩:=aG2 (ok:=okD c σ.heap β) (h:=σ.heap) (nx:=σ.next) (β:=β) (hE.ty t ti hti) (w:=w) (b:=b') (o:=off) hll (fun j x hx=>by
          have hjl:=(List.getElem?_eq_some_iff.1 hx).1
          rw[hll]at hjl
          rw[List.getElem?_take_of_lt hjl,List.getElem?_drop]at hx
          obtain⟨u,hu,hru⟩:=hrep.2 _ x hx
          exact⟨u,by rw[cell_of_row w b' _ cur E' fr hw];exact hu,hru⟩)
         refine⟨v,?_,hrv⟩
         simp only[hpv,asAddr,Sem.run_bind,Sem.run_pure,Result.andThen_ok]
         exact hv
        ·cases h1
       ·cases h1
      ·cases h1
    obtain⟨v,hv,hrv⟩:=one
    refine⟨v::vs,by simp[q1],?_,fun i u x hu hx=>?_⟩
    ·rw[List.mapM_cons,Sem.run_bind]
     have:∀ (s:Sem Value),s.run c.P w=.ok v w→(s.run c.P w).andThen (fun y w'=>(do let ys←rs.mapM (fun | .tmp t=>pure (a.tmps.getD t undef) | .cell b t=>do loadVar t (←asAddr (a.tmps.getD b undef)):ResultVar→Sem Value);pure (y::ys):Sem (List Value)).run c.P w')=.ok (v::vs) w:=fun s hs=>by
      rw[hs,Result.andThen_ok,Sem.run_bind,q2,Result.andThen_ok]
      rfl
     exact this _ hv
    ·cases i with
     |zero =>
      simp only[List.getElem?_cons_zero,Option.some.injEq]at hu hx
      subst hu;subst hx
      exact hrv
     |succ i=>exact q3 i u x (by simpa using hu) (by simpa using hx)
end
section
variable {c:Ctx} {α:Type}
theorem aIi {P:Program} {fn:Func} {a:Act} {w:World} {vs:List Value}
  (h:(fn.results.toList.mapM fun | .tmp t=>pure (a.tmps.getD t undef) | .cell b t=>do loadVar t (←asAddr (a.tmps.getD b undef)):Sem (List Value)).run P w=.ok vs w):(results fn a.tmps).run P w=.ok (bRx vs) w:=by
 unfold results
 rw[Array.mapM_eq_mapM_toList,map_eq_pure_bind,Sem.run_bind,Sem.run_bind]
 have e:(fn.results.toList.mapM fun | .tmp t=>pure (a.tmps.getD t undef) | .cell b t=>do loadVar t (←asAddr (a.tmps.getD b undef)):Sem (List Value)) =
   (fn.results.toList.mapM fun x=>match x with | .tmp t=>pure (a.tmps.getD t undef) | .cell b t=>do loadVar t (←asAddr (a.tmps.getD b undef)):Sem (List Value)):=rfl
 rw[e]at h
 have h':=h
 refine Eq.trans (congrArg (fun z=>Result.andThen (Result.andThen z _) _) h') ?_
 simp only[Result.andThen_ok,Sem.run_pure]
 match vs with
 |[]=>rfl
 |[v]=>rfl
 |u::v::vs=>simp[bRx]
theorem bS7 {ok:Nat→Prop} {w:World} {h:aCq} {nx:Nat} {β:aCr} {vs:List Value} {ws:List W} {x:W} (hl:vs.length=ws.length)
  (hr:∀ (i:Nat) (v:Value) (x:W),vs[i]? =some v→ws[i]? =some x→aFs ok w h nx β v x) (ho:bU2 ws=some x):aFs ok w h nx β (bRx vs) x:=by
 have tup:∀ {ps:List (Bool×List L)},ws.mapM aNa=some ps→aFs ok w h nx β (.tuple vs.toArray) (.tup ps):=fun {ps} hm=>by
  refine⟨vs.toArray,rfl,by simp[hl,mapM_some_length hm],fun j p hj=>?_⟩
  have hlt:j<ws.length:=by have:=(List.getElem?_eq_some_iff.1 hj).1;rw[mapM_some_length hm]at this;exact this
  have hg:=mapM_some_get hm j ws[j] (List.getElem?_eq_getElem hlt)
  rw[hj]at hg
  have hv:vs[j]? =some vs[j]:=List.getElem?_eq_getElem (by omega)
  have hx:=hr j _ _ hv (List.getElem?_eq_getElem hlt)
  refine⟨vs[j],by simpa using hv,?_⟩
  generalize ws[j]=y at hg hx
  cases y with
  |l y=>simp only[aNa,Option.some.injEq]at hg;subst hg;exact⟨y,rfl,hx⟩
  |agg xs=>simp only[aNa,Option.some.injEq]at hg;subst hg;exact hx
  |tup ps=>simp[aNa]at hg
  |bz t=>simp[aNa]at hg
 match ws,vs,hl with
 |[y],[v],_ =>
  obtain rfl:=Option.some.inj ho
  exact hr 0 v y rfl rfl
 |[],[],_ =>
  obtain rfl:=Option.some.inj ho
  exact tup rfl
 |y::z::ws,u::v::vs,_ =>
  simp only[bU2]at ho
  cases hm:(y::z::ws).mapM aNa with
  |none=>rw[hm]at ho;cases ho
  |some ps =>
   rw[hm]at ho
   obtain rfl:=Option.some.inj ho
   exact tup hm
theorem aZr {ws:List W} {t k:Nat}:∀ (n:Nat),n=ws.length→((List.range' k n).zip ws).lookup t=if k≤t then ws[t-k]? else none:=by
 induction ws generalizing k with
 |nil=>intro n hn;subst hn;simp
 |cons x ws ih =>
  intro n hn
  subst hn
  simp only[List.length_cons,List.range'_succ,List.zip_cons_cons]
  by_cases h:t=k
  ·subst h;simp[List.lookup]
  ·have hf:(t==k)=false:=by simpa using h
   simp only[List.lookup,hf]
   rw[ih ws.length rfl]
   by_cases hk:k+1≤t
   ·rw[if_pos hk,if_pos (by omega)]
    obtain⟨d,hd⟩:∃ d,t-k=d+1:=⟨t-k-1,by omega⟩
    rw[hd,List.getElem?_cons_succ]
    congr 1;omega
   ·rw[if_neg hk,if_neg (by omega)]
theorem aQo {σ:St} {β:aCr} {w:World} (hh:aB7 c w σ.heap σ.next β) {vals:List Value} {ws:List W} {nt:Nat} (hl:vals.length=ws.length)
  (hv:∀ (i:Nat) (v:Value) (x:W),vals[i]? =some v→ws[i]? =some x→aFs (okD c σ.heap β) w σ.heap σ.next β v x)
  (hp:∀ (j:Nat) (id:Nat),σ.pins[j]? =some id→id<σ.next∧(∃ x,σ.heap.lookup id=some x∧x.isFro=false)∧c.pb[j]? =some (β id)) (hnp:σ.pins.length=c.pb.length) :
  Rel c {σ with slots:=(List.range ws.length).zip ws} β {tmps:=vals.toArray++Array.replicate (nt-vals.toArray.size) undef,defers:=[]} w:=by
 refine⟨hh,fun t=>?_,rfl,hp,hnp⟩
 have hg:({σ with slots:=(List.range ws.length).zip ws}:St).get t=(ws[t]?).getD (.l .none'):=by
  simp only[St.get,List.range_eq_range']
  rw[aZr _ rfl]
  simp
 rw[hg]
 cases hx:ws[t]? with
 |none=>trivial
 |some x =>
  have hlt:=(List.getElem?_eq_some_iff.1 hx).1
  have hvt:vals[t]? =some vals[t]:=List.getElem?_eq_getElem (by omega)
  have:(vals.toArray++Array.replicate (nt-vals.toArray.size) undef).getD t undef=vals[t]:=by
   rw[Array.getD_eq_getD_getElem?,Array.getElem?_append_left (by simp;omega)]
   simp[hvt]
  rw[this]
  exact hv t _ x hvt hx
end
structure bVg (w:World) (okR:Nat→Prop) (pb:List (Option Nat)) (σ:St):Prop where
 next:σ.next=pb.length
 pins:σ.pins=List.range pb.length
 at':∀ (j:Nat) (ob:Option Nat),pb[j]? =some ob→∃ x,σ.heap.lookup j=some x∧x.isFro=false∧∀ (ok':Nat→Prop) (h:aCq) (nx:Nat) (β:aCr),(∀ b,okR b→ok' b)→aO6 ok' w h nx β ob x
 only:∀ j x,σ.heap.lookup j=some x→j<pb.length
theorem bDb {c:Ctx} {E:Env} (hE:aDx c.P E) {w:World} {okR:Nat→Prop}:∀ {ps:List PTy} {vals:List Value} {cs1:List C} {pb:List (Option Nat)},aIa c.P w okR ps vals cs1 pb→∀ {cs cs2 rest:List C} {σ σ':St} {ws:List W} {pb1:List (Option Nat)},
  aDq E ps cs σ=some (true,ws,rest,σ')→cs=cs1++cs2→bVg w okR pb1 σ→rest=cs2∧bVg w okR (pb1++pb) σ'∧vals.length=ws.length∧(∀ j x,σ.heap.lookup j=some x→σ'.heap.lookup j=some x) ∧
   ∀ (ok':Nat→Prop) (h':aCq) (nx':Nat) (β':aCr),(∀ b,okR b→ok' b)→(∀ (j:Nat) (ob:Option Nat),(pb1++pb)[j]? =some ob→β' j=ob)→(∀ j x,σ'.heap.lookup j=some x→h'.lookup j=some x)→(pb1++pb).length≤nx' →
    ∀ (i:Nat) (v:Value) (x:W),vals[i]? =some v→ws[i]? =some x→aFs ok' w h' nx' β' v x:=by
 intro ps vals cs1 pb ha
 induction ha with
 |nil =>
  intro cs cs2 rest σ σ' ws pb1 hi hc hin
  simp only[aDq,Option.some.injEq,Prod.mk.injEq,true_and]at hi
  obtain⟨rfl,rfl,rfl⟩:=hi
  exact⟨by simpa using hc,by simpa using hin,rfl,fun _ _ h=>h,fun _ _ _ _ _ _ _ _ i v x hv=>by simp at hv⟩
 |@val agg ks ps v vs cs1 cs0 pb hl hv ha ih =>
  intro cs cs2 rest σ σ' ws pb1 hi hc hin
  subst hc
  simp only[aDq]at hi
  rw[List.append_assoc,←hl,List.drop_left]at hi
  split at hi
  ·rename_i b ws0 cs' σ0 hrec
   simp only[Option.some.injEq,Prod.mk.injEq,Bool.and_eq_true]at hi
   obtain⟨⟨hla,rfl⟩,rfl,rfl,rfl⟩:=hi
   obtain⟨i1,i2,i3,i5,i4⟩:=ih hrec rfl hin
   refine⟨i1,i2,by simp[i3],i5,fun ok' h' nx' β' hok hβ hh' hnx i u x hu hx=>?_⟩
   cases i with
   |succ i=>exact i4 ok' h' nx' β' hok hβ hh' hnx i u x (by simpa using hu) (by simpa using hx)
   |zero =>
    simp only[List.getElem?_cons_zero,Option.some.injEq]at hu hx
    subst hu;subst hx
    obtain⟨l1,l2⟩:=aE9 (w:=w) (ok:=ok') (h:=h') (nx:=nx') (β:=β') hla
    have get:∀ {j:Nat} {d:C},j<cs1.length→(cs1++(cs0++cs2))[0+j]? =some d→cs1[j]? =some d:=fun {j d} hj hd=>by
     rw[Nat.zero_add,List.getElem?_append_left hj]at hd;exact hd
    cases agg with
    |true =>
     obtain⟨us,rfl,hsz,hus⟩:=hv
     refine⟨us,rfl,by rw[hsz,l1,hl],fun j y hj=>?_⟩
     obtain⟨d,hd,hr⟩:=l2 j y hj
     have hjl:=(List.getElem?_eq_some_iff.1 hj).1
     obtain⟨u,hu,hru⟩:=hus j d (get (by omega) hd)
     exact⟨u,hu,hr u (hru.mono (fun b hb _=>⟨hok b hb,rfl⟩) (Nat.le_refl _))⟩
    |false =>
     obtain⟨d0,rfl,hd0⟩:=hv
     match hls:(aBt ([d0]++(cs0++cs2)) 0 ks).2,l1,l2 with
     |[y],_,l2 =>
      obtain⟨d,hd,hr⟩:=l2 0 y rfl
      simp at hd
      subst hd
      exact hr v (hd0.mono (fun b hb _=>⟨hok b hb,rfl⟩) (Nat.le_refl _))
     |[],l1,_=>simp at l1 hl;omega
     |_::_::_,l1,_=>simp at l1 hl;omega
  ·cases hi
 |@box ks ps vs cs1 cs0 pb b cur E0 fr hl hw hth hcells ha ih =>
  intro cs cs2 rest σ σ' ws pb1 hi hc hin
  subst hc
  simp only[aDq]at hi
  rw[List.append_assoc,←hl,List.drop_left]at hi
  split at hi
  ·rename_i b0 ws0 cs' σ0 hrec
   simp only[Option.some.injEq,Prod.mk.injEq,Bool.and_eq_true]at hi
   obtain⟨⟨hla,rfl⟩,rfl,rfl,rfl⟩:=hi
   have hlast:∀ {j:Nat} {ob:Option Nat},(pb1++[some b])[j]? =some ob→(j<pb1.length∧pb1[j]? =some ob)∨(j=pb1.length∧ob=some b):=fun {j ob} h=>by
    by_cases hj:j<pb1.length
    ·rw[List.getElem?_append_left hj]at h;exact .inl ⟨hj,h⟩
    ·rw[List.getElem?_append_right (by omega)]at h
     have:j-pb1.length=0:=by have:=(List.getElem?_eq_some_iff.1 h).1;simp at this;omega
     rw[this]at h
     simp at h
     exact .inr ⟨by omega,h.symm⟩
   have hin':bVg w okR (pb1++[some b]) {σ.new (.box (aBt (cs1++(cs0++cs2)) 0 ks).2)with pins:=σ.pins++[σ.next]}:=by
    refine⟨by simp[St.new,hin.next],by simp[hin.pins,hin.next,List.range_succ],fun j ob hj=>?_,fun j x hx=>?_⟩
    ·rcases hlast hj with⟨h1,h2⟩ | ⟨rfl,rfl⟩
     ·obtain⟨x,q1,q2⟩:=hin.at' j ob h2
      exact⟨x,by
       show List.lookup j ((σ.next,_)::σ.heap)=_
       rw[aAt (by rw[hin.next];omega)];exact q1,q2⟩
     ·refine⟨.box (aBt (cs1++(cs0++cs2)) 0 ks).2,by
       show List.lookup pb1.length ((σ.next,_)::σ.heap)=_
       rw[hin.next,aBw],rfl,fun ok' h nx β hok=>⟨b,cur,E0,fr,rfl,hw,hth,?_⟩⟩
      obtain⟨l1,l2⟩:=aE9 (w:=w) (ok:=ok') (h:=h) (nx:=nx) (β:=β) hla
      refine⟨by rw[hcells.1,l1,hl],fun j y hj=>?_⟩
      obtain⟨d,hd,hr⟩:=l2 j y hj
      have hjl:=(List.getElem?_eq_some_iff.1 hj).1
      rw[Nat.zero_add,List.getElem?_append_left (by omega)]at hd
      obtain⟨u,hu,hru⟩:=hcells.2 j d hd
      exact⟨u,hu,hr u (hru.mono (fun b hb _=>⟨hok b hb,rfl⟩) (Nat.le_refl _))⟩
    ·by_cases hj:j=σ.next
     ·subst hj;simp[hin.next]
     ·have hx:List.lookup j ((σ.next,Blk.box (aBt (cs1++(cs0++cs2)) 0 ks).2)::σ.heap)=some x:=hx
      rw[aAt hj]at hx
      have:=hin.only j x hx
      simp;omega
   obtain⟨i1,i2,i3,i5,i4⟩:=ih hrec rfl hin'
   rw[List.append_assoc]at i2 i4
   refine⟨i1,i2,by simp[i3],fun j x hx=>i5 j x (by
    show List.lookup j ((σ.next,_)::σ.heap)=_
    rw[aAt (by have:=hin.only j x hx;rw[hin.next];omega)];exact hx),fun ok' h' nx' β' hok hβ hh' hnx i u x hu hx=>?_⟩
   cases i with
   |succ i=>exact i4 ok' h' nx' β' hok hβ hh' hnx i u x (by simpa using hu) (by simpa using hx)
   |zero =>
    simp only[List.getElem?_cons_zero,Option.some.injEq]at hu hx
    subst hu;subst hx
    have:β' σ.next=some b:=hβ _ _ (by rw[hin.next,List.getElem?_append_right (Nat.le_refl _),Nat.sub_self];rfl)
    refine⟨by rw[hin.next];simp at hnx;omega,rfl,fun cells hc=>⟨b,this,rfl⟩,fun _ _ _ _=>⟨b,this,rfl⟩⟩
  ·cases hi
 |@wr agg ks ps v us vs cs1 cs0 pbA pb hwv hlo ha ih =>
  intro cs cs2 rest σ σ' ws pb1 hi hc hin
  subst hc
  simp only[aDq]at hi
  rw[List.append_assoc]at hi
  split at hi
  ·rename_i b0 ls csr nb htl
   split at hi
   ·rename_i b1 ws0 cs' σ0 hrec
    simp only[Option.some.injEq,Prod.mk.injEq,Bool.and_eq_true]at hi
    obtain⟨⟨rfl,rfl⟩,rfl,rfl,rfl⟩:=hi
    obtain⟨rfl,t2,t3,t4,t5⟩:=aId hE htl hlo rfl
    have hsit:=fun j=>aF6 0 nb σ.next σ.heap j
    have hin':bVg w okR (pb1++pbA) {σ with heap:=aBj σ.next nb++σ.heap,next:=σ.next+nb.length,pins:=σ.pins++List.range' σ.next nb.length}:=by
     refine⟨by simp[hin.next,t2],?_,fun j ob hj=>?_,fun j x hx=>?_⟩
     ·simp only[hin.pins,hin.next,t2,List.length_append,List.range_eq_range']
      have:=List.range'_append_1 (s:=0) (m:=pb1.length) (n:=pbA.length)
      rw[Nat.zero_add]at this
      exact this
     ·by_cases hlt:j<pb1.length
      ·rw[List.getElem?_append_left hlt]at hj
       obtain⟨x,q1,q2⟩:=hin.at' j ob hj
       exact⟨x,by rw[hsit,if_neg (by rw[hin.next];omega)];exact q1,q2⟩
      ·rw[List.getElem?_append_right (by omega)]at hj
       have hlt2:=(List.getElem?_eq_some_iff.1 hj).1
       have hnb:nb[j-pb1.length]? =some nb[j-pb1.length]:=List.getElem?_eq_getElem (by omega)
       obtain⟨sz,rows,q1,q2⟩:=t4 _ _ hnb
       rw[hj]at q2
       refine⟨.arr sz rows,by rw[hsit,if_pos (by rw[hin.next];omega),hin.next,hnb,q1],rfl,fun ok' h nx β hok=>⟨q2.1,q2.2.imp (fun x=>x) ?_⟩⟩
       rintro⟨b,cur,E',fr,g1,g2,g3,g4,g5⟩
       exact⟨b,cur,E',fr,g1,g2,g3,g4,fun i r j x hi hj=>let⟨u,hu,hr⟩:=g5 i r j x hi hj;⟨u,hu,hr.mono (fun b hb _=>⟨hok b hb,rfl⟩) (Nat.le_refl _)⟩⟩
     ·rw[hsit]at hx
      split at hx
      ·rename_i hr
       simp only[List.length_append]
       rw[hin.next]at hr
       omega
      ·have:=hin.only j x hx
       simp only[List.length_append]
       omega
    obtain⟨i1,i2,i3,i5,i4⟩:=ih hrec rfl hin'
    rw[List.append_assoc]at i2 i4
    refine⟨i1,i2,by simp[i3],fun j x hx=>i5 j x (by
     show List.lookup j (aBj σ.next nb++σ.heap)=_
     rw[hsit,if_neg (by have:=hin.only j x hx;rw[hin.next];omega)];exact hx),fun ok' h' nx' β' hok hβ hh' hnx i u x hu hx=>?_⟩
    cases i with
    |succ i=>exact i4 ok' h' nx' β' hok hβ hh' hnx i u x (by simpa using hu) (by simpa using hx)
    |zero =>
     simp only[List.getElem?_cons_zero,Option.some.injEq]at hu hx
     subst hu;subst hx
     have leaves:=t5 h' nx' β' ok' hok (by simp only[List.length_append]at hnx;rw[hin.next];omega) (fun i blk hi=>hh' _ _ (i5 _ _ (by
       show List.lookup (σ.next+i) (aBj σ.next nb++σ.heap)=_
       rw[hsit,if_pos (by have:=(List.getElem?_eq_some_iff.1 hi).1;omega),Nat.add_sub_cancel_left];exact hi))) (fun i hi=>by
       have h1:pbA[i]? =some pbA[i]:=List.getElem?_eq_getElem (by omega)
       rw[h1]
       refine hβ _ _ ?_
       rw[hin.next,List.getElem?_append_right (by omega),Nat.add_sub_cancel_left,List.getElem?_append_left (by omega)]
       exact h1) (fun j id ob hj=>by simp at hj)
     cases agg with
     |true =>
      obtain⟨a,rfl,rfl⟩:=hwv
      exact⟨a,rfl,by rw[t3,Array.length_toList],fun j y hj=>let⟨u,hu,hr⟩:=leaves j y hj;⟨u,by simpa using hu,hr⟩⟩
     |false =>
      have hwv:us=[v]:=hwv
      subst hwv
      match ls,t3,leaves with
      |[y],_,leaves =>
       obtain⟨u,hu,hr⟩:=leaves 0 y rfl
       simp only[List.getElem?_cons_zero,Option.some.injEq]at hu
       subst hu
       exact hr
   ·cases hi
  ·cases hi
theorem aWv {w:World} {ok ok':Nat→Prop} {v:Value} {d:C} (hr:Rep w ok v d) (hf:d.flat=true):Rep w ok' v d:=by
 cases d with
 |int k n=>cases hr;exact .int _ _
 |bool t=>cases hr;exact .bool _
 |str s=>cases hr;exact .str _
 |sl rows =>
  cases rows with
  |cons r rows=>simp[C.flat]at hf
  |nil =>
   cases hr with
   |emp a c=>exact .emp a c
   |sl b o n c sz rows f h1=>subst h1;exact .emp _ _
 |fn g caps=>simp[C.flat]at hf
 |pt row=>simp[C.flat]at hf
 |err x=>cases hr<;>constructor
 |mp ks=>simp[C.flat]at hf
section
variable {c:Ctx} {E:Env} {w':World} {h:aCq} {nx:Nat} {β:aCr}
theorem aJr (hE:aDx c.P E) (hh:aB7 c w' h nx β) {nested:Bool} {ok':Nat→Prop} (h1:nested=true→∀ b,okD c h β b→ok' b) {pins:List Nat} {pb:List (Option Nat)} (hpin:∀ (j n:Nat),pins[j]? =some n→pb[j]? =some (β n)) :
  ∀ {ks:List (K×Bool)} {ls:List L} {us:List Value} {cs:List C} {ids:List Nat},aBm E nested h pins ks ls=some (true,cs,ids) →
   (nested=true→∀ id b blk p,id∈aCy ks ls→h.lookup id=some blk→blk.dat? =some p→β id=some b→ok' b)→us.length=ls.length →
   (∀ (j:Nat) (x:L),ls[j]? =some x→∃ u,us[j]? =some u∧aI5 (okD c h β) w' h nx β u x)→ids.Nodup →
   ∃ bs,aC1 c.P w' ok' pb ks us cs bs∧(∀ b,some b∈bs→∃ id sz rows,id∈ids∧β id=some b∧h.lookup id=some (.arr sz rows))∧bs.Pairwise (fun x y=>∀ b,x=some b→y≠some b):=by
 intro ks
 induction ks with
 |nil =>
  intro ls us cs ids ho h2 hl hr hn
  cases ls with
  |cons x ls=>simp[aBm]at ho
  |nil =>
   simp only[aBm,Option.some.injEq,Prod.mk.injEq,true_and]at ho
   obtain⟨rfl,rfl⟩:=ho
   have:us=[]:=List.length_eq_zero_iff.1 hl
   subst this
   exact⟨[],.nil,fun b hb=>by simp at hb,.nil⟩
 |cons k ks ih =>
  intro ls us cs ids ho h2 hl hr hn
  obtain⟨kd,own⟩:=k
  cases ls with
  |nil=>cases own<;>cases kd<;>simp[aBm]at ho
  |cons x ls =>
   cases us with
   |nil=>simp at hl
   |cons u us =>
    have hl':us.length=ls.length:=by simpa using hl
    have hr0:aI5 (okD c h β) w' h nx β u x:=by obtain⟨u',hu,h⟩:=hr 0 x rfl;simp at hu;subst hu;exact h
    have hr':∀ (j:Nat) (x:L),ls[j]? =some x→∃ u,us[j]? =some u∧aI5 (okD c h β) w' h nx β u x:=fun j y hj=>by simpa using hr (j+1) y (by simpa using hj)
    cases own with
    |false =>
     simp only[aBm]at ho
     split at ho
     ·rename_i d b cs0 ids0 hd hrec
      simp only[Option.some.injEq,Prod.mk.injEq,Bool.and_eq_true,Bool.or_eq_true]at ho
      obtain⟨⟨⟨_,hnf⟩,rfl⟩,rfl,rfl⟩:=ho
      obtain⟨bs,b1,b2,b3⟩:=ih hrec (fun hnest id b blk p hi=>h2 hnest id b blk p (by simp only[aCy];exact List.mem_append_right _ hi)) hl' hr' hn
      refine⟨bs,.data ?_ b1,b2,b3⟩
      rcases hnf with hnest | hflat
      ·exact aIq hh (h1 hnest) (fun id b blk p hx=>h2 hnest id b blk p (by simp[aCy,hx])) hr0 hd
      ·exact aWv (aIq hh (ok':=fun _=>True) (fun _ _=>trivial) (fun _ _ _ _ _ _ _ _=>trivial) hr0 hd) hflat
     ·cases ho
    |true =>
     cases kd with
     |slice e =>
      simp only[aBm]at ho
      split at ho
      ·rename_i te b cs0 ids0 hte hrec
       simp only[Option.some.injEq,Prod.mk.injEq]at ho
       obtain⟨rfl,rfl,rfl⟩:=ho
       obtain⟨bs,b1,b2,b3⟩:=ih hrec (fun hnest id b blk p hi=>h2 hnest id b blk p (by simpa only[aCy]using hi)) hl' hr' hn
       obtain rfl:u=.slice none 0 0:=hr0
       exact⟨none::bs,.none b1,fun b hb=>b2 b (by simpa using hb),.cons (fun y _ b hb=>by cases hb) b3⟩
      ·rename_i id n te b cs0 ids0 hte hrec
       split at ho
       ·rename_i sz rows hlk
        split at ho
        ·rename_i hsz
         subst hsz
         simp only[Option.some.injEq,Prod.mk.injEq,Bool.and_eq_true,Bool.or_eq_true,decide_eq_true_eq]at ho
         obtain⟨⟨⟨hn',hnf⟩,rfl⟩,rfl,rfl⟩:=ho
         subst hn'
         obtain⟨hni,hn0⟩:=List.nodup_cons.1 hn
         obtain⟨bs,b1,b2,b3⟩:=ih hrec (fun hnest id b blk p hi=>h2 hnest id b blk p (by simpa only[aCy]using hi)) hl' hr' hn0
         obtain⟨i,_,hi,his,_⟩:=(hE.ty e te hte).info
         obtain⟨_,hhdr⟩:=hr0.2.2 _ _ _ hlk rfl
         obtain⟨hrl,hrows⟩:=(hh.blk id _ hlk).2
         rcases hhdr with⟨a0,rfl,hn0'⟩ | ⟨b0,cc,cur,E',fr,hb0,rfl,hnc,hw,hth,hle⟩
         ·have:rows=[]:=List.length_eq_zero_iff.1 hn0'
          subst this
          exact⟨none::bs,.none b1,fun b hb=>by
           obtain⟨id',sz,rows,q1,q2⟩:=b2 b (by simpa using hb)
           exact⟨id',sz,rows,List.mem_cons_of_mem _ q1,q2⟩,.cons (fun y _ b hb=>by cases hb) b3⟩
         ·refine⟨some b0::bs,?_,fun b hb=>?_,.cons (fun y hy b hb he=>?_) b3⟩
          ·rw[Nat.zero_mul]
           rw[Nat.zero_add]at hle
           refine .own hi hnc hw (by rw[his];exact hth) (by rw[his];exact hle) (fun k r j y hk hj=>?_) b1
           have hne:rows≠[]:=fun e=>by subst e;simp at hk
           obtain⟨b',cur',E2,fr',hb',hw',_,_,hcells⟩:=hrows.resolve_left hne
           obtain rfl:b'=b0:=by rw[hb0]at hb';exact (Option.some.inj hb').symm
           rw[hw]at hw'
           simp only[Option.some.injEq,Obj.cells.injEq]at hw'
           obtain⟨rfl,rfl,rfl⟩:=hw'
           obtain⟨u,hu,hru⟩:=hcells k r j y hk hj
           refine⟨u,by rw[his];exact hu,?_⟩
           rcases hnf with hnest | hflat
           ·exact hru.mono (fun b hb _=>⟨h1 hnest b hb,rfl⟩) (Nat.le_refl _)
           ·exact aWv hru (List.all_eq_true.1 (List.all_eq_true.1 hflat r (List.mem_of_getElem? hk)) y (List.mem_of_getElem? hj))
          ·rcases List.mem_cons.1 hb with hb | hb
           ·obtain rfl:=Option.some.inj hb
            exact⟨id,_,_,List.mem_cons_self,hb0,hlk⟩
           ·obtain⟨id',sz,rows,q1,q2⟩:=b2 b hb
            exact⟨id',sz,rows,List.mem_cons_of_mem _ q1,q2⟩
          ·obtain rfl:=Option.some.inj hb
           obtain⟨id',sz,rows',q1,q2,q3⟩:=b2 b0 (he▸hy)
           have:=hh.inj id id' _ _ b0 hlk q3 hb0 q2
           subst this
           exact hni q1
        ·cases ho
       ·cases ho
      ·cases ho
     |back e j =>
      simp only[aBm]at ho
      split at ho
      ·rename_i id n te b cs0 ids0 hte hrec
       split at ho
       ·rename_i sz rows hlk
        split at ho
        ·rename_i hsz
         obtain⟨hsz,hpj⟩:=hsz
         simp only[Option.some.injEq,Prod.mk.injEq,Bool.and_eq_true,decide_eq_true_eq]at ho
         obtain⟨⟨hle,rfl⟩,rfl,rfl⟩:=ho
         obtain⟨bs,b1,b2,b3⟩:=ih hrec (fun hnest id b blk p hi=>h2 hnest id b blk p (by simpa only[aCy]using hi)) hl' hr' hn
         obtain⟨i,_,hi,his,_⟩:=(hE.ty e te hte).info
         obtain⟨_,hhdr⟩:=hr0.2.2 _ _ _ hlk rfl
         refine⟨bs,.back hi (hpin j id hpj) hr0.2.1 ?_ b1,b2,b3⟩
         rw[his,←hsz,List.length_take,Nat.min_eq_left hle]
         exact hhdr
        ·cases ho
       ·cases ho
      ·cases ho
     |_=>simp[aBm]at ho
theorem bKm (hE:aDx c.P E) (hh:aB7 c w' h nx β) {nested:Bool} {ok':Nat→Prop} (h1:nested=true→∀ b,okD c h β b→ok' b) {pins:List Nat} {pb:List (Option Nat)} (hpin:∀ (j n:Nat),pins[j]? =some n→pb[j]? =some (β n)) :
  ∀ {ts:List RTy} {rs:List (Bool×List L)} {vs:List Value} {cs:List C} {ids:List Nat},aJq E nested h pins ts rs=some (true,cs,ids) →
   (nested=true→∀ id b blk p,id∈((ts.zip rs).flatMap fun p=>aCy p.1.ls p.2.2)→h.lookup id=some blk→blk.dat? =some p→β id=some b→ok' b)→vs.length=rs.length →
   (∀ (j:Nat) (p:Bool×List L),rs[j]? =some p→∃ u,vs[j]? =some u∧bIs (okD c h β) w' h nx β u p.1 p.2)→ids.Nodup →
   ∃ bs,aIs c.P w' ok' pb ts vs cs bs∧(∀ b,some b∈bs→∃ id sz rows,id∈ids∧β id=some b∧h.lookup id=some (.arr sz rows))∧bs.Pairwise (fun x y=>∀ b,x=some b→y≠some b):=by
 intro ts
 induction ts with
 |nil =>
  intro rs vs cs ids ho h2 hl hr hn
  cases rs with
  |cons x rs=>simp[aJq]at ho
  |nil =>
   simp only[aJq,Option.some.injEq,Prod.mk.injEq,true_and]at ho
   obtain⟨rfl,rfl⟩:=ho
   have:vs=[]:=List.length_eq_zero_iff.1 hl
   subst this
   exact⟨[],.nil,fun b hb=>by simp at hb,.nil⟩
 |cons t ts ih =>
  intro rs vs cs ids ho h2 hl hr hn
  cases rs with
  |nil=>simp[aJq]at ho
  |cons p rs =>
   obtain⟨agg,ls⟩:=p
   cases vs with
   |nil=>simp at hl
   |cons v vs =>
    simp only[aJq]at ho
    split at ho
    ·rename_i b cs1 ids1 b' cs2 ids2 ho1 ho2
     split at ho
     ·rename_i hag
      simp only[Option.some.injEq,Prod.mk.injEq,Bool.and_eq_true]at ho
      obtain⟨⟨rfl,rfl⟩,rfl,rfl⟩:=ho
      obtain⟨hn1,hn2,hn3⟩:=List.nodup_append.1 hn
      have hp:bIs (okD c h β) w' h nx β v agg ls:=by obtain⟨u,hu,hp⟩:=hr 0 _ rfl;simp at hu;subst hu;exact hp
      obtain⟨bs2,r1,r2,r3⟩:=ih ho2 (fun hnest id b blk p hi=>h2 hnest id b blk p (by simp only[List.zip_cons_cons,List.flatMap_cons];exact List.mem_append_right _ hi)) (by simpa using hl) (fun j p hj=>by simpa using hr (j+1) p (by simpa using hj)) hn2
      have d1:nested=true→∀ id b blk p,id∈aCy t.ls ls→h.lookup id=some blk→blk.dat? =some p→β id=some b→ok' b:=fun hnest id b blk p hi=>h2 hnest id b blk p (by simp only[List.zip_cons_cons,List.flatMap_cons];exact List.mem_append_left _ hi)
      have fin:∀ {bs1:List (Option Nat)},(∀ b,some b∈bs1→∃ id sz rows,id∈ids1∧β id=some b∧h.lookup id=some (.arr sz rows))→bs1.Pairwise (fun x y=>∀ b,x=some b→y≠some b) →
        (∀ b,some b∈bs1++bs2→∃ id sz rows,id∈ids1++ids2∧β id=some b∧h.lookup id=some (.arr sz rows))∧(bs1++bs2).Pairwise (fun x y=>∀ b,x=some b→y≠some b):=fun {bs1} q1 q2=>by
       refine⟨fun b hb=>?_,List.pairwise_append.2 ⟨q2,r3,fun x hx y hy b hxb hyb=>?_⟩⟩
       ·rcases List.mem_append.1 hb with hb | hb
        ·obtain⟨id,sz,rows,z1,z2⟩:=q1 b hb;exact⟨id,sz,rows,List.mem_append_left _ z1,z2⟩
        ·obtain⟨id,sz,rows,z1,z2⟩:=r2 b hb;exact⟨id,sz,rows,List.mem_append_right _ z1,z2⟩
       ·obtain⟨id,sz,rows,z1,z2,z3⟩:=q1 b (hxb▸hx)
        obtain⟨id',sz',rows',y1,y2,y3⟩:=r2 b (hyb▸hy)
        have:=hh.inj id id' _ _ b z3 y3 z2 y2
        subst this
        exact hn3 id z1 id y1 rfl
      cases agg with
      |true =>
       obtain⟨us,rfl,hus⟩:=hp
       obtain⟨bs1,l1,l2,l3⟩:=aJr hE hh h1 hpin ho1 d1 (us:=us.toList) (by rw[Array.length_toList];exact hus.1) (fun j x hj=>by simpa using hus.2 j x hj) hn1
       exact⟨bs1++bs2,.agg hag l1 r1,fin l2 l3⟩
      |false =>
       obtain⟨x,rfl,hx⟩:=hp
       obtain⟨bs1,l1,l2,l3⟩:=aJr hE hh h1 hpin ho1 d1 (us:=[v]) rfl (fun j y hj=>by
        cases j with
        |zero=>simp at hj;subst hj;exact⟨v,rfl,hx⟩
        |succ j=>simp at hj) hn1
       exact⟨bs1++bs2,.one hag l1 r1,fin l2 l3⟩
     ·cases ho
    ·cases ho
theorem aL4 {P:Program} {w:World} {ok:Nat→Prop} {pb:List (Option Nat)}:∀ {ks:List K} {us:List Value} {cs:List C} {bs:List (Option Nat)},aC1 P w ok pb (ks.map fun kd=>(kd,false)) us cs bs→cs.length=ks.length∧us.length=cs.length∧∀ (j:Nat) (d:C),cs[j]? =some d→∃ u,us[j]? =some u∧Rep w ok u d
 |[],us,cs,bs,h=>by cases h;exact⟨rfl,rfl,fun j d hj=>by simp at hj⟩
 |k::ks,us,cs,bs,h=>by
  simp only[List.map_cons]at h
  cases h with
  |data hr h =>
   obtain⟨h1,h2,h3⟩:=aL4 h
   refine⟨by simp[h1],by simp[h2],fun j d hj=>?_⟩
   cases j with
   |zero=>simp at hj;subst hj;exact⟨_,rfl,hr⟩
   |succ j=>simpa using h3 j d (by simpa using hj)
end
theorem aOf {P:Program} {w:World} {okR:Nat→Prop} {ks:List (K×Bool)} {us:List Value} {cs:List C} {bs:List (Option Nat)} (h:aC1 P w okR [] ks us cs bs):∀ b,some b∈bs→∃ cur E fr,w.heap[b]? =some (.cells cur E fr):=by
 induction h with
 |nil=>intro b hb;cases hb
 |data _ _ ih=>exact ih
 |none _ ih=>intro b hb;exact ih b (by simpa using hb)
 |own _ _ hw _ _ _ _ ih =>
  intro b hb
  rcases List.mem_cons.1 hb with hb | hb
  ·obtain rfl:=Option.some.inj hb;exact⟨_,_,_,hw⟩
  ·exact ih b hb
 |back _ hj=>simp at hj
theorem bIr {P:Program} {w:World} {okR:Nat→Prop} {ps:List PTy} {vals:List Value} {cs:List C} {pb:List (Option Nat)} (h:aIa P w okR ps vals cs pb):∀ b,some b∈pb→∃ cur E fr,w.heap[b]? =some (.cells cur E fr):=by
 induction h with
 |nil=>intro b hb;cases hb
 |val _ _ _ ih=>exact ih
 |box _ hw _ _ _ ih =>
  intro b hb
  rcases List.mem_cons.1 hb with hb | hb
  ·obtain rfl:=Option.some.inj hb;exact⟨_,_,_,hw⟩
  ·exact ih b hb
 |wr _ hl _ ih =>
  intro b hb
  rcases List.mem_append.1 hb with hb | hb
  ·exact aOf hl b hb
  ·exact ih b hb
section
variable {c:Ctx} {E:Env} {w':World} {h:aCq} {nx:Nat} {β:aCr}
theorem bOi (hE:aDx c.P E) (hh:aB7 c w' h nx β) {nested:Bool} {ok':Nat→Prop} (h1:nested=true→∀ b,okD c h β b→ok' b) {okR:Nat→Prop} :
  ∀ {ks:List (K×Bool)} {us:List Value} {cs0:List C} {pb:List (Option Nat)},aC1 c.P c.w0 okR [] ks us cs0 pb→(∀ b,some b∈pb→some b∈c.pb)→∀ {ns ns':List Nat} {cs:List C},aT1 E nested h ks ns=some (true,cs,ns') →
   (∀ (j n:Nat) (ob:Option Nat),ns[j]? =some n→pb[j]? =some ob→ob=β n)→aO3 c.P c.w0 w' ok' ks pb cs∧ns'=ns.drop pb.length:=by
 intro ks us cs0 pb ha
 induction ha with
 |nil =>
  intro _ ns ns' cs ho _
  simp only[aT1,Option.some.injEq,Prod.mk.injEq,true_and]at ho
  obtain⟨rfl,rfl⟩:=ho
  exact⟨.nil,rfl⟩
 |data _ _ ih =>
  intro hpb ns ns' cs ho hn
  obtain⟨i1,i2⟩:=ih hpb (by simpa[aT1]using ho) hn
  exact⟨.data i1,i2⟩
 |none _ ih =>
  intro hpb ns ns' cs ho hn
  cases ns with
  |nil=>simp[aT1]at ho
  |cons n ns =>
   simp only[aT1]at ho
   split at ho
   ·rename_i te sz rows b cs1 ns1 hte hlk hrec
    split at ho
    ·simp only[Option.some.injEq,Prod.mk.injEq,Bool.and_eq_true]at ho
     obtain⟨⟨_,rfl⟩,rfl,rfl⟩:=ho
     obtain⟨i1,i2⟩:=ih (fun b hb=>hpb b (List.mem_cons_of_mem _ hb)) hrec (fun j m ob hj hb=>hn (j+1) m ob (by simpa using hj) (by simpa using hb))
     have hβ:none=β n:=hn 0 n none rfl rfl
     have hrows:rows=[]:=by
      rcases (hh.blk n _ hlk).2.2 with h | ⟨b,_,_,_,h,_⟩
      ·exact h
      ·rw[←hβ]at h;cases h
     subst hrows
     exact⟨.none i1,by rw[i2];rfl⟩
    ·cases ho
   ·cases ho
 |own hi hcap hw hth hsz hrows0 hlo0 ih =>
  rename_i e ks us rows0 cs0 bs b cap cur E0 fr i
  intro hpb ns ns' cs ho hn
  cases ns with
  |nil=>simp[aT1]at ho
  |cons n ns =>
   simp only[aT1]at ho
   split at ho
   ·rename_i te sz rows b1 cs1 ns1 hte hlk hrec
    split at ho
    ·rename_i hsz'
     subst hsz'
     simp only[Option.some.injEq,Prod.mk.injEq,Bool.and_eq_true,Bool.or_eq_true]at ho
     obtain⟨⟨hnf,rfl⟩,rfl,rfl⟩:=ho
     obtain⟨i1,i2⟩:=ih (fun b hb=>hpb b (List.mem_cons_of_mem _ hb)) hrec (fun j m ob hj hb=>hn (j+1) m ob (by simpa using hj) (by simpa using hb))
     have hβ:some b=β n:=hn 0 n (some b) rfl rfl
     obtain⟨ii,_,hii,his,_⟩:=(hE.ty e te hte).info
     rw[hi]at hii
     obtain rfl:=Option.some.inj hii
     obtain⟨cur2,q1,q2⟩:=hh.pbs b (hpb b List.mem_cons_self) cur E0 fr hw
     refine⟨.own hi hw q1 q2 (fun k r j x hk hj=>?_) i1,by rw[i2];rfl⟩
     have hne:rows≠[]:=fun e=>by subst e;simp at hk
     obtain⟨b',cur',E2,fr',hb',hw',_,_,hcells⟩:=(hh.blk n _ hlk).2.2.resolve_left hne
     obtain rfl:b'=b:=by rw[←hβ]at hb';exact (Option.some.inj hb').symm
     rw[q1]at hw'
     simp only[Option.some.injEq,Obj.cells.injEq]at hw'
     obtain⟨rfl,rfl,rfl⟩:=hw'
     obtain⟨u,hu,hru⟩:=hcells k r j x hk hj
     refine⟨u,by rw[his];exact hu,?_⟩
     rcases hnf with hnest | hflat
     ·exact hru.mono (fun b hb _=>⟨h1 hnest b hb,rfl⟩) (Nat.le_refl _)
     ·exact aWv hru (List.all_eq_true.1 (List.all_eq_true.1 hflat r (List.mem_of_getElem? hk)) x (List.mem_of_getElem? hj))
    ·cases ho
   ·cases ho
 |back _ hj=>simp at hj
theorem bCi (hE:aDx c.P E) (hh:aB7 c w' h nx β) {nested:Bool} {ok':Nat→Prop} (h1:nested=true→∀ b,okD c h β b→ok' b)
  {N:Nat→Prop} (h2:nested=true→∀ id b blk p (n:Nat) cells,N n→h.lookup n=some (.box cells)→id∈cells.flatMap L.ids→h.lookup id=some blk→blk.dat? =some p→β id=some b→ok' b) {okR:Nat→Prop} :
  ∀ {ps:List PTy} {vals:List Value} {cs0:List C} {pb:List (Option Nat)},aIa c.P c.w0 okR ps vals cs0 pb→(∀ b,some b∈pb→some b∈c.pb)→∀ {ns:List Nat} {cs:List C},aFf E nested h ps ns=some (true,cs) →
   (∀ (j n:Nat),ns[j]? =some n→pb[j]? =some (β n))→(∀ n,n∈ns→N n)→aFq c.P c.w0 w' ok' ps pb cs:=by
 intro ps vals cs0 pb ha
 induction ha with
 |nil =>
  intro _ ns cs ho _ _
  cases ns with
  |cons n ns=>simp[aFf]at ho
  |nil =>
   simp only[aFf,Option.some.injEq,Prod.mk.injEq,true_and]at ho
   subst ho
   exact .nil
 |val _ _ _ ih=>exact fun hpb ns cs ho hn hbx=>.val (ih hpb (by simpa[aFf]using ho) hn hbx)
 |@box ks ps vs cs1 cs0 pb b cur E0 fr hl hw hth hcells ha ih =>
  intro hpb ns cs ho hn hbx
  cases ns with
  |nil=>simp[aFf]at ho
  |cons n ns =>
   simp only[aFf]at ho
   split at ho
   ·rename_i cells b1 cs2 hlk hrec
    split at ho
    ·rename_i b2 cs3 ids hol
     simp only[Option.some.injEq,Prod.mk.injEq,Bool.and_eq_true]at ho
     obtain⟨⟨rfl,rfl⟩,rfl⟩:=ho
     have hβ:β n=some b:=by have:=hn 0 n rfl;simpa using this.symm
     obtain⟨b',cur',E',fr',hb',hw',hth',hrep⟩:=(hh.blk n _ hlk).2
     obtain rfl:b'=b:=by rw[hβ]at hb';exact (Option.some.inj hb').symm
     obtain⟨cur2,q1,q2⟩:=hh.pbs b' (hpb b' List.mem_cons_self) cur E0 fr hw
     rw[hw']at q1
     simp only[Option.some.injEq,Obj.cells.injEq]at q1
     obtain⟨rfl,rfl,rfl⟩:=q1
     have ids0:∀ {ks:List K} {ls:List L} {cs:List C} {ids:List Nat} {b:Bool},aBm E nested h [] (ks.map fun kd=>(kd,false)) ls=some (b,cs,ids)→ids=[]:=by
      intro ks
      induction ks with
      |nil=>intro ls cs ids b ho;cases ls<;>simp[aBm]at ho;exact ho.2.2
      |cons k ks ihk =>
       intro ls cs ids b ho
       cases ls with
       |nil=>simp[aBm]at ho
       |cons x ls =>
        simp only[List.map_cons,aBm]at ho
        split at ho
        ·rename_i d b0 cs0 ids0 hd hrec
         simp only[Option.some.injEq,Prod.mk.injEq]at ho
         rw[←ho.2.2]
         exact ihk hrec
        ·cases ho
     have hids:=ids0 hol
     subst hids
     have dat:∀ (ks:List K) (ls:List L),∀ id,id∈aCy (ks.map fun kd=>(kd,false)) ls→id∈ls.flatMap L.ids:=by
      intro ks
      induction ks with
      |nil=>intro ls id hi;simp[aCy]at hi
      |cons k ks ihk =>
       intro ls id hi
       cases ls with
       |nil=>simp[aCy]at hi
       |cons x ls =>
        simp only[List.map_cons,aCy,List.mem_append]at hi
        rw[List.flatMap_cons]
        rcases hi with hi | hi
        ·exact List.mem_append_left _ hi
        ·exact List.mem_append_right _ (ihk ls id hi)
     obtain⟨bs,l1,_,_⟩:=aJr hE hh h1 (pins:=[]) (pb:=[]) (fun j n hj=>by simp at hj) hol (us:=cur'.toList) (fun hnest id b blk p hi=>h2 hnest id b blk p n cells (hbx n List.mem_cons_self) hlk (dat _ _ id hi)) (by rw[Array.length_toList];exact hrep.1) (fun j x hj=>by simpa using hrep.2 j x hj) List.nodup_nil
     obtain⟨k1,k2,k3⟩:=aL4 l1
     refine .box k1 hw hw' q2 ⟨by rw[←k2,Array.length_toList],fun j d hj=>by simpa using k3 j d hj⟩ (ih (fun b hb=>hpb b (List.mem_cons_of_mem _ hb)) hrec (fun j m hj=>by have:=hn (j+1) m (by simpa using hj);simpa using this) fun m hm=>hbx m (List.mem_cons_of_mem _ hm))
    ·cases ho
   ·cases ho
 |@wr agg ks ps v us vs cs1 cs0 pbA pb hwv hlo ha ih =>
  intro hpb ns cs ho hn hbx
  simp only[aFf]at ho
  split at ho
  ·rename_i b1 cs2 ns1 how
   split at ho
   ·rename_i b2 cs3 hrec
    simp only[Option.some.injEq,Prod.mk.injEq,Bool.and_eq_true]at ho
    obtain⟨⟨rfl,rfl⟩,rfl⟩:=ho
    obtain⟨i1,rfl⟩:=bOi hE hh h1 hlo (fun b hb=>hpb b (List.mem_append_left _ hb)) how (fun j n ob hj hb=>by
     have:=hn j n hj
     rw[List.getElem?_append_left (List.getElem?_eq_some_iff.1 hb).1,hb]at this
     exact Option.some.inj this)
    exact .wr i1 (ih (fun b hb=>hpb b (List.mem_append_right _ hb)) hrec (fun j n hj=>by
     rw[List.getElem?_drop]at hj
     have:=hn _ n hj
     rw[List.getElem?_append_right (by omega),Nat.add_sub_cancel_left]at this
     exact this) fun n hm=>hbx n (List.mem_of_mem_drop hm))
   ·cases ho
  ·cases ho
end
theorem aW5 {E:Env} {nested:Bool} {h:aCq} {pins:List Nat}:∀ {ks:List (K×Bool)} {ls:List L} {b:Bool} {cs:List C} {ids:List Nat},aBm E nested h pins ks ls=some (b,cs,ids)→∀ id,id∈ids→∃ sz rows,h.lookup id=some (.arr sz rows):=by
 intro ks
 induction ks with
 |nil=>intro ls b cs ids ho;cases ls<;>simp[aBm]at ho;obtain⟨_,_,rfl⟩:=ho;intro id hi;cases hi
 |cons k ks ih =>
  intro ls b cs ids ho
  obtain⟨kd,own⟩:=k
  cases ls with
  |nil=>cases own<;>cases kd<;>simp[aBm]at ho
  |cons x ls =>
   cases own with
   |false =>
    simp only[aBm]at ho
    split at ho
    ·rename_i hrec
     simp only[Option.some.injEq,Prod.mk.injEq]at ho
     rw[←ho.2.2]
     exact ih hrec
    ·cases ho
   |true =>
    cases kd with
    |slice e =>
     simp only[aBm]at ho
     split at ho
     ·rename_i hrec
      simp only[Option.some.injEq,Prod.mk.injEq]at ho
      rw[←ho.2.2]
      exact ih hrec
     ·rename_i hrec
      split at ho
      ·rename_i sz rows hl
       split at ho
       ·simp only[Option.some.injEq,Prod.mk.injEq]at ho
        rw[←ho.2.2]
        intro id hi
        rcases List.mem_cons.1 hi with rfl | hi
        ·exact⟨_,_,hl⟩
        ·exact ih hrec id hi
       ·cases ho
      ·cases ho
     ·cases ho
    |back e j =>
     simp only[aBm]at ho
     split at ho
     ·rename_i hrec
      split at ho
      ·split at ho
       ·simp only[Option.some.injEq,Prod.mk.injEq]at ho
        rw[←ho.2.2]
        exact ih hrec
       ·cases ho
      ·cases ho
     ·cases ho
    |_=>simp[aBm]at ho
theorem bHb {E:Env} {nested:Bool} {h:aCq} {pins:List Nat}:∀ {ts:List RTy} {rs:List (Bool×List L)} {b:Bool} {cs:List C} {ids:List Nat},aJq E nested h pins ts rs=some (b,cs,ids)→∀ id,id∈ids→∃ sz rows,h.lookup id=some (.arr sz rows):=by
 intro ts
 induction ts with
 |nil=>intro rs b cs ids ho;cases rs<;>simp[aJq]at ho;obtain⟨_,_,rfl⟩:=ho;intro id hi;cases hi
 |cons t ts ih =>
  intro rs b cs ids ho
  cases rs with
  |nil=>simp[aJq]at ho
  |cons p rs =>
   obtain⟨agg,ls⟩:=p
   simp only[aJq]at ho
   split at ho
   ·rename_i h1 h2
    split at ho
    ·simp only[Option.some.injEq,Prod.mk.injEq]at ho
     rw[←ho.2.2]
     intro id hi
     rcases List.mem_append.1 hi with hi | hi
     ·exact aW5 h1 id hi
     ·exact ih h2 id hi
    ·cases ho
   ·cases ho
theorem aZ8:∀ {bs:List (Option Nat)},bs.Pairwise (fun x y=>∀ b,x=some b→y≠some b)→∀ {i j b:Nat},bs[i]? =some (some b)→bs[j]? =some (some b)→i=j
 |[],_,i,j,b,hi,_=>by simp at hi
 |x::bs,p,i,j,b,hi,hj=>by
  obtain⟨p1,p2⟩:=List.pairwise_cons.1 p
  cases i with
  |zero =>
   cases j with
   |zero=>rfl
   |succ j =>
    simp only[List.getElem?_cons_zero,Option.some.injEq]at hi
    exact absurd rfl (p1 _ (List.mem_of_getElem? (by simpa using hj)) b hi)
  |succ i =>
   cases j with
   |zero =>
    simp only[List.getElem?_cons_zero,Option.some.injEq]at hj
    exact absurd rfl (p1 _ (List.mem_of_getElem? (by simpa using hi)) b hj)
   |succ j=>rw[aZ8 p2 (i:=i) (j:=j) (by simpa using hi) (by simpa using hj)]
theorem aAd {α:Type} {P:Program}:∀ c:Ctx,c.P=P→aMr c (aAe (α:=α)):=fun c _ g fn ws σ k r hg he=>(aA0 he).elim
theorem aTf {P : Program} {E : Env} (hE : aA8 P E) {f : FuncId} {fn : Func} {sig : Sig} {spec : Spec} {I : Inl (List C)} (hI : ∀ c : Ctx, c.P = P → aMr c I) (hf : P.funcs[f]? = some fn) (hname : (fn.name == "runtime.NumGoroutine") = false)
  (hspec:∀ cs outs,aB6 cs (aEp sig.params)=true→spec cs=some (true,outs)→∃ ws σ body,aDq E sig.params cs {slots:=[],heap:=[],next:=0,pins:=[]}=some (true,ws,[],σ)∧fn.body=some body ∧
   ∀ (ok:Nat→Prop) (w:World) (h:aCq) (nx:Nat) (β:aCr) (vals:List Value),vals.length=ws.length→(∀ (i:Nat) (v:Value) (x:W),vals[i]? =some v→ws[i]? =some x→aFs ok w h nx β v x) →
    ∃ ws',ws'.length=ws.length∧(∀ (i:Nat) (v:Value) (x:W),vals[i]? =some v→ws'[i]? =some x→aFs ok w h nx β v x)∧ws'.length≤fn.ntmps ∧
     (aEt {E with nt:=fn.ntmps} I body {σ with slots:=(List.range ws'.length).zip ws'} (bBl E sig fn)).eval=some outs):aAw P f sig spec:=by
 intro w okR pb vals cs outs hokR hglob hpbn hargs hk hs
 obtain⟨ws,σ,body,hin,hbody,hch⟩:=hspec cs outs hk hs
 have hbox:=bIr hargs
 let c:Ctx:=⟨P,w,okR,pb,hokR,fun b hb=>by obtain⟨cur,E',fr,hw⟩:=hbox b hb;exact (Array.getElem?_eq_some_iff.1 hw).1,hglob,fun _=>none,fun _ _ h=>by cases h⟩
 obtain⟨_,i2,i3,_,i4⟩:=bDb (c:=c) hE.ok hargs (cs2:=[]) (pb1:=[]) hin (by simp) ⟨rfl,rfl,fun j b hj=>by simp at hj,fun j x hx=>by simp at hx⟩
 simp only[List.nil_append]at i2 i4
 let β:aCr:=fun j=>(pb[j]?).join
 have joined:∀ {j b:Nat},β j=some b→pb[j]? =some (some b):=fun {j b} h=>by
  have h:(pb[j]?).join=some b:=h
  cases hp:pb[j]? with
  |none=>rw[hp]at h;cases h
  |some ob=>rw[hp]at h;simp only[Option.join_some]at h;rw[h]
 have okD0:∀ b,okR b→okD c σ.heap β b:=fun b hb=>⟨.inl hb,fun id blk hl hf' hβ=>(hokR b hb).2 (List.mem_of_getElem? (joined hβ))⟩
 have lk:∀ {j:Nat} {x:Blk},σ.heap.lookup j=some x→j<pb.length∧x.isFro=false∧aO6 (okD c σ.heap β) w σ.heap σ.next β (β j) x:=fun {j x} hx=>by
  have hj:=i2.only j x hx
  have hpj:pb[j]? =some pb[j]:=List.getElem?_eq_getElem hj
  obtain⟨y,q1,q2,q3⟩:=i2.at' j _ hpj
  rw[hx]at q1
  obtain rfl:=Option.some.inj q1
  refine⟨hj,q2,?_⟩
  have:β j=pb[j]:=by show (pb[j]?).join=_;rw[hpj];rfl
  rw[this]
  exact q3 _ _ _ _ okD0
 have hh:aB7 c w σ.heap σ.next β:=by
  refine⟨fun id x hl=>?_,fun id x b hl hb=>?_,fun id id' x x' b hl hl' hb hb'=>hpbn id id' b (joined hb) (joined hb'),Nat.le_refl _,fun _ _ _=>rfl,rfl,rfl,fun b hb cur E' fr hw=>⟨cur,hw,rfl⟩,fun g o hg=>by cases hg⟩
  ·obtain⟨q1,_,q3⟩:=lk hl
   exact⟨by rw[i2.next];exact q1,q3⟩
  ·obtain⟨q1,q2,_⟩:=lk hl
   have hm:=List.mem_of_getElem? (joined hb)
   obtain⟨cur,E',fr,hw⟩:=hbox b hm
   exact⟨.inr ⟨hm,q2⟩,(Array.getElem?_eq_some_iff.1 hw).1⟩
 have hpins:∀ (j:Nat) (id:Nat),σ.pins[j]? =some id→id<σ.next∧(∃ x,σ.heap.lookup id=some x∧x.isFro=false)∧c.pb[j]? =some (β id):=fun j id hj=>by
  rw[i2.pins]at hj
  have hjl:=(List.getElem?_eq_some_iff.1 hj).1
  simp at hjl
  rw[List.getElem?_range hjl]at hj
  obtain rfl:=Option.some.inj hj
  have hpj:pb[j]? =some pb[j]:=List.getElem?_eq_getElem hjl
  obtain⟨x,q1,q2,_⟩:=i2.at' j _ hpj
  refine⟨by rw[i2.next];exact hjl,⟨x,q1,q2⟩,?_⟩
  show pb[j]? =some ((pb[j]?).join)
  rw[hpj];rfl
 obtain⟨ws',hlw,hrep',hws,he⟩:=hch (okD c σ.heap β) w σ.heap σ.next β vals i3 (i4 (okD c σ.heap β) σ.heap σ.next β okD0 (fun j ob hj=>by show (pb[j]?).join=ob;rw[hj];rfl) (fun _ _ h=>h) (by rw[i2.next];exact Nat.le_refl _))
 have hrel:=aQo (c:=c) (nt:=fn.ntmps) hh (i3.trans hlw.symm) hrep' hpins (by rw[i2.pins];simp;rfl)
 have hE':aA8 c.P {E with nt:=fn.ntmps}:=⟨⟨hE.ok.ty,hE.ok.inl,hE.ok.arr,hE.ok.gl,hE.ok.bld⟩,hE.law,hE.name,hE.mixed⟩
 obtain⟨e,σ',h1,h2⟩:=aV1 hE' (hI _ rfl) body he
 have last:(e=.normal∨e=.ret)→(match aZ7 E σ' fn.results with
   |some ws=>match ws.mapM aNa with
    |some rs=>match bKn E sig σ' rs with
     |some (b,cs)=>T.must b (.ret cs)
     |none=>.bad
    |none=>.bad
   |none=>.bad).eval=some outs→bTf P f vals.toArray w (bNh P w okR pb sig outs):=by
  intro hex h
  split at h
  ·rename_i ws' hws'
   split at h
   ·rename_i rs hrs
    split at h
    ·rename_i bb cs' hout
     obtain⟨hbb,h⟩:=aAl h
     subst hbb
     obtain rfl:=Option.some.inj h
     have hnm : ¬ fn.name = "runtime.NumGoroutine" := by simpa using hname
     refine .inl ⟨by simp[callFunc,hf,hnm,hbody],calls_of_wp hf hbody (h2 β _ w hrel (by simp;omega) _ fun β' a' w' hr' hs' _=>?_)⟩
     obtain⟨vs,q1,q2,q3⟩:=bF1 hE'.ok hr' (rs:=fn.results.toList) hws'
     -- what comes out
     have hafter:bNh P w okR pb sig cs' (bRx vs) w':=by
      unfold bKn at hout
      split at hout
      ·rename_i b1 cs1 ids b2 cs2 ho1 ho2
       simp only[]at hout
       split at hout
       ·rename_i hnd
        obtain⟨hnd,hds,hfr⟩:=hnd
        simp only[Option.some.injEq,Prod.mk.injEq,Bool.and_eq_true]at hout
        obtain⟨⟨rfl,rfl⟩,rfl⟩:=hout
        have hids:=aNn hnd
        have hh':=hr'.heap
        have hdsn:∀ id,id∈ids→id∉((sig.results.zip rs).flatMap fun p=>aCy p.1.ls p.2.2)∧id∉aGe σ'.heap σ'.pins:=fun id hi=>by
         have:=List.all_eq_true.1 hds id hi
         simpa[not_or]using this
        have hrsl:rs.length=ws'.length:=mapM_some_length hrs
        have hrp:∀ (j:Nat) (p:Bool×List L),rs[j]? =some p→∃ u,vs[j]? =some u∧bIs (okD c σ'.heap β') w' σ'.heap σ'.next β' u p.1 p.2:=fun j p hj=>by
         have hlt:j<ws'.length:=by have:=(List.getElem?_eq_some_iff.1 hj).1;omega
         have hg:=mapM_some_get hrs j ws'[j] (List.getElem?_eq_getElem hlt)
         rw[hj]at hg
         have hv:vs[j]? =some vs[j]:=List.getElem?_eq_getElem (by omega)
         have hx:=q3 j _ _ hv (List.getElem?_eq_getElem hlt)
         refine⟨vs[j],hv,?_⟩
         generalize ws'[j]=y at hg hx
         cases y with
         |l y=>simp only[aNa,Option.some.injEq]at hg;subst hg;exact⟨y,rfl,hx⟩
         |agg xs=>simp only[aNa,Option.some.injEq]at hg;subst hg;exact hx
         |tup ps=>simp[aNa]at hg
         |bz t=>simp[aNa]at hg
        let okN:Nat→Prop:=fun b=>(sig.nested=true∧okR b)∨(w.heap.size≤b∧∀ id,id∈ids→(σ'.heap.lookup id).isSome=true→β' id≠some b)
        have idsArr:∀ id,id∈ids→∃ sz rows,σ'.heap.lookup id=some (.arr sz rows):=bHb ho1
        have n1:sig.nested=true→∀ b,okD c σ'.heap β' b→okN b:=fun hnest b hb=>by
         rcases hb.1 with h1 | h1
         ·exact .inl ⟨hnest,h1⟩
         ·refine .inr ⟨h1.1,fun id hi _ he=>?_⟩
          obtain⟨sz,rows,hl⟩:=idsArr id hi
          exact hb.2 id _ hl rfl he
        have hfree:∀ id,id∈ids∨id∈((sig.results.zip rs).flatMap fun p=>aCy p.1.ls p.2.2)∨id∈aGe σ'.heap σ'.pins→aE1 σ'.pins [id]=true:=fun id hi=>by
         have:=List.all_eq_true.1 hfr id (by simp only[List.mem_append];exact hi)
         simpa[aE1]using this
        have n2:∀ id b blk p,id∉ids→aE1 σ'.pins [id]=true→σ'.heap.lookup id=some blk→blk.dat? =some p→β' id=some b→okN b:=fun id b blk p hni hfi hl hr hb=>by
         refine .inr ⟨aKh hr' id blk b hfi hl hb,fun id' hi' _ he=>?_⟩
         obtain⟨sz,rows,hl'⟩:=idsArr id' hi'
         have:=hh'.inj id id' _ _ b hl hl' hb he
         subst this
         exact hni hi'
        obtain⟨bs,p1,p2,p3⟩:=bKm hE.ok hh' (ok':=okN) n1 (pins:=σ'.pins) (pb:=pb) (fun j n hj=>(hr'.pins j n hj).2.2) ho1 (fun _ id b blk p hi hl hr hb=>n2 id b blk p (fun hni=>(hdsn id hni).1 hi) (hfree id (.inr (.inl hi))) hl hr hb) (by omega) hrp hids
        have hpb:∀ j n,σ'.pins[j]? =some n→pb[j]? =some (β' n):=fun j n hj=>(hr'.pins j n hj).2.2
        have p4:=bCi (c:=c) hE.ok hh' (ok':=okN) n1 (N:=fun n=>n∈σ'.pins) (fun _ id b blk p n cells hN hn hi hl hr hb=>n2 id b blk p (fun hni=>(hdsn id hni).2 (List.mem_flatMap.2 ⟨n,hN,by rw[hn];exact hi⟩)) (hfree id (.inr (.inr (List.mem_flatMap.2 ⟨n,hN,by rw[hn];exact hi⟩)))) hl hr hb) hargs (fun _ hb=>hb) ho2 hpb (fun n hn=>hn)
        ·refine⟨⟨vs,bs,cs1,cs2,okN,fun b hb=>?_,rfl,rfl,p1,p4,fun i j b hi hj=>?_,fun b hb=>?_⟩,hh'.size,hh'.frame,hh'.os,hh'.out⟩
         ·rcases hb with hb | ⟨hb1,hb2⟩
          ·exact .inl hb
          ·refine .inr ⟨hb1,fun hm=>?_⟩
           obtain⟨id,sz,rows,z1,z2,z3⟩:=p2 b hm
           exact hb2 id z1 (by rw[z3];rfl) z2
         ·exact aZ8 p3 hi hj
         ·obtain⟨id,sz,rows,z1,z2,z3⟩:=p2 b hb
          exact⟨aKh hr' id _ b (hfree id (.inl z1)) z3 z2,(hh'.place id _ b z3 z2).2⟩
       ·cases hout
      ·cases hout
     have hres:=aIi q2
     rcases hex with rfl | rfl
     ·exact⟨hr'.defers,_,hres,_,rfl,hafter⟩
     ·exact⟨hr'.defers,_,hres,_,rfl,hafter⟩
    ·exact (aA0 h).elim
   ·exact (aA0 h).elim
  ·exact (aA0 h).elim
 cases e with
 |normal=>exact last (.inl rfl) h1
 |ret=>exact last (.inr rfl) h1
 |exit j=>exact (aA0 h1).elim
 |goto l=>exact (aA0 h1).elim
 |panic ch=>exact (aA0 h1).elim
 |outgrown=>exact (aA0 h1).elim
theorem aA5 {P : Program} {E : Env} (hE : aA8 P E) {f : FuncId} {fn : Func} {sig : Sig} {spec : Spec} {I : Inl (List C)} (hI : ∀ c : Ctx, c.P = P → aMr c I) (hf : P.funcs[f]? = some fn) (hname : (fn.name == "runtime.NumGoroutine") = false)
  (hspec:∀ cs outs,aB6 cs (aEp sig.params)=true→spec cs=some (true,outs)→(bNv E I sig fn cs).eval=some outs):aAw P f sig spec:=by
 refine aTf hE hI hf hname fun cs outs hk hs=>?_
 have he:=hspec cs outs hk hs
 unfold bNv at he
 split at he
 ·rename_i b ws σ body hin hbody
  split at he
  ·rename_i hws
   obtain⟨hb,he⟩:=aAl he
   subst hb
   exact⟨ws,σ,body,hin,hbody,fun ok w h nx β vals hl hr=>⟨ws,rfl,hr,hws,aUn he⟩⟩
  ·exact (aA0 he).elim
 ·exact (aA0 he).elim
end Go.Proofs.YtigodjkegcibhaaGreatDoor.V
