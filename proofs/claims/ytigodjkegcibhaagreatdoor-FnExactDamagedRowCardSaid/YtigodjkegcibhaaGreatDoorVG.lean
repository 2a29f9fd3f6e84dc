/- The value-level interpreter over the model, part G: definitions, or lemmas that show that it is the model's. -/
import Derived.Test.YtigodjkegcibhaaGreatDoorVF
import Derived.OpenShut
import Derived.SizedLaws
import Derived.Carry
import Derived.ChangeOld
import Derived.Lib.LaidTab
set_option linter.unusedVariables false
set_option linter.unusedSimpArgs false
set_option linter.unusedSectionVars false
set_option linter.unnecessarySimpa false
namespace Go.Proofs.YtigodjkegcibhaaGreatDoor.V
inductive Fit (E:Env):K→C→Prop
 |int {k:IntKind} {n:Int}:k.min≤n→n≤k.max→Fit E (.int k) (.int k n)
 |bool {t:Bool}:Fit E .bool (.bool t)
 |str {s:List UInt8}:s.length≤reachBytes→Fit E .str (.str s)
 |sl {e:TypeId} {te:TI} {rows:List (List C)}:E.Ty e=some te→rows.length*te.bytes≤reachBytes→(∀ r,r∈rows→r.length=te.leaves.length) →
   (∀ r,r∈rows→∀ (j:Nat) (kd:K) (x:C),te.leaves[j]? =some kd→r[j]? =some x→Fit E kd x)→Fit E (.slice e) (.sl rows)
def aK8 (E:Env) (ks:List K) (cs:List C):Prop:=cs.length=ks.length∧∀ (j:Nat) (kd:K) (x:C),ks[j]? =some kd→cs[j]? =some x→Fit E kd x
theorem Fit.is {E:Env} {kd:K} {x:C} (h:Fit E kd x):x.is kd=true:=by cases h<;>simp[C.is]
theorem aK8.kinds {E:Env}:∀ {ks:List K} {cs:List C},aK8 E ks cs→aBo cs ks=true
 |[],[],_=>rfl
 |[],c::cs,h=>by simp[aK8]at h
 |k::ks,[],h=>by simp[aK8]at h
 |k::ks,c::cs,h=>by
  simp only[aBo,Bool.and_eq_true]
  exact⟨(h.2 0 k c rfl rfl).is,aK8.kinds ⟨by simpa using h.1,fun j kd x hk hx=>h.2 (j+1) kd x (by simpa using hk) (by simpa using hx)⟩⟩
def bFf (E:Env):List (Nat×TypeId)→Nat→Option (List K)
 |[],_=>some []
 |(o,t)::r,k=>if o=k then match E.Ty t with
  |some tf=>match bFf E r (k+tf.leaves.length)with
   |some ks=>some (tf.leaves++ks)
   |none=>none
  |none=>none
  else none
def aNt (E:Env):Nat→TypeId→Bool
 |0,_=>false
 |n+1,t=>match E.Ty t with
  |none=>false
  |some ti=>match ti.agg,ti.leaves with
   |false,[.int _] | false,[.bool] | false,[.str]=>true
   |false,[.slice e]=>(match E.Ty e with | some te=>decide (0<te.leaves.length) | none=>false)&&aNt E n e
   |true,ks=>decide (bFf E ti.fields 0=some ks)&&ti.fields.all fun p=>aNt E n p.2
   |_,_=>false
structure bW8 (P:Program) (E:Env):Prop where
 cnt:∀ t ti fs,E.Ty t=some ti→ti.agg=true→P.underlying t=some (.struct fs)→fs.size=ti.fields.length
theorem aZq {α:Type} {Q:Nat→α→Prop}:∀ (n:Nat),(∀ i,i<n→∃ x,Q i x)→∃ l:List α,l.length=n∧∀ (i:Nat) (x:α),l[i]? =some x→Q i x
 |0,_=>⟨[],rfl,fun i x h=>by simp at h⟩
 |n+1,h=>by
  obtain⟨l,h1,h2⟩:=aZq n fun i hi=>h i (by omega)
  obtain⟨x,hx⟩:=h n (by omega)
  refine⟨l++[x],by simp[h1],fun i y hy=>?_⟩
  by_cases hi:i<l.length
  ·rw[List.getElem?_append_left hi]at hy;exact h2 i y hy
  ·rw[List.getElem?_append_right (by omega)]at hy
   have:i-l.length=0:=by have:=(List.getElem?_eq_some_iff.1 hy).1;simp at this;omega
   rw[this]at hy
   simp at hy
   subst hy
   have:i=n:=by omega
   subst this
   exact hx
section
variable {P:Program} {E:Env} {W:World} {H:Type} {enc:TypeId×Value→H}
abbrev aVd (W:World):Nat→Prop:=fun b=>b<W.heap.size
def bT3 (E:Env) (W:World) (ks:List K) (cs:List Value):Prop :=
 ∃ cl:List C,aK8 E ks cl∧cs.length=cl.length∧∀ (j:Nat) (v:Value) (x:C),cs[j]? =some v→cl[j]? =some x→Rep W (aVd W) v x
theorem bJl (hE:aFu P E) {t:TypeId} {ti:TI} (h:E.Ty t=some ti):P.cellsOf t=ti.leaves.length∧P.bytesOf t=ti.bytes:=by
 obtain⟨i,z,h1,h2,h3,_⟩:=(hE.ty t ti h).info
 simp[Program.cellsOf,Program.bytesOf,h1,h2,h3]
theorem aNm {e:TypeId}:∀ {ds:List (DataW H)} {d:DataW H},d∈ds→∀ n,n∈d.weights P e→n∈DataW.weightsAll P e ds
 |[],d,h,_,_=>by cases h
 |x::ds,d,h,n,hn=>by
  simp only[DataW.weightsAll,List.mem_append]
  rcases List.mem_cons.1 h with rfl | h
  ·exact .inl hn
  ·exact .inr (aNm h n hn)
theorem bSw {a:Addr} {n:Nat} {cs:List Value} (h:W.cells? 0 a n=some cs):cs.length=n∧∀ i,i<n→cs[i]? =W.cell? (a.add i):=by
 simp only[World.cells?,Nat.zero_le,if_true]at h
 refine⟨by rw[mapM_some_length h];simp,fun i hi=>?_⟩
 exact (mapM_some_get h i i (by simp[hi])).symm
theorem bTr (hE:aFu P E) (hC:bW8 P E):∀ (fuel n:Nat) (t:TypeId) (ti:TI) (cs:List Value) (d:DataW H) (ps:List MemPlace),aNt E n t=true→E.Ty t=some ti →
  DataW.trod enc P W 0 (fun _=>true) true fuel t cs=some (d,ps)→(∀ m,m∈d.weights P t→m≤reachBytes)→bT3 E W ti.leaves cs:=by
 intro fuel
 induction fuel with
 |zero=>intro n t ti cs d ps _ _ ht;simp[DataW.trod]at ht
 |succ fuel ih =>
  intro n t ti cs d ps hp hti ht hw
  cases n with
  |zero=>simp[aNt]at hp
  |succ n =>
   have hT:=hE.ty t ti hti
   have one:∀ {kd:K} {v:Value} {x:C},ti.leaves=[kd]→cs=[v]→Fit E kd x→Rep W (aVd W) v x→bT3 E W ti.leaves cs:=fun {kd v x} h1 h2 h3 h4=>by
    rw[h1,h2]
    refine⟨[x],⟨rfl,fun j kd' x' hk hx=>?_⟩,rfl,fun j v' x' hv hx=>?_⟩
    ·cases j with
     |zero=>simp at hk hx;subst hk;subst hx;exact h3
     |succ j=>simp at hk
    ·cases j with
     |zero=>simp at hv hx;subst hv;subst hx;exact h4
     |succ j=>simp at hv
   simp only[aNt,hti]at hp
   cases hag:ti.agg with
   |false =>
    obtain⟨kd,dsc,hlv,hu,hk⟩:=hT.leaf hag
    rw[hag,hlv]at hp
    cases kd with
    |int k =>
     simp only[aBw]at hk
     subst hk
     match cs with
     |[]=>simp[DataW.trod,hu]at ht
     |[v] =>
      cases v<;>simp[DataW.trod,hu]at ht
      rename_i k' m
      obtain⟨⟨rfl,hwf⟩,_⟩:=ht
      simp only[Lit.wf,Bool.and_eq_true,decide_eq_true_eq]at hwf
      exact one hlv rfl (.int hwf.1 hwf.2) (.int _ _)
     |v::u::r=>cases v<;>simp[DataW.trod,hu]at ht
    |bool =>
     simp only[aBw]at hk
     subst hk
     match cs with
     |[]=>simp[DataW.trod,hu]at ht
     |[v] =>
      cases v<;>simp[DataW.trod,hu]at ht
      exact one hlv rfl .bool (.bool _)
     |v::u::r=>cases v<;>simp[DataW.trod,hu]at ht
    |str =>
     simp only[aBw]at hk
     subst hk
     match cs with
     |[]=>simp[DataW.trod,hu]at ht
     |[v] =>
      cases v<;>simp[DataW.trod,hu]at ht
      rename_i s
      obtain⟨_,rfl,_⟩:=ht
      exact one hlv rfl (.str (hw _ (by simp[DataW.weights]))) (.str s)
     |v::u::r=>cases v<;>simp[DataW.trod,hu]at ht
    |slice e =>
     simp only[aBw]at hk
     subst hk
     simp only[Bool.and_eq_true]at hp
     cases hte:E.Ty e with
     |none=>rw[hte]at hp;simp at hp
     |some te =>
      rw[hte]at hp
      simp only[decide_eq_true_eq]at hp
      obtain⟨hpos,hpe⟩:=hp
      obtain⟨hce,hbe⟩:=bJl hE hte
      match cs with
      |[]=>simp[DataW.trod,hu]at ht
      |v::u::r =>
       exfalso
       cases v<;>simp[DataW.trod,hu]at ht
      |[v] =>
       cases v with
       |slice a len cap =>
        cases a with
        |none =>
         have hz:len=0∧cap=0:=by
          cases len<;>cases cap<;>simp[DataW.trod,hu]at ht ⊢
         obtain⟨rfl,rfl⟩:=hz
         exact one hlv rfl (.sl hte (by simp) (fun r hr=>by cases hr) (fun r hr=>by cases hr)) (.emp _ _)
        |some a =>
         simp only[DataW.trod,hu]at ht
         split at ht
         ·rename_i hcond
          cases hel:(List.range len).mapM fun i=>(W.cells? 0 (a.add (i*P.cellsOf e)) (P.cellsOf e)).bind (DataW.trod enc P W 0 (fun _=>true) true fuel e)with
          |none=>rw[hel]at ht;simp at ht
          |some elems =>
           rw[hel]at ht
           simp only[Option.bind_some,if_true]at ht
           cases hsp:(List.range (cap-len)).mapM fun j=>(W.cells? 0 (a.add ((len+j)*P.cellsOf e)) (P.cellsOf e)).bind (DataW.trod enc P W 0 (fun _=>true) true fuel e)with
           |none=>rw[hsp]at ht;simp at ht
           |some rest =>
            rw[hsp]at ht
            simp only[Option.map_some,Option.some.injEq,Prod.mk.injEq]at ht
            obtain⟨rfl,rfl⟩:=ht
            have hlen:elems.length=len:=by rw[mapM_some_length hel];simp
            have hw0:(len+rest.length)*te.bytes≤reachBytes:=by
             have:=hw ((elems.length+rest.length)*P.bytesOf e) (by simp[DataW.weights,hu])
             rw[hlen,hbe]at this;exact this
            by_cases h0:len=0
            ·subst h0
             exact one hlv rfl (.sl hte (by simp) (fun r hr=>by cases hr) (fun r hr=>by cases hr)) (.emp _ _)
            ·have row:∀ i,i<len→∃ cl:List C,aK8 E te.leaves cl∧∀ j,j<te.leaves.length→∃ v,W.cell? ((a.add (i*te.leaves.length)).add j)=some v∧∀ x,cl[j]? =some x→Rep W (aVd W) v x:=by
              intro i hi
              have hg:=mapM_some_get hel i i (by simp[hi])
              rw[hce]at hg
              cases hc:W.cells? 0 (a.add (i*te.leaves.length)) te.leaves.length with
              |none=>rw[hc]at hg;have:=(List.getElem?_eq_none_iff.1 hg.symm);omega
              |some ec =>
               rw[hc]at hg
               simp only[Option.bind_some]at hg
               obtain⟨c1,c2⟩:=bSw hc
               have hei:elems[i]? =some elems[i]:=List.getElem?_eq_getElem (by omega)
               rw[hei]at hg
               have hmem:elems[i].1∈elems.map (·.1):=List.mem_map.2 ⟨_,List.getElem_mem _,rfl⟩
               obtain⟨cl,f1,f2,f3⟩:=ih n e te ec elems[i].1 elems[i].2 hpe hte hg fun m hm=>hw m (by
                simp only[DataW.weights,hu,List.mem_cons,List.mem_append]
                exact .inr (.inl (aNm hmem m hm)))
               refine⟨cl,f1,fun j hj=>⟨ec[j]'(by omega),?_,fun x hx=>f3 j _ x (List.getElem?_eq_getElem (by omega)) hx⟩⟩
               rw[←c2 j hj]
               exact List.getElem?_eq_getElem (by omega)
             have hspot:a.spot=none:=by
              obtain⟨cl,_,h2⟩:=row 0 (by omega)
              obtain⟨v,hv,_⟩:=h2 0 hpos
              simp only[Nat.zero_mul]at hv
              have e1:(a.add 0).add 0=a:=by simp[Addr.add]
              rw[e1]at hv
              unfold World.cell? at hv
              split at hv
              ·split at hv
               ·cases hv
               ·rename_i h;simpa using h
              ·cases hv
             obtain⟨b,o,sp⟩:=a
             simp only at hspot
             subst hspot
             obtain⟨rows,r1,r2⟩:=aZq len row
             have hblt:b<W.heap.size:=by
              obtain⟨cl,_,h2⟩:=row 0 (by omega)
              obtain⟨v,hv,_⟩:=h2 0 hpos
              exact World.block_lt_of_cell? W _ (by simpa[Addr.add]using hv)
             refine one hlv rfl (.sl hte ?_ (fun r hr=>?_) (fun r hr j kd x hk hx=>?_)) (.sl b o len cap te.leaves.length rows (fun k=>(W.cell? ⟨b,o+k,none⟩).getD undef) r1.symm hcond.2.1 hblt hblt (fun r hr=>?_) (fun j hj=>?_) (fun i r j x hi hj=>?_))
             ·rw[r1];exact Nat.le_trans (Nat.mul_le_mul_right _ (by omega)) hw0
             ·obtain⟨i,hi⟩:=List.getElem?_of_mem hr
              exact (r2 i r hi).1.1
             ·obtain⟨i,hi⟩:=List.getElem?_of_mem hr
              exact (r2 i r hi).1.2 j kd x hk hx
             ·obtain⟨i,hi⟩:=List.getElem?_of_mem hr
              exact (r2 i r hi).1.1
             ·have hi:j / te.leaves.length<len:=by rw[Nat.div_lt_iff_lt_mul hpos];exact hj
              obtain⟨cl,_,h2⟩:=row _ hi
              obtain⟨v,hv,_⟩:=h2 (j % te.leaves.length) (Nat.mod_lt _ hpos)
              rw[add_lit,add_lit,Nat.add_assoc,Nat.mul_comm,Nat.div_add_mod]at hv
              rw[hv];rfl
             ·have hil:=(List.getElem?_eq_some_iff.1 hi).1
              obtain⟨q1,q2⟩:=r2 i r hi
              have hjl:=(List.getElem?_eq_some_iff.1 hj).1
              obtain⟨v,hv,hr⟩:=q2 j (by rw[←q1.1];exact hjl)
              rw[add_lit,add_lit,Nat.add_assoc]at hv
              rw[hv]
              exact hr x hj
         ·cases ht
       |_=>simp[DataW.trod,hu]at ht
    |_=>simp at hp
   |true =>
    obtain⟨fs,hu,_,hfs⟩:=hT.agg hag
    rw[hag]at hp
    simp only[Bool.and_eq_true,decide_eq_true_eq]at hp
    obtain⟨hlay,hall⟩:=hp
    obtain⟨hct,_⟩:=bJl hE hti
    simp only[DataW.trod,hu]at ht
    split at ht
    ·rename_i hlen
     cases hxs:fs.toList.mapM (fun f=>DataW.trod enc P W 0 (fun _=>true) true fuel f.type ((cs.drop f.offset).take (P.cellsOf f.type)))with
     |none=>rw[hxs]at ht;simp at ht
     |some xs =>
      rw[hxs]at ht
      simp only[Option.map_some,Option.some.injEq,Prod.mk.injEq]at ht
      obtain⟨rfl,rfl⟩:=ht
      have hcnt:=hC.cnt t ti fs hti hag hu
      -- field by field
      have go:∀ (fds:List Field) (fields:List (Nat×TypeId)) (k:Nat) (ks:List K) (xs:List (DataW H×List MemPlace)),fds.length=fields.length→(∀ (i o:Nat) (ft:TypeId),fields[i]? =some (o,ft)→∃ fd,fds[i]? =some fd∧fd.offset=o∧fd.type=ft) →
        bFf E fields k=some ks→(∀ p,p∈fields→aNt E n p.2=true)→fds.mapM (fun f=>DataW.trod enc P W 0 (fun _=>true) true fuel f.type ((cs.drop f.offset).take (P.cellsOf f.type)))=some xs →
        (∀ m,m∈DataW.weightsEach P (fds.map (·.type)) (xs.map (·.1))→m≤reachBytes)→∃ cl:List C,aK8 E ks cl∧∀ (j:Nat) (v:Value) (x:C),cs[k+j]? =some v→cl[j]? =some x→Rep W (aVd W) v x:=by
       intro fds
       induction fds with
       |nil =>
        intro fields k ks xs hl _ hlay _ _ _
        have:fields=[]:=List.length_eq_zero_iff.1 hl.symm
        subst this
        simp only[bFf,Option.some.injEq]at hlay
        subst hlay
        exact⟨[],⟨rfl,fun j kd x hk=>by simp at hk⟩,fun j v x _ hx=>by simp at hx⟩
       |cons fd fds ihf =>
        intro fields k ks xs hl hal hlay hpl hm hwt
        cases fields with
        |nil=>simp at hl
        |cons p fields =>
         obtain⟨o,ft⟩:=p
         obtain⟨fd',h1,h2,h3⟩:=hal 0 o ft rfl
         simp only[List.getElem?_cons_zero,Option.some.injEq]at h1
         subst h1
         simp only[bFf]at hlay
         split at hlay
         ·rename_i hok
          subst hok
          split at hlay
          ·rename_i tf htf
           split at hlay
           ·rename_i ks' hks
            obtain rfl:=Option.some.inj hlay
            simp only[List.mapM_cons,Option.pure_def,Option.bind_eq_bind]at hm
            obtain⟨hcf,_⟩:=bJl hE htf
            cases hx:DataW.trod enc P W 0 (fun _=>true) true fuel fd.type ((cs.drop fd.offset).take (P.cellsOf fd.type))with
            |none=>rw[hx]at hm;simp at hm
            |some y =>
             rw[hx]at hm
             simp only[Option.bind_some]at hm
             cases hr:fds.mapM (fun f=>DataW.trod enc P W 0 (fun _=>true) true fuel f.type ((cs.drop f.offset).take (P.cellsOf f.type)))with
             |none=>rw[hr]at hm;simp at hm
             |some ys =>
              rw[hr]at hm
              obtain rfl:=Option.some.inj hm
              simp only[List.map_cons,DataW.weightsEach,List.mem_append]at hwt
              rw[h3]at hx
              obtain⟨cl1,a1,a2,a3⟩:=ih n ft tf _ y.1 y.2 (hpl _ List.mem_cons_self) htf hx fun m hm=>hwt m (.inl (by rw[h3];exact hm))
              obtain⟨cl2,b1,b2⟩:=ihf fields (o+tf.leaves.length) ks' ys (by simpa using hl) (fun i o' ft' hi=>by
               obtain⟨fd2,q1,q2⟩:=hal (i+1) o' ft' (by simpa using hi)
               exact⟨fd2,by simpa using q1,q2⟩) hks (fun p hp=>hpl p (List.mem_cons_of_mem _ hp)) hr fun m hm=>hwt m (.inr hm)
              refine⟨cl1++cl2,⟨by simp[a1.1,b1.1],fun j kd x hk hx=>?_⟩,fun j v x hv hx=>?_⟩
              ·by_cases hj:j<tf.leaves.length
               ·rw[List.getElem?_append_left hj]at hk
                rw[List.getElem?_append_left (by rw[a1.1];exact hj)]at hx
                exact a1.2 j kd x hk hx
               ·rw[List.getElem?_append_right (by omega)]at hk
                rw[List.getElem?_append_right (by rw[a1.1];omega),a1.1]at hx
                exact b1.2 _ kd x hk hx
              ·by_cases hj:j<tf.leaves.length
               ·rw[List.getElem?_append_left (by rw[a1.1];exact hj)]at hx
                refine a3 j v x ?_ hx
                rw[h2,hcf,List.getElem?_take_of_lt hj,List.getElem?_drop]
                exact hv
               ·rw[List.getElem?_append_right (by rw[a1.1];omega),a1.1]at hx
                refine b2 (j-tf.leaves.length) v x ?_ hx
                rw[Nat.add_assoc,show tf.leaves.length+(j-tf.leaves.length)=j by omega]
                exact hv
           ·cases hlay
          ·cases hlay
         ·cases hlay
      obtain⟨cl,g1,g2⟩:=go fs.toList ti.fields 0 ti.leaves xs (by simpa using hcnt) (fun i o ft hi=>by
       obtain⟨fd,q1,q2,q3⟩:=hfs i o ft hi
       exact⟨fd,by simpa using q1,q2,q3⟩) hlay (fun p hp=>List.all_eq_true.1 hall p hp) hxs (fun m hm=>hw m (by simp only[DataW.weights,hu];exact hm))
      exact⟨cl,g1,by rw[hlen,hct,g1.1],fun j v x hv hx=>g2 j v x (by simpa using hv) hx⟩
    ·cases ht
end
section
variable {P:Program} {E:Env} {W:World} {H:Type} {enc:TypeId×Value→H}
def bIo (E:Env) (t:TypeId):PTy:=match E.Ty t with | some ti=>.val ti.agg ti.leaves | none=>.val false []
theorem bZc (hE:aFu P E) (hC:bW8 P E) {n:Nat} {t:TypeId} {ti:TI} {v:Value} {d:DataW H} {ps:List MemPlace} {b0:Nat} (hp:aNt E n t=true) (hti:E.Ty t=some ti) (hval:Value.okWide P W .any b0 t v)
  (ht:DataW.Trod enc P W 0 (fun _=>true) true t v d ps) (hw:∀ m,m∈d.weights P t→m≤reachBytes):∃ cl:List C,aK8 E ti.leaves cl∧cCc W (aVd W) ti.agg v cl:=by
 obtain⟨fuel,hf⟩:=ht
 obtain⟨cl,h1,h2,h3⟩:=bTr hE hC fuel n t ti _ d ps hp hti hf hw
 refine⟨cl,h1,?_⟩
 have hT:=hE.ty t ti hti
 cases hag:ti.agg with
 |true =>
  obtain⟨fs,hu,_⟩:=hT.agg hag
  simp only[Value.okWide,hu]at hval
  obtain⟨cs,rfl,_⟩:=hval
  have h2':cs.size=cl.length:=by simpa[Value.cells]using h2
  refine⟨cs,rfl,h2',fun j x hx=>?_⟩
  have hlt:j<cs.size:=by rw[h2'];exact (List.getElem?_eq_some_iff.1 hx).1
  exact⟨cs[j],Array.getElem?_eq_getElem hlt,h3 j _ x (by simp[Value.cells,hlt]) hx⟩
 |false =>
  obtain⟨kd,dsc,hlv,hu,hk⟩:=hT.leaf hag
  have hc:v.cells=#[v]:=by
   cases v with
   |agg cs =>
    exfalso
    cases kd<;>simp only[aBw]at hk
    ·subst hk;simp[Value.okWide,Cell.okWide,Cell.ok,hu]at hval
    ·subst hk;simp[Value.okWide,Cell.okWide,Cell.ok,hu]at hval
    ·subst hk;simp[Value.okWide,Cell.okWide,Cell.ok,hu]at hval
    ·subst hk;simp[Value.okWide,Cell.okWide,Cell.ok,hu]at hval
    ·obtain⟨e,rfl⟩:=hk;simp[Value.okWide,Cell.okWide,Cell.ok,hu]at hval
    ·obtain⟨a,b,c,rfl⟩:=hk;simp[Value.okWide,Cell.okWide,Cell.ok,hu]at hval
    ·obtain⟨ms,rfl⟩:=hk;simp[Value.okWide,Cell.okWide,Cell.ok,hu]at hval
   |_=>rfl
  have hl1:cl.length=1:=by rw[h1.1,hlv];rfl
  match cl,hl1 with
  |[x],_=>exact⟨x,rfl,h3 0 v x (by rw[hc];rfl) rfl⟩
theorem bH1 (hE:aFu P E) (hC:bW8 P E) {n:Nat}:∀ {ts:List TypeId} {vs:List Value} {ds:List (DataW H)} {ps:List MemPlace} {b0:Nat},(ts.all fun t=>aNt E n t)=true→(∀ (j:Nat) t v,ts[j]? =some t→vs[j]? =some v→Value.okWide P W .any b0 t v) →
  DataW.TrodAll enc P W 0 (fun _=>true) true ts vs ds ps→(∀ m,m∈DataW.weightsEach P ts ds→m≤reachBytes) →
  ∃ cs,aJ2 P W (aVd W) (ts.map (bIo E)) vs cs []∧aK8 E (aEb (ts.map (bIo E))) cs
 |[],vs,ds,ps,b0,_,_,ht,_=>by
  cases vs<;>cases ds<;>simp[DataW.TrodAll]at ht
  exact⟨[],.nil,rfl,fun j kd x hk=>by simp[aEb]at hk⟩
 |t::ts,vs,ds,ps,b0,hp,hval,ht,hw=>by
  obtain⟨v,vs',d,ds',p,q,rfl,rfl,rfl,h1,h2⟩:=ChangeShapes.trodAll_cons ht
  simp only[List.all_cons,Bool.and_eq_true]at hp
  cases hti:E.Ty t with
  |none=>exfalso;have:=hp.1;cases n<;>simp[aNt,hti]at this
  |some ti =>
   simp only[DataW.weightsEach,List.mem_append]at hw
   obtain⟨cl,f1,f2⟩:=bZc hE hC hp.1 hti (hval 0 t v rfl rfl) h1 fun m hm=>hw m (.inl hm)
   obtain⟨cs,g1,g2⟩:=bH1 hE hC hp.2 (fun j t v ht hv=>hval (j+1) t v (by simpa using ht) (by simpa using hv)) h2 fun m hm=>hw m (.inr hm)
   refine⟨cl++cs,?_,?_⟩
   ·simp only[List.map_cons,bIo,hti]
    exact .val f1.1 f2 g1
   ·simp only[List.map_cons,bIo,hti,aEb]
    refine⟨by simp[f1.1,g2.1],fun j kd x hk hx=>?_⟩
    by_cases hj:j<ti.leaves.length
    ·rw[List.getElem?_append_left hj]at hk
     rw[List.getElem?_append_left (by rw[f1.1];exact hj)]at hx
     exact f1.2 j kd x hk hx
    ·rw[List.getElem?_append_right (by omega)]at hk
     rw[List.getElem?_append_right (by rw[f1.1];omega),f1.1]at hx
     exact g2.2 _ kd x hk hx
theorem aSs {W W':World} (hs:∀ b,b<W.heap.size→W'.heap[b]? =W.heap[b]?) (ho:W'.os=W.os) (hu:W'.output=W.output) (may:MemPlace→Prop):W.keptBut W' may:=by
 refine⟨ho,hu,fun i hi=>?_⟩
 rw[hs i hi]
 have:W.heap[i]? =some W.heap[i]:=Array.getElem?_eq_getElem hi
 rw[this]
 split<;>rename_i h1 h2
 ·simp only[Option.some.injEq]at h1 h2
  rw[h1]at h2
  simp only[Obj.cells.injEq]at h2
  obtain⟨rfl,rfl,rfl⟩:=h2
  exact⟨rfl,rfl,rfl,fun _ _=>rfl⟩
 ·simp only[Option.some.injEq]at h1 h2
  rw[h1]at h2
  simp only[Obj.map.injEq]at h2
  obtain⟨rfl,rfl⟩:=h2
  exact .inr ⟨rfl,rfl⟩
 ·rfl
theorem aP0 (hl:laidOutB P=true) {W':World} (hs:∀ b,b<W.heap.size→W'.heap[b]? =W.heap[b]?) (hsz:W.heap.size≤W'.heap.size):∀ {ts:List TypeId} {vs:List Value} {ds:List (DataW H)} {ps:List MemPlace},
  (ts.all fun t=>P.readableRec t&&decide (t<P.types.size))=true→DataW.TrodAll enc P W 0 (fun _=>true) true ts vs ds ps→(∀ x,x∈ps→x.block<W.heap.size)→DataW.TrodAll enc P W' 0 (fun b=>decide (b<W.heap.size)) true ts vs ds ps
 |[],vs,ds,ps,_,h,_=>by
  cases vs<;>cases ds<;>simp[DataW.TrodAll]at h ⊢
  exact h
 |t::ts,vs,ds,ps,hr,h,hlt=>by
  obtain⟨v,vs',d,ds',p,q,rfl,rfl,rfl,h1,h2⟩:=ChangeShapes.trodAll_cons h
  simp only[List.all_cons,Bool.and_eq_true,decide_eq_true_eq]at hr
  have hb:RowKit.Below W.heap.size W {W with heap:=W'.heap}:=⟨rfl,rfl,rfl,hsz,hs⟩
  have h1':=RowKit.Below.trod hl hr.1.1 hr.1.2 h1 hb fun x hx=>hlt x (List.mem_append_left _ hx)
  have h1'':=DataW.Trod.of_heap (w':=W') (by rfl) h1'
  exact⟨p,q,h1'',aP0 hl hs hsz hr.2 h2 (fun x hx=>hlt x (List.mem_append_right _ hx)),rfl⟩
theorem aRy {E : Env} (hE : aA8 P E) (hC : bW8 P E) {f : FuncId} {fn : Func} {body : Code} {spec : Spec} {n : Nat} {s : ChangeSpec} {apart fresh handsOn : Bool} (hf : P.funcs[f]? = some fn) (hbody : fn.body = some body) (hname : (fn.name == "runtime.NumGoroutine") = false)
  (hS:aAs P f ⟨fn.params.toList.map (bIo E),[⟨false,[(.bool,false)]⟩],false⟩ spec) (hplain:(fn.params.toList.all fun t=>aNt E n t)=true) (hl:laidOutB P=true)
  (hread:(fn.params.toList.all fun t=>P.readableRec t&&decide (t<P.types.size))=true) (hvars:s.vars=[]) {bt:TypeId} (hres:fn.resultTypes=#[bt]) (hbt:P.underlying bt=some .bool)
  (hfn:∀ (H:Type) (ds:List (DataW H)),ds.length=fn.params.size→s.fn H ds={results:=[.lit (.bool true)],args:=ds}) (hspec:∀ cs,aK8 E (aEb (fn.params.toList.map (bIo E))) cs→spec cs=some (true,[.bool true]))
  {W:World} {base:Nat} {args:Array Value} {ds gs:List (DataW H)} {before:List MemPlace} (hval:∀ (j:Nat) t v,fn.params[j]? =some t→args[j]? =some v→Value.okWide P W .any base t v)
  (hW:DataW.Whole enc P fn.params.toList s.vars apart W args.toList ds gs before) (hsz:(DataW.weightsEach P (fn.params.toList++s.plain.varTypes P) (ds++gs)).all (· ≤reachBytes)=true) (hG:aS9 P W (aVd W)) :
  Calls P f args W fun e W'=>∃ v,e=.returned v∧s.post enc P fn apart fresh handsOn false W args v W':=by
 have hW':=hW
 obtain⟨p,q,hA,hV,rfl,hfz,hnd⟩:=hW
 rw[hvars]at hV
 obtain⟨rfl,rfl⟩:=ChangeShapes.trodVars_none hV
 have hlens:args.toList.length=fn.params.toList.length∧ds.length=fn.params.toList.length:=by
  have:∀ {ts:List TypeId} {vs:List Value} {ds:List (DataW H)} {ps:List MemPlace},DataW.TrodAll enc P W 0 (fun _=>true) true ts vs ds ps→vs.length=ts.length∧ds.length=ts.length:=by
   intro ts
   induction ts with
   |nil=>intro vs ds ps h;cases vs<;>cases ds<;>simp[DataW.TrodAll]at h;exact⟨rfl,rfl⟩
   |cons t ts ih =>
    intro vs ds ps h
    obtain⟨v,vs',d,ds',p,q,rfl,rfl,rfl,h1,h2⟩:=ChangeShapes.trodAll_cons h
    have:=ih h2
    exact⟨by simp[this.1],by simp[this.2]⟩
  exact this hA
 have hweights:∀ m,m∈DataW.weightsEach P fn.params.toList ds→m≤reachBytes:=by
  have key:∀ (ts us:List TypeId) (ds:List (DataW H)),ds.length=ts.length→∀ m,m∈DataW.weightsEach P ts ds→m∈DataW.weightsEach P (ts++us) (ds++[]):=by
   intro ts us
   induction ts with
   |nil=>intro ds hd m hm;cases ds<;>simp[DataW.weightsEach]at hm
   |cons t ts ih =>
    intro ds hd m hm
    cases ds with
    |nil=>simp at hd
    |cons d ds =>
     simp only[List.cons_append,DataW.weightsEach,List.mem_append]at hm ⊢
     rcases hm with hm | hm
     ·exact .inl hm
     ·exact .inr (ih ds (by simpa using hd) m hm)
  intro m hm
  have:=List.all_eq_true.1 hsz m (key _ _ _ hlens.2 m hm)
  simpa using this
 obtain⟨cs,hargs,hfit⟩:=bH1 hE.ok hC hplain (fun j t v ht hv=>hval j t v (by simpa using ht) (by simpa using hv)) hA hweights
 have hgo:=hS W (aVd W) [] args.toList cs [.bool true] (fun b hb=>⟨hb,by simp⟩) hG (fun i j b hb=>by simp at hb) hargs hfit.kinds (hspec cs hfit)
 have hnm : ¬ fn.name = "runtime.NumGoroutine" := by simpa using hname
 have hcalls:Calls P f args W fun e W'=>∃ v,e=.returned v∧bTj P W (aVd W) [] ⟨fn.params.toList.map (bIo E),[⟨false,[(.bool,false)]⟩],false⟩ [.bool true] v W':=by
  rcases hgo with⟨_,h⟩ | ⟨v,w',h,_⟩
  ·simpa using h
  ·exfalso
   simp[callFunc,hf,hnm,hbody]at h
 refine hcalls.mono fun e W' ⟨v,he,ha⟩=>⟨v,he,?_⟩
 obtain⟨⟨vs,bs,cs1,cs2,okN,_,rfl,hcs,hrets,hboxes,_,_⟩,hsize,hframe,hos,hout⟩:=ha
 -- the result
 have hret:vs=[.bool true]:=by
  cases hrets with
  |agg h=>simp at h
  |one _ hlv hr =>
   cases hr
   cases hlv with
   |data hrep hlv =>
    cases hlv
    simp only[List.cons_append,List.nil_append,List.cons.injEq]at hcs
    obtain⟨rfl,_⟩:=hcs
    cases hrep
    rfl
 subst hret
 have hfr:∀ b,b<W.heap.size→W'.heap[b]? =W.heap[b]? :=fun b hb=>hframe b hb (by simp)
 have hsfn:=hfn H (ds++[]) (by simpa using hlens.2)
 refine⟨ds,[],p++[],[],p,[],hW',?_,?_,?_,aSs hfr hos hout _,fun h=>by cases h⟩
 ·rw[hsfn,hres]
  exact ChangeShapes.trodAll_mk1 (RowKit.shut_bool hbt true)
 ·rw[hsfn,List.append_nil]
  exact aP0 hl hfr hsize hread hA fun x hx=>hW'.lt x (by simpa using hx)
 ·rw[hvars,hsfn]
  rfl
end
def bPh:Value→K→Bool
 |.int k n,.int k'=>decide (k=k')&&decide (n=0)
 |.bool t,.bool=> !t
 |.string s,.str=>decide (s.size=0)
 |.slice none 0 0,.slice _=>true
 |.pointer none,.ptr=>true
 |.nilFunc,.func=>true
 |.nilIface,.other=>true
 |.nilIface,.err=>true
 |_,_=>false
theorem bPg {v:Value} {kd:K} (h:bPh v kd=true):v=aJ3 kd:=by
 unfold bPh at h
 split at h
 ·simp only[Bool.and_eq_true,decide_eq_true_eq]at h
  obtain⟨rfl,rfl⟩:=h
  rfl
 ·rename_i t
  cases t
  ·rfl
  ·cases h
 ·rename_i s
  have h0:s.size=0:=by simpa using h
  have:s=⟨#[]⟩:=by
   cases s with
   |mk d =>
    have:d.size=0:=h0
    have:d=#[]:=Array.eq_empty_of_size_eq_zero this
    rw[this]
  rw[this];rfl
 ·rfl
 ·rfl
 ·rfl
 ·rfl
 ·rfl
 ·cases h
def aOu:List Value→List K→Bool
 |[],[]=>true
 |v::vs,k::ks=>bPh v k&&aOu vs ks
 |_,_=>false
theorem aO3:∀ {vs:List Value} {ks:List K},aOu vs ks=true→vs=ks.map aJ3
 |[],[],_=>rfl
 |[],_::_,h=>by cases h
 |_::_,[],h=>by cases h
 |v::vs,k::ks,h=>by
  simp only[aOu,Bool.and_eq_true]at h
  simp only[List.map_cons]
  rw[bPg h.1,aO3 h.2]
def bA5:K→TypeDesc→Bool
 |.int k,.int k'=>decide (k=k')
 |.bool,.bool=>true
 |.str,.string=>true
 |.slice e,.slice e'=>decide (e=e')
 |.ptr,.pointer _=>true
 |.func,.func .. =>true
 |.err,.interface _=>true
 |_,_=>false
theorem aYn {kd:K} {d:TypeDesc} (h:bA5 kd d=true):aBw kd d:=by
 unfold bA5 at h
 split at h
 ·have:_=_:=of_decide_eq_true h
  subst this;rfl
 ·rfl
 ·rfl
 ·have:_=_:=of_decide_eq_true h
  subst this;rfl
 ·exact⟨_,rfl⟩
 ·exact⟨_,_,_,rfl⟩
 ·exact⟨_,rfl⟩
 ·cases h
def aPx:List Field→List (Nat×TypeId)→Bool
 |[],[]=>true
 |f::fs,(o,t)::r=>decide (f.offset=o)&&decide (f.type=t)&&aPx fs r
 |_,_=>false
theorem aLd:∀ {fs:List Field} {fields:List (Nat×TypeId)},aPx fs fields=true→fs.length=fields.length∧∀ (i o:Nat) (ft:TypeId),fields[i]? =some (o,ft)→∃ fd,fs[i]? =some fd∧fd.offset=o∧fd.type=ft
 |[],[],_=>⟨rfl,fun i o ft h=>by simp at h⟩
 |[],_::_,h=>by cases h
 |_::_,[],h=>by cases h
 |f::fs,(o,t)::r,h=>by
  simp only[aPx,Bool.and_eq_true,decide_eq_true_eq]at h
  obtain⟨h1,h2⟩:=aLd h.2
  refine⟨by simp[h1],fun i o' ft hi=>?_⟩
  cases i with
  |zero =>
   simp only[List.getElem?_cons_zero,Option.some.injEq,Prod.mk.injEq]at hi
   exact⟨f,rfl,hi.1▸h.1.1,hi.2▸h.1.2⟩
  |succ i=>simpa using h2 i o' ft (by simpa using hi)
def aJm (P:Program):List Field→List K→Nat→Bool
 |[],[],_=>true
 | f :: fs, k :: ks, j => decide (f.name ≠ "_") && decide (f.offset = j) && (match P.underlying f.type with | some d => bA5 k d | none => false) && aJm P fs ks (j + 1)
 |_,_,_=>false
theorem aO0 {P : Program} : ∀ {fs : List Field} {ks : List K} {n : Nat}, aJm P fs ks n = true → fs.length = ks.length ∧ ∀ (j : Nat) (fd : Field), fs[j]? = some fd → fd.name ≠ "_" ∧ fd.offset = n + j ∧ ∃ kd d, ks[j]? = some kd ∧ P.underlying fd.type = some d ∧ aBw kd d
 |[],[],_,_=>⟨rfl,fun j fd h=>by simp at h⟩
 |[],_::_,_,h=>by cases h
 |_::_,[],_,h=>by cases h
 |f::fs,k::ks,n,h=>by
  simp only[aJm,Bool.and_eq_true,decide_eq_true_eq]at h
  obtain⟨⟨⟨h1,h2⟩,h3⟩,h4⟩:=h
  obtain⟨g1,g2⟩:=aO0 h4
  refine⟨by simp[g1],fun j fd hj=>?_⟩
  cases j with
  |zero =>
   simp only[List.getElem?_cons_zero,Option.some.injEq]at hj
   subst hj
   split at h3
   ·rename_i d hd
    exact⟨h1,by omega,k,d,rfl,hd,aYn h3⟩
   ·cases h3
  |succ j =>
   obtain⟨q1,q2,q3⟩:=g2 j fd (by simpa using hj)
   exact⟨q1,by omega,by simpa using q3⟩
def tyB (P:Program) (t:TypeId) (ti:TI):Bool :=
 (match P.info? t with
  |some i=>decide (i.size=ti.leaves.length)&&decide (i.bytes=ti.bytes)&&(match i.zero with | some z=>aOu z.cells.toList ti.leaves | none=>false)
  |none=>false) &&
 (match ti.agg with
  |true=>(match P.underlying t with
   |some (.struct fs)=>(fs.toList.mapM fun f=>(P.info? f.type).map fun i=>(f.offset,i.size)).isSome&&aPx fs.toList ti.fields
   |_=>false)
  |false=>(match ti.leaves,P.underlying t with
   |[kd],some d=>bA5 kd d&&(match kd,P.info? t with | .int _,some i=>i.comparable | .int _,none=>false | _,_=>true)
   |_,_=>false)) &&
 (!ti.eq||(!P.stoodInHeld t&& !P.eqGuardType P.depth t&&(match P.underlying t with
  |some (.struct fs)=>aJm P fs.toList ti.leaves 0
  |_=>false)))
theorem bWa {P:Program} {t:TypeId} {ti:TI} (h:tyB P t ti=true):bM4 P t ti∧(ti.agg=true→∀ fs,P.underlying t=some (.struct fs)→fs.size=ti.fields.length):=by
 simp only[tyB,Bool.and_eq_true]at h
 obtain⟨⟨h1,h2⟩,h3⟩:=h
 refine⟨⟨?_,fun hag=>?_,fun hag kd hkd=>?_,fun hag=>?_,fun heq=>?_⟩,fun hag fs hu=>?_⟩
 ·split at h1
  ·rename_i i hi
   simp only[Bool.and_eq_true,decide_eq_true_eq]at h1
   obtain⟨⟨q1,q2⟩,q3⟩:=h1
   split at q3
   ·rename_i z hz
    exact⟨i,z,hi,q1,q2,hz,aO3 q3⟩
   ·cases q3
  ·cases h1
 ·rw[hag]at h2
  simp only at h2
  split at h2
  ·rename_i fs hu
   simp only[Bool.and_eq_true]at h2
   obtain⟨places,hp⟩:=Option.isSome_iff_exists.1 h2.1
   exact⟨fs,hu,⟨places,hp⟩,fun f o ft hf=>by
    obtain⟨fd,z1,z2⟩:=(aLd h2.2).2 f o ft hf
    exact⟨fd,by simpa using z1,z2⟩⟩
  ·cases h2
 ·rw[hag]at h2
  simp only at h2
  split at h2
  ·rename_i kd' d hl hu
   rw[hkd]at hl
   obtain rfl:K.int kd=kd':=by simpa using hl
   simp only[Bool.and_eq_true]at h2
   obtain⟨_,h2⟩:=h2
   split at h2
   ·rename_i i _ hi
    exact⟨i,hi,h2⟩
   ·cases h2
   ·rename_i hn hn'
    cases hi:P.info? t with
    |none=>exact (hn' kd rfl hi).elim
    |some i=>exact (hn kd i rfl hi).elim
  ·cases h2
 ·rw[hag]at h2
  simp only at h2
  split at h2
  ·rename_i kd d hl hu
   simp only[Bool.and_eq_true]at h2
   exact⟨kd,d,hl,hu,aYn h2.1⟩
  ·cases h2
 ·rw[heq]at h3
  simp only[Bool.not_true,Bool.false_or,Bool.and_eq_true,Bool.not_eq_true']at h3
  obtain⟨⟨q1,q2⟩,q3⟩:=h3
  refine⟨q1,q2,?_⟩
  split at q3
  ·rename_i fs hu
   obtain⟨z1,z2⟩:=aO0 q3
   exact⟨fs,hu,by simpa using z1,fun j fd hj=>by
    obtain⟨y1,y2,y3⟩:=z2 j fd (by simpa using hj)
    exact⟨y1,by omega,y3⟩⟩
  ·cases q3
 ·rw[hag]at h2
  simp only at h2
  rw[hu]at h2
  simp only[Bool.and_eq_true]at h2
  simpa using (aLd h2.2).1
theorem aFo {α:Type} {t:TypeId} {x:α}:∀ {l:List (TypeId×α)},l.lookup t=some x→(t,x)∈l
 |[],h=>by cases h
 |(k,y)::l,h=>by
  by_cases hk:t=k
  ·subst hk
   simp[List.lookup]at h
   subst h
   exact List.mem_cons_self
  ·have hf:(t==k)=false:=by simpa using hk
   simp only[List.lookup,hf]at h
   exact List.mem_cons_of_mem _ (aFo h)
theorem bL2 {P:Program} {l:List (TypeId×TI)} (h:(l.all fun p=>tyB P p.1 p.2)=true):(∀ t ti,bZo l t=some ti→bM4 P t ti)∧∀ t ti fs,bZo l t=some ti→ti.agg=true→P.underlying t=some (.struct fs)→fs.size=ti.fields.length :=
 ⟨fun t ti ht=>(bWa (List.all_eq_true.1 h _ (aFo ht))).1,fun t ti fs ht hag hu=>(bWa (List.all_eq_true.1 h _ (aFo ht))).2 hag fs hu⟩
def cC3 (P:Program) (t:TypeId) (m:Nat) (e:TypeId) (te:TI):Bool :=
 (match P.underlying t with | some (.array m' e')=>m'==m&&e'==e | _=>false) &&
 (match P.info? t with | some i=>(match i.zero with | some z=>aOu z.cells.toList (List.replicate m te.leaves).flatten | none=>false) | none=>false)
theorem bZb {P:Program} {t:TypeId} {m:Nat} {e:TypeId} {te:TI} (h:cC3 P t m e te=true):bZh P t m e te:=by
 simp only[cC3,Bool.and_eq_true]at h
 obtain⟨h1,h2⟩:=h
 refine⟨?_,?_⟩
 ·split at h1
  ·rename_i m' e' hu
   simp only[Bool.and_eq_true,beq_iff_eq]at h1
   obtain⟨rfl,rfl⟩:=h1
   exact hu
  ·cases h1
 ·split at h2
  ·rename_i i hi
   split at h2
   ·rename_i z hz
    refine⟨i,z,hi,hz,?_⟩
    rw[aO3 h2,List.map_flatten,List.map_replicate]
   ·cases h2
  ·cases h2
def bSz (P:Program) (tab:List (TypeId×TI)) (l:List (TypeId×Nat×TypeId)):Bool :=
 l.all fun p=>match bZo tab p.2.2 with | some te=>cC3 P p.1 p.2.1 p.2.2 te | none=>true
theorem bSy {P:Program} {tab:List (TypeId×TI)} {l:List (TypeId×Nat×TypeId)} (h:bSz P tab l=true):∀ t m e te,l.lookup t=some (m,e)→bZo tab e=some te→bZh P t m e te:=by
 intro t m e te h1 h2
 have:=List.all_eq_true.1 h _ (aFo h1)
 simp only[h2]at this
 exact bZb this
def cBx (l:List (Nat×String)):Nat→Option (List C):=fun g=>(l.lookup g).bind aRb
def glB (P:Program) (l:List (Nat×String)):Bool:=l.all fun p=>match P.globals[p.1]? with | some gi=>gi.name==p.2 | none=>false
theorem bWw {P:Program} {l:List (Nat×String)} (h:glB P l=true):∀ g row,cBx l g=some row→bT4 P g row:=by
 intro g row hg
 unfold cBx at hg
 cases hl:l.lookup g with
 |none=>rw[hl]at hg;cases hg
 |some nm =>
  rw[hl]at hg
  have:=List.all_eq_true.1 h _ (aFo hl)
  simp only at this
  split at this
  ·rename_i gi hgi
   have hn:gi.name=nm:=by simpa using this
   exact⟨gi,hgi,by rw[hn];exact hg⟩
  ·cases this
section
variable {α:Type} {E:Env} {I:Inl α}
theorem aZn (c:Code):aGt c []=c:=by cases c<;>rfl
theorem aCe (c:Code) (k:Exit→St→T α):aBs E I c [] k=k:=by cases c<;>rfl
inductive aFc:Code→List Pt→Code→Prop where
 |nil (c:Code):aFc c [] c
 |sl {a b:Code} {p:List Pt} {x:Code}:aFc a p x→aFc (.seq a b) (.l::p) x
 |sr {a b:Code} {p:List Pt} {x:Code}:aFc b p x→aFc (.seq a b) (.r::p) x
 |cl {o:Operand} {a b:Code} {p:List Pt} {x:Code}:aFc a p x→aFc (.cond o a b) (.l::p) x
 |cr {o:Operand} {a b:Code} {p:List Pt} {x:Code}:aFc b p x→aFc (.cond o a b) (.r::p) x
 |b {id:Nat} {b:Code} {p:List Pt} {x:Code}:aFc b p x→aFc (.block id b) (.b::p) x
 |lp {b:Code} {n:Nat} {p:List Pt} {x:Code}:aFc b p x→aFc (.loop b) (.lp n::p) x
theorem aFc.at {c x:Code} {p:List Pt} (h:aFc c p x):aGt c p=x:=by
 induction h with
 |nil c=>exact aZn c
 |sl _ ih | sr _ ih | cl _ ih | cr _ ih | b _ ih | lp _ ih=>simpa only[aGt]using ih
theorem aFc.app {c x y:Code} {p q:List Pt} (h:aFc c p x) (h2:aFc x q y):aFc c (p++q) y:=by
 induction h with
 |nil c=>exact h2
 |sl _ ih=>exact .sl (ih h2)
 |sr _ ih=>exact .sr (ih h2)
 |cl _ ih=>exact .cl (ih h2)
 |cr _ ih=>exact .cr (ih h2)
 |b _ ih=>exact .b (ih h2)
 |lp _ ih=>exact .lp (ih h2)
theorem aFc.rest {c x:Code} {p q:List Pt} (h:aFc c p x):∀ (k:Exit→St→T α),aBs E I c (p++q) k=aBs E I x q (aBs E I c p k):=by
 induction h with
 |nil c=>intro k;rw[aCe];rfl
 |sl _ ih | sr _ ih | cl _ ih | cr _ ih | b _ ih | lp _ ih=>intro k;simp only[List.cons_append,aBs,ih]
def aIg (E:Env) (I:Inl α) (c:Code) (kf:Exit→St→T α) (p:List Pt) (n:Nat) (τ:St):T α :=
 match aGt c p with
 |.loop b=>aTx (aEw E I b) (St.norm E (aF5 b)) n τ (aBs E I c p kf)
 |_=>.bad
theorem aTz {c:Code} {kf:Exit→St→T α}:∀ (a:Code) (p:List Pt) (σ:St),aFc c p a→aG5 E I (aIg E I c kf) a p σ (aBs E I c p kf)=aEw E I a σ (aBs E I c p kf):=by
 intro a
 induction a with
 |seq a b iha ihb =>
  intro p σ h
  simp only[aG5,aEw]
  have hl:aFc c (p++[.l]) a:=h.app (.sl (.nil a))
  have hr:aFc c (p++[.r]) b:=h.app (.sr (.nil b))
  have el:aBs E I c (p++[.l]) kf=aXa (fun σ'=>aEw E I b σ' (aBs E I c p kf)) (aBs E I c p kf):=by
   rw[h.rest];simp only[aBs,aCe]
  have er:aBs E I c (p++[.r]) kf=aBs E I c p kf:=by rw[h.rest];simp only[aBs,aCe]
  have e2:(fun σ'=>aG5 E I (aIg E I c kf) b (p++[.r]) σ' (aBs E I c p kf))=fun σ'=>aEw E I b σ' (aBs E I c p kf):=by
   funext σ'
   have:=ihb (p++[.r]) σ' hr
   rw[er]at this
   exact this
  rw[e2,←el]
  exact iha _ _ hl
 |cond o a b iha ihb =>
  intro p σ h
  simp only[aG5,aEw]
  have el:aBs E I c (p++[.l]) kf=aBs E I c p kf:=by rw[h.rest];simp only[aBs,aCe]
  have er:aBs E I c (p++[.r]) kf=aBs E I c p kf:=by rw[h.rest];simp only[aBs,aCe]
  split
  ·rename_i ho
   have:=iha (p++[.l]) σ (h.app (.cl (.nil a)))
   rw[el]at this
   exact this
  ·rename_i ho
   have:=ihb (p++[.r]) σ (h.app (.cr (.nil b)))
   rw[er]at this
   exact this
  ·rfl
 |block id b ih =>
  intro p σ h
  simp only[aG5,aEw]
  have e:aBs E I c (p++[.b]) kf=aWh id (aBs E I c p kf):=by rw[h.rest];simp only[aBs,aCe]
  rw[←e]
  exact ih _ _ (h.app (.b (.nil b)))
 |loop b ih =>
  intro p σ h
  simp only[aG5,aEw,aIg,h.at]
 |_=>intros;rfl
theorem bU7 {c:Code} {kf:Exit→St→T α} {a:Code}:∀ (p q:List Pt),(∃ x,aFc a p x)→aFc c q a→aKv E I (aIg E I c kf) a p q (aBs E I c q kf)=aBs E I a p (aBs E I c q kf):=by
 intro p q hp
 obtain⟨x,hp⟩:=hp
 induction hp generalizing q with
 |nil a=>intro h;rw[aCe];cases a<;>rfl
 |@sl a b p x hp ih =>
  intro h
  simp only[aKv,aBs]
  have el:aBs E I c (q++[.l]) kf=aXa (fun σ'=>aEw E I b σ' (aBs E I c q kf)) (aBs E I c q kf):=by
   rw[h.rest];simp only[aBs,aCe]
  have er:aBs E I c (q++[.r]) kf=aBs E I c q kf:=by rw[h.rest];simp only[aBs,aCe]
  have e2:(fun σ'=>aG5 E I (aIg E I c kf) b (q++[.r]) σ' (aBs E I c q kf))=fun σ'=>aEw E I b σ' (aBs E I c q kf):=by
   funext σ'
   have:=aTz (E:=E) (I:=I) (kf:=kf) b (q++[.r]) σ' (h.app (.sr (.nil b)))
   rw[er]at this
   exact this
  rw[e2,←el]
  exact ih _ (h.app (.sl (.nil a)))
 |@sr a b p x hp ih =>
  intro h
  simp only[aKv,aBs]
  have er:aBs E I c (q++[.r]) kf=aBs E I c q kf:=by rw[h.rest];simp only[aBs,aCe]
  rw[←er]
  exact ih _ (h.app (.sr (.nil b)))
 |@cl o a b p x hp ih =>
  intro h
  simp only[aKv,aBs]
  have er:aBs E I c (q++[.l]) kf=aBs E I c q kf:=by rw[h.rest];simp only[aBs,aCe]
  rw[←er]
  exact ih _ (h.app (.cl (.nil a)))
 |@cr o a b p x hp ih =>
  intro h
  simp only[aKv,aBs]
  have er:aBs E I c (q++[.r]) kf=aBs E I c q kf:=by rw[h.rest];simp only[aBs,aCe]
  rw[←er]
  exact ih _ (h.app (.cr (.nil b)))
 |@b id b p x hp ih =>
  intro h
  simp only[aKv,aBs]
  have er:aBs E I c (q++[.b]) kf=aWh id (aBs E I c q kf):=by rw[h.rest];simp only[aBs,aCe]
  rw[←er]
  exact ih _ (h.app (.b (.nil b)))
 |@lp b n p x hp ih =>
  intro h
  simp only[aKv,aBs]
  have er:aBs E I c (q++[.lp n]) kf=aXa (fun σ'=>aTx (aEw E I b) (St.norm E (aF5 b)) n (St.norm E (aF5 b) σ') (aBs E I c q kf)) (aBs E I c q kf):=by rw[h.rest];simp only[aBs,aCe]
  have e2:(fun σ'=>aIg E I c kf q n (St.norm E (aF5 b) σ'))=fun σ'=>aTx (aEw E I b) (St.norm E (aF5 b)) n (St.norm E (aF5 b) σ') (aBs E I c q kf):=by
   funext σ'
   simp only[aIg,h.at]
  rw[e2,←er]
  exact ih _ (h.app (.lp (.nil b)))
end
theorem bL0 (E:Env) (I:Inl (List C)) (sig:Sig) (fn:Func) {c:Code} (hc:fn.body=some c) :
  aBh E I sig fn=aIg {E with nt:=fn.ntmps} I c (bHl E sig fn):=by
 funext p n τ
 simp only[aBh,hc,aIg]
 cases aGt c p<;>rfl
def aU3:Code→List Pt→Bool
 |_,[]=>true
 |.seq a _,.l::p=>aU3 a p
 |.seq _ b,.r::p=>aU3 b p
 |.cond _ a _,.l::p=>aU3 a p
 |.cond _ _ b,.r::p=>aU3 b p
 |.block _ b,.b::p=>aU3 b p
 |.loop b,.lp _::p=>aU3 b p
 |_,_=>false
theorem bMu:∀ (c:Code) (p:List Pt),aU3 c p=true→aFc c p (aGt c p):=by
 intro c p
 induction p generalizing c with
 |nil=>intro _;rw[aZn];exact .nil c
 |cons x p ih =>
  intro h
  cases c<;>cases x<;>first | (simp[aU3]at h;done) | skip
  ·exact .sl (ih _ h)
  ·exact .sr (ih _ h)
  ·exact .cl (ih _ h)
  ·exact .cr (ih _ h)
  ·exact .b (ih _ h)
  ·exact .lp (ih _ h)
theorem aAb (E:Env) (I:Inl (List C)) (sig:Sig) (fn:Func) (cs:List C):bTp E I sig fn cs=aAi E I sig fn (aBh E I sig fn) cs:=by
 unfold bTp aAi
 split
 ·rename_i b ws σ c h1 h2
  split
  ·congr 1
   congr 1
   funext ws'
   rw[bL0 E I sig fn h2]
   have:=aTz (E:={E with nt:=fn.ntmps}) (I:=I) (kf:=bHl E sig fn) c [] {σ with slots:=(List.range ws'.length).zip ws'} (.nil c)
   rw[aCe]at this
   exact this.symm
  ·rfl
 ·rfl
theorem aAv (E:Env) (I:Inl (List C)) (sig:Sig) (fn:Func) (p:List Pt) (n:Nat) (τ:St) (h:(match fn.body with | some c=>aU3 c p | none=>false)=true) :
  aBh E I sig fn p (n+1) τ=aB7 E I sig fn (aBh E I sig fn) p n τ:=by
 cases hc:fn.body with
 |none=>rw[hc]at h;cases h
 |some c =>
  rw[hc]at h
  have hg:=bMu c p h
  have hv:aB7 E I sig fn (aBh E I sig fn) p n τ=match aGt c p with
   |.loop b=>aG5 {E with nt:=fn.ntmps} I (aBh E I sig fn) b (p++[.lp n]) τ (aKv {E with nt:=fn.ntmps} I (aBh E I sig fn) c (p++[.lp n]) [] (bHl E sig fn))
   |_=>.bad:=by
   simp only[aB7,hc]
   cases aGt c p<;>rfl
  rw[hv,bL0 E I sig fn hc]
  simp only[aIg]
  split
  ·rename_i b hb
   rw[hb]at hg
   have hg2:aFc c (p++[.lp n]) b:=hg.app (.lp (.nil b))
   have e1:=bU7 (E:={E with nt:=fn.ntmps}) (I:=I) (kf:=bHl E sig fn) (p++[.lp n]) [] ⟨b,hg2⟩ (.nil c)
   rw[aCe]at e1
   have e2:=aTz (E:={E with nt:=fn.ntmps}) (I:=I) (kf:=bHl E sig fn) b (p++[.lp n]) τ hg2
   have e4:aKv {E with nt:=fn.ntmps} I (aIg {E with nt:=fn.ntmps} I c (bHl E sig fn)) c (p++[.lp n]) [] (bHl E sig fn)=aBs {E with nt:=fn.ntmps} I c (p++[.lp n]) (bHl E sig fn):=e1
   show aTx _ _ (n+1) τ _=aG5 _ _ (aIg {E with nt:=fn.ntmps} I c (bHl E sig fn)) b _ τ (aKv _ _ (aIg {E with nt:=fn.ntmps} I c (bHl E sig fn)) c _ [] _)
   rw[e4,e2,hg.rest]
   simp only[aTx,aBs,aCe]
  ·rfl
theorem aAg {x:Int} (h1: -9223372036854775808≤x) (h2:x≤9223372036854775807):IntKind.i64.wrap x=x:=by
 simp only[IntKind.wrap,IntKind.bits,IntKind.signed,IntKind.min,IntKind.max]
 first
  |(split<;>omega)
  |(simp;omega)
  |omega
theorem aZz {x:Int} (h1:0≤x) (h2:x≤18446744073709551615):IntKind.u64.wrap x=x:=by
 simp only[IntKind.wrap,IntKind.bits,IntKind.signed,IntKind.min,IntKind.max]
 first
  |(split<;>omega)
  |(simp;omega)
  |omega
theorem aOv {x:Int} (h1:0≤x) (h2:x≤255):IntKind.u8.wrap x=x:=by
 simp only[IntKind.wrap,IntKind.bits,IntKind.signed,IntKind.min,IntKind.max]
 first
  |(split<;>omega)
  |(simp;omega)
  |omega
theorem bHo {x:Int} (h1:0≤x) (h2:x≤4294967295):IntKind.u32.wrap x=x:=by
 simp only[IntKind.wrap,IntKind.bits,IntKind.signed,IntKind.min,IntKind.max]
 first
  |(split<;>omega)
  |(simp;omega)
  |omega
theorem bDf (x:Int): -9223372036854775808≤IntKind.i64.wrap x∧IntKind.i64.wrap x≤9223372036854775807:=by
 simp only[IntKind.wrap,IntKind.bits,IntKind.signed,IntKind.min,IntKind.max]
 first
  |(split<;>omega)
  |(simp;omega)
  |omega
theorem aBk (l:List UInt8):(aAl l).length=l.length:=by simp[aAl]
theorem bLb (l:List UInt8) (j:Nat) (h:j<l.length):(aAl l).getD j []=[C.int .u8 ((l.getD j 0).toNat:Int)]:=by
 simp[aAl,List.getD_eq_getElem?_getD,h]
theorem bL9 (l:List UInt8) (j:Nat) (v:Int) (h1:0≤v) (h2:v≤255):(aAl l).set j [C.int .u8 v]=aAl (l.set j (UInt8.ofNat v.toNat)):=by
 have h3:max v 0 % 256=v:=by omega
 simp[aAl,List.map_set,h3]
theorem aNr (l m:List UInt8):aAl l++aAl m=aAl (l++m):=by simp[aAl]
theorem bLa (v:Int) (h1:0≤v) (h2:v≤255):[[C.int .u8 v]]=aAl [UInt8.ofNat v.toNat]:=by
 have:=bL9 [0] 0 v h1 h2
 simpa[aAl]using this
theorem bQi (l:List UInt8) (n:Nat):(aAl l).drop n=aAl (l.drop n):=by simp[aAl,List.map_drop]
theorem aEq (l:List UInt8):(aAl l).all aGq=true:=by
 simp[aAl,aGq,C.is]
theorem aHo (l:List UInt8):aC2 (aAl l)=l:=by
 simp[aAl,aC2,C.toInt,Function.comp_def]
noncomputable def T.ev {α:Type} (x:T α):Option α:=T.rec (motive:=fun _=>Option α) (fun a=>some a) none (fun t _ _ y n=>Bool.rec n y t) (fun t _ n=>Bool.rec none n t) x
theorem bSf {α:Type}:∀ x:T α,x.ev=x.eval
 |.ret a=>rfl
 |.bad=>rfl
 |.ask true y n=>bSf y
 |.ask false y n=>bSf n
 |.must true n=>bSf n
 |.must false n=>rfl
theorem aAh {α:Type} {x y:T α} (h:x.ev=y.ev):x.eval=y.eval:=by rw[←bSf,←bSf];exact h
def bS6 (P:Program):Bool:=(List.range P.globals.size).all fun i=>match P.globals[i]? with
 |some gi=>(aRb gi.name).isNone||decide (P.globalNamed gi.name=some i)
 |none=>true
theorem bCf {s : String} {row : List C} (h : aRb s = some row) : (s = "math/bits.deBruijn32tab" ∧ row = u8s bHw) ∨ (s = "math/bits.deBruijn64tab" ∧ row = u8s bHv) ∨ (s = "internal/strconv.uint64pow10" ∧ row = bZm aJx) ∨
  (s = "strconv.ErrSyntax" ∧ row = [.err .any]) ∨ (s = "strconv.ErrRange" ∧ row = [.err .any]) := by
 unfold aRb at h
 split at h
 ·exact .inl ⟨‹_›,(Option.some.inj h).symm⟩
 ·split at h
  ·exact .inr (.inl ⟨‹_›,(Option.some.inj h).symm⟩)
  ·split at h
   ·exact .inr (.inr (.inl ⟨‹_›,(Option.some.inj h).symm⟩))
   ·split at h
    ·exact .inr (.inr (.inr (.inl ⟨‹_›,(Option.some.inj h).symm⟩)))
    ·split at h
     ·exact .inr (.inr (.inr (.inr ⟨‹_›,(Option.some.inj h).symm⟩)))
     ·cases h
def bD7 (P:Program) (W:World) (nm:String):Prop:=∀ g,P.globalNamed nm=some g→∃ t x,W.cell? ⟨g,0,none⟩=some (.iface t x)
theorem bD7.none {P:Program} {W:World} {nm:String} (h:(P.globalNamed nm).isNone=true):bD7 P W nm:=fun g hg=>by rw[hg]at h;cases h
theorem bG8 {P : Program} {W : World} (hU : bS6 P = true) (h1 : Lib.TabIs P W "math/bits.deBruijn32tab" .u8 bHw) (h2 : Lib.TabIs P W "math/bits.deBruijn64tab" .u8 bHv) (h3 : Lib.TabIs P W "internal/strconv.uint64pow10" .u64 aJx) (h4 : bD7 P W "strconv.ErrSyntax") (h5 : bD7 P W "strconv.ErrRange") :
  aS9 P W (fun b=>b<W.heap.size):=by
 have key:∀ (nm:String) (k:IntKind) (zs:List Int) (g:Nat),0<zs.length→P.globalNamed nm=some g→Lib.TabIs P W nm k zs →
   g<W.heap.size∧∀ (j:Nat) (x:C),(zs.map (C.int k))[j]? =some x→∃ u,W.cell? ⟨g,j,none⟩=some u∧Rep W (fun b=>b<W.heap.size) u x:=by
  intro nm k zs g hz hg ht
  refine⟨?_,fun j x hx=>?_⟩
  ·have:=ht.cell hg 0 hz
   unfold World.cell? at this
   cases hh:W.heap[g]? with
   |none=>simp[hh]at this
   |some o=>exact (Array.getElem?_eq_some_iff.1 hh).1
  ·rw[List.getElem?_map]at hx
   cases hj:zs[j]? with
   |none=>rw[hj]at hx;cases hx
   |some z =>
    rw[hj]at hx
    obtain rfl:=Option.some.inj hx
    have hlt:=(List.getElem?_eq_some_iff.1 hj).1
    refine⟨_,ht.cell hg j hlt,?_⟩
    have:zs.getD j 0=z:=by simp[List.getD_eq_getElem?_getD,hj]
    rw[this]
    exact .int _ _
 have keyE:∀ (nm:String) (g:Nat),P.globalNamed nm=some g→bD7 P W nm →
   g<W.heap.size∧∀ (j:Nat) (x:C),([C.err .any])[j]? =some x→∃ u,W.cell? ⟨g,j,none⟩=some u∧Rep W (fun b=>b<W.heap.size) u x:=by
  intro nm g hg ht
  obtain⟨t,y,hy⟩:=ht g hg
  refine⟨?_,fun j x hx=>?_⟩
  ·unfold World.cell? at hy
   cases hh:W.heap[g]? with
   |none=>simp[hh]at hy
   |some o=>exact (Array.getElem?_eq_some_iff.1 hh).1
  ·cases j with
   |zero =>
    obtain rfl:=Option.some.inj hx
    exact⟨_,hy,.eany t y⟩
   |succ j=>simp at hx
 intro g row ⟨gi,hgi,hrow⟩
 have hg:P.globalNamed gi.name=some g:=by
  have hlt:=(Array.getElem?_eq_some_iff.1 hgi).1
  have:=List.all_eq_true.1 hU g (List.mem_range.2 hlt)
  rw[hgi]at this
  simp only[hrow,Option.isNone_some,Bool.false_or,decide_eq_true_eq]at this
  exact this
 have no:∀ row:List C,row.length≠20→row=bZm aJx→∃ E fr,W.heap[g]? =some (.cells (aJx.map fun z=>Value.int .u64 z).toArray E fr):=fun row hl he=>absurd (by rw[he];decide) hl
 rcases bCf hrow with⟨hn,rfl⟩ | ⟨hn,rfl⟩ | ⟨hn,rfl⟩ | ⟨hn,rfl⟩ | ⟨hn,rfl⟩
 ·rw[hn]at hg;obtain⟨k1,k2⟩:=key _ _ _ g (by decide) hg h1;exact⟨⟨k1,no _ (by decide)⟩,k2⟩
 ·rw[hn]at hg;obtain⟨k1,k2⟩:=key _ _ _ g (by decide) hg h2;exact⟨⟨k1,no _ (by decide)⟩,k2⟩
 ·rw[hn]at hg
  obtain⟨k1,k2⟩:=key _ _ _ g (by decide) hg h3
  refine⟨⟨k1,fun _=>?_⟩,k2⟩
  unfold Lib.TabIs World.var? at h3
  rw[hg]at h3
  simp only[Option.bind_some]at h3
  split at h3
  ·rename_i cs E fr hh
   obtain rfl:=Option.some.inj h3
   exact⟨E,fr,hh⟩
  ·cases h3
 ·rw[hn]at hg;obtain⟨k1,k2⟩:=keyE _ g hg h4;exact⟨⟨k1,no _ (by decide)⟩,k2⟩
 ·rw[hn]at hg;obtain⟨k1,k2⟩:=keyE _ g hg h5;exact⟨⟨k1,no _ (by decide)⟩,k2⟩
def aPh:List Bool→List W→List W
 |b::bs,.l (.sl rows)::ws=>.l (.sn b rows)::aPh bs ws
 |bs,w::ws=>w::aPh bs ws
 |_,[]=>[]
def aIe:List Bool→List C→Bool
 |b::bs,.sl rows::cs=>(!b||rows.isEmpty)&&aIe bs cs
 |[],.sl _::_=>false
 |bs,_::cs=>aIe bs cs
 |[],[]=>true
 |_::_,[]=>false
def bLh:PTy→Bool
 |.val false [_]=>true
 |_=>false
def aOz (E:Env) (I:Inl (List C)) (bs:List Bool) (sig:Sig) (fn:Func) (cs:List C):T (List C) :=
 match aDl E sig.params cs {slots:=[],heap:=[],next:=0,pins:=[]},fn.body with
 |some (b,ws,[],σ),some c =>
  if ws.length≤fn.ntmps then
   .must b (bGz (aPh bs ws) fun ws=>aEw {E with nt:=fn.ntmps} I c {σ with slots:=(List.range ws.length).zip ws} (bHl E sig fn))
  else .bad
 |_,_=>.bad
theorem bO2 {cs:List C} {e:TypeId} (h:(aGc cs 0 (.slice e)).1=true):∃ rows cs',cs=.sl rows::cs'∧(aGc cs 0 (.slice e)).2=.sl rows:=by
 cases cs with
 |nil=>simp[aGc]at h
 |cons c cs =>
  cases c<;>simp[aGc,C.is]at h
  exact⟨_,_,rfl,rfl⟩
theorem bO3 {cs:List C} {kd:K} (h:(aGc cs 0 kd).1=true) (hk:∀ e,kd≠.slice e):∃ c cs',cs=c::cs'∧(∀ rows,c≠.sl rows)∧∀ rows,(aGc cs 0 kd).2≠.sl rows:=by
 cases cs with
 |nil=>cases kd<;>simp[aGc]at h
 |cons c cs =>
  refine⟨c,cs,rfl,fun rows he=>?_,fun rows he=>?_⟩
  ·subst he
   cases kd<;>simp[aGc,C.is]at h
   exact absurd rfl (hk _)
  ·cases kd<;>simp[aGc]at he
   ·exact absurd rfl (hk _)
   ·split at he<;>cases he
   ·split at he<;>cases he
theorem aVe {bs:List Bool} {x:L} {ws:List W} (h:∀ rows,x≠.sl rows):aPh bs (.l x::ws)=.l x::aPh bs ws:=by
 cases bs<;>cases x<;>first | rfl | exact absurd rfl (h _)
theorem aVf {bs:List Bool} {c:C} {cs:List C} (h:∀ rows,c≠.sl rows):aIe bs (c::cs)=aIe bs cs:=by
 cases bs<;>cases c<;>first | rfl | exact absurd rfl (h _)
theorem bNx {E:Env} {ok:Nat→Prop} {w:World} {h:aD7} {nx:Nat} {β:aDr}:∀ {ps:List PTy} {cs rest:List C} {σ σ':St} {ws:List W} {vals:List Value},(ps.all bLh)=true→aDl E ps cs σ=some (true,ws,rest,σ')→vals.length=ws.length →
  (∀ (i:Nat) (v:Value) (x:W),vals[i]? =some v→ws[i]? =some x→aFt ok w h nx β v x)→rest=[] →
  ∃ bs,aIe bs cs=true∧(aPh bs ws).length=ws.length∧∀ (i:Nat) (v:Value) (x:W),vals[i]? =some v→(aPh bs ws)[i]? =some x→aFt ok w h nx β v x:=by
 intro ps
 induction ps with
 |nil =>
  intro cs rest σ σ' ws vals _ hi hl hr hrest
  simp only[aDl,Option.some.injEq,Prod.mk.injEq,true_and]at hi
  obtain⟨rfl,rfl,rfl⟩:=hi
  subst hrest
  exact⟨[],rfl,rfl,hr⟩
 |cons p ps ih =>
  intro cs rest σ σ' ws vals hp hi hl hr hrest
  simp only[List.all_cons,Bool.and_eq_true]at hp
  obtain⟨hp1,hp2⟩:=hp
  match p,hp1 with
  |.val false [kd],_ =>
   simp only[aDl]at hi
   split at hi
   ·rename_i b ws0 cs' σ0 hrec
    simp only[Option.some.injEq,Prod.mk.injEq,Bool.and_eq_true]at hi
    obtain⟨⟨hla,rfl⟩,rfl,rfl,rfl⟩:=hi
    simp only[aBv,Bool.and_true]at hla
    have ew:wOf false (aBv cs 0 [kd]).2=.l (aGc cs 0 kd).2:=rfl
    rw[ew]at hl hr ⊢
    cases vals with
    |nil=>simp at hl
    |cons v vals =>
     have h0:=hr 0 v _ rfl rfl
     have hrs:∀ (i:Nat) (v:Value) (x:W),vals[i]? =some v→ws0[i]? =some x→aFt ok w h nx β v x:=fun i v x h1 h2=>hr (i+1) v x (by simpa using h1) (by simpa using h2)
     obtain⟨bs,b1,b2,b3⟩:=ih hp2 hrec (by simpa using hl) hrs hrest
     by_cases hk:∃ e,kd=.slice e
     ·obtain⟨e,rfl⟩:=hk
      obtain⟨rows,cs',rfl,hx⟩:=bO2 hla
      rw[hx]at h0 ⊢
      have h0:Rep w ok v (.sl rows):=h0
      have hdrop:aIe bs cs'=true:=b1
      cases h0 with
      |emp a m =>
       refine⟨a.isNone::bs,by simp[aIe,hdrop],by simp[aPh,b2],fun i u x hu hx=>?_⟩
       cases i with
       |zero=>simp[aPh]at hu hx;subst hu;subst hx;exact⟨.emp a m,a,0,m,rfl,rfl⟩
       |succ i=>exact b3 i u x (by simpa using hu) (by simpa[aPh]using hx)
      |sl b o n m sz _ f h1 h2 h3 h4 h5 h6 h7 =>
       refine⟨false::bs,by simp[aIe,hdrop],by simp[aPh,b2],fun i u x hu hx=>?_⟩
       cases i with
       |zero=>simp[aPh]at hu hx;subst hu;subst hx;exact⟨.sl b o n m sz _ f h1 h2 h3 h4 h5 h6 h7,_,n,m,rfl,rfl⟩
       |succ i=>exact b3 i u x (by simpa using hu) (by simpa[aPh]using hx)
     ·obtain⟨d,cs',rfl,hx1,hx2⟩:=bO3 hla (fun e he=>hk ⟨e,he⟩)
      refine⟨bs,by rw[aVf hx1];exact b1,by rw[aVe hx2];simp[b2],fun i u x hu hx=>?_⟩
      rw[aVe hx2]at hx
      cases i with
      |zero=>simp at hu hx;subst hu;subst hx;exact h0
      |succ i=>exact b3 i u x (by simpa using hu) (by simpa using hx)
   ·cases hi
theorem aZ3:∀ cs:List C,∃ bs,aIe bs cs=true
 |[]=>⟨[],rfl⟩
 |c::cs=>by
  obtain⟨bs,hb⟩:=aZ3 cs
  by_cases hc:∃ rows,c=.sl rows
  ·obtain⟨rows,rfl⟩:=hc
   exact⟨false::bs,by simp[aIe,hb]⟩
  ·exact⟨bs,by rw[aVf fun rows e=>hc ⟨rows,e⟩];exact hb⟩
theorem aKi {P : Program} {E : Env} (hE : aA8 P E) {f : FuncId} {fn : Func} {sig : Sig} {spec : Spec} {I : Inl (List C)} (hI : ∀ c : Ctx, c.P = P → aWn c I) (hf : P.funcs[f]? = some fn) (hname : (fn.name == "runtime.NumGoroutine") = false)
  (hp:sig.params.all bLh=true) (hspec:∀ cs outs,aBo cs (aEb sig.params)=true→spec cs=some (true,outs)→∀ bs,aIe bs cs=true→(aOz E I bs sig fn cs).eval=some outs):aAs P f sig spec:=by
 refine aYm hE hI hf hname fun cs outs hk hs=>?_
 obtain⟨bs0,hb0⟩:=aZ3 cs
 have he:=hspec cs outs hk hs bs0 hb0
 unfold aOz at he
 split at he
 ·rename_i b ws σ body hin hbody
  split at he
  ·rename_i hws
   obtain⟨hb,_⟩:=aAu he
   subst hb
   refine⟨ws,σ,body,hin,hbody,fun ok w h nx β vals hl hr=>?_⟩
   obtain⟨bs,b1,b2,b3⟩:=bNx hp hin hl hr rfl
   refine⟨aPh bs ws,b2,b3,by rw[b2];exact hws,?_⟩
   have he2:=hspec cs outs hk hs bs b1
   unfold aOz at he2
   rw[hin,hbody]at he2
   simp only[hws,if_true]at he2
   exact aZr (aAu he2).2
  ·exact (aA3 he).elim
 ·exact (aA3 he).elim
section
variable {α:Type}
end
section
variable {c:Ctx} {α:Type} {w w':World} {β:aDr}
end
structure cBh where
 ins:FuncId
 dele:FuncId
 ks:List K
 bytes:Nat
structure bT5 (P:Program) (N:cBh):Prop where
 pos:0<N.ks.length
 plain:N.ks.all K.plain=true
 ins:∀ (w:World) (ob:Option Nat) (v:Value) (n i vb vc:Nat) (olds news:List Value) (curv:Array Value) (Ev:TypeId) (frv:Nat×Nat),
  bT6 w ob N.ks.length v 0 n→olds.length=n*N.ks.length→(∀ u∈olds,u.oneCell'=true)→(∀ (b:Nat) (cur:Array Value) (E:TypeId) (fr:Nat×Nat),ob=some b→w.heap[b]? =some (.cells cur E fr)→∀ (k:Nat) (u:Value),olds[k]? =some u→cur[k]? =some u) →
  news.length=N.ks.length→(∀ u∈news,u.oneCell'=true)→w.heap[vb]? =some (.cells curv Ev frv)→aG7 (bd N.ks.length curv.size) frv→vc*N.ks.length≤curv.size→1≤vc→(∀ (k:Nat) (u:Value),news[k]? =some u→curv[k]? =some u)→ob≠some vb→i≤n→aBc (n+1) N.bytes=true →
  Calls P N.ins #[v,.int .i64 i,.slice (some ⟨vb,0,none⟩) 1 vc] w fun e w' =>
   (∃ (b c:Nat) (cur cur':Array Value) (E:TypeId) (fr:Nat×Nat),ob=some b∧v=.slice (some ⟨b,0,none⟩) n c∧w.heap[b]? =some (.cells cur E fr)∧e=.returned (.slice (some ⟨b,0,none⟩) (n+1) c)∧n+1≤c∧w'.heap[b]? =some (.cells cur' E fr)∧cur'.size=cur.size ∧
    (∀ (d:Nat),d≠b→w'.heap[d]? =w.heap[d]?)∧w'.heap.size=w.heap.size∧w'.os=w.os∧w'.output=w.output∧∀ (k:Nat) (u:Value),(olds.take (i*N.ks.length)++news++olds.drop (i*N.ks.length))[k]? =some u→cur'[k]? =some u) ∨
   (∃ (b c:Nat) (cur':Array Value) (E:TypeId),w.heap.size≤b∧b<w'.heap.size∧e=.returned (.slice (some ⟨b,0,none⟩) (n+1) c)∧n+1≤c∧c*N.ks.length≤cur'.size∧w'.heap[b]? =some (.cells cur' E (0,0))∧w.heap.size≤w'.heap.size ∧
    (∀ (d:Nat),d<w.heap.size→w'.heap[d]? =w.heap[d]?)∧w'.os=w.os∧w'.output=w.output∧∀ (k:Nat) (u:Value),(olds.take (i*N.ks.length)++news++olds.drop (i*N.ks.length))[k]? =some u→cur'[k]? =some u)
 del:∀ (w:World) (b n c i:Nat) (olds:List Value) (cur:Array Value) (E:TypeId) (fr:Nat×Nat),
  w.heap[b]? =some (.cells cur E fr)→aG7 (bd N.ks.length cur.size) fr→c*N.ks.length≤cur.size→n≤c→olds.length=n*N.ks.length→(∀ u∈olds,u.oneCell'=true)→(∀ (k:Nat) (u:Value),olds[k]? =some u→cur[k]? =some u)→i<n→aBc n N.bytes=true →
  Calls P N.dele #[.slice (some ⟨b,0,none⟩) n c,.int .i64 i,.int .i64 ((i:Int)+1)] w fun e w' =>
   e=.returned (.slice (some ⟨b,0,none⟩) (n-1) c)∧∃ cur':Array Value,w'.heap[b]? =some (.cells cur' E fr)∧cur'.size=cur.size∧(∀ (d:Nat),d≠b→w'.heap[d]? =w.heap[d]?)∧w'.heap.size=w.heap.size∧w'.os=w.os∧w'.output=w.output ∧
    ∀ (k:Nat) (u:Value),(olds.take (i*N.ks.length)++olds.drop ((i+1)*N.ks.length)++N.ks.map aJ3)[k]? =some u→cur'[k]? =some u
section
variable {α:Type}
def cBs (N:cBh):Inl α:=fun g fn ws σ k =>
 if g=N.ins then match ws with
  |[.l (.ref id 0 n),.l (.i .i64 i),.l (.ref vid 0 1)]=>match σ.heap.lookup id,σ.heap.lookup vid with
   |some (.arr sz rows),some (.arr sz2 [row])=>if sz=N.ks.length∧sz2=N.ks.length∧id≠vid∧aEc σ.pins [id]=true∧fn.body.isSome=true then
     .must (decide (n=rows.length)&&(decide (0≤i)&&decide (i≤rows.length))&&aBc (rows.length+1) N.bytes)
      (k (.l (.ref σ.next 0 (rows.length+1))) {σ with heap:=(σ.next,.arr N.ks.length (rows.take i.toNat++[row]++rows.drop i.toNat))::del σ.heap id,next:=σ.next+1} (some [id]))else .bad
   |_,_=>.bad
  |_=>.bad
 else if g=N.dele then match ws with
  |[.l (.ref id 0 n),.l (.i .i64 i),.l (.i .i64 j)]=>match σ.heap.lookup id with
   |some (.arr sz rows)=>if sz=N.ks.length∧aEc σ.pins [id]=true∧fn.body.isSome=true then
     .must (decide (n=rows.length)&&(decide (0≤i)&&decide (i<rows.length)&&decide (j=i+1))&&aBc rows.length N.bytes)
      (k (.l (.ref σ.next 0 (rows.length-1))) {σ with heap:=(σ.next,.arr N.ks.length (rows.take i.toNat++rows.drop (i.toNat+1)))::del σ.heap id,next:=σ.next+1} (some [id]))else .bad
   |_=>.bad
  |_=>.bad
 else .bad
def cAh (J:Inl α) (nat:FuncId→Bool) (E:Env):Nat→Inl α
 |0=>fun g fn ws σ k=>if nat g=true then J g fn ws σ k else .bad
 |n+1=>fun g fn ws σ k=>if nat g=true then J g fn ws σ k else
  let E':={E with nt:=fn.ntmps,ren:=false}
  if ws.length≤fn.ntmps then
   match fn.body with
   |some c=>aEw E' (cAh J nat E' n) c {σ with slots:=(List.range ws.length).zip ws} fun e σ'=>match e with
    |.normal | .ret=>match (bNp E' σ' fn.results).bind cA3 with
     |some x=>k x {σ' with pins:=σ.pins} none
     |none=>.bad
    |_=>.bad
   |none=>.bad
  else .bad
theorem bRt {J:Inl α} {nat:FuncId→Bool} {c:Ctx} (hJ:aWn c J):∀ (n:Nat) {E:Env},aA8 c.P E→aWn c (cAh (α:=α) J nat E n)
 |0,E,hE=>fun g0 fn ws σ k r hg0 he=>by
  simp only[cAh]at he
  split at he
  ·exact hJ g0 fn ws σ k r hg0 he
  ·exact (aA3 he).elim
 |n+1,E,hE=>fun g0 fn ws σ k r hg0 he=>by
  simp only[cAh]at he
  split at he
  ·exact hJ g0 fn ws σ k r hg0 he
  split at he
  ·rename_i hws
   split at he
   ·rename_i body hb
    have hE':aA8 c.P {E with nt:=fn.ntmps,ren:=false}:=⟨⟨hE.ok.ty,hE.ok.inl,hE.ok.arr,hE.ok.gl,hE.ok.bld⟩,hE.law,hE.name,hE.mixed⟩
    obtain⟨e,σ',h1,h2⟩:=bKz hE' (bRt hJ n hE') body he
    have fin:∀ {x:W},(e=.normal∨e=.ret)→(bNp {E with nt:=fn.ntmps,ren:=false} σ' fn.results).bind cA3=some x →
      ∀ g,c.P.funcs[g]? =some fn→∀ (β:aDr) (w:World) (vals:List Value),aBn c w σ.heap σ.next β→vals.length=ws.length →
      (∀ (i:Nat) (v:Value) (x:W),vals[i]? =some v→ws[i]? =some x→aFt (okD c σ.heap β) w σ.heap σ.next β v x) →
      (∀ (j:Nat) (id:Nat),σ.pins[j]? =some id→id<σ.next∧(∃ x,σ.heap.lookup id=some x∧x.isFro=false)∧c.pb[j]? =some (β id))→σ.pins.length=c.pb.length →
      Calls c.P g vals.toArray w fun e w'=>∃ v,e=.returned v∧bHm c σ β w {val:=x,st:={σ' with slots:=σ.slots,pins:=σ.pins},eff:=true} v w':=by
     intro x hex hres
     intro g hg β w vals hh hl hv hp hnp
     refine calls_of_wp hg hb ?_
     have hrel:=bEs (nt:=fn.ntmps) hh hl hv hp hnp
     refine h2 β _ w hrel (by simp;omega) _ fun β' a' w' hr' hs' hf'=>?_
     have hfar:=hf' rfl
     cases hws':bNp {E with nt:=fn.ntmps,ren:=false} σ' fn.results with
     |none=>rw[hws']at hres;cases hres
     |some ws' =>
      rw[hws']at hres
      obtain⟨vs,q1,q2,q3⟩:=bQl hE'.ok hr' hws'
      have hval:=bY7 q1 q3 hres
      have hdone:bHm c σ β w {val:=x,st:={σ' with slots:=σ.slots,pins:=σ.pins},eff:=true} (bXz vs) w':=⟨β',hr'.heap,hfar.ext,hval,rfl,rfl,hfar.box,hfar.pin⟩
      rcases hex with rfl | rfl
      ·exact⟨hr'.defers,_,aOg q2,_,rfl,hdone⟩
      ·exact⟨hr'.defers,_,aOg q2,_,rfl,hdone⟩
    have last:(e=.normal∨e=.ret)→(match (bNp {E with nt:=fn.ntmps,ren:=false} σ' fn.results).bind cA3 with | some x=>k x {σ' with pins:=σ.pins} none | none=>.bad).eval=some r →
      ∃ x σ' ts,(k x σ' ts).eval=some r∧(∀ l,ts=some l→∀ id,id<σ.next→id∉l→σ'.heap.lookup id=σ.heap.lookup id)∧σ'.pins=σ.pins∧fn.body.isSome=true∧∀ (β:aDr) (w:World) (vals:List Value),aBn c w σ.heap σ.next β→vals.length=ws.length →
      (∀ (i:Nat) (v:Value) (x:W),vals[i]? =some v→ws[i]? =some x→aFt (okD c σ.heap β) w σ.heap σ.next β v x) →
      (∀ (j:Nat) (id:Nat),σ.pins[j]? =some id→id<σ.next∧(∃ x,σ.heap.lookup id=some x∧x.isFro=false)∧c.pb[j]? =some (β id))→σ.pins.length=c.pb.length →
      Calls c.P g0 vals.toArray w fun e w'=>∃ v,e=.returned v∧bHm c σ β w {val:=x,st:={σ' with slots:=σ.slots},eff:=true} v w':=by
     intro hex h
     split at h
     ·rename_i x hx
      exact⟨x,{σ' with pins:=σ.pins},none,h,(fun l hc=>nomatch hc),rfl,by rw[hb];rfl,fin hex hx g0 hg0⟩
     ·exact (aA3 h).elim
    cases e with
    |normal=>exact last (.inl rfl) h1
    |ret=>exact last (.inr rfl) h1
    |exit j=>exact (aA3 h1).elim
    |goto l=>exact (aA3 h1).elim
    |panic ch=>exact (aA3 h1).elim
    |outgrown=>exact (aA3 h1).elim
   ·exact (aA3 he).elim
  ·exact (aA3 he).elim
end
section
variable {c:Ctx} {w w':World} {β:aDr} {σ:St}
def aYx (ok:Nat→Prop) (w:World) (cur:Array Value) (sz:Nat) (rows:List (List C)):Prop :=
 (∀ r∈rows,r.length=sz)∧∀ (i:Nat) (r:List C) (j:Nat) (y:C),rows[i]? =some r→r[j]? =some y→∃ u,cur[i*sz+j]? =some u∧Rep w ok u y
theorem aWd (hh:aBn c w σ.heap σ.next β) {id b cap sz:Nat} {rows aKu rows':List (List C)} {cur cur':Array Value} {E:TypeId} {fr:Nat×Nat} {ts:List Nat}
  (hl:σ.heap.lookup id=some (.arr sz rows)) (hob:β id=some b) (hmine:c.w0.heap.size≤b) (hpinf:id∉σ.pins) (hw:w.heap[b]? =some (.cells cur E fr)) (hth:aG7 (bd sz cur.size) fr) (hcap:cap*sz≤cur.size)
  (a1:w'.heap[b]? =some (.cells cur' E fr)) (a2:cur'.size=cur.size) (a4:∀ d,d≠b→w'.heap[d]? =w.heap[d]?) (a5:w'.heap.size=w.heap.size) (a6:w'.os=w.os) (a7:w'.output=w.output)
  (hlen:aKu.length=rows.length) (hle:rows.length≤cap) (hle':rows'.length≤cap) (h1:aYx (okD c σ.heap β) w cur' sz aKu) (h2:aYx (okD c σ.heap β) w cur' sz rows') :
  bHm c σ β w {val:=.l (.ref σ.next 0 rows'.length),st:={σ with heap:=(σ.next,.arr sz rows')::del σ.heap id,next:=σ.next+1},eff:=true,touched:=ts} (.slice (some ⟨b,0,none⟩) rows'.length cap) w':=by
 have hsame:aAn (.arr sz rows) (.arr sz aKu):=⟨rfl,hlen⟩
 have hlk:=aCu σ.heap id (.arr sz aKu) ⟨_,hl⟩
 have ex1:=aOj hh hl rfl rfl hsame hob hw a1 a2 a4 a5 hlk
 have hsz:∀ (rs:List (List C)),rs.length≤cap→rs.length*sz≤cur'.size:=fun rs h=>by rw[a2];exact Nat.le_trans (Nat.mul_le_mul_right _ h) hcap
 have hh2:=aH2 (new:=.arr sz aKu) hh hl rfl rfl hsame hob hw a1 a2 a4 a5 a6 a7 ⟨h1.1,.inr ⟨b,cur',E,fr,rfl,a1,by rw[a2];exact hth,hsz aKu (by omega),fun i r j y hi hj=>let⟨u,q1,q2⟩:=h1.2 i r j y hi hj;⟨u,q1,ex1.rep q2⟩⟩⟩
 have hl2:(upd σ.heap id (.arr sz aKu)).lookup id=some (.arr sz aKu):=by rw[hlk,if_pos rfl]
 have ex2:=bCn (blk:=.arr sz rows') hh2 hl2 rfl hob
 have hh3:=aW7 (blk:=.arr sz rows') hh2 hl2 rfl hmine hob ⟨h2.1,.inr ⟨b,cur',E,fr,rfl,a1,by rw[a2];exact hth,hsz rows' hle',fun i r j y hi hj=>let⟨u,q1,q2⟩:=h2.2 i r j y hi hj;⟨u,q1,ex2.rep (ex1.rep q2)⟩⟩⟩
 rw[bSn]at ex2 hh3
 refine⟨_,hh3,ex1.trans ex2,?_,rfl,rfl,fun i cs hi=>?_,fun i x hp hi hf=>?_⟩
 ·refine⟨by show σ.next<σ.next+1;omega,rfl,fun blk sz0 rows0 hl0 hr0=>?_⟩
  change List.lookup σ.next ((σ.next,_)::del σ.heap id)=some blk at hl0
  rw[aC0]at hl0
  obtain rfl:=Option.some.inj hl0
  simp only[Blk.rows?,Option.some.injEq,Prod.mk.injEq]at hr0
  obtain⟨rfl,rfl⟩:=hr0
  exact⟨by simp,.inr ⟨b,cap,cur',E,fr,by simp[aG2],by rw[Nat.zero_mul],hle',a1,by rw[a2];exact hth,by rw[a2,Nat.zero_add];exact hcap⟩⟩
 ·have hne:i≠id:=fun e=>by subst e;rw[hl]at hi;cases hi
  have hin:=(hh.blk i _ hi).1
  refine⟨cs,?_,rfl,by simp only[aG2];rw[if_neg (by omega)]⟩
  show List.lookup i ((σ.next,_)::del σ.heap id)=_
  rw[aB0 (by omega),aC5,if_neg hne]
  exact hi
 ·have hne:i≠id:=fun e=>hpinf (e▸hp)
  have hin:=(hh.blk i _ hi).1
  refine⟨x,?_,hf,by simp only[aG2];rw[if_neg (by omega)]⟩
  show List.lookup i ((σ.next,_)::del σ.heap id)=_
  rw[aB0 (by omega),aC5,if_neg hne]
  exact hi
theorem bP3 (hh:aBn c w σ.heap σ.next β) {id b cap sz:Nat} {blk0:Blk} {rows':List (List C)} {cur':Array Value} {E:TypeId} {ts:List Nat}
  (hl:σ.heap.lookup id=some blk0) (hnb:∀ cells,blk0≠.box cells) (hpinf:id∉σ.pins) (hge:w.heap.size≤b) (hlt:b<w'.heap.size) (hcap:cap*sz≤cur'.size)
  (a1:w'.heap[b]? =some (.cells cur' E (0,0))) (a4:∀ d,d<w.heap.size→w'.heap[d]? =w.heap[d]?) (a5:w.heap.size≤w'.heap.size) (a6:w'.os=w.os) (a7:w'.output=w.output)
  (hle':rows'.length≤cap) (h2:aYx (okD c σ.heap β) w cur' sz rows') :
  bHm c σ β w {val:=.l (.ref σ.next 0 rows'.length),st:={σ with heap:=(σ.next,.arr sz rows')::del σ.heap id,next:=σ.next+1},eff:=true,touched:=ts} (.slice (some ⟨b,0,none⟩) rows'.length cap) w':=by
 have hh1:=aZb hh id
 have e1:Ext c w σ.heap σ.next β w (del σ.heap id) σ.next β:=bKe id
 have e2:=bKd (blk:=.arr sz rows') (ob:=some b) hh1 a5 a4 (fun b' hb=>by obtain rfl:=Option.some.inj hb;exact hge)
 have hh2:=aZa (blk:=.arr sz rows') (ob:=some b) hh1 a5 a4 a6 a7 (fun b' hb=>by obtain rfl:=Option.some.inj hb;exact⟨hge,hlt⟩) ⟨h2.1,.inr ⟨b,cur',E,(0,0),rfl,a1,aH7 _,Nat.le_trans (Nat.mul_le_mul_right _ hle') hcap,fun i r j y hi hj=>let⟨u,q1,q2⟩:=h2.2 i r j y hi hj;⟨u,q1,e2.rep (e1.rep q2)⟩⟩⟩
 refine⟨_,hh2,e1.trans e2,?_,rfl,rfl,fun i cs hi=>?_,fun i x hp hi hf=>?_⟩
 ·refine⟨by show σ.next<σ.next+1;omega,rfl,fun blk sz0 rows0 hl0 hr0=>?_⟩
  change List.lookup σ.next ((σ.next,_)::del σ.heap id)=some blk at hl0
  rw[aC0]at hl0
  obtain rfl:=Option.some.inj hl0
  simp only[Blk.rows?,Option.some.injEq,Prod.mk.injEq]at hr0
  obtain⟨rfl,rfl⟩:=hr0
  exact⟨by simp,.inr ⟨b,cap,cur',E,(0,0),by simp[aG2],by rw[Nat.zero_mul],hle',a1,aH7 _,by rw[Nat.zero_add];exact hcap⟩⟩
 ·have hne:i≠id:=fun e=>by subst e;rw[hl]at hi;exact hnb _ (Option.some.inj hi)
  have hin:=(hh.blk i _ hi).1
  refine⟨cs,?_,rfl,by simp only[aG2];rw[if_neg (by omega)]⟩
  show List.lookup i ((σ.next,_)::del σ.heap id)=_
  rw[aB0 (by omega),aC5,if_neg hne]
  exact hi
 ·have hne:i≠id:=fun e=>hpinf (e▸hp)
  have hin:=(hh.blk i _ hi).1
  refine⟨x,?_,hf,by simp only[aG2];rw[if_neg (by omega)]⟩
  show List.lookup i ((σ.next,_)::del σ.heap id)=_
  rw[aB0 (by omega),aC5,if_neg hne]
  exact hi
def aGs (ok:Nat→Prop) (w:World) (sz:Nat) (vs:List Value) (rows:List (List C)):Prop :=
 vs.length=rows.length*sz∧(∀ r∈rows,r.length=sz)∧∀ (i:Nat) (r:List C) (j:Nat) (y:C),rows[i]? =some r→r[j]? =some y→∃ u,vs[i*sz+j]? =some u∧Rep w ok u y
theorem aGs.append {ok:Nat→Prop} {sz:Nat} {v1 v2:List Value} {r1 r2:List (List C)} (h1:aGs ok w sz v1 r1) (h2:aGs ok w sz v2 r2):aGs ok w sz (v1++v2) (r1++r2):=by
 refine⟨by rw[List.length_append,List.length_append,Nat.add_mul,h1.1,h2.1],fun r hr=>?_,fun i r j y hi hj=>?_⟩
 ·rcases List.mem_append.1 hr with h | h
  ·exact h1.2.1 r h
  ·exact h2.2.1 r h
 ·by_cases hlt:i<r1.length
  ·rw[List.getElem?_append_left hlt]at hi
   obtain⟨u,q1,q2⟩:=h1.2.2 i r j y hi hj
   refine⟨u,?_,q2⟩
   rw[List.getElem?_append_left (List.getElem?_eq_some_iff.1 q1).1]
   exact q1
  ·rw[List.getElem?_append_right (by omega)]at hi
   obtain⟨u,q1,q2⟩:=h2.2.2 _ r j y hi hj
   refine⟨u,?_,q2⟩
   have hm:r1.length*sz≤i*sz:=Nat.mul_le_mul_right _ (by omega)
   rw[List.getElem?_append_right (by rw[h1.1];omega),h1.1,show i*sz+j-r1.length*sz=(i-r1.length)*sz+j by rw[Nat.sub_mul];omega]
   exact q1
theorem aGs.take {ok:Nat→Prop} {sz:Nat} {vs:List Value} {rows:List (List C)} (h:aGs ok w sz vs rows) (n:Nat):aGs ok w sz (vs.take (n*sz)) (rows.take n):=by
 refine⟨?_,fun r hr=>h.2.1 r (List.mem_of_mem_take hr),fun i r j y hi hj=>?_⟩
 ·rw[List.length_take,List.length_take,h.1]
  rcases Nat.le_total n rows.length with hn | hn
  ·rw[Nat.min_eq_left hn,Nat.min_eq_left (Nat.mul_le_mul_right _ hn)]
  ·rw[Nat.min_eq_right hn,Nat.min_eq_right (Nat.mul_le_mul_right _ hn)]
 ·have hlt:i<n:=by
   have:=(List.getElem?_eq_some_iff.1 hi).1
   rw[List.length_take]at this
   omega
  rw[List.getElem?_take,if_pos hlt]at hi
  obtain⟨u,q1,q2⟩:=h.2.2 i r j y hi hj
  refine⟨u,?_,q2⟩
  have hr:=h.2.1 r (List.mem_of_getElem? hi)
  have hj':j<sz:=by rw[←hr];exact (List.getElem?_eq_some_iff.1 hj).1
  have hm:(i+1)*sz≤n*sz:=Nat.mul_le_mul_right _ (by omega)
  rw[Nat.add_mul,Nat.one_mul]at hm
  rw[List.getElem?_take,if_pos (by omega)]
  exact q1
theorem aGs.drop {ok:Nat→Prop} {sz:Nat} {vs:List Value} {rows:List (List C)} (h:aGs ok w sz vs rows) (n:Nat):aGs ok w sz (vs.drop (n*sz)) (rows.drop n):=by
 refine⟨by rw[List.length_drop,List.length_drop,h.1,Nat.sub_mul],fun r hr=>h.2.1 r (List.mem_of_mem_drop hr),fun i r j y hi hj=>?_⟩
 rw[List.getElem?_drop]at hi
 obtain⟨u,q1,q2⟩:=h.2.2 _ r j y hi hj
 refine⟨u,?_,q2⟩
 rw[List.getElem?_drop,show n*sz+(i*sz+j)=(n+i)*sz+j by rw[Nat.add_mul];omega]
 exact q1
theorem aGs.rows {ok:Nat→Prop} {sz:Nat} {vs:List Value} {rows:List (List C)} (h:aGs ok w sz vs rows) {cur:Array Value} (hc:∀ (k:Nat) (u:Value),vs[k]? =some u→cur[k]? =some u):aYx ok w cur sz rows :=
 ⟨h.2.1,fun i r j y hi hj=>let⟨u,q1,q2⟩:=h.2.2 i r j y hi hj;⟨u,hc _ _ q1,q2⟩⟩
theorem aGs.one {ok:Nat→Prop} {sz:Nat} {vs:List Value} {rows:List (List C)} (h:aGs ok w sz vs rows):∀ u∈vs,u.oneCell'=true:=by
 intro u hu
 obtain⟨k,hk⟩:=List.getElem?_of_mem hu
 have hlt:=(List.getElem?_eq_some_iff.1 hk).1
 rw[h.1]at hlt
 have hs:0<sz:=by
  rcases Nat.eq_zero_or_pos sz with h | h
  ·subst h;omega
  ·exact h
 have hi:k / sz<rows.length:=(Nat.div_lt_iff_lt_mul hs).2 hlt
 have hj:k % sz<(rows[k / sz]).length:=by rw[h.2.1 _ (List.getElem_mem hi)];exact Nat.mod_lt _ hs
 obtain⟨u',q1,q2⟩:=h.2.2 _ _ _ _ (List.getElem?_eq_getElem hi) (List.getElem?_eq_getElem hj)
 rw[show k / sz*sz+k % sz=k by rw[Nat.mul_comm];exact Nat.div_add_mod k sz,hk]at q1
 obtain rfl:=Option.some.inj q1
 exact q2.one
theorem aV4 {ok:Nat→Prop} {ob:Option Nat} {sz:Nat} {rows:List (List C)} (h:aIt ok w ob sz rows):∃ vs,aGs ok w sz vs rows∧∀ (b:Nat) (cur:Array Value) (E:TypeId) (fr:Nat×Nat),ob=some b→w.heap[b]? =some (.cells cur E fr)→∀ (k:Nat) (u:Value),vs[k]? =some u→cur[k]? =some u:=by
 rcases h.2 with h0 | ⟨b,cur,E,fr,hob,hw,_,hsz,hr⟩
 ·subst h0
  exact⟨[],⟨by simp,fun r hr=>by simp at hr,fun i r j y hi=>by simp at hi⟩,fun _ _ _ _ _ _ k u hk=>by simp at hk⟩
 ·refine⟨cur.toList.take (rows.length*sz),⟨by rw[List.length_take,Array.length_toList (xs:=cur)];omega,h.1,fun i r j y hi hj=>?_⟩,fun b2 cur2 E2 fr2 hb2 hw2 k u hk=>?_⟩
  ·obtain⟨u,q1,q2⟩:=hr i r j y hi hj
   refine⟨u,?_,q2⟩
   have hj':j<sz:=by rw[←h.1 r (List.mem_of_getElem? hi)];exact (List.getElem?_eq_some_iff.1 hj).1
   have hm:(i+1)*sz≤rows.length*sz:=Nat.mul_le_mul_right _ (List.getElem?_eq_some_iff.1 hi).1
   rw[Nat.add_mul,Nat.one_mul]at hm
   rw[List.getElem?_take,if_pos (by omega),Array.getElem?_toList]
   exact q1
  ·rw[hob]at hb2
   obtain rfl:=Option.some.inj hb2
   rw[hw]at hw2
   simp only[Option.some.injEq,Obj.cells.injEq]at hw2
   obtain⟨rfl,rfl,rfl⟩:=hw2
   rw[List.getElem?_take]at hk
   split at hk
   ·rwa [Array.getElem?_toList]at hk
   ·cases hk
theorem bLq (hh:aBn c w σ.heap σ.next β) (hpin:∀ (j:Nat) (id:Nat),σ.pins[j]? =some id→id<σ.next∧(∃ x,σ.heap.lookup id=some x∧x.isFro=false)∧c.pb[j]? =some (β id)) (hnp:σ.pins.length=c.pb.length)
  {id b:Nat} {x:Blk} (hl:σ.heap.lookup id=some x) (hob:β id=some b) (hf:id∉σ.pins):c.w0.heap.size≤b:=by
 rcases (hh.place id x b hl hob).1 with h | h
 ·exact h
 ·obtain⟨j,hj⟩:=List.getElem?_of_mem h.1
  have hjl:j<σ.pins.length:=by rw[hnp];exact (List.getElem?_eq_some_iff.1 hj).1
  obtain⟨_,⟨x2,hx2,_⟩,h3⟩:=hpin j _ (List.getElem?_eq_getElem hjl)
  rw[hj]at h3
  have h3:=(Option.some.inj h3).symm
  have he:=hh.inj _ id x2 x b hx2 hl h3 hob
  exact absurd (he▸List.getElem_mem hjl) hf
theorem bLr {y:Blk} {id nx:Nat} {h:aD7}:∀ l,some [id]=some l→∀ j,j<nx→j∉l→List.lookup j ((nx,y)::del h id)=h.lookup j:=by
 intro l he j hj hn
 obtain rfl:=Option.some.inj he
 rw[aB0 (by omega),aC5,if_neg (by simpa using hn)]
end
theorem bYn {α:Type} {P:Program} {N:cBh} (hL:bT5 P N):∀ c:Ctx,c.P=P→aWn c (cBs (α:=α) N):=by
 intro c hc g fn ws σ k r hg he
 subst hc
 unfold cBs at he
 split at he
 ·rename_i hgi
  split at he
  ·rename_i id n i vid
   split at he
   ·rename_i sz rows sz2 row hl hlv
    split at he
    ·rename_i hcond
     obtain⟨rfl,rfl,hne,hfr,hbody⟩:=hcond
     have hf:id∉σ.pins:=fun hp=>by simp[aEc,hp]at hfr
     obtain⟨hm,he2⟩:=aAu he;clear he
     simp only[Bool.and_eq_true,decide_eq_true_eq]at hm
     obtain⟨⟨rfl,hi0,hin⟩,hro⟩:=hm
     obtain⟨i,rfl⟩:=Int.eq_ofNat_of_zero_le hi0
     have hin:i≤rows.length:=by omega
     rw[Int.toNat_natCast]at he2
     refine⟨_,_,_,he2,bLr,rfl,hbody,fun β w vals hh hvl hv hpin hnp=>?_⟩
     match vals,hvl with
     |[v,v1,v3],_ =>
      obtain⟨_,_,h0⟩:=hv 0 v _ rfl rfl
      have hhd:=(h0 _ _ _ hl rfl).2
      have h1:v1=.int .i64 (i:Int):=hv 1 v1 _ rfl rfl
      subst h1
      obtain⟨_,_,h3⟩:=hv 2 v3 _ rfl rfl
      obtain⟨vs,hvs,hvc⟩:=aV4 (hh.blk id _ hl).2
      obtain⟨ns,hns,hnc⟩:=aV4 (hh.blk vid _ hlv).2
      rcases (h3 _ _ _ hlv rfl).2 with⟨_,_,h⟩ | ⟨vb,vc,curv,Ev,frv,hvb,rfl,hvc1,hwv,hthv,hszv⟩
      ·omega
      rw[Nat.zero_add]at hszv
      rw[Nat.zero_mul]
      rw[hgi]
      have hnl:ns.length=N.ks.length:=by rw[hns.1];simp
      have hob:β id≠some vb:=fun h=>hne (hh.inj id vid _ _ vb hl hlv h hvb)
      have new:=((hvs.take i).append hns).append (hvs.drop i)
      have nlen:(rows.take i++[row]++rows.drop i).length=rows.length+1:=by simp;omega
      refine (hL.ins w (β id) v rows.length i vb vc vs ns curv Ev frv hhd hvs.1 hvs.one hvc hnl hns.one hwv hthv hszv hvc1 (hnc vb curv Ev frv hvb hwv) hob hin hro).mono ?_
      rintro e w' (⟨b,cc,cur,cur',E,fr,hb,rfl,hw,rfl,hnc',a1,a2,a4,a5,a6,a7,a8⟩ | ⟨b,cc,cur',E,hge,hlt,rfl,hnc',hcap,a1,a5,a4,a6,a7,a8⟩)
      ·refine⟨_,rfl,?_⟩
       rcases hhd with⟨a,h,_⟩ | ⟨b2,c2,cur2,E2,fr2,hb2,h,hc2,hw2,hth2,hsz2⟩
       ·injection h with q1 q2 q3;omega
       injection h with q1 q2 q3
       subst q3
       rw[hb]at hb2
       obtain rfl:=Option.some.inj hb2
       rw[hw]at hw2
       simp only[Option.some.injEq,Obj.cells.injEq]at hw2
       obtain⟨rfl,rfl,rfl⟩:=hw2
       rw[Nat.zero_add]at hsz2
       have r2:=new.rows a8
       have r1:aYx (okD c σ.heap β) w cur' N.ks.length ((rows.take i++[row]++rows.drop i).take rows.length):=(new.take rows.length).rows fun q u hq=>by
        rw[List.getElem?_take]at hq
        split at hq
        ·exact a8 q u hq
        ·cases hq
       have hd:=aWd (ts:=[]) hh hl hb (bLq hh hpin hnp hl hb hf) hf hw hth2 hsz2 a1 a2 a4 a5 a6 a7 (by rw[List.length_take,nlen];omega) (by omega) (by rw[nlen];omega) r1 r2
       rw[nlen]at hd
       exact hd
      ·refine⟨_,rfl,?_⟩
       have hd:=bP3 (ts:=[]) hh hl (fun _ h=>by cases h) hf hge hlt hcap a1 a4 a5 a6 a7 (by rw[nlen];exact hnc') (new.rows a8)
       rw[nlen]at hd
       exact hd
    ·exact (aA3 he).elim
   ·exact (aA3 he).elim
  ·exact (aA3 he).elim
 ·split at he
  ·rename_i hgd
   split at he
   ·rename_i id n i j
    split at he
    ·rename_i sz rows hl
     split at he
     ·rename_i hcond
      obtain⟨rfl,hfr,hbody⟩:=hcond
      have hf:id∉σ.pins:=fun hp=>by simp[aEc,hp]at hfr
      obtain⟨hm,he2⟩:=aAu he;clear he
      simp only[Bool.and_eq_true,decide_eq_true_eq]at hm
      obtain⟨⟨rfl,⟨hi0,hin⟩,rfl⟩,hro⟩:=hm
      obtain⟨i,rfl⟩:=Int.eq_ofNat_of_zero_le hi0
      have hin:i<rows.length:=by omega
      rw[Int.toNat_natCast]at he2
      refine⟨_,_,_,he2,bLr,rfl,hbody,fun β w vals hh hvl hv hpin hnp=>?_⟩
      match vals,hvl with
      |[v,v1,v3],_ =>
       obtain⟨_,_,h0⟩:=hv 0 v _ rfl rfl
       have h1:v1=.int .i64 (i:Int):=hv 1 v1 _ rfl rfl
       subst h1
       have h3:v3=.int .i64 ((i:Int)+1):=hv 2 v3 _ rfl rfl
       subst h3
       obtain⟨vs,hvs,hvc⟩:=aV4 (hh.blk id _ hl).2
       rcases (h0 _ _ _ hl rfl).2 with⟨_,_,h⟩ | ⟨b,cc,cur,E,fr,hb,rfl,hc1,hw,hth,hsz⟩
       ·omega
       rw[Nat.zero_add]at hsz
       rw[Nat.zero_mul,hgd]
       have zs:aGs (okD c σ.heap β) w N.ks.length (N.ks.map aJ3) [N.ks.map aSh]:=by
        refine⟨by simp,fun r hr=>by simp at hr;subst hr;simp,fun q r t y hq ht=>?_⟩
        match q with
        |0 =>
         obtain rfl:=Option.some.inj hq
         rw[List.getElem?_map]at ht
         cases hk:N.ks[t]? with
         |none=>rw[hk]at ht;cases ht
         |some kk =>
          rw[hk]at ht
          obtain rfl:=Option.some.inj ht
          exact⟨aJ3 kk,by rw[Nat.zero_mul,Nat.zero_add,List.getElem?_map,hk];rfl,bDe (List.all_eq_true.1 hL.plain kk (List.mem_of_getElem? hk))⟩
        |q+1=>simp at hq
       have kept:=(hvs.take i).append (hvs.drop (i+1))
       have new:=kept.append zs
       have nlen:(rows.take i++rows.drop (i+1)).length=rows.length-1:=by simp;omega
       refine (hL.del w b rows.length cc i vs cur E fr hw hth hsz hc1 hvs.1 hvs.one (hvc b cur E fr hb hw) hin hro).mono ?_
       rintro e w' ⟨rfl,cur',a1,a2,a4,a5,a6,a7,a8⟩
       refine⟨_,rfl,?_⟩
       have r1:=new.rows a8
       have r2:aYx (okD c σ.heap β) w cur' N.ks.length (rows.take i++rows.drop (i+1)):=kept.rows fun q u hq=>a8 q u (by rw[List.getElem?_append_left (List.getElem?_eq_some_iff.1 hq).1];exact hq)
       have hd:=aWd (ts:=[]) hh hl hb (bLq hh hpin hnp hl hb hf) hf hw hth hsz a1 a2 a4 a5 a6 a7 (by rw[List.length_append,nlen];simp;omega) hc1 (by rw[nlen];omega) r1 r2
       rw[nlen]at hd
       exact hd
     ·exact (aA3 he).elim
    ·exact (aA3 he).elim
   ·exact (aA3 he).elim
  ·exact (aA3 he).elim
end Go.Proofs.YtigodjkegcibhaaGreatDoor.V
