/- The value-level interpreter over the model, part G: definitions, or lemmas that show that it is the model's. -/
import Derived.Test.YtajoeindkdhofaaGreatDoorVF
import Derived.OpenShut
import Derived.SizedLaws
import Derived.Carry
import Derived.ChangeOld
import Derived.Lib.LaidTab
set_option linter.unusedVariables false
set_option linter.unusedSimpArgs false
set_option linter.unusedSectionVars false
set_option linter.unnecessarySimpa false
namespace Go.Proofs.YtajoeindkdhofaaGreatDoor.V
inductive Fit (E:Env):K→C→Prop
 |int {k:IntKind} {n:Int}:k.min≤n→n≤k.max→Fit E (.int k) (.int k n)
 |bool {t:Bool}:Fit E .bool (.bool t)
 |str {s:List UInt8}:s.length≤reachBytes→Fit E .str (.str s)
 |sl {e:TypeId} {te:TI} {rows:List (List C)}:E.Ty e=some te→rows.length*te.bytes≤reachBytes→(∀ r,r∈rows→r.length=te.leaves.length) →
   (∀ r,r∈rows→∀ (j:Nat) (kd:K) (x:C),te.leaves[j]? =some kd→r[j]? =some x→Fit E kd x)→Fit E (.slice e) (.sl rows)
def aL9 (E:Env) (ks:List K) (cs:List C):Prop:=cs.length=ks.length∧∀ (j:Nat) (kd:K) (x:C),ks[j]? =some kd→cs[j]? =some x→Fit E kd x
theorem Fit.is {E:Env} {kd:K} {x:C} (h:Fit E kd x):x.is kd=true:=by cases h<;>simp[C.is]
theorem aL9.kinds {E:Env}:∀ {ks:List K} {cs:List C},aL9 E ks cs→aBf cs ks=true
 |[],[],_=>rfl
 |[],c::cs,h=>by simp[aL9]at h
 |k::ks,[],h=>by simp[aL9]at h
 |k::ks,c::cs,h=>by
  simp only[aBf,Bool.and_eq_true]
  exact⟨(h.2 0 k c rfl rfl).is,aL9.kinds ⟨by simpa using h.1,fun j kd x hk hx=>h.2 (j+1) kd x (by simpa using hk) (by simpa using hx)⟩⟩
def bFy (E:Env):List (Nat×TypeId)→Nat→Option (List K)
 |[],_=>some []
 |(o,t)::r,k=>if o=k then match E.Ty t with
  |some tf=>match bFy E r (k+tf.leaves.length)with
   |some ks=>some (tf.leaves++ks)
   |none=>none
  |none=>none
  else none
def aNv (E:Env):Nat→TypeId→Bool
 |0,_=>false
 |n+1,t=>match E.Ty t with
  |none=>false
  |some ti=>match ti.agg,ti.leaves with
   |false,[.int _] | false,[.bool] | false,[.str]=>true
   |false,[.slice e]=>(match E.Ty e with | some te=>decide (0<te.leaves.length) | none=>false)&&aNv E n e
   |true,ks=>decide (bFy E ti.fields 0=some ks)&&ti.fields.all fun p=>aNv E n p.2
   |_,_=>false
structure bVh (P:Program) (E:Env):Prop where
 cnt:∀ t ti fs,E.Ty t=some ti→ti.agg=true→P.underlying t=some (.struct fs)→fs.size=ti.fields.length
theorem aZm {α:Type} {Q:Nat→α→Prop}:∀ (n:Nat),(∀ i,i<n→∃ x,Q i x)→∃ l:List α,l.length=n∧∀ (i:Nat) (x:α),l[i]? =some x→Q i x
 |0,_=>⟨[],rfl,fun i x h=>by simp at h⟩
 |n+1,h=>by
  obtain⟨l,h1,h2⟩:=aZm n fun i hi=>h i (by omega)
  obtain⟨x,hx⟩:=h n (by omega)
  refine⟨l++[x],by simp[h1],fun i y hy=>?_⟩
  by_cases hi:i<l.length
  ·rw[List.getElem?_append_left hi]at hy;exact h2 i y hy
  ·rw[List.getElem?_append_right (by omega)]at hy
   have:i-l.length=0:=by have:=(List.getElem?_eq_some_iff.1 hy).1;simp at this;omega
   rw[this]at hy
   simp at hy
   subst hy
   have:i=n:=by omega
   subst this
   exact hx
section
variable {P:Program} {E:Env} {W:World} {H:Type} {enc:TypeId×Value→H}
abbrev aY1 (W:World):Nat→Prop:=fun b=>b<W.heap.size
def bSo (E:Env) (W:World) (ks:List K) (cs:List Value):Prop :=
 ∃ cl:List C,aL9 E ks cl∧cs.length=cl.length∧∀ (j:Nat) (v:Value) (x:C),cs[j]? =some v→cl[j]? =some x→Rep W (aY1 W) v x
theorem bJm (hE:aHi P E) {t:TypeId} {ti:TI} (h:E.Ty t=some ti):P.cellsOf t=ti.leaves.length∧P.bytesOf t=ti.bytes:=by
 obtain⟨i,z,h1,h2,h3,_⟩:=(hE.ty t ti h).info
 simp[Program.cellsOf,Program.bytesOf,h1,h2,h3]
theorem aNn {e:TypeId}:∀ {ds:List (DataW H)} {d:DataW H},d∈ds→∀ n,n∈d.weights P e→n∈DataW.weightsAll P e ds
 |[],d,h,_,_=>by cases h
 |x::ds,d,h,n,hn=>by
  simp only[DataW.weightsAll,List.mem_append]
  rcases List.mem_cons.1 h with rfl | h
  ·exact .inl hn
  ·exact .inr (aNn h n hn)
theorem bSh {a:Addr} {n:Nat} {cs:List Value} (h:W.cells? 0 a n=some cs):cs.length=n∧∀ i,i<n→cs[i]? =W.cell? (a.add i):=by
 simp only[World.cells?,Nat.zero_le,if_true]at h
 refine⟨by rw[mapM_some_length h];simp,fun i hi=>?_⟩
 exact (mapM_some_get h i i (by simp[hi])).symm
theorem bTf (hE:aHi P E) (hC:bVh P E):∀ (fuel n:Nat) (t:TypeId) (ti:TI) (cs:List Value) (d:DataW H) (ps:List MemPlace),aNv E n t=true→E.Ty t=some ti →
  DataW.trod enc P W 0 (fun _=>true) true fuel t cs=some (d,ps)→(∀ m,m∈d.weights P t→m≤reachBytes)→bSo E W ti.leaves cs:=by
 intro fuel
 induction fuel with
 |zero=>intro n t ti cs d ps _ _ ht;simp[DataW.trod]at ht
 |succ fuel ih =>
  intro n t ti cs d ps hp hti ht hw
  cases n with
  |zero=>simp[aNv]at hp
  |succ n =>
   have hT:=hE.ty t ti hti
   have one:∀ {kd:K} {v:Value} {x:C},ti.leaves=[kd]→cs=[v]→Fit E kd x→Rep W (aY1 W) v x→bSo E W ti.leaves cs:=fun {kd v x} h1 h2 h3 h4=>by
    rw[h1,h2]
    refine⟨[x],⟨rfl,fun j kd' x' hk hx=>?_⟩,rfl,fun j v' x' hv hx=>?_⟩
    ·cases j with
     |zero=>simp at hk hx;subst hk;subst hx;exact h3
     |succ j=>simp at hk
    ·cases j with
     |zero=>simp at hv hx;subst hv;subst hx;exact h4
     |succ j=>simp at hv
   simp only[aNv,hti]at hp
   cases hag:ti.agg with
   |false =>
    obtain⟨kd,dsc,hlv,hu,hk⟩:=hT.leaf hag
    rw[hag,hlv]at hp
    cases kd with
    |int k =>
     simp only[aCc]at hk
     subst hk
     match cs with
     |[]=>simp[DataW.trod,hu]at ht
     |[v] =>
      cases v<;>simp[DataW.trod,hu]at ht
      rename_i k' m
      obtain⟨⟨rfl,hwf⟩,_⟩:=ht
      simp only[Lit.wf,Bool.and_eq_true,decide_eq_true_eq]at hwf
      exact one hlv rfl (.int hwf.1 hwf.2) (.int _ _)
     |v::u::r=>cases v<;>simp[DataW.trod,hu]at ht
    |bool =>
     simp only[aCc]at hk
     subst hk
     match cs with
     |[]=>simp[DataW.trod,hu]at ht
     |[v] =>
      cases v<;>simp[DataW.trod,hu]at ht
      exact one hlv rfl .bool (.bool _)
     |v::u::r=>cases v<;>simp[DataW.trod,hu]at ht
    |str =>
     simp only[aCc]at hk
     subst hk
     match cs with
     |[]=>simp[DataW.trod,hu]at ht
     |[v] =>
      cases v<;>simp[DataW.trod,hu]at ht
      rename_i s
      obtain⟨_,rfl,_⟩:=ht
      exact one hlv rfl (.str (hw _ (by simp[DataW.weights]))) (.str s)
     |v::u::r=>cases v<;>simp[DataW.trod,hu]at ht
    |slice e =>
     simp only[aCc]at hk
     subst hk
     simp only[Bool.and_eq_true]at hp
     cases hte:E.Ty e with
     |none=>rw[hte]at hp;simp at hp
     |some te =>
      rw[hte]at hp
      simp only[decide_eq_true_eq]at hp
      obtain⟨hpos,hpe⟩:=hp
      obtain⟨hce,hbe⟩:=bJm hE hte
      match cs with
      |[]=>simp[DataW.trod,hu]at ht
      |v::u::r =>
       exfalso
       cases v<;>simp[DataW.trod,hu]at ht
      |[v] =>
       cases v with
       |slice a len cap =>
        cases a with
        |none =>
         have hz:len=0∧cap=0:=by
          cases len<;>cases cap<;>simp[DataW.trod,hu]at ht ⊢
         obtain⟨rfl,rfl⟩:=hz
         exact one hlv rfl (.sl hte (by simp) (fun r hr=>by cases hr) (fun r hr=>by cases hr)) (.emp _ _)
        |some a =>
         simp only[DataW.trod,hu]at ht
         split at ht
         ·rename_i hcond
          cases hel:(List.range len).mapM fun i=>(W.cells? 0 (a.add (i*P.cellsOf e)) (P.cellsOf e)).bind (DataW.trod enc P W 0 (fun _=>true) true fuel e)with
          |none=>rw[hel]at ht;simp at ht
          |some elems =>
           rw[hel]at ht
           simp only[Option.bind_some,if_true]at ht
           cases hsp:(List.range (cap-len)).mapM fun j=>(W.cells? 0 (a.add ((len+j)*P.cellsOf e)) (P.cellsOf e)).bind (DataW.trod enc P W 0 (fun _=>true) true fuel e)with
           |none=>rw[hsp]at ht;simp at ht
           |some rest =>
            rw[hsp]at ht
            simp only[Option.map_some,Option.some.injEq,Prod.mk.injEq]at ht
            obtain⟨rfl,rfl⟩:=ht
            have hlen:elems.length=len:=by rw[mapM_some_length hel];simp
            have hw0:(len+rest.length)*te.bytes≤reachBytes:=by
             have:=hw ((elems.length+rest.length)*P.bytesOf e) (by simp[DataW.weights,hu])
             rw[hlen,hbe]at this;exact this
            by_cases h0:len=0
            ·subst h0
             exact one hlv rfl (.sl hte (by simp) (fun r hr=>by cases hr) (fun r hr=>by cases hr)) (.emp _ _)
            ·have row:∀ i,i<len→∃ cl:List C,aL9 E te.leaves cl∧∀ j,j<te.leaves.length→∃ v,W.cell? ((a.add (i*te.leaves.length)).add j)=some v∧∀ x,cl[j]? =some x→Rep W (aY1 W) v x:=by
              intro i hi
              have hg:=mapM_some_get hel i i (by simp[hi])
              rw[hce]at hg
              cases hc:W.cells? 0 (a.add (i*te.leaves.length)) te.leaves.length with
              |none=>rw[hc]at hg;have:=(List.getElem?_eq_none_iff.1 hg.symm);omega
              |some ec =>
               rw[hc]at hg
               simp only[Option.bind_some]at hg
               obtain⟨c1,c2⟩:=bSh hc
               have hei:elems[i]? =some elems[i]:=List.getElem?_eq_getElem (by omega)
               rw[hei]at hg
               have hmem:elems[i].1∈elems.map (·.1):=List.mem_map.2 ⟨_,List.getElem_mem _,rfl⟩
               obtain⟨cl,f1,f2,f3⟩:=ih n e te ec elems[i].1 elems[i].2 hpe hte hg fun m hm=>hw m (by
                simp only[DataW.weights,hu,List.mem_cons,List.mem_append]
                exact .inr (.inl (aNn hmem m hm)))
               refine⟨cl,f1,fun j hj=>⟨ec[j]'(by omega),?_,fun x hx=>f3 j _ x (List.getElem?_eq_getElem (by omega)) hx⟩⟩
               rw[←c2 j hj]
               exact List.getElem?_eq_getElem (by omega)
             have hspot:a.spot=none:=by
              obtain⟨cl,_,h2⟩:=row 0 (by omega)
              obtain⟨v,hv,_⟩:=h2 0 hpos
              simp only[Nat.zero_mul]at hv
              have e1:(a.add 0).add 0=a:=by simp[Addr.add]
              rw[e1]at hv
              unfold World.cell? at hv
              split at hv
              ·split at hv
               ·cases hv
               ·rename_i h;simpa using h
              ·cases hv
             obtain⟨b,o,sp⟩:=a
             simp only at hspot
             subst hspot
             obtain⟨rows,r1,r2⟩:=aZm len row
             have hblt:b<W.heap.size:=by
              obtain⟨cl,_,h2⟩:=row 0 (by omega)
              obtain⟨v,hv,_⟩:=h2 0 hpos
              exact World.block_lt_of_cell? W _ (by simpa[Addr.add]using hv)
             refine one hlv rfl (.sl hte ?_ (fun r hr=>?_) (fun r hr j kd x hk hx=>?_)) (.sl b o len cap te.leaves.length rows (fun k=>(W.cell? ⟨b,o+k,none⟩).getD undef) r1.symm hcond.2.1 hblt hblt (fun r hr=>?_) (fun j hj=>?_) (fun i r j x hi hj=>?_))
             ·rw[r1];exact Nat.le_trans (Nat.mul_le_mul_right _ (by omega)) hw0
             ·obtain⟨i,hi⟩:=List.getElem?_of_mem hr
              exact (r2 i r hi).1.1
             ·obtain⟨i,hi⟩:=List.getElem?_of_mem hr
              exact (r2 i r hi).1.2 j kd x hk hx
             ·obtain⟨i,hi⟩:=List.getElem?_of_mem hr
              exact (r2 i r hi).1.1
             ·have hi:j / te.leaves.length<len:=by rw[Nat.div_lt_iff_lt_mul hpos];exact hj
              obtain⟨cl,_,h2⟩:=row _ hi
              obtain⟨v,hv,_⟩:=h2 (j % te.leaves.length) (Nat.mod_lt _ hpos)
              rw[aE5,aE5,Nat.add_assoc,Nat.mul_comm,Nat.div_add_mod]at hv
              rw[hv];rfl
             ·have hil:=(List.getElem?_eq_some_iff.1 hi).1
              obtain⟨q1,q2⟩:=r2 i r hi
              have hjl:=(List.getElem?_eq_some_iff.1 hj).1
              obtain⟨v,hv,hr⟩:=q2 j (by rw[←q1.1];exact hjl)
              rw[aE5,aE5,Nat.add_assoc]at hv
              rw[hv]
              exact hr x hj
         ·cases ht
       |_=>simp[DataW.trod,hu]at ht
    |_=>simp at hp
   |true =>
    obtain⟨fs,hu,_,hfs⟩:=hT.agg hag
    rw[hag]at hp
    simp only[Bool.and_eq_true,decide_eq_true_eq]at hp
    obtain⟨hlay,hall⟩:=hp
    obtain⟨hct,_⟩:=bJm hE hti
    simp only[DataW.trod,hu]at ht
    split at ht
    ·rename_i hlen
     cases hxs:fs.toList.mapM (fun f=>DataW.trod enc P W 0 (fun _=>true) true fuel f.type ((cs.drop f.offset).take (P.cellsOf f.type)))with
     |none=>rw[hxs]at ht;simp at ht
     |some xs =>
      rw[hxs]at ht
      simp only[Option.map_some,Option.some.injEq,Prod.mk.injEq]at ht
      obtain⟨rfl,rfl⟩:=ht
      have hcnt:=hC.cnt t ti fs hti hag hu
      -- field by field
      have go:∀ (fds:List Field) (fields:List (Nat×TypeId)) (k:Nat) (ks:List K) (xs:List (DataW H×List MemPlace)),fds.length=fields.length→(∀ (i o:Nat) (ft:TypeId),fields[i]? =some (o,ft)→∃ fd,fds[i]? =some fd∧fd.offset=o∧fd.type=ft) →
        bFy E fields k=some ks→(∀ p,p∈fields→aNv E n p.2=true)→fds.mapM (fun f=>DataW.trod enc P W 0 (fun _=>true) true fuel f.type ((cs.drop f.offset).take (P.cellsOf f.type)))=some xs →
        (∀ m,m∈DataW.weightsEach P (fds.map (·.type)) (xs.map (·.1))→m≤reachBytes)→∃ cl:List C,aL9 E ks cl∧∀ (j:Nat) (v:Value) (x:C),cs[k+j]? =some v→cl[j]? =some x→Rep W (aY1 W) v x:=by
       intro fds
       induction fds with
       |nil =>
        intro fields k ks xs hl _ hlay _ _ _
        have:fields=[]:=List.length_eq_zero_iff.1 hl.symm
        subst this
        simp only[bFy,Option.some.injEq]at hlay
        subst hlay
        exact⟨[],⟨rfl,fun j kd x hk=>by simp at hk⟩,fun j v x _ hx=>by simp at hx⟩
       |cons fd fds ihf =>
        intro fields k ks xs hl hal hlay hpl hm hwt
        cases fields with
        |nil=>simp at hl
        |cons p fields =>
         obtain⟨o,ft⟩:=p
         obtain⟨fd',h1,h2,h3⟩:=hal 0 o ft rfl
         simp only[List.getElem?_cons_zero,Option.some.injEq]at h1
         subst h1
         simp only[bFy]at hlay
         split at hlay
         ·rename_i hok
          subst hok
          split at hlay
          ·rename_i tf htf
           split at hlay
           ·rename_i ks' hks
            obtain rfl:=Option.some.inj hlay
            simp only[List.mapM_cons,Option.pure_def,Option.bind_eq_bind]at hm
            obtain⟨hcf,_⟩:=bJm hE htf
            cases hx:DataW.trod enc P W 0 (fun _=>true) true fuel fd.type ((cs.drop fd.offset).take (P.cellsOf fd.type))with
            |none=>rw[hx]at hm;simp at hm
            |some y =>
             rw[hx]at hm
             simp only[Option.bind_some]at hm
             cases hr:fds.mapM (fun f=>DataW.trod enc P W 0 (fun _=>true) true fuel f.type ((cs.drop f.offset).take (P.cellsOf f.type)))with
             |none=>rw[hr]at hm;simp at hm
             |some ys =>
              rw[hr]at hm
              obtain rfl:=Option.some.inj hm
              simp only[List.map_cons,DataW.weightsEach,List.mem_append]at hwt
              rw[h3]at hx
              obtain⟨cl1,a1,a2,a3⟩:=ih n ft tf _ y.1 y.2 (hpl _ List.mem_cons_self) htf hx fun m hm=>hwt m (.inl (by rw[h3];exact hm))
              obtain⟨cl2,b1,b2⟩:=ihf fields (o+tf.leaves.length) ks' ys (by simpa using hl) (fun i o' ft' hi=>by
               obtain⟨fd2,q1,q2⟩:=hal (i+1) o' ft' (by simpa using hi)
               exact⟨fd2,by simpa using q1,q2⟩) hks (fun p hp=>hpl p (List.mem_cons_of_mem _ hp)) hr fun m hm=>hwt m (.inr hm)
              refine⟨cl1++cl2,⟨by simp[a1.1,b1.1],fun j kd x hk hx=>?_⟩,fun j v x hv hx=>?_⟩
              ·by_cases hj:j<tf.leaves.length
               ·rw[List.getElem?_append_left hj]at hk
                rw[List.getElem?_append_left (by rw[a1.1];exact hj)]at hx
                exact a1.2 j kd x hk hx
               ·rw[List.getElem?_append_right (by omega)]at hk
                rw[List.getElem?_append_right (by rw[a1.1];omega),a1.1]at hx
                exact b1.2 _ kd x hk hx
              ·by_cases hj:j<tf.leaves.length
               ·rw[List.getElem?_append_left (by rw[a1.1];exact hj)]at hx
                refine a3 j v x ?_ hx
                rw[h2,hcf,List.getElem?_take_of_lt hj,List.getElem?_drop]
                exact hv
               ·rw[List.getElem?_append_right (by rw[a1.1];omega),a1.1]at hx
                refine b2 (j-tf.leaves.length) v x ?_ hx
                rw[Nat.add_assoc,show tf.leaves.length+(j-tf.leaves.length)=j by omega]
                exact hv
           ·cases hlay
          ·cases hlay
         ·cases hlay
      obtain⟨cl,g1,g2⟩:=go fs.toList ti.fields 0 ti.leaves xs (by simpa using hcnt) (fun i o ft hi=>by
       obtain⟨fd,q1,q2,q3⟩:=hfs i o ft hi
       exact⟨fd,by simpa using q1,q2,q3⟩) hlay (fun p hp=>List.all_eq_true.1 hall p hp) hxs (fun m hm=>hw m (by simp only[DataW.weights,hu];exact hm))
      exact⟨cl,g1,by rw[hlen,hct,g1.1],fun j v x hv hx=>g2 j v x (by simpa using hv) hx⟩
    ·cases ht
end
section
variable {P:Program} {E:Env} {W:World} {H:Type} {enc:TypeId×Value→H}
def bJ3 (E:Env) (t:TypeId):PTy:=match E.Ty t with | some ti=>.val ti.agg ti.leaves | none=>.val false []
theorem bY7 (hE:aHi P E) (hC:bVh P E) {n:Nat} {t:TypeId} {ti:TI} {v:Value} {d:DataW H} {ps:List MemPlace} {b0:Nat} (hp:aNv E n t=true) (hti:E.Ty t=some ti) (hval:Value.okWide P W .any b0 t v)
  (ht:DataW.Trod enc P W 0 (fun _=>true) true t v d ps) (hw:∀ m,m∈d.weights P t→m≤reachBytes):∃ cl:List C,aL9 E ti.leaves cl∧cBd W (aY1 W) ti.agg v cl:=by
 obtain⟨fuel,hf⟩:=ht
 obtain⟨cl,h1,h2,h3⟩:=bTf hE hC fuel n t ti _ d ps hp hti hf hw
 refine⟨cl,h1,?_⟩
 have hT:=hE.ty t ti hti
 cases hag:ti.agg with
 |true =>
  obtain⟨fs,hu,_⟩:=hT.agg hag
  simp only[Value.okWide,hu]at hval
  obtain⟨cs,rfl,_⟩:=hval
  have h2':cs.size=cl.length:=by simpa[Value.cells]using h2
  refine⟨cs,rfl,h2',fun j x hx=>?_⟩
  have hlt:j<cs.size:=by rw[h2'];exact (List.getElem?_eq_some_iff.1 hx).1
  exact⟨cs[j],Array.getElem?_eq_getElem hlt,h3 j _ x (by simp[Value.cells,hlt]) hx⟩
 |false =>
  obtain⟨kd,dsc,hlv,hu,hk⟩:=hT.leaf hag
  have hc:v.cells=#[v]:=by
   cases v with
   |agg cs =>
    exfalso
    cases kd<;>simp only[aCc]at hk
    ·subst hk;simp[Value.okWide,Cell.okWide,Cell.ok,hu]at hval
    ·subst hk;simp[Value.okWide,Cell.okWide,Cell.ok,hu]at hval
    ·subst hk;simp[Value.okWide,Cell.okWide,Cell.ok,hu]at hval
    ·subst hk;simp[Value.okWide,Cell.okWide,Cell.ok,hu]at hval
    ·obtain⟨e,rfl⟩:=hk;simp[Value.okWide,Cell.okWide,Cell.ok,hu]at hval
    ·obtain⟨a,b,c,rfl⟩:=hk;simp[Value.okWide,Cell.okWide,Cell.ok,hu]at hval
   |_=>rfl
  have hl1:cl.length=1:=by rw[h1.1,hlv];rfl
  match cl,hl1 with
  |[x],_=>exact⟨x,rfl,h3 0 v x (by rw[hc];rfl) rfl⟩
theorem bH1 (hE:aHi P E) (hC:bVh P E) {n:Nat}:∀ {ts:List TypeId} {vs:List Value} {ds:List (DataW H)} {ps:List MemPlace} {b0:Nat},(ts.all fun t=>aNv E n t)=true→(∀ (j:Nat) t v,ts[j]? =some t→vs[j]? =some v→Value.okWide P W .any b0 t v) →
  DataW.TrodAll enc P W 0 (fun _=>true) true ts vs ds ps→(∀ m,m∈DataW.weightsEach P ts ds→m≤reachBytes) →
  ∃ cs,aK8 P W (aY1 W) (ts.map (bJ3 E)) vs cs []∧aL9 E (aEy (ts.map (bJ3 E))) cs
 |[],vs,ds,ps,b0,_,_,ht,_=>by
  cases vs<;>cases ds<;>simp[DataW.TrodAll]at ht
  exact⟨[],.nil,rfl,fun j kd x hk=>by simp[aEy]at hk⟩
 |t::ts,vs,ds,ps,b0,hp,hval,ht,hw=>by
  obtain⟨v,vs',d,ds',p,q,rfl,rfl,rfl,h1,h2⟩:=ChangeShapes.trodAll_cons ht
  simp only[List.all_cons,Bool.and_eq_true]at hp
  cases hti:E.Ty t with
  |none=>exfalso;have:=hp.1;cases n<;>simp[aNv,hti]at this
  |some ti =>
   simp only[DataW.weightsEach,List.mem_append]at hw
   obtain⟨cl,f1,f2⟩:=bY7 hE hC hp.1 hti (hval 0 t v rfl rfl) h1 fun m hm=>hw m (.inl hm)
   obtain⟨cs,g1,g2⟩:=bH1 hE hC hp.2 (fun j t v ht hv=>hval (j+1) t v (by simpa using ht) (by simpa using hv)) h2 fun m hm=>hw m (.inr hm)
   refine⟨cl++cs,?_,?_⟩
   ·simp only[List.map_cons,bJ3,hti]
    exact .val f1.1 f2 g1
   ·simp only[List.map_cons,bJ3,hti,aEy]
    refine⟨by simp[f1.1,g2.1],fun j kd x hk hx=>?_⟩
    by_cases hj:j<ti.leaves.length
    ·rw[List.getElem?_append_left hj]at hk
     rw[List.getElem?_append_left (by rw[f1.1];exact hj)]at hx
     exact f1.2 j kd x hk hx
    ·rw[List.getElem?_append_right (by omega)]at hk
     rw[List.getElem?_append_right (by rw[f1.1];omega),f1.1]at hx
     exact g2.2 _ kd x hk hx
theorem aSu {W W':World} (hs:∀ b,b<W.heap.size→W'.heap[b]? =W.heap[b]?) (ho:W'.os=W.os) (hu:W'.output=W.output) (may:MemPlace→Prop):W.keptBut W' may:=by
 refine⟨ho,hu,fun i hi=>?_⟩
 rw[hs i hi]
 have:W.heap[i]? =some W.heap[i]:=Array.getElem?_eq_getElem hi
 rw[this]
 split<;>rename_i h1 h2
 ·simp only[Option.some.injEq]at h1 h2
  rw[h1]at h2
  simp only[Obj.cells.injEq]at h2
  obtain⟨rfl,rfl,rfl⟩:=h2
  exact⟨rfl,rfl,rfl,fun _ _=>rfl⟩
 ·simp only[Option.some.injEq]at h1 h2
  rw[h1]at h2
  simp only[Obj.map.injEq]at h2
  obtain⟨rfl,rfl⟩:=h2
  exact .inr ⟨rfl,rfl⟩
 ·rfl
theorem aP3 (hl:laidOutB P=true) {W':World} (hs:∀ b,b<W.heap.size→W'.heap[b]? =W.heap[b]?) (hsz:W.heap.size≤W'.heap.size):∀ {ts:List TypeId} {vs:List Value} {ds:List (DataW H)} {ps:List MemPlace},
  (ts.all fun t=>P.readableRec t&&decide (t<P.types.size))=true→DataW.TrodAll enc P W 0 (fun _=>true) true ts vs ds ps→(∀ x,x∈ps→x.block<W.heap.size)→DataW.TrodAll enc P W' 0 (fun b=>decide (b<W.heap.size)) true ts vs ds ps
 |[],vs,ds,ps,_,h,_=>by
  cases vs<;>cases ds<;>simp[DataW.TrodAll]at h ⊢
  exact h
 |t::ts,vs,ds,ps,hr,h,hlt=>by
  obtain⟨v,vs',d,ds',p,q,rfl,rfl,rfl,h1,h2⟩:=ChangeShapes.trodAll_cons h
  simp only[List.all_cons,Bool.and_eq_true,decide_eq_true_eq]at hr
  have hb:RowKit.Below W.heap.size W {W with heap:=W'.heap}:=⟨rfl,rfl,rfl,hsz,hs⟩
  have h1':=RowKit.Below.trod hl hr.1.1 hr.1.2 h1 hb fun x hx=>hlt x (List.mem_append_left _ hx)
  have h1'':=DataW.Trod.of_heap (w':=W') (by rfl) h1'
  exact⟨p,q,h1'',aP3 hl hs hsz hr.2 h2 (fun x hx=>hlt x (List.mem_append_right _ hx)),rfl⟩
theorem bFz {E : Env} (hE : aA9 P E) (hC : bVh P E) {f : FuncId} {fn : Func} {body : Code} {spec : aCh} {n : Nat} {s : ChangeSpec} {apart fresh handsOn : Bool} (hf : P.funcs[f]? = some fn) (hbody : fn.body = some body) (hname : (fn.name == "runtime.NumGoroutine") = false)
  (hS:aB0 P f ⟨fn.params.toList.map (bJ3 E),[⟨false,[(.bool,false)]⟩],false⟩ spec) (hplain:(fn.params.toList.all fun t=>aNv E n t)=true) (hl:laidOutB P=true)
  (hread:(fn.params.toList.all fun t=>P.readableRec t&&decide (t<P.types.size))=true) (hvars:s.vars=[]) {bt:TypeId} (hres:fn.resultTypes=#[bt]) (hbt:P.underlying bt=some .bool)
  (hfn:∀ (H:Type) (ds:List (DataW H)),ds.length=fn.params.size→s.fn H ds={results:=[.lit (.bool true)],args:=ds}) (hspec:∀ cs,aL9 E (aEy (fn.params.toList.map (bJ3 E))) cs→spec cs=some (true,[.bool true]))
  {W:World} {base:Nat} {args:Array Value} {ds gs:List (DataW H)} {before:List MemPlace} (hval:∀ (j:Nat) t v,fn.params[j]? =some t→args[j]? =some v→Value.okWide P W .any base t v)
  (hW:DataW.Whole enc P fn.params.toList s.vars apart W args.toList ds gs before) (hsz:(DataW.weightsEach P (fn.params.toList++s.plain.varTypes P) (ds++gs)).all (· ≤reachBytes)=true) (hG:aZo P W (aY1 W)) :
  Calls P f args W fun e W'=>∃ v,e=.returned v∧s.post enc P fn apart fresh handsOn false W args v W':=by
 have hW':=hW
 obtain⟨p,q,hA,hV,rfl,hfz,hnd⟩:=hW
 rw[hvars]at hV
 obtain⟨rfl,rfl⟩:=ChangeShapes.trodVars_none hV
 have hlens:args.toList.length=fn.params.toList.length∧ds.length=fn.params.toList.length:=by
  have:∀ {ts:List TypeId} {vs:List Value} {ds:List (DataW H)} {ps:List MemPlace},DataW.TrodAll enc P W 0 (fun _=>true) true ts vs ds ps→vs.length=ts.length∧ds.length=ts.length:=by
   intro ts
   induction ts with
   |nil=>intro vs ds ps h;cases vs<;>cases ds<;>simp[DataW.TrodAll]at h;exact⟨rfl,rfl⟩
   |cons t ts ih =>
    intro vs ds ps h
    obtain⟨v,vs',d,ds',p,q,rfl,rfl,rfl,h1,h2⟩:=ChangeShapes.trodAll_cons h
    have:=ih h2
    exact⟨by simp[this.1],by simp[this.2]⟩
  exact this hA
 have hweights:∀ m,m∈DataW.weightsEach P fn.params.toList ds→m≤reachBytes:=by
  have key:∀ (ts us:List TypeId) (ds:List (DataW H)),ds.length=ts.length→∀ m,m∈DataW.weightsEach P ts ds→m∈DataW.weightsEach P (ts++us) (ds++[]):=by
   intro ts us
   induction ts with
   |nil=>intro ds hd m hm;cases ds<;>simp[DataW.weightsEach]at hm
   |cons t ts ih =>
    intro ds hd m hm
    cases ds with
    |nil=>simp at hd
    |cons d ds =>
     simp only[List.cons_append,DataW.weightsEach,List.mem_append]at hm ⊢
     rcases hm with hm | hm
     ·exact .inl hm
     ·exact .inr (ih ds (by simpa using hd) m hm)
  intro m hm
  have:=List.all_eq_true.1 hsz m (key _ _ _ hlens.2 m hm)
  simpa using this
 obtain⟨cs,hargs,hfit⟩:=bH1 hE.ok hC hplain (fun j t v ht hv=>hval j t v (by simpa using ht) (by simpa using hv)) hA hweights
 have hgo:=hS W (aY1 W) [] args.toList cs [.bool true] (fun b hb=>⟨hb,by simp⟩) hG (fun i j b hb=>by simp at hb) hargs hfit.kinds (hspec cs hfit)
 have hnm : ¬ fn.name = "runtime.NumGoroutine" := by simpa using hname
 have hcalls:Calls P f args W fun e W'=>∃ v,e=.returned v∧bVi P W (aY1 W) [] ⟨fn.params.toList.map (bJ3 E),[⟨false,[(.bool,false)]⟩],false⟩ [.bool true] v W':=by
  rcases hgo with⟨_,h⟩ | ⟨v,w',h,_⟩
  ·simpa using h
  ·exfalso
   simp[callFunc,hf,hnm,hbody]at h
 refine hcalls.mono fun e W' ⟨v,he,ha⟩=>⟨v,he,?_⟩
 obtain⟨⟨vs,bs,cs1,cs2,okN,_,rfl,hcs,hrets,hboxes,_,_⟩,hsize,hframe,hos,hout⟩:=ha
 -- the result
 have hret:vs=[.bool true]:=by
  cases hrets with
  |agg h=>simp at h
  |one _ hlv hr =>
   cases hr
   cases hlv with
   |data hrep hlv =>
    cases hlv
    simp only[List.cons_append,List.nil_append,List.cons.injEq]at hcs
    obtain⟨rfl,_⟩:=hcs
    cases hrep
    rfl
 subst hret
 have hfr:∀ b,b<W.heap.size→W'.heap[b]? =W.heap[b]? :=fun b hb=>hframe b hb (by simp)
 have hsfn:=hfn H (ds++[]) (by simpa using hlens.2)
 refine⟨ds,[],p++[],[],p,[],hW',?_,?_,?_,aSu hfr hos hout _,fun h=>by cases h⟩
 ·rw[hsfn,hres]
  exact ChangeShapes.trodAll_mk1 (RowKit.shut_bool hbt true)
 ·rw[hsfn,List.append_nil]
  exact aP3 hl hfr hsize hread hA fun x hx=>hW'.lt x (by simpa using hx)
 ·rw[hvars,hsfn]
  rfl
end
def bOz:Value→K→Bool
 |.int k n,.int k'=>decide (k=k')&&decide (n=0)
 |.bool t,.bool=> !t
 |.string s,.str=>decide (s.size=0)
 |.slice none 0 0,.slice _=>true
 |.pointer none,.ptr=>true
 |.nilFunc,.func=>true
 |.nilIface,.other=>true
 |_,_=>false
theorem bOy {v:Value} {kd:K} (h:bOz v kd=true):v=aSl kd:=by
 unfold bOz at h
 split at h
 ·simp only[Bool.and_eq_true,decide_eq_true_eq]at h
  obtain⟨rfl,rfl⟩:=h
  rfl
 ·rename_i t
  cases t
  ·rfl
  ·cases h
 ·rename_i s
  have h0:s.size=0:=by simpa using h
  have:s=⟨#[]⟩:=by
   cases s with
   |mk d =>
    have:d.size=0:=h0
    have:d=#[]:=Array.eq_empty_of_size_eq_zero this
    rw[this]
  rw[this];rfl
 ·rfl
 ·rfl
 ·rfl
 ·rfl
 ·cases h
def aOx:List Value→List K→Bool
 |[],[]=>true
 |v::vs,k::ks=>bOz v k&&aOx vs ks
 |_,_=>false
theorem aO4:∀ {vs:List Value} {ks:List K},aOx vs ks=true→vs=ks.map aSl
 |[],[],_=>rfl
 |[],_::_,h=>by cases h
 |_::_,[],h=>by cases h
 |v::vs,k::ks,h=>by
  simp only[aOx,Bool.and_eq_true]at h
  simp only[List.map_cons]
  rw[bOy h.1,aO4 h.2]
def bA8:K→TypeDesc→Bool
 |.int k,.int k'=>decide (k=k')
 |.bool,.bool=>true
 |.str,.string=>true
 |.slice e,.slice e'=>decide (e=e')
 |.ptr,.pointer _=>true
 |.func,.func .. =>true
 |_,_=>false
theorem aYo {kd:K} {d:TypeDesc} (h:bA8 kd d=true):aCc kd d:=by
 unfold bA8 at h
 split at h
 ·have:_=_:=of_decide_eq_true h
  subst this;rfl
 ·rfl
 ·rfl
 ·have:_=_:=of_decide_eq_true h
  subst this;rfl
 ·exact⟨_,rfl⟩
 ·exact⟨_,_,_,rfl⟩
 ·cases h
def aQ8:List Field→List (Nat×TypeId)→Bool
 |[],[]=>true
 |f::fs,(o,t)::r=>decide (f.offset=o)&&decide (f.type=t)&&aQ8 fs r
 |_,_=>false
theorem aM4:∀ {fs:List Field} {fields:List (Nat×TypeId)},aQ8 fs fields=true→fs.length=fields.length∧∀ (i o:Nat) (ft:TypeId),fields[i]? =some (o,ft)→∃ fd,fs[i]? =some fd∧fd.offset=o∧fd.type=ft
 |[],[],_=>⟨rfl,fun i o ft h=>by simp at h⟩
 |[],_::_,h=>by cases h
 |_::_,[],h=>by cases h
 |f::fs,(o,t)::r,h=>by
  simp only[aQ8,Bool.and_eq_true,decide_eq_true_eq]at h
  obtain⟨h1,h2⟩:=aM4 h.2
  refine⟨by simp[h1],fun i o' ft hi=>?_⟩
  cases i with
  |zero =>
   simp only[List.getElem?_cons_zero,Option.some.injEq,Prod.mk.injEq]at hi
   exact⟨f,rfl,hi.1▸h.1.1,hi.2▸h.1.2⟩
  |succ i=>simpa using h2 i o' ft (by simpa using hi)
def aKp (P:Program):List Field→List K→Nat→Bool
 |[],[],_=>true
 | f :: fs, k :: ks, j => decide (f.name ≠ "_") && decide (f.offset = j) && (match P.underlying f.type with | some d => bA8 k d | none => false) && aKp P fs ks (j + 1)
 |_,_,_=>false
theorem aO2 {P : Program} : ∀ {fs : List Field} {ks : List K} {n : Nat}, aKp P fs ks n = true → fs.length = ks.length ∧ ∀ (j : Nat) (fd : Field), fs[j]? = some fd → fd.name ≠ "_" ∧ fd.offset = n + j ∧ ∃ kd d, ks[j]? = some kd ∧ P.underlying fd.type = some d ∧ aCc kd d
 |[],[],_,_=>⟨rfl,fun j fd h=>by simp at h⟩
 |[],_::_,_,h=>by cases h
 |_::_,[],_,h=>by cases h
 |f::fs,k::ks,n,h=>by
  simp only[aKp,Bool.and_eq_true,decide_eq_true_eq]at h
  obtain⟨⟨⟨h1,h2⟩,h3⟩,h4⟩:=h
  obtain⟨g1,g2⟩:=aO2 h4
  refine⟨by simp[g1],fun j fd hj=>?_⟩
  cases j with
  |zero =>
   simp only[List.getElem?_cons_zero,Option.some.injEq]at hj
   subst hj
   split at h3
   ·rename_i d hd
    exact⟨h1,by omega,k,d,rfl,hd,aYo h3⟩
   ·cases h3
  |succ j =>
   obtain⟨q1,q2,q3⟩:=g2 j fd (by simpa using hj)
   exact⟨q1,by omega,by simpa using q3⟩
def tyB (P:Program) (t:TypeId) (ti:TI):Bool :=
 (match P.info? t with
  |some i=>decide (i.size=ti.leaves.length)&&decide (i.bytes=ti.bytes)&&(match i.zero with | some z=>aOx z.cells.toList ti.leaves | none=>false)
  |none=>false) &&
 (match ti.agg with
  |true=>(match P.underlying t with
   |some (.struct fs)=>(fs.toList.mapM fun f=>(P.info? f.type).map fun i=>(f.offset,i.size)).isSome&&aQ8 fs.toList ti.fields
   |_=>false)
  |false=>(match ti.leaves,P.underlying t with
   |[kd],some d=>bA8 kd d
   |_,_=>false)) &&
 (!ti.eq||(!P.stoodInHeld t&& !P.eqGuardType P.depth t&&(match P.underlying t with
  |some (.struct fs)=>aKp P fs.toList ti.leaves 0
  |_=>false)))
theorem bVk {P:Program} {t:TypeId} {ti:TI} (h:tyB P t ti=true):bLw P t ti∧(ti.agg=true→∀ fs,P.underlying t=some (.struct fs)→fs.size=ti.fields.length):=by
 simp only[tyB,Bool.and_eq_true]at h
 obtain⟨⟨h1,h2⟩,h3⟩:=h
 refine⟨⟨?_,fun hag=>?_,fun hag=>?_,fun heq=>?_⟩,fun hag fs hu=>?_⟩
 ·split at h1
  ·rename_i i hi
   simp only[Bool.and_eq_true,decide_eq_true_eq]at h1
   obtain⟨⟨q1,q2⟩,q3⟩:=h1
   split at q3
   ·rename_i z hz
    exact⟨i,z,hi,q1,q2,hz,aO4 q3⟩
   ·cases q3
  ·cases h1
 ·rw[hag]at h2
  simp only at h2
  split at h2
  ·rename_i fs hu
   simp only[Bool.and_eq_true]at h2
   obtain⟨aBq,hp⟩:=Option.isSome_iff_exists.1 h2.1
   exact⟨fs,hu,⟨aBq,hp⟩,fun f o ft hf=>by
    obtain⟨fd,z1,z2⟩:=(aM4 h2.2).2 f o ft hf
    exact⟨fd,by simpa using z1,z2⟩⟩
  ·cases h2
 ·rw[hag]at h2
  simp only at h2
  split at h2
  ·rename_i kd d hl hu
   exact⟨kd,d,hl,hu,aYo h2⟩
  ·cases h2
 ·rw[heq]at h3
  simp only[Bool.not_true,Bool.false_or,Bool.and_eq_true,Bool.not_eq_true']at h3
  obtain⟨⟨q1,q2⟩,q3⟩:=h3
  refine⟨q1,q2,?_⟩
  split at q3
  ·rename_i fs hu
   obtain⟨z1,z2⟩:=aO2 q3
   exact⟨fs,hu,by simpa using z1,fun j fd hj=>by
    obtain⟨y1,y2,y3⟩:=z2 j fd (by simpa using hj)
    exact⟨y1,by omega,y3⟩⟩
  ·cases q3
 ·rw[hag]at h2
  simp only at h2
  rw[hu]at h2
  simp only[Bool.and_eq_true]at h2
  simpa using (aM4 h2.2).1
theorem aGl {α:Type} {t:TypeId} {x:α}:∀ {l:List (TypeId×α)},l.lookup t=some x→(t,x)∈l
 |[],h=>by cases h
 |(k,y)::l,h=>by
  by_cases hk:t=k
  ·subst hk
   simp[List.lookup]at h
   subst h
   exact List.mem_cons_self
  ·have hf:(t==k)=false:=by simpa using hk
   simp only[List.lookup,hf]at h
   exact List.mem_cons_of_mem _ (aGl h)
theorem bPb {P:Program} {l:List (TypeId×TI)} (h:(l.all fun p=>tyB P p.1 p.2)=true):(∀ t ti,bYo l t=some ti→bLw P t ti)∧∀ t ti fs,bYo l t=some ti→ti.agg=true→P.underlying t=some (.struct fs)→fs.size=ti.fields.length :=
 ⟨fun t ti ht=>(bVk (List.all_eq_true.1 h _ (aGl ht))).1,fun t ti fs ht hag hu=>(bVk (List.all_eq_true.1 h _ (aGl ht))).2 hag fs hu⟩
def cB7 (P:Program) (t:TypeId) (m:Nat) (e:TypeId) (te:TI):Bool :=
 (match P.underlying t with | some (.array m' e')=>m'==m&&e'==e | _=>false) &&
 (match P.info? t with | some i=>(match i.zero with | some z=>aOx z.cells.toList (List.replicate m te.leaves).flatten | none=>false) | none=>false)
theorem bY6 {P:Program} {t:TypeId} {m:Nat} {e:TypeId} {te:TI} (h:cB7 P t m e te=true):bYd P t m e te:=by
 simp only[cB7,Bool.and_eq_true]at h
 obtain⟨h1,h2⟩:=h
 refine⟨?_,?_⟩
 ·split at h1
  ·rename_i m' e' hu
   simp only[Bool.and_eq_true,beq_iff_eq]at h1
   obtain⟨rfl,rfl⟩:=h1
   exact hu
  ·cases h1
 ·split at h2
  ·rename_i i hi
   split at h2
   ·rename_i z hz
    refine⟨i,z,hi,hz,?_⟩
    rw[aO4 h2,List.map_flatten,List.map_replicate]
   ·cases h2
  ·cases h2
def bSl (P:Program) (tab:List (TypeId×TI)) (l:List (TypeId×Nat×TypeId)):Bool :=
 l.all fun p=>match bYo tab p.2.2 with | some te=>cB7 P p.1 p.2.1 p.2.2 te | none=>true
theorem bSk {P:Program} {tab:List (TypeId×TI)} {l:List (TypeId×Nat×TypeId)} (h:bSl P tab l=true):∀ t m e te,l.lookup t=some (m,e)→bYo tab e=some te→bYd P t m e te:=by
 intro t m e te h1 h2
 have:=List.all_eq_true.1 h _ (aGl h1)
 simp only[h2]at this
 exact bY6 this
def cB1 (l:List (Nat×String)):Nat→Option (List C):=fun g=>(l.lookup g).bind aVz
def glB (P:Program) (l:List (Nat×String)):Bool:=l.all fun p=>match P.globals[p.1]? with | some gi=>gi.name==p.2 | none=>false
theorem bW0 {P:Program} {l:List (Nat×String)} (h:glB P l=true):∀ g row,cB1 l g=some row→bSp P g row:=by
 intro g row hg
 unfold cB1 at hg
 cases hl:l.lookup g with
 |none=>rw[hl]at hg;cases hg
 |some nm =>
  rw[hl]at hg
  have:=List.all_eq_true.1 h _ (aGl hl)
  simp only at this
  split at this
  ·rename_i gi hgi
   have hn:gi.name=nm:=by simpa using this
   exact⟨gi,hgi,by rw[hn];exact hg⟩
  ·cases this
section
variable {α:Type} {E:Env} {I:Inl α}
theorem aZi (c:Code):aG3 c []=c:=by cases c<;>rfl
theorem aCa (c:Code) (k:Exit→St→T α):aC0 E I c [] k=k:=by cases c<;>rfl
inductive aG5:Code→List Pt→Code→Prop where
 |nil (c:Code):aG5 c [] c
 |sl {a b:Code} {p:List Pt} {x:Code}:aG5 a p x→aG5 (.seq a b) (.l::p) x
 |sr {a b:Code} {p:List Pt} {x:Code}:aG5 b p x→aG5 (.seq a b) (.r::p) x
 |cl {o:Operand} {a b:Code} {p:List Pt} {x:Code}:aG5 a p x→aG5 (.cond o a b) (.l::p) x
 |cr {o:Operand} {a b:Code} {p:List Pt} {x:Code}:aG5 b p x→aG5 (.cond o a b) (.r::p) x
 |b {id:Nat} {b:Code} {p:List Pt} {x:Code}:aG5 b p x→aG5 (.block id b) (.b::p) x
 |lp {b:Code} {n:Nat} {p:List Pt} {x:Code}:aG5 b p x→aG5 (.loop b) (.lp n::p) x
theorem aG5.at {c x:Code} {p:List Pt} (h:aG5 c p x):aG3 c p=x:=by
 induction h with
 |nil c=>exact aZi c
 |sl _ ih | sr _ ih | cl _ ih | cr _ ih | b _ ih | lp _ ih=>simpa only[aG3]using ih
theorem aG5.app {c x y:Code} {p q:List Pt} (h:aG5 c p x) (h2:aG5 x q y):aG5 c (p++q) y:=by
 induction h with
 |nil c=>exact h2
 |sl _ ih=>exact .sl (ih h2)
 |sr _ ih=>exact .sr (ih h2)
 |cl _ ih=>exact .cl (ih h2)
 |cr _ ih=>exact .cr (ih h2)
 |b _ ih=>exact .b (ih h2)
 |lp _ ih=>exact .lp (ih h2)
theorem aG5.rest {c x:Code} {p q:List Pt} (h:aG5 c p x):∀ (k:Exit→St→T α),aC0 E I c (p++q) k=aC0 E I x q (aC0 E I c p k):=by
 induction h with
 |nil c=>intro k;rw[aCa];rfl
 |sl _ ih | sr _ ih | cl _ ih | cr _ ih | b _ ih | lp _ ih=>intro k;simp only[List.cons_append,aC0,ih]
def aF0 (E:Env) (I:Inl α) (c:Code) (kf:Exit→St→T α) (p:List Pt) (n:Nat) (τ:St):T α :=
 match aG3 c p with
 |.loop b=>aQx (aFa E I b) (St.norm E (aFm b)) n τ (aC0 E I c p kf)
 |_=>.bad
theorem aLc {c:Code} {kf:Exit→St→T α}:∀ (a:Code) (p:List Pt) (σ:St),aG5 c p a→aF5 E I (aF0 E I c kf) a p σ (aC0 E I c p kf)=aFa E I a σ (aC0 E I c p kf):=by
 intro a
 induction a with
 |seq a b iha ihb =>
  intro p σ h
  simp only[aF5,aFa]
  have hl:aG5 c (p++[.l]) a:=h.app (.sl (.nil a))
  have hr:aG5 c (p++[.r]) b:=h.app (.sr (.nil b))
  have el:aC0 E I c (p++[.l]) kf=aX6 (fun σ'=>aFa E I b σ' (aC0 E I c p kf)) (aC0 E I c p kf):=by
   rw[h.rest];simp only[aC0,aCa]
  have er:aC0 E I c (p++[.r]) kf=aC0 E I c p kf:=by rw[h.rest];simp only[aC0,aCa]
  have e2:(fun σ'=>aF5 E I (aF0 E I c kf) b (p++[.r]) σ' (aC0 E I c p kf))=fun σ'=>aFa E I b σ' (aC0 E I c p kf):=by
   funext σ'
   have:=ihb (p++[.r]) σ' hr
   rw[er]at this
   exact this
  rw[e2,←el]
  exact iha _ _ hl
 |cond o a b iha ihb =>
  intro p σ h
  simp only[aF5,aFa]
  have el:aC0 E I c (p++[.l]) kf=aC0 E I c p kf:=by rw[h.rest];simp only[aC0,aCa]
  have er:aC0 E I c (p++[.r]) kf=aC0 E I c p kf:=by rw[h.rest];simp only[aC0,aCa]
  split
  ·rename_i ho
   have:=iha (p++[.l]) σ (h.app (.cl (.nil a)))
   rw[el]at this
   exact this
  ·rename_i ho
   have:=ihb (p++[.r]) σ (h.app (.cr (.nil b)))
   rw[er]at this
   exact this
  ·rfl
 |block id b ih =>
  intro p σ h
  simp only[aF5,aFa]
  have e:aC0 E I c (p++[.b]) kf=aWe id (aC0 E I c p kf):=by rw[h.rest];simp only[aC0,aCa]
  rw[←e]
  exact ih _ _ (h.app (.b (.nil b)))
 |loop b ih =>
  intro p σ h
  simp only[aF5,aFa,aF0,h.at]
 |_=>intros;rfl
theorem bL7 {c:Code} {kf:Exit→St→T α} {a:Code}:∀ (p q:List Pt),(∃ x,aG5 a p x)→aG5 c q a→aJ8 E I (aF0 E I c kf) a p q (aC0 E I c q kf)=aC0 E I a p (aC0 E I c q kf):=by
 intro p q hp
 obtain⟨x,hp⟩:=hp
 induction hp generalizing q with
 |nil a=>intro h;rw[aCa];cases a<;>rfl
 |@sl a b p x hp ih =>
  intro h
  simp only[aJ8,aC0]
  have el:aC0 E I c (q++[.l]) kf=aX6 (fun σ'=>aFa E I b σ' (aC0 E I c q kf)) (aC0 E I c q kf):=by
   rw[h.rest];simp only[aC0,aCa]
  have er:aC0 E I c (q++[.r]) kf=aC0 E I c q kf:=by rw[h.rest];simp only[aC0,aCa]
  have e2:(fun σ'=>aF5 E I (aF0 E I c kf) b (q++[.r]) σ' (aC0 E I c q kf))=fun σ'=>aFa E I b σ' (aC0 E I c q kf):=by
   funext σ'
   have:=aLc (E:=E) (I:=I) (kf:=kf) b (q++[.r]) σ' (h.app (.sr (.nil b)))
   rw[er]at this
   exact this
  rw[e2,←el]
  exact ih _ (h.app (.sl (.nil a)))
 |@sr a b p x hp ih =>
  intro h
  simp only[aJ8,aC0]
  have er:aC0 E I c (q++[.r]) kf=aC0 E I c q kf:=by rw[h.rest];simp only[aC0,aCa]
  rw[←er]
  exact ih _ (h.app (.sr (.nil b)))
 |@cl o a b p x hp ih =>
  intro h
  simp only[aJ8,aC0]
  have er:aC0 E I c (q++[.l]) kf=aC0 E I c q kf:=by rw[h.rest];simp only[aC0,aCa]
  rw[←er]
  exact ih _ (h.app (.cl (.nil a)))
 |@cr o a b p x hp ih =>
  intro h
  simp only[aJ8,aC0]
  have er:aC0 E I c (q++[.r]) kf=aC0 E I c q kf:=by rw[h.rest];simp only[aC0,aCa]
  rw[←er]
  exact ih _ (h.app (.cr (.nil b)))
 |@b id b p x hp ih =>
  intro h
  simp only[aJ8,aC0]
  have er:aC0 E I c (q++[.b]) kf=aWe id (aC0 E I c q kf):=by rw[h.rest];simp only[aC0,aCa]
  rw[←er]
  exact ih _ (h.app (.b (.nil b)))
 |@lp b n p x hp ih =>
  intro h
  simp only[aJ8,aC0]
  have er:aC0 E I c (q++[.lp n]) kf=aX6 (fun σ'=>aQx (aFa E I b) (St.norm E (aFm b)) n (St.norm E (aFm b) σ') (aC0 E I c q kf)) (aC0 E I c q kf):=by rw[h.rest];simp only[aC0,aCa]
  have e2:(fun σ'=>aF0 E I c kf q n (St.norm E (aFm b) σ'))=fun σ'=>aQx (aFa E I b) (St.norm E (aFm b)) n (St.norm E (aFm b) σ') (aC0 E I c q kf):=by
   funext σ'
   simp only[aF0,h.at]
  rw[e2,←er]
  exact ih _ (h.app (.lp (.nil b)))
end
theorem bKn (E:Env) (I:Inl (List C)) (sig:Sig) (fn:Func) {c:Code} (hc:fn.body=some c) :
  aBn E I sig fn=aF0 {E with nt:=fn.ntmps} I c (bHp E sig fn):=by
 funext p n τ
 simp only[aBn,hc,aF0]
 cases aG3 c p<;>rfl
def aSm:Code→List Pt→Bool
 |_,[]=>true
 |.seq a _,.l::p=>aSm a p
 |.seq _ b,.r::p=>aSm b p
 |.cond _ a _,.l::p=>aSm a p
 |.cond _ _ b,.r::p=>aSm b p
 |.block _ b,.b::p=>aSm b p
 |.loop b,.lp _::p=>aSm b p
 |_,_=>false
theorem aYq:∀ (c:Code) (p:List Pt),aSm c p=true→aG5 c p (aG3 c p):=by
 intro c p
 induction p generalizing c with
 |nil=>intro _;rw[aZi];exact .nil c
 |cons x p ih =>
  intro h
  cases c<;>cases x<;>first | (simp[aSm]at h;done) | skip
  ·exact .sl (ih _ h)
  ·exact .sr (ih _ h)
  ·exact .cl (ih _ h)
  ·exact .cr (ih _ h)
  ·exact .b (ih _ h)
  ·exact .lp (ih _ h)
theorem aAd (E:Env) (I:Inl (List C)) (sig:Sig) (fn:Func) (cs:List C):bA7 E I sig fn cs=aAm E I sig fn (aBn E I sig fn) cs:=by
 unfold bA7 aAm
 split
 ·rename_i b ws σ c h1 h2
  split
  ·congr 1
   congr 1
   funext ws'
   rw[bKn E I sig fn h2]
   have:=aLc (E:={E with nt:=fn.ntmps}) (I:=I) (kf:=bHp E sig fn) c [] {σ with slots:=(List.range ws'.length).zip ws'} (.nil c)
   rw[aCa]at this
   exact this.symm
  ·rfl
 ·rfl
theorem aAz (E:Env) (I:Inl (List C)) (sig:Sig) (fn:Func) (p:List Pt) (n:Nat) (τ:St) (h:(match fn.body with | some c=>aSm c p | none=>false)=true) :
  aBn E I sig fn p (n+1) τ=aBk E I sig fn (aBn E I sig fn) p n τ:=by
 cases hc:fn.body with
 |none=>rw[hc]at h;cases h
 |some c =>
  rw[hc]at h
  have hg:=aYq c p h
  have hv:aBk E I sig fn (aBn E I sig fn) p n τ=match aG3 c p with
   |.loop b=>aF5 {E with nt:=fn.ntmps} I (aBn E I sig fn) b (p++[.lp n]) τ (aJ8 {E with nt:=fn.ntmps} I (aBn E I sig fn) c (p++[.lp n]) [] (bHp E sig fn))
   |_=>.bad:=by
   simp only[aBk,hc]
   cases aG3 c p<;>rfl
  rw[hv,bKn E I sig fn hc]
  simp only[aF0]
  split
  ·rename_i b hb
   rw[hb]at hg
   have hg2:aG5 c (p++[.lp n]) b:=hg.app (.lp (.nil b))
   have e1:=bL7 (E:={E with nt:=fn.ntmps}) (I:=I) (kf:=bHp E sig fn) (p++[.lp n]) [] ⟨b,hg2⟩ (.nil c)
   rw[aCa]at e1
   have e2:=aLc (E:={E with nt:=fn.ntmps}) (I:=I) (kf:=bHp E sig fn) b (p++[.lp n]) τ hg2
   have e4:aJ8 {E with nt:=fn.ntmps} I (aF0 {E with nt:=fn.ntmps} I c (bHp E sig fn)) c (p++[.lp n]) [] (bHp E sig fn)=aC0 {E with nt:=fn.ntmps} I c (p++[.lp n]) (bHp E sig fn):=e1
   show aQx _ _ (n+1) τ _=aF5 _ _ (aF0 {E with nt:=fn.ntmps} I c (bHp E sig fn)) b _ τ (aJ8 _ _ (aF0 {E with nt:=fn.ntmps} I c (bHp E sig fn)) c _ [] _)
   rw[e4,e2,hg.rest]
   simp only[aQx,aC0,aCa]
  ·rfl
theorem aAi {x:Int} (h1: -9223372036854775808≤x) (h2:x≤9223372036854775807):IntKind.i64.wrap x=x:=by
 simp only[IntKind.wrap,IntKind.bits,IntKind.signed,IntKind.min,IntKind.max]
 first
  |(split<;>omega)
  |(simp;omega)
  |omega
theorem bA3 {x:Int} (h1:0≤x) (h2:x≤18446744073709551615):IntKind.u64.wrap x=x:=by
 simp only[IntKind.wrap,IntKind.bits,IntKind.signed,IntKind.min,IntKind.max]
 first
  |(split<;>omega)
  |(simp;omega)
  |omega
theorem aOy {x:Int} (h1:0≤x) (h2:x≤255):IntKind.u8.wrap x=x:=by
 simp only[IntKind.wrap,IntKind.bits,IntKind.signed,IntKind.min,IntKind.max]
 first
  |(split<;>omega)
  |(simp;omega)
  |omega
theorem bHr {x:Int} (h1:0≤x) (h2:x≤4294967295):IntKind.u32.wrap x=x:=by
 simp only[IntKind.wrap,IntKind.bits,IntKind.signed,IntKind.min,IntKind.max]
 first
  |(split<;>omega)
  |(simp;omega)
  |omega
theorem bDl (x:Int): -9223372036854775808≤IntKind.i64.wrap x∧IntKind.i64.wrap x≤9223372036854775807:=by
 simp only[IntKind.wrap,IntKind.bits,IntKind.signed,IntKind.min,IntKind.max]
 first
  |(split<;>omega)
  |(simp;omega)
  |omega
theorem aBh (l:List UInt8):(aAc l).length=l.length:=by simp[aAc]
theorem bL5 (l:List UInt8) (j:Nat) (h:j<l.length):(aAc l).getD j []=[C.int .u8 ((l.getD j 0).toNat:Int)]:=by
 simp[aAc,List.getD_eq_getElem?_getD,h]
theorem bL4 (l:List UInt8) (j:Nat) (v:Int) (h1:0≤v) (h2:v≤255):(aAc l).set j [C.int .u8 v]=aAc (l.set j (UInt8.ofNat v.toNat)):=by
 have h3:max v 0 % 256=v:=by omega
 simp[aAc,List.map_set,h3]
theorem aF7 (l m:List UInt8):aAc l++aAc m=aAc (l++m):=by simp[aAc]
theorem bBg (v:Int) (h1:0≤v) (h2:v≤255):[[C.int .u8 v]]=aAc [UInt8.ofNat v.toNat]:=by
 have:=bL4 [0] 0 v h1 h2
 simpa[aAc]using this
theorem bQb (l:List UInt8) (n:Nat):(aAc l).drop n=aAc (l.drop n):=by simp[aAc,List.map_drop]
theorem aE3 (l:List UInt8):(aAc l).all aG4=true:=by
 simp[aAc,aG4,C.is]
theorem aGu (l:List UInt8):aBv (aAc l)=l:=by
 simp[aAc,aBv,C.toInt,Function.comp_def]
def bKu {α:Type} (S:FuncId→List W→St→Option (Bool×W×St)):Inl α:=fun g _ ws σ k=>match S g ws σ with
 |some (b,x,σ')=>.must b (k x σ' (some []))
 |none=>.bad
def cAo (x:W) (s:St) (_:Option (List Nat)):T (W×St):=.ret (x,s)
def cAi (P:Program) (S:FuncId→List W→St→Option (Bool×W×St)):Prop :=
 ∀ g ws σ x σ',S g ws σ=some (true,x,σ')→∃ E n s fn,P.funcs[g]? =some fn∧aA9 P E∧(aVh E n g fn ws σ cAo).eval=some (x,s)∧s.heap=σ'.heap∧s.next=σ'.next∧s.pins=σ'.pins∧∀ id,id<σ.next→σ'.heap.lookup id=σ.heap.lookup id
theorem bDu {α:Type} {P:Program} {S:FuncId→List W→St→Option (Bool×W×St)} (hS:cAi P S):∀ c:Ctx,c.P=P→aYi c (bKu (α:=α) S):=by
 intro c hc g fn ws σ k r hg he
 subst hc
 unfold bKu at he
 cases hs:S g ws σ with
 |none=>rw[hs]at he;exact (aA7 he).elim
 |some p =>
  obtain⟨b,x,σ'⟩:=p
  rw[hs]at he
  obtain⟨hb,he⟩:=aB6 he
  subst hb
  obtain⟨E,n,s,fn',hg',hE,hev,h1,h2,h3,hkeep⟩:=hS g ws σ x σ' hs
  rw[hg]at hg'
  obtain rfl:=Option.some.inj hg'
  obtain⟨x',s',ts,h4,_,h5,h6,h7⟩:=bLe (α:=W×St) n hE g fn ws σ cAo (x,s) hg hev
  have h4:(x',s')=(x,s):=Option.some.inj h4
  obtain⟨rfl,rfl⟩:=Prod.mk.inj h4
  have est:({s' with slots:=σ.slots}:St)={σ' with slots:=σ.slots}:=by
   cases s';cases σ'
   simp only at h1 h2 h3
   subst h1;subst h2;subst h3
   rfl
  refine⟨x',σ',some [],he,(fun l _ id hid _=>hkeep id hid),by rw[←h3];exact h5,h6,fun β w vals a1 a2 a3 a4 a5=>?_⟩
  have:=h7 β w vals a1 a2 a3 a4 a5
  rw[est]at this
  exact this
def inE (E:Env) (fn:Func):Env:={E with nt:=fn.ntmps,ren:=false}
def inK (E:Env) (σ:St) (fn:Func):Exit→St→T (W×St):=fun e σ'=>match e with
 |.normal | .ret=>match (bJ0 (inE E fn) σ' fn.results).bind bYg with
  |some x=>cAo x {σ' with pins:=σ.pins} none
  |none=>.bad
 |_=>.bad
def cAn (E:Env) (I:Inl (W×St)) (fn:Func) (H:List Pt→Nat→St→T (W×St)) (ws:List W) (σ:St):T (W×St) :=
 if ws.length≤fn.ntmps then
  match fn.body with
  |some c=>aF5 (inE E fn) I H c [] {σ with slots:=(List.range ws.length).zip ws} (inK E σ fn)
  |none=>.bad
 else .bad
def aHj (E:Env) (I:Inl (W×St)) (fn:Func) (σ:St) (p:List Pt) (n:Nat) (τ:St):T (W×St) :=
 match fn.body with
 |some c=>aF0 (inE E fn) I c (inK E σ fn) p n τ
 |none=>.bad
def aT2 (E:Env) (I:Inl (W×St)) (fn:Func) (σ:St) (H:List Pt→Nat→St→T (W×St)) (p:List Pt) (n:Nat) (τ:St):T (W×St) :=
 match fn.body with
 |some c=>match aG3 c p with
  |.loop b=>aF5 (inE E fn) I H b (p++[.lp n]) τ (aJ8 (inE E fn) I H c (p++[.lp n]) [] (inK E σ fn))
  |_=>.bad
 |none=>.bad
theorem bXs (E:Env) (n:Nat) (g:FuncId) (fn:Func) (ws:List W) (σ:St):aVh E (n+1) g fn ws σ cAo=cAn E (aVh (inE E fn) n) fn (aHj E (aVh (inE E fn) n) fn σ) ws σ:=by
 unfold cAn
 simp only[aVh]
 split
 ·cases hb:fn.body with
  |none=>rfl
  |some c =>
   have e1:aHj E (aVh (inE E fn) n) fn σ=aF0 (inE E fn) (aVh (inE E fn) n) c (inK E σ fn):=by
    funext p m τ;simp only[aHj,hb]
   have:=aLc (E:=inE E fn) (I:=aVh (inE E fn) n) (kf:=inK E σ fn) c [] {σ with slots:=(List.range ws.length).zip ws} (.nil c)
   rw[aCa]at this
   rw[e1]
   exact this.symm
 ·rfl
theorem bP7 (E:Env) (I:Inl (W×St)) (fn:Func) (σ:St) (p:List Pt) (n:Nat) (τ:St) (h:(match fn.body with | some c=>aSm c p | none=>false)=true) :
  aHj E I fn σ p (n+1) τ=aT2 E I fn σ (aHj E I fn σ) p n τ:=by
 cases hc:fn.body with
 |none=>rw[hc]at h;cases h
 |some c =>
  rw[hc]at h
  have hg:=aYq c p h
  have e0:aHj E I fn σ=aF0 (inE E fn) I c (inK E σ fn):=by
   funext p m τ;simp only[aHj,hc]
  have hv:aT2 E I fn σ (aHj E I fn σ) p n τ=match aG3 c p with
   |.loop b=>aF5 (inE E fn) I (aHj E I fn σ) b (p++[.lp n]) τ (aJ8 (inE E fn) I (aHj E I fn σ) c (p++[.lp n]) [] (inK E σ fn))
   |_=>.bad:=by
   simp only[aT2,hc]
  rw[hv,e0]
  cases hb:aG3 c p with
  |loop b =>
   rw[hb]at hg
   have hg2:aG5 c (p++[.lp n]) b:=hg.app (.lp (.nil b))
   have e1:=bL7 (E:=inE E fn) (I:=I) (kf:=inK E σ fn) (p++[.lp n]) [] ⟨b,hg2⟩ (.nil c)
   rw[aCa]at e1
   have e2:=aLc (E:=inE E fn) (I:=I) (kf:=inK E σ fn) b (p++[.lp n]) τ hg2
   have e4:aJ8 (inE E fn) I (aF0 (inE E fn) I c (inK E σ fn)) c (p++[.lp n]) [] (inK E σ fn)=aC0 (inE E fn) I c (p++[.lp n]) (inK E σ fn):=e1
   have e5:aF0 (inE E fn) I c (inK E σ fn) p (n+1) τ=aQx (aFa (inE E fn) I b) (St.norm (inE E fn) (aFm b)) (n+1) τ (aC0 (inE E fn) I c p (inK E σ fn)):=by simp only[aF0,hb]
   rw[e5]
   show _=aF5 _ _ (aF0 (inE E fn) I c (inK E σ fn)) b _ τ (aJ8 _ _ (aF0 (inE E fn) I c (inK E σ fn)) c _ [] _)
   rw[e4,e2,hg.rest]
   simp only[aQx,aC0,aCa]
  |_=>simp only[aF0,hb]
noncomputable def T.ev {α:Type} (x:T α):Option α:=T.rec (motive:=fun _=>Option α) (fun a=>some a) none (fun t _ _ y n=>Bool.rec n y t) (fun t _ n=>Bool.rec none n t) x
theorem bS8 {α:Type}:∀ x:T α,x.ev=x.eval
 |.ret a=>rfl
 |.bad=>rfl
 |.ask true y n=>bS8 y
 |.ask false y n=>bS8 n
 |.must true n=>bS8 n
 |.must false n=>rfl
theorem aAo {α:Type} {x y:T α} (h:x.ev=y.ev):x.eval=y.eval:=by rw[←bS8,←bS8];exact h
def bRu (P:Program):Bool:=(List.range P.globals.size).all fun i=>match P.globals[i]? with
 |some gi=>(aVz gi.name).isNone||decide (P.globalNamed gi.name=some i)
 |none=>true
theorem bCo {s : String} {row : List C} (h : aVz s = some row) : (s = "math/bits.deBruijn32tab" ∧ row = u8s bPj) ∨ (s = "math/bits.deBruijn64tab" ∧ row = u8s bPi) ∨ (s = "internal/strconv.uint64pow10" ∧ row = cBa bDt) := by
 unfold aVz at h
 split at h
 ·exact .inl ⟨‹_›,(Option.some.inj h).symm⟩
 ·split at h
  ·exact .inr (.inl ⟨‹_›,(Option.some.inj h).symm⟩)
  ·split at h
   ·exact .inr (.inr ⟨‹_›,(Option.some.inj h).symm⟩)
   ·cases h
theorem bRv {P : Program} {W : World} (hU : bRu P = true) (h1 : Lib.TabIs P W "math/bits.deBruijn32tab" .u8 bPj) (h2 : Lib.TabIs P W "math/bits.deBruijn64tab" .u8 bPi) (h3 : Lib.TabIs P W "internal/strconv.uint64pow10" .u64 bDt) :
  aZo P W (fun b=>b<W.heap.size):=by
 have key:∀ (nm:String) (k:IntKind) (zs:List Int) (g:Nat),0<zs.length→P.globalNamed nm=some g→Lib.TabIs P W nm k zs →
   g<W.heap.size∧∀ (j:Nat) (x:C),(zs.map (C.int k))[j]? =some x→∃ u,W.cell? ⟨g,j,none⟩=some u∧Rep W (fun b=>b<W.heap.size) u x:=by
  intro nm k zs g hz hg ht
  refine⟨?_,fun j x hx=>?_⟩
  ·have:=ht.cell hg 0 hz
   unfold World.cell? at this
   cases hh:W.heap[g]? with
   |none=>simp[hh]at this
   |some o=>exact (Array.getElem?_eq_some_iff.1 hh).1
  ·rw[List.getElem?_map]at hx
   cases hj:zs[j]? with
   |none=>rw[hj]at hx;cases hx
   |some z =>
    rw[hj]at hx
    obtain rfl:=Option.some.inj hx
    have hlt:=(List.getElem?_eq_some_iff.1 hj).1
    refine⟨_,ht.cell hg j hlt,?_⟩
    have:zs.getD j 0=z:=by simp[List.getD_eq_getElem?_getD,hj]
    rw[this]
    exact .int _ _
 intro g row ⟨gi,hgi,hrow⟩
 have hg:P.globalNamed gi.name=some g:=by
  have hlt:=(Array.getElem?_eq_some_iff.1 hgi).1
  have:=List.all_eq_true.1 hU g (List.mem_range.2 hlt)
  rw[hgi]at this
  simp only[hrow,Option.isNone_some,Bool.false_or,decide_eq_true_eq]at this
  exact this
 rcases bCo hrow with⟨hn,rfl⟩ | ⟨hn,rfl⟩ | ⟨hn,rfl⟩
 ·rw[hn]at hg;exact key _ _ _ g (by decide) hg h1
 ·rw[hn]at hg;exact key _ _ _ g (by decide) hg h2
 ·rw[hn]at hg;exact key _ _ _ g (by decide) hg h3
def aPw:List Bool→List W→List W
 |b::bs,.l (.sl rows)::ws=>.l (.sn b rows)::aPw bs ws
 |bs,w::ws=>w::aPw bs ws
 |_,[]=>[]
def aPx:List Bool→List C→Bool
 |b::bs,.sl rows::cs=>(!b||rows.isEmpty)&&aPx bs cs
 |[],.sl _::_=>false
 |bs,_::cs=>aPx bs cs
 |[],[]=>true
 |_::_,[]=>false
def bLb:PTy→Bool
 |.val false [_]=>true
 |_=>false
def bDq (E:Env) (I:Inl (List C)) (bs:List Bool) (sig:Sig) (fn:Func) (cs:List C):T (List C) :=
 match aDx E sig.params cs {slots:=[],heap:=[],next:=0,pins:=[]},fn.body with
 |some (b,ws,[],σ),some c =>
  if ws.length≤fn.ntmps then
   .must b (bGz (aPw bs ws) fun ws=>aFa {E with nt:=fn.ntmps} I c {σ with slots:=(List.range ws.length).zip ws} (bHp E sig fn))
  else .bad
 |_,_=>.bad
theorem bO1 {cs:List C} {e:TypeId} (h:(aH6 cs 0 (.slice e)).1=true):∃ rows cs',cs=.sl rows::cs'∧(aH6 cs 0 (.slice e)).2=.sl rows:=by
 cases cs with
 |nil=>simp[aH6]at h
 |cons c cs =>
  cases c<;>simp[aH6,C.is]at h
  exact⟨_,_,rfl,rfl⟩
theorem bO2 {cs:List C} {kd:K} (h:(aH6 cs 0 kd).1=true) (hk:∀ e,kd≠.slice e):∃ c cs',cs=c::cs'∧(∀ rows,c≠.sl rows)∧∀ rows,(aH6 cs 0 kd).2≠.sl rows:=by
 cases cs with
 |nil=>cases kd<;>simp[aH6]at h
 |cons c cs =>
  refine⟨c,cs,rfl,fun rows he=>?_,fun rows he=>?_⟩
  ·subst he
   cases kd<;>simp[aH6,C.is]at h
   exact absurd rfl (hk _)
  ·cases kd<;>simp[aH6]at he
   ·exact absurd rfl (hk _)
   ·split at he<;>cases he
   ·split at he<;>cases he
theorem aV9 {bs:List Bool} {x:L} {ws:List W} (h:∀ rows,x≠.sl rows):aPw bs (.l x::ws)=.l x::aPw bs ws:=by
 cases bs<;>cases x<;>first | rfl | exact absurd rfl (h _)
theorem aVa {bs:List Bool} {c:C} {cs:List C} (h:∀ rows,c≠.sl rows):aPx bs (c::cs)=aPx bs cs:=by
 cases bs<;>cases c<;>first | rfl | exact absurd rfl (h _)
theorem bNw {E:Env} {ok:Nat→Prop} {w:World} {h:aEc} {nx:Nat} {β:aE9}:∀ {ps:List PTy} {cs rest:List C} {σ σ':St} {ws:List W} {vals:List Value},(ps.all bLb)=true→aDx E ps cs σ=some (true,ws,rest,σ')→vals.length=ws.length →
  (∀ (i:Nat) (v:Value) (x:W),vals[i]? =some v→ws[i]? =some x→aGz ok w h nx β v x)→rest=[] →
  ∃ bs,aPx bs cs=true∧(aPw bs ws).length=ws.length∧∀ (i:Nat) (v:Value) (x:W),vals[i]? =some v→(aPw bs ws)[i]? =some x→aGz ok w h nx β v x:=by
 intro ps
 induction ps with
 |nil =>
  intro cs rest σ σ' ws vals _ hi hl hr hrest
  simp only[aDx,Option.some.injEq,Prod.mk.injEq,true_and]at hi
  obtain⟨rfl,rfl,rfl⟩:=hi
  subst hrest
  exact⟨[],rfl,rfl,hr⟩
 |cons p ps ih =>
  intro cs rest σ σ' ws vals hp hi hl hr hrest
  simp only[List.all_cons,Bool.and_eq_true]at hp
  obtain⟨hp1,hp2⟩:=hp
  match p,hp1 with
  |.val false [kd],_ =>
   simp only[aDx]at hi
   split at hi
   ·rename_i b ws0 cs' σ0 hrec
    simp only[Option.some.injEq,Prod.mk.injEq,Bool.and_eq_true]at hi
    obtain⟨⟨hla,rfl⟩,rfl,rfl,rfl⟩:=hi
    simp only[aC6,Bool.and_true]at hla
    have ew:wOf false (aC6 cs 0 [kd]).2=.l (aH6 cs 0 kd).2:=rfl
    rw[ew]at hl hr ⊢
    cases vals with
    |nil=>simp at hl
    |cons v vals =>
     have h0:=hr 0 v _ rfl rfl
     have hrs:∀ (i:Nat) (v:Value) (x:W),vals[i]? =some v→ws0[i]? =some x→aGz ok w h nx β v x:=fun i v x h1 h2=>hr (i+1) v x (by simpa using h1) (by simpa using h2)
     obtain⟨bs,b1,b2,b3⟩:=ih hp2 hrec (by simpa using hl) hrs hrest
     by_cases hk:∃ e,kd=.slice e
     ·obtain⟨e,rfl⟩:=hk
      obtain⟨rows,cs',rfl,hx⟩:=bO1 hla
      rw[hx]at h0 ⊢
      have h0:Rep w ok v (.sl rows):=h0
      have hdrop:aPx bs cs'=true:=b1
      cases h0 with
      |emp a m =>
       refine⟨a.isNone::bs,by simp[aPx,hdrop],by simp[aPw,b2],fun i u x hu hx=>?_⟩
       cases i with
       |zero=>simp[aPw]at hu hx;subst hu;subst hx;exact⟨.emp a m,a,0,m,rfl,rfl⟩
       |succ i=>exact b3 i u x (by simpa using hu) (by simpa[aPw]using hx)
      |sl b o n m sz _ f h1 h2 h3 h4 h5 h6 h7 =>
       refine⟨false::bs,by simp[aPx,hdrop],by simp[aPw,b2],fun i u x hu hx=>?_⟩
       cases i with
       |zero=>simp[aPw]at hu hx;subst hu;subst hx;exact⟨.sl b o n m sz _ f h1 h2 h3 h4 h5 h6 h7,_,n,m,rfl,rfl⟩
       |succ i=>exact b3 i u x (by simpa using hu) (by simpa[aPw]using hx)
     ·obtain⟨d,cs',rfl,hx1,hx2⟩:=bO2 hla (fun e he=>hk ⟨e,he⟩)
      refine⟨bs,by rw[aVa hx1];exact b1,by rw[aV9 hx2];simp[b2],fun i u x hu hx=>?_⟩
      rw[aV9 hx2]at hx
      cases i with
      |zero=>simp at hu hx;subst hu;subst hx;exact h0
      |succ i=>exact b3 i u x (by simpa using hu) (by simpa using hx)
   ·cases hi
theorem aZ2:∀ cs:List C,∃ bs,aPx bs cs=true
 |[]=>⟨[],rfl⟩
 |c::cs=>by
  obtain⟨bs,hb⟩:=aZ2 cs
  by_cases hc:∃ rows,c=.sl rows
  ·obtain⟨rows,rfl⟩:=hc
   exact⟨false::bs,by simp[aPx,hb]⟩
  ·exact⟨bs,by rw[aVa fun rows e=>hc ⟨rows,e⟩];exact hb⟩
theorem bDp {P : Program} {E : Env} (hE : aA9 P E) {f : FuncId} {fn : Func} {sig : Sig} {spec : aCh} {I : Inl (List C)} (hI : ∀ c : Ctx, c.P = P → aYi c I) (hf : P.funcs[f]? = some fn) (hname : (fn.name == "runtime.NumGoroutine") = false)
  (hp:sig.params.all bLb=true) (hspec:∀ cs outs,aBf cs (aEy sig.params)=true→spec cs=some (true,outs)→∀ bs,aPx bs cs=true→(bDq E I bs sig fn cs).eval=some outs):aB0 P f sig spec:=by
 refine aYl hE hI hf hname fun cs outs hk hs=>?_
 obtain⟨bs0,hb0⟩:=aZ2 cs
 have he:=hspec cs outs hk hs bs0 hb0
 unfold bDq at he
 split at he
 ·rename_i b ws σ body hin hbody
  split at he
  ·rename_i hws
   obtain⟨hb,_⟩:=aB6 he
   subst hb
   refine⟨ws,σ,body,hin,hbody,fun ok w h nx β vals hl hr=>?_⟩
   obtain⟨bs,b1,b2,b3⟩:=bNw hp hin hl hr rfl
   refine⟨aPw bs ws,b2,b3,by rw[b2];exact hws,?_⟩
   have he2:=hspec cs outs hk hs bs b1
   unfold bDq at he2
   rw[hin,hbody]at he2
   simp only[hws,if_true]at he2
   exact aZn (aB6 he2).2
  ·exact (aA7 he).elim
 ·exact (aA7 he).elim
section
variable {α:Type}
end
section
variable {c:Ctx} {α:Type} {w w':World} {β:aE9}
end
end Go.Proofs.YtajoeindkdhofaaGreatDoor.V
