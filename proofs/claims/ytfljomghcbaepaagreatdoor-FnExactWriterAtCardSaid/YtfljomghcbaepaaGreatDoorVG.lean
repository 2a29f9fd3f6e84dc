/- The value-level interpreter over the model, part G: definitions, or lemmas that show that it is the model's. -/
import Derived.Test.YtfljomghcbaepaaGreatDoorVF
import Derived.OpenShut
import Derived.SizedLaws
import Derived.Carry
import Derived.ChangeOld
import Derived.Lib.LaidTab
set_option linter.unusedVariables false
set_option linter.unusedSimpArgs false
set_option linter.unusedSectionVars false
set_option linter.unnecessarySimpa false
namespace Go.Proofs.YtfljomghcbaepaaGreatDoor.V
inductive Fit (E:Env):K→C→Prop
 |int {k:IntKind} {n:Int}:k.min≤n→n≤k.max→Fit E (.int k) (.int k n)
 |bool {t:Bool}:Fit E .bool (.bool t)
 |str {s:List UInt8}:s.length≤reachBytes→Fit E .str (.str s)
 |sl {e:TypeId} {te:TI} {rows:List (List C)}:E.Ty e=some te→rows.length*te.bytes≤reachBytes→(∀ r,r∈rows→r.length=te.leaves.length) →
   (∀ r,r∈rows→∀ (j:Nat) (kd:K) (x:C),te.leaves[j]? =some kd→r[j]? =some x→Fit E kd x)→Fit E (.slice e) (.sl rows)
def aKi (E:Env) (ks:List K) (cs:List C):Prop:=cs.length=ks.length∧∀ (j:Nat) (kd:K) (x:C),ks[j]? =some kd→cs[j]? =some x→Fit E kd x
theorem Fit.is {E:Env} {kd:K} {x:C} (h:Fit E kd x):x.is kd=true:=by cases h<;>simp[C.is]
theorem aKi.kinds {E:Env}:∀ {ks:List K} {cs:List C},aKi E ks cs→aB7 cs ks=true
 |[],[],_=>rfl
 |[],c::cs,h=>by simp[aKi]at h
 |k::ks,[],h=>by simp[aKi]at h
 |k::ks,c::cs,h=>by
  simp only[aB7,Bool.and_eq_true]
  exact⟨(h.2 0 k c rfl rfl).is,aKi.kinds ⟨by simpa using h.1,fun j kd x hk hx=>h.2 (j+1) kd x (by simpa using hk) (by simpa using hx)⟩⟩
def bGh (E:Env):List (Nat×TypeId)→Nat→Option (List K)
 |[],_=>some []
 |(o,t)::r,k=>if o=k then match E.Ty t with
  |some tf=>match bGh E r (k+tf.leaves.length)with
   |some ks=>some (tf.leaves++ks)
   |none=>none
  |none=>none
  else none
def aNe (E:Env):Nat→TypeId→Bool
 |0,_=>false
 |n+1,t=>match E.Ty t with
  |none=>false
  |some ti=>match ti.agg,ti.leaves with
   |false,[.int _] | false,[.bool] | false,[.str]=>true
   |false,[.slice e]=>(match E.Ty e with | some te=>decide (0<te.leaves.length) | none=>false)&&aNe E n e
   |true,ks=>decide (bGh E ti.fields 0=some ks)&&ti.fields.all fun p=>aNe E n p.2
   |_,_=>false
structure bWz (P:Program) (E:Env):Prop where
 cnt:∀ t ti fs,E.Ty t=some ti→ti.agg=true→P.underlying t=some (.struct fs)→fs.size=ti.fields.length
theorem bA3 {α:Type} {Q:Nat→α→Prop}:∀ (n:Nat),(∀ i,i<n→∃ x,Q i x)→∃ l:List α,l.length=n∧∀ (i:Nat) (x:α),l[i]? =some x→Q i x
 |0,_=>⟨[],rfl,fun i x h=>by simp at h⟩
 |n+1,h=>by
  obtain⟨l,h1,h2⟩:=bA3 n fun i hi=>h i (by omega)
  obtain⟨x,hx⟩:=h n (by omega)
  refine⟨l++[x],by simp[h1],fun i y hy=>?_⟩
  by_cases hi:i<l.length
  ·rw[List.getElem?_append_left hi]at hy;exact h2 i y hy
  ·rw[List.getElem?_append_right (by omega)]at hy
   have:i-l.length=0:=by have:=(List.getElem?_eq_some_iff.1 hy).1;simp at this;omega
   rw[this]at hy
   simp at hy
   subst hy
   have:i=n:=by omega
   subst this
   exact hx
section
variable {P:Program} {E:Env} {W:World} {H:Type} {enc:TypeId×Value→H}
abbrev aYa (W:World):Nat→Prop:=fun b=>b<W.heap.size
def bTx (E:Env) (W:World) (ks:List K) (cs:List Value):Prop :=
 ∃ cl:List C,aKi E ks cl∧cs.length=cl.length∧∀ (j:Nat) (v:Value) (x:C),cs[j]? =some v→cl[j]? =some x→Rep W (aYa W) v x
theorem bKp (hE:aFw P E) {t:TypeId} {ti:TI} (h:E.Ty t=some ti):P.cellsOf t=ti.leaves.length∧P.bytesOf t=ti.bytes:=by
 obtain⟨i,z,h1,h2,h3,_⟩:=(hE.ty t ti h).info
 simp[Program.cellsOf,Program.bytesOf,h1,h2,h3]
theorem aN9 {e:TypeId}:∀ {ds:List (DataW H)} {d:DataW H},d∈ds→∀ n,n∈d.weights P e→n∈DataW.weightsAll P e ds
 |[],d,h,_,_=>by cases h
 |x::ds,d,h,n,hn=>by
  simp only[DataW.weightsAll,List.mem_append]
  rcases List.mem_cons.1 h with rfl | h
  ·exact .inl hn
  ·exact .inr (aN9 h n hn)
theorem bTn {a:Addr} {n:Nat} {cs:List Value} (h:W.cells? 0 a n=some cs):cs.length=n∧∀ i,i<n→cs[i]? =W.cell? (a.add i):=by
 simp only[World.cells?,Nat.zero_le,if_true]at h
 refine⟨by rw[mapM_some_length h];simp,fun i hi=>?_⟩
 exact (mapM_some_get h i i (by simp[hi])).symm
theorem bUj (hE:aFw P E) (hC:bWz P E):∀ (fuel n:Nat) (t:TypeId) (ti:TI) (cs:List Value) (d:DataW H) (ps:List MemPlace),aNe E n t=true→E.Ty t=some ti →
  DataW.trod enc P W 0 (fun _=>true) true fuel t cs=some (d,ps)→(∀ m,m∈d.weights P t→m≤reachBytes)→bTx E W ti.leaves cs:=by
 intro fuel
 induction fuel with
 |zero=>intro n t ti cs d ps _ _ ht;simp[DataW.trod]at ht
 |succ fuel ih =>
  intro n t ti cs d ps hp hti ht hw
  cases n with
  |zero=>simp[aNe]at hp
  |succ n =>
   have hT:=hE.ty t ti hti
   have one:∀ {kd:K} {v:Value} {x:C},ti.leaves=[kd]→cs=[v]→Fit E kd x→Rep W (aYa W) v x→bTx E W ti.leaves cs:=fun {kd v x} h1 h2 h3 h4=>by
    rw[h1,h2]
    refine⟨[x],⟨rfl,fun j kd' x' hk hx=>?_⟩,rfl,fun j v' x' hv hx=>?_⟩
    ·cases j with
     |zero=>simp at hk hx;subst hk;subst hx;exact h3
     |succ j=>simp at hk
    ·cases j with
     |zero=>simp at hv hx;subst hv;subst hx;exact h4
     |succ j=>simp at hv
   simp only[aNe,hti]at hp
   cases hag:ti.agg with
   |false =>
    obtain⟨kd,dsc,hlv,hu,hk⟩:=hT.leaf hag
    rw[hag,hlv]at hp
    cases kd with
    |int k =>
     simp only[aBv]at hk
     subst hk
     match cs with
     |[]=>simp[DataW.trod,hu]at ht
     |[v] =>
      cases v<;>simp[DataW.trod,hu]at ht
      rename_i k' m
      obtain⟨⟨rfl,hwf⟩,_⟩:=ht
      simp only[Lit.wf,Bool.and_eq_true,decide_eq_true_eq]at hwf
      exact one hlv rfl (.int hwf.1 hwf.2) (.int _ _)
     |v::u::r=>cases v<;>simp[DataW.trod,hu]at ht
    |bool =>
     simp only[aBv]at hk
     subst hk
     match cs with
     |[]=>simp[DataW.trod,hu]at ht
     |[v] =>
      cases v<;>simp[DataW.trod,hu]at ht
      exact one hlv rfl .bool (.bool _)
     |v::u::r=>cases v<;>simp[DataW.trod,hu]at ht
    |str =>
     simp only[aBv]at hk
     subst hk
     match cs with
     |[]=>simp[DataW.trod,hu]at ht
     |[v] =>
      cases v<;>simp[DataW.trod,hu]at ht
      rename_i s
      obtain⟨_,rfl,_⟩:=ht
      exact one hlv rfl (.str (hw _ (by simp[DataW.weights]))) (.str s)
     |v::u::r=>cases v<;>simp[DataW.trod,hu]at ht
    |slice e =>
     simp only[aBv]at hk
     subst hk
     simp only[Bool.and_eq_true]at hp
     cases hte:E.Ty e with
     |none=>rw[hte]at hp;simp at hp
     |some te =>
      rw[hte]at hp
      simp only[decide_eq_true_eq]at hp
      obtain⟨hpos,hpe⟩:=hp
      obtain⟨hce,hbe⟩:=bKp hE hte
      match cs with
      |[]=>simp[DataW.trod,hu]at ht
      |v::u::r =>
       exfalso
       cases v<;>simp[DataW.trod,hu]at ht
      |[v] =>
       cases v with
       |slice a len cap =>
        cases a with
        |none =>
         have hz:len=0∧cap=0:=by
          cases len<;>cases cap<;>simp[DataW.trod,hu]at ht ⊢
         obtain⟨rfl,rfl⟩:=hz
         exact one hlv rfl (.sl hte (by simp) (fun r hr=>by cases hr) (fun r hr=>by cases hr)) (.emp _ _)
        |some a =>
         simp only[DataW.trod,hu]at ht
         split at ht
         ·rename_i hcond
          cases hel:(List.range len).mapM fun i=>(W.cells? 0 (a.add (i*P.cellsOf e)) (P.cellsOf e)).bind (DataW.trod enc P W 0 (fun _=>true) true fuel e)with
          |none=>rw[hel]at ht;simp at ht
          |some elems =>
           rw[hel]at ht
           simp only[Option.bind_some,if_true]at ht
           cases hsp:(List.range (cap-len)).mapM fun j=>(W.cells? 0 (a.add ((len+j)*P.cellsOf e)) (P.cellsOf e)).bind (DataW.trod enc P W 0 (fun _=>true) true fuel e)with
           |none=>rw[hsp]at ht;simp at ht
           |some rest =>
            rw[hsp]at ht
            simp only[Option.map_some,Option.some.injEq,Prod.mk.injEq]at ht
            obtain⟨rfl,rfl⟩:=ht
            have hlen:elems.length=len:=by rw[mapM_some_length hel];simp
            have hw0:(len+rest.length)*te.bytes≤reachBytes:=by
             have:=hw ((elems.length+rest.length)*P.bytesOf e) (by simp[DataW.weights,hu])
             rw[hlen,hbe]at this;exact this
            by_cases h0:len=0
            ·subst h0
             exact one hlv rfl (.sl hte (by simp) (fun r hr=>by cases hr) (fun r hr=>by cases hr)) (.emp _ _)
            ·have row:∀ i,i<len→∃ cl:List C,aKi E te.leaves cl∧∀ j,j<te.leaves.length→∃ v,W.cell? ((a.add (i*te.leaves.length)).add j)=some v∧∀ x,cl[j]? =some x→Rep W (aYa W) v x:=by
              intro i hi
              have hg:=mapM_some_get hel i i (by simp[hi])
              rw[hce]at hg
              cases hc:W.cells? 0 (a.add (i*te.leaves.length)) te.leaves.length with
              |none=>rw[hc]at hg;have:=(List.getElem?_eq_none_iff.1 hg.symm);omega
              |some ec =>
               rw[hc]at hg
               simp only[Option.bind_some]at hg
               obtain⟨c1,c2⟩:=bTn hc
               have hei:elems[i]? =some elems[i]:=List.getElem?_eq_getElem (by omega)
               rw[hei]at hg
               have hmem:elems[i].1∈elems.map (·.1):=List.mem_map.2 ⟨_,List.getElem_mem _,rfl⟩
               obtain⟨cl,f1,f2,f3⟩:=ih n e te ec elems[i].1 elems[i].2 hpe hte hg fun m hm=>hw m (by
                simp only[DataW.weights,hu,List.mem_cons,List.mem_append]
                exact .inr (.inl (aN9 hmem m hm)))
               refine⟨cl,f1,fun j hj=>⟨ec[j]'(by omega),?_,fun x hx=>f3 j _ x (List.getElem?_eq_getElem (by omega)) hx⟩⟩
               rw[←c2 j hj]
               exact List.getElem?_eq_getElem (by omega)
             have hspot:a.spot=none:=by
              obtain⟨cl,_,h2⟩:=row 0 (by omega)
              obtain⟨v,hv,_⟩:=h2 0 hpos
              simp only[Nat.zero_mul]at hv
              have e1:(a.add 0).add 0=a:=by simp[Addr.add]
              rw[e1]at hv
              unfold World.cell? at hv
              split at hv
              ·split at hv
               ·cases hv
               ·rename_i h;simpa using h
              ·cases hv
             obtain⟨b,o,sp⟩:=a
             simp only at hspot
             subst hspot
             obtain⟨rows,r1,r2⟩:=bA3 len row
             have hblt:b<W.heap.size:=by
              obtain⟨cl,_,h2⟩:=row 0 (by omega)
              obtain⟨v,hv,_⟩:=h2 0 hpos
              exact World.block_lt_of_cell? W _ (by simpa[Addr.add]using hv)
             refine one hlv rfl (.sl hte ?_ (fun r hr=>?_) (fun r hr j kd x hk hx=>?_)) (.sl b o len cap te.leaves.length rows (fun k=>(W.cell? ⟨b,o+k,none⟩).getD undef) r1.symm hcond.2.1 hblt hblt (fun r hr=>?_) (fun j hj=>?_) (fun i r j x hi hj=>?_))
             ·rw[r1];exact Nat.le_trans (Nat.mul_le_mul_right _ (by omega)) hw0
             ·obtain⟨i,hi⟩:=List.getElem?_of_mem hr
              exact (r2 i r hi).1.1
             ·obtain⟨i,hi⟩:=List.getElem?_of_mem hr
              exact (r2 i r hi).1.2 j kd x hk hx
             ·obtain⟨i,hi⟩:=List.getElem?_of_mem hr
              exact (r2 i r hi).1.1
             ·have hi:j / te.leaves.length<len:=by rw[Nat.div_lt_iff_lt_mul hpos];exact hj
              obtain⟨cl,_,h2⟩:=row _ hi
              obtain⟨v,hv,_⟩:=h2 (j % te.leaves.length) (Nat.mod_lt _ hpos)
              rw[aDk,aDk,Nat.add_assoc,Nat.mul_comm,Nat.div_add_mod]at hv
              rw[hv];rfl
             ·have hil:=(List.getElem?_eq_some_iff.1 hi).1
              obtain⟨q1,q2⟩:=r2 i r hi
              have hjl:=(List.getElem?_eq_some_iff.1 hj).1
              obtain⟨v,hv,hr⟩:=q2 j (by rw[←q1.1];exact hjl)
              rw[aDk,aDk,Nat.add_assoc]at hv
              rw[hv]
              exact hr x hj
         ·cases ht
       |_=>simp[DataW.trod,hu]at ht
    |_=>simp at hp
   |true =>
    obtain⟨fs,hu,_,hfs⟩:=hT.agg hag
    rw[hag]at hp
    simp only[Bool.and_eq_true,decide_eq_true_eq]at hp
    obtain⟨hlay,hall⟩:=hp
    obtain⟨hct,_⟩:=bKp hE hti
    simp only[DataW.trod,hu]at ht
    split at ht
    ·rename_i hlen
     cases hxs:fs.toList.mapM (fun f=>DataW.trod enc P W 0 (fun _=>true) true fuel f.type ((cs.drop f.offset).take (P.cellsOf f.type)))with
     |none=>rw[hxs]at ht;simp at ht
     |some xs =>
      rw[hxs]at ht
      simp only[Option.map_some,Option.some.injEq,Prod.mk.injEq]at ht
      obtain⟨rfl,rfl⟩:=ht
      have hcnt:=hC.cnt t ti fs hti hag hu
      -- field by field
      have go:∀ (fds:List Field) (fields:List (Nat×TypeId)) (k:Nat) (ks:List K) (xs:List (DataW H×List MemPlace)),fds.length=fields.length→(∀ (i o:Nat) (ft:TypeId),fields[i]? =some (o,ft)→∃ fd,fds[i]? =some fd∧fd.offset=o∧fd.type=ft) →
        bGh E fields k=some ks→(∀ p,p∈fields→aNe E n p.2=true)→fds.mapM (fun f=>DataW.trod enc P W 0 (fun _=>true) true fuel f.type ((cs.drop f.offset).take (P.cellsOf f.type)))=some xs →
        (∀ m,m∈DataW.weightsEach P (fds.map (·.type)) (xs.map (·.1))→m≤reachBytes)→∃ cl:List C,aKi E ks cl∧∀ (j:Nat) (v:Value) (x:C),cs[k+j]? =some v→cl[j]? =some x→Rep W (aYa W) v x:=by
       intro fds
       induction fds with
       |nil =>
        intro fields k ks xs hl _ hlay _ _ _
        have:fields=[]:=List.length_eq_zero_iff.1 hl.symm
        subst this
        simp only[bGh,Option.some.injEq]at hlay
        subst hlay
        exact⟨[],⟨rfl,fun j kd x hk=>by simp at hk⟩,fun j v x _ hx=>by simp at hx⟩
       |cons fd fds ihf =>
        intro fields k ks xs hl hal hlay hpl hm hwt
        cases fields with
        |nil=>simp at hl
        |cons p fields =>
         obtain⟨o,ft⟩:=p
         obtain⟨fd',h1,h2,h3⟩:=hal 0 o ft rfl
         simp only[List.getElem?_cons_zero,Option.some.injEq]at h1
         subst h1
         simp only[bGh]at hlay
         split at hlay
         ·rename_i hok
          subst hok
          split at hlay
          ·rename_i tf htf
           split at hlay
           ·rename_i ks' hks
            obtain rfl:=Option.some.inj hlay
            simp only[List.mapM_cons,Option.pure_def,Option.bind_eq_bind]at hm
            obtain⟨hcf,_⟩:=bKp hE htf
            cases hx:DataW.trod enc P W 0 (fun _=>true) true fuel fd.type ((cs.drop fd.offset).take (P.cellsOf fd.type))with
            |none=>rw[hx]at hm;simp at hm
            |some y =>
             rw[hx]at hm
             simp only[Option.bind_some]at hm
             cases hr:fds.mapM (fun f=>DataW.trod enc P W 0 (fun _=>true) true fuel f.type ((cs.drop f.offset).take (P.cellsOf f.type)))with
             |none=>rw[hr]at hm;simp at hm
             |some ys =>
              rw[hr]at hm
              obtain rfl:=Option.some.inj hm
              simp only[List.map_cons,DataW.weightsEach,List.mem_append]at hwt
              rw[h3]at hx
              obtain⟨cl1,a1,a2,a3⟩:=ih n ft tf _ y.1 y.2 (hpl _ List.mem_cons_self) htf hx fun m hm=>hwt m (.inl (by rw[h3];exact hm))
              obtain⟨cl2,b1,b2⟩:=ihf fields (o+tf.leaves.length) ks' ys (by simpa using hl) (fun i o' ft' hi=>by
               obtain⟨fd2,q1,q2⟩:=hal (i+1) o' ft' (by simpa using hi)
               exact⟨fd2,by simpa using q1,q2⟩) hks (fun p hp=>hpl p (List.mem_cons_of_mem _ hp)) hr fun m hm=>hwt m (.inr hm)
              refine⟨cl1++cl2,⟨by simp[a1.1,b1.1],fun j kd x hk hx=>?_⟩,fun j v x hv hx=>?_⟩
              ·by_cases hj:j<tf.leaves.length
               ·rw[List.getElem?_append_left hj]at hk
                rw[List.getElem?_append_left (by rw[a1.1];exact hj)]at hx
                exact a1.2 j kd x hk hx
               ·rw[List.getElem?_append_right (by omega)]at hk
                rw[List.getElem?_append_right (by rw[a1.1];omega),a1.1]at hx
                exact b1.2 _ kd x hk hx
              ·by_cases hj:j<tf.leaves.length
               ·rw[List.getElem?_append_left (by rw[a1.1];exact hj)]at hx
                refine a3 j v x ?_ hx
                rw[h2,hcf,List.getElem?_take_of_lt hj,List.getElem?_drop]
                exact hv
               ·rw[List.getElem?_append_right (by rw[a1.1];omega),a1.1]at hx
                refine b2 (j-tf.leaves.length) v x ?_ hx
                rw[Nat.add_assoc,show tf.leaves.length+(j-tf.leaves.length)=j by omega]
                exact hv
           ·cases hlay
          ·cases hlay
         ·cases hlay
      obtain⟨cl,g1,g2⟩:=go fs.toList ti.fields 0 ti.leaves xs (by simpa using hcnt) (fun i o ft hi=>by
       obtain⟨fd,q1,q2,q3⟩:=hfs i o ft hi
       exact⟨fd,by simpa using q1,q2,q3⟩) hlay (fun p hp=>List.all_eq_true.1 hall p hp) hxs (fun m hm=>hw m (by simp only[DataW.weights,hu];exact hm))
      exact⟨cl,g1,by rw[hlen,hct,g1.1],fun j v x hv hx=>g2 j v x (by simpa using hv) hx⟩
    ·cases ht
end
section
variable {P:Program} {E:Env} {W:World} {H:Type} {enc:TypeId×Value→H}
def bJu (E:Env) (t:TypeId):PTy:=match E.Ty t with | some ti=>.val ti.agg ti.leaves | none=>.val false []
theorem bZ1 (hE:aFw P E) (hC:bWz P E) {n:Nat} {t:TypeId} {ti:TI} {v:Value} {d:DataW H} {ps:List MemPlace} {b0:Nat} (hp:aNe E n t=true) (hti:E.Ty t=some ti) (hval:Value.okWide P W .any b0 t v)
  (ht:DataW.Trod enc P W 0 (fun _=>true) true t v d ps) (hw:∀ m,m∈d.weights P t→m≤reachBytes):∃ cl:List C,aKi E ti.leaves cl∧cBl W (aYa W) ti.agg v cl:=by
 obtain⟨fuel,hf⟩:=ht
 obtain⟨cl,h1,h2,h3⟩:=bUj hE hC fuel n t ti _ d ps hp hti hf hw
 refine⟨cl,h1,?_⟩
 have hT:=hE.ty t ti hti
 cases hag:ti.agg with
 |true =>
  obtain⟨fs,hu,_⟩:=hT.agg hag
  simp only[Value.okWide,hu]at hval
  obtain⟨cs,rfl,_⟩:=hval
  have h2':cs.size=cl.length:=by simpa[Value.cells]using h2
  refine⟨cs,rfl,h2',fun j x hx=>?_⟩
  have hlt:j<cs.size:=by rw[h2'];exact (List.getElem?_eq_some_iff.1 hx).1
  exact⟨cs[j],Array.getElem?_eq_getElem hlt,h3 j _ x (by simp[Value.cells,hlt]) hx⟩
 |false =>
  obtain⟨kd,dsc,hlv,hu,hk⟩:=hT.leaf hag
  have hc:v.cells=#[v]:=by
   cases v with
   |agg cs =>
    exfalso
    cases kd<;>simp only[aBv]at hk
    ·subst hk;simp[Value.okWide,Cell.okWide,Cell.ok,hu]at hval
    ·subst hk;simp[Value.okWide,Cell.okWide,Cell.ok,hu]at hval
    ·subst hk;simp[Value.okWide,Cell.okWide,Cell.ok,hu]at hval
    ·subst hk;simp[Value.okWide,Cell.okWide,Cell.ok,hu]at hval
    ·obtain⟨e,rfl⟩:=hk;simp[Value.okWide,Cell.okWide,Cell.ok,hu]at hval
    ·obtain⟨a,b,c,rfl⟩:=hk;simp[Value.okWide,Cell.okWide,Cell.ok,hu]at hval
    ·obtain⟨ms,rfl⟩:=hk;simp[Value.okWide,Cell.okWide,Cell.ok,hu]at hval
   |_=>rfl
  have hl1:cl.length=1:=by rw[h1.1,hlv];rfl
  match cl,hl1 with
  |[x],_=>exact⟨x,rfl,h3 0 v x (by rw[hc];rfl) rfl⟩
theorem bI1 (hE:aFw P E) (hC:bWz P E) {n:Nat}:∀ {ts:List TypeId} {vs:List Value} {ds:List (DataW H)} {ps:List MemPlace} {b0:Nat},(ts.all fun t=>aNe E n t)=true→(∀ (j:Nat) t v,ts[j]? =some t→vs[j]? =some v→Value.okWide P W .any b0 t v) →
  DataW.TrodAll enc P W 0 (fun _=>true) true ts vs ds ps→(∀ m,m∈DataW.weightsEach P ts ds→m≤reachBytes) →
  ∃ cs,aJ2 P W (aYa W) (ts.map (bJu E)) vs cs []∧aKi E (aEn (ts.map (bJu E))) cs
 |[],vs,ds,ps,b0,_,_,ht,_=>by
  cases vs<;>cases ds<;>simp[DataW.TrodAll]at ht
  exact⟨[],.nil,rfl,fun j kd x hk=>by simp[aEn]at hk⟩
 |t::ts,vs,ds,ps,b0,hp,hval,ht,hw=>by
  obtain⟨v,vs',d,ds',p,q,rfl,rfl,rfl,h1,h2⟩:=ChangeShapes.trodAll_cons ht
  simp only[List.all_cons,Bool.and_eq_true]at hp
  cases hti:E.Ty t with
  |none=>exfalso;have:=hp.1;cases n<;>simp[aNe,hti]at this
  |some ti =>
   simp only[DataW.weightsEach,List.mem_append]at hw
   obtain⟨cl,f1,f2⟩:=bZ1 hE hC hp.1 hti (hval 0 t v rfl rfl) h1 fun m hm=>hw m (.inl hm)
   obtain⟨cs,g1,g2⟩:=bI1 hE hC hp.2 (fun j t v ht hv=>hval (j+1) t v (by simpa using ht) (by simpa using hv)) h2 fun m hm=>hw m (.inr hm)
   refine⟨cl++cs,?_,?_⟩
   ·simp only[List.map_cons,bJu,hti]
    exact .val f1.1 f2 g1
   ·simp only[List.map_cons,bJu,hti,aEn]
    refine⟨by simp[f1.1,g2.1],fun j kd x hk hx=>?_⟩
    by_cases hj:j<ti.leaves.length
    ·rw[List.getElem?_append_left hj]at hk
     rw[List.getElem?_append_left (by rw[f1.1];exact hj)]at hx
     exact f1.2 j kd x hk hx
    ·rw[List.getElem?_append_right (by omega)]at hk
     rw[List.getElem?_append_right (by rw[f1.1];omega),f1.1]at hx
     exact g2.2 _ kd x hk hx
theorem aSm {W W':World} (hs:∀ b,b<W.heap.size→W'.heap[b]? =W.heap[b]?) (ho:W'.os=W.os) (hu:W'.output=W.output) (may:MemPlace→Prop):W.keptBut W' may:=by
 refine⟨ho,hu,fun i hi=>?_⟩
 rw[hs i hi]
 have:W.heap[i]? =some W.heap[i]:=Array.getElem?_eq_getElem hi
 rw[this]
 split<;>rename_i h1 h2
 ·simp only[Option.some.injEq]at h1 h2
  rw[h1]at h2
  simp only[Obj.cells.injEq]at h2
  obtain⟨rfl,rfl,rfl⟩:=h2
  exact⟨rfl,rfl,rfl,fun _ _=>rfl⟩
 ·simp only[Option.some.injEq]at h1 h2
  rw[h1]at h2
  simp only[Obj.map.injEq]at h2
  obtain⟨rfl,rfl⟩:=h2
  exact .inr ⟨rfl,rfl⟩
 ·rfl
theorem aOl (hl:laidOutB P=true) {W':World} (hs:∀ b,b<W.heap.size→W'.heap[b]? =W.heap[b]?) (hsz:W.heap.size≤W'.heap.size):∀ {ts:List TypeId} {vs:List Value} {ds:List (DataW H)} {ps:List MemPlace},
  (ts.all fun t=>P.readableRec t&&decide (t<P.types.size))=true→DataW.TrodAll enc P W 0 (fun _=>true) true ts vs ds ps→(∀ x,x∈ps→x.block<W.heap.size)→DataW.TrodAll enc P W' 0 (fun b=>decide (b<W.heap.size)) true ts vs ds ps
 |[],vs,ds,ps,_,h,_=>by
  cases vs<;>cases ds<;>simp[DataW.TrodAll]at h ⊢
  exact h
 |t::ts,vs,ds,ps,hr,h,hlt=>by
  obtain⟨v,vs',d,ds',p,q,rfl,rfl,rfl,h1,h2⟩:=ChangeShapes.trodAll_cons h
  simp only[List.all_cons,Bool.and_eq_true,decide_eq_true_eq]at hr
  have hb:RowKit.Below W.heap.size W {W with heap:=W'.heap}:=⟨rfl,rfl,rfl,hsz,hs⟩
  have h1':=RowKit.Below.trod hl hr.1.1 hr.1.2 h1 hb fun x hx=>hlt x (List.mem_append_left _ hx)
  have h1'':=DataW.Trod.of_heap (w':=W') (by rfl) h1'
  exact⟨p,q,h1'',aOl hl hs hsz hr.2 h2 (fun x hx=>hlt x (List.mem_append_right _ hx)),rfl⟩
theorem bGi {E : Env} (hE : aA6 P E) (hC : bWz P E) {f : FuncId} {fn : Func} {body : Code} {spec : aC0} {n : Nat} {s : ChangeSpec} {apart fresh handsOn : Bool} (hf : P.funcs[f]? = some fn) (hbody : fn.body = some body) (hname : (fn.name == "runtime.NumGoroutine") = false)
  (hS:aAm P f ⟨fn.params.toList.map (bJu E),[⟨false,[(.bool,false)]⟩],false⟩ spec) (hplain:(fn.params.toList.all fun t=>aNe E n t)=true) (hl:laidOutB P=true)
  (hread:(fn.params.toList.all fun t=>P.readableRec t&&decide (t<P.types.size))=true) (hvars:s.vars=[]) {bt:TypeId} (hres:fn.resultTypes=#[bt]) (hbt:P.underlying bt=some .bool)
  (hfn:∀ (H:Type) (ds:List (DataW H)),ds.length=fn.params.size→s.fn H ds={results:=[.lit (.bool true)],args:=ds}) (hspec:∀ cs,aKi E (aEn (fn.params.toList.map (bJu E))) cs→spec cs=some (true,[.bool true]))
  {W:World} {base:Nat} {args:Array Value} {ds gs:List (DataW H)} {before:List MemPlace} (hval:∀ (j:Nat) t v,fn.params[j]? =some t→args[j]? =some v→Value.okWide P W .any base t v)
  (hW:DataW.Whole enc P fn.params.toList s.vars apart W args.toList ds gs before) (hsz:(DataW.weightsEach P (fn.params.toList++s.plain.varTypes P) (ds++gs)).all (· ≤reachBytes)=true) (hG:bA6 P W (aYa W)) :
  Calls P f args W fun e W'=>∃ v,e=.returned v∧s.post enc P fn apart fresh handsOn false W args v W':=by
 have hW':=hW
 obtain⟨p,q,hA,hV,rfl,hfz,hnd⟩:=hW
 rw[hvars]at hV
 obtain⟨rfl,rfl⟩:=ChangeShapes.trodVars_none hV
 have hlens:args.toList.length=fn.params.toList.length∧ds.length=fn.params.toList.length:=by
  have:∀ {ts:List TypeId} {vs:List Value} {ds:List (DataW H)} {ps:List MemPlace},DataW.TrodAll enc P W 0 (fun _=>true) true ts vs ds ps→vs.length=ts.length∧ds.length=ts.length:=by
   intro ts
   induction ts with
   |nil=>intro vs ds ps h;cases vs<;>cases ds<;>simp[DataW.TrodAll]at h;exact⟨rfl,rfl⟩
   |cons t ts ih =>
    intro vs ds ps h
    obtain⟨v,vs',d,ds',p,q,rfl,rfl,rfl,h1,h2⟩:=ChangeShapes.trodAll_cons h
    have:=ih h2
    exact⟨by simp[this.1],by simp[this.2]⟩
  exact this hA
 have hweights:∀ m,m∈DataW.weightsEach P fn.params.toList ds→m≤reachBytes:=by
  have key:∀ (ts us:List TypeId) (ds:List (DataW H)),ds.length=ts.length→∀ m,m∈DataW.weightsEach P ts ds→m∈DataW.weightsEach P (ts++us) (ds++[]):=by
   intro ts us
   induction ts with
   |nil=>intro ds hd m hm;cases ds<;>simp[DataW.weightsEach]at hm
   |cons t ts ih =>
    intro ds hd m hm
    cases ds with
    |nil=>simp at hd
    |cons d ds =>
     simp only[List.cons_append,DataW.weightsEach,List.mem_append]at hm ⊢
     rcases hm with hm | hm
     ·exact .inl hm
     ·exact .inr (ih ds (by simpa using hd) m hm)
  intro m hm
  have:=List.all_eq_true.1 hsz m (key _ _ _ hlens.2 m hm)
  simpa using this
 obtain⟨cs,hargs,hfit⟩:=bI1 hE.ok hC hplain (fun j t v ht hv=>hval j t v (by simpa using ht) (by simpa using hv)) hA hweights
 have hgo:=hS W (aYa W) [] args.toList cs [.bool true] (fun b hb=>⟨hb,by simp⟩) hG (fun i j b hb=>by simp at hb) hargs hfit.kinds (hspec cs hfit)
 have hnm : ¬ fn.name = "runtime.NumGoroutine" := by simpa using hname
 have hcalls:Calls P f args W fun e W'=>∃ v,e=.returned v∧bX0 P W (aYa W) [] ⟨fn.params.toList.map (bJu E),[⟨false,[(.bool,false)]⟩],false⟩ [.bool true] v W':=by
  rcases hgo with⟨_,h⟩ | ⟨v,w',h,_⟩
  ·simpa using h
  ·exfalso
   simp[callFunc,hf,hnm,hbody]at h
 refine hcalls.mono fun e W' ⟨v,he,ha⟩=>⟨v,he,?_⟩
 obtain⟨⟨vs,bs,cs1,cs2,okN,_,rfl,hcs,hrets,hboxes,_,_⟩,hsize,hframe,hos,hout⟩:=ha
 -- the result
 have hret:vs=[.bool true]:=by
  cases hrets with
  |agg h=>simp at h
  |one _ hlv hr =>
   cases hr
   cases hlv with
   |data hrep hlv =>
    cases hlv
    simp only[List.cons_append,List.nil_append,List.cons.injEq]at hcs
    obtain⟨rfl,_⟩:=hcs
    cases hrep
    rfl
 subst hret
 have hfr:∀ b,b<W.heap.size→W'.heap[b]? =W.heap[b]? :=fun b hb=>hframe b hb (by simp)
 have hsfn:=hfn H (ds++[]) (by simpa using hlens.2)
 refine⟨ds,[],p++[],[],p,[],hW',?_,?_,?_,aSm hfr hos hout _,fun h=>by cases h⟩
 ·rw[hsfn,hres]
  exact ChangeShapes.trodAll_mk1 (RowKit.shut_bool hbt true)
 ·rw[hsfn,List.append_nil]
  exact aOl hl hfr hsize hread hA fun x hx=>hW'.lt x (by simpa using hx)
 ·rw[hvars,hsfn]
  rfl
end
def bQd:Value→K→Bool
 |.int k n,.int k'=>decide (k=k')&&decide (n=0)
 |.bool t,.bool=> !t
 |.string s,.str=>decide (s.size=0)
 |.slice none 0 0,.slice _=>true
 |.pointer none,.ptr=>true
 |.nilFunc,.func=>true
 |.nilIface,.other=>true
 |.nilIface,.err=>true
 |_,_=>false
theorem bQc {v:Value} {kd:K} (h:bQd v kd=true):v=aN6 kd:=by
 unfold bQd at h
 split at h
 ·simp only[Bool.and_eq_true,decide_eq_true_eq]at h
  obtain⟨rfl,rfl⟩:=h
  rfl
 ·rename_i t
  cases t
  ·rfl
  ·cases h
 ·rename_i s
  have h0:s.size=0:=by simpa using h
  have:s=⟨#[]⟩:=by
   cases s with
   |mk d =>
    have:d.size=0:=h0
    have:d=#[]:=Array.eq_empty_of_size_eq_zero this
    rw[this]
  rw[this];rfl
 ·rfl
 ·rfl
 ·rfl
 ·rfl
 ·rfl
 ·cases h
def aOh:List Value→List K→Bool
 |[],[]=>true
 |v::vs,k::ks=>bQd v k&&aOh vs ks
 |_,_=>false
theorem aNo:∀ {vs:List Value} {ks:List K},aOh vs ks=true→vs=ks.map aN6
 |[],[],_=>rfl
 |[],_::_,h=>by cases h
 |_::_,[],h=>by cases h
 |v::vs,k::ks,h=>by
  simp only[aOh,Bool.and_eq_true]at h
  simp only[List.map_cons]
  rw[bQc h.1,aNo h.2]
def bAp:K→TypeDesc→Bool
 |.int k,.int k'=>decide (k=k')
 |.bool,.bool=>true
 |.str,.string=>true
 |.slice e,.slice e'=>decide (e=e')
 |.ptr,.pointer _=>true
 |.func,.func .. =>true
 |.err,.interface _=>true
 |_,_=>false
theorem aZ8 {kd:K} {d:TypeDesc} (h:bAp kd d=true):aBv kd d:=by
 unfold bAp at h
 split at h
 ·have:_=_:=of_decide_eq_true h
  subst this;rfl
 ·rfl
 ·rfl
 ·have:_=_:=of_decide_eq_true h
  subst this;rfl
 ·exact⟨_,rfl⟩
 ·exact⟨_,_,_,rfl⟩
 ·exact⟨_,rfl⟩
 ·cases h
def aPa:List Field→List (Nat×TypeId)→Bool
 |[],[]=>true
 |f::fs,(o,t)::r=>decide (f.offset=o)&&decide (f.type=t)&&aPa fs r
 |_,_=>false
theorem aLi:∀ {fs:List Field} {fields:List (Nat×TypeId)},aPa fs fields=true→fs.length=fields.length∧∀ (i o:Nat) (ft:TypeId),fields[i]? =some (o,ft)→∃ fd,fs[i]? =some fd∧fd.offset=o∧fd.type=ft
 |[],[],_=>⟨rfl,fun i o ft h=>by simp at h⟩
 |[],_::_,h=>by cases h
 |_::_,[],h=>by cases h
 |f::fs,(o,t)::r,h=>by
  simp only[aPa,Bool.and_eq_true,decide_eq_true_eq]at h
  obtain⟨h1,h2⟩:=aLi h.2
  refine⟨by simp[h1],fun i o' ft hi=>?_⟩
  cases i with
  |zero =>
   simp only[List.getElem?_cons_zero,Option.some.injEq,Prod.mk.injEq]at hi
   exact⟨f,rfl,hi.1▸h.1.1,hi.2▸h.1.2⟩
  |succ i=>simpa using h2 i o' ft (by simpa using hi)
def aJo (P:Program):List Field→List K→Nat→Bool
 |[],[],_=>true
 | f :: fs, k :: ks, j => decide (f.name ≠ "_") && decide (f.offset = j) && (match P.underlying f.type with | some d => bAp k d | none => false) && aJo P fs ks (j + 1)
 |_,_,_=>false
theorem aNl {P : Program} : ∀ {fs : List Field} {ks : List K} {n : Nat}, aJo P fs ks n = true → fs.length = ks.length ∧ ∀ (j : Nat) (fd : Field), fs[j]? = some fd → fd.name ≠ "_" ∧ fd.offset = n + j ∧ ∃ kd d, ks[j]? = some kd ∧ P.underlying fd.type = some d ∧ aBv kd d
 |[],[],_,_=>⟨rfl,fun j fd h=>by simp at h⟩
 |[],_::_,_,h=>by cases h
 |_::_,[],_,h=>by cases h
 |f::fs,k::ks,n,h=>by
  simp only[aJo,Bool.and_eq_true,decide_eq_true_eq]at h
  obtain⟨⟨⟨h1,h2⟩,h3⟩,h4⟩:=h
  obtain⟨g1,g2⟩:=aNl h4
  refine⟨by simp[g1],fun j fd hj=>?_⟩
  cases j with
  |zero =>
   simp only[List.getElem?_cons_zero,Option.some.injEq]at hj
   subst hj
   split at h3
   ·rename_i d hd
    exact⟨h1,by omega,k,d,rfl,hd,aZ8 h3⟩
   ·cases h3
  |succ j =>
   obtain⟨q1,q2,q3⟩:=g2 j fd (by simpa using hj)
   exact⟨q1,by omega,by simpa using q3⟩
def tyB (P:Program) (t:TypeId) (ti:TI):Bool :=
 (match P.info? t with
  |some i=>decide (i.size=ti.leaves.length)&&decide (i.bytes=ti.bytes)&&(match i.zero with | some z=>aOh z.cells.toList ti.leaves | none=>false)
  |none=>false) &&
 (match ti.agg with
  |true=>(match P.underlying t with
   |some (.struct fs)=>(fs.toList.mapM fun f=>(P.info? f.type).map fun i=>(f.offset,i.size)).isSome&&aPa fs.toList ti.fields
   |_=>false)
  |false=>(match ti.leaves,P.underlying t with
   |[kd],some d=>bAp kd d&&(match kd,P.info? t with | .int _,some i=>i.comparable | .int _,none=>false | _,_=>true)
   |_,_=>false)) &&
 (!ti.eq||(!P.stoodInHeld t&& !P.eqGuardType P.depth t&&(match P.underlying t with
  |some (.struct fs)=>aJo P fs.toList ti.leaves 0
  |_=>false)))
theorem bQn {P:Program} {t:TypeId} {ti:TI} (h:tyB P t ti=true):bN7 P t ti∧(ti.agg=true→∀ fs,P.underlying t=some (.struct fs)→fs.size=ti.fields.length):=by
 simp only[tyB,Bool.and_eq_true]at h
 obtain⟨⟨h1,h2⟩,h3⟩:=h
 refine⟨⟨?_,fun hag=>?_,fun hag kd hkd=>?_,fun hag=>?_,fun heq=>?_⟩,fun hag fs hu=>?_⟩
 ·split at h1
  ·rename_i i hi
   simp only[Bool.and_eq_true,decide_eq_true_eq]at h1
   obtain⟨⟨q1,q2⟩,q3⟩:=h1
   split at q3
   ·rename_i z hz
    exact⟨i,z,hi,q1,q2,hz,aNo q3⟩
   ·cases q3
  ·cases h1
 ·rw[hag]at h2
  simp only at h2
  split at h2
  ·rename_i fs hu
   simp only[Bool.and_eq_true]at h2
   obtain⟨aAp,hp⟩:=Option.isSome_iff_exists.1 h2.1
   exact⟨fs,hu,⟨aAp,hp⟩,fun f o ft hf=>by
    obtain⟨fd,z1,z2⟩:=(aLi h2.2).2 f o ft hf
    exact⟨fd,by simpa using z1,z2⟩⟩
  ·cases h2
 ·rw[hag]at h2
  simp only at h2
  split at h2
  ·rename_i kd' d hl hu
   rw[hkd]at hl
   obtain rfl:K.int kd=kd':=by simpa using hl
   simp only[Bool.and_eq_true]at h2
   obtain⟨_,h2⟩:=h2
   split at h2
   ·rename_i i _ hi
    exact⟨i,hi,h2⟩
   ·cases h2
   ·rename_i hn hn'
    cases hi:P.info? t with
    |none=>exact (hn' kd rfl hi).elim
    |some i=>exact (hn kd i rfl hi).elim
  ·cases h2
 ·rw[hag]at h2
  simp only at h2
  split at h2
  ·rename_i kd d hl hu
   simp only[Bool.and_eq_true]at h2
   exact⟨kd,d,hl,hu,aZ8 h2.1⟩
  ·cases h2
 ·rw[heq]at h3
  simp only[Bool.not_true,Bool.false_or,Bool.and_eq_true,Bool.not_eq_true']at h3
  obtain⟨⟨q1,q2⟩,q3⟩:=h3
  refine⟨q1,q2,?_⟩
  split at q3
  ·rename_i fs hu
   obtain⟨z1,z2⟩:=aNl q3
   exact⟨fs,hu,by simpa using z1,fun j fd hj=>by
    obtain⟨y1,y2,y3⟩:=z2 j fd (by simpa using hj)
    exact⟨y1,by omega,y3⟩⟩
  ·cases q3
 ·rw[hag]at h2
  simp only at h2
  rw[hu]at h2
  simp only[Bool.and_eq_true]at h2
  simpa using (aLi h2.2).1
theorem aEv {α:Type} {t:TypeId} {x:α}:∀ {l:List (TypeId×α)},l.lookup t=some x→(t,x)∈l
 |[],h=>by cases h
 |(k,y)::l,h=>by
  by_cases hk:t=k
  ·subst hk
   simp[List.lookup]at h
   subst h
   exact List.mem_cons_self
  ·have hf:(t==k)=false:=by simpa using hk
   simp only[List.lookup,hf]at h
   exact List.mem_cons_of_mem _ (aEv h)
theorem bMa {P:Program} {l:List (TypeId×TI)} (h:(l.all fun p=>tyB P p.1 p.2)=true):(∀ t ti,bZi l t=some ti→bN7 P t ti)∧∀ t ti fs,bZi l t=some ti→ti.agg=true→P.underlying t=some (.struct fs)→fs.size=ti.fields.length :=
 ⟨fun t ti ht=>(bQn (List.all_eq_true.1 h _ (aEv ht))).1,fun t ti fs ht hag hu=>(bQn (List.all_eq_true.1 h _ (aEv ht))).2 hag fs hu⟩
def cBi (P:Program) (t:TypeId) (m:Nat) (e:TypeId) (te:TI):Bool :=
 (match P.underlying t with | some (.array m' e')=>m'==m&&e'==e | _=>false) &&
 (match P.info? t with | some i=>(match i.zero with | some z=>aOh z.cells.toList (List.replicate m te.leaves).flatten | none=>false) | none=>false)
theorem bZ0 {P:Program} {t:TypeId} {m:Nat} {e:TypeId} {te:TI} (h:cBi P t m e te=true):bZ7 P t m e te:=by
 simp only[cBi,Bool.and_eq_true]at h
 obtain⟨h1,h2⟩:=h
 refine⟨?_,?_⟩
 ·split at h1
  ·rename_i m' e' hu
   simp only[Bool.and_eq_true,beq_iff_eq]at h1
   obtain⟨rfl,rfl⟩:=h1
   exact hu
  ·cases h1
 ·split at h2
  ·rename_i i hi
   split at h2
   ·rename_i z hz
    refine⟨i,z,hi,hz,?_⟩
    rw[aNo h2,List.map_flatten,List.map_replicate]
   ·cases h2
  ·cases h2
def bTu (P:Program) (tab:List (TypeId×TI)) (l:List (TypeId×Nat×TypeId)):Bool :=
 l.all fun p=>match bZi tab p.2.2 with | some te=>cBi P p.1 p.2.1 p.2.2 te | none=>true
theorem bM1 {P:Program} {tab:List (TypeId×TI)} {l:List (TypeId×Nat×TypeId)} (h:bTu P tab l=true):∀ t m e te,l.lookup t=some (m,e)→bZi tab e=some te→bZ7 P t m e te:=by
 intro t m e te h1 h2
 have:=List.all_eq_true.1 h _ (aEv h1)
 simp only[h2]at this
 exact bZ0 this
def cBc (l:List (Nat×String)):Nat→Option (List C):=fun g=>(l.lookup g).bind aW5
def glB (P:Program) (l:List (Nat×String)):Bool:=l.all fun p=>match P.globals[p.1]? with | some gi=>gi.name==p.2 | none=>false
theorem bSy {P:Program} {l:List (Nat×String)} (h:glB P l=true):∀ g row,cBc l g=some row→bTy P g row:=by
 intro g row hg
 unfold cBc at hg
 cases hl:l.lookup g with
 |none=>rw[hl]at hg;cases hg
 |some nm =>
  rw[hl]at hg
  have:=List.all_eq_true.1 h _ (aEv hl)
  simp only at this
  split at this
  ·rename_i gi hgi
   have hn:gi.name=nm:=by simpa using this
   exact⟨gi,hgi,by rw[hn];exact hg⟩
  ·cases this
section
variable {α:Type} {E:Env} {I:Inl α}
theorem bA0 (c:Code):aGq c []=c:=by cases c<;>rfl
theorem aCe (c:Code) (k:Exit→St→T α):aBr E I c [] k=k:=by cases c<;>rfl
inductive aFk:Code→List Pt→Code→Prop where
 |nil (c:Code):aFk c [] c
 |sl {a b:Code} {p:List Pt} {x:Code}:aFk a p x→aFk (.seq a b) (.l::p) x
 |sr {a b:Code} {p:List Pt} {x:Code}:aFk b p x→aFk (.seq a b) (.r::p) x
 |cl {o:Operand} {a b:Code} {p:List Pt} {x:Code}:aFk a p x→aFk (.cond o a b) (.l::p) x
 |cr {o:Operand} {a b:Code} {p:List Pt} {x:Code}:aFk b p x→aFk (.cond o a b) (.r::p) x
 |b {id:Nat} {b:Code} {p:List Pt} {x:Code}:aFk b p x→aFk (.block id b) (.b::p) x
 |lp {b:Code} {n:Nat} {p:List Pt} {x:Code}:aFk b p x→aFk (.loop b) (.lp n::p) x
theorem aFk.at {c x:Code} {p:List Pt} (h:aFk c p x):aGq c p=x:=by
 induction h with
 |nil c=>exact bA0 c
 |sl _ ih | sr _ ih | cl _ ih | cr _ ih | b _ ih | lp _ ih=>simpa only[aGq]using ih
theorem aFk.app {c x y:Code} {p q:List Pt} (h:aFk c p x) (h2:aFk x q y):aFk c (p++q) y:=by
 induction h with
 |nil c=>exact h2
 |sl _ ih=>exact .sl (ih h2)
 |sr _ ih=>exact .sr (ih h2)
 |cl _ ih=>exact .cl (ih h2)
 |cr _ ih=>exact .cr (ih h2)
 |b _ ih=>exact .b (ih h2)
 |lp _ ih=>exact .lp (ih h2)
theorem aFk.rest {c x:Code} {p q:List Pt} (h:aFk c p x):∀ (k:Exit→St→T α),aBr E I c (p++q) k=aBr E I x q (aBr E I c p k):=by
 induction h with
 |nil c=>intro k;rw[aCe];rfl
 |sl _ ih | sr _ ih | cl _ ih | cr _ ih | b _ ih | lp _ ih=>intro k;simp only[List.cons_append,aBr,ih]
def aIo (E:Env) (I:Inl α) (c:Code) (kf:Exit→St→T α) (p:List Pt) (n:Nat) (τ:St):T α :=
 match aGq c p with
 |.loop b=>aTw (aF1 E I b) (St.norm E (aFe b)) n τ (aBr E I c p kf)
 |_=>.bad
theorem aTy {c:Code} {kf:Exit→St→T α}:∀ (a:Code) (p:List Pt) (σ:St),aFk c p a→aG5 E I (aIo E I c kf) a p σ (aBr E I c p kf)=aF1 E I a σ (aBr E I c p kf):=by
 intro a
 induction a with
 |seq a b iha ihb =>
  intro p σ h
  simp only[aG5,aF1]
  have hl:aFk c (p++[.l]) a:=h.app (.sl (.nil a))
  have hr:aFk c (p++[.r]) b:=h.app (.sr (.nil b))
  have el:aBr E I c (p++[.l]) kf=aXj (fun σ'=>aF1 E I b σ' (aBr E I c p kf)) (aBr E I c p kf):=by
   rw[h.rest];simp only[aBr,aCe]
  have er:aBr E I c (p++[.r]) kf=aBr E I c p kf:=by rw[h.rest];simp only[aBr,aCe]
  have e2:(fun σ'=>aG5 E I (aIo E I c kf) b (p++[.r]) σ' (aBr E I c p kf))=fun σ'=>aF1 E I b σ' (aBr E I c p kf):=by
   funext σ'
   have:=ihb (p++[.r]) σ' hr
   rw[er]at this
   exact this
  rw[e2,←el]
  exact iha _ _ hl
 |cond o a b iha ihb =>
  intro p σ h
  simp only[aG5,aF1]
  have el:aBr E I c (p++[.l]) kf=aBr E I c p kf:=by rw[h.rest];simp only[aBr,aCe]
  have er:aBr E I c (p++[.r]) kf=aBr E I c p kf:=by rw[h.rest];simp only[aBr,aCe]
  split
  ·rename_i ho
   have:=iha (p++[.l]) σ (h.app (.cl (.nil a)))
   rw[el]at this
   exact this
  ·rename_i ho
   have:=ihb (p++[.r]) σ (h.app (.cr (.nil b)))
   rw[er]at this
   exact this
  ·rfl
 |block id b ih =>
  intro p σ h
  simp only[aG5,aF1]
  have e:aBr E I c (p++[.b]) kf=aWm id (aBr E I c p kf):=by rw[h.rest];simp only[aBr,aCe]
  rw[←e]
  exact ih _ _ (h.app (.b (.nil b)))
 |loop b ih =>
  intro p σ h
  simp only[aG5,aF1,aIo,h.at]
 |_=>intros;rfl
theorem bUw {c:Code} {kf:Exit→St→T α} {a:Code}:∀ (p q:List Pt),(∃ x,aFk a p x)→aFk c q a→aKz E I (aIo E I c kf) a p q (aBr E I c q kf)=aBr E I a p (aBr E I c q kf):=by
 intro p q hp
 obtain⟨x,hp⟩:=hp
 induction hp generalizing q with
 |nil a=>intro h;rw[aCe];cases a<;>rfl
 |@sl a b p x hp ih =>
  intro h
  simp only[aKz,aBr]
  have el:aBr E I c (q++[.l]) kf=aXj (fun σ'=>aF1 E I b σ' (aBr E I c q kf)) (aBr E I c q kf):=by
   rw[h.rest];simp only[aBr,aCe]
  have er:aBr E I c (q++[.r]) kf=aBr E I c q kf:=by rw[h.rest];simp only[aBr,aCe]
  have e2:(fun σ'=>aG5 E I (aIo E I c kf) b (q++[.r]) σ' (aBr E I c q kf))=fun σ'=>aF1 E I b σ' (aBr E I c q kf):=by
   funext σ'
   have:=aTy (E:=E) (I:=I) (kf:=kf) b (q++[.r]) σ' (h.app (.sr (.nil b)))
   rw[er]at this
   exact this
  rw[e2,←el]
  exact ih _ (h.app (.sl (.nil a)))
 |@sr a b p x hp ih =>
  intro h
  simp only[aKz,aBr]
  have er:aBr E I c (q++[.r]) kf=aBr E I c q kf:=by rw[h.rest];simp only[aBr,aCe]
  rw[←er]
  exact ih _ (h.app (.sr (.nil b)))
 |@cl o a b p x hp ih =>
  intro h
  simp only[aKz,aBr]
  have er:aBr E I c (q++[.l]) kf=aBr E I c q kf:=by rw[h.rest];simp only[aBr,aCe]
  rw[←er]
  exact ih _ (h.app (.cl (.nil a)))
 |@cr o a b p x hp ih =>
  intro h
  simp only[aKz,aBr]
  have er:aBr E I c (q++[.r]) kf=aBr E I c q kf:=by rw[h.rest];simp only[aBr,aCe]
  rw[←er]
  exact ih _ (h.app (.cr (.nil b)))
 |@b id b p x hp ih =>
  intro h
  simp only[aKz,aBr]
  have er:aBr E I c (q++[.b]) kf=aWm id (aBr E I c q kf):=by rw[h.rest];simp only[aBr,aCe]
  rw[←er]
  exact ih _ (h.app (.b (.nil b)))
 |@lp b n p x hp ih =>
  intro h
  simp only[aKz,aBr]
  have er:aBr E I c (q++[.lp n]) kf=aXj (fun σ'=>aTw (aF1 E I b) (St.norm E (aFe b)) n (St.norm E (aFe b) σ') (aBr E I c q kf)) (aBr E I c q kf):=by rw[h.rest];simp only[aBr,aCe]
  have e2:(fun σ'=>aIo E I c kf q n (St.norm E (aFe b) σ'))=fun σ'=>aTw (aF1 E I b) (St.norm E (aFe b)) n (St.norm E (aFe b) σ') (aBr E I c q kf):=by
   funext σ'
   simp only[aIo,h.at]
  rw[e2,←er]
  exact ih _ (h.app (.lp (.nil b)))
end
theorem bM9 (E:Env) (I:Inl (List C)) (sig:Sig) (fn:Func) {c:Code} (hc:fn.body=some c) :
  aBl E I sig fn=aIo {E with nt:=fn.ntmps} I c (bLm E sig fn):=by
 funext p n τ
 simp only[aBl,hc,aIo]
 cases aGq c p<;>rfl
def aU3:Code→List Pt→Bool
 |_,[]=>true
 |.seq a _,.l::p=>aU3 a p
 |.seq _ b,.r::p=>aU3 b p
 |.cond _ a _,.l::p=>aU3 a p
 |.cond _ _ b,.r::p=>aU3 b p
 |.block _ b,.b::p=>aU3 b p
 |.loop b,.lp _::p=>aU3 b p
 |_,_=>false
theorem bO7:∀ (c:Code) (p:List Pt),aU3 c p=true→aFk c p (aGq c p):=by
 intro c p
 induction p generalizing c with
 |nil=>intro _;rw[bA0];exact .nil c
 |cons x p ih =>
  intro h
  cases c<;>cases x<;>first | (simp[aU3]at h;done) | skip
  ·exact .sl (ih _ h)
  ·exact .sr (ih _ h)
  ·exact .cl (ih _ h)
  ·exact .cr (ih _ h)
  ·exact .b (ih _ h)
  ·exact .lp (ih _ h)
theorem aA9 (E:Env) (I:Inl (List C)) (sig:Sig) (fn:Func) (cs:List C):bUh E I sig fn cs=aAe E I sig fn (aBl E I sig fn) cs:=by
 unfold bUh aAe
 split
 ·rename_i b ws σ c h1 h2
  split
  ·congr 1
   congr 1
   funext ws'
   rw[bM9 E I sig fn h2]
   have:=aTy (E:={E with nt:=fn.ntmps}) (I:=I) (kf:=bLm E sig fn) c [] {σ with slots:=(List.range ws'.length).zip ws'} (.nil c)
   rw[aCe]at this
   exact this.symm
  ·rfl
 ·rfl
theorem aAo (E:Env) (I:Inl (List C)) (sig:Sig) (fn:Func) (p:List Pt) (n:Nat) (τ:St) (h:(match fn.body with | some c=>aU3 c p | none=>false)=true) :
  aBl E I sig fn p (n+1) τ=aB3 E I sig fn (aBl E I sig fn) p n τ:=by
 cases hc:fn.body with
 |none=>rw[hc]at h;cases h
 |some c =>
  rw[hc]at h
  have hg:=bO7 c p h
  have hv:aB3 E I sig fn (aBl E I sig fn) p n τ=match aGq c p with
   |.loop b=>aG5 {E with nt:=fn.ntmps} I (aBl E I sig fn) b (p++[.lp n]) τ (aKz {E with nt:=fn.ntmps} I (aBl E I sig fn) c (p++[.lp n]) [] (bLm E sig fn))
   |_=>.bad:=by
   simp only[aB3,hc]
   cases aGq c p<;>rfl
  rw[hv,bM9 E I sig fn hc]
  simp only[aIo]
  split
  ·rename_i b hb
   rw[hb]at hg
   have hg2:aFk c (p++[.lp n]) b:=hg.app (.lp (.nil b))
   have e1:=bUw (E:={E with nt:=fn.ntmps}) (I:=I) (kf:=bLm E sig fn) (p++[.lp n]) [] ⟨b,hg2⟩ (.nil c)
   rw[aCe]at e1
   have e2:=aTy (E:={E with nt:=fn.ntmps}) (I:=I) (kf:=bLm E sig fn) b (p++[.lp n]) τ hg2
   have e4:aKz {E with nt:=fn.ntmps} I (aIo {E with nt:=fn.ntmps} I c (bLm E sig fn)) c (p++[.lp n]) [] (bLm E sig fn)=aBr {E with nt:=fn.ntmps} I c (p++[.lp n]) (bLm E sig fn):=e1
   show aTw _ _ (n+1) τ _=aG5 _ _ (aIo {E with nt:=fn.ntmps} I c (bLm E sig fn)) b _ τ (aKz _ _ (aIo {E with nt:=fn.ntmps} I c (bLm E sig fn)) c _ [] _)
   rw[e4,e2,hg.rest]
   simp only[aTw,aBr,aCe]
  ·rfl
theorem aAh {x:Int} (h1: -9223372036854775808≤x) (h2:x≤9223372036854775807):IntKind.i64.wrap x=x:=by
 simp only[IntKind.wrap,IntKind.bits,IntKind.signed,IntKind.min,IntKind.max]
 first
  |(split<;>omega)
  |(simp;omega)
  |omega
theorem aNp {x:Int} (h1:0≤x) (h2:x≤18446744073709551615):IntKind.u64.wrap x=x:=by
 simp only[IntKind.wrap,IntKind.bits,IntKind.signed,IntKind.min,IntKind.max]
 first
  |(split<;>omega)
  |(simp;omega)
  |omega
theorem aKl {x:Int} (h1:0≤x) (h2:x≤255):IntKind.u8.wrap x=x:=by
 simp only[IntKind.wrap,IntKind.bits,IntKind.signed,IntKind.min,IntKind.max]
 first
  |(split<;>omega)
  |(simp;omega)
  |omega
theorem bIq {x:Int} (h1:0≤x) (h2:x≤4294967295):IntKind.u32.wrap x=x:=by
 simp only[IntKind.wrap,IntKind.bits,IntKind.signed,IntKind.min,IntKind.max]
 first
  |(split<;>omega)
  |(simp;omega)
  |omega
theorem bEi (x:Int): -9223372036854775808≤IntKind.i64.wrap x∧IntKind.i64.wrap x≤9223372036854775807:=by
 simp only[IntKind.wrap,IntKind.bits,IntKind.signed,IntKind.min,IntKind.max]
 first
  |(split<;>omega)
  |(simp;omega)
  |omega
theorem aB9 (l:List UInt8):(aAa l).length=l.length:=by simp[aAa]
theorem bBr (l:List UInt8) (j:Nat) (h:j<l.length):(aAa l).getD j []=[C.int .u8 ((l.getD j 0).toNat:Int)]:=by
 simp[aAa,List.getD_eq_getElem?_getD,h]
theorem bMg (l:List UInt8) (j:Nat) (v:Int) (h1:0≤v) (h2:v≤255):(aAa l).set j [C.int .u8 v]=aAa (l.set j (UInt8.ofNat v.toNat)):=by
 have h3:max v 0 % 256=v:=by omega
 simp[aAa,List.map_set,h3]
theorem aG1 (l m:List UInt8):aAa l++aAa m=aAa (l++m):=by simp[aAa]
theorem bMi (v:Int) (h1:0≤v) (h2:v≤255):[[C.int .u8 v]]=aAa [UInt8.ofNat v.toNat]:=by
 have:=bMg [0] 0 v h1 h2
 simpa[aAa]using this
theorem bRf (l:List UInt8) (n:Nat):(aAa l).drop n=aAa (l.drop n):=by simp[aAa,List.map_drop]
theorem aE8 (l:List UInt8):(aAa l).all aFv=true:=by
 simp[aAa,aFv,C.is]
theorem aGr (l:List UInt8):aCl (aAa l)=l:=by
 simp[aAa,aCl,C.toInt,Function.comp_def]
noncomputable def T.ev {α:Type} (x:T α):Option α:=T.rec (motive:=fun _=>Option α) (fun a=>some a) none (fun t _ _ y n=>Bool.rec n y t) (fun t _ n=>Bool.rec none n t) x
theorem bTa {α:Type}:∀ x:T α,x.ev=x.eval
 |.ret a=>rfl
 |.bad=>rfl
 |.ask true y n=>bTa y
 |.ask false y n=>bTa n
 |.must true n=>bTa n
 |.must false n=>rfl
theorem aAd {α:Type} {x y:T α} (h:x.ev=y.ev):x.eval=y.eval:=by rw[←bTa,←bTa];exact h
def bSz (P:Program):Bool:=(List.range P.globals.size).all fun i=>match P.globals[i]? with
 |some gi=>(aW5 gi.name).isNone||decide (P.globalNamed gi.name=some i)
 |none=>true
theorem bDd {s : String} {row : List C} (h : aW5 s = some row) : (s = "math/bits.deBruijn32tab" ∧ row = u8s bQx) ∨ (s = "math/bits.deBruijn64tab" ∧ row = u8s bQw) ∨ (s = "internal/strconv.uint64pow10" ∧ row = cBk bEs) ∨
  (s = "strconv.ErrSyntax" ∧ row = [.err .any]) ∨ (s = "strconv.ErrRange" ∧ row = [.err .any]) := by
 unfold aW5 at h
 split at h
 ·exact .inl ⟨‹_›,(Option.some.inj h).symm⟩
 ·split at h
  ·exact .inr (.inl ⟨‹_›,(Option.some.inj h).symm⟩)
  ·split at h
   ·exact .inr (.inr (.inl ⟨‹_›,(Option.some.inj h).symm⟩))
   ·split at h
    ·exact .inr (.inr (.inr (.inl ⟨‹_›,(Option.some.inj h).symm⟩)))
    ·split at h
     ·exact .inr (.inr (.inr (.inr ⟨‹_›,(Option.some.inj h).symm⟩)))
     ·cases h
def bM3 (P:Program) (W:World) (nm:String):Prop:=∀ g,P.globalNamed nm=some g→∃ t x,W.cell? ⟨g,0,none⟩=some (.iface t x)
theorem bM3.none {P:Program} {W:World} {nm:String} (h:(P.globalNamed nm).isNone=true):bM3 P W nm:=fun g hg=>by rw[hg]at h;cases h
theorem bT0 {P : Program} {W : World} (hU : bSz P = true) (h1 : Lib.TabIs P W "math/bits.deBruijn32tab" .u8 bQx) (h2 : Lib.TabIs P W "math/bits.deBruijn64tab" .u8 bQw) (h3 : Lib.TabIs P W "internal/strconv.uint64pow10" .u64 bEs) (h4 : bM3 P W "strconv.ErrSyntax") (h5 : bM3 P W "strconv.ErrRange") :
  bA6 P W (fun b=>b<W.heap.size):=by
 have key:∀ (nm:String) (k:IntKind) (zs:List Int) (g:Nat),0<zs.length→P.globalNamed nm=some g→Lib.TabIs P W nm k zs →
   g<W.heap.size∧∀ (j:Nat) (x:C),(zs.map (C.int k))[j]? =some x→∃ u,W.cell? ⟨g,j,none⟩=some u∧Rep W (fun b=>b<W.heap.size) u x:=by
  intro nm k zs g hz hg ht
  refine⟨?_,fun j x hx=>?_⟩
  ·have:=ht.cell hg 0 hz
   unfold World.cell? at this
   cases hh:W.heap[g]? with
   |none=>simp[hh]at this
   |some o=>exact (Array.getElem?_eq_some_iff.1 hh).1
  ·rw[List.getElem?_map]at hx
   cases hj:zs[j]? with
   |none=>rw[hj]at hx;cases hx
   |some z =>
    rw[hj]at hx
    obtain rfl:=Option.some.inj hx
    have hlt:=(List.getElem?_eq_some_iff.1 hj).1
    refine⟨_,ht.cell hg j hlt,?_⟩
    have:zs.getD j 0=z:=by simp[List.getD_eq_getElem?_getD,hj]
    rw[this]
    exact .int _ _
 have keyE:∀ (nm:String) (g:Nat),P.globalNamed nm=some g→bM3 P W nm →
   g<W.heap.size∧∀ (j:Nat) (x:C),([C.err .any])[j]? =some x→∃ u,W.cell? ⟨g,j,none⟩=some u∧Rep W (fun b=>b<W.heap.size) u x:=by
  intro nm g hg ht
  obtain⟨t,y,hy⟩:=ht g hg
  refine⟨?_,fun j x hx=>?_⟩
  ·unfold World.cell? at hy
   cases hh:W.heap[g]? with
   |none=>simp[hh]at hy
   |some o=>exact (Array.getElem?_eq_some_iff.1 hh).1
  ·cases j with
   |zero =>
    obtain rfl:=Option.some.inj hx
    exact⟨_,hy,.eany t y⟩
   |succ j=>simp at hx
 intro g row ⟨gi,hgi,hrow⟩
 have hg:P.globalNamed gi.name=some g:=by
  have hlt:=(Array.getElem?_eq_some_iff.1 hgi).1
  have:=List.all_eq_true.1 hU g (List.mem_range.2 hlt)
  rw[hgi]at this
  simp only[hrow,Option.isNone_some,Bool.false_or,decide_eq_true_eq]at this
  exact this
 rcases bDd hrow with⟨hn,rfl⟩ | ⟨hn,rfl⟩ | ⟨hn,rfl⟩ | ⟨hn,rfl⟩ | ⟨hn,rfl⟩
 ·rw[hn]at hg;exact key _ _ _ g (by decide) hg h1
 ·rw[hn]at hg;exact key _ _ _ g (by decide) hg h2
 ·rw[hn]at hg;exact key _ _ _ g (by decide) hg h3
 ·rw[hn]at hg;exact keyE _ g hg h4
 ·rw[hn]at hg;exact keyE _ g hg h5
structure bZ5 where
 tag:TypeId
 u8:TypeId
 wr:FuncId
 len:FuncId
 str:FuncId
def aBu (bs:List UInt8):List Value:=bs.map fun x=>Value.int .u8 x.toNat
def bZ4 (B:bZ5) (w:World) (b:Nat) (u:Value) (bs:List UInt8):Prop :=
 (u=.slice none 0 0∧bs=[])∨∃ g cur,u=.slice (some ⟨g,0,none⟩) bs.length cur.size∧g≠b∧w.heap[g]? =some (.cells cur B.u8 (0,0))∧bs.length≤cur.size∧cur.size≤maxLen∧cur.toList.take bs.length=aBu bs
structure bU7 (P:Program) (B:bZ5):Prop where
 wr:∀ (b:Nat) (p u:Value) (bs:List UInt8) (s:ByteArray) (w:World),w.heap[b]? =some (.cells #[p,u] B.tag (0,0))→(p=.pointer none∨p=.pointer (some ⟨b,0,none⟩))→bZ4 B w b u bs →
  bs.length+s.size≤140737488355328→0<bs.length+s.size →
  Calls P B.wr #[.pointer (some ⟨b,0,none⟩),.string s] w fun e w'=>∃ y,e=.returned (.tuple #[.int .i64 s.size,y])∧w.heap.size≤w'.heap.size∧w'.os=w.os∧w'.output=w.output ∧
   ∃ g' cur',w'.heap[b]? =some (.cells #[.pointer (some ⟨b,0,none⟩),.slice (some ⟨g',0,none⟩) (bs++s.data.toList).length cur'.size] B.tag (0,0))∧g'≠b∧w'.heap[g']? =some (.cells cur' B.u8 (0,0)) ∧
    (bs++s.data.toList).length≤cur'.size∧cur'.size≤maxLen∧cur'.toList.take (bs++s.data.toList).length=aBu (bs++s.data.toList)∧(w.heap.size≤g'∨∃ n c,u=.slice (some ⟨g',0,none⟩) n c) ∧
    ∀ k,k<w.heap.size→k≠b→(∀ n c,u≠.slice (some ⟨k,0,none⟩) n c)→w'.heap[k]? =w.heap[k]?
 len:∀ (b:Nat) (p:Value) (a:Option Addr) (n m:Nat) (w:World),w.heap[b]? =some (.cells #[p,.slice a n m] B.tag (0,0)) →
  Calls P B.len #[.pointer (some ⟨b,0,none⟩)] w fun e w'=>e=.returned (.int .i64 n)∧w'=w
 str:∀ (b:Nat) (p:Value) (g:Nat) (cur:Array Value) (bs:List UInt8) (w:World),w.heap[b]? =some (.cells #[p,.slice (some ⟨g,0,none⟩) bs.length cur.size] B.tag (0,0))→g≠b→w.heap[g]? =some (.cells cur B.u8 (0,0)) →
  bs.length≤cur.size→cur.size≤maxLen→cur.toList.take bs.length=aBu bs→0<bs.length →
  Calls P B.str #[.pointer (some ⟨b,0,none⟩)] w fun e w'=>e=.returned (.string ⟨bs.toArray⟩)∧w'.heap.size=w.heap.size∧w'.os=w.os∧w'.output=w.output∧(∃ fr,w'.heap[g]? =some (.cells cur B.u8 fr))∧∀ k,k≠g→w'.heap[k]? =w.heap[k]?
def bUd (h:List (Nat×Blk)):Option Nat→List (Nat×Blk)
 |none=>h
 |some r=>del h r
def aOt (h:List (Nat×Blk)):Option Nat→Option (Bool×List UInt8)
 |none=>some (true,[])
 |some r=>match h.lookup r with | some (.own e bs)=>some (decide (e≠0),bs) | _=>none
section
variable {α:Type}
def bX9 (B:bZ5):Inl α:=fun g fn ws σ k =>
 match ws with
 |.l (.ptr id 0)::rest=>match σ.heap.lookup id with
  |some (.bld t e row)=>if t=B.tag∧e=B.u8∧B.u8≠0∧fn.body.isSome=true∧aEw σ.pins row.toList=true then
    match aOt σ.heap row with
    |none=>.bad
    |some (wr,bs) =>
     if g=B.wr then match rest with
      |[.l (.s s)]=>.must wr <| .must (decide (bs.length+s.length≤140737488355328)&&decide (0<bs.length+s.length)) (k (.tup [(false,[.i .i64 s.length]),(false,[.none'])]) {σ with heap:=(σ.next,.own e (bs++s))::upd (bUd σ.heap row) id (.bld t e (some σ.next)),next:=σ.next+1} (some (id::row.toList)))
      |_=>.bad
     else if g=B.len then match rest with
      |[]=>k (.l (.i .i64 bs.length)) σ (some [])
      |_=>.bad
     else if g=B.str then match rest,row with
      |[],some _=>.must (wr&&decide (0<bs.length)) (k (.l (.s bs)) {σ with heap:=(σ.next,.own 0 bs)::upd (bUd σ.heap row) id (.bld t e (some σ.next)),next:=σ.next+1} (some (id::row.toList)))
      |_,_=>.bad
     else .bad
   else .bad
  |_=>.bad
 |_=>.bad
end
section
variable {c:Ctx} {α:Type} {w w':World} {β:aDl}
theorem bTq {B:bZ5} {h:aD6} {nx:Nat} (hh:aBk c w h nx β) {id:Nat} {row:Option Nat} {wr:Bool} {bs:List UInt8} (hl:h.lookup id=some (.bld B.tag B.u8 row)) (hb:aOt h row=some (wr,bs)) :
  ∃ b p u,β id=some b∧w.heap[b]? =some (.cells #[p,u] B.tag (0,0))∧(p=.pointer none∨p=.pointer (some ⟨b,0,none⟩))∧(wr=true→bZ4 B w b u bs)∧(row=none→u=.slice none 0 0)∧(row=none→bs=[]) ∧
   ∀ r,row=some r→r≠id∧∃ e0,h.lookup r=some (.own e0 bs)∧∃ g cur E fr,β r=some g∧g≠b∧w.heap[g]? =some (.cells cur E fr)∧(wr=true→E=B.u8∧fr=(0,0))∧u=.slice (some ⟨g,0,none⟩) bs.length cur.size∧bs.length≤cur.size∧cur.size≤maxLen∧cur.toList.take bs.length=aBu bs:=by
 obtain⟨b,p,u,hob,hw,hp,hn,hr⟩:=(hh.blk id _ hl).2
 have key:∀ r,row=some r→r≠id∧∃ e0,h.lookup r=some (.own e0 bs)∧∃ g cur E fr,β r=some g∧g≠b∧w.heap[g]? =some (.cells cur E fr)∧(wr=true→E=B.u8∧fr=(0,0))∧u=.slice (some ⟨g,0,none⟩) bs.length cur.size∧bs.length≤cur.size∧cur.size≤maxLen∧cur.toList.take bs.length=aBu bs:=by
  rintro r rfl
  obtain⟨hlt,hnb,hr⟩:=hr r rfl
  simp only[aOt]at hb
  split at hb
  ·rename_i e' bs' hlr
   simp only[Option.some.injEq,Prod.mk.injEq]at hb
   obtain⟨rfl,rfl⟩:=hb
   obtain⟨hee,g,cur,E1,fr1,hg,hwg,hu⟩:=hr _ _ hlr
   obtain⟨g2,cur2,E2,fr2,hg2,hwg2,h0,h1,h2,h3⟩:=(hh.blk r _ hlr).2
   obtain rfl:g2=g:=by rw[hg]at hg2;exact (Option.some.inj hg2).symm
   rw[hwg]at hwg2
   simp only[Option.some.injEq,Obj.cells.injEq]at hwg2
   obtain⟨rfl,rfl,rfl⟩:=hwg2
   have hne:r≠id:=fun he=>by subst he;rw[hl]at hlr;cases hlr
   refine⟨hne,e',hlr,g2,cur,E1,fr1,hg,fun he=>?_,hwg,fun hwr=>?_,hu,h1,h2,h3⟩
   ·subst he
    exact hne (hh.inj r id _ _ g2 hlr hl hg hob)
   ·have he0:e'≠0:=by simpa using hwr
    obtain⟨q1,q2⟩:=h0 he0
    rcases hee with rfl | h
    ·exact⟨q1,q2⟩
    ·exact absurd h he0
  ·cases hb
 refine⟨b,p,u,hob,hw,hp,fun hwr=>?_,hn,?_,key⟩
 ·cases row with
  |none=>exact .inl ⟨hn rfl,by simp only[aOt,Option.some.injEq,Prod.mk.injEq]at hb;exact hb.2.symm⟩
  |some r =>
   obtain⟨_,e0,_,g,cur,E1,fr1,_,h1,h2,h3,h4,h5,h6,h7⟩:=key r rfl
   obtain⟨rfl,rfl⟩:=h3 hwr
   exact .inr ⟨g,cur,h4,h1,h2,h5,h6,h7⟩
 ·rintro rfl
  simp only[aOt,Option.some.injEq,Prod.mk.injEq]at hb
  exact hb.2.symm
theorem aO9 (h:aD6) (row:Option Nat) (j:Nat):(bUd h row).lookup j=if row=some j then none else h.lookup j:=by
 cases row with
 |none=>rw[if_neg (fun h=>by cases h)];rfl
 |some r =>
  show (del h r).lookup j=_
  rw[aCw]
  by_cases hj:j=r
  ·rw[if_pos hj,if_pos (by rw[hj])]
  ·rw[if_neg hj,if_neg (fun h=>hj (Option.some.inj h).symm)]
theorem bG6 {B:bZ5} {σ:St} {id:Nat} {row:Option Nat} {bs':List UInt8} {b:Nat} {p u p':Value} {e1 E':TypeId} {fr':Nat×Nat} (he1:(e1=B.u8∨e1=0)∧(e1≠0→E'=e1∧fr'=(0,0))) (hp':p'=.pointer none∨p'=.pointer (some ⟨b,0,none⟩)) (hh:aBk c w σ.heap σ.next β) (hl:σ.heap.lookup id=some (.bld B.tag B.u8 row)) (hob:β id=some b) (hw:w.heap[b]? =some (.cells #[p,u] B.tag (0,0)))
  (hn:row=none→u=.slice none 0 0) (hrow:∀ r,row=some r→r≠id∧(∃ e0 bs,σ.heap.lookup r=some (.own e0 bs))∧∃ g n cur,β r=some g∧g≠b∧u=.slice (some ⟨g,0,none⟩) n cur)
  (hfree:∀ r,row=some r→r∉σ.pins) (hpin:∀ (j:Nat) (id:Nat),σ.pins[j]? =some id→id<σ.next∧(∃ x,σ.heap.lookup id=some x∧x.isFro=false)∧c.pb[j]? =some (β id)) (hnp:σ.pins.length=c.pb.length)
  (hsz:w.heap.size≤w'.heap.size) (hos:w'.os=w.os) (hout:w'.output=w.output) {g':Nat} {cur':Array Value}
  (hb':w'.heap[b]? =some (.cells #[p',.slice (some ⟨g',0,none⟩) bs'.length cur'.size] B.tag (0,0))) (hgb:g'≠b) (hg':w'.heap[g']? =some (.cells cur' E' fr'))
  (hlen:bs'.length≤cur'.size) (hmx:cur'.size≤maxLen) (htk:cur'.toList.take bs'.length=aBu bs') (hgn:w.heap.size≤g'∨∃ n k,u=.slice (some ⟨g',0,none⟩) n k)
  (hfr:∀ k,k<w.heap.size→k≠b→(∀ n m,u≠.slice (some ⟨k,0,none⟩) n m)→w'.heap[k]? =w.heap[k]?) :
  ∃ β',aBk c w' ((σ.next,.own e1 bs')::upd (bUd σ.heap row) id (.bld B.tag B.u8 (some σ.next))) (σ.next+1) β' ∧
   Ext c w σ.heap σ.next β w' ((σ.next,.own e1 bs')::upd (bUd σ.heap row) id (.bld B.tag B.u8 (some σ.next))) (σ.next+1) β' ∧
   (∀ id2 cells,σ.heap.lookup id2=some (.box cells)→∃ cells',List.lookup id2 ((σ.next,Blk.own e1 bs')::upd (bUd σ.heap row) id (.bld B.tag B.u8 (some σ.next)))=some (.box cells')∧cells'.length=cells.length∧β' id2=β id2) ∧
   (∀ id2 x,id2∈σ.pins→σ.heap.lookup id2=some x→x.isFro=false→∃ x',List.lookup id2 ((σ.next,Blk.own e1 bs')::upd (bUd σ.heap row) id (.bld B.tag B.u8 (some σ.next)))=some x'∧x'.isFro=false∧β' id2=β id2):=by
 have hidn:id<σ.next:=(hh.blk id _ hl).1
 have hblt:b<w.heap.size:=(hh.place id _ b hl hob).2
 have hrid:row≠some id:=fun h=>(hrow id h).1 rfl
 have hlk:∀ j,List.lookup j ((σ.next,Blk.own e1 bs')::upd (bUd σ.heap row) id (.bld B.tag B.u8 (some σ.next)))=if j=σ.next then some (.own e1 bs')else if j=id then some (.bld B.tag B.u8 (some σ.next))else if row=some j then none else σ.heap.lookup j:=fun j=>by
  by_cases hj:j=σ.next
  ·subst hj;rw[aC6,if_pos rfl]
  ·rw[aAz hj,if_neg hj,aCv _ id _ ⟨_,by rw[aO9,if_neg hrid];exact hl⟩ j,aO9]
 generalize ((σ.next,Blk.own e1 bs')::upd (bUd σ.heap row) id (.bld B.tag B.u8 (some σ.next)))=h' at hlk ⊢
 have same:∀ d,d<w.heap.size→d≠b→(∀ r,row=some r→β r≠some d)→w'.heap[d]? =w.heap[d]? :=fun d hd hdb hr=>hfr d hd hdb fun n m he=>by
  cases hro:row with
  |none=>rw[hn hro]at he;cases he
  |some r =>
   obtain⟨_,_,g,_,k,hg,_,hu⟩:=hrow r hro
   rw[hu]at he
   injection he with e1
   injection e1 with e1
   injection e1 with e1
   exact hr r hro (by rw[hg,e1])
 have gold:w.heap.size≤g'∨∃ r,row=some r∧β r=some g':=hgn.imp (fun h=>h) fun⟨n,k,he⟩=>by
  cases hro:row with
  |none=>rw[hn hro]at he;cases he
  |some r =>
   obtain⟨_,_,g,_,k,hg,_,hu⟩:=hrow r hro
   rw[hu]at he
   injection he with e1
   injection e1 with e1
   injection e1 with e1
   exact⟨r,rfl,by rw[hg,e1]⟩
 have hg'lt:g'<w'.heap.size:=by
  rcases Nat.lt_or_ge g' w'.heap.size with h | h
  ·exact h
  ·rw[Array.getElem?_eq_none h]at hg';cases hg'
 let β':aDl:=fun j=>if j=σ.next then some g' else β j
 have hβn:β' σ.next=some g':=if_pos rfl
 have hβo:∀ j,j≠σ.next→β' j=β j:=fun j hj=>if_neg hj
 -- an old site that stands
 have old:∀ {j:Nat} {x:Blk},h'.lookup j=some x→j≠σ.next→j≠id→row≠some j∧σ.heap.lookup j=some x:=fun {j x} h h1 h2=>by
  rw[hlk,if_neg h1,if_neg h2]at h
  split at h
  ·cases h
  ·rename_i h3;exact⟨h3,h⟩
 have oldsame:∀ {j:Nat} {x:Blk} {d:Nat},σ.heap.lookup j=some x→j≠id→row≠some j→β j=some d→w'.heap[d]? =w.heap[d]? :=fun {j x d} hx h1 h2 hd=>by
  refine same d (hh.place j x d hx hd).2 (fun e=>h1 (hh.inj j id x _ b hx hl (by rw[hd,e]) hob)) fun r hr he=>?_
  obtain⟨_,⟨_,_,hlr⟩,_⟩:=hrow r hr
  have:=hh.inj j r x _ d hx hlr hd he
  exact h2 (by rw[hr,this])
 have ext:Ext c w σ.heap σ.next β w' h' (σ.next+1) β':=by
  refine⟨by omega,hsz,fun d hd hlt=>?_,fun j x' hj hx=>?_,fun j x d cur E fr hj hx hd hwd=>?_⟩
  ·have hdb:d≠b:=fun e=>hd.2 id _ hl rfl (by rw[hob,e])
   have hdr:∀ r,row=some r→β r≠some d:=fun r hr he=>(by obtain⟨_,⟨_,_,hlr⟩,_⟩:=hrow r hr;exact hd.2 r _ hlr rfl he)
   refine⟨⟨hd.1,fun j blk hj hf he=>?_⟩,same d hlt hdb hdr⟩
   by_cases h1:j=σ.next
   ·subst h1
    rw[hβn]at he
    obtain rfl:=Option.some.inj he
    rcases gold with h2 | ⟨r,hr,h2⟩
    ·omega
    ·exact hdr r hr h2
   ·rw[hβo j h1]at he
    by_cases h2:j=id
    ·subst h2;rw[hob]at he;exact hdb (Option.some.inj he).symm
    ·obtain⟨h3,h4⟩:=old hj h1 h2
     exact hd.2 j blk h4 hf he
  ·have h1:j≠σ.next:=by omega
   refine⟨hβo j h1,?_⟩
   by_cases h2:j=id
   ·subst h2
    rw[hlk,if_neg h1,if_pos rfl]at hx
    obtain rfl:=Option.some.inj hx
    exact⟨_,hl,rfl,rfl⟩
   ·obtain⟨_,h4⟩:=old hx h1 h2
    exact⟨x',h4,aAj.refl _⟩
  ·have h1:j≠σ.next:=by omega
   by_cases h2:j=id
   ·subst h2
    rw[hob]at hd
    obtain rfl:=Option.some.inj hd
    rw[hw]at hwd
    simp only[Option.some.injEq,Obj.cells.injEq]at hwd
    obtain⟨rfl,rfl,rfl⟩:=hwd
    exact⟨_,hb',rfl⟩
   ·obtain⟨h3,h4⟩:=old hx h1 h2
    exact⟨cur,by rw[oldsame h4 h2 h3 hd];exact hwd,rfl⟩
 have npb:∀ r d,row=some r→β r=some d→some d∉c.pb:=fun r d hr hd hm=>by
  obtain⟨j,hj⟩:=List.getElem?_of_mem hm
  have hjl:j<σ.pins.length:=by rw[hnp];exact (List.getElem?_eq_some_iff.1 hj).1
  obtain⟨_,⟨x,hx,_⟩,h3⟩:=hpin j _ (List.getElem?_eq_getElem hjl)
  rw[hj]at h3
  have h3:=(Option.some.inj h3).symm
  have:=(by obtain⟨_,⟨_,_,hlr⟩,_⟩:=hrow r hr;exact hh.inj _ r x _ d hx hlr h3 hd:_=r)
  exact hfree r hr (by rw[←this];exact List.getElem_mem hjl)
 have w0le:∀ r d,row=some r→β r=some d→c.w0.heap.size≤d:=fun r d hr hd=>by
  obtain⟨_,⟨_,_,hlr⟩,_⟩:=hrow r hr
  rcases (hh.place r _ d hlr hd).1 with h | h
  ·exact h
  ·exact absurd h.1 (npb r d hr hd)
 refine⟨β',⟨fun j x hx=>?_,fun j x d hx hd=>?_,fun j j' x x' d hx hx' hd hd'=>?_,Nat.le_trans hh.size hsz,fun d hd hpb=>?_,hos.trans hh.os,hout.trans hh.out,fun d hd cur E fr hwd=>?_⟩,ext,fun id2 cells hx=>?_,fun id2 x hp hx hf=>?_⟩
 ·by_cases h1:j=σ.next
  ·subst h1
   rw[hlk,if_pos rfl]at hx
   obtain rfl:=Option.some.inj hx
   exact⟨by omega,g',cur',E',fr',hβn,hg',he1.2,hlen,hmx,htk⟩
  ·by_cases h2:j=id
   ·subst h2
    rw[hlk,if_neg h1,if_pos rfl]at hx
    obtain rfl:=Option.some.inj hx
    refine⟨by omega,b,_,_,by rw[hβo _ h1];exact hob,hb',hp',(fun (hc:some σ.next=none)=>nomatch hc),fun id2 hid2=>?_⟩
    obtain rfl:=Option.some.inj hid2
    refine⟨by omega,fun t2 e2 r2 h3=>?_,fun e' bs2 h3=>?_⟩
    ·rw[hlk,if_pos rfl]at h3;cases h3
    ·rw[hlk,if_pos rfl]at h3
     obtain⟨rfl,rfl⟩:=Blk.own.inj (Option.some.inj h3)
     exact⟨he1.1,g',cur',E',fr',hβn,hg',rfl⟩
   ·obtain⟨h3,h4⟩:=old hx h1 h2
    obtain⟨h5,h6⟩:=hh.blk j x h4
    refine⟨by omega,?_⟩
    rw[hβo j h1]
    exact h6.ext ext fun d hd=>oldsame h4 h2 h3 hd
 ·by_cases h1:j=σ.next
  ·subst h1
   rw[hβn]at hd
   obtain rfl:=Option.some.inj hd
   refine⟨.inl ?_,hg'lt⟩
   rcases gold with h2 | ⟨r,hr,h2⟩
   ·exact Nat.le_trans hh.size h2
   ·exact w0le r _ hr h2
  ·rw[hβo j h1]at hd
   by_cases h2:j=id
   ·subst h2
    rw[hlk,if_neg h1,if_pos rfl]at hx
    obtain rfl:=Option.some.inj hx
    have:=hh.place j _ d hl hd
    exact⟨this.1.imp (fun h=>h) fun h=>⟨h.1,rfl⟩,Nat.lt_of_lt_of_le this.2 hsz⟩
   ·obtain⟨h3,h4⟩:=old hx h1 h2
    have:=hh.place j x d h4 hd
    exact⟨this.1,Nat.lt_of_lt_of_le this.2 hsz⟩
 ·have toold:∀ {j:Nat} {x:Blk},h'.lookup j=some x→j≠σ.next→∃ x0,σ.heap.lookup j=some x0∧row≠some j:=fun {j x} h h1=>by
   by_cases h2:j=id
   ·subst h2;exact⟨_,hl,hrid⟩
   ·obtain⟨h3,h4⟩:=old h h1 h2
    exact⟨x,h4,h3⟩
  have mixed:∀ {j:Nat} {x:Blk},h'.lookup j=some x→j≠σ.next→β j=some g'→False:=fun {j x} h h1 h2=>by
   obtain⟨x0,h3,h4⟩:=toold h h1
   rcases gold with h5 | ⟨r,hr,h5⟩
   ·have:=(hh.place j x0 g' h3 h2).2;omega
   ·obtain⟨_,⟨_,_,hlr⟩,_⟩:=hrow r hr
    have:=hh.inj j r x0 _ g' h3 hlr h2 h5
    exact h4 (by rw[hr,this])
  by_cases h1:j=σ.next
  ·by_cases h2:j'=σ.next
   ·rw[h1,h2]
   ·subst h1
    rw[hβn]at hd
    obtain rfl:=Option.some.inj hd
    rw[hβo j' h2]at hd'
    exact (mixed hx' h2 hd').elim
  ·rw[hβo j h1]at hd
   by_cases h2:j'=σ.next
   ·subst h2
    rw[hβn]at hd'
    obtain rfl:=Option.some.inj hd'
    exact (mixed hx h1 hd).elim
   ·rw[hβo j' h2]at hd'
    obtain⟨x0,h3,_⟩:=toold hx h1
    obtain⟨x1,h4,_⟩:=toold hx' h2
    exact hh.inj j j' x0 x1 d h3 h4 hd hd'
 ·rw[←hh.frame d hd hpb]
  refine same d (Nat.lt_of_lt_of_le hd hh.size) (fun e=>?_) fun r hr he=>?_
  ·subst e
   rcases (hh.place id _ d hl hob).1 with h | h
   ·omega
   ·exact hpb h.1
  ·have:=w0le r d hr he
   omega
 ·obtain⟨cur1,h1,h2⟩:=hh.pbs d hd cur E fr hwd
  by_cases h3:d=b
  ·subst h3
   rw[hw]at h1
   simp only[Option.some.injEq,Obj.cells.injEq]at h1
   obtain⟨rfl,rfl,rfl⟩:=h1
   exact⟨_,hb',h2⟩
  ·refine⟨cur1,?_,h2⟩
   rw[same d (Nat.lt_of_lt_of_le (c.oldpb d hd) hh.size) h3 fun r hr he=>npb r d hr he hd]
   exact h1
 ·have h1:id2≠σ.next:=by have:=(hh.blk id2 _ hx).1;omega
  have h2:id2≠id:=fun e=>by subst e;rw[hl]at hx;cases hx
  have h3:row≠some id2:=fun e=>by obtain⟨_,⟨_,_,hlr⟩,_⟩:=hrow id2 e;rw[hlr]at hx;cases hx
  exact⟨cells,by rw[hlk,if_neg h1,if_neg h2,if_neg h3];exact hx,rfl,hβo id2 h1⟩
 ·have h1:id2≠σ.next:=by have:=(hh.blk id2 _ hx).1;omega
  have h3:row≠some id2:=fun e=>hfree id2 e hp
  by_cases h2:id2=id
  ·subst h2;exact⟨_,by rw[hlk,if_neg h1,if_pos rfl],rfl,hβo _ h1⟩
  ·exact⟨x,by rw[hlk,if_neg h1,if_neg h2,if_neg h3];exact hx,hf,hβo id2 h1⟩
theorem bMo {σ:St} {id:Nat} {row:Option Nat} {y z:Blk}:∀ l,some (id::row.toList)=some l→∀ j,j<σ.next→j∉l→List.lookup j ((σ.next,y)::upd (bUd σ.heap row) id z)=σ.heap.lookup j:=by
 intro l he j hj hn
 obtain rfl:=Option.some.inj he
 simp only[List.mem_cons,not_or]at hn
 have h2:row≠some j:=fun e=>hn.2 (by rw[e];simp)
 rw[aAz (by omega:j≠σ.next),aEc _ _ _ hn.1,aO9,if_neg h2]
theorem bS7 {P:Program} {B:bZ5} (hL:bU7 P B):∀ c:Ctx,c.P=P→bE6 c (bX9 (α:=α) B):=by
 intro c hc g fn ws σ k r hg he
 subst hc
 unfold bX9 at he
 split at he
 ·rename_i id rest
  split at he
  ·rename_i t e row hl
   split at he
   ·rename_i hcond
    obtain⟨rfl,rfl,hu0,hbody,hfr⟩:=hcond
    have hfree:∀ r,row=some r→r∉σ.pins:=by
     rintro r rfl hp
     simp[aEw,hp]at hfr
    split at he
    ·exact (aA4 he).elim
    ·rename_i wr bs hb
     split at he
     ·rename_i hgw
      split at he
      ·rename_i s
       obtain⟨hwr,he⟩:=aAt he
       obtain⟨hm,he⟩:=aAt he
       simp only[Bool.and_eq_true,decide_eq_true_eq]at hm
       refine⟨_,_,_,he,bMo,rfl,hbody,fun β w vals hh hvl hv hpin hnp=>?_⟩
       obtain⟨b,p,u,hob,hw,hp,hbuf,hn,hn2,hrow⟩:=bTq hh hl hb
       match vals,hvl with
       |[v0,v1],_ =>
        have h0:=hv 0 v0 _ rfl rfl
        obtain⟨b2,hb2,rfl⟩:=h0.2.2.2 _ _ _ hl
        obtain rfl:b2=b:=by rw[hob]at hb2;exact (Option.some.inj hb2).symm
        obtain⟨s',rfl,hs'⟩:=hv 1 v1 _ rfl rfl
        subst hs'
        have hsl:s'.data.toList.length=s'.size:=Array.length_toList
        rw[hsl]at hm
        rw[hgw]
        refine (hL.wr b2 p u bs s' w hw hp (hbuf hwr) hm.1 hm.2).mono ?_
        rintro e w' ⟨y,rfl,hsz,hos,hout,g',cur',q1,q2,q3,q4,q5,q6,q7,q8⟩
        obtain⟨β',a1,a2,a3,a4⟩:=bG6 (bs':=bs++s'.data.toList) (e1:=B.u8) ⟨.inl rfl,fun _=>⟨rfl,rfl⟩⟩ (.inr rfl) hh hl hob hw hn (fun r hr=>by
         obtain⟨r1,e0,r2,g,cur,E1,fr1,r3,r4,r5,r6,r7,_⟩:=hrow r hr
         exact⟨r1,⟨e0,bs,r2⟩,g,_,cur.size,r3,r4,r7⟩) hfree hpin hnp hsz hos hout q1 q2 q3 q4 q5 q6 q7 q8
        refine⟨_,rfl,β',a1,a2,?_,rfl,rfl,a3,a4⟩
        refine⟨#[.int .i64 s'.size,y],rfl,rfl,fun j q hj=>?_⟩
        match j with
        |0 =>
         obtain rfl:=Option.some.inj hj
         exact⟨_,rfl,_,rfl,by rw[hsl];rfl⟩
        |1 =>
         obtain rfl:=Option.some.inj hj
         exact⟨_,rfl,_,rfl,trivial⟩
        |j+2=>simp at hj
      ·exact (aA4 he).elim
     ·split at he
      ·rename_i hgl
       split at he
       ·refine⟨_,_,_,he,(fun l _ id _ _=>rfl),rfl,hbody,fun β w vals hh hvl hv hpin hnp=>?_⟩
        obtain⟨b,p,u,hob,hw,hp,hbuf,hn,hn2,hrow⟩:=bTq hh hl hb
        match vals,hvl with
        |[v0],_ =>
         have h0:=hv 0 v0 _ rfl rfl
         obtain⟨b2,hb2,rfl⟩:=h0.2.2.2 _ _ _ hl
         obtain rfl:b2=b:=by rw[hob]at hb2;exact (Option.some.inj hb2).symm
         obtain⟨a,m,rfl⟩:∃ a m,u=.slice a bs.length m:=by
          cases hro:row with
          |none=>exact⟨none,0,by rw[hn hro,hn2 hro];rfl⟩
          |some r =>
           obtain⟨_,_,_,g,cur,_,_,_,_,_,_,hu,_⟩:=hrow r hro
           exact⟨_,_,hu⟩
         rw[hgl]
         refine (hL.len b2 p a bs.length m w hw).mono ?_
         rintro e w' ⟨rfl,rfl⟩
         exact⟨_,rfl,β,hh,Ext.refl _ _ _ _ _,rfl,rfl,rfl,fun id2 cells hx=>⟨cells,hx,rfl,rfl⟩,fun id2 x _ hx hf=>⟨x,hx,hf,rfl⟩⟩
       ·exact (aA4 he).elim
      ·split at he
       ·rename_i hgs
        split at he
        ·rename_i r0
         obtain⟨hm,he⟩:=aAt he
         simp only[Bool.and_eq_true,decide_eq_true_eq]at hm
         obtain⟨hwr,hm⟩:=hm
         refine⟨_,_,_,he,bMo,rfl,hbody,fun β w vals hh hvl hv hpin hnp=>?_⟩
         obtain⟨b,p,u,hob,hw,hp,hbuf,hn,hn2,hrow⟩:=bTq hh hl hb
         obtain⟨r1,e0,r2,g,cur,E1,fr1,r3,r4,r5,r6,r7,r8,r9,r10⟩:=hrow r0 rfl
         obtain⟨rfl,rfl⟩:=r6 hwr
         match vals,hvl with
         |[v0],_ =>
          have h0:=hv 0 v0 _ rfl rfl
          obtain⟨b2,hb2,rfl⟩:=h0.2.2.2 _ _ _ hl
          obtain rfl:b2=b:=by rw[hob]at hb2;exact (Option.some.inj hb2).symm
          rw[hgs]
          subst r7
          refine (hL.str b2 p g cur bs w hw r4 r5 r8 r9 r10 hm).mono ?_
          rintro e w' ⟨rfl,hsz,hos,hout,⟨fr',hg'⟩,hk⟩
          obtain⟨β',a1,a2,a3,a4⟩:=bG6 (B:=B) (bs':=bs) (p':=p) (e1:=0) (E':=B.u8) (fr':=fr') ⟨.inr rfl,fun h=>absurd rfl h⟩ hp hh hl hob hw hn (fun r hr=>by
           obtain⟨r1,e0,r2,g,cur,E1,fr1,r3,r4,r5,r6,r7,_⟩:=hrow r hr
           exact⟨r1,⟨e0,bs,r2⟩,g,_,cur.size,r3,r4,r7⟩) hfree hpin hnp (by omega) hos hout (by rw[hk b2 (Ne.symm r4)];exact hw) r4 hg' r8 r9 r10 (.inr ⟨_,_,rfl⟩) (fun k _ _ hu=>hk k (fun e=>hu bs.length cur.size (by rw[e])))
          exact⟨_,rfl,β',a1,a2,⟨⟨bs.toArray⟩,rfl,rfl⟩,rfl,rfl,a3,a4⟩
        ·exact (aA4 he).elim
       ·exact (aA4 he).elim
   ·exact (aA4 he).elim
  ·exact (aA4 he).elim
 ·exact (aA4 he).elim
end
end Go.Proofs.YtfljomghcbaepaaGreatDoor.V
