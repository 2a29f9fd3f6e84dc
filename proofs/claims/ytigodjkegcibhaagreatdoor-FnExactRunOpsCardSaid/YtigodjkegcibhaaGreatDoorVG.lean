/- The value-level interpreter over the model, part G: definitions, or lemmas that show that it is the model's. -/
import Derived.Test.YtigodjkegcibhaaGreatDoorVF
import Derived.OpenShut
import Derived.SizedLaws
import Derived.Carry
import Derived.ChangeOld
import Derived.Lib.LaidTab
set_option linter.unusedVariables false
set_option linter.unusedSimpArgs false
set_option linter.unusedSectionVars false
set_option linter.unnecessarySimpa false
namespace Go.Proofs.YtigodjkegcibhaaGreatDoor.V
inductive Fit (E:Env):K→C→Prop
 |int {k:IntKind} {n:Int}:k.min≤n→n≤k.max→Fit E (.int k) (.int k n)
 |bool {t:Bool}:Fit E .bool (.bool t)
 |str {s:List UInt8}:s.length≤reachBytes→Fit E .str (.str s)
 |sl {e:TypeId} {te:TI} {rows:List (List C)}:E.Ty e=some te→rows.length*te.bytes≤reachBytes→(∀ r,r∈rows→r.length=te.leaves.length) →
   (∀ r,r∈rows→∀ (j:Nat) (kd:K) (x:C),te.leaves[j]? =some kd→r[j]? =some x→Fit E kd x)→Fit E (.slice e) (.sl rows)
def aJ2 (E:Env) (ks:List K) (cs:List C):Prop:=cs.length=ks.length∧∀ (j:Nat) (kd:K) (x:C),ks[j]? =some kd→cs[j]? =some x→Fit E kd x
theorem Fit.is {E:Env} {kd:K} {x:C} (h:Fit E kd x):x.is kd=true:=by cases h<;>simp[C.is]
theorem aJ2.kinds {E:Env}:∀ {ks:List K} {cs:List C},aJ2 E ks cs→aB6 cs ks=true
 |[],[],_=>rfl
 |[],c::cs,h=>by simp[aJ2]at h
 |k::ks,[],h=>by simp[aJ2]at h
 |k::ks,c::cs,h=>by
  simp only[aB6,Bool.and_eq_true]
  exact⟨(h.2 0 k c rfl rfl).is,aJ2.kinds ⟨by simpa using h.1,fun j kd x hk hx=>h.2 (j+1) kd x (by simpa using hk) (by simpa using hx)⟩⟩
def aZt (E:Env):List (Nat×TypeId)→Nat→Option (List K)
 |[],_=>some []
 |(o,t)::r,k=>if o=k then match E.Ty t with
  |some tf=>match aZt E r (k+tf.leaves.length)with
   |some ks=>some (tf.leaves++ks)
   |none=>none
  |none=>none
  else none
def aL3 (E:Env):Nat→TypeId→Bool
 |0,_=>false
 |n+1,t=>match E.Ty t with
  |none=>false
  |some ti=>match ti.agg,ti.leaves with
   |false,[.int _] | false,[.bool] | false,[.str]=>true
   |false,[.slice e]=>(match E.Ty e with | some te=>decide (0<te.leaves.length) | none=>false)&&aL3 E n e
   |true,ks=>decide (aZt E ti.fields 0=some ks)&&ti.fields.all fun p=>aL3 E n p.2
   |_,_=>false
structure bQ3 (P:Program) (E:Env):Prop where
 cnt:∀ t ti fs,E.Ty t=some ti→ti.agg=true→P.underlying t=some (.struct fs)→fs.size=ti.fields.length
theorem aUm {α:Type} {Q:Nat→α→Prop}:∀ (n:Nat),(∀ i,i<n→∃ x,Q i x)→∃ l:List α,l.length=n∧∀ (i:Nat) (x:α),l[i]? =some x→Q i x
 |0,_=>⟨[],rfl,fun i x h=>by simp at h⟩
 |n+1,h=>by
  obtain⟨l,h1,h2⟩:=aUm n fun i hi=>h i (by omega)
  obtain⟨x,hx⟩:=h n (by omega)
  refine⟨l++[x],by simp[h1],fun i y hy=>?_⟩
  by_cases hi:i<l.length
  ·rw[List.getElem?_append_left hi]at hy;exact h2 i y hy
  ·rw[List.getElem?_append_right (by omega)]at hy
   have:i-l.length=0:=by have:=(List.getElem?_eq_some_iff.1 hy).1;simp at this;omega
   rw[this]at hy
   simp at hy
   subst hy
   have:i=n:=by omega
   subst this
   exact hx
section
variable {P:Program} {E:Env} {W:World} {H:Type} {enc:TypeId×Value→H}
abbrev aT2 (W:World):Nat→Prop:=fun b=>b<W.heap.size
def bN3 (E:Env) (W:World) (ks:List K) (cs:List Value):Prop :=
 ∃ cl:List C,aJ2 E ks cl∧cs.length=cl.length∧∀ (j:Nat) (v:Value) (x:C),cs[j]? =some v→cl[j]? =some x→Rep W (aT2 W) v x
theorem bDa (hE:aDx P E) {t:TypeId} {ti:TI} (h:E.Ty t=some ti):P.cellsOf t=ti.leaves.length∧P.bytesOf t=ti.bytes:=by
 obtain⟨i,z,h1,h2,h3,_⟩:=(hE.ty t ti h).info
 simp[Program.cellsOf,Program.bytesOf,h1,h2,h3]
theorem aKz {e:TypeId}:∀ {ds:List (DataW H)} {d:DataW H},d∈ds→∀ n,n∈d.weights P e→n∈DataW.weightsAll P e ds
 |[],d,h,_,_=>by cases h
 |x::ds,d,h,n,hn=>by
  simp only[DataW.weightsAll,List.mem_append]
  rcases List.mem_cons.1 h with rfl | h
  ·exact .inl hn
  ·exact .inr (aKz h n hn)
theorem bMt {a:Addr} {n:Nat} {cs:List Value} (h:W.cells? 0 a n=some cs):cs.length=n∧∀ i,i<n→cs[i]? =W.cell? (a.add i):=by
 simp only[World.cells?,Nat.zero_le,if_true]at h
 refine⟨by rw[mapM_some_length h];simp,fun i hi=>?_⟩
 exact (mapM_some_get h i i (by simp[hi])).symm
theorem bNw (hE:aDx P E) (hC:bQ3 P E):∀ (fuel n:Nat) (t:TypeId) (ti:TI) (cs:List Value) (d:DataW H) (ps:List MemPlace),aL3 E n t=true→E.Ty t=some ti →
  DataW.trod enc P W 0 (fun _=>true) true fuel t cs=some (d,ps)→(∀ m,m∈d.weights P t→m≤reachBytes)→bN3 E W ti.leaves cs:=by
 intro fuel
 induction fuel with
 |zero=>intro n t ti cs d ps _ _ ht;simp[DataW.trod]at ht
 |succ fuel ih =>
  intro n t ti cs d ps hp hti ht hw
  cases n with
  |zero=>simp[aL3]at hp
  |succ n =>
   have hT:=hE.ty t ti hti
   have one:∀ {kd:K} {v:Value} {x:C},ti.leaves=[kd]→cs=[v]→Fit E kd x→Rep W (aT2 W) v x→bN3 E W ti.leaves cs:=fun {kd v x} h1 h2 h3 h4=>by
    rw[h1,h2]
    refine⟨[x],⟨rfl,fun j kd' x' hk hx=>?_⟩,rfl,fun j v' x' hv hx=>?_⟩
    ·cases j with
     |zero=>simp at hk hx;subst hk;subst hx;exact h3
     |succ j=>simp at hk
    ·cases j with
     |zero=>simp at hv hx;subst hv;subst hx;exact h4
     |succ j=>simp at hv
   simp only[aL3,hti]at hp
   cases hag:ti.agg with
   |false =>
    obtain⟨kd,dsc,hlv,hu,hk⟩:=hT.leaf hag
    rw[hag,hlv]at hp
    cases kd with
    |int k =>
     simp only[aBy]at hk
     subst hk
     match cs with
     |[]=>simp[DataW.trod,hu]at ht
     |[v] =>
      cases v<;>simp[DataW.trod,hu]at ht
      rename_i k' m
      obtain⟨⟨rfl,hwf⟩,_⟩:=ht
      simp only[Lit.wf,Bool.and_eq_true,decide_eq_true_eq]at hwf
      exact one hlv rfl (.int hwf.1 hwf.2) (.int _ _)
     |v::u::r=>cases v<;>simp[DataW.trod,hu]at ht
    |bool =>
     simp only[aBy]at hk
     subst hk
     match cs with
     |[]=>simp[DataW.trod,hu]at ht
     |[v] =>
      cases v<;>simp[DataW.trod,hu]at ht
      exact one hlv rfl .bool (.bool _)
     |v::u::r=>cases v<;>simp[DataW.trod,hu]at ht
    |str =>
     simp only[aBy]at hk
     subst hk
     match cs with
     |[]=>simp[DataW.trod,hu]at ht
     |[v] =>
      cases v<;>simp[DataW.trod,hu]at ht
      rename_i s
      obtain⟨_,rfl,_⟩:=ht
      exact one hlv rfl (.str (hw _ (by simp[DataW.weights]))) (.str s)
     |v::u::r=>cases v<;>simp[DataW.trod,hu]at ht
    |slice e =>
     simp only[aBy]at hk
     subst hk
     simp only[Bool.and_eq_true]at hp
     cases hte:E.Ty e with
     |none=>rw[hte]at hp;simp at hp
     |some te =>
      rw[hte]at hp
      simp only[decide_eq_true_eq]at hp
      obtain⟨hpos,hpe⟩:=hp
      obtain⟨hce,hbe⟩:=bDa hE hte
      match cs with
      |[]=>simp[DataW.trod,hu]at ht
      |v::u::r =>
       exfalso
       cases v<;>simp[DataW.trod,hu]at ht
      |[v] =>
       cases v with
       |slice a len cap =>
        cases a with
        |none =>
         have hz:len=0∧cap=0:=by
          cases len<;>cases cap<;>simp[DataW.trod,hu]at ht ⊢
         obtain⟨rfl,rfl⟩:=hz
         exact one hlv rfl (.sl hte (by simp) (fun r hr=>by cases hr) (fun r hr=>by cases hr)) (.emp _ _)
        |some a =>
         simp only[DataW.trod,hu]at ht
         split at ht
         ·rename_i hcond
          cases hel:(List.range len).mapM fun i=>(W.cells? 0 (a.add (i*P.cellsOf e)) (P.cellsOf e)).bind (DataW.trod enc P W 0 (fun _=>true) true fuel e)with
          |none=>rw[hel]at ht;simp at ht
          |some elems =>
           rw[hel]at ht
           simp only[Option.bind_some,if_true]at ht
           cases hsp:(List.range (cap-len)).mapM fun j=>(W.cells? 0 (a.add ((len+j)*P.cellsOf e)) (P.cellsOf e)).bind (DataW.trod enc P W 0 (fun _=>true) true fuel e)with
           |none=>rw[hsp]at ht;simp at ht
           |some rest =>
            rw[hsp]at ht
            simp only[Option.map_some,Option.some.injEq,Prod.mk.injEq]at ht
            obtain⟨rfl,rfl⟩:=ht
            have hlen:elems.length=len:=by rw[mapM_some_length hel];simp
            have hw0:(len+rest.length)*te.bytes≤reachBytes:=by
             have:=hw ((elems.length+rest.length)*P.bytesOf e) (by simp[DataW.weights,hu])
             rw[hlen,hbe]at this;exact this
            by_cases h0:len=0
            ·subst h0
             exact one hlv rfl (.sl hte (by simp) (fun r hr=>by cases hr) (fun r hr=>by cases hr)) (.emp _ _)
            ·have row:∀ i,i<len→∃ cl:List C,aJ2 E te.leaves cl∧∀ j,j<te.leaves.length→∃ v,W.cell? ((a.add (i*te.leaves.length)).add j)=some v∧∀ x,cl[j]? =some x→Rep W (aT2 W) v x:=by
              intro i hi
              have hg:=mapM_some_get hel i i (by simp[hi])
              rw[hce]at hg
              cases hc:W.cells? 0 (a.add (i*te.leaves.length)) te.leaves.length with
              |none=>rw[hc]at hg;have:=(List.getElem?_eq_none_iff.1 hg.symm);omega
              |some ec =>
               rw[hc]at hg
               simp only[Option.bind_some]at hg
               obtain⟨c1,c2⟩:=bMt hc
               have hei:elems[i]? =some elems[i]:=List.getElem?_eq_getElem (by omega)
               rw[hei]at hg
               have hmem:elems[i].1∈elems.map (·.1):=List.mem_map.2 ⟨_,List.getElem_mem _,rfl⟩
               obtain⟨cl,f1,f2,f3⟩:=ih n e te ec elems[i].1 elems[i].2 hpe hte hg fun m hm=>hw m (by
                simp only[DataW.weights,hu,List.mem_cons,List.mem_append]
                exact .inr (.inl (aKz hmem m hm)))
               refine⟨cl,f1,fun j hj=>⟨ec[j]'(by omega),?_,fun x hx=>f3 j _ x (List.getElem?_eq_getElem (by omega)) hx⟩⟩
               rw[←c2 j hj]
               exact List.getElem?_eq_getElem (by omega)
             have hspot:a.spot=none:=by
              obtain⟨cl,_,h2⟩:=row 0 (by omega)
              obtain⟨v,hv,_⟩:=h2 0 hpos
              simp only[Nat.zero_mul]at hv
              have e1:(a.add 0).add 0=a:=by simp[Addr.add]
              rw[e1]at hv
              unfold World.cell? at hv
              split at hv
              ·split at hv
               ·cases hv
               ·rename_i h;simpa using h
              ·cases hv
             obtain⟨b,o,sp⟩:=a
             simp only at hspot
             subst hspot
             obtain⟨rows,r1,r2⟩:=aUm len row
             have hblt:b<W.heap.size:=by
              obtain⟨cl,_,h2⟩:=row 0 (by omega)
              obtain⟨v,hv,_⟩:=h2 0 hpos
              exact World.block_lt_of_cell? W _ (by simpa[Addr.add]using hv)
             refine one hlv rfl (.sl hte ?_ (fun r hr=>?_) (fun r hr j kd x hk hx=>?_)) (.sl b o len cap te.leaves.length rows (fun k=>(W.cell? ⟨b,o+k,none⟩).getD undef) r1.symm hcond.2.1 hblt hblt (fun r hr=>?_) (fun j hj=>?_) (fun i r j x hi hj=>?_))
             ·rw[r1];exact Nat.le_trans (Nat.mul_le_mul_right _ (by omega)) hw0
             ·obtain⟨i,hi⟩:=List.getElem?_of_mem hr
              exact (r2 i r hi).1.1
             ·obtain⟨i,hi⟩:=List.getElem?_of_mem hr
              exact (r2 i r hi).1.2 j kd x hk hx
             ·obtain⟨i,hi⟩:=List.getElem?_of_mem hr
              exact (r2 i r hi).1.1
             ·have hi:j / te.leaves.length<len:=by rw[Nat.div_lt_iff_lt_mul hpos];exact hj
              obtain⟨cl,_,h2⟩:=row _ hi
              obtain⟨v,hv,_⟩:=h2 (j % te.leaves.length) (Nat.mod_lt _ hpos)
              rw[add_lit,add_lit,Nat.add_assoc,Nat.mul_comm,Nat.div_add_mod]at hv
              rw[hv];rfl
             ·have hil:=(List.getElem?_eq_some_iff.1 hi).1
              obtain⟨q1,q2⟩:=r2 i r hi
              have hjl:=(List.getElem?_eq_some_iff.1 hj).1
              obtain⟨v,hv,hr⟩:=q2 j (by rw[←q1.1];exact hjl)
              rw[add_lit,add_lit,Nat.add_assoc]at hv
              rw[hv]
              exact hr x hj
         ·cases ht
       |_=>simp[DataW.trod,hu]at ht
    |_=>simp at hp
   |true =>
    obtain⟨fs,hu,_,hfs⟩:=hT.agg hag
    rw[hag]at hp
    simp only[Bool.and_eq_true,decide_eq_true_eq]at hp
    obtain⟨hlay,hall⟩:=hp
    obtain⟨hct,_⟩:=bDa hE hti
    simp only[DataW.trod,hu]at ht
    split at ht
    ·rename_i hlen
     cases hxs:fs.toList.mapM (fun f=>DataW.trod enc P W 0 (fun _=>true) true fuel f.type ((cs.drop f.offset).take (P.cellsOf f.type)))with
     |none=>rw[hxs]at ht;simp at ht
     |some xs =>
      rw[hxs]at ht
      simp only[Option.map_some,Option.some.injEq,Prod.mk.injEq]at ht
      obtain⟨rfl,rfl⟩:=ht
      have hcnt:=hC.cnt t ti fs hti hag hu
      -- field by field
      have go:∀ (fds:List Field) (fields:List (Nat×TypeId)) (k:Nat) (ks:List K) (xs:List (DataW H×List MemPlace)),fds.length=fields.length→(∀ (i o:Nat) (ft:TypeId),fields[i]? =some (o,ft)→∃ fd,fds[i]? =some fd∧fd.offset=o∧fd.type=ft) →
        aZt E fields k=some ks→(∀ p,p∈fields→aL3 E n p.2=true)→fds.mapM (fun f=>DataW.trod enc P W 0 (fun _=>true) true fuel f.type ((cs.drop f.offset).take (P.cellsOf f.type)))=some xs →
        (∀ m,m∈DataW.weightsEach P (fds.map (·.type)) (xs.map (·.1))→m≤reachBytes)→∃ cl:List C,aJ2 E ks cl∧∀ (j:Nat) (v:Value) (x:C),cs[k+j]? =some v→cl[j]? =some x→Rep W (aT2 W) v x:=by
       intro fds
       induction fds with
       |nil =>
        intro fields k ks xs hl _ hlay _ _ _
        have:fields=[]:=List.length_eq_zero_iff.1 hl.symm
        subst this
        simp only[aZt,Option.some.injEq]at hlay
        subst hlay
        exact⟨[],⟨rfl,fun j kd x hk=>by simp at hk⟩,fun j v x _ hx=>by simp at hx⟩
       |cons fd fds ihf =>
        intro fields k ks xs hl hal hlay hpl hm hwt
        cases fields with
        |nil=>simp at hl
        |cons p fields =>
         obtain⟨o,ft⟩:=p
         obtain⟨fd',h1,h2,h3⟩:=hal 0 o ft rfl
         simp only[List.getElem?_cons_zero,Option.some.injEq]at h1
         subst h1
         simp only[aZt]at hlay
         split at hlay
         ·rename_i hok
          subst hok
          split at hlay
          ·rename_i tf htf
           split at hlay
           ·rename_i ks' hks
            obtain rfl:=Option.some.inj hlay
            simp only[List.mapM_cons,Option.pure_def,Option.bind_eq_bind]at hm
            obtain⟨hcf,_⟩:=bDa hE htf
            cases hx:DataW.trod enc P W 0 (fun _=>true) true fuel fd.type ((cs.drop fd.offset).take (P.cellsOf fd.type))with
            |none=>rw[hx]at hm;simp at hm
            |some y =>
             rw[hx]at hm
             simp only[Option.bind_some]at hm
             cases hr:fds.mapM (fun f=>DataW.trod enc P W 0 (fun _=>true) true fuel f.type ((cs.drop f.offset).take (P.cellsOf f.type)))with
             |none=>rw[hr]at hm;simp at hm
             |some ys =>
              rw[hr]at hm
              obtain rfl:=Option.some.inj hm
              simp only[List.map_cons,DataW.weightsEach,List.mem_append]at hwt
              rw[h3]at hx
              obtain⟨cl1,a1,a2,a3⟩:=ih n ft tf _ y.1 y.2 (hpl _ List.mem_cons_self) htf hx fun m hm=>hwt m (.inl (by rw[h3];exact hm))
              obtain⟨cl2,b1,b2⟩:=ihf fields (o+tf.leaves.length) ks' ys (by simpa using hl) (fun i o' ft' hi=>by
               obtain⟨fd2,q1,q2⟩:=hal (i+1) o' ft' (by simpa using hi)
               exact⟨fd2,by simpa using q1,q2⟩) hks (fun p hp=>hpl p (List.mem_cons_of_mem _ hp)) hr fun m hm=>hwt m (.inr hm)
              refine⟨cl1++cl2,⟨by simp[a1.1,b1.1],fun j kd x hk hx=>?_⟩,fun j v x hv hx=>?_⟩
              ·by_cases hj:j<tf.leaves.length
               ·rw[List.getElem?_append_left hj]at hk
                rw[List.getElem?_append_left (by rw[a1.1];exact hj)]at hx
                exact a1.2 j kd x hk hx
               ·rw[List.getElem?_append_right (by omega)]at hk
                rw[List.getElem?_append_right (by rw[a1.1];omega),a1.1]at hx
                exact b1.2 _ kd x hk hx
              ·by_cases hj:j<tf.leaves.length
               ·rw[List.getElem?_append_left (by rw[a1.1];exact hj)]at hx
                refine a3 j v x ?_ hx
                rw[h2,hcf,List.getElem?_take_of_lt hj,List.getElem?_drop]
                exact hv
               ·rw[List.getElem?_append_right (by rw[a1.1];omega),a1.1]at hx
                refine b2 (j-tf.leaves.length) v x ?_ hx
                rw[Nat.add_assoc,show tf.leaves.length+(j-tf.leaves.length)=j by omega]
                exact hv
           ·cases hlay
          ·cases hlay
         ·cases hlay
      obtain⟨cl,g1,g2⟩:=go fs.toList ti.fields 0 ti.leaves xs (by simpa using hcnt) (fun i o ft hi=>by
       obtain⟨fd,q1,q2,q3⟩:=hfs i o ft hi
       exact⟨fd,by simpa using q1,q2,q3⟩) hlay (fun p hp=>List.all_eq_true.1 hall p hp) hxs (fun m hm=>hw m (by simp only[DataW.weights,hu];exact hm))
      exact⟨cl,g1,by rw[hlen,hct,g1.1],fun j v x hv hx=>g2 j v x (by simpa using hv) hx⟩
    ·cases ht
end
section
variable {P:Program} {E:Env} {W:World} {H:Type} {enc:TypeId×Value→H}
def bCg (E:Env) (t:TypeId):PTy:=match E.Ty t with | some ti=>.val ti.agg ti.leaves | none=>.val false []
theorem bTb (hE:aDx P E) (hC:bQ3 P E) {n:Nat} {t:TypeId} {ti:TI} {v:Value} {d:DataW H} {ps:List MemPlace} {b0:Nat} (hp:aL3 E n t=true) (hti:E.Ty t=some ti) (hval:Value.okWide P W .any b0 t v)
  (ht:DataW.Trod enc P W 0 (fun _=>true) true t v d ps) (hw:∀ m,m∈d.weights P t→m≤reachBytes):∃ cl:List C,aJ2 E ti.leaves cl∧bWh W (aT2 W) ti.agg v cl:=by
 obtain⟨fuel,hf⟩:=ht
 obtain⟨cl,h1,h2,h3⟩:=bNw hE hC fuel n t ti _ d ps hp hti hf hw
 refine⟨cl,h1,?_⟩
 have hT:=hE.ty t ti hti
 cases hag:ti.agg with
 |true =>
  obtain⟨fs,hu,_⟩:=hT.agg hag
  simp only[Value.okWide,hu]at hval
  obtain⟨cs,rfl,_⟩:=hval
  have h2':cs.size=cl.length:=by simpa[Value.cells]using h2
  refine⟨cs,rfl,h2',fun j x hx=>?_⟩
  have hlt:j<cs.size:=by rw[h2'];exact (List.getElem?_eq_some_iff.1 hx).1
  exact⟨cs[j],Array.getElem?_eq_getElem hlt,h3 j _ x (by simp[Value.cells,hlt]) hx⟩
 |false =>
  obtain⟨kd,dsc,hlv,hu,hk⟩:=hT.leaf hag
  have hc:v.cells=#[v]:=by
   cases v with
   |agg cs =>
    exfalso
    cases kd<;>simp only[aBy]at hk
    ·subst hk;simp[Value.okWide,Cell.okWide,Cell.ok,hu]at hval
    ·subst hk;simp[Value.okWide,Cell.okWide,Cell.ok,hu]at hval
    ·subst hk;simp[Value.okWide,Cell.okWide,Cell.ok,hu]at hval
    ·subst hk;simp[Value.okWide,Cell.okWide,Cell.ok,hu]at hval
    ·obtain⟨e,rfl⟩:=hk;simp[Value.okWide,Cell.okWide,Cell.ok,hu]at hval
    ·obtain⟨a,b,c,rfl⟩:=hk;simp[Value.okWide,Cell.okWide,Cell.ok,hu]at hval
    ·obtain⟨ms,rfl⟩:=hk;simp[Value.okWide,Cell.okWide,Cell.ok,hu]at hval
    ·subst hk;simp[Value.okWide,Cell.okWide,Cell.ok,hu]at hval
   |_=>rfl
  have hl1:cl.length=1:=by rw[h1.1,hlv];rfl
  match cl,hl1 with
  |[x],_=>exact⟨x,rfl,h3 0 v x (by rw[hc];rfl) rfl⟩
theorem bB6 (hE:aDx P E) (hC:bQ3 P E) {n:Nat}:∀ {ts:List TypeId} {vs:List Value} {ds:List (DataW H)} {ps:List MemPlace} {b0:Nat},(ts.all fun t=>aL3 E n t)=true→(∀ (j:Nat) t v,ts[j]? =some t→vs[j]? =some v→Value.okWide P W .any b0 t v) →
  DataW.TrodAll enc P W 0 (fun _=>true) true ts vs ds ps→(∀ m,m∈DataW.weightsEach P ts ds→m≤reachBytes) →
  ∃ cs,aIa P W (aT2 W) (ts.map (bCg E)) vs cs []∧aJ2 E (aEp (ts.map (bCg E))) cs
 |[],vs,ds,ps,b0,_,_,ht,_=>by
  cases vs<;>cases ds<;>simp[DataW.TrodAll]at ht
  exact⟨[],.nil,rfl,fun j kd x hk=>by simp[aEp]at hk⟩
 |t::ts,vs,ds,ps,b0,hp,hval,ht,hw=>by
  obtain⟨v,vs',d,ds',p,q,rfl,rfl,rfl,h1,h2⟩:=ChangeShapes.trodAll_cons ht
  simp only[List.all_cons,Bool.and_eq_true]at hp
  cases hti:E.Ty t with
  |none=>exfalso;have:=hp.1;cases n<;>simp[aL3,hti]at this
  |some ti =>
   simp only[DataW.weightsEach,List.mem_append]at hw
   obtain⟨cl,f1,f2⟩:=bTb hE hC hp.1 hti (hval 0 t v rfl rfl) h1 fun m hm=>hw m (.inl hm)
   obtain⟨cs,g1,g2⟩:=bB6 hE hC hp.2 (fun j t v ht hv=>hval (j+1) t v (by simpa using ht) (by simpa using hv)) h2 fun m hm=>hw m (.inr hm)
   refine⟨cl++cs,?_,?_⟩
   ·simp only[List.map_cons,bCg,hti]
    exact .val f1.1 f2 g1
   ·simp only[List.map_cons,bCg,hti,aEp]
    refine⟨by simp[f1.1,g2.1],fun j kd x hk hx=>?_⟩
    by_cases hj:j<ti.leaves.length
    ·rw[List.getElem?_append_left hj]at hk
     rw[List.getElem?_append_left (by rw[f1.1];exact hj)]at hx
     exact f1.2 j kd x hk hx
    ·rw[List.getElem?_append_right (by omega)]at hk
     rw[List.getElem?_append_right (by rw[f1.1];omega),f1.1]at hx
     exact g2.2 _ kd x hk hx
theorem aOr {W W':World} (hs:∀ b,b<W.heap.size→W'.heap[b]? =W.heap[b]?) (ho:W'.os=W.os) (hu:W'.output=W.output) (may:MemPlace→Prop):W.keptBut W' may:=by
 refine⟨ho,hu,fun i hi=>?_⟩
 rw[hs i hi]
 have:W.heap[i]? =some W.heap[i]:=Array.getElem?_eq_getElem hi
 rw[this]
 split<;>rename_i h1 h2
 ·simp only[Option.some.injEq]at h1 h2
  rw[h1]at h2
  simp only[Obj.cells.injEq]at h2
  obtain⟨rfl,rfl,rfl⟩:=h2
  exact⟨rfl,rfl,rfl,fun _ _=>rfl⟩
 ·simp only[Option.some.injEq]at h1 h2
  rw[h1]at h2
  simp only[Obj.map.injEq]at h2
  obtain⟨rfl,rfl⟩:=h2
  exact .inr ⟨rfl,rfl⟩
 ·rfl
theorem aLy (hl:laidOutB P=true) {W':World} (hs:∀ b,b<W.heap.size→W'.heap[b]? =W.heap[b]?) (hsz:W.heap.size≤W'.heap.size):∀ {ts:List TypeId} {vs:List Value} {ds:List (DataW H)} {ps:List MemPlace},
  (ts.all fun t=>P.readableRec t&&decide (t<P.types.size))=true→DataW.TrodAll enc P W 0 (fun _=>true) true ts vs ds ps→(∀ x,x∈ps→x.block<W.heap.size)→DataW.TrodAll enc P W' 0 (fun b=>decide (b<W.heap.size)) true ts vs ds ps
 |[],vs,ds,ps,_,h,_=>by
  cases vs<;>cases ds<;>simp[DataW.TrodAll]at h ⊢
  exact h
 |t::ts,vs,ds,ps,hr,h,hlt=>by
  obtain⟨v,vs',d,ds',p,q,rfl,rfl,rfl,h1,h2⟩:=ChangeShapes.trodAll_cons h
  simp only[List.all_cons,Bool.and_eq_true,decide_eq_true_eq]at hr
  have hb:RowKit.Below W.heap.size W {W with heap:=W'.heap}:=⟨rfl,rfl,rfl,hsz,hs⟩
  have h1':=RowKit.Below.trod hl hr.1.1 hr.1.2 h1 hb fun x hx=>hlt x (List.mem_append_left _ hx)
  have h1'':=DataW.Trod.of_heap (w':=W') (by rfl) h1'
  exact⟨p,q,h1'',aLy hl hs hsz hr.2 h2 (fun x hx=>hlt x (List.mem_append_right _ hx)),rfl⟩
theorem aZu {E : Env} (hE : aA8 P E) (hC : bQ3 P E) {f : FuncId} {fn : Func} {body : Code} {spec : Spec} {n : Nat} {s : ChangeSpec} {apart fresh handsOn : Bool} (hf : P.funcs[f]? = some fn) (hbody : fn.body = some body) (hname : (fn.name == "runtime.NumGoroutine") = false)
  (hS:aAw P f ⟨fn.params.toList.map (bCg E),[⟨false,[(.bool,false)]⟩],false⟩ spec) (hplain:(fn.params.toList.all fun t=>aL3 E n t)=true) (hl:laidOutB P=true)
  (hread:(fn.params.toList.all fun t=>P.readableRec t&&decide (t<P.types.size))=true) (hvars:s.vars=[]) {bt:TypeId} (hres:fn.resultTypes=#[bt]) (hbt:P.underlying bt=some .bool)
  (hfn:∀ (H:Type) (ds:List (DataW H)),ds.length=fn.params.size→s.fn H ds={results:=[.lit (.bool true)],args:=ds}) (hspec:∀ cs,aJ2 E (aEp (fn.params.toList.map (bCg E))) cs→spec cs=some (true,[.bool true]))
  {W:World} {base:Nat} {args:Array Value} {ds gs:List (DataW H)} {before:List MemPlace} (hval:∀ (j:Nat) t v,fn.params[j]? =some t→args[j]? =some v→Value.okWide P W .any base t v)
  (hW:DataW.Whole enc P fn.params.toList s.vars apart W args.toList ds gs before) (hsz:(DataW.weightsEach P (fn.params.toList++s.plain.varTypes P) (ds++gs)).all (· ≤reachBytes)=true) (hG:aMy P W (aT2 W)) :
  Calls P f args W fun e W'=>∃ v,e=.returned v∧s.post enc P fn apart fresh handsOn false W args v W':=by
 have hW':=hW
 obtain⟨p,q,hA,hV,rfl,hfz,hnd⟩:=hW
 rw[hvars]at hV
 obtain⟨rfl,rfl⟩:=ChangeShapes.trodVars_none hV
 have hlens:args.toList.length=fn.params.toList.length∧ds.length=fn.params.toList.length:=by
  have:∀ {ts:List TypeId} {vs:List Value} {ds:List (DataW H)} {ps:List MemPlace},DataW.TrodAll enc P W 0 (fun _=>true) true ts vs ds ps→vs.length=ts.length∧ds.length=ts.length:=by
   intro ts
   induction ts with
   |nil=>intro vs ds ps h;cases vs<;>cases ds<;>simp[DataW.TrodAll]at h;exact⟨rfl,rfl⟩
   |cons t ts ih =>
    intro vs ds ps h
    obtain⟨v,vs',d,ds',p,q,rfl,rfl,rfl,h1,h2⟩:=ChangeShapes.trodAll_cons h
    have:=ih h2
    exact⟨by simp[this.1],by simp[this.2]⟩
  exact this hA
 have hweights:∀ m,m∈DataW.weightsEach P fn.params.toList ds→m≤reachBytes:=by
  have key:∀ (ts us:List TypeId) (ds:List (DataW H)),ds.length=ts.length→∀ m,m∈DataW.weightsEach P ts ds→m∈DataW.weightsEach P (ts++us) (ds++[]):=by
   intro ts us
   induction ts with
   |nil=>intro ds hd m hm;cases ds<;>simp[DataW.weightsEach]at hm
   |cons t ts ih =>
    intro ds hd m hm
    cases ds with
    |nil=>simp at hd
    |cons d ds =>
     simp only[List.cons_append,DataW.weightsEach,List.mem_append]at hm ⊢
     rcases hm with hm | hm
     ·exact .inl hm
     ·exact .inr (ih ds (by simpa using hd) m hm)
  intro m hm
  have:=List.all_eq_true.1 hsz m (key _ _ _ hlens.2 m hm)
  simpa using this
 obtain⟨cs,hargs,hfit⟩:=bB6 hE.ok hC hplain (fun j t v ht hv=>hval j t v (by simpa using ht) (by simpa using hv)) hA hweights
 have hgo:=hS W (aT2 W) [] args.toList cs [.bool true] (fun b hb=>⟨hb,by simp⟩) hG (fun i j b hb=>by simp at hb) hargs hfit.kinds (hspec cs hfit)
 have hnm : ¬ fn.name = "runtime.NumGoroutine" := by simpa using hname
 have hcalls:Calls P f args W fun e W'=>∃ v,e=.returned v∧bNh P W (aT2 W) [] ⟨fn.params.toList.map (bCg E),[⟨false,[(.bool,false)]⟩],false⟩ [.bool true] v W':=by
  rcases hgo with⟨_,h⟩ | ⟨v,w',h,_⟩
  ·simpa using h
  ·exfalso
   simp[callFunc,hf,hnm,hbody]at h
 refine hcalls.mono fun e W' ⟨v,he,ha⟩=>⟨v,he,?_⟩
 obtain⟨⟨vs,bs,cs1,cs2,okN,_,rfl,hcs,hrets,hboxes,_,_⟩,hsize,hframe,hos,hout⟩:=ha
 -- the result
 have hret:vs=[.bool true]:=by
  cases hrets with
  |agg h=>simp at h
  |one _ hlv hr =>
   cases hr
   cases hlv with
   |data hrep hlv =>
    cases hlv
    simp only[List.cons_append,List.nil_append,List.cons.injEq]at hcs
    obtain⟨rfl,_⟩:=hcs
    cases hrep
    rfl
 subst hret
 have hfr:∀ b,b<W.heap.size→W'.heap[b]? =W.heap[b]? :=fun b hb=>hframe b hb (by simp)
 have hsfn:=hfn H (ds++[]) (by simpa using hlens.2)
 refine⟨ds,[],p++[],[],p,[],hW',?_,?_,?_,aOr hfr hos hout _,fun h=>by cases h⟩
 ·rw[hsfn,hres]
  exact ChangeShapes.trodAll_mk1 (RowKit.shut_bool hbt true)
 ·rw[hsfn,List.append_nil]
  exact aLy hl hfr hsize hread hA fun x hx=>hW'.lt x (by simpa using hx)
 ·rw[hvars,hsfn]
  rfl
end
def bJ1:Value→K→Bool
 |.int k n,.int k'=>decide (k=k')&&decide (n=0)
 |.bool t,.bool=> !t
 |.string s,.str=>decide (s.size=0)
 |.slice none 0 0,.slice _=>true
 |.pointer none,.ptr=>true
 |.nilFunc,.func=>true
 |.nilIface,.other=>true
 |.nilIface,.err=>true
 |.map none,.map _ _=>true
 |_,_=>false
theorem bJ0 {v:Value} {kd:K} (h:bJ1 v kd=true):v=aIb kd:=by
 unfold bJ1 at h
 split at h
 ·simp only[Bool.and_eq_true,decide_eq_true_eq]at h
  obtain⟨rfl,rfl⟩:=h
  rfl
 ·rename_i t
  cases t
  ·rfl
  ·cases h
 ·rename_i s
  have h0:s.size=0:=by simpa using h
  have:s=⟨#[]⟩:=by
   cases s with
   |mk d =>
    have:d.size=0:=h0
    have:d=#[]:=Array.eq_empty_of_size_eq_zero this
    rw[this]
  rw[this];rfl
 ·rfl
 ·rfl
 ·rfl
 ·rfl
 ·rfl
 ·rfl
 ·cases h
def aLv:List Value→List K→Bool
 |[],[]=>true
 |v::vs,k::ks=>bJ1 v k&&aLv vs ks
 |_,_=>false
theorem aL8:∀ {vs:List Value} {ks:List K},aLv vs ks=true→vs=ks.map aIb
 |[],[],_=>rfl
 |[],_::_,h=>by cases h
 |_::_,[],h=>by cases h
 |v::vs,k::ks,h=>by
  simp only[aLv,Bool.and_eq_true]at h
  simp only[List.map_cons]
  rw[bJ0 h.1,aL8 h.2]
def aV3:K→TypeDesc→Bool
 |.int k,.int k'=>decide (k=k')
 |.bool,.bool=>true
 |.str,.string=>true
 |.slice e,.slice e'=>decide (e=e')
 |.ptr,.pointer _=>true
 |.func,.func .. =>true
 |.err,.interface _=>true
 |.map kt et,.map kt' et'=>decide (kt=kt')&&decide (et=et')
 |_,_=>false
theorem aTg {kd:K} {d:TypeDesc} (h:aV3 kd d=true):aBy kd d:=by
 unfold aV3 at h
 split at h
 ·have:_=_:=of_decide_eq_true h
  subst this;rfl
 ·rfl
 ·rfl
 ·have:_=_:=of_decide_eq_true h
  subst this;rfl
 ·exact⟨_,rfl⟩
 ·exact⟨_,_,_,rfl⟩
 ·exact⟨_,rfl⟩
 ·simp only[Bool.and_eq_true,decide_eq_true_eq]at h
  obtain⟨rfl,rfl⟩:=h
  rfl
 ·cases h
def aMj:List Field→List (Nat×TypeId)→Bool
 |[],[]=>true
 |f::fs,(o,t)::r=>decide (f.offset=o)&&decide (f.type=t)&&aMj fs r
 |_,_=>false
theorem aJy:∀ {fs:List Field} {fields:List (Nat×TypeId)},aMj fs fields=true→fs.length=fields.length∧∀ (i o:Nat) (ft:TypeId),fields[i]? =some (o,ft)→∃ fd,fs[i]? =some fd∧fd.offset=o∧fd.type=ft
 |[],[],_=>⟨rfl,fun i o ft h=>by simp at h⟩
 |[],_::_,h=>by cases h
 |_::_,[],h=>by cases h
 |f::fs,(o,t)::r,h=>by
  simp only[aMj,Bool.and_eq_true,decide_eq_true_eq]at h
  obtain⟨h1,h2⟩:=aJy h.2
  refine⟨by simp[h1],fun i o' ft hi=>?_⟩
  cases i with
  |zero =>
   simp only[List.getElem?_cons_zero,Option.some.injEq,Prod.mk.injEq]at hi
   exact⟨f,rfl,hi.1▸h.1.1,hi.2▸h.1.2⟩
  |succ i=>simpa using h2 i o' ft (by simpa using hi)
def aIp (P:Program):List Field→List K→Nat→Bool
 |[],[],_=>true
 | f :: fs, k :: ks, j => decide (f.name ≠ "_") && decide (f.offset = j) && (match P.underlying f.type with | some d => aV3 k d | none => false) && aIp P fs ks (j + 1)
 |_,_,_=>false
theorem aL6 {P : Program} : ∀ {fs : List Field} {ks : List K} {n : Nat}, aIp P fs ks n = true → fs.length = ks.length ∧ ∀ (j : Nat) (fd : Field), fs[j]? = some fd → fd.name ≠ "_" ∧ fd.offset = n + j ∧ ∃ kd d, ks[j]? = some kd ∧ P.underlying fd.type = some d ∧ aBy kd d
 |[],[],_,_=>⟨rfl,fun j fd h=>by simp at h⟩
 |[],_::_,_,h=>by cases h
 |_::_,[],_,h=>by cases h
 |f::fs,k::ks,n,h=>by
  simp only[aIp,Bool.and_eq_true,decide_eq_true_eq]at h
  obtain⟨⟨⟨h1,h2⟩,h3⟩,h4⟩:=h
  obtain⟨g1,g2⟩:=aL6 h4
  refine⟨by simp[g1],fun j fd hj=>?_⟩
  cases j with
  |zero =>
   simp only[List.getElem?_cons_zero,Option.some.injEq]at hj
   subst hj
   split at h3
   ·rename_i d hd
    exact⟨h1,by omega,k,d,rfl,hd,aTg h3⟩
   ·cases h3
  |succ j =>
   obtain⟨q1,q2,q3⟩:=g2 j fd (by simpa using hj)
   exact⟨q1,by omega,by simpa using q3⟩
def tyB (P:Program) (t:TypeId) (ti:TI):Bool :=
 (match P.info? t with
  |some i=>decide (i.size=ti.leaves.length)&&decide (i.bytes=ti.bytes)&&(match i.zero with | some z=>aLv z.cells.toList ti.leaves | none=>false)
  |none=>false) &&
 (match ti.agg with
  |true=>(match P.underlying t with
   |some (.struct fs)=>(fs.toList.mapM fun f=>(P.info? f.type).map fun i=>(f.offset,i.size)).isSome&&aMj fs.toList ti.fields
   |_=>false)
  |false=>(match ti.leaves,P.underlying t with
   |[kd],some d=>aV3 kd d&&(match kd,P.info? t with | .int _,some i=>i.comparable | .int _,none=>false | _,_=>true)
   |_,_=>false)) &&
 (!ti.eq||(!P.stoodInHeld t&& !P.eqGuardType P.depth t&&(match P.underlying t with
  |some (.struct fs)=>aIp P fs.toList ti.leaves 0
  |_=>false))) &&
 (match ti.agg,ti.leaves with
  |false,[.bool]=>(match P.info? t with | some i=>(match i.zero with | some (.bool false)=>true | _=>false) | none=>false)
  |_,_=>true)
theorem bQ6 {P:Program} {t:TypeId} {ti:TI} (h:tyB P t ti=true):bFv P t ti∧(ti.agg=true→∀ fs,P.underlying t=some (.struct fs)→fs.size=ti.fields.length):=by
 simp only[tyB,Bool.and_eq_true]at h
 obtain⟨⟨⟨h1,h2⟩,h3⟩,h4⟩:=h
 refine⟨⟨?_,fun hag=>?_,fun hag kd hkd=>?_,fun hag hlv=>?_,fun hag=>?_,fun heq=>?_⟩,fun hag fs hu=>?_⟩
 ·split at h1
  ·rename_i i hi
   simp only[Bool.and_eq_true,decide_eq_true_eq]at h1
   obtain⟨⟨q1,q2⟩,q3⟩:=h1
   split at q3
   ·rename_i z hz
    exact⟨i,z,hi,q1,q2,hz,aL8 q3⟩
   ·cases q3
  ·cases h1
 ·rw[hag]at h2
  simp only at h2
  split at h2
  ·rename_i fs hu
   simp only[Bool.and_eq_true]at h2
   obtain⟨places,hp⟩:=Option.isSome_iff_exists.1 h2.1
   exact⟨fs,hu,⟨places,hp⟩,fun f o ft hf=>by
    obtain⟨fd,z1,z2⟩:=(aJy h2.2).2 f o ft hf
    exact⟨fd,by simpa using z1,z2⟩⟩
  ·cases h2
 ·rw[hag]at h2
  simp only at h2
  split at h2
  ·rename_i kd' d hl hu
   rw[hkd]at hl
   obtain rfl:K.int kd=kd':=by simpa using hl
   simp only[Bool.and_eq_true]at h2
   obtain⟨_,h2⟩:=h2
   split at h2
   ·rename_i i _ hi
    exact⟨i,hi,h2⟩
   ·cases h2
   ·rename_i hn hn'
    cases hi:P.info? t with
    |none=>exact (hn' kd rfl hi).elim
    |some i=>exact (hn kd i rfl hi).elim
  ·cases h2
 ·rw[hag,hlv]at h4
  simp only at h4
  split at h4
  ·rename_i i hi
   split at h4
   ·rename_i hz
    exact⟨i,hi,hz⟩
   ·cases h4
  ·cases h4
 ·rw[hag]at h2
  simp only at h2
  split at h2
  ·rename_i kd d hl hu
   simp only[Bool.and_eq_true]at h2
   exact⟨kd,d,hl,hu,aTg h2.1⟩
  ·cases h2
 ·rw[heq]at h3
  simp only[Bool.not_true,Bool.false_or,Bool.and_eq_true,Bool.not_eq_true']at h3
  obtain⟨⟨q1,q2⟩,q3⟩:=h3
  refine⟨q1,q2,?_⟩
  split at q3
  ·rename_i fs hu
   obtain⟨z1,z2⟩:=aL6 q3
   exact⟨fs,hu,by simpa using z1,fun j fd hj=>by
    obtain⟨y1,y2,y3⟩:=z2 j fd (by simpa using hj)
    exact⟨y1,by omega,y3⟩⟩
  ·cases q3
 ·rw[hag]at h2
  simp only at h2
  rw[hu]at h2
  simp only[Bool.and_eq_true]at h2
  simpa using (aJy h2.2).1
theorem aF7 {α:Type} {t:TypeId} {x:α}:∀ {l:List (TypeId×α)},l.lookup t=some x→(t,x)∈l
 |[],h=>by cases h
 |(k,y)::l,h=>by
  by_cases hk:t=k
  ·subst hk
   simp[List.lookup]at h
   subst h
   exact List.mem_cons_self
  ·have hf:(t==k)=false:=by simpa using hk
   simp only[List.lookup,hf]at h
   exact List.mem_cons_of_mem _ (aF7 h)
theorem bEm {P:Program} {l:List (TypeId×TI)} (h:(l.all fun p=>tyB P p.1 p.2)=true):(∀ t ti,bTo l t=some ti→bFv P t ti)∧∀ t ti fs,bTo l t=some ti→ti.agg=true→P.underlying t=some (.struct fs)→fs.size=ti.fields.length :=
 ⟨fun t ti ht=>(bQ6 (List.all_eq_true.1 h _ (aF7 ht))).1,fun t ti fs ht hag hu=>(bQ6 (List.all_eq_true.1 h _ (aF7 ht))).2 hag fs hu⟩
def bW1 (P:Program) (t:TypeId) (m:Nat) (e:TypeId) (te:TI):Bool :=
 (match P.underlying t with | some (.array m' e')=>m'==m&&e'==e | _=>false) &&
 (match P.info? t with | some i=>(match i.zero with | some z=>aLv z.cells.toList (List.replicate m te.leaves).flatten | none=>false) | none=>false)
theorem bTa {P:Program} {t:TypeId} {m:Nat} {e:TypeId} {te:TI} (h:bW1 P t m e te=true):bTi P t m e te:=by
 simp only[bW1,Bool.and_eq_true]at h
 obtain⟨h1,h2⟩:=h
 refine⟨?_,?_⟩
 ·split at h1
  ·rename_i m' e' hu
   simp only[Bool.and_eq_true,beq_iff_eq]at h1
   obtain⟨rfl,rfl⟩:=h1
   exact hu
  ·cases h1
 ·split at h2
  ·rename_i i hi
   split at h2
   ·rename_i z hz
    refine⟨i,z,hi,hz,?_⟩
    rw[aL8 h2,List.map_flatten,List.map_replicate]
   ·cases h2
  ·cases h2
def bMw (P:Program) (tab:List (TypeId×TI)) (l:List (TypeId×Nat×TypeId)):Bool :=
 l.all fun p=>match bTo tab p.2.2 with | some te=>bW1 P p.1 p.2.1 p.2.2 te | none=>true
theorem bEc {P:Program} {tab:List (TypeId×TI)} {l:List (TypeId×Nat×TypeId)} (h:bMw P tab l=true):∀ t m e te,l.lookup t=some (m,e)→bTo tab e=some te→bTi P t m e te:=by
 intro t m e te h1 h2
 have:=List.all_eq_true.1 h _ (aF7 h1)
 simp only[h2]at this
 exact bTa this
def bVw (l:List (Nat×String)):Nat→Option (List C):=fun g=>(l.lookup g).bind aNt
def glB (P:Program) (l:List (Nat×String)):Bool:=l.all fun p=>match P.globals[p.1]? with | some gi=>gi.name==p.2 | none=>false
theorem bLt {P:Program} {l:List (Nat×String)} (h:glB P l=true):∀ g row,bVw l g=some row→bN4 P g row:=by
 intro g row hg
 unfold bVw at hg
 cases hl:l.lookup g with
 |none=>rw[hl]at hg;cases hg
 |some nm =>
  rw[hl]at hg
  have:=List.all_eq_true.1 h _ (aF7 hl)
  simp only at this
  split at this
  ·rename_i gi hgi
   have hn:gi.name=nm:=by simpa using this
   exact⟨gi,hgi,by rw[hn];exact hg⟩
  ·cases this
section
variable {α:Type} {E:Env} {I:Inl α}
theorem aUj (c:Code):aFo c []=c:=by cases c<;>rfl
theorem aC5 (c:Code) (k:Exit→St→T α):aBo E I c [] k=k:=by cases c<;>rfl
inductive aFp:Code→List Pt→Code→Prop where
 |nil (c:Code):aFp c [] c
 |sl {a b:Code} {p:List Pt} {x:Code}:aFp a p x→aFp (.seq a b) (.l::p) x
 |sr {a b:Code} {p:List Pt} {x:Code}:aFp b p x→aFp (.seq a b) (.r::p) x
 |cl {o:Operand} {a b:Code} {p:List Pt} {x:Code}:aFp a p x→aFp (.cond o a b) (.l::p) x
 |cr {o:Operand} {a b:Code} {p:List Pt} {x:Code}:aFp b p x→aFp (.cond o a b) (.r::p) x
 |b {id:Nat} {b:Code} {p:List Pt} {x:Code}:aFp b p x→aFp (.block id b) (.b::p) x
 |lp {b:Code} {n:Nat} {p:List Pt} {x:Code}:aFp b p x→aFp (.loop b) (.lp n::p) x
theorem aFp.at {c x:Code} {p:List Pt} (h:aFp c p x):aFo c p=x:=by
 induction h with
 |nil c=>exact aUj c
 |sl _ ih | sr _ ih | cl _ ih | cr _ ih | b _ ih | lp _ ih=>simpa only[aFo]using ih
theorem aFp.app {c x y:Code} {p q:List Pt} (h:aFp c p x) (h2:aFp x q y):aFp c (p++q) y:=by
 induction h with
 |nil c=>exact h2
 |sl _ ih=>exact .sl (ih h2)
 |sr _ ih=>exact .sr (ih h2)
 |cl _ ih=>exact .cl (ih h2)
 |cr _ ih=>exact .cr (ih h2)
 |b _ ih=>exact .b (ih h2)
 |lp _ ih=>exact .lp (ih h2)
theorem aFp.rest {c x:Code} {p q:List Pt} (h:aFp c p x):∀ (k:Exit→St→T α),aBo E I c (p++q) k=aBo E I x q (aBo E I c p k):=by
 induction h with
 |nil c=>intro k;rw[aC5];rfl
 |sl _ ih | sr _ ih | cl _ ih | cr _ ih | b _ ih | lp _ ih=>intro k;simp only[List.cons_append,aBo,ih]
def aEr (E:Env) (I:Inl α) (c:Code) (kf:Exit→St→T α) (p:List Pt) (n:Nat) (τ:St):T α :=
 match aFo c p with
 |.loop b=>aN7 (aEt E I b) (St.norm E (aF8 b)) n τ (aBo E I c p kf)
 |_=>.bad
theorem aJd {c:Code} {kf:Exit→St→T α}:∀ (a:Code) (p:List Pt) (σ:St),aFp c p a→aEs E I (aEr E I c kf) a p σ (aBo E I c p kf)=aEt E I a σ (aBo E I c p kf):=by
 intro a
 induction a with
 |seq a b iha ihb =>
  intro p σ h
  simp only[aEs,aEt]
  have hl:aFp c (p++[.l]) a:=h.app (.sl (.nil a))
  have hr:aFp c (p++[.r]) b:=h.app (.sr (.nil b))
  have el:aBo E I c (p++[.l]) kf=aSm (fun σ'=>aEt E I b σ' (aBo E I c p kf)) (aBo E I c p kf):=by
   rw[h.rest];simp only[aBo,aC5]
  have er:aBo E I c (p++[.r]) kf=aBo E I c p kf:=by rw[h.rest];simp only[aBo,aC5]
  have e2:(fun σ'=>aEs E I (aEr E I c kf) b (p++[.r]) σ' (aBo E I c p kf))=fun σ'=>aEt E I b σ' (aBo E I c p kf):=by
   funext σ'
   have:=ihb (p++[.r]) σ' hr
   rw[er]at this
   exact this
  rw[e2,←el]
  exact iha _ _ hl
 |cond o a b iha ihb =>
  intro p σ h
  simp only[aEs,aEt]
  have el:aBo E I c (p++[.l]) kf=aBo E I c p kf:=by rw[h.rest];simp only[aBo,aC5]
  have er:aBo E I c (p++[.r]) kf=aBo E I c p kf:=by rw[h.rest];simp only[aBo,aC5]
  split
  ·rename_i ho
   have:=iha (p++[.l]) σ (h.app (.cl (.nil a)))
   rw[el]at this
   exact this
  ·rename_i ho
   have:=ihb (p++[.r]) σ (h.app (.cr (.nil b)))
   rw[er]at this
   exact this
  ·rfl
 |block id b ih =>
  intro p σ h
  simp only[aEs,aEt]
  have e:aBo E I c (p++[.b]) kf=aRw id (aBo E I c p kf):=by rw[h.rest];simp only[aBo,aC5]
  rw[←e]
  exact ih _ _ (h.app (.b (.nil b)))
 |loop b ih =>
  intro p σ h
  simp only[aEs,aEt,aEr,h.at]
 |_=>intros;rfl
theorem bF0 {c:Code} {kf:Exit→St→T α} {a:Code}:∀ (p q:List Pt),(∃ x,aFp a p x)→aFp c q a→aHn E I (aEr E I c kf) a p q (aBo E I c q kf)=aBo E I a p (aBo E I c q kf):=by
 intro p q hp
 obtain⟨x,hp⟩:=hp
 induction hp generalizing q with
 |nil a=>intro h;rw[aC5];cases a<;>rfl
 |@sl a b p x hp ih =>
  intro h
  simp only[aHn,aBo]
  have el:aBo E I c (q++[.l]) kf=aSm (fun σ'=>aEt E I b σ' (aBo E I c q kf)) (aBo E I c q kf):=by
   rw[h.rest];simp only[aBo,aC5]
  have er:aBo E I c (q++[.r]) kf=aBo E I c q kf:=by rw[h.rest];simp only[aBo,aC5]
  have e2:(fun σ'=>aEs E I (aEr E I c kf) b (q++[.r]) σ' (aBo E I c q kf))=fun σ'=>aEt E I b σ' (aBo E I c q kf):=by
   funext σ'
   have:=aJd (E:=E) (I:=I) (kf:=kf) b (q++[.r]) σ' (h.app (.sr (.nil b)))
   rw[er]at this
   exact this
  rw[e2,←el]
  exact ih _ (h.app (.sl (.nil a)))
 |@sr a b p x hp ih =>
  intro h
  simp only[aHn,aBo]
  have er:aBo E I c (q++[.r]) kf=aBo E I c q kf:=by rw[h.rest];simp only[aBo,aC5]
  rw[←er]
  exact ih _ (h.app (.sr (.nil b)))
 |@cl o a b p x hp ih =>
  intro h
  simp only[aHn,aBo]
  have er:aBo E I c (q++[.l]) kf=aBo E I c q kf:=by rw[h.rest];simp only[aBo,aC5]
  rw[←er]
  exact ih _ (h.app (.cl (.nil a)))
 |@cr o a b p x hp ih =>
  intro h
  simp only[aHn,aBo]
  have er:aBo E I c (q++[.r]) kf=aBo E I c q kf:=by rw[h.rest];simp only[aBo,aC5]
  rw[←er]
  exact ih _ (h.app (.cr (.nil b)))
 |@b id b p x hp ih =>
  intro h
  simp only[aHn,aBo]
  have er:aBo E I c (q++[.b]) kf=aRw id (aBo E I c q kf):=by rw[h.rest];simp only[aBo,aC5]
  rw[←er]
  exact ih _ (h.app (.b (.nil b)))
 |@lp b n p x hp ih =>
  intro h
  simp only[aHn,aBo]
  have er:aBo E I c (q++[.lp n]) kf=aSm (fun σ'=>aN7 (aEt E I b) (St.norm E (aF8 b)) n (St.norm E (aF8 b) σ') (aBo E I c q kf)) (aBo E I c q kf):=by rw[h.rest];simp only[aBo,aC5]
  have e2:(fun σ'=>aEr E I c kf q n (St.norm E (aF8 b) σ'))=fun σ'=>aN7 (aEt E I b) (St.norm E (aF8 b)) n (St.norm E (aF8 b) σ') (aBo E I c q kf):=by
   funext σ'
   simp only[aEr,h.at]
  rw[e2,←er]
  exact ih _ (h.app (.lp (.nil b)))
end
theorem bEj (E:Env) (I:Inl (List C)) (sig:Sig) (fn:Func) {c:Code} (hc:fn.body=some c) :
  aBd E I sig fn=aEr {E with nt:=fn.ntmps} I c (bBl E sig fn):=by
 funext p n τ
 simp only[aBd,hc,aEr]
 cases aFo c p<;>rfl
def aOm:Code→List Pt→Bool
 |_,[]=>true
 |.seq a _,.l::p=>aOm a p
 |.seq _ b,.r::p=>aOm b p
 |.cond _ a _,.l::p=>aOm a p
 |.cond _ _ b,.r::p=>aOm b p
 |.block _ b,.b::p=>aOm b p
 |.loop b,.lp _::p=>aOm b p
 |_,_=>false
theorem aTh:∀ (c:Code) (p:List Pt),aOm c p=true→aFp c p (aFo c p):=by
 intro c p
 induction p generalizing c with
 |nil=>intro _;rw[aUj];exact .nil c
 |cons x p ih =>
  intro h
  cases c<;>cases x<;>first | (simp[aOm]at h;done) | skip
  ·exact .sl (ih _ h)
  ·exact .sr (ih _ h)
  ·exact .cl (ih _ h)
  ·exact .cr (ih _ h)
  ·exact .b (ih _ h)
  ·exact .lp (ih _ h)
theorem aAi (E:Env) (I:Inl (List C)) (sig:Sig) (fn:Func) (cs:List C):bNv E I sig fn cs=aAo E I sig fn (aBd E I sig fn) cs:=by
 unfold bNv aAo
 split
 ·rename_i b ws σ c h1 h2
  split
  ·congr 1
   congr 1
   funext ws'
   rw[bEj E I sig fn h2]
   have:=aJd (E:={E with nt:=fn.ntmps}) (I:=I) (kf:=bBl E sig fn) c [] {σ with slots:=(List.range ws'.length).zip ws'} (.nil c)
   rw[aC5]at this
   exact this.symm
  ·rfl
 ·rfl
theorem aAx (E:Env) (I:Inl (List C)) (sig:Sig) (fn:Func) (p:List Pt) (n:Nat) (τ:St) (h:(match fn.body with | some c=>aOm c p | none=>false)=true) :
  aBd E I sig fn p (n+1) τ=aBc E I sig fn (aBd E I sig fn) p n τ:=by
 cases hc:fn.body with
 |none=>rw[hc]at h;cases h
 |some c =>
  rw[hc]at h
  have hg:=aTh c p h
  have hv:aBc E I sig fn (aBd E I sig fn) p n τ=match aFo c p with
   |.loop b=>aEs {E with nt:=fn.ntmps} I (aBd E I sig fn) b (p++[.lp n]) τ (aHn {E with nt:=fn.ntmps} I (aBd E I sig fn) c (p++[.lp n]) [] (bBl E sig fn))
   |_=>.bad:=by
   simp only[aBc,hc]
   cases aFo c p<;>rfl
  rw[hv,bEj E I sig fn hc]
  simp only[aEr]
  split
  ·rename_i b hb
   rw[hb]at hg
   have hg2:aFp c (p++[.lp n]) b:=hg.app (.lp (.nil b))
   have e1:=bF0 (E:={E with nt:=fn.ntmps}) (I:=I) (kf:=bBl E sig fn) (p++[.lp n]) [] ⟨b,hg2⟩ (.nil c)
   rw[aC5]at e1
   have e2:=aJd (E:={E with nt:=fn.ntmps}) (I:=I) (kf:=bBl E sig fn) b (p++[.lp n]) τ hg2
   have e4:aHn {E with nt:=fn.ntmps} I (aEr {E with nt:=fn.ntmps} I c (bBl E sig fn)) c (p++[.lp n]) [] (bBl E sig fn)=aBo {E with nt:=fn.ntmps} I c (p++[.lp n]) (bBl E sig fn):=e1
   show aN7 _ _ (n+1) τ _=aEs _ _ (aEr {E with nt:=fn.ntmps} I c (bBl E sig fn)) b _ τ (aHn _ _ (aEr {E with nt:=fn.ntmps} I c (bBl E sig fn)) c _ [] _)
   rw[e4,e2,hg.rest]
   simp only[aN7,aBo,aC5]
  ·rfl
theorem aAm {x:Int} (h1: -9223372036854775808≤x) (h2:x≤9223372036854775807):IntKind.i64.wrap x=x:=by
 simp only[IntKind.wrap,IntKind.bits,IntKind.signed,IntKind.min,IntKind.max]
 first
  |(split<;>omega)
  |(simp;omega)
  |omega
theorem bJ2 {x:Int} (h1:0≤x) (h2:x≤255):IntKind.u8.wrap x=x:=by
 simp only[IntKind.wrap,IntKind.bits,IntKind.signed,IntKind.min,IntKind.max]
 first
  |(split<;>omega)
  |(simp;omega)
  |omega
noncomputable def T.ev {α:Type} (x:T α):Option α:=T.rec (motive:=fun _=>Option α) (fun a=>some a) none (fun t _ _ y n=>Bool.rec n y t) (fun t _ n=>Bool.rec none n t) x
theorem bM4 {α:Type}:∀ x:T α,x.ev=x.eval
 |.ret a=>rfl
 |.bad=>rfl
 |.ask true y n=>bM4 y
 |.ask false y n=>bM4 n
 |.must true n=>bM4 n
 |.must false n=>rfl
theorem aAg {α:Type} {x y:T α} (h:x.ev=y.ev):x.eval=y.eval:=by rw[←bM4,←bM4];exact h
def bLu (P:Program):Bool:=(List.range P.globals.size).all fun i=>match P.globals[i]? with
 |some gi=>(aNt gi.name).isNone||decide (P.globalNamed gi.name=some i)
 |none=>true
theorem aWt {s : String} {row : List C} (h : aNt s = some row) : (s = "math/bits.deBruijn32tab" ∧ row = u8s bJp) ∨ (s = "math/bits.deBruijn64tab" ∧ row = u8s bJo) ∨ (s = "internal/strconv.uint64pow10" ∧ row = bTn aL0) ∨
  (s = "strconv.ErrSyntax" ∧ row = [.err .any]) ∨ (s = "strconv.ErrRange" ∧ row = [.err .any]) := by
 unfold aNt at h
 split at h
 ·exact .inl ⟨‹_›,(Option.some.inj h).symm⟩
 ·split at h
  ·exact .inr (.inl ⟨‹_›,(Option.some.inj h).symm⟩)
  ·split at h
   ·exact .inr (.inr (.inl ⟨‹_›,(Option.some.inj h).symm⟩))
   ·split at h
    ·exact .inr (.inr (.inr (.inl ⟨‹_›,(Option.some.inj h).symm⟩)))
    ·split at h
     ·exact .inr (.inr (.inr (.inr ⟨‹_›,(Option.some.inj h).symm⟩)))
     ·cases h
def bEe (P:Program) (W:World) (nm:String):Prop:=∀ g,P.globalNamed nm=some g→∃ t x,W.cell? ⟨g,0,none⟩=some (.iface t x)
theorem bEe.none {P:Program} {W:World} {nm:String} (h:(P.globalNamed nm).isNone=true):bEe P W nm:=fun g hg=>by rw[hg]at h;cases h
theorem bLv {P : Program} {W : World} (hU : bLu P = true) (h1 : Lib.TabIs P W "math/bits.deBruijn32tab" .u8 bJp) (h2 : Lib.TabIs P W "math/bits.deBruijn64tab" .u8 bJo) (h3 : Lib.TabIs P W "internal/strconv.uint64pow10" .u64 aL0) (h4 : bEe P W "strconv.ErrSyntax") (h5 : bEe P W "strconv.ErrRange") :
  aMy P W (fun b=>b<W.heap.size):=by
 have key:∀ (nm:String) (k:IntKind) (zs:List Int) (g:Nat),0<zs.length→P.globalNamed nm=some g→Lib.TabIs P W nm k zs →
   g<W.heap.size∧∀ (j:Nat) (x:C),(zs.map (C.int k))[j]? =some x→∃ u,W.cell? ⟨g,j,none⟩=some u∧Rep W (fun b=>b<W.heap.size) u x:=by
  intro nm k zs g hz hg ht
  refine⟨?_,fun j x hx=>?_⟩
  ·have:=ht.cell hg 0 hz
   unfold World.cell? at this
   cases hh:W.heap[g]? with
   |none=>simp[hh]at this
   |some o=>exact (Array.getElem?_eq_some_iff.1 hh).1
  ·rw[List.getElem?_map]at hx
   cases hj:zs[j]? with
   |none=>rw[hj]at hx;cases hx
   |some z =>
    rw[hj]at hx
    obtain rfl:=Option.some.inj hx
    have hlt:=(List.getElem?_eq_some_iff.1 hj).1
    refine⟨_,ht.cell hg j hlt,?_⟩
    have:zs.getD j 0=z:=by simp[List.getD_eq_getElem?_getD,hj]
    rw[this]
    exact .int _ _
 have keyE:∀ (nm:String) (g:Nat),P.globalNamed nm=some g→bEe P W nm →
   g<W.heap.size∧∀ (j:Nat) (x:C),([C.err .any])[j]? =some x→∃ u,W.cell? ⟨g,j,none⟩=some u∧Rep W (fun b=>b<W.heap.size) u x:=by
  intro nm g hg ht
  obtain⟨t,y,hy⟩:=ht g hg
  refine⟨?_,fun j x hx=>?_⟩
  ·unfold World.cell? at hy
   cases hh:W.heap[g]? with
   |none=>simp[hh]at hy
   |some o=>exact (Array.getElem?_eq_some_iff.1 hh).1
  ·cases j with
   |zero =>
    obtain rfl:=Option.some.inj hx
    exact⟨_,hy,.eany t y⟩
   |succ j=>simp at hx
 intro g row ⟨gi,hgi,hrow⟩
 have hg:P.globalNamed gi.name=some g:=by
  have hlt:=(Array.getElem?_eq_some_iff.1 hgi).1
  have:=List.all_eq_true.1 hU g (List.mem_range.2 hlt)
  rw[hgi]at this
  simp only[hrow,Option.isNone_some,Bool.false_or,decide_eq_true_eq]at this
  exact this
 have no:∀ row:List C,row.length≠20→row=bTn aL0→∃ E fr,W.heap[g]? =some (.cells (aL0.map fun z=>Value.int .u64 z).toArray E fr):=fun row hl he=>absurd (by rw[he];decide) hl
 rcases aWt hrow with⟨hn,rfl⟩ | ⟨hn,rfl⟩ | ⟨hn,rfl⟩ | ⟨hn,rfl⟩ | ⟨hn,rfl⟩
 ·rw[hn]at hg;obtain⟨k1,k2⟩:=key _ _ _ g (by decide) hg h1;exact⟨⟨k1,no _ (by decide)⟩,k2⟩
 ·rw[hn]at hg;obtain⟨k1,k2⟩:=key _ _ _ g (by decide) hg h2;exact⟨⟨k1,no _ (by decide)⟩,k2⟩
 ·rw[hn]at hg
  obtain⟨k1,k2⟩:=key _ _ _ g (by decide) hg h3
  refine⟨⟨k1,fun _=>?_⟩,k2⟩
  unfold Lib.TabIs World.var? at h3
  rw[hg]at h3
  simp only[Option.bind_some]at h3
  split at h3
  ·rename_i cs E fr hh
   obtain rfl:=Option.some.inj h3
   exact⟨E,fr,hh⟩
  ·cases h3
 ·rw[hn]at hg;obtain⟨k1,k2⟩:=keyE _ g hg h4;exact⟨⟨k1,no _ (by decide)⟩,k2⟩
 ·rw[hn]at hg;obtain⟨k1,k2⟩:=keyE _ g hg h5;exact⟨⟨k1,no _ (by decide)⟩,k2⟩
def aMc:List Bool→List W→List W
 |b::bs,.l (.sl rows)::ws=>.l (.sn b rows)::aMc bs ws
 |bs,w::ws=>w::aMc bs ws
 |_,[]=>[]
def aHx:List Bool→List C→Bool
 |b::bs,.sl rows::cs=>(!b||rows.isEmpty)&&aHx bs cs
 |[],.sl _::_=>false
 |bs,_::cs=>aHx bs cs
 |[],[]=>true
 |_::_,[]=>false
def bF5:PTy→Bool
 |.val false [_]=>true
 |_=>false
def aLx (E:Env) (I:Inl (List C)) (bs:List Bool) (sig:Sig) (fn:Func) (cs:List C):T (List C) :=
 match aDq E sig.params cs {slots:=[],heap:=[],next:=0,pins:=[]},fn.body with
 |some (b,ws,[],σ),some c =>
  if ws.length≤fn.ntmps then
   .must b (bB5 (aMc bs ws) fun ws=>aEt {E with nt:=fn.ntmps} I c {σ with slots:=(List.range ws.length).zip ws} (bBl E sig fn))
  else .bad
 |_,_=>.bad
theorem bHl {cs:List C} {e:TypeId} (h:(aG8 cs 0 (.slice e)).1=true):∃ rows cs',cs=.sl rows::cs'∧(aG8 cs 0 (.slice e)).2=.sl rows:=by
 cases cs with
 |nil=>simp[aG8]at h
 |cons c cs =>
  cases c<;>simp[aG8,C.is]at h
  exact⟨_,_,rfl,rfl⟩
theorem bHm {cs:List C} {kd:K} (h:(aG8 cs 0 kd).1=true) (hk:∀ e,kd≠.slice e):∃ c cs',cs=c::cs'∧(∀ rows,c≠.sl rows)∧∀ rows,(aG8 cs 0 kd).2≠.sl rows:=by
 cases cs with
 |nil=>cases kd<;>simp[aG8]at h
 |cons c cs =>
  refine⟨c,cs,rfl,fun rows he=>?_,fun rows he=>?_⟩
  ·subst he
   cases kd<;>simp[aG8,C.is]at h
   exact absurd rfl (hk _)
  ·cases kd<;>simp[aG8]at he
   ·exact absurd rfl (hk _)
   ·split at he<;>cases he
   ·split at he<;>cases he
theorem aQv {bs:List Bool} {x:L} {ws:List W} (h:∀ rows,x≠.sl rows):aMc bs (.l x::ws)=.l x::aMc bs ws:=by
 cases bs<;>cases x<;>first | rfl | exact absurd rfl (h _)
theorem aQw {bs:List Bool} {c:C} {cs:List C} (h:∀ rows,c≠.sl rows):aHx bs (c::cs)=aHx bs cs:=by
 cases bs<;>cases c<;>first | rfl | exact absurd rfl (h _)
theorem bHh {E:Env} {ok:Nat→Prop} {w:World} {h:aCq} {nx:Nat} {β:aCr}:∀ {ps:List PTy} {cs rest:List C} {σ σ':St} {ws:List W} {vals:List Value},(ps.all bF5)=true→aDq E ps cs σ=some (true,ws,rest,σ')→vals.length=ws.length →
  (∀ (i:Nat) (v:Value) (x:W),vals[i]? =some v→ws[i]? =some x→aFs ok w h nx β v x)→rest=[] →
  ∃ bs,aHx bs cs=true∧(aMc bs ws).length=ws.length∧∀ (i:Nat) (v:Value) (x:W),vals[i]? =some v→(aMc bs ws)[i]? =some x→aFs ok w h nx β v x:=by
 intro ps
 induction ps with
 |nil =>
  intro cs rest σ σ' ws vals _ hi hl hr hrest
  simp only[aDq,Option.some.injEq,Prod.mk.injEq,true_and]at hi
  obtain⟨rfl,rfl,rfl⟩:=hi
  subst hrest
  exact⟨[],rfl,rfl,hr⟩
 |cons p ps ih =>
  intro cs rest σ σ' ws vals hp hi hl hr hrest
  simp only[List.all_cons,Bool.and_eq_true]at hp
  obtain⟨hp1,hp2⟩:=hp
  match p,hp1 with
  |.val false [kd],_ =>
   simp only[aDq]at hi
   split at hi
   ·rename_i b ws0 cs' σ0 hrec
    simp only[Option.some.injEq,Prod.mk.injEq,Bool.and_eq_true]at hi
    obtain⟨⟨hla,rfl⟩,rfl,rfl,rfl⟩:=hi
    simp only[aBt,Bool.and_true]at hla
    have ew:wOf false (aBt cs 0 [kd]).2=.l (aG8 cs 0 kd).2:=rfl
    rw[ew]at hl hr ⊢
    cases vals with
    |nil=>simp at hl
    |cons v vals =>
     have h0:=hr 0 v _ rfl rfl
     have hrs:∀ (i:Nat) (v:Value) (x:W),vals[i]? =some v→ws0[i]? =some x→aFs ok w h nx β v x:=fun i v x h1 h2=>hr (i+1) v x (by simpa using h1) (by simpa using h2)
     obtain⟨bs,b1,b2,b3⟩:=ih hp2 hrec (by simpa using hl) hrs hrest
     by_cases hk:∃ e,kd=.slice e
     ·obtain⟨e,rfl⟩:=hk
      obtain⟨rows,cs',rfl,hx⟩:=bHl hla
      rw[hx]at h0 ⊢
      have h0:Rep w ok v (.sl rows):=h0
      have hdrop:aHx bs cs'=true:=b1
      cases h0 with
      |emp a m =>
       refine⟨a.isNone::bs,by simp[aHx,hdrop],by simp[aMc,b2],fun i u x hu hx=>?_⟩
       cases i with
       |zero=>simp[aMc]at hu hx;subst hu;subst hx;exact⟨.emp a m,a,0,m,rfl,rfl⟩
       |succ i=>exact b3 i u x (by simpa using hu) (by simpa[aMc]using hx)
      |sl b o n m sz _ f h1 h2 h3 h4 h5 h6 h7 =>
       refine⟨false::bs,by simp[aHx,hdrop],by simp[aMc,b2],fun i u x hu hx=>?_⟩
       cases i with
       |zero=>simp[aMc]at hu hx;subst hu;subst hx;exact⟨.sl b o n m sz _ f h1 h2 h3 h4 h5 h6 h7,_,n,m,rfl,rfl⟩
       |succ i=>exact b3 i u x (by simpa using hu) (by simpa[aMc]using hx)
     ·obtain⟨d,cs',rfl,hx1,hx2⟩:=bHm hla (fun e he=>hk ⟨e,he⟩)
      refine⟨bs,by rw[aQw hx1];exact b1,by rw[aQv hx2];simp[b2],fun i u x hu hx=>?_⟩
      rw[aQv hx2]at hx
      cases i with
      |zero=>simp at hu hx;subst hu;subst hx;exact h0
      |succ i=>exact b3 i u x (by simpa using hu) (by simpa using hx)
   ·cases hi
theorem aU4:∀ cs:List C,∃ bs,aHx bs cs=true
 |[]=>⟨[],rfl⟩
 |c::cs=>by
  obtain⟨bs,hb⟩:=aU4 cs
  by_cases hc:∃ rows,c=.sl rows
  ·obtain⟨rows,rfl⟩:=hc
   exact⟨false::bs,by simp[aHx,hb]⟩
  ·exact⟨bs,by rw[aQw fun rows e=>hc ⟨rows,e⟩];exact hb⟩
theorem aJf {P : Program} {E : Env} (hE : aA8 P E) {f : FuncId} {fn : Func} {sig : Sig} {spec : Spec} {I : Inl (List C)} (hI : ∀ c : Ctx, c.P = P → aMr c I) (hf : P.funcs[f]? = some fn) (hname : (fn.name == "runtime.NumGoroutine") = false)
  (hp:sig.params.all bF5=true) (hspec:∀ cs outs,aB6 cs (aEp sig.params)=true→spec cs=some (true,outs)→∀ bs,aHx bs cs=true→(aLx E I bs sig fn cs).eval=some outs):aAw P f sig spec:=by
 refine aTf hE hI hf hname fun cs outs hk hs=>?_
 obtain⟨bs0,hb0⟩:=aU4 cs
 have he:=hspec cs outs hk hs bs0 hb0
 unfold aLx at he
 split at he
 ·rename_i b ws σ body hin hbody
  split at he
  ·rename_i hws
   obtain⟨hb,_⟩:=aAl he
   subst hb
   refine⟨ws,σ,body,hin,hbody,fun ok w h nx β vals hl hr=>?_⟩
   obtain⟨bs,b1,b2,b3⟩:=bHh hp hin hl hr rfl
   refine⟨aMc bs ws,b2,b3,by rw[b2];exact hws,?_⟩
   have he2:=hspec cs outs hk hs bs b1
   unfold aLx at he2
   rw[hin,hbody]at he2
   simp only[hws,if_true]at he2
   exact aUn (aAl he2).2
  ·exact (aA0 he).elim
 ·exact (aA0 he).elim
section
variable {α:Type}
end
section
variable {c:Ctx} {α:Type} {w w':World} {β:aCr}
end
structure bVf where
 ins:FuncId
 dele:FuncId
 ks:List K
 bytes:Nat
structure bN5 (P:Program) (N:bVf):Prop where
 pos:0<N.ks.length
 plain:N.ks.all K.plain=true
 ins:∀ (w:World) (ob:Option Nat) (v:Value) (n i vb vc:Nat) (olds news:List Value) (curv:Array Value) (Ev:TypeId) (frv:Nat×Nat),
  bIt w ob N.ks.length v 0 n→olds.length=n*N.ks.length→(∀ u∈olds,u.oneCell'=true)→(∀ (b:Nat) (cur:Array Value) (E:TypeId) (fr:Nat×Nat),ob=some b→w.heap[b]? =some (.cells cur E fr)→∀ (k:Nat) (u:Value),olds[k]? =some u→cur[k]? =some u) →
  news.length=N.ks.length→(∀ u∈news,u.oneCell'=true)→w.heap[vb]? =some (.cells curv Ev frv)→aFd (bd N.ks.length curv.size) frv→vc*N.ks.length≤curv.size→1≤vc→(∀ (k:Nat) (u:Value),news[k]? =some u→curv[k]? =some u)→ob≠some vb→i≤n→aC0 (n+1) N.bytes=true →
  Calls P N.ins #[v,.int .i64 i,.slice (some ⟨vb,0,none⟩) 1 vc] w fun e w' =>
   (∃ (b c:Nat) (cur cur':Array Value) (E:TypeId) (fr:Nat×Nat),ob=some b∧v=.slice (some ⟨b,0,none⟩) n c∧w.heap[b]? =some (.cells cur E fr)∧e=.returned (.slice (some ⟨b,0,none⟩) (n+1) c)∧n+1≤c∧w'.heap[b]? =some (.cells cur' E fr)∧cur'.size=cur.size ∧
    (∀ (d:Nat),d≠b→w'.heap[d]? =w.heap[d]?)∧w'.heap.size=w.heap.size∧w'.os=w.os∧w'.output=w.output∧∀ (k:Nat) (u:Value),(olds.take (i*N.ks.length)++news++olds.drop (i*N.ks.length))[k]? =some u→cur'[k]? =some u) ∨
   (∃ (b c:Nat) (cur':Array Value) (E:TypeId),w.heap.size≤b∧b<w'.heap.size∧e=.returned (.slice (some ⟨b,0,none⟩) (n+1) c)∧n+1≤c∧c*N.ks.length≤cur'.size∧w'.heap[b]? =some (.cells cur' E (0,0))∧w.heap.size≤w'.heap.size ∧
    (∀ (d:Nat),d<w.heap.size→w'.heap[d]? =w.heap[d]?)∧w'.os=w.os∧w'.output=w.output∧∀ (k:Nat) (u:Value),(olds.take (i*N.ks.length)++news++olds.drop (i*N.ks.length))[k]? =some u→cur'[k]? =some u)
 del:∀ (w:World) (b n c i:Nat) (olds:List Value) (cur:Array Value) (E:TypeId) (fr:Nat×Nat),
  w.heap[b]? =some (.cells cur E fr)→aFd (bd N.ks.length cur.size) fr→c*N.ks.length≤cur.size→n≤c→olds.length=n*N.ks.length→(∀ u∈olds,u.oneCell'=true)→(∀ (k:Nat) (u:Value),olds[k]? =some u→cur[k]? =some u)→i<n→aC0 n N.bytes=true →
  Calls P N.dele #[.slice (some ⟨b,0,none⟩) n c,.int .i64 i,.int .i64 ((i:Int)+1)] w fun e w' =>
   e=.returned (.slice (some ⟨b,0,none⟩) (n-1) c)∧∃ cur':Array Value,w'.heap[b]? =some (.cells cur' E fr)∧cur'.size=cur.size∧(∀ (d:Nat),d≠b→w'.heap[d]? =w.heap[d]?)∧w'.heap.size=w.heap.size∧w'.os=w.os∧w'.output=w.output ∧
    ∀ (k:Nat) (u:Value),(olds.take (i*N.ks.length)++olds.drop ((i+1)*N.ks.length)++N.ks.map aIb)[k]? =some u→cur'[k]? =some u
section
variable {α:Type}
def bVt (N:bVf):Inl α:=fun g fn ws σ k =>
 if g=N.ins then match ws with
  |[.l (.ref id 0 n),.l (.i .i64 i),.l (.ref vid 0 1)]=>match σ.heap.lookup id,σ.heap.lookup vid with
   |some (.arr sz rows),some (.arr sz2 [row])=>if sz=N.ks.length∧sz2=N.ks.length∧id≠vid∧aE1 σ.pins [id]=true∧fn.body.isSome=true then
     .must (decide (n=rows.length)&&(decide (0≤i)&&decide (i≤rows.length))&&aC0 (rows.length+1) N.bytes)
      (k (.l (.ref σ.next 0 (rows.length+1))) {σ with heap:=(σ.next,.arr N.ks.length (rows.take i.toNat++[row]++rows.drop i.toNat))::del σ.heap id,next:=σ.next+1} (some [id]))else .bad
   |_,_=>.bad
  |_=>.bad
 else if g=N.dele then match ws with
  |[.l (.ref id 0 n),.l (.i .i64 i),.l (.i .i64 j)]=>match σ.heap.lookup id with
   |some (.arr sz rows)=>if sz=N.ks.length∧aE1 σ.pins [id]=true∧fn.body.isSome=true then
     .must (decide (n=rows.length)&&(decide (0≤i)&&decide (i<rows.length)&&decide (j=i+1))&&aC0 rows.length N.bytes)
      (k (.l (.ref σ.next 0 (rows.length-1))) {σ with heap:=(σ.next,.arr N.ks.length (rows.take i.toNat++rows.drop (i.toNat+1)))::del σ.heap id,next:=σ.next+1} (some [id]))else .bad
   |_=>.bad
  |_=>.bad
 else .bad
def bP9 (J:Inl α) (nat:FuncId→Bool) (E:Env):Nat→Inl α
 |0=>fun g fn ws σ k=>if nat g=true then J g fn ws σ k else .bad
 |n+1=>fun g fn ws σ k=>if nat g=true then J g fn ws σ k else
  let E':={E with nt:=fn.ntmps,ren:=false}
  if ws.length≤fn.ntmps then
   match fn.body with
   |some c=>aEt E' (bP9 J nat E' n) c {σ with slots:=(List.range ws.length).zip ws} fun e σ'=>match e with
    |.normal | .ret=>match (aZ7 E' σ' fn.results).bind bU2 with
     |some x=>k x {σ' with pins:=σ.pins} none
     |none=>.bad
    |_=>.bad
   |none=>.bad
  else .bad
theorem aNs {J:Inl α} {nat:FuncId→Bool} {c:Ctx} (hJ:aMr c J):∀ (n:Nat) {E:Env},aA8 c.P E→aMr c (bP9 (α:=α) J nat E n)
 |0,E,hE=>fun g0 fn ws σ k r hg0 he=>by
  simp only[bP9]at he
  split at he
  ·exact hJ g0 fn ws σ k r hg0 he
  ·exact (aA0 he).elim
 |n+1,E,hE=>fun g0 fn ws σ k r hg0 he=>by
  simp only[bP9]at he
  split at he
  ·exact hJ g0 fn ws σ k r hg0 he
  split at he
  ·rename_i hws
   split at he
   ·rename_i body hb
    have hE':aA8 c.P {E with nt:=fn.ntmps,ren:=false}:=⟨⟨hE.ok.ty,hE.ok.inl,hE.ok.arr,hE.ok.gl,hE.ok.bld⟩,hE.law,hE.name,hE.mixed⟩
    obtain⟨e,σ',h1,h2⟩:=aV1 hE' (aNs hJ n hE') body he
    have fin:∀ {x:W},(e=.normal∨e=.ret)→(aZ7 {E with nt:=fn.ntmps,ren:=false} σ' fn.results).bind bU2=some x →
      ∀ g,c.P.funcs[g]? =some fn→∀ (β:aCr) (w:World) (vals:List Value),aB7 c w σ.heap σ.next β→vals.length=ws.length →
      (∀ (i:Nat) (v:Value) (x:W),vals[i]? =some v→ws[i]? =some x→aFs (okD c σ.heap β) w σ.heap σ.next β v x) →
      (∀ (j:Nat) (id:Nat),σ.pins[j]? =some id→id<σ.next∧(∃ x,σ.heap.lookup id=some x∧x.isFro=false)∧c.pb[j]? =some (β id))→σ.pins.length=c.pb.length →
      Calls c.P g vals.toArray w fun e w'=>∃ v,e=.returned v∧bBm c σ β w {val:=x,st:={σ' with slots:=σ.slots,pins:=σ.pins},eff:=true} v w':=by
     intro x hex hres
     intro g hg β w vals hh hl hv hp hnp
     refine calls_of_wp hg hb ?_
     have hrel:=aQo (nt:=fn.ntmps) hh hl hv hp hnp
     refine h2 β _ w hrel (by simp;omega) _ fun β' a' w' hr' hs' hf'=>?_
     have hfar:=hf' rfl
     cases hws':aZ7 {E with nt:=fn.ntmps,ren:=false} σ' fn.results with
     |none=>rw[hws']at hres;cases hres
     |some ws' =>
      rw[hws']at hres
      obtain⟨vs,q1,q2,q3⟩:=bF1 hE'.ok hr' hws'
      have hval:=bS7 q1 q3 hres
      have hdone:bBm c σ β w {val:=x,st:={σ' with slots:=σ.slots,pins:=σ.pins},eff:=true} (bRx vs) w':=⟨β',hr'.heap,hfar.ext,hval,rfl,rfl,hfar.box,hfar.pin⟩
      rcases hex with rfl | rfl
      ·exact⟨hr'.defers,_,aIi q2,_,rfl,hdone⟩
      ·exact⟨hr'.defers,_,aIi q2,_,rfl,hdone⟩
    have last:(e=.normal∨e=.ret)→(match (aZ7 {E with nt:=fn.ntmps,ren:=false} σ' fn.results).bind bU2 with | some x=>k x {σ' with pins:=σ.pins} none | none=>.bad).eval=some r →
      ∃ x σ' ts,(k x σ' ts).eval=some r∧(∀ l,ts=some l→∀ id,id<σ.next→id∉l→σ'.heap.lookup id=σ.heap.lookup id)∧σ'.pins=σ.pins∧fn.body.isSome=true∧∀ (β:aCr) (w:World) (vals:List Value),aB7 c w σ.heap σ.next β→vals.length=ws.length →
      (∀ (i:Nat) (v:Value) (x:W),vals[i]? =some v→ws[i]? =some x→aFs (okD c σ.heap β) w σ.heap σ.next β v x) →
      (∀ (j:Nat) (id:Nat),σ.pins[j]? =some id→id<σ.next∧(∃ x,σ.heap.lookup id=some x∧x.isFro=false)∧c.pb[j]? =some (β id))→σ.pins.length=c.pb.length →
      Calls c.P g0 vals.toArray w fun e w'=>∃ v,e=.returned v∧bBm c σ β w {val:=x,st:={σ' with slots:=σ.slots},eff:=true} v w':=by
     intro hex h
     split at h
     ·rename_i x hx
      exact⟨x,{σ' with pins:=σ.pins},none,h,(fun l hc=>nomatch hc),rfl,by rw[hb];rfl,fin hex hx g0 hg0⟩
     ·exact (aA0 h).elim
    cases e with
    |normal=>exact last (.inl rfl) h1
    |ret=>exact last (.inr rfl) h1
    |exit j=>exact (aA0 h1).elim
    |goto l=>exact (aA0 h1).elim
    |panic ch=>exact (aA0 h1).elim
    |outgrown=>exact (aA0 h1).elim
   ·exact (aA0 he).elim
  ·exact (aA0 he).elim
end
section
variable {c:Ctx} {w w':World} {β:aCr} {σ:St}
def aTw (ok:Nat→Prop) (w:World) (cur:Array Value) (sz:Nat) (rows:List (List C)):Prop :=
 (∀ r∈rows,r.length=sz)∧∀ (i:Nat) (r:List C) (j:Nat) (y:C),rows[i]? =some r→r[j]? =some y→∃ u,cur[i*sz+j]? =some u∧Rep w ok u y
theorem aRn (hh:aB7 c w σ.heap σ.next β) {id b cap sz:Nat} {rows aM6 rows':List (List C)} {cur cur':Array Value} {E:TypeId} {fr:Nat×Nat} {ts:List Nat}
  (hl:σ.heap.lookup id=some (.arr sz rows)) (hob:β id=some b) (hmine:c.w0.heap.size≤b) (hpinf:id∉σ.pins) (hw:w.heap[b]? =some (.cells cur E fr)) (hth:aFd (bd sz cur.size) fr) (hcap:cap*sz≤cur.size)
  (a1:w'.heap[b]? =some (.cells cur' E fr)) (a2:cur'.size=cur.size) (a4:∀ d,d≠b→w'.heap[d]? =w.heap[d]?) (a5:w'.heap.size=w.heap.size) (a6:w'.os=w.os) (a7:w'.output=w.output)
  (hlen:aM6.length=rows.length) (hle:rows.length≤cap) (hle':rows'.length≤cap) (h1:aTw (okD c σ.heap β) w cur' sz aM6) (h2:aTw (okD c σ.heap β) w cur' sz rows') :
  bBm c σ β w {val:=.l (.ref σ.next 0 rows'.length),st:={σ with heap:=(σ.next,.arr sz rows')::del σ.heap id,next:=σ.next+1},eff:=true,touched:=ts} (.slice (some ⟨b,0,none⟩) rows'.length cap) w':=by
 have hsame:aAf (.arr sz rows) (.arr sz aM6):=⟨rfl,hlen⟩
 have hlk:=aC6 σ.heap id (.arr sz aM6) ⟨_,hl⟩
 have ex1:=aLn hh hl rfl rfl hsame hob hw a1 a2 a4 a5 hlk
 have hsz:∀ (rs:List (List C)),rs.length≤cap→rs.length*sz≤cur'.size:=fun rs h=>by rw[a2];exact Nat.le_trans (Nat.mul_le_mul_right _ h) hcap
 have hh2:=aGo (new:=.arr sz aM6) hh hl rfl rfl hsame hob hw a1 a2 a4 a5 a6 a7 ⟨h1.1,.inr ⟨b,cur',E,fr,rfl,a1,by rw[a2];exact hth,hsz aM6 (by omega),fun i r j y hi hj=>let⟨u,q1,q2⟩:=h1.2 i r j y hi hj;⟨u,q1,ex1.rep q2⟩⟩⟩
 have hl2:(upd σ.heap id (.arr sz aM6)).lookup id=some (.arr sz aM6):=by rw[hlk,if_pos rfl]
 have ex2:=aWx (blk:=.arr sz rows') hh2 hl2 rfl hob
 have hh3:=aRe (blk:=.arr sz rows') hh2 hl2 rfl hmine hob ⟨h2.1,.inr ⟨b,cur',E,fr,rfl,a1,by rw[a2];exact hth,hsz rows' hle',fun i r j y hi hj=>let⟨u,q1,q2⟩:=h2.2 i r j y hi hj;⟨u,q1,ex2.rep (ex1.rep q2)⟩⟩⟩
 rw[bMh]at ex2 hh3
 refine⟨_,hh3,ex1.trans ex2,?_,rfl,rfl,fun i cs hi=>?_,fun i x hp hi hf=>?_⟩
 ·refine⟨by show σ.next<σ.next+1;omega,rfl,fun blk sz0 rows0 hl0 hr0=>?_⟩
  change List.lookup σ.next ((σ.next,_)::del σ.heap id)=some blk at hl0
  rw[aBw]at hl0
  obtain rfl:=Option.some.inj hl0
  simp only[Blk.rows?,Option.some.injEq,Prod.mk.injEq]at hr0
  obtain⟨rfl,rfl⟩:=hr0
  exact⟨by simp,.inr ⟨b,cap,cur',E,fr,by simp[aD8],by rw[Nat.zero_mul],hle',a1,by rw[a2];exact hth,by rw[a2,Nat.zero_add];exact hcap⟩⟩
 ·have hne:i≠id:=fun e=>by subst e;rw[hl]at hi;cases hi
  have hin:=(hh.blk i _ hi).1
  refine⟨cs,?_,rfl,by simp only[aD8];rw[if_neg (by omega)]⟩
  show List.lookup i ((σ.next,_)::del σ.heap id)=_
  rw[aAt (by omega),aCe,if_neg hne]
  exact hi
 ·have hne:i≠id:=fun e=>hpinf (e▸hp)
  have hin:=(hh.blk i _ hi).1
  refine⟨x,?_,hf,by simp only[aD8];rw[if_neg (by omega)]⟩
  show List.lookup i ((σ.next,_)::del σ.heap id)=_
  rw[aAt (by omega),aCe,if_neg hne]
  exact hi
theorem bIj (hh:aB7 c w σ.heap σ.next β) {id b cap sz:Nat} {blk0:Blk} {rows':List (List C)} {cur':Array Value} {E:TypeId} {ts:List Nat}
  (hl:σ.heap.lookup id=some blk0) (hnb:∀ cells,blk0≠.box cells) (hpinf:id∉σ.pins) (hge:w.heap.size≤b) (hlt:b<w'.heap.size) (hcap:cap*sz≤cur'.size)
  (a1:w'.heap[b]? =some (.cells cur' E (0,0))) (a4:∀ d,d<w.heap.size→w'.heap[d]? =w.heap[d]?) (a5:w.heap.size≤w'.heap.size) (a6:w'.os=w.os) (a7:w'.output=w.output)
  (hle':rows'.length≤cap) (h2:aTw (okD c σ.heap β) w cur' sz rows') :
  bBm c σ β w {val:=.l (.ref σ.next 0 rows'.length),st:={σ with heap:=(σ.next,.arr sz rows')::del σ.heap id,next:=σ.next+1},eff:=true,touched:=ts} (.slice (some ⟨b,0,none⟩) rows'.length cap) w':=by
 have hh1:=aUb hh id
 have e1:Ext c w σ.heap σ.next β w (del σ.heap id) σ.next β:=bDt id
 have e2:=bDs (blk:=.arr sz rows') (ob:=some b) hh1 a5 a4 (fun b' hb=>by obtain rfl:=Option.some.inj hb;exact hge)
 have hh2:=aUa (blk:=.arr sz rows') (ob:=some b) hh1 a5 a4 a6 a7 (fun b' hb=>by obtain rfl:=Option.some.inj hb;exact⟨hge,hlt⟩) ⟨h2.1,.inr ⟨b,cur',E,(0,0),rfl,a1,aFu _,Nat.le_trans (Nat.mul_le_mul_right _ hle') hcap,fun i r j y hi hj=>let⟨u,q1,q2⟩:=h2.2 i r j y hi hj;⟨u,q1,e2.rep (e1.rep q2)⟩⟩⟩
 refine⟨_,hh2,e1.trans e2,?_,rfl,rfl,fun i cs hi=>?_,fun i x hp hi hf=>?_⟩
 ·refine⟨by show σ.next<σ.next+1;omega,rfl,fun blk sz0 rows0 hl0 hr0=>?_⟩
  change List.lookup σ.next ((σ.next,_)::del σ.heap id)=some blk at hl0
  rw[aBw]at hl0
  obtain rfl:=Option.some.inj hl0
  simp only[Blk.rows?,Option.some.injEq,Prod.mk.injEq]at hr0
  obtain⟨rfl,rfl⟩:=hr0
  exact⟨by simp,.inr ⟨b,cap,cur',E,(0,0),by simp[aD8],by rw[Nat.zero_mul],hle',a1,aFu _,by rw[Nat.zero_add];exact hcap⟩⟩
 ·have hne:i≠id:=fun e=>by subst e;rw[hl]at hi;exact hnb _ (Option.some.inj hi)
  have hin:=(hh.blk i _ hi).1
  refine⟨cs,?_,rfl,by simp only[aD8];rw[if_neg (by omega)]⟩
  show List.lookup i ((σ.next,_)::del σ.heap id)=_
  rw[aAt (by omega),aCe,if_neg hne]
  exact hi
 ·have hne:i≠id:=fun e=>hpinf (e▸hp)
  have hin:=(hh.blk i _ hi).1
  refine⟨x,?_,hf,by simp only[aD8];rw[if_neg (by omega)]⟩
  show List.lookup i ((σ.next,_)::del σ.heap id)=_
  rw[aAt (by omega),aCe,if_neg hne]
  exact hi
def aGf (ok:Nat→Prop) (w:World) (sz:Nat) (vs:List Value) (rows:List (List C)):Prop :=
 vs.length=rows.length*sz∧(∀ r∈rows,r.length=sz)∧∀ (i:Nat) (r:List C) (j:Nat) (y:C),rows[i]? =some r→r[j]? =some y→∃ u,vs[i*sz+j]? =some u∧Rep w ok u y
theorem aGf.append {ok:Nat→Prop} {sz:Nat} {v1 v2:List Value} {r1 r2:List (List C)} (h1:aGf ok w sz v1 r1) (h2:aGf ok w sz v2 r2):aGf ok w sz (v1++v2) (r1++r2):=by
 refine⟨by rw[List.length_append,List.length_append,Nat.add_mul,h1.1,h2.1],fun r hr=>?_,fun i r j y hi hj=>?_⟩
 ·rcases List.mem_append.1 hr with h | h
  ·exact h1.2.1 r h
  ·exact h2.2.1 r h
 ·by_cases hlt:i<r1.length
  ·rw[List.getElem?_append_left hlt]at hi
   obtain⟨u,q1,q2⟩:=h1.2.2 i r j y hi hj
   refine⟨u,?_,q2⟩
   rw[List.getElem?_append_left (List.getElem?_eq_some_iff.1 q1).1]
   exact q1
  ·rw[List.getElem?_append_right (by omega)]at hi
   obtain⟨u,q1,q2⟩:=h2.2.2 _ r j y hi hj
   refine⟨u,?_,q2⟩
   have hm:r1.length*sz≤i*sz:=Nat.mul_le_mul_right _ (by omega)
   rw[List.getElem?_append_right (by rw[h1.1];omega),h1.1,show i*sz+j-r1.length*sz=(i-r1.length)*sz+j by rw[Nat.sub_mul];omega]
   exact q1
theorem aGf.take {ok:Nat→Prop} {sz:Nat} {vs:List Value} {rows:List (List C)} (h:aGf ok w sz vs rows) (n:Nat):aGf ok w sz (vs.take (n*sz)) (rows.take n):=by
 refine⟨?_,fun r hr=>h.2.1 r (List.mem_of_mem_take hr),fun i r j y hi hj=>?_⟩
 ·rw[List.length_take,List.length_take,h.1]
  rcases Nat.le_total n rows.length with hn | hn
  ·rw[Nat.min_eq_left hn,Nat.min_eq_left (Nat.mul_le_mul_right _ hn)]
  ·rw[Nat.min_eq_right hn,Nat.min_eq_right (Nat.mul_le_mul_right _ hn)]
 ·have hlt:i<n:=by
   have:=(List.getElem?_eq_some_iff.1 hi).1
   rw[List.length_take]at this
   omega
  rw[List.getElem?_take,if_pos hlt]at hi
  obtain⟨u,q1,q2⟩:=h.2.2 i r j y hi hj
  refine⟨u,?_,q2⟩
  have hr:=h.2.1 r (List.mem_of_getElem? hi)
  have hj':j<sz:=by rw[←hr];exact (List.getElem?_eq_some_iff.1 hj).1
  have hm:(i+1)*sz≤n*sz:=Nat.mul_le_mul_right _ (by omega)
  rw[Nat.add_mul,Nat.one_mul]at hm
  rw[List.getElem?_take,if_pos (by omega)]
  exact q1
theorem aGf.drop {ok:Nat→Prop} {sz:Nat} {vs:List Value} {rows:List (List C)} (h:aGf ok w sz vs rows) (n:Nat):aGf ok w sz (vs.drop (n*sz)) (rows.drop n):=by
 refine⟨by rw[List.length_drop,List.length_drop,h.1,Nat.sub_mul],fun r hr=>h.2.1 r (List.mem_of_mem_drop hr),fun i r j y hi hj=>?_⟩
 rw[List.getElem?_drop]at hi
 obtain⟨u,q1,q2⟩:=h.2.2 _ r j y hi hj
 refine⟨u,?_,q2⟩
 rw[List.getElem?_drop,show n*sz+(i*sz+j)=(n+i)*sz+j by rw[Nat.add_mul];omega]
 exact q1
theorem aGf.rows {ok:Nat→Prop} {sz:Nat} {vs:List Value} {rows:List (List C)} (h:aGf ok w sz vs rows) {cur:Array Value} (hc:∀ (k:Nat) (u:Value),vs[k]? =some u→cur[k]? =some u):aTw ok w cur sz rows :=
 ⟨h.2.1,fun i r j y hi hj=>let⟨u,q1,q2⟩:=h.2.2 i r j y hi hj;⟨u,hc _ _ q1,q2⟩⟩
theorem aGf.one {ok:Nat→Prop} {sz:Nat} {vs:List Value} {rows:List (List C)} (h:aGf ok w sz vs rows):∀ u∈vs,u.oneCell'=true:=by
 intro u hu
 obtain⟨k,hk⟩:=List.getElem?_of_mem hu
 have hlt:=(List.getElem?_eq_some_iff.1 hk).1
 rw[h.1]at hlt
 have hs:0<sz:=by
  rcases Nat.eq_zero_or_pos sz with h | h
  ·subst h;omega
  ·exact h
 have hi:k / sz<rows.length:=(Nat.div_lt_iff_lt_mul hs).2 hlt
 have hj:k % sz<(rows[k / sz]).length:=by rw[h.2.1 _ (List.getElem_mem hi)];exact Nat.mod_lt _ hs
 obtain⟨u',q1,q2⟩:=h.2.2 _ _ _ _ (List.getElem?_eq_getElem hi) (List.getElem?_eq_getElem hj)
 rw[show k / sz*sz+k % sz=k by rw[Nat.mul_comm];exact Nat.div_add_mod k sz,hk]at q1
 obtain rfl:=Option.some.inj q1
 exact q2.one
theorem aQl {ok:Nat→Prop} {ob:Option Nat} {sz:Nat} {rows:List (List C)} (h:aGg ok w ob sz rows):∃ vs,aGf ok w sz vs rows∧∀ (b:Nat) (cur:Array Value) (E:TypeId) (fr:Nat×Nat),ob=some b→w.heap[b]? =some (.cells cur E fr)→∀ (k:Nat) (u:Value),vs[k]? =some u→cur[k]? =some u:=by
 rcases h.2 with h0 | ⟨b,cur,E,fr,hob,hw,_,hsz,hr⟩
 ·subst h0
  exact⟨[],⟨by simp,fun r hr=>by simp at hr,fun i r j y hi=>by simp at hi⟩,fun _ _ _ _ _ _ k u hk=>by simp at hk⟩
 ·refine⟨cur.toList.take (rows.length*sz),⟨by rw[List.length_take,Array.length_toList (xs:=cur)];omega,h.1,fun i r j y hi hj=>?_⟩,fun b2 cur2 E2 fr2 hb2 hw2 k u hk=>?_⟩
  ·obtain⟨u,q1,q2⟩:=hr i r j y hi hj
   refine⟨u,?_,q2⟩
   have hj':j<sz:=by rw[←h.1 r (List.mem_of_getElem? hi)];exact (List.getElem?_eq_some_iff.1 hj).1
   have hm:(i+1)*sz≤rows.length*sz:=Nat.mul_le_mul_right _ (List.getElem?_eq_some_iff.1 hi).1
   rw[Nat.add_mul,Nat.one_mul]at hm
   rw[List.getElem?_take,if_pos (by omega),Array.getElem?_toList]
   exact q1
  ·rw[hob]at hb2
   obtain rfl:=Option.some.inj hb2
   rw[hw]at hw2
   simp only[Option.some.injEq,Obj.cells.injEq]at hw2
   obtain⟨rfl,rfl,rfl⟩:=hw2
   rw[List.getElem?_take]at hk
   split at hk
   ·rwa [Array.getElem?_toList]at hk
   ·cases hk
theorem aWk (hh:aB7 c w σ.heap σ.next β) (hpin:∀ (j:Nat) (id:Nat),σ.pins[j]? =some id→id<σ.next∧(∃ x,σ.heap.lookup id=some x∧x.isFro=false)∧c.pb[j]? =some (β id)) (hnp:σ.pins.length=c.pb.length)
  {id b:Nat} {x:Blk} (hl:σ.heap.lookup id=some x) (hob:β id=some b) (hf:id∉σ.pins):c.w0.heap.size≤b:=by
 rcases (hh.place id x b hl hob).1 with h | h
 ·exact h
 ·obtain⟨j,hj⟩:=List.getElem?_of_mem h.1
  have hjl:j<σ.pins.length:=by rw[hnp];exact (List.getElem?_eq_some_iff.1 hj).1
  obtain⟨_,⟨x2,hx2,_⟩,h3⟩:=hpin j _ (List.getElem?_eq_getElem hjl)
  rw[hj]at h3
  have h3:=(Option.some.inj h3).symm
  have he:=hh.inj _ id x2 x b hx2 hl h3 hob
  exact absurd (he▸List.getElem_mem hjl) hf
theorem bFg {y:Blk} {id nx:Nat} {h:aCq}:∀ l,some [id]=some l→∀ j,j<nx→j∉l→List.lookup j ((nx,y)::del h id)=h.lookup j:=by
 intro l he j hj hn
 obtain rfl:=Option.some.inj he
 rw[aAt (by omega),aCe,if_neg (by simpa using hn)]
end
theorem bSm {α:Type} {P:Program} {N:bVf} (hL:bN5 P N):∀ c:Ctx,c.P=P→aMr c (bVt (α:=α) N):=by
 intro c hc g fn ws σ k r hg he
 subst hc
 unfold bVt at he
 split at he
 ·rename_i hgi
  split at he
  ·rename_i id n i vid
   split at he
   ·rename_i sz rows sz2 row hl hlv
    split at he
    ·rename_i hcond
     obtain⟨rfl,rfl,hne,hfr,hbody⟩:=hcond
     have hf:id∉σ.pins:=fun hp=>by simp[aE1,hp]at hfr
     obtain⟨hm,he2⟩:=aAl he;clear he
     simp only[Bool.and_eq_true,decide_eq_true_eq]at hm
     obtain⟨⟨rfl,hi0,hin⟩,hro⟩:=hm
     obtain⟨i,rfl⟩:=Int.eq_ofNat_of_zero_le hi0
     have hin:i≤rows.length:=by omega
     rw[Int.toNat_natCast]at he2
     refine⟨_,_,_,he2,bFg,rfl,hbody,fun β w vals hh hvl hv hpin hnp=>?_⟩
     match vals,hvl with
     |[v,v1,v3],_ =>
      obtain⟨_,_,h0⟩:=hv 0 v _ rfl rfl
      have hhd:=(h0 _ _ _ hl rfl).2
      have h1:v1=.int .i64 (i:Int):=hv 1 v1 _ rfl rfl
      subst h1
      obtain⟨_,_,h3⟩:=hv 2 v3 _ rfl rfl
      obtain⟨vs,hvs,hvc⟩:=aQl (hh.blk id _ hl).2
      obtain⟨ns,hns,hnc⟩:=aQl (hh.blk vid _ hlv).2
      rcases (h3 _ _ _ hlv rfl).2 with⟨_,_,h⟩ | ⟨vb,vc,curv,Ev,frv,hvb,rfl,hvc1,hwv,hthv,hszv⟩
      ·omega
      rw[Nat.zero_add]at hszv
      rw[Nat.zero_mul]
      rw[hgi]
      have hnl:ns.length=N.ks.length:=by rw[hns.1];simp
      have hob:β id≠some vb:=fun h=>hne (hh.inj id vid _ _ vb hl hlv h hvb)
      have new:=((hvs.take i).append hns).append (hvs.drop i)
      have nlen:(rows.take i++[row]++rows.drop i).length=rows.length+1:=by simp;omega
      refine (hL.ins w (β id) v rows.length i vb vc vs ns curv Ev frv hhd hvs.1 hvs.one hvc hnl hns.one hwv hthv hszv hvc1 (hnc vb curv Ev frv hvb hwv) hob hin hro).mono ?_
      rintro e w' (⟨b,cc,cur,cur',E,fr,hb,rfl,hw,rfl,hnc',a1,a2,a4,a5,a6,a7,a8⟩ | ⟨b,cc,cur',E,hge,hlt,rfl,hnc',hcap,a1,a5,a4,a6,a7,a8⟩)
      ·refine⟨_,rfl,?_⟩
       rcases hhd with⟨a,h,_⟩ | ⟨b2,c2,cur2,E2,fr2,hb2,h,hc2,hw2,hth2,hsz2⟩
       ·injection h with q1 q2 q3;omega
       injection h with q1 q2 q3
       subst q3
       rw[hb]at hb2
       obtain rfl:=Option.some.inj hb2
       rw[hw]at hw2
       simp only[Option.some.injEq,Obj.cells.injEq]at hw2
       obtain⟨rfl,rfl,rfl⟩:=hw2
       rw[Nat.zero_add]at hsz2
       have r2:=new.rows a8
       have r1:aTw (okD c σ.heap β) w cur' N.ks.length ((rows.take i++[row]++rows.drop i).take rows.length):=(new.take rows.length).rows fun q u hq=>by
        rw[List.getElem?_take]at hq
        split at hq
        ·exact a8 q u hq
        ·cases hq
       have hd:=aRn (ts:=[]) hh hl hb (aWk hh hpin hnp hl hb hf) hf hw hth2 hsz2 a1 a2 a4 a5 a6 a7 (by rw[List.length_take,nlen];omega) (by omega) (by rw[nlen];omega) r1 r2
       rw[nlen]at hd
       exact hd
      ·refine⟨_,rfl,?_⟩
       have hd:=bIj (ts:=[]) hh hl (fun _ h=>by cases h) hf hge hlt hcap a1 a4 a5 a6 a7 (by rw[nlen];exact hnc') (new.rows a8)
       rw[nlen]at hd
       exact hd
    ·exact (aA0 he).elim
   ·exact (aA0 he).elim
  ·exact (aA0 he).elim
 ·split at he
  ·rename_i hgd
   split at he
   ·rename_i id n i j
    split at he
    ·rename_i sz rows hl
     split at he
     ·rename_i hcond
      obtain⟨rfl,hfr,hbody⟩:=hcond
      have hf:id∉σ.pins:=fun hp=>by simp[aE1,hp]at hfr
      obtain⟨hm,he2⟩:=aAl he;clear he
      simp only[Bool.and_eq_true,decide_eq_true_eq]at hm
      obtain⟨⟨rfl,⟨hi0,hin⟩,rfl⟩,hro⟩:=hm
      obtain⟨i,rfl⟩:=Int.eq_ofNat_of_zero_le hi0
      have hin:i<rows.length:=by omega
      rw[Int.toNat_natCast]at he2
      refine⟨_,_,_,he2,bFg,rfl,hbody,fun β w vals hh hvl hv hpin hnp=>?_⟩
      match vals,hvl with
      |[v,v1,v3],_ =>
       obtain⟨_,_,h0⟩:=hv 0 v _ rfl rfl
       have h1:v1=.int .i64 (i:Int):=hv 1 v1 _ rfl rfl
       subst h1
       have h3:v3=.int .i64 ((i:Int)+1):=hv 2 v3 _ rfl rfl
       subst h3
       obtain⟨vs,hvs,hvc⟩:=aQl (hh.blk id _ hl).2
       rcases (h0 _ _ _ hl rfl).2 with⟨_,_,h⟩ | ⟨b,cc,cur,E,fr,hb,rfl,hc1,hw,hth,hsz⟩
       ·omega
       rw[Nat.zero_add]at hsz
       rw[Nat.zero_mul,hgd]
       have zs:aGf (okD c σ.heap β) w N.ks.length (N.ks.map aIb) [N.ks.map aOk]:=by
        refine⟨by simp,fun r hr=>by simp at hr;subst hr;simp,fun q r t y hq ht=>?_⟩
        match q with
        |0 =>
         obtain rfl:=Option.some.inj hq
         rw[List.getElem?_map]at ht
         cases hk:N.ks[t]? with
         |none=>rw[hk]at ht;cases ht
         |some kk =>
          rw[hk]at ht
          obtain rfl:=Option.some.inj ht
          exact⟨aIb kk,by rw[Nat.zero_mul,Nat.zero_add,List.getElem?_map,hk];rfl,aXy (List.all_eq_true.1 hL.plain kk (List.mem_of_getElem? hk))⟩
        |q+1=>simp at hq
       have kept:=(hvs.take i).append (hvs.drop (i+1))
       have new:=kept.append zs
       have nlen:(rows.take i++rows.drop (i+1)).length=rows.length-1:=by simp;omega
       refine (hL.del w b rows.length cc i vs cur E fr hw hth hsz hc1 hvs.1 hvs.one (hvc b cur E fr hb hw) hin hro).mono ?_
       rintro e w' ⟨rfl,cur',a1,a2,a4,a5,a6,a7,a8⟩
       refine⟨_,rfl,?_⟩
       have r1:=new.rows a8
       have r2:aTw (okD c σ.heap β) w cur' N.ks.length (rows.take i++rows.drop (i+1)):=kept.rows fun q u hq=>a8 q u (by rw[List.getElem?_append_left (List.getElem?_eq_some_iff.1 hq).1];exact hq)
       have hd:=aRn (ts:=[]) hh hl hb (aWk hh hpin hnp hl hb hf) hf hw hth hsz a1 a2 a4 a5 a6 a7 (by rw[List.length_append,nlen];simp;omega) hc1 (by rw[nlen];omega) r1 r2
       rw[nlen]at hd
       exact hd
     ·exact (aA0 he).elim
    ·exact (aA0 he).elim
   ·exact (aA0 he).elim
  ·exact (aA0 he).elim
abbrev aXx:=List (K×Bool)
def aJe (E:Env) (I:Inl (List C)) (fn:Func) (kf:Exit→St→T (List C)) (p:List Pt) (n:Nat) (τ:St):T (List C) :=
 match fn.body with
 |some c=>aEr {E with nt:=fn.ntmps} I c kf p n τ
 |none=>.bad
def aL9 (E:Env) (I:Inl (List C)) (fn:Func) (kf:Exit→St→T (List C)) (H:List Pt→Nat→St→T (List C)) (p:List Pt) (n:Nat) (τ:St):T (List C) :=
 match fn.body with
 |some c=>match aFo c p with
  |.loop b=>aEs {E with nt:=fn.ntmps} I H b (p++[.lp n]) τ (aHn {E with nt:=fn.ntmps} I H c (p++[.lp n]) [] kf)
  |_=>.bad
 |none=>.bad
theorem aH9 (E:Env) (I:Inl (List C)) (fn:Func) (kf:Exit→St→T (List C)) (p:List Pt) (n:Nat) (τ:St) (h:(match fn.body with | some c=>aOm c p | none=>false)=true) :
  aJe E I fn kf p (n+1) τ=aL9 E I fn kf (aJe E I fn kf) p n τ:=by
 cases hc:fn.body with
 |none=>rw[hc]at h;cases h
 |some c =>
  rw[hc]at h
  have hg:=aTh c p h
  have e0:aJe E I fn kf=aEr {E with nt:=fn.ntmps} I c kf:=by
   funext p m τ;simp only[aJe,hc]
  have hv:aL9 E I fn kf (aJe E I fn kf) p n τ=match aFo c p with
   |.loop b=>aEs {E with nt:=fn.ntmps} I (aJe E I fn kf) b (p++[.lp n]) τ (aHn {E with nt:=fn.ntmps} I (aJe E I fn kf) c (p++[.lp n]) [] kf)
   |_=>.bad:=by
   simp only[aL9,hc]
  rw[hv,e0]
  cases hb:aFo c p with
  |loop b =>
   rw[hb]at hg
   have hg2:aFp c (p++[.lp n]) b:=hg.app (.lp (.nil b))
   have e1:=bF0 (E:={E with nt:=fn.ntmps}) (I:=I) (kf:=kf) (p++[.lp n]) [] ⟨b,hg2⟩ (.nil c)
   rw[aC5]at e1
   have e2:=aJd (E:={E with nt:=fn.ntmps}) (I:=I) (kf:=kf) b (p++[.lp n]) τ hg2
   have e4:aHn {E with nt:=fn.ntmps} I (aEr {E with nt:=fn.ntmps} I c kf) c (p++[.lp n]) [] kf=aBo {E with nt:=fn.ntmps} I c (p++[.lp n]) kf:=e1
   have e5:aEr {E with nt:=fn.ntmps} I c kf p (n+1) τ=aN7 (aEt {E with nt:=fn.ntmps} I b) (St.norm {E with nt:=fn.ntmps} (aF8 b)) (n+1) τ (aBo {E with nt:=fn.ntmps} I c p kf):=by simp only[aEr,hb]
   rw[e5]
   show _=aEs _ _ (aEr {E with nt:=fn.ntmps} I c kf) b _ τ (aHn _ _ (aEr {E with nt:=fn.ntmps} I c kf) c _ [] _)
   rw[e4,e2,hg.rest]
   simp only[aN7,aBo,aC5]
  |_=>simp only[aEr,hb]
def bR6 (E:Env) (S:aXx) (cs:List C):Option (Bool×St) :=
 match aB9 E [] [] S cs 1 with
 |some (b,ls,[],bs)=>some (b,{slots:=(List.range [W.l (.ptr 0 0)].length).zip [W.l (.ptr 0 0)],heap:=aBj 1 bs++[(0,.box ls)],next:=1+bs.length,pins:=0::List.range' 1 bs.length})
 |_=>none
def aCv (E:Env) (h:List (Nat×Blk)):aXx→List L→List Nat→Option (Bool×List C)
 |[],[],[]=>some (true,[])
 |(kd,false)::r,x::xs,ns=>match x.data h,aCv E h r xs ns with
  |some c,some (b,cs)=>if x.ids.isEmpty=true then some (c.is kd&&b,c::cs)else none
  |_,_=>none
 |(.slice e,true)::r,.ref id 0 n::xs,p::ns=>match E.Ty e,h.lookup id,aCv E h r xs ns with
  |some te,some (.arr sz rows),some (b,cs)=>if id=p∧sz=te.leaves.length then some (decide (n≤rows.length)&&b,.sl (rows.take n)::cs)else none
  |_,_,_=>none
 |_,_,_=>none
def bLz (E:Env) (S:aXx) (fn:Func):Exit→St→T (List C):=fun e σ'=>match e with
 |.normal | .ret=>match aZ7 E σ' fn.results,σ'.pins with
  |some [],a::ns=>(match σ'.heap.lookup a with
   |some (.box cells)=>(match aCv E σ'.heap S cells ns with
    |some (b,cs)=>.must b (.ret cs)
    |none=>.bad)
   |_=>.bad)
  |_,_=>.bad
 |_=>.bad
def bEk (E:Env) (I:Inl (List C)) (S:aXx) (fn:Func) (cs:List C):T (List C) :=
 match bR6 E S cs,fn.body with
 |some (b,σ),some c=>if 1≤fn.ntmps then .must b (aEt {E with nt:=fn.ntmps} I c σ (bLz E S fn))else .bad
 |_,_=>.bad
def bBp (E:Env) (I:Inl (List C)) (S:aXx) (fn:Func) (H:List Pt→Nat→St→T (List C)) (cs:List C):T (List C) :=
 match bR6 E S cs,fn.body with
 |some (b,σ),some c=>if 1≤fn.ntmps then .must b (aEs {E with nt:=fn.ntmps} I H c [] σ (bLz E S fn))else .bad
 |_,_=>.bad
theorem bNu (E:Env) (I:Inl (List C)) (S:aXx) (fn:Func) (cs:List C):bEk E I S fn cs=bBp E I S fn (aJe E I fn (bLz E S fn)) cs:=by
 unfold bEk bBp
 split
 ·rename_i b σ c h1 h2
  split
  ·congr 1
   have e0:aJe E I fn (bLz E S fn)=aEr {E with nt:=fn.ntmps} I c (bLz E S fn):=by
    funext p m τ;simp only[aJe,h2]
   rw[e0]
   have:=aJd (E:={E with nt:=fn.ntmps}) (I:=I) (kf:=bLz E S fn) c [] σ (.nil c)
   rw[aC5]at this
   exact this.symm
  ·rfl
 ·rfl
inductive aOv (P:Program) (w:World) (ok:Nat→Prop):aXx→List Value→List C→List (Option Nat)→Prop
 |nil:aOv P w ok [] [] [] []
 |data {kd:K} {ks:aXx} {v:Value} {vs:List Value} {c:C} {cs:List C} {bs:List (Option Nat)}:Rep w ok v c→aOv P w ok ks vs cs bs→aOv P w ok ((kd,false)::ks) (v::vs) (c::cs) bs
 |site {e:TypeId} {ks:aXx} {v:Value} {vs:List Value} {rows:List (List C)} {cs:List C} {ob:Option Nat} {bs:List (Option Nat)} {i:TypeInfo}:P.info? e=some i→v.oneCell'=true→bIt w ob i.size v 0 rows.length→aGg ok w ob i.size rows →
   aOv P w ok ks vs cs bs→aOv P w ok ((.slice e,true)::ks) (v::vs) (.sl rows::cs) (ob::bs)
def bN2 (P:Program) (f:FuncId) (S:aXx) (spec:Spec):Prop :=
 ∀ (w:World) (okR:Nat→Prop) (b0:Nat) (cur:Array Value) (E0:TypeId) (fr:Nat×Nat) (cs outs:List C) (pb:List (Option Nat)),
  (∀ b,okR b→b<w.heap.size∧b≠b0∧some b∉pb)→aMy P w okR→some b0∉pb→(∀ (i j b:Nat),pb[i]? =some (some b)→pb[j]? =some (some b)→i=j) →
  w.heap[b0]? =some (.cells cur E0 fr)→aFd cur.size fr→aC1 P w okR [] S cur.toList cs pb→aB6 cs (S.map (·.1))=true→spec cs=some (true,outs) →
  Calls P f #[.pointer (some ⟨b0,0,none⟩)] w fun e w'=>e=.returned (.tuple #[])∧∃ okN:Nat→Prop,(∀ b,okN b→okR b∨w.heap.size≤b)∧w.heap.size≤w'.heap.size ∧
   (∀ b,b<w.heap.size→b≠b0→some b∉pb→w'.heap[b]? =w.heap[b]?)∧w'.os=w.os∧w'.output=w.output ∧
   ∃ cur',w'.heap[b0]? =some (.cells cur' E0 fr)∧cur'.size=cur.size∧aOv P w' okN S cur'.toList outs pb
theorem aOv.len {P:Program} {w:World} {ok:Nat→Prop} {ks:aXx} {vs:List Value} {cs:List C} {bs:List (Option Nat)} (h:aOv P w ok ks vs cs bs):vs.length=ks.length∧cs.length=ks.length:=by
 induction h with
 |nil=>exact⟨rfl,rfl⟩
 |data _ _ ih=>exact⟨by simp[ih.1],by simp[ih.2]⟩
 |site _ _ _ _ _ ih=>exact⟨by simp[ih.1],by simp[ih.2]⟩
theorem aJx {c:Ctx} {E:Env} (hE:aDx c.P E) {w':World} {h:aCq} {nx:Nat} {β:aCr} (hh:aB7 c w' h nx β) {okN:Nat→Prop} (h1:∀ b,okD c h β b→okN b) :
  ∀ {ks:aXx} {ls:List L} {us:List Value} {ns:List Nat} {cs:List C} {pb:List (Option Nat)},aCv E h ks ls ns=some (true,cs)→us.length=ls.length→pb.length=ns.length→(∀ (j n:Nat),ns[j]? =some n→pb[j]? =some (β n)) →
   (∀ (j:Nat) (x:L),ls[j]? =some x→∃ u,us[j]? =some u∧aI5 (okD c h β) w' h nx β u x)→aOv c.P w' okN ks us cs pb
 |[],[],us,[],cs,pb,hf,hl,hpl,_,_=>by
  simp only[aCv,Option.some.injEq,Prod.mk.injEq,true_and]at hf
  subst hf
  obtain rfl:=List.length_eq_zero_iff.1 hl
  obtain rfl:=List.length_eq_zero_iff.1 hpl
  exact .nil
 |[],[],_,_::_,_,_,hf,_,_,_,_=>by simp[aCv]at hf
 |[],_::_,_,_,_,_,hf,_,_,_,_=>by simp[aCv]at hf
 |(kd,own)::ks,[],_,ns,_,_,hf,_,_,_,_=>by cases own<;>cases kd<;>cases ns<;>simp[aCv]at hf
 |(kd,false)::ks,x::ls,us,ns,cs,pb,hf,hl,hpl,hp,hr=>by
  cases us with
  |nil=>simp at hl
  |cons u us =>
   simp only[aCv]at hf
   split at hf
   ·rename_i d b cs0 hd hrec
    split at hf
    ·rename_i hids
     simp only[Option.some.injEq,Prod.mk.injEq,Bool.and_eq_true]at hf
     obtain⟨⟨_,rfl⟩,rfl⟩:=hf
     have hr0:aI5 (okD c h β) w' h nx β u x:=by obtain⟨u',hu,h⟩:=hr 0 x rfl;simp at hu;subst hu;exact h
     refine .data (aIq hh h1 (fun id b blk p hi=>?_) hr0 hd) (aJx hE hh h1 hrec (by simpa using hl) hpl hp fun j y hj=>by simpa using hr (j+1) y (by simpa using hj))
     have:x.ids=[]:=by simpa using hids
     rw[this]at hi
     cases hi
    ·cases hf
   ·cases hf
 |(kd,true)::ks,x::ls,us,ns,cs,pb,hf,hl,hpl,hp,hr=>by
  cases us with
  |nil=>simp at hl
  |cons u us =>
   cases kd with
   |slice e =>
    cases x with
    |ref id off n =>
     cases off with
     |succ m=>cases ns<;>simp[aCv]at hf
     |zero =>
      cases ns with
      |nil=>simp[aCv]at hf
      |cons p ns =>
       cases pb with
       |nil=>simp at hpl
       |cons ob pb =>
        simp only[aCv]at hf
        split at hf
        ·rename_i te sz rows b cs0 hte hlk hrec
         split at hf
         ·rename_i hc
          obtain⟨rfl,rfl⟩:=hc
          simp only[Option.some.injEq,Prod.mk.injEq,Bool.and_eq_true,decide_eq_true_eq]at hf
          obtain⟨⟨hn,rfl⟩,rfl⟩:=hf
          have hr0:aI5 (okD c h β) w' h nx β u (.ref id 0 n):=by obtain⟨u',hu,h⟩:=hr 0 _ rfl;simp at hu;subst hu;exact h
          have hob:ob=β id:=by have:=hp 0 id rfl;simpa using this
          subst hob
          obtain⟨i,_,hi,his,_⟩:=(hE.ty e te hte).info
          obtain⟨_,hhdr⟩:=hr0.2.2 _ _ _ hlk rfl
          obtain⟨r1,r2⟩:=(hh.blk id _ hlk).2
          have hlen:(rows.take n).length=n:=by rw[List.length_take];omega
          refine .site hi hr0.2.1 (by rw[his,hlen];exact hhdr) (by
           rw[his]
           refine⟨fun r hr=>r1 r (List.mem_of_mem_take hr),?_⟩
           rcases r2 with r2 | ⟨b,cur,E1,f1,g1,g2,g3,g4,g5⟩
           ·exact .inl (by rw[r2];simp)
           ·refine .inr ⟨b,cur,E1,f1,g1,g2,g3,Nat.le_trans (Nat.mul_le_mul_right _ (by omega)) g4,fun i r j x hi hj=>?_⟩
            rw[List.getElem?_take]at hi
            split at hi
            ·obtain⟨v,k1,k2⟩:=g5 i r j x hi hj
             exact⟨v,k1,k2.mono (fun b hb _=>⟨h1 b hb,rfl⟩) (Nat.le_refl _)⟩
            ·cases hi) (aJx hE hh h1 hrec (by simpa using hl) (by simpa using hpl) (fun j n hj=>by simpa using hp (j+1) n (by simpa using hj)) fun j y hj=>by simpa using hr (j+1) y (by simpa using hj))
         ·cases hf
        ·cases hf
    |_=>cases ns<;>simp[aCv]at hf
   |_=>cases x<;>cases ns<;>simp[aCv]at hf
theorem aY0 {P:Program} {E:Env} (hE:aA8 P E) {f:FuncId} {fn:Func} {S:aXx} {spec:Spec} {I:Inl (List C)} (hI:∀ c:Ctx,c.P=P→aMr c I) (hf:P.funcs[f]? =some fn)
  (hspec:∀ cs outs,aB6 cs (S.map (·.1))=true→spec cs=some (true,outs)→(bEk E I S fn cs).eval=some outs):bN2 P f S spec:=by
 intro w okR b0 cur E0 fr cs outs pb hokR hglob hne hpbn hw hth hlo hk hs
 have he:=hspec cs outs hk hs
 unfold bEk at he
 split at he
 ·rename_i bb σ body hin hbody
  split at he
  ·rename_i hnt
   obtain⟨hb,he⟩:=aAl he
   subst hb
   unfold bR6 at hin
   split at hin
   ·rename_i b1 ls bs htl
    simp only[Option.some.injEq,Prod.mk.injEq]at hin
    obtain⟨rfl,rfl⟩:=hin
    have hbox:=aOf hlo
    have mem2:∀ {b:Nat},some b∈(some b0::pb)→b=b0∨some b∈pb:=fun {b} h=>by
     rcases List.mem_cons.1 h with h | h
     ·exact .inl (Option.some.inj h)
     ·exact .inr h
    let c:Ctx:=⟨P,w,okR,some b0::pb,fun b hb=>⟨(hokR b hb).1,fun hm=>(mem2 hm).elim (hokR b hb).2.1 (hokR b hb).2.2⟩,fun b hb=>(mem2 hb).elim (fun e=>by subst e;exact (Array.getElem?_eq_some_iff.1 hw).1) (fun h=>by obtain⟨cu,E',f',hw'⟩:=hbox b h;exact (Array.getElem?_eq_some_iff.1 hw').1),hglob,fun _=>none,fun _ _ h=>by cases h⟩
    obtain⟨_,t2,t3,t4,t5⟩:=aId (c:=c) hE.ok htl hlo (cs2:=[]) (by simp)
    let hp:aCq:=aBj 1 bs++[(0,.box ls)]
    let β:aCr:=fun j=>if j=0 then some b0 else (pb[j-1]?).join
    have hsit:=fun j=>aF6 0 bs 1 [(0,Blk.box ls)] j
    have lk:∀ {id:Nat} {x:Blk},hp.lookup id=some x→(id=0∧x=.box ls)∨(1≤id∧id<1+bs.length∧bs[id-1]? =some x):=fun {id x} h=>by
     have h:List.lookup id (aBj 1 bs++[(0,Blk.box ls)])=some x:=h
     rw[hsit]at h
     split at h
     ·rename_i hr;exact .inr ⟨hr.1,hr.2,h⟩
     ·simp only[List.lookup]at h
      split at h
      ·rename_i h1
       obtain rfl:=Option.some.inj h
       exact .inl ⟨by simpa using h1,rfl⟩
      ·cases h
    have l0:hp.lookup 0=some (.box ls):=by
     show List.lookup 0 (aBj 1 bs++[(0,Blk.box ls)])=_
     rw[hsit,if_neg (by omega)];rfl
    have lS:∀ (i:Nat) (x:Blk),bs[i]? =some x→hp.lookup (1+i)=some x:=fun i x hi=>by
     show List.lookup (1+i) (aBj 1 bs++[(0,Blk.box ls)])=_
     rw[hsit,if_pos (by have:=(List.getElem?_eq_some_iff.1 hi).1;omega),Nat.add_sub_cancel_left];exact hi
    have β0:β 0=some b0:=rfl
    have βS:∀ id,1≤id→β id=(pb[id-1]?).join:=fun id hi=>if_neg (by omega)
    have joined:∀ {k b:Nat},(pb[k]?).join=some b→pb[k]? =some (some b):=fun {k b} h=>by
     cases hp:pb[k]? with
     |none=>rw[hp]at h;cases h
     |some ob=>rw[hp]at h;simp only[Option.join_some]at h;rw[h]
    have okD0:∀ b,okR b→okD c hp β b:=fun b hb=>⟨.inl hb,fun id blk hl _ hβ=>by
     rcases lk hl with⟨rfl,_⟩ | ⟨h1,_,_⟩
     ·exact (hokR b hb).2.1 (Option.some.inj hβ).symm
     ·rw[βS id h1]at hβ
      exact (hokR b hb).2.2 (List.mem_of_getElem? (joined hβ))⟩
    have hcells:aJ9 (okD c hp β) w hp (1+bs.length) β cur ls:=⟨by rw[t3,Array.length_toList],fun j y hj=>by
     obtain⟨u,hu,hr⟩:=t5 hp (1+bs.length) β (okD c hp β) okD0 (Nat.le_refl _) lS (fun i hi=>by rw[βS _ (by omega),Nat.add_sub_cancel_left]) (fun j id ob hj=>by simp at hj) j y hj
     exact⟨u,by simpa using hu,hr⟩⟩
    have hh:aB7 c w hp (1+bs.length) β:=by
     refine⟨fun id x hl=>?_,fun id x b hl hb=>?_,fun id id' x x' b hl hl' hb hb'=>?_,Nat.le_refl _,fun _ _ _=>rfl,rfl,rfl,fun b hb cu E' f' hw'=>⟨cu,hw',rfl⟩,fun g o hg=>by cases hg⟩
     ·rcases lk hl with⟨rfl,rfl⟩ | ⟨h1,h2,h3⟩
      ·exact⟨by omega,b0,cur,E0,fr,rfl,hw,hth,hcells⟩
      ·obtain⟨sz,rows,rfl,r1,r2⟩:=t4 _ _ h3
       refine⟨h2,?_⟩
       rw[βS id h1]
       exact⟨r1,r2.imp (fun h=>h) fun⟨b,cu,E1,f1,g1,g2,g3,g4,g5⟩=>⟨b,cu,E1,f1,g1,g2,g3,g4,fun i r j x hi hj=>let⟨u,k1,k2⟩:=g5 i r j x hi hj;⟨u,k1,k2.mono (fun b hb _=>⟨okD0 b hb,rfl⟩) (Nat.le_refl _)⟩⟩⟩
     ·rcases lk hl with⟨rfl,rfl⟩ | ⟨h1,h2,h3⟩
      ·obtain rfl:=Option.some.inj hb
       exact⟨.inr ⟨List.mem_cons_self,rfl⟩,(Array.getElem?_eq_some_iff.1 hw).1⟩
      ·obtain⟨sz,rows,rfl,_⟩:=t4 _ _ h3
       rw[βS id h1]at hb
       have hm:=List.mem_of_getElem? (joined hb)
       obtain⟨cu,E',f',hw'⟩:=hbox b hm
       exact⟨.inr ⟨List.mem_cons_of_mem _ hm,rfl⟩,(Array.getElem?_eq_some_iff.1 hw').1⟩
     ·rcases lk hl with⟨rfl,_⟩ | ⟨h1,h2,_⟩<;>rcases lk hl' with⟨rfl,_⟩ | ⟨h1',h2',_⟩
      ·rfl
      ·exfalso
       obtain rfl:=Option.some.inj hb
       rw[βS id' h1']at hb'
       exact hne (List.mem_of_getElem? (joined hb'))
      ·exfalso
       obtain rfl:=Option.some.inj hb'
       rw[βS id h1]at hb
       exact hne (List.mem_of_getElem? (joined hb))
      ·rw[βS id h1]at hb
       rw[βS id' h1']at hb'
       have:=hpbn _ _ b (joined hb) (joined hb')
       omega
    have hpins:∀ (j:Nat) (id:Nat),(0::List.range' 1 bs.length)[j]? =some id→id<1+bs.length∧(∃ x,hp.lookup id=some x∧x.isFro=false)∧c.pb[j]? =some (β id):=fun j id hj=>by
     cases j with
     |zero=>obtain rfl:=Option.some.inj hj;exact⟨by omega,⟨_,l0,rfl⟩,rfl⟩
     |succ j =>
      rw[List.getElem?_cons_succ]at hj
      have hlt:=(List.getElem?_eq_some_iff.1 hj).1
      rw[List.length_range']at hlt
      rw[List.getElem?_range' hlt]at hj
      obtain rfl:=Option.some.inj hj
      rw[Nat.one_mul]
      have hb:bs[j]? =some bs[j]:=List.getElem?_eq_getElem hlt
      obtain⟨sz,rows,hbe,_⟩:=t4 _ _ hb
      refine⟨by omega,⟨_,lS j _ hb,by rw[hbe];rfl⟩,?_⟩
      rw[βS _ (by omega),Nat.add_sub_cancel_left]
      show pb[j]? =_
      have:pb[j]? =some pb[j]:=List.getElem?_eq_getElem (by omega)
      rw[this];rfl
    have hrel:=aQo (c:=c) (σ:={slots:=[],heap:=hp,next:=1+bs.length,pins:=0::List.range' 1 bs.length}) (nt:=fn.ntmps) (vals:=[.pointer (some ⟨b0,0,none⟩)]) (ws:=[W.l (.ptr 0 0)]) hh rfl (fun k u x hu hx=>by
     match k with
     |0 =>
      obtain rfl:=Option.some.inj hu
      obtain rfl:=Option.some.inj hx
      exact⟨by show 0<1+bs.length;omega,rfl,fun _ _=>⟨b0,rfl,rfl⟩,fun _ _ _ _=>⟨b0,rfl,rfl⟩⟩
     |k+1=>simp at hu) hpins (by show (0::List.range' 1 bs.length).length=(some b0::pb).length;simp[t2])
    have hE':aA8 c.P {E with nt:=fn.ntmps}:=⟨⟨hE.ok.ty,hE.ok.inl,hE.ok.arr,hE.ok.gl,hE.ok.bld⟩,hE.law,hE.name,hE.mixed⟩
    obtain⟨e,σ',h1,h2⟩:=aV1 hE' (hI c rfl) body he
    have last:(e=.normal∨e=.ret)→(match aZ7 E σ' fn.results,σ'.pins with
      |some [],a::ns=>(match σ'.heap.lookup a with
       |some (.box cells)=>(match aCv E σ'.heap S cells ns with
        |some (b,cs)=>T.must b (.ret cs)
        |none=>.bad)
       |_=>.bad)
      |_,_=>.bad).eval=some outs→Calls P f #[.pointer (some ⟨b0,0,none⟩)] w fun e w'=>e=.returned (.tuple #[])∧∃ okN:Nat→Prop,(∀ b,okN b→okR b∨w.heap.size≤b)∧w.heap.size≤w'.heap.size ∧
       (∀ b,b<w.heap.size→b≠b0→some b∉pb→w'.heap[b]? =w.heap[b]?)∧w'.os=w.os∧w'.output=w.output ∧
       ∃ cur',w'.heap[b0]? =some (.cells cur' E0 fr)∧cur'.size=cur.size∧aOv P w' okN S cur'.toList outs pb:=by
     intro hex h
     split at h
     ·rename_i a ns hws' hpn
      split at h
      ·rename_i cells' hla'
       split at h
       ·rename_i bb cs' hfl
        obtain⟨hkk,h⟩:=aAl h
        subst hkk
        obtain rfl:=Option.some.inj h
        refine calls_of_wp hf hbody (h2 β _ w hrel (by simp;omega) _ fun β' a' w' hr' hs' _=>?_)
        obtain⟨vs,p1,p2,p3⟩:=bF1 hE'.ok hr' (rs:=fn.results.toList) hws'
        have hvs:vs=[]:=List.length_eq_zero_iff.1 p1
        subst hvs
        have hh':=hr'.heap
        obtain⟨_,_,hβ0⟩:=hr'.pins 0 a (by rw[hpn];rfl)
        have hβa:β' a=some b0:=(Option.some.inj hβ0).symm
        clear hβ0
        obtain⟨b',cur',E1,f1,g1,g2,g3,g4⟩:=(hh'.blk a _ hla').2
        obtain rfl:b'=b0:=by rw[hβa]at g1;exact (Option.some.inj g1).symm
        obtain⟨cu,k1,k2⟩:=hh'.pbs b' List.mem_cons_self cur E0 fr hw
        rw[g2]at k1
        simp only[Option.some.injEq,Obj.cells.injEq]at k1
        obtain⟨rfl,rfl,rfl⟩:=k1
        let okN:Nat→Prop:=fun b=>okR b∨w.heap.size≤b
        have hnp:ns.length+1=pb.length+1:=by have:=hr'.npins;rw[hpn]at this;exact this
        have post:=aJx (c:=c) hE.ok hh' (okN:=okN) (fun b hb=>hb.1.imp (fun h=>h) fun h=>h.1) (us:=cur'.toList) (pb:=pb) hfl (by rw[Array.length_toList];exact g4.1) (by omega) (fun j n hj=>by
         have:(some b'::pb)[j+1]? =some (β' n):=(hr'.pins (j+1) n (by rw[hpn];simpa using hj)).2.2
         simpa using this) (fun j x hj=>by simpa using g4.2 j x hj)
        have hres:=aIi p2
        have fin:=(⟨okN,fun b hb=>hb,hh'.size,fun b hb h1 h2=>hh'.frame b hb fun hm=>(mem2 hm).elim h1 h2,hh'.os,hh'.out,cur',g2,k2,post⟩:∃ okN:Nat→Prop,(∀ b,okN b→okR b∨w.heap.size≤b)∧w.heap.size≤w'.heap.size∧(∀ b,b<w.heap.size→b≠b'→some b∉pb→w'.heap[b]? =w.heap[b]?)∧w'.os=w.os∧w'.output=w.output ∧
         ∃ cur',w'.heap[b']? =some (.cells cur' _ _)∧cur'.size=cur.size∧aOv P w' okN S cur'.toList _ pb)
        rcases hex with rfl | rfl
        ·exact⟨hr'.defers,_,hres,rfl,fin⟩
        ·exact⟨hr'.defers,_,hres,rfl,fin⟩
       ·exact (aA0 h).elim
      ·exact (aA0 h).elim
     ·exact (aA0 h).elim
    cases e with
    |normal=>exact last (.inl rfl) h1
    |ret=>exact last (.inr rfl) h1
    |exit j=>exact (aA0 h1).elim
    |goto l=>exact (aA0 h1).elim
    |panic ch=>exact (aA0 h1).elim
    |outgrown=>exact (aA0 h1).elim
   ·cases hin
  ·exact (aA0 he).elim
 ·exact (aA0 he).elim
def bIy (h:List (Nat×Blk)) (ids:List Nat):List (Nat×Blk):=h.filter fun p=> !ids.contains p.1
def aD3 (E:Env) (h:List (Nat×Blk)):aXx→List L→Option (Bool×List C×List (Option Nat))
 |[],[]=>some (true,[],[])
 |(_,false)::r,x::xs=>match x.data h,aD3 E h r xs with
  |some c,some (b,cs,ids)=>if x.ids.isEmpty=true then some (b,c::cs,ids)else none
  |_,_=>none
 |(.slice _,true)::r,.nil::xs=>match aD3 E h r xs with
  |some (b,cs,ids)=>some (b,.sl []::cs,none::ids)
  |none=>none
 |(.slice e,true)::r,.ref id 0 n::xs=>match E.Ty e,h.lookup id,aD3 E h r xs with
  |some te,some (.arr sz rows),some (b,cs,ids)=>if sz=te.leaves.length then some (decide (n=rows.length)&&b,.sl rows::cs,some id::ids)else none
  |_,_,_=>none
 |_,_=>none
def bQv (ids:List (Option Nat)):Bool :=
 (List.range ids.length).all fun i=>(List.range ids.length).all fun j=>i==j||(ids.getD i none).isNone|| !(ids.getD i none==ids.getD j none)
structure bW2 where
 f:FuncId
 S:aXx
 spec:Spec
def wI {α:Type} (E:Env) (N:bW2):Inl α:=fun g fn ws σ k =>
 if g=N.f then match ws with
  |[.l (.ptr id 0)]=>(match σ.heap.lookup id with
   |some (.box cells)=>(match aD3 E σ.heap N.S cells with
    |some (b,cs,oids) =>
     if bQv oids=true∧(oids.filterMap fun x=>x).contains id=false∧aE1 σ.pins (id::oids.filterMap fun x=>x)=true∧fn.body.isSome=true then
      (match N.spec cs with
      |some (pre,outs)=>.must (aB6 cs (N.S.map (·.1))&&b) (.must pre (
       match aB9 E [] [] N.S outs σ.next with
       |some (b2,ls,[],nb)=>.must b2 (k (.tup []) {σ with heap:=aBj σ.next nb++upd (bIy σ.heap (oids.filterMap fun x=>x)) id (.box ls),next:=σ.next+nb.length} (some (id::oids.filterMap fun x=>x)))
       |_=>.bad))
      |none=>.bad)
     else .bad
    |none=>.bad)
   |_=>.bad)
  |_=>.bad
 else .bad
section
variable {c:Ctx} {w w':World} {h:aCq} {nx:Nat} {β:aCr}
theorem aR4 (h:aCq) (ids:List Nat) (i:Nat):(bIy h ids).lookup i=if i∈ids then none else h.lookup i:=by
 induction h with
 |nil=>simp[bIy]
 |cons p h ih =>
  obtain⟨k,b⟩:=p
  simp only[bIy,List.filter_cons]
  by_cases hk:k∈ids
  ·have:ids.contains k=true:=by simpa using hk
   simp only[this,Bool.not_true,Bool.false_eq_true,if_false]
   rw[show List.lookup i (h.filter fun p=> !ids.contains p.1)=(bIy h ids).lookup i from rfl,ih]
   split
   ·rfl
   ·rename_i hi
    have:(i==k)=false:=by simpa using fun e:i=k=>hi (e▸hk)
    simp only[List.lookup,this]
  ·have:ids.contains k=false:=by simpa using hk
   simp only[this,Bool.not_false,if_true,List.lookup]
   by_cases hik:i=k
   ·subst hik
    simp[hk]
   ·have e2:(i==k)=false:=by simpa using hik
    simp only[e2]
    exact ih
theorem bMy {ids:List (Option Nat)} (h:bQv ids=true) {i j n:Nat} (hi:ids[i]? =some (some n)) (hj:ids[j]? =some (some n)):i=j:=by
 have li:=(List.getElem?_eq_some_iff.1 hi).1
 have lj:=(List.getElem?_eq_some_iff.1 hj).1
 have:=List.all_eq_true.1 (List.all_eq_true.1 h i (List.mem_range.2 li)) j (List.mem_range.2 lj)
 rw[List.getD_eq_getElem?_getD,hi,List.getD_eq_getElem?_getD,hj]at this
 simpa using this
theorem aHg {E:Env} (hE:aDx c.P E) (hh:aB7 c w h nx β) {okR:Nat→Prop} (hok:∀ b,okD c h β b→b<w.heap.size→okR b) :
  ∀ {ks:aXx} {ls:List L} {us:List Value} {cs:List C} {oids:List (Option Nat)},aD3 E h ks ls=some (true,cs,oids)→us.length=ls.length →
   (∀ (j:Nat) (x:L),ls[j]? =some x→∃ u,us[j]? =some u∧aI5 (okD c h β) w h nx β u x) →
   ∃ pb,aC1 c.P w okR [] ks us cs pb∧pb.length=oids.length∧(∀ (j b:Nat),pb[j]? =some (some b)→∃ id sz rows,oids[j]? =some (some id)∧β id=some b∧h.lookup id=some (.arr sz rows))∧∀ id,some id∈oids→∃ sz rows,h.lookup id=some (.arr sz rows)
 |[],[],us,cs,oids,he,hl,_=>by
  simp only[aD3,Option.some.injEq,Prod.mk.injEq,true_and]at he
  obtain⟨rfl,rfl⟩:=he
  obtain rfl:=List.length_eq_zero_iff.1 hl
  exact⟨[],.nil,rfl,fun j b hj=>by simp at hj,fun id hi=>by cases hi⟩
 |[],_::_,_,_,_,he,_,_=>by simp[aD3]at he
 |(kd,own)::ks,[],_,_,_,he,_,_=>by cases own<;>cases kd<;>simp[aD3]at he
 |(kd,own)::ks,x::ls,us,cs,oids,he,hl,hr=>by
  cases us with
  |nil=>simp at hl
  |cons u us =>
   have hl':us.length=ls.length:=by simpa using hl
   have hr0:aI5 (okD c h β) w h nx β u x:=by obtain⟨u',hu,h⟩:=hr 0 x rfl;simp at hu;subst hu;exact h
   have hr':∀ (j:Nat) (x:L),ls[j]? =some x→∃ u,us[j]? =some u∧aI5 (okD c h β) w h nx β u x:=fun j y hj=>by simpa using hr (j+1) y (by simpa using hj)
   have more:∀ {ob oid:Option Nat} {pb:List (Option Nat)} {ids:List (Option Nat)},(∀ b,ob=some b→∃ id sz rows,oid=some id∧β id=some b∧h.lookup id=some (.arr sz rows)) →
     (∀ (j b:Nat),pb[j]? =some (some b)→∃ id sz rows,ids[j]? =some (some id)∧β id=some b∧h.lookup id=some (.arr sz rows)) →
     ∀ (j b:Nat),(ob::pb)[j]? =some (some b)→∃ id sz rows,(oid::ids)[j]? =some (some id)∧β id=some b∧h.lookup id=some (.arr sz rows):=fun {ob oid pb ids} h0 h1 j b hj=>by
    cases j with
    |zero =>
     obtain⟨id,sz,rows,q1,q2,q3⟩:=h0 b (by simpa using hj)
     exact⟨id,sz,rows,by simp[q1],q2,q3⟩
    |succ j=>simpa using h1 j b (by simpa using hj)
   cases own with
   |false =>
    simp only[aD3]at he
    split at he
    ·rename_i d b cs0 ids0 hd hrec
     split at he
     ·rename_i hids
      simp only[Option.some.injEq,Prod.mk.injEq]at he
      obtain⟨rfl,rfl,rfl⟩:=he
      obtain⟨pb,b1,b2,b3,b4⟩:=aHg hE hh hok hrec hl' hr'
      refine⟨pb,.data ((aIq hh (ok':=fun b=>b<w.heap.size→okR b) (fun b hb hlt=>hok b hb hlt) (fun id b blk p hi=>?_) hr0 hd).mono (fun b hb hlt=>⟨hb hlt,rfl⟩) (Nat.le_refl _)) b1,b2,b3,b4⟩
      have:x.ids=[]:=by simpa using hids
      rw[this]at hi
      cases hi
     ·cases he
    ·cases he
   |true =>
    cases kd with
    |slice e =>
     cases x with
     |nil =>
      simp only[aD3]at he
      split at he
      ·rename_i b cs0 ids0 hrec
       simp only[Option.some.injEq,Prod.mk.injEq]at he
       obtain⟨rfl,rfl,rfl⟩:=he
       obtain⟨pb,b1,b2,b3,b4⟩:=aHg hE hh hok hrec hl' hr'
       obtain rfl:u=.slice none 0 0:=hr0
       exact⟨none::pb,.none b1,by simp[b2],more (fun b hb=>by cases hb) b3,fun id hi=>by
        rcases List.mem_cons.1 hi with h | h
        ·cases h
        ·exact b4 id h⟩
      ·cases he
     |ref id off n =>
      cases off with
      |succ m=>simp[aD3]at he
      |zero =>
       simp only[aD3]at he
       split at he
       ·rename_i te sz rows b cs0 ids0 hte hlk hrec
        split at he
        ·rename_i hsz
         subst hsz
         simp only[Option.some.injEq,Prod.mk.injEq,Bool.and_eq_true,decide_eq_true_eq]at he
         obtain⟨⟨rfl,rfl⟩,rfl,rfl⟩:=he
         obtain⟨pb,b1,b2,b3,b4⟩:=aHg hE hh hok hrec hl' hr'
         have hids:∀ i,some i∈(some id::ids0)→∃ sz rows,h.lookup i=some (.arr sz rows):=fun i hi=>by
          rcases List.mem_cons.1 hi with h | h
          ·obtain rfl:=Option.some.inj h;exact⟨_,_,hlk⟩
          ·exact b4 i h
         obtain⟨i,_,hi',his,_⟩:=(hE.ty e te hte).info
         obtain⟨_,hhdr⟩:=hr0.2.2 _ _ _ hlk rfl
         obtain⟨hrl,hrows⟩:=(hh.blk id _ hlk).2
         rcases hhdr with⟨a0,rfl,hn0'⟩ | ⟨b0,cc,cur,E',fr,hb0,rfl,hnc,hcw,hth,hle⟩
         ·have:rows=[]:=List.length_eq_zero_iff.1 hn0'
          subst this
          exact⟨none::pb,.none b1,by simp[b2],more (fun b hb=>by cases hb) b3,hids⟩
         ·refine⟨some b0::pb,?_,by simp[b2],more (fun b hb=>by obtain rfl:=Option.some.inj hb;exact⟨id,_,_,rfl,hb0,hlk⟩) b3,hids⟩
          rw[Nat.zero_mul]
          rw[Nat.zero_add]at hle
          refine .own hi' hnc hcw (by rw[his];exact hth) (by rw[his];exact hle) (fun k r j y hk hj=>?_) b1
          have hne:rows≠[]:=fun e=>by subst e;simp at hk
          obtain⟨b',cur',E2,fr',hb',hw2,_,_,hcells⟩:=hrows.resolve_left hne
          obtain rfl:b'=b0:=by rw[hb0]at hb';exact (Option.some.inj hb').symm
          rw[hcw]at hw2
          simp only[Option.some.injEq,Obj.cells.injEq]at hw2
          obtain⟨rfl,rfl,rfl⟩:=hw2
          obtain⟨u,hu,hru⟩:=hcells k r j y hk hj
          exact⟨u,by rw[his];exact hu,hru.mono (fun b hb hlt=>⟨hok b hb hlt,rfl⟩) (Nat.le_refl _)⟩
        ·cases he
       ·cases he
     |_=>simp[aD3]at he
    |_=>cases x<;>simp[aD3]at he
theorem bO0 {E:Env} (hE:aDx c.P E) {okN:Nat→Prop}:∀ {ks:aXx} {us:List Value} {cs:List C} {pb:List (Option Nat)},aOv c.P w' okN ks us cs pb→∀ {n:Nat} {ls:List L} {rest:List C} {nb:List Blk},aB9 E [] [] ks cs n=some (true,ls,rest,nb) →
  nb.length=pb.length∧ls.length=us.length ∧
   (∀ (i:Nat) (blk:Blk),nb[i]? =some blk→∃ sz rows,blk=.arr sz rows∧aGg okN w' (pb[i]?).join sz rows) ∧
   (∀ (h':aCq) (nx':Nat) (β':aCr) (ok':Nat→Prop),(∀ b,okN b→ok' b)→n+nb.length≤nx'→(∀ (i:Nat) (blk:Blk),nb[i]? =some blk→h'.lookup (n+i)=some blk)→(∀ i,i<nb.length→β' (n+i)=(pb[i]?).join) →
    ∀ (j:Nat) (x:L),ls[j]? =some x→∃ u,us[j]? =some u∧aI5 ok' w' h' nx' β' u x):=by
 intro ks us cs pb hp
 induction hp with
 |nil =>
  intro n ls rest nb ht
  simp only[aB9,Option.some.injEq,Prod.mk.injEq,true_and]at ht
  obtain⟨rfl,rfl,rfl⟩:=ht
  exact⟨rfl,rfl,fun i blk hi=>by simp at hi,fun _ _ _ _ _ _ _ _ j x hj=>by simp at hj⟩
 |data hr hp ih =>
  rename_i kd ks v vs cc cs bs
  intro n ls rest nb ht
  simp only[aB9]at ht
  split at ht
  ·rename_i b ls' cs' bs' hrec
   simp only[Option.some.injEq,Prod.mk.injEq,Bool.and_eq_true]at ht
   obtain⟨⟨hb1,rfl⟩,rfl,rfl,rfl⟩:=ht
   obtain⟨i2,i3,i4,i5⟩:=ih hrec
   refine⟨i2,by simp[i3],i4,fun h' nx' β' ok' hok hnx hlk hβ j x hj=>?_⟩
   cases j with
   |zero =>
    simp only[List.getElem?_cons_zero,Option.some.injEq]at hj
    subst hj
    obtain⟨y,hy,hrep⟩:=aR5 (w:=w') (ok:=ok') (h:=h') (nx:=nx') (β:=β') hb1
    simp only[List.getElem?_cons_zero,Option.some.injEq]at hy
    subst hy
    exact⟨v,rfl,hrep v (hr.mono (fun b hb _=>⟨hok b hb,rfl⟩) (Nat.le_refl _))⟩
   |succ j=>exact i5 h' nx' β' ok' hok hnx hlk hβ j x hj
  ·cases ht
 |site hi hone hhdr hrows hp ih =>
  rename_i e ks v vs rows cs ob bs i
  intro n ls rest nb ht
  simp only[aB9]at ht
  split at ht
  ·rename_i te hte
   split at ht
   ·rename_i b0 ls' cs' bs' hrec
    simp only[Option.some.injEq,Prod.mk.injEq,Bool.and_eq_true]at ht
    obtain⟨⟨⟨_,hall⟩,rfl⟩,rfl,rfl,rfl⟩:=ht
    obtain⟨i2,i3,i4,i5⟩:=ih hrec
    obtain⟨ii,_,hii,his,_⟩:=(hE.ty e te hte).info
    rw[hi]at hii
    obtain rfl:=Option.some.inj hii
    rw[his]at hhdr hrows
    refine⟨by simp[i2],by simp[i3],fun k blk hk=>?_,fun h' nx' β' ok' hok hnx hlk hβ j x hj=>?_⟩
    ·cases k with
     |zero =>
      simp only[List.getElem?_cons_zero,Option.some.injEq]at hk
      subst hk
      exact⟨_,_,rfl,by simpa[C.toRows]using hrows⟩
     |succ k=>simpa using i4 k blk (by simpa using hk)
    ·simp only[List.length_cons]at hnx
     cases j with
     |zero =>
      simp only[List.getElem?_cons_zero,Option.some.injEq]at hj
      subst hj
      refine⟨v,rfl,by omega,hone,fun blk sz rows' hl' hr'=>?_⟩
      have:=hlk 0 _ rfl
      rw[Nat.add_zero]at this
      rw[this]at hl'
      obtain rfl:=Option.some.inj hl'
      simp only[Blk.rows?,Option.some.injEq,Prod.mk.injEq]at hr'
      obtain⟨rfl,rfl⟩:=hr'
      have hb0:=hβ 0 (by simp)
      rw[Nat.add_zero]at hb0
      rw[hb0]
      exact⟨by simp[C.toRows],hhdr⟩
     |succ j =>
      exact i5 h' nx' β' ok' hok (by omega) (fun i blk hi=>by have:=hlk (i+1) blk (by simpa using hi);rw[show n+1+i=n+(i+1) by omega];exact this)
       (fun i hi=>by have:=hβ (i+1) (by simpa using hi);rw[show n+1+i=n+(i+1) by omega];simpa using this) j x (by simpa using hj)
   ·cases ht
  ·cases ht
end
section
variable {c:Ctx} {w w1:World} {h:aCq} {nx:Nat} {β:aCr}
theorem aNp (h:aCq) {id:Nat} {rids:List Nat} (hne:id∉rids) {old new:Blk} (hl:h.lookup id=some old) (n:Nat) (nb:List Blk) (i:Nat) :
  (aBj n nb++upd (bIy h rids) id new).lookup i=if n≤i∧i<n+nb.length then nb[i-n]? else if i=id then some new else if i∈rids then none else h.lookup i:=by
 rw[aF6 0]
 split
 ·rfl
 ·rw[aC6 _ _ _ ⟨old,by rw[aR4,if_neg hne];exact hl⟩,aR4]
theorem bUy {id b0:Nat} {rids:List Nat} {cells new:List L} {cur cur':Array Value} {E:TypeId} {fr:Nat×Nat} {pb:List (Option Nat)} {nb:List Blk} (hh:aB7 c w h nx β) (hl:h.lookup id=some (.box cells)) (hr:∀ r,r∈rids→∃ sz rows,h.lookup r=some (.arr sz rows))
  (hlen:new.length=cells.length) (hb:β id=some b0) (hw:w.heap[b0]? =some (.cells cur E fr)) (hw1:w1.heap[b0]? =some (.cells cur' E fr)) (hcs:cur'.size=cur.size) (hth:aFd cur.size fr)
  (hmine:∀ r d,r∈rids→β r=some d→c.w0.heap.size≤d) (hpb:∀ (j b:Nat),pb[j]? =some (some b)→∃ r,r∈rids∧β r=some b) (hpbn:∀ (i j b:Nat),pb[i]? =some (some b)→pb[j]? =some (some b)→i=j)
  (ho:∀ d,d<w.heap.size→d≠b0→some d∉pb→w1.heap[d]? =w.heap[d]?) (hsz:w.heap.size≤w1.heap.size) (hos:w1.os=w.os) (hout:w1.output=w.output) (hnb:nb.length=pb.length)
  {okN:Nat→Prop} (hokN:∀ b,okN b→(b<w.heap.size∧okD c h β b)∨w.heap.size≤b)
  (hrows:∀ (i:Nat) (blk:Blk),nb[i]? =some blk→∃ sz rows,blk=.arr sz rows∧aGg okN w1 (pb[i]?).join sz rows)
  (hcells:∀ (h':aCq) (nx':Nat) (β':aCr) (ok':Nat→Prop),(∀ b,okN b→ok' b)→nx+nb.length≤nx'→(∀ (i:Nat) (blk:Blk),nb[i]? =some blk→h'.lookup (nx+i)=some blk)→(∀ i,i<nb.length→β' (nx+i)=(pb[i]?).join)→aJ9 ok' w1 h' nx' β' cur' new) :
  ∃ β',(∀ i,i<nx→β' i=β i)∧aB7 c w1 (aBj nx nb++upd (bIy h rids) id (.box new)) (nx+nb.length) β'∧Ext c w h nx β w1 (aBj nx nb++upd (bIy h rids) id (.box new)) (nx+nb.length) β':=by
 have hidr:id∉rids:=fun hm=>by obtain⟨sz,rows,h1⟩:=hr id hm;rw[hl]at h1;cases h1
 have hlk:=aNp h hidr (new:=.box new) hl nx nb
 generalize hH:aBj nx nb++upd (bIy h rids) id (.box new)=H at hlk
 let β':aCr:=fun i=>if i<nx then β i else (pb[i-nx]?).join
 have βo:∀ i,i<nx→β' i=β i:=fun i hi=>if_pos hi
 have βn:∀ i,nx≤i→β' i=(pb[i-nx]?).join:=fun i hi=>if_neg (by omega)
 have joined:∀ {k b:Nat},(pb[k]?).join=some b→pb[k]? =some (some b):=fun {k b} h=>by
  cases hp:pb[k]? with
  |none=>rw[hp]at h;cases h
  |some ob=>rw[hp]at h;simp only[Option.join_some]at h;rw[h]
 have hin:∀ i x,h.lookup i=some x→i<nx:=fun i x hx=>(hh.blk i x hx).1
 have back:∀ i x,H.lookup i=some x→(i=id∧x=.box new)∨(i<nx∧i≠id∧i∉rids∧h.lookup i=some x)∨(nx≤i∧i<nx+nb.length∧nb[i-nx]? =some x):=fun i x hx=>by
  rw[hlk i]at hx
  split at hx
  ·rename_i h1;exact .inr (.inr ⟨h1.1,h1.2,hx⟩)
  ·split at hx
   ·rename_i h2;exact .inl ⟨h2,(Option.some.inj hx).symm⟩
   ·split at hx
    ·cases hx
    ·rename_i h2 h3;exact .inr (.inl ⟨hin i x hx,h2,h3,hx⟩)
 have hidn:=hin id _ hl
 have safe:∀ d,okD c h β d→d≠b0∧some d∉pb:=fun d hd=>⟨fun e=>hd.2 id _ hl rfl (e▸hb),fun hm=>by
  obtain⟨j,hj⟩:=List.getElem?_of_mem hm
  obtain⟨r,hr1,hr2⟩:=hpb j d hj
  obtain⟨sz,rows,hr3⟩:=hr r hr1
  exact hd.2 r _ hr3 rfl hr2⟩
 have other:∀ i x d,i≠id→i∉rids→h.lookup i=some x→β i=some d→d≠b0∧some d∉pb:=fun i x d h1 h2 hx hd=>⟨fun e=>h1 (hh.inj i id x _ d hx hl hd (e▸hb)),fun hm=>by
  obtain⟨j,hj⟩:=List.getElem?_of_mem hm
  obtain⟨r,hr1,hr2⟩:=hpb j d hj
  obtain⟨sz,rows,hr3⟩:=hr r hr1
  exact h2 (hh.inj i r x _ d hx hr3 hd hr2▸hr1)⟩
 have okD':∀ d,okD c h β d→okD c H β' d:=fun d hd=>⟨hd.1,fun i x hx hf hbi=>by
  rcases back i x hx with⟨rfl,rfl⟩ | ⟨h1,_,_,h4⟩ | ⟨h1,_,_⟩
  ·rw[βo i hidn]at hbi;exact hd.2 i _ hl rfl hbi
  ·rw[βo i h1]at hbi;exact hd.2 i x h4 hf hbi
  ·rw[βn i h1]at hbi;exact (safe d hd).2 (List.mem_of_getElem? (joined hbi))⟩
 have okn:∀ b,okN b→okD c H β' b:=fun b hb'=>by
  rcases hokN b hb' with⟨_,h2⟩ | h2
  ·exact okD' b h2
  ·refine⟨.inr ⟨Nat.le_trans hh.size h2,hh.fresh h2⟩,fun i x hx hf hbi=>?_⟩
   rcases back i x hx with⟨rfl,rfl⟩ | ⟨h1,_,_,h4⟩ | ⟨h1,_,_⟩
   ·rw[βo i hidn]at hbi;have:=(hh.place i _ b hl hbi).2;omega
   ·rw[βo i h1]at hbi;have:=(hh.place i x b h4 hbi).2;omega
   ·rw[βn i h1]at hbi
    obtain⟨r,hr1,hr2⟩:=hpb _ b (joined hbi)
    obtain⟨sz,rows,hr3⟩:=hr r hr1
    have:=(hh.place r _ b hr3 hr2).2
    omega
 have ex:Ext c w h nx β w1 H (nx+nb.length) β':=by
  refine⟨by omega,hsz,fun d hd hlt=>⟨okD' d hd,ho d hlt (safe d hd).1 (safe d hd).2⟩,fun i x' hi hx=>?_,fun i x d cur0 E0 fr0 hi hx hd hwd=>?_⟩
  ·refine⟨βo i hi,?_⟩
   rcases back i x' hx with⟨rfl,rfl⟩ | ⟨_,_,_,h4⟩ | ⟨h1,_,_⟩
   ·exact⟨_,hl,hlen⟩
   ·exact⟨_,h4,aAf.refl _⟩
   ·omega
  ·rcases back i x hx with⟨rfl,rfl⟩ | ⟨_,h2,h3,h4⟩ | ⟨h1,_,_⟩
   ·rw[hb]at hd
    obtain rfl:=Option.some.inj hd
    rw[hw]at hwd
    simp only[Option.some.injEq,Obj.cells.injEq]at hwd
    obtain⟨rfl,rfl,rfl⟩:=hwd
    exact⟨cur',hw1,hcs⟩
   ·obtain⟨q1,q2⟩:=other i x d h2 h3 h4 hd
    exact⟨cur0,by rw[ho d (hh.place i x d h4 hd).2 q1 q2];exact hwd,rfl⟩
   ·omega
 have lS:∀ (i:Nat) (blk:Blk),nb[i]? =some blk→H.lookup (nx+i)=some blk:=fun i blk hi=>by
  rw[hlk,if_pos (by have:=(List.getElem?_eq_some_iff.1 hi).1;omega),Nat.add_sub_cancel_left];exact hi
 refine⟨β',βo,⟨fun i x hx=>?_,fun i x d hx hd=>?_,fun i j x y d hx hy hd hd'=>?_,by have:=hh.size;omega,fun d hd hpd=>?_,hos.trans hh.os,hout.trans hh.out,fun d hd cur0 E0 fr0 hw0=>?_,fun g o hg=>?_⟩,ex⟩
 ·rcases back i x hx with⟨rfl,rfl⟩ | ⟨h1,h2,h3,h4⟩ | ⟨h1,h2,h3⟩
  ·refine⟨by omega,?_⟩
   rw[βo i hidn,hb]
   exact⟨b0,cur',E,fr,rfl,hw1,by rw[hcs];exact hth,hcells H (nx+nb.length) β' (okD c H β') okn (Nat.le_refl _) lS fun i hi=>by rw[βn _ (by omega),Nat.add_sub_cancel_left]⟩
  ·obtain⟨g1,g2⟩:=hh.blk i x h4
   refine⟨by omega,?_⟩
   rw[βo i h1]
   refine g2.ext ex fun d hd=>?_
   obtain⟨q1,q2⟩:=other i x d h2 h3 h4 hd
   exact ho d (hh.place i x d h4 hd).2 q1 q2
  ·obtain⟨sz,rows,rfl,r1,r2⟩:=hrows _ _ h3
   refine⟨h2,?_⟩
   rw[βn i h1]
   exact⟨r1,r2.imp (fun h=>h) fun⟨b,cu,E1,f1,g1,g2,g3,g4,g5⟩=>⟨b,cu,E1,f1,g1,g2,g3,g4,fun i r j x hi hj=>let⟨u,k1,k2⟩:=g5 i r j x hi hj;⟨u,k1,k2.mono (fun b hb _=>⟨okn b hb,rfl⟩) (Nat.le_refl _)⟩⟩⟩
 ·rcases back i x hx with⟨rfl,rfl⟩ | ⟨h1,_,_,h4⟩ | ⟨h1,h2,h3⟩
  ·rw[βo i hidn]at hd
   have:=hh.place i _ d hl hd
   exact⟨this.1,by omega⟩
  ·rw[βo i h1]at hd
   have:=hh.place i x d h4 hd
   exact⟨this.1,by omega⟩
  ·rw[βn i h1]at hd
   obtain⟨r,hr1,hr2⟩:=hpb _ d (joined hd)
   obtain⟨sz,rows,hr3⟩:=hr r hr1
   have:=(hh.place r _ d hr3 hr2).2
   exact⟨.inl (hmine r d hr1 hr2),by omega⟩
 ·have keyO:∀ i x,H.lookup i=some x→i<nx→∃ y,h.lookup i=some y∧i∉rids:=fun i x hx hi=>by
   rcases back i x hx with⟨rfl,rfl⟩ | ⟨_,_,h3,h4⟩ | ⟨h1,_,_⟩
   ·exact⟨_,hl,hidr⟩
   ·exact⟨_,h4,h3⟩
   ·omega
  have keyN:∀ i j x,H.lookup i=some x→i<nx→nx≤j→β' i=some d→β' j=some d→False:=fun i j x hx hi hj hd hd'=>by
   obtain⟨y,hy,hni⟩:=keyO i x hx hi
   rw[βo i hi]at hd
   rw[βn j hj]at hd'
   obtain⟨r,hr1,hr2⟩:=hpb _ d (joined hd')
   obtain⟨sz,rows,hr3⟩:=hr r hr1
   exact hni (hh.inj i r y _ d hy hr3 hd hr2▸hr1)
  rcases Nat.lt_or_ge i nx with hi | hi<;>rcases Nat.lt_or_ge j nx with hj | hj
  ·obtain⟨x0,h0,_⟩:=keyO i x hx hi
   obtain⟨y0,h1,_⟩:=keyO j y hy hj
   rw[βo i hi]at hd
   rw[βo j hj]at hd'
   exact hh.inj i j x0 y0 d h0 h1 hd hd'
  ·exact (keyN i j x hx hi hj hd hd').elim
  ·exact (keyN j i y hy hj hi hd' hd).elim
  ·rw[βn i hi]at hd
   rw[βn j hj]at hd'
   have:=hpbn _ _ d (joined hd) (joined hd')
   omega
 ·have hs:=hh.size
  rw[ho d (by omega) (fun e=>by
   subst e
   rcases (hh.place id _ d hl hb).1 with h1 | h1
   ·omega
   ·exact hpd h1.1) (fun hm=>by
   obtain⟨j,hj⟩:=List.getElem?_of_mem hm
   obtain⟨r,hr1,hr2⟩:=hpb j d hj
   have:=hmine r d hr1 hr2
   omega)]
  exact hh.frame d hd hpd
 ·obtain⟨cur1,h1,h2⟩:=hh.pbs d hd cur0 E0 fr0 hw0
  by_cases hdb:d=b0
  ·subst hdb
   rw[hw]at h1
   simp only[Option.some.injEq,Obj.cells.injEq]at h1
   obtain⟨rfl,rfl,rfl⟩:=h1
   exact⟨cur',hw1,by omega⟩
  ·have hlt:=c.oldpb d hd
   have hs:=hh.size
   exact⟨cur1,by
    rw[ho d (by omega) hdb (fun hm=>by
     obtain⟨j,hj⟩:=List.getElem?_of_mem hm
     obtain⟨r,hr1,hr2⟩:=hpb j d hj
     have:=hmine r d hr1 hr2
     omega)]
    exact h1,h2⟩
 ·obtain⟨g1,g2⟩:=hh.gh g o hg
  have hlt:=(Array.getElem?_eq_some_iff.1 g1).1
  have nopb:some g∉pb:=fun hm=>by
   obtain⟨j,hj⟩:=List.getElem?_of_mem hm
   obtain⟨r,hr1,hr2⟩:=hpb j g hj
   obtain⟨sz,rows,hr3⟩:=hr r hr1
   exact g2 r _ hr3 hr2
  refine⟨(ho g hlt (fun e=>g2 id _ hl (e▸hb)) nopb).trans g1,fun i x hx hbi=>?_⟩
  rcases back i x hx with⟨rfl,rfl⟩ | ⟨h1,_,_,h4⟩ | ⟨h1,_,_⟩
  ·rw[βo i hidn]at hbi;exact g2 i _ hl hbi
  ·rw[βo i h1]at hbi;exact g2 i x h4 hbi
  ·rw[βn i h1]at hbi;exact nopb (List.mem_of_getElem? (joined hbi))
end
theorem bNp {α:Type} {P:Program} {E:Env} (hE:aDx P E) {N:bW2} (hL:bN2 P N.f N.S N.spec):∀ c:Ctx,c.P=P→aMr c (wI (α:=α) E N):=by
 intro c hc g fn ws σ k r hg he
 subst hc
 unfold wI at he
 split at he
 ·rename_i hgf
  subst hgf
  split at he
  ·rename_i id
   split at he
   ·rename_i cells hl
    split at he
    ·rename_i bb cs oids hel
     split at he
     ·rename_i hcond
      obtain⟨hap,hid,hfr,hbody⟩:=hcond
      split at he
      ·rename_i pre outs hs
       obtain⟨hm,he1⟩:=aAl he
       obtain⟨hpre,he2⟩:=aAl he1
       subst hpre
       simp only[Bool.and_eq_true]at hm
       obtain⟨hk,rfl⟩:=hm
       split at he2
       ·rename_i b2 ls nb ht
        obtain⟨hb2,he3⟩:=aAl he2
        subst hb2
        clear he he1 he2
        generalize hrd:(oids.filterMap fun x=>x)=rids at hid hfr he3
        have hmem:∀ i,some i∈oids↔i∈rids:=fun i=>by
         rw[←hrd,List.mem_filterMap]
         constructor
         ·intro h;exact⟨_,h,rfl⟩
         ·rintro⟨x,h1,h2⟩;rw[←h2];exact h1
        have hfree:∀ i,i=id∨i∈rids→i∉σ.pins:=fun i hi hp=>by
         have:=List.all_eq_true.1 hfr i (by simpa using hi)
         simp[hp]at this
        refine⟨_,_,_,he3,?_,rfl,hbody,?_⟩
        ·intro l hle i hi hni
         obtain rfl:=Option.some.inj hle
         simp only[List.mem_cons,not_or]at hni
         show List.lookup i (aBj σ.next nb++upd (bIy σ.heap rids) id _)=_
         rw[aNp _ (by simpa using hid) hl,if_neg (by omega),if_neg hni.1,if_neg hni.2]
        ·intro β w vals hh hvl hv hpin hnp
         match vals,hvl with
         |[v],_ =>
          have hv0:=hv 0 v _ rfl rfl
          obtain⟨b0,hb0,rfl⟩:=hv0.2.2.1 cells hl
          obtain⟨b',cur,E0,fr,hb',hw,hth,hrep⟩:=(hh.blk id _ hl).2
          obtain rfl:b'=b0:=by rw[hb0]at hb';exact (Option.some.inj hb').symm
          let okR:Nat→Prop:=fun b=>b<w.heap.size∧okD c σ.heap β b
          obtain⟨pb,hlo,hpl,hpb,harr⟩:=aHg hE hh (okR:=okR) (fun b hb hlt=>⟨hlt,hb⟩) (us:=cur.toList) hel (by rw[Array.length_toList];exact hrep.1) (fun j x hj=>by simpa using hrep.2 j x hj)
          have hidr:id∉rids:=by simpa using hid
          have hpbn:∀ (i j b:Nat),pb[i]? =some (some b)→pb[j]? =some (some b)→i=j:=fun i j b hi hj=>by
           obtain⟨r1,s1,aM6,q1,q2,q3⟩:=hpb i b hi
           obtain⟨r2,s2,rows2,q4,q5,q6⟩:=hpb j b hj
           have:=hh.inj r1 r2 _ _ b q3 q6 q2 q5
           subst this
           exact bMy hap q1 q4
          have hpb2:∀ (j b:Nat),pb[j]? =some (some b)→∃ r,r∈rids∧β r=some b:=fun j b hj=>by
           obtain⟨r1,s1,aM6,q1,q2,q3⟩:=hpb j b hj
           exact⟨r1,(hmem r1).1 (List.mem_of_getElem? q1),q2⟩
          have hrr:∀ r,r∈rids→∃ sz rows,σ.heap.lookup r=some (.arr sz rows):=fun r hr=>harr r ((hmem r).2 hr)
          have hokR:∀ b,okR b→b<w.heap.size∧b≠b'∧some b∉pb:=fun b hb=>⟨hb.1,fun e=>hb.2.2 id _ hl rfl (e▸hb0),fun hm=>by
           obtain⟨j,hj⟩:=List.getElem?_of_mem hm
           obtain⟨r1,s1,aM6,q1,q2,q3⟩:=hpb j b hj
           exact hb.2.2 r1 _ q3 rfl q2⟩
          have hglob:aMy c.P w okR:=fun g row hg=>by
           obtain⟨⟨g1,gt⟩,g2⟩:=c.glob g row hg
           obtain⟨g3,g4⟩:=c.old g g1
           have up:∀ b,c.okR b→okR b:=fun b hb=>⟨Nat.lt_of_lt_of_le (c.old b hb).1 hh.size,.inl hb,fun i blk hli hf hbi=>by
            rcases (hh.place i blk b hli hbi).1 with h | h
            ·have:=(c.old b hb).1;omega
            ·exact (c.old b hb).2 h.1⟩
           refine⟨⟨up g g1,fun he=>let⟨E1,fr1,h1⟩:=gt he;⟨E1,fr1,(hh.frame g g3 g4).trans h1⟩⟩,fun j x hx=>?_⟩
           obtain⟨u,hu,hru⟩:=g2 j x hx
           exact⟨u,by rw[aEf (hh.frame g g3 g4)];exact hu,hru.mono (fun b hb hlt=>⟨up b hb,hh.frame b hlt (c.old b hb).2⟩) hh.size⟩
          refine (hL w okR b' cur E0 fr cs outs pb hokR hglob (fun hm=>by
           obtain⟨j,hj⟩:=List.getElem?_of_mem hm
           obtain⟨r1,hr1,hr2⟩:=hpb2 j b' hj
           obtain⟨sz,rows,q3⟩:=hrr r1 hr1
           exact hidr (hh.inj id r1 _ _ b' hl q3 hb0 hr2▸hr1)) hpbn hw hth hlo hk hs).mono ?_
          rintro e w' ⟨rfl,okN,hokN,hsz,hfrm,hos,hout,cur',hw1,hcs,hpost⟩
          refine⟨_,rfl,?_⟩
          obtain⟨t2,t3,t4,t5⟩:=bO0 (c:=c) hE hpost ht
          have hll:ls.length=cells.length:=by rw[t3,Array.length_toList,hcs];exact hrep.1
          obtain⟨β',βo,hh2,ex⟩:=bUy (new:=ls) (rids:=rids) (okN:=okN) hh hl hrr hll hb0 hw hw1 hcs hth (fun r d hr hd=>by
           obtain⟨sz,rows,q3⟩:=hrr r hr
           exact aWk hh hpin hnp q3 hd (hfree r (.inr hr))) hpb2 hpbn (fun d h1 h2 h3=>hfrm d h1 h2 h3) hsz hos hout t2 (fun b hb=>(hokN b hb).imp (fun h=>h) (fun h=>h)) t4 (fun h' nx' β' ok' k1 k2 k3 k4=>⟨by rw[hcs,hll];exact hrep.1,fun j x hj=>by
            obtain⟨u,hu,hr⟩:=t5 h' nx' β' ok' k1 k2 k3 k4 j x hj
            exact⟨u,by simpa using hu,hr⟩⟩)
          have hlk:=aNp σ.heap hidr (new:=.box ls) hl σ.next nb
          refine⟨β',hh2,ex,⟨#[],rfl,rfl,fun j p hp=>by simp at hp⟩,rfl,rfl,fun i cs' hi=>?_,fun i x hp hi hf=>?_⟩
          ·have hin:=(hh.blk i _ hi).1
           show ∃ cells',List.lookup i (aBj σ.next nb++upd (bIy σ.heap rids) id _)=_∧_
           rw[hlk i,if_neg (by omega)]
           by_cases hie:i=id
           ·subst hie
            rw[hl]at hi
            obtain rfl:=Blk.box.inj (Option.some.inj hi)
            exact⟨_,if_pos rfl,hll,βo i hin⟩
           ·have hir:i∉rids:=fun hm=>by obtain⟨sz,rows,q3⟩:=hrr i hm;rw[hi]at q3;cases q3
            exact⟨cs',by rw[if_neg hie,if_neg hir];exact hi,rfl,βo i hin⟩
          ·have hin:=(hh.blk i _ hi).1
           show ∃ x',List.lookup i (aBj σ.next nb++upd (bIy σ.heap rids) id _)=_∧_
           have hn1:i≠id:=fun e=>hfree i (.inl e) hp
           have hn2:i∉rids:=fun e=>hfree i (.inr e) hp
           exact⟨x,by rw[hlk i,if_neg (by omega),if_neg hn1,if_neg hn2];exact hi,hf,βo i hin⟩
       ·exact (aA0 he2).elim
      ·exact (aA0 he).elim
     ·exact (aA0 he).elim
    ·exact (aA0 he).elim
   ·exact (aA0 he).elim
  ·exact (aA0 he).elim
 ·exact (aA0 he).elim
end Go.Proofs.YtigodjkegcibhaaGreatDoor.V
