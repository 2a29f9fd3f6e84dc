/- Functions of the given program and of its reference: what each returns, as an equation over data; by the interpreter. -/
import Derived.Test.YtajoeindkdhofaaGreatDoorS2
import Derived.Test.YtajoeindkdhofaaGreatDoorProg
import Derived.KernelRfl
import Derived.Lib.Builder
import Derived.Lib.AppendStr
import Derived.Lib.UnsafeStr
import Derived.Lib.Walk
import Derived.WalkKit
import Derived.RegionTactic
set_option linter.unusedVariables false
set_option linter.unusedSimpArgs false
set_option linter.unusedSectionVars false
set_option linter.deprecated false
namespace Go.Proofs.YtajoeindkdhofaaGreatDoor.V
theorem aH6 {os ss:List (List C)}:stB os ss=true↔aKh os=true∧bYs ss=true∧os.length+ss.length≤16777216:=by simp only[stB,dN,Bool.and_eq_true,decide_eq_true_eq,and_assoc]
theorem aYs (l:List En) (nm:List UInt8):aBo (l.map eEn) nm=(aGs l nm).map eEn:=by unfold aBo;rw[aQe]
theorem aRk (l:List En) (nm:List UInt8) (id:Int):aG3 (l.map eEn) nm id=(bIx l ⟨nm,id⟩).map eEn:=by unfold aG3;rw[aQe]
theorem en2 (l:List En):((l.map eEn).all fun row=>decide (row.length=2))=true:=by simp
theorem bBm (s:List UInt8):(aB1 s).length≤s.length:=by
 unfold aB1 bBn
 split
 ·split
  ·rw[List.length_drop];omega
  ·split
   ·simp
   ·rw[List.length_drop,List.length_take];omega
 ·simp
theorem bYt (s:List UInt8):(aPw s).length≤s.length:=by
 unfold aPw aUa
 split
 ·rw[List.length_drop];omega
 ·simp
theorem bKh (l:List En) (s:List UInt8) (B:Nat) (hs:s.length≤B) (hl:∀ x∈l,x.name.length≤B):(aNl l s).length≤l.length+1∧∀ x∈aNl l s,x.name.length≤B:=by
 have h1:=bBm s
 have h2:=bYt s
 have d1:=aKz l (aB1 s)
 unfold aNl
 by_cases c43:aBu s=43
 ·have c45:¬aBu s=45:=by omega
  have c62:¬aBu s=62:=by omega
  simp only[if_pos c43,if_neg c45,if_neg c62]
  refine⟨aRm _ _,fun x hx=>?_⟩
  rcases aRl hx with rfl | hx
  ·show (aB1 s).length≤B;omega
  ·exact hl x hx
 ·simp only[if_neg c43]
  by_cases c45:aBu s=45
  ·simp only[if_pos c45]
   exact⟨by omega,fun x hx=>hl x (aKy hx)⟩
  ·simp only[if_neg c45]
   refine⟨by have:=aRm (aGs l (aB1 s)) ⟨aPw s,if aBu s=62 then aBb l (aB1 s)else aSw s⟩;omega,fun x hx=>?_⟩
   rcases aRl hx with rfl | hx
   ·show (aPw s).length≤B;omega
   ·exact hl x (aKy hx)
theorem bBl (B:Nat):∀ (t:List (List UInt8)) (l l':List En),aFx t l=some l'→(∀ s∈t,s.length≤B)→(∀ x∈l,x.name.length≤B)→l'.length≤l.length+t.length∧∀ x∈l',x.name.length≤B
 |[],l,l',h,_,hl=>by
  obtain rfl:=Option.some.inj h
  exact⟨by simp,hl⟩
 |s::t,l,l',h,ht,hl=>by
  unfold aFx at h
  split at h
  ·obtain⟨a,b⟩:=bKh l s B (ht s List.mem_cons_self) hl
   obtain⟨c,d⟩:=bBl B t _ l' h (fun x hx=>ht x (List.mem_cons_of_mem _ hx)) b
   exact⟨by simp only[List.length_cons];omega,d⟩
  ·cases h
theorem bU6 (ss:List (List UInt8)) (n:Int):aWj ss n≤ss.length∧((aWj ss n:Nat):Int)=aL2 n 0 ss.length:=by
 unfold aWj aL2
 split
 ·exact⟨by simp,by simp⟩
 ·split
  ·exact⟨by simp,by simp⟩
  ·exact⟨by omega,by omega⟩
theorem bP7 {os ss:List (List C)} (h:stB os ss=true) (n:Int):(sdL (ens os) (aCp ss) n).length≤16777216∧∀ x∈sdL (ens os) (aCp ss) n,x.name.length≤16777216:=by
 obtain⟨h1,h2,h3⟩:=aH6.1 h
 obtain⟨l,rfl,e,_,ht⟩:=aI8 h1
 obtain⟨t,rfl,e2,_,ht2⟩:=aWh h2
 rw[e,e2]
 simp only[List.length_map]at h3
 unfold sdL
 cases hg:aFx (t.take (aWj t n)) l with
 |none=>exact⟨by simp,fun x hx=>by simp at hx⟩
 |some l' =>
  obtain⟨a,b⟩:=bBl 16777216 _ l l' hg (fun s hs=>ht2 s (List.mem_of_mem_take hs)) ht
  rw[List.length_take]at a
  exact⟨by show l'.length≤_;omega,b⟩
theorem cEi {os ss:List (List C)} (h:stB os ss=true) (n:Int):aKh (sdR os ss n)=true:=aLw.2 (bP7 h n)
theorem bXd (l:List En) (h:l.length≤16777216):(decide (l.length≤aMj)&&aAp [K.str,K.int .i64] (l.map eEn))=true:=by
 rw[decide_eq_true (Nat.le_trans h (by decide))]
 exact aKl l
theorem cA8 {s:List UInt8} (h:aH1 s=true):2≤s.length∧(aBu s=43∨aBu s=45∨aBu s=62):=by
 unfold aH1 aIc at h
 simp only[Bool.and_eq_true,Bool.or_eq_true,decide_eq_true_eq]at h
 exact⟨h.1.1,by omega⟩
theorem bM3 (ss:List (List UInt8)) (n:Nat) (hn:n≤ss.length) (hl:ss.length≤16777216) (hss:∀ x∈ss,x.length≤16777216):∀ (N i:Nat) (l:List En),i≤n→n<i+N→l.length+(n-i)≤16777216→(∀ x∈l,x.name.length≤16777216) →
  (aBr aSl aAc (sg [pSl 100,pSl 9,pI] [rSl 100,rB]) Tryz.f155 [.r,.r,.r,.l,.r,.b] N (aCz (ss.map aAt) n l.length (l.map eEn) i)).eval=some [.sl (((aFx ((ss.take n).drop i) l).getD []).map eEn),.bool (aFx ((ss.take n).drop i) l).isSome]:=by
 intro N
 induction N with
 |zero=>intro i l h1 h2;omega
 |succ N ih =>
  intro i l h1 h2 h3 h4
  rw[aAv _ _ _ _ _ _ _ (by kernel_rfl),bDl]
  by_cases hi:i<n
  ·have hi2:i<ss.length:=by omega
   have g:=aBc aAt ss [] i hi2
   have w2:IntKind.i64.wrap ((i:Int)+1)=((i+1:Nat):Int):=by rw[aAh]<;>omega
   have hlen:(ss.take n).length=n:=by rw[List.length_take];omega
   have gt:(ss.take n).getD i []=ss.getD i []:=by simp[List.getD_eq_getElem?_getD,List.getElem?_take,hi]
   rw[aBx (ss.take n) i [] (by omega),gt]
   have hb:=hss _ (aJt (d:=[]) hi2)
   generalize ss.getD i []=s at g hb ⊢
   have tk:List.take l.length (l.map eEn)=l.map eEn:=by rw[List.take_of_length_le];simp
   have m1:=at2 ss.length i hi2 1 1 rfl
   have eb:aKh (l.map eEn)=true:=aLw.2 ⟨by omega,h4⟩
   have big:=bXd l (by omega)
   have nl:=bBm s
   have go:∀ q:List En,aE6 l s=true→aNl l s=q→q.length+(n-(i+1))≤16777216→(∀ x∈q,x.name.length≤16777216)→(aBr aSl aAc (sg [pSl 100,pSl 9,pI] [rSl 100,rB]) Tryz.f155 [.r,.r,.r,.l,.r,.b] N (aCz (ss.map aAt) n q.length (q.map eEn) ((i+1:Nat):Int))).eval=some [.sl (((aFx (s::(ss.take n).drop (i+1)) l).getD []).map eEn),.bool (aFx (s::(ss.take n).drop (i+1)) l).isSome]:=fun q hf hq b1 b2=>by
    have:=ih (i+1) q (by omega) (by omega) b1 b2
    rw[this]
    have e:aFx (s::(ss.take n).drop (i+1)) l=aFx ((ss.take n).drop (i+1)) q:=by show (if aE6 l s then _ else none)=_;rw[if_pos hf,hq]
    rw[e]
   have bad:aE6 l s=false→(some [C.sl [],C.bool false]:Option (List C))=some [.sl (((aFx (s::(ss.take n).drop (i+1)) l).getD []).map eEn),.bool (aFx (s::(ss.take n).drop (i+1)) l).isSome]:=fun hf=>by
    have e:aFx (s::(ss.take n).drop (i+1)) l=none:=by show (if aE6 l s then _ else none)=_;rw[hf];rfl
    rw[e];rfl
   obtain⟨q1,q2⟩:=bKh l s 16777216 hb h4
   have d1:=aKz l (aB1 s)
   have eb2:aKh ((aGs l (aB1 s)).map eEn)=true:=aLw.2 ⟨by omega,fun x hx=>h4 x (aKy hx)⟩
   have r2:=fun q:List En=>en2 q
   simp only[List.length_map,Int.toNat_natCast,g,tk,aQe,List.getD_cons_zero,C.toStr,aYs,aRk,w2]at *
   refine aAg (decide_eq_true (by omega)) (aA5 m1 (aA5 rfl (aA5 (decide_eq_true (by omega)) ?_)))
   cases c1:aH1 s
   ·exact aAi rfl (bad (by unfold aE6;rw[c1];rfl))
   ·obtain⟨sl,sm⟩:=cA8 c1
    refine aAg rfl (aA5 (decide_eq_true (by omega)) ?_)
    cases c2:aEf (aB1 s)
    ·exact aAi rfl (bad (by unfold aE6;rw[c2];simp))
    ·have m0:(decide ((0:Int)≤0)&&decide ((0:Int)<s.length))=true:=by rw[decide_eq_true (by omega),decide_eq_true (by omega)];rfl
     refine aAg rfl (aA5 m1 (aA5 rfl (aA5 m0 ?_)))
     show (T.ask (aBu s != 43) _ _).eval=_
     rcases sm with c43 | c45 | c62
     ·have f1:(aBu s != 43)=false:=by rw[c43];rfl
      have f2:decide (aBu s=62)=false:=by rw[c43];rfl
      have f3:(aBu s != 45)=true:=by rw[c43];rfl
      have hf:aE6 l s=true:=by unfold aE6;rw[c1,c2,decide_eq_true c43];rfl
      have hd:aNl l s=bIx l ⟨aB1 s,aSw s⟩:=by unfold aNl;simp only[if_pos c43,if_neg (show ¬aBu s=45 by omega),if_neg (show ¬aBu s=62 by omega)]
      rw[hd]at q1 q2
      refine aAi f1 (aA5 m1 (aA5 rfl (aA5 m0 (aAi f2 (aA5 m1 (aA5 rfl (aA5 m0 (aAi f1 (aA5 m1 (aA5 rfl (aA5 m0 (aAg f3 (aA5 eb (aA5 ?_ ?_))))))))))))))
      ·rw[r2];rfl
      ·exact go _ hf hd (by omega) q2
     ·have f1:(aBu s != 43)=true:=by rw[c45];rfl
      have f2:decide (aBu s=62)=false:=by rw[c45];rfl
      have f3:(aBu s != 45)=false:=by rw[c45];rfl
      refine aAg f1 (aA5 big ?_)
      cases c3:aGz l (aB1 s)
      ·exact aAi rfl (bad (by unfold aE6;rw[c3,decide_eq_false (show ¬aBu s=43 by omega)];simp))
      ·have hf:aE6 l s=true:=by unfold aE6;rw[c1,c2,c3];simp
       have hd:aNl l s=aGs l (aB1 s):=by unfold aNl;simp only[if_pos c45,if_neg (show ¬aBu s=43 by omega)]
       rw[hd]at q1 q2
       refine aAg rfl (aA5 m1 (aA5 rfl (aA5 m0 (aAi f2 (aA5 m1 (aA5 rfl (aA5 m0 (aAg f1 (aA5 eb (aA5 ?_ (aA5 m1 (aA5 rfl (aA5 m0 (aAi f3 ?_))))))))))))))
       ·rw[r2];rfl
       ·exact go _ hf hd (by omega) q2
     ·have f1:(aBu s != 43)=true:=by rw[c62];rfl
      have f2:decide (aBu s=62)=true:=by rw[c62];rfl
      have f3:(aBu s != 45)=true:=by rw[c62];rfl
      refine aAg f1 (aA5 big ?_)
      cases c3:aGz l (aB1 s)
      ·exact aAi rfl (bad (by unfold aE6;rw[c3,decide_eq_false (show ¬aBu s=43 by omega)];simp))
      ·have hf:aE6 l s=true:=by unfold aE6;rw[c1,c2,c3];simp
       have hd:aNl l s=bIx (aGs l (aB1 s)) ⟨aPw s,aBb l (aB1 s)⟩:=by unfold aNl;simp only[if_pos c62,if_neg (show ¬aBu s=45 by omega),if_neg (show ¬aBu s=43 by omega)]
       rw[hd]at q1 q2
       have tk2:List.take (aGs l (aB1 s)).length ((aGs l (aB1 s)).map eEn)=(aGs l (aB1 s)).map eEn:=by rw[List.take_of_length_le];simp
       refine aAg rfl (aA5 m1 (aA5 rfl (aA5 m0 (aAg f2 (aA5 big (aA5 m1 (aA5 rfl (aA5 m0 (aAg f1 (aA5 eb (aA5 ?_ (aA5 m1 (aA5 rfl (aA5 m0 (aAg f3 (aA5 ?_ (aA5 ?_ ?_)))))))))))))))))
       ·rw[r2];rfl
       ·rw[tk2];exact eb2
       ·rw[tk2,aRk,r2];rfl
       ·rw[tk2,aRk,List.length_map]
        exact go _ hf hd (by omega) q2
  ·have e:i=n:=by omega
   subst e
   have:(ss.take i).drop i=[]:=by rw[List.drop_eq_nil_iff,List.length_take];omega
   rw[this]
   refine aAi (decide_eq_false (by omega)) (aA5 ?_ rfl)
   rw[bG3,decide_eq_true (List.length_map _).symm];rfl
theorem bYw:aAa Tryz.prog aSl:=aA8 (by simp[bAq,aHx,aF4,aGf,aTd,aQ3,bM4])
theorem aUb:aAx Tryz.prog 155 (sg [pSl 100,pSl 9,pI] [rSl 100,rB]) aR0:=aA6 bYw aAb Tryz.func155 (by kernel_rfl) fun cs outs hk h=>by
 unfold aR0 at h
 split at h
 ·simp only[Option.some.injEq,Prod.mk.injEq]at h
  obtain⟨h1,rfl⟩:=h
  rename_i os ss n
  obtain⟨a1,a2,a3⟩:=aH6.1 h1
  obtain⟨l,rfl,e,hl,ht⟩:=aI8 a1
  obtain⟨t,rfl,e2,hl2,ht2⟩:=aWh a2
  unfold sdR cB2 sdL
  obtain⟨b1,b2⟩:=bU6 t n
  simp only[List.length_map]at a3
  have lp:=bM3 t (aWj t n) b1 hl2 ht2 9223372036854775808 0 l (by omega) (by omega) (by omega) ht
  rw[e,e2,aAd,bM2]
  rw[List.length_map,Nat.zero_add,List.length_map,←b2]
  refine aA5 ?_ lp
  have ro:aBj l.length 24=true:=by simp only[aBj,decide_eq_true_eq];omega
  rw[ro,en2];rfl
 ·cases h
theorem aCm {ns es os ss:List (List C)}:aFj ns es os ss=true↔bBy ns=true∧aKh es=true∧stB os ss=true:=by simp only[aFj,Bool.and_eq_true,and_assoc]
def bVi (l:List Nd) (i:Nat):Option Int:=if i=0 then none else some (l.getD (i-1) ⟨0,[],0⟩).id
theorem bVf {p:Nat→Bool} (n k:Nat) (h:k<n):(List.range' k (n-k)).all p=(p k&&(List.range' (k+1) (n-(k+1))).all p):=by
 obtain⟨m,hm⟩:∃ m,n-k=m+1:=⟨n-k-1,by omega⟩
 rw[hm,List.range'_succ,List.all_cons,show n-(k+1)=m by omega]
theorem bVe {p:Nat→Bool} (n k:Nat) (h:k<n):(List.range' k (n-k)).any p=(p k||(List.range' (k+1) (n-(k+1))).any p):=by
 obtain⟨m,hm⟩:∃ m,n-k=m+1:=⟨n-k-1,by omega⟩
 rw[hm,List.range'_succ,List.any_cons,show n-(k+1)=m by omega]
theorem bE8 (ns es os ss:List (List C)) (r x:Int) (hd:aFj ns es os ss=true):∀ (N k:Nat),k≤ss.length+1→ss.length+1<k+N →
  (aBr aLb aAc (sg [aB0] [rB]) Tryz.f139 [.r,.r,.r,.l,.r,.b] N (aL7 ns es os ss r x k)).eval=some [.bool ((List.range' k (ss.length+1-k)).all (aWi (nds ns) (ens es) (ens os) (aCp ss)))]:=by
 obtain⟨d1,d2,d3⟩:=aCm.1 hd
 have hl:=(aJi.1 (aH6.1 d3).2.1).2.1
 intro N
 induction N with
 |zero=>intro k h1 h2;omega
 |succ N ih =>
  intro k h1 h2
  rw[aAv _ _ _ _ _ _ _ (by kernel_rfl),aXe]
  by_cases hk:k<ss.length+1
  ·have w2:IntKind.i64.wrap ((k:Int)+1)=((k+1:Nat):Int):=by rw[aAh]<;>omega
   have e:=ih (k+1) (by omega) (by omega)
   have sk:aCp ss=aCp ss:=rfl
   have sle:(aCp ss).length=ss.length:=by unfold aCp;rw[List.length_map]
   have so:=cEi d3 k
   rw[bVf _ _ hk,w2,List.take_length]
   have st:aWi (nds ns) (ens es) (ens os) (aCp ss) k=(cB2 (ens os) (aCp ss) k&&aKx (nds ns) (sdL (ens os) (aCp ss) k)&&(!decide (k=(aCp ss).length)||decide (sdL (ens os) (aCp ss) k=ens es))):=rfl
   have er:ens (sdR os ss k)=sdL (ens os) (aCp ss) k:=by unfold sdR;rw[aQe]
   rw[st,er,sle]
   refine aAg (decide_eq_true (by omega)) (aA5 d3 (aA5 ?_ ?_))
   ·unfold sdR;rw[en2];rfl
   ·cases c1:cB2 (ens os) (aCp ss) k
    ·exact aAi rfl rfl
    ·refine aAg rfl (aA5 (by rw[d1,so];rfl) ?_)
     cases c2:aKx (nds ns) (sdL (ens os) (aCp ss) k)
     ·exact aAi rfl rfl
     ·refine aAg rfl ?_
      by_cases c3:k=ss.length
      ·rw[decide_eq_true c3]
       refine aAg (decide_eq_true (by omega)) (aA5 (by rw[so,d2];rfl) ?_)
       by_cases c4:sdL (ens os) (aCp ss) k=ens es
       ·rw[decide_eq_true c4]
        exact aAg rfl e
       ·rw[decide_eq_false c4]
        exact aAi rfl rfl
      ·rw[decide_eq_false c3]
       refine aAi (decide_eq_false (by omega)) ?_
       simpa using e
  ·have e:k=ss.length+1:=by omega
   subst e
   rw[Nat.sub_self]
   exact aAi (decide_eq_false (by omega)) rfl
theorem bIa (l:List Nd) (es os ss:List (List C)) (r x:Int) (hx:1≤x∧x≤1000000000) (hd:aFj (l.map eNd) es os ss=true):∀ (N i:Nat),i≤l.length→l.length<i+N →
  (aBr aLb aAc (sg [aB0] [rB]) Tryz.f139 [.r,.r,.l,.r,.b] N (aNs (l.map eNd) es os ss r x i)).eval=some [.bool (aXv x (l.drop i) (bVi l i)&&(List.range (ss.length+1)).all (aWi l (ens es) (ens os) (aCp ss)))]:=by
 obtain⟨d1,d2,d3⟩:=aCm.1 hd
 have hl:=(aO5.1 d1).1
 have hsl:=(aJi.1 (aH6.1 d3).2.1).2.1
 intro N
 induction N with
 |zero=>intro i h1 h2;omega
 |succ N ih =>
  intro i h1 h2
  rw[aAv _ _ _ _ _ _ _ (by kernel_rfl),bAk]
  by_cases hi:i<l.length
  ·have g:=aBc eNd l ⟨0,[],0⟩ i hi
   have w2:IntKind.i64.wrap ((i:Int)+1)=((i+1:Nat):Int):=by rw[aAh]<;>omega
   have w3:IntKind.i64.wrap (x-1)=x-1:=by rw[aAh]<;>omega
   have e:=ih (i+1) (by omega) (by omega)
   have pv:bVi l (i+1)=some (l.getD i ⟨0,[],0⟩).id:=by unfold bVi;rw[if_neg (by omega),Nat.add_sub_cancel]
   rw[pv]at e
   rw[List.length_map,Int.toNat_natCast,g,w2,w3,aBx l i ⟨0,[],0⟩ hi]
   have sp:∀ y q,aXv x (y::l.drop (i+1)) q=(inB y.id 1 (x-1)&&(match q with | none=>true | some q=>decide (q<y.id))&&inB y.sure 0 y.text.length&&aXv x (l.drop (i+1)) (some y.id)):=fun _ _=>rfl
   rw[sp]
   generalize l.getD i ⟨0,[],0⟩=y at e ⊢
   refine aAg (decide_eq_true (by omega)) (aA5 (at2 _ _ hi _ _ rfl) (aA5 rfl ?_))
   show (T.ask (inB y.id 1 (x-1)) _ _).eval=_
   cases c1:inB y.id 1 (x-1)
   ·exact aAi rfl rfl
   ·refine aAg rfl ?_
    by_cases c3:i=0
    ·subst c3
     refine aAi rfl ?_
     show (T.ask (inB y.sure 0 (y.text.length:Int)) _ _).eval=some [C.bool (true&&true&&inB y.sure 0 (y.text.length:Int)&&_&&_)]
     cases c4:inB y.sure 0 (y.text.length:Int)
     ·exact aAi rfl rfl
     ·refine aAg rfl ?_
      simpa using e
    ·have hj:i-1<l.length:=by omega
     have w4:IntKind.i64.wrap ((i:Int)-1)=((i-1:Nat):Int):=by rw[aAh]<;>omega
     have g2:=aBc eNd l ⟨0,[],0⟩ (i-1) hj
     rw[w4,Int.toNat_natCast,g2]
     have pv2:bVi l i=some (l.getD (i-1) ⟨0,[],0⟩).id:=by unfold bVi;rw[if_neg c3]
     rw[pv2]
     generalize l.getD (i-1) ⟨0,[],0⟩=z
     refine aAg (decide_eq_true (by omega)) (aA5 (at2 _ _ hj _ _ rfl) (aA5 rfl ?_))
     show (T.ask (decide (y.id≤z.id)) _ _).eval=some [C.bool (true&&decide (z.id<y.id)&&inB y.sure 0 (y.text.length:Int)&&_&&_)]
     by_cases c5:y.id≤z.id
     ·rw[decide_eq_false (show ¬z.id<y.id by omega)]
      exact aAg (decide_eq_true c5) rfl
     ·rw[decide_eq_true (show z.id<y.id by omega)]
      refine aAi (decide_eq_false c5) ?_
      show (T.ask (inB y.sure 0 (y.text.length:Int)) _ _).eval=_
      cases c4:inB y.sure 0 (y.text.length:Int)
      ·exact aAi rfl rfl
      ·refine aAg rfl ?_
       simpa using e
  ·have e:i=l.length:=by omega
   subst e
   rw[List.drop_length,List.length_map]
   refine aAi (decide_eq_false (by omega)) ?_
   have:=bE8 (l.map eNd) es os ss r x hd 9223372036854775808 0 (by omega) (by omega)
   rw[aGh]at this
   rw[List.range_eq_range']
   exact this
theorem bUq:aAa Tryz.prog aLb:=aA8 (by simp[aDy,aWr,bAi,bM6,aUb])
theorem aF7:aAx Tryz.prog 139 (sg [aB0] [rB]) aG8:=aA6 bUq aAb Tryz.func139 (by kernel_rfl) fun cs outs hk h=>by
 unfold aG8 at h
 split at h
 ·simp only[Option.some.injEq,Prod.mk.injEq]at h
  obtain⟨hd,rfl⟩:=h
  rename_i ns es os ss r x
  obtain⟨d1,d2,d3⟩:=aCm.1 hd
  obtain⟨l,rfl,e,hl,ht⟩:=aLo d1
  have sle:(aCp ss).length=ss.length:=by unfold aCp;rw[List.length_map]
  unfold aFg bOi
  rw[aAd,bI9,aGh,List.length_map,sle]
  by_cases c1:(64:Int)<l.length
  ·rw[decide_eq_false (show ¬l.length≤64 by omega)]
   exact aAg (decide_eq_true c1) rfl
  ·rw[decide_eq_true (show l.length≤64 by omega)]
   refine aAi (decide_eq_false c1) ?_
   cases c2:inB r 0 1000000000
   ·exact aAi rfl rfl
   ·refine aAg rfl ?_
    cases c3:inB x 1 1000000000
    ·exact aAi rfl rfl
    ·refine aAg rfl (aA5 d1 ?_)
     by_cases c4:r<(aEv l:Int)
     ·rw[decide_eq_false (show ¬(aEv l:Int)≤r by omega)]
      exact aAg (decide_eq_true c4) rfl
     ·rw[decide_eq_true (show (aEv l:Int)≤r by omega)]
      refine aAi (decide_eq_false c4) ?_
      exact bIa l es os ss r x ((aBi _ _ _).1 c3) hd 9223372036854775808 0 (by omega) (by omega)
 ·cases h
theorem cH5 (o:List Nd) (x:Nd):(o.map eNd).append [[C.int .i64 x.id,C.str x.text,C.int .i64 x.sure]]=(o++[x]).map eNd:=by simp
theorem cEo (o:List Nd) (h:o.length≤100000000):(decide (o.length=(o.map eNd).length)&&aBj ((o.map eNd).length+1) 32&&(decide (((Nat.add 1 0).succ.add 0).succ=3)&&true))=true:=by
 have r:aBj ((o.map eNd).length+1) 32=true:=by rw[List.length_map];simp only[aBj,decide_eq_true_eq];omega
 rw[r,decide_eq_true (List.length_map _).symm];rfl
def cD6 (id:Int) (e:En):Bool:=decide (e.id=id)
theorem bIh (l:List Nd) (es os ss:List (List C)) (r x:Int) (hl:l.length≤16777216) (m N i:Nat) (o:List Nd) (j:Int) (hi:i<l.length) (ho:o.length≤i) (hN:0<N) :
  (aBr aCo aAc (sg [aE0] [aDz]) Tryz.f141 [.r,.r,.l,.r,.b,.lp m,.r,.l,.b,.r,.l,.r,.b] N (aNt (l.map eNd) es os ss r x o.length (o.map eNd) i j)).eval=(aBr aCo aAc (sg [aE0] [aDz]) Tryz.f141 [.r,.r,.l,.r,.b] m (aFe (l.map eNd) es os ss r x (o++[l.getD i ⟨0,[],0⟩]).length ((o++[l.getD i ⟨0,[],0⟩]).map eNd) ((i+1:Nat):Int))).eval:=by
 obtain⟨N,rfl⟩:∃ q,N=q+1:=⟨N-1,by omega⟩
 rw[aAv _ _ _ _ _ _ _ (by kernel_rfl),bAo]
 have g:=aBc eNd l ⟨0,[],0⟩ i hi
 have w2:IntKind.i64.wrap ((i:Int)+1)=((i+1:Nat):Int):=by rw[aAh]<;>omega
 rw[List.length_map,Int.toNat_natCast,g,w2]
 generalize l.getD i ⟨0,[],0⟩=y
 have ap:=cH5 o y
 have fin:(T.must (decide ((0:Int)≤i)&&decide ((i:Int)<l.length)&&decide ((eNd y).length=3)) (T.must true (T.must (decide (o.length=(o.map eNd).length)&&aBj ((o.map eNd).length+1) 32&&(decide (((Nat.add 1 0).succ.add 0).succ=3)&&true)) (aBr aCo aAc (sg [aE0] [aDz]) Tryz.f141 [.r,.r,.l,.r,.b] m (aFe (l.map eNd) es os ss r x ((o.map eNd).length+1) ((o.map eNd).append [[C.int .i64 y.id,C.str y.text,C.int .i64 y.sure]]) ((i+1:Nat):Int))))):T (List C)).eval=(aBr aCo aAc (sg [aE0] [aDz]) Tryz.f141 [.r,.r,.l,.r,.b] m (aFe (l.map eNd) es os ss r x (o++[y]).length ((o++[y]).map eNd) ((i+1:Nat):Int))).eval:=by
  refine aA5 (at2 _ _ hi _ _ rfl) (aA5 rfl (aA5 (cEo o (by omega)) ?_))
  rw[ap,List.length_map,List.length_append];rfl
 by_cases c:j≤(ss.length:Int)
 ·exact aAg (decide_eq_true c) fin
 ·exact aAi (decide_eq_false c) fin
theorem bIf (ns es os ss:List (List C)) (r x:Int) (n:Nat) (o:List (List C)) (i:Int) (j:Nat) (hj:j≤16777216) (q:Nat) (hq:q≤16777216) (l:List (List C)) (m m2:Nat):∀ (N y:Nat),y≤q→q<y+N →
  (aBr aCo aAc (sg [aE0] [aDz]) Tryz.f141 [.r,.r,.l,.r,.b,.lp m,.r,.l,.b,.r,.l,.r,.b,.lp m2,.r,.l,.b,.r,.r,.b] N (aSh ns es os ss r x n o i j q l y)).eval=(aBr aCo aAc (sg [aE0] [aDz]) Tryz.f141 [.r,.r,.l,.r,.b,.lp m,.r,.l,.b,.r,.l,.r,.b] m2 (aNt ns es os ss r x n o i ((j+1:Nat):Int))).eval:=by
 intro N
 induction N with
 |zero=>intro y h1 h2;omega
 |succ N ih =>
  intro y h1 h2
  rw[aAv _ _ _ _ _ _ _ (by kernel_rfl),bAm]
  have w2:IntKind.i64.wrap ((y:Int)+1)=((y+1:Nat):Int):=by rw[aAh]<;>omega
  have w3:IntKind.i64.wrap ((j:Int)+1)=((j+1:Nat):Int):=by rw[aAh]<;>omega
  rw[w2,w3]
  by_cases hy:y<q
  ·exact aAg (decide_eq_true (by omega)) (ih (y+1) (by omega) (by omega))
  ·exact aAi (decide_eq_false (by omega)) rfl
theorem bIg (nl:List Nd) (es os ss:List (List C)) (r x:Int) (n:Nat) (o:List (List C)) (i:Nat) (hi:i<nl.length) (j:Nat) (hj:j≤16777216) (l:List En) (hq:l.length≤16777216) (m m2:Nat):∀ (N y:Nat),y≤l.length→l.length<y+N →
  (aBr aCo aAc (sg [aE0] [aDz]) Tryz.f141 [.r,.r,.l,.r,.b,.lp m,.r,.l,.b,.r,.l,.r,.b,.lp m2,.r,.l,.b,.r,.r,.b] N (aL8 (nl.map eNd) es os ss r x n o i j l.length (l.map eEn) y)).eval =
   if (l.drop y).any (cD6 (nl.getD i ⟨0,[],0⟩).id)then (aBr aCo aAc (sg [aE0] [aDz]) Tryz.f141 [.r,.r,.l,.r,.b,.lp m,.r,.l,.b,.r,.l,.r,.b] m2 (aNt (nl.map eNd) es os ss r x n o i ((j+1:Nat):Int))).eval
   else (aBr aCo aAc (sg [aE0] [aDz]) Tryz.f141 [.r,.r,.l,.r,.b,.lp m,.r,.l,.b,.r,.l,.r,.b] m2 (aNu (nl.map eNd) es os ss r x n o i ((j+1:Nat):Int))).eval:=by
 intro N
 induction N with
 |zero=>intro y h1 h2;omega
 |succ N ih =>
  intro y h1 h2
  rw[aAv _ _ _ _ _ _ _ (by kernel_rfl),bAn]
  have w2:IntKind.i64.wrap ((y:Int)+1)=((y+1:Nat):Int):=by rw[aAh]<;>omega
  have w3:IntKind.i64.wrap ((j:Int)+1)=((j+1:Nat):Int):=by rw[aAh]<;>omega
  by_cases hy:y<l.length
  ·have g:=aBc eEn l ⟨[],0⟩ y hy
   have g2:=aBc eNd nl ⟨0,[],0⟩ i hi
   have e:=ih (y+1) (by omega) (by omega)
   have ef:=bIf (nl.map eNd) es os ss r x n o i j hj l.length hq (l.map eEn) m m2 N (y+1) (by omega) (by omega)
   rw[w2,w3,Int.toNat_natCast,Int.toNat_natCast,Nat.zero_add,g,g2,List.length_map,List.length_map,aBx l y ⟨[],0⟩ hy,List.any_cons]
   generalize l.getD y ⟨[],0⟩=z
   generalize nl.getD i ⟨0,[],0⟩=v at e ⊢
   refine aAg (decide_eq_true (by omega)) (aA5 (by rw[decide_eq_true (by omega),decide_eq_true (by omega)];rfl) (aA5 (by rw[decide_eq_true hy];rfl) (aA5 (at2 _ _ hi _ _ rfl) (aA5 rfl ?_))))
   show (T.ask (decide (z.id=v.id)) _ _).eval=_
   have ii:cD6 v.id z=decide (z.id=v.id):=rfl
   rw[ii]
   by_cases c:z.id=v.id
   ·rw[decide_eq_true c,Bool.true_or,if_pos rfl]
    exact aAg rfl ef
   ·rw[decide_eq_false c,Bool.false_or]
    exact aAi rfl e
  ·have e:y=l.length:=by omega
   subst e
   rw[List.drop_length,w3]
   exact aAi (decide_eq_false (by omega)) rfl
theorem bIi (l:List Nd) (es os ss:List (List C)) (r x:Int) (hd:aFj (l.map eNd) es os ss=true) (m i:Nat) (o:List Nd) (hi:i<l.length) (ho:o.length≤i):∀ (N j:Nat),j≤ss.length+1→ss.length+2<j+N →
  (aBr aCo aAc (sg [aE0] [aDz]) Tryz.f141 [.r,.r,.l,.r,.b,.lp m,.r,.l,.b,.r,.l,.r,.b] N (aNu (l.map eNd) es os ss r x o.length (o.map eNd) i j)).eval =
   if (List.range' j (ss.length+1-j)).any (fun k=>(sdL (ens os) (aCp ss) k).any (cD6 (l.getD i ⟨0,[],0⟩).id))then (aBr aCo aAc (sg [aE0] [aDz]) Tryz.f141 [.r,.r,.l,.r,.b] m (aFe (l.map eNd) es os ss r x (o++[l.getD i ⟨0,[],0⟩]).length ((o++[l.getD i ⟨0,[],0⟩]).map eNd) ((i+1:Nat):Int))).eval
   else (aBr aCo aAc (sg [aE0] [aDz]) Tryz.f141 [.r,.r,.l,.r,.b] m (aFe (l.map eNd) es os ss r x o.length (o.map eNd) ((i+1:Nat):Int))).eval:=by
 obtain⟨d1,d2,d3⟩:=aCm.1 hd
 have hl:=(aO5.1 d1).1
 have hsl:=(aJi.1 (aH6.1 d3).2.1).2.1
 intro N
 induction N with
 |zero=>intro j h1 h2;omega
 |succ N ih =>
  intro j h1 h2
  rw[aAv _ _ _ _ _ _ _ (by kernel_rfl),bAp]
  have w2:IntKind.i64.wrap ((i:Int)+1)=((i+1:Nat):Int):=by rw[aAh]<;>omega
  by_cases hj:j<ss.length+1
  ·rw[bVe _ _ hj,List.take_length,List.take_length]
   have f:=bP7 d3 j
   have le:=bIg l es os ss r x o.length (o.map eNd) i hi j (by omega) (sdL (ens os) (aCp ss) j) f.1 m N 9223372036854775808 0 (by omega) (by omega)
   have ld:=bIh l es os ss r x hl m N i o ((j+1:Nat):Int) hi ho (by omega)
   have lc:=ih (j+1) (by omega) (by omega)
   rw[List.drop_zero,ld,lc]at le
   have er:sdR os ss j=(sdL (ens os) (aCp ss) j).map eEn:=rfl
   rw[er,List.length_map]
   have fin:(aBr aCo aAc (sg [aE0] [aDz]) Tryz.f141 [.r,.r,.l,.r,.b,.lp m,.r,.l,.b,.r,.l,.r,.b,.lp N,.r,.l,.b,.r,.r,.b] 9223372036854775808 (aL8 (l.map eNd) es os ss r x o.length (o.map eNd) i j (sdL (ens os) (aCp ss) j).length ((sdL (ens os) (aCp ss) j).map eEn) ((0:Nat):Int))).eval=if ((sdL (ens os) (aCp ss) j).any (cD6 (l.getD i ⟨0,[],0⟩).id)||(List.range' (j+1) (ss.length+1-(j+1))).any (fun k=>(sdL (ens os) (aCp ss) k).any (cD6 (l.getD i ⟨0,[],0⟩).id)))then (aBr aCo aAc (sg [aE0] [aDz]) Tryz.f141 [.r,.r,.l,.r,.b] m (aFe (l.map eNd) es os ss r x (o++[l.getD i ⟨0,[],0⟩]).length ((o++[l.getD i ⟨0,[],0⟩]).map eNd) ((i+1:Nat):Int))).eval
     else (aBr aCo aAc (sg [aE0] [aDz]) Tryz.f141 [.r,.r,.l,.r,.b] m (aFe (l.map eNd) es os ss r x o.length (o.map eNd) ((i+1:Nat):Int))).eval:=by
    rw[le]
    cases (sdL (ens os) (aCp ss) j).any (cD6 (l.getD i ⟨0,[],0⟩).id)<;>rfl
   refine aAg (decide_eq_true (by omega)) (aA5 d3 (aA5 (by rw[en2];rfl) ?_))
   cases cB2 (ens os) (aCp ss) j
   ·exact aAi rfl fin
   ·exact aAg rfl fin
  ·have e:j=ss.length+1:=by omega
   subst e
   rw[Nat.sub_self,w2]
   exact aAi (decide_eq_false (by omega)) rfl
theorem bG2 {os:List (List C)} (h:aKh os=true):(os.all fun r=>r.all C.flat)=true:=by obtain⟨l,rfl,_⟩:=aI8 h;exact bG3 l
theorem bX0 {ss:List (List C)} (h:bYs ss=true):(ss.all fun r=>r.all C.flat)=true:=by obtain⟨l,rfl,_⟩:=aWh h;exact aHw l
theorem bJe {os:List (List C)} (h:aKh os=true):(os.all fun row=>decide (row.length=2))=true:=by obtain⟨l,rfl,_⟩:=aI8 h;exact en2 l
theorem cBb {ss:List (List C)} (h:bYs ss=true):(ss.all fun row=>decide (row.length=1))=true:=by obtain⟨l,rfl,_⟩:=aWh h;simp
theorem cF6 {ns:List (List C)} (h:bBy ns=true):(ns.all fun row=>decide (row.length=3))=true:=by obtain⟨l,rfl,_⟩:=aLo h;simp
theorem bTv (os:List En) (ss:List (List UInt8)) (id:Int):bOw os ss id=(List.range' 0 (ss.length+1-0)).any fun k=>(sdL os ss k).any (cD6 id):=by
 unfold bOw
 rw[List.range_eq_range']
 rfl
theorem bMp (l:List Nd) (es os ss:List (List C)) (r x:Int) (hd:aFj (l.map eNd) es os ss=true):∀ (N i:Nat) (o:List Nd),i≤l.length→l.length<i+N→o.length≤i →
  (aBr aCo aAc (sg [aE0] [aDz]) Tryz.f141 [.r,.r,.l,.r,.b] N (aFe (l.map eNd) es os ss r x o.length (o.map eNd) i)).eval=some [.sl ((o++(l.drop i).filter fun x=>bOw (ens os) (aCp ss) x.id).map eNd),.sl es,.sl os,.sl ss,.int .i64 r,.int .i64 x,.sl es,.sl os,.sl ss]:=by
 obtain⟨d1,d2,d3⟩:=aCm.1 hd
 obtain⟨s1,s2,s3⟩:=aH6.1 d3
 have hl:=(aO5.1 d1).1
 have hsl:=(aJi.1 s2).2.1
 have sle:(aCp ss).length=ss.length:=by unfold aCp;rw[List.length_map]
 intro N
 induction N with
 |zero=>intro i o h1 h2;omega
 |succ N ih =>
  intro i o h1 h2 h3
  rw[aAv _ _ _ _ _ _ _ (by kernel_rfl),bEc]
  by_cases hi:i<l.length
  ·have lc:=bIi l es os ss r x hd N i o hi h3 9223372036854775808 0 (by omega) (by omega)
   have e1:=ih (i+1) o (by omega) (by omega) (by omega)
   have e2:=ih (i+1) (o++[l.getD i ⟨0,[],0⟩]) (by omega) (by omega) (by simp;omega)
   rw[e1,e2]at lc
   rw[List.length_map,aBx l i ⟨0,[],0⟩ hi,List.filter_cons,bTv,sle]
   refine aAg (decide_eq_true (by omega)) (lc.trans ?_)
   split
   ·rw[List.append_assoc];rfl
   ·rfl
  ·have e:i=l.length:=by omega
   subst e
   rw[List.drop_length,List.length_map,List.take_length,List.take_length,List.take_length]
   refine aAi (decide_eq_false (by omega)) (aA5 ?_ (by simp;rfl))
   rw[aVr,bG2 d2,bG2 s1,bX0 s2,decide_eq_true (List.length_map _).symm,decide_eq_true (Nat.le_refl _),decide_eq_true (Nat.le_refl _),decide_eq_true (Nat.le_refl _)];rfl
theorem bZ2:aAa Tryz.prog aCo:=aA8 (by simp[aUb])
theorem aJm:aAx Tryz.prog 141 (sg [aE0] [aDz]) aL1:=aA6 bZ2 aAb Tryz.func141 (by kernel_rfl) fun cs outs hk h=>by
 unfold aL1 at h
 split at h
 ·simp only[Option.some.injEq,Prod.mk.injEq]at h
  obtain⟨hd,rfl⟩:=h
  rename_i ns es os ss r x
  obtain⟨d1,d2,d3⟩:=aCm.1 hd
  obtain⟨s1,s2,s3⟩:=aH6.1 d3
  obtain⟨l,rfl,e,hl,ht⟩:=aLo d1
  unfold aCx
  rw[aAd,bMo,aGh]
  refine aA5 (by rw[bJe d2,bJe s1,cBb s2];rfl) ?_
  exact bMp l es os ss r x hd 9223372036854775808 0 [] (by omega) (by omega) (by simp)
 ·cases h
noncomputable section
structure Dk where
 ns:List (List C)
 es:List (List C)
 os:List (List C)
 ss:List (List C)
 r:Int
 x:Int
def cE1 (d:Dk):List C:=[.sl d.ns,.sl d.es,.sl d.os,.sl d.ss,.int .i64 d.r,.int .i64 d.x]
def aJw:aCf:=fun cs=>match cs with
 |[.sl ns,.sl es,.sl os,.sl ss,.int .i64 r,.int .i64 x]=>some (aFj ns es os ss,[.sl ns,.sl es,.sl os,.sl ss,.int .i64 r,.int .i64 x])
 |_=>none
def bY3:Env:=mkE [] []
def aF2 (os ss:List (List C)) (nm:List UInt8):Bool:=decide (os.length+ss.length<dN)&&decide (nm.length≤1000000)
def bS6 (ns es os ss:List (List C)) (r x:Int) (nm:List UInt8):Bool:=aFg ns es os ss r x&&aGz (ens es) nm
def ss1 (ss:List (List C)) (s:List UInt8):List (List C):=ss++[aAt s]
def rmN (ns es os ss:List (List C)) (r x:Int) (nm:List UInt8):List (List C):=if bS6 ns es os ss r x nm then aCx ns os (ss1 ss ([45]++nm))else ns
def rmE (ns es os ss:List (List C)) (r x:Int) (nm:List UInt8):List (List C):=if bS6 ns es os ss r x nm then aBo es nm else es
def rmS (ns es os ss:List (List C)) (r x:Int) (nm:List UInt8):List (List C):=if bS6 ns es os ss r x nm then ss1 ss ([45]++nm)else ss
def rmC (ns es os ss:List (List C)) (r x:Int) (nm:List UInt8):Int:=if bS6 ns es os ss r x nm then 0 else 3
def rmD (d:Dk) (nm:List UInt8):Dk:=⟨rmN d.ns d.es d.os d.ss d.r d.x nm,rmE d.ns d.es d.os d.ss d.r d.x nm,d.os,rmS d.ns d.es d.os d.ss d.r d.x nm,d.r,d.x⟩
def bPe:aCf:=fun cs=>match cs with
 |[.sl ns,.sl es,.sl os,.sl ss,.int .i64 r,.int .i64 x,.str nm]=>some (aFj ns es os ss&&aF2 os ss nm,cE1 (rmD ⟨ns,es,os,ss,r,x⟩ nm)++[.int .i64 (rmC ns es os ss r x nm)])
 |_=>none
def bL0:Env:=mkE [] [(94,(sg [pSl 100,pS] [rB]),aGo),(140,(sg [pSl 100,pS] [rSl 100]),aS5),(139,(sg [aB0] [rB]),aG8),(141,(sg [aE0] [aDz]),aL1),(138,(sg [aB0] [aBz]),aJw)]
def snN (ns es os ss:List (List C)) (r x:Int):List (List C):=if aFg ns es os ss r x then aCx ns es []else ns
def snO (ns es os ss:List (List C)) (r x:Int):List (List C):=if aFg ns es os ss r x then es else os
def snS (ns es os ss:List (List C)) (r x:Int):List (List C):=if aFg ns es os ss r x then[]else ss
def snD (d:Dk):Dk:=⟨snN d.ns d.es d.os d.ss d.r d.x,d.es,snO d.ns d.es d.os d.ss d.r d.x,snS d.ns d.es d.os d.ss d.r d.x,d.r,d.x⟩
def bP5:aCf:=fun cs=>match cs with
 |[.sl ns,.sl es,.sl os,.sl ss,.int .i64 r,.int .i64 x]=>some (aFj ns es os ss,cE1 (snD ⟨ns,es,os,ss,r,x⟩))
 |_=>none
def aUs:Env:=mkE [] [(139,(sg [aB0] [rB]),aG8),(141,(sg [aE0] [aDz]),aL1),(138,(sg [aB0] [aBz]),aJw)]
def crC (ns es os ss:List (List C)) (r x:Int) (nm:List UInt8):Int :=
 if aFg ns es os ss r x then (if aEf nm then (if aGz (ens es) nm then 2 else if 16≤es.length∨64≤ns.length∨1000000000≤x then 4 else 0)else 1)else 3
def aS8 (nm:List UInt8) (x:Int):List UInt8:=[43]++nm++[58]++aGt x
def crN (ns es os ss:List (List C)) (r x:Int) (nm:List UInt8):List (List C):=if crC ns es os ss r x nm=0 then aCx (ns++[eNd ⟨x,[],0⟩]) os (ss1 ss (aS8 nm x))else ns
def crE (ns es os ss:List (List C)) (r x:Int) (nm:List UInt8):List (List C):=if crC ns es os ss r x nm=0 then aG3 es nm x else es
def crS (ns es os ss:List (List C)) (r x:Int) (nm:List UInt8):List (List C):=if crC ns es os ss r x nm=0 then ss1 ss (aS8 nm x)else ss
def crX (ns es os ss:List (List C)) (r x:Int) (nm:List UInt8):Int:=if crC ns es os ss r x nm=0 then x+1 else x
def crD (d:Dk) (nm:List UInt8):Dk:=⟨crN d.ns d.es d.os d.ss d.r d.x nm,crE d.ns d.es d.os d.ss d.r d.x nm,d.os,crS d.ns d.es d.os d.ss d.r d.x nm,d.r,crX d.ns d.es d.os d.ss d.r d.x nm⟩
def bPz:aCf:=fun cs=>match cs with
 |[.sl ns,.sl es,.sl os,.sl ss,.int .i64 r,.int .i64 x,.str nm]=>some (aFj ns es os ss&&aF2 os ss nm,cE1 (crD ⟨ns,es,os,ss,r,x⟩ nm)++[.int .i64 (crC ns es os ss r x nm)])
 |_=>none
def bL7:Env:=mkE [] [(94,(sg [pSl 100,pS] [rB]),aGo),(144,(sg [pI] [rS]),bGb),(142,(sg [pS] [rB]),aLp),(143,(sg [pSl 100,aKo] [rSl 100]),aXn),(139,(sg [aB0] [rB]),aG8),(141,(sg [aE0] [aDz]),aL1),(138,(sg [aB0] [aBz]),aJw)]
def ndK (ns es:List (List C)) (nm:List UInt8):Int:=aAz (nds ns) (aBb (ens es) nm)
def bJ8 (ns:List (List C)) (r:Int):Int:=r-aEv (nds ns)
def apC (ns es os ss:List (List C)) (r x:Int) (nm t:List UInt8):Int:=if bS6 ns es os ss r x nm then (if bJ8 ns r<t.length then 5 else 0)else 3
def cBm (y:Nd) (t:List UInt8):Nd:=⟨y.id,y.text++t,y.sure⟩
def apN (ns es os ss:List (List C)) (r x:Int) (nm t:List UInt8):List (List C) :=
 if bS6 ns es os ss r x nm then ns.set (ndK ns es nm).toNat (eNd (cBm ((nds ns).getD (ndK ns es nm).toNat ⟨0,[],0⟩) (if bJ8 ns r<t.length then t.take (bJ8 ns r).toNat else t)))else ns
def apD (d:Dk) (nm t:List UInt8):Dk:=⟨apN d.ns d.es d.os d.ss d.r d.x nm t,d.es,d.os,d.ss,d.r,d.x⟩
def bQ5:aCf:=fun cs=>match cs with
 |[.sl ns,.sl es,.sl os,.sl ss,.int .i64 r,.int .i64 x,.str nm,.str t]=>some (aFj ns es os ss&&decide (t.length≤dN),cE1 (apD ⟨ns,es,os,ss,r,x⟩ nm t)++[.int .i64 (apC ns es os ss r x nm t)])
 |_=>none
def bL9:Env:=mkE [] [(93,(sg [pSl 100,pS] [rI]),aJb),(94,(sg [pSl 100,pS] [rB]),aGo),(92,(sg [aB0,pI] [rI]),aFb),(145,(sg [aB0] [rI]),aVn),(139,(sg [aB0] [rB]),aG8),(138,(sg [aB0] [aBz]),aJw)]
def syN (ns es os ss:List (List C)) (r x:Int) (nm:List UInt8):List (List C) :=
 if bS6 ns es os ss r x nm then ns.set (ndK ns es nm).toNat (eNd ⟨((nds ns).getD (ndK ns es nm).toNat ⟨0,[],0⟩).id,((nds ns).getD (ndK ns es nm).toNat ⟨0,[],0⟩).text,((nds ns).getD (ndK ns es nm).toNat ⟨0,[],0⟩).text.length⟩)else ns
def syD (d:Dk) (nm:List UInt8):Dk:=⟨syN d.ns d.es d.os d.ss d.r d.x nm,d.es,d.os,d.ss,d.r,d.x⟩
def bP0:aCf:=fun cs=>match cs with
 |[.sl ns,.sl es,.sl os,.sl ss,.int .i64 r,.int .i64 x,.str nm]=>some (aFj ns es os ss,cE1 (syD ⟨ns,es,os,ss,r,x⟩ nm)++[.int .i64 (rmC ns es os ss r x nm)])
 |_=>none
def bXw:Env:=mkE [] [(93,(sg [pSl 100,pS] [rI]),aJb),(94,(sg [pSl 100,pS] [rB]),aGo),(92,(sg [aB0,pI] [rI]),aFb),(139,(sg [aB0] [rB]),aG8),(138,(sg [aB0] [aBz]),aJw)]
def rnC (ns es os ss:List (List C)) (r x:Int) (a b:List UInt8):Int:=if bS6 ns es os ss r x a then (if aEf b then (if a=b then 1 else 0)else 1)else 3
def aPg (a b:List UInt8):List UInt8:=[62]++a++[58]++b
def rnN (ns es os ss:List (List C)) (r x:Int) (a b:List UInt8):List (List C):=if rnC ns es os ss r x a b=0 then aCx ns os (ss1 ss (aPg a b))else ns
def rnE (ns es os ss:List (List C)) (r x:Int) (a b:List UInt8):List (List C):=if rnC ns es os ss r x a b=0 then aG3 (aBo es a) b (aBb (ens es) a)else es
def rnS (ns es os ss:List (List C)) (r x:Int) (a b:List UInt8):List (List C):=if rnC ns es os ss r x a b=0 then ss1 ss (aPg a b)else ss
def rnD (d:Dk) (a b:List UInt8):Dk:=⟨rnN d.ns d.es d.os d.ss d.r d.x a b,rnE d.ns d.es d.os d.ss d.r d.x a b,d.os,rnS d.ns d.es d.os d.ss d.r d.x a b,d.r,d.x⟩
def bV3:aCf:=fun cs=>match cs with
 |[.sl ns,.sl es,.sl os,.sl ss,.int .i64 r,.int .i64 x,.str a,.str b]=>some (aFj ns es os ss&&(aF2 os ss a&&aF2 os ss b),cE1 (rnD ⟨ns,es,os,ss,r,x⟩ a b)++[.int .i64 (rnC ns es os ss r x a b)])
 |_=>none
def bKz:Env:=mkE [] [(93,(sg [pSl 100,pS] [rI]),aJb),(94,(sg [pSl 100,pS] [rB]),aGo),(142,(sg [pS] [rB]),aLp),(143,(sg [pSl 100,aKo] [rSl 100]),aXn),(140,(sg [pSl 100,pS] [rSl 100]),aS5),(139,(sg [aB0] [rB]),aG8),(141,(sg [aE0] [aDz]),aL1),(138,(sg [aB0] [aBz]),aJw)]
end
set_option maxRecDepth 100000
theorem bRy (H:List Pt→Nat→St→T (List C)) (ns:List (List C)) (es:List (List C)) (os:List (List C)) (ss:List (List C)) (r:Int) (x:Int):(aAk bY3 aAc (sg [aB0] [aBz]) Tryz.f138 H [C.sl ns,C.sl es,C.sl os,C.sl ss,C.int .i64 r,C.int .i64 x]).eval=((.must (decide (0=0)&&aBj (0+ns.length) 32&&ns.all fun r=>decide (r.length=3)) (.must (decide (0=0)&&aBj (0+es.length) 24&&es.all fun r=>decide (r.length=2)) (.must (decide (0=0)&&aBj (0+os.length) 24&&os.all fun r=>decide (r.length=2)) (.must (decide (0=0)&&aBj (0+ss.length) 16&&ss.all fun r=>decide (r.length=1)) (.must (decide (0+ns.length=ns.length)&&(false||ns.all fun r=>r.all C.flat)&&(decide (0+es.length=es.length)&&(false||es.all fun r=>r.all C.flat)&&(decide (0+os.length=os.length)&&(false||os.all fun r=>r.all C.flat)&&(decide (0+ss.length=ss.length)&&(false||ss.all fun r=>r.all C.flat)&&(true&&(false||true)&&(true&&(false||true)&&true)))))&&true&&true) (.ret [C.sl ns,C.sl es,C.sl os,C.sl ss,C.int .i64 r,C.int .i64 x])))))):T (List C)).eval:=aAj (by kernel_rfl)
theorem bHj (H:List Pt→Nat→St→T (List C)) (ns:List (List C)) (es:List (List C)) (os:List (List C)) (ss:List (List C)) (r:Int) (x:Int) (nm:List UInt8):(aAk bL0 aAc (sg [aB0,pS] [aBz,rI]) Tryz.f107 H [C.sl ns,C.sl es,C.sl os,C.sl ss,C.int .i64 r,C.int .i64 x,C.str nm]).eval=((.must (aFj ns es os ss) (.must ((true&&ns.all fun row=>decide (row.length=3))&&((true&&es.all fun row=>decide (row.length=2))&&((true&&os.all fun row=>decide (row.length=2))&&((true&&ss.all fun row=>decide (row.length=1))&&(decide (0<1)&&true&&(decide (0<1)&&true&&true)))))&&true&&true) (.must (aFj (List.take ns.length ns) (List.take es.length es) (List.take os.length os) (List.take ss.length ss)) (.ask (aFg (List.take ns.length ns) (List.take es.length es) (List.take os.length os) (List.take ss.length ss) r x) (.must (decide ((List.take es.length es).length≤aMj)&&aAp [K.str,K.int .i64] (List.take es.length es)) (.ask (aGz (ens (List.take es.length es)) nm) (.must (aKh (List.take es.length es)) (.must ((true&&(aBo (List.take es.length es) nm).all fun row=>decide (row.length=2))&&true&&true&&true) (.must (decide (1+nm.length≤9223372036854775807)) (.must (decide (ss.length=ss.length)&&aBj (ss.length+1) 16&&(decide (1=1)&&true)) (.must (true&&(true&&(true&&(true&&(true&&(true&&true)))))&&(decide ((aBo (List.take es.length es) nm).length=(aBo (List.take es.length es) nm).length)&&(decide (os.length=os.length)&&(decide (ss.length+1=(ss.append [[C.str ([(45:UInt8)]++nm)]]).length)&&true))&&true)) (.must (aFj (List.take ns.length ns) (aBo (List.take es.length es) nm) os (ss.append [[C.str ([(45:UInt8)]++nm)]])) (.must ((true&&(aCx (List.take ns.length ns) os (ss.append [[C.str ([(45:UInt8)]++nm)]])).all fun row=>decide (row.length=3))&&(decide ((aBo (List.take es.length es) nm).length≤(aBo (List.take es.length es) nm).length)&&(decide (os.length≤os.length)&&(decide ((ss.append [[C.str ([(45:UInt8)]++nm)]]).length≤(ss.append [[C.str ([(45:UInt8)]++nm)]]).length)&&(decide (0<1)&&true&&(decide (0<1)&&true&&true)))))&&true&&((decide ((aBo (List.take es.length es) nm).length=(aBo (List.take es.length es) nm).length)&&(aBo (List.take es.length es) nm).all fun row=>decide (row.length=2))&&((decide (os.length=os.length)&&os.all fun row=>decide (row.length=2))&&((decide ((ss.append [[C.str ([(45:UInt8)]++nm)]]).length=(ss.append [[C.str ([(45:UInt8)]++nm)]]).length)&&(ss.append [[C.str ([(45:UInt8)]++nm)]]).all fun row=>decide (row.length=1))&&true))&&true)) (.must (decide ((aCx (List.take ns.length ns) os (ss.append [[C.str ([(45:UInt8)]++nm)]])).length=(aCx (List.take ns.length ns) os (ss.append [[C.str ([(45:UInt8)]++nm)]])).length)&&(false||(aCx (List.take ns.length ns) os (ss.append [[C.str ([(45:UInt8)]++nm)]])).all fun r=>r.all C.flat)&&(decide ((aBo (List.take es.length es) nm).length=(aBo (List.take es.length es) nm).length)&&(false||(aBo (List.take es.length es) nm).all fun r=>r.all C.flat)&&(decide (os.length=os.length)&&(false||os.all fun r=>r.all C.flat)&&(decide ((ss.append [[C.str ([(45:UInt8)]++nm)]]).length=(ss.append [[C.str ([(45:UInt8)]++nm)]]).length)&&(false||(ss.append [[C.str ([(45:UInt8)]++nm)]]).all fun r=>r.all C.flat)&&(true&&(false||true)&&(true&&(false||true)&&true)))))&&(true&&(false||true)&&true&&true)&&true) (.ret [C.sl (aCx (List.take ns.length ns) os (ss.append [[C.str ([(45:UInt8)]++nm)]])),C.sl (aBo (List.take es.length es) nm),C.sl os,C.sl (ss.append [[C.str ([(45:UInt8)]++nm)]]),C.int .i64 r,C.int .i64 x,C.int .i64 0]))))))))) (.must (decide (ns.length=ns.length)&&(false||ns.all fun r=>r.all C.flat)&&(decide (es.length=es.length)&&(false||es.all fun r=>r.all C.flat)&&(decide (os.length=os.length)&&(false||os.all fun r=>r.all C.flat)&&(decide (ss.length=ss.length)&&(false||ss.all fun r=>r.all C.flat)&&(true&&(false||true)&&(true&&(false||true)&&true)))))&&(true&&(false||true)&&true&&true)&&true) (.ret [C.sl ns,C.sl es,C.sl os,C.sl ss,C.int .i64 r,C.int .i64 x,C.int .i64 3])))) (.must (decide (ns.length=ns.length)&&(false||ns.all fun r=>r.all C.flat)&&(decide (es.length=es.length)&&(false||es.all fun r=>r.all C.flat)&&(decide (os.length=os.length)&&(false||os.all fun r=>r.all C.flat)&&(decide (ss.length=ss.length)&&(false||ss.all fun r=>r.all C.flat)&&(true&&(false||true)&&(true&&(false||true)&&true)))))&&(true&&(false||true)&&true&&true)&&true) (.ret [C.sl ns,C.sl es,C.sl os,C.sl ss,C.int .i64 r,C.int .i64 x,C.int .i64 3])))))):T (List C)).eval:=aAj (by kernel_rfl)
theorem aWu (H:List Pt→Nat→St→T (List C)) (ns:List (List C)) (es:List (List C)) (os:List (List C)) (ss:List (List C)) (r:Int) (x:Int):(aAk aUs aAc (sg [aB0] [aBz]) Tryz.f108 H [C.sl ns,C.sl es,C.sl os,C.sl ss,C.int .i64 r,C.int .i64 x]).eval=((.must (aFj ns es os ss) (.must ((true&&ns.all fun row=>decide (row.length=3))&&((true&&es.all fun row=>decide (row.length=2))&&((true&&os.all fun row=>decide (row.length=2))&&((true&&ss.all fun row=>decide (row.length=1))&&(decide (0<1)&&true&&(decide (0<1)&&true&&true)))))&&true&&true) (.must (aFj (List.take ns.length ns) (List.take es.length es) (List.take os.length os) (List.take ss.length ss)) (.ask (aFg (List.take ns.length ns) (List.take es.length es) (List.take os.length os) (List.take ss.length ss) r x) (.must (decide (0=0)&&aBj (0+(List.take es.length es).length) 24&&(List.take es.length es).all fun row=>decide (row.length=2)) (.must (true&&(true&&(true&&(true&&(true&&(true&&true)))))&&(decide (es.length=es.length)&&(decide (0+(List.take es.length es).length=(List.take es.length es).length)&&(decide (0=0)&&true))&&true)) (.must (aFj (List.take ns.length ns) es (List.take es.length es) []) (.must ((true&&(aCx (List.take ns.length ns) (List.take es.length es) []).all fun row=>decide (row.length=3))&&(decide (es.length≤es.length)&&(decide ((List.take es.length es).length≤(List.take es.length es).length)&&(decide (0≤0)&&(decide (0<1)&&true&&(decide (0<1)&&true&&true)))))&&true&&((decide (es.length=es.length)&&es.all fun row=>decide (row.length=2))&&((decide ((List.take es.length es).length=(List.take es.length es).length)&&(List.take es.length es).all fun row=>decide (row.length=2))&&(decide (0=0)&&true&&true))&&true)) (.must (decide ((aCx (List.take ns.length ns) (List.take es.length es) []).length=(aCx (List.take ns.length ns) (List.take es.length es) []).length)&&(false||(aCx (List.take ns.length ns) (List.take es.length es) []).all fun r=>r.all C.flat)&&(decide (es.length=es.length)&&(false||es.all fun r=>r.all C.flat)&&(decide ((List.take es.length es).length=(List.take es.length es).length)&&(false||(List.take es.length es).all fun r=>r.all C.flat)&&(decide (0=0)&&(false||true)&&(true&&(false||true)&&(true&&(false||true)&&true)))))&&true&&true) (.ret [C.sl (aCx (List.take ns.length ns) (List.take es.length es) []),C.sl es,C.sl (List.take es.length es),C.sl [],C.int .i64 r,C.int .i64 x])))))) (.must (decide (ns.length=ns.length)&&(false||ns.all fun r=>r.all C.flat)&&(decide (es.length=es.length)&&(false||es.all fun r=>r.all C.flat)&&(decide (os.length=os.length)&&(false||os.all fun r=>r.all C.flat)&&(decide (ss.length=ss.length)&&(false||ss.all fun r=>r.all C.flat)&&(true&&(false||true)&&(true&&(false||true)&&true)))))&&true&&true) (.ret [C.sl ns,C.sl es,C.sl os,C.sl ss,C.int .i64 r,C.int .i64 x])))))):T (List C)).eval:=aAj (by kernel_rfl)
theorem bIe (H:List Pt→Nat→St→T (List C)) (ns:List (List C)) (es:List (List C)) (os:List (List C)) (ss:List (List C)) (r:Int) (x:Int) (nm:List UInt8):(aAk bL7 aAc (sg [aB0,pS] [aBz,rI]) Tryz.f111 H [C.sl ns,C.sl es,C.sl os,C.sl ss,C.int .i64 r,C.int .i64 x,C.str nm]).eval=((.must (aFj ns es os ss) (.must ((true&&ns.all fun row=>decide (row.length=3))&&((true&&es.all fun row=>decide (row.length=2))&&((true&&os.all fun row=>decide (row.length=2))&&((true&&ss.all fun row=>decide (row.length=1))&&(decide (0<1)&&true&&(decide (0<1)&&true&&true)))))&&true&&true) (.must (aFj (List.take ns.length ns) (List.take es.length es) (List.take os.length os) (List.take ss.length ss)) (.ask (aFg (List.take ns.length ns) (List.take es.length es) (List.take os.length os) (List.take ss.length ss) r x) (.must (decide (nm.length≤281474976710656)) (.ask (aEf nm) (.must (decide ((List.take es.length es).length≤aMj)&&aAp [K.str,K.int .i64] (List.take es.length es)) (.ask (aGz (ens (List.take es.length es)) nm) (.must (decide (ns.length=ns.length)&&(false||ns.all fun r=>r.all C.flat)&&(decide (es.length=es.length)&&(false||es.all fun r=>r.all C.flat)&&(decide (os.length=os.length)&&(false||os.all fun r=>r.all C.flat)&&(decide (ss.length=ss.length)&&(false||ss.all fun r=>r.all C.flat)&&(true&&(false||true)&&(true&&(false||true)&&true)))))&&(true&&(false||true)&&true&&true)&&true) (.ret [C.sl ns,C.sl es,C.sl os,C.sl ss,C.int .i64 r,C.int .i64 x,C.int .i64 2])) (.ask (decide ((16:Int)≤(↑es.length:Int))) (.must (decide (ns.length=ns.length)&&(false||ns.all fun r=>r.all C.flat)&&(decide (es.length=es.length)&&(false||es.all fun r=>r.all C.flat)&&(decide (os.length=os.length)&&(false||os.all fun r=>r.all C.flat)&&(decide (ss.length=ss.length)&&(false||ss.all fun r=>r.all C.flat)&&(true&&(false||true)&&(true&&(false||true)&&true)))))&&(true&&(false||true)&&true&&true)&&true) (.ret [C.sl ns,C.sl es,C.sl os,C.sl ss,C.int .i64 r,C.int .i64 x,C.int .i64 4])) (.ask (decide ((64:Int)≤(↑ns.length:Int))) (.must (decide (ns.length=ns.length)&&(false||ns.all fun r=>r.all C.flat)&&(decide (es.length=es.length)&&(false||es.all fun r=>r.all C.flat)&&(decide (os.length=os.length)&&(false||os.all fun r=>r.all C.flat)&&(decide (ss.length=ss.length)&&(false||ss.all fun r=>r.all C.flat)&&(true&&(false||true)&&(true&&(false||true)&&true)))))&&(true&&(false||true)&&true&&true)&&true) (.ret [C.sl ns,C.sl es,C.sl os,C.sl ss,C.int .i64 r,C.int .i64 x,C.int .i64 4])) (.ask (decide ((1000000000:Int)≤x)) (.must (decide (ns.length=ns.length)&&(false||ns.all fun r=>r.all C.flat)&&(decide (es.length=es.length)&&(false||es.all fun r=>r.all C.flat)&&(decide (os.length=os.length)&&(false||os.all fun r=>r.all C.flat)&&(decide (ss.length=ss.length)&&(false||ss.all fun r=>r.all C.flat)&&(true&&(false||true)&&(true&&(false||true)&&true)))))&&(true&&(false||true)&&true&&true)&&true) (.ret [C.sl ns,C.sl es,C.sl os,C.sl ss,C.int .i64 r,C.int .i64 x,C.int .i64 4])) (.must (decide (ns.length=ns.length)&&aBj (ns.length+1) 32&&(decide (3=3)&&true)) (.must (aKh (List.take es.length es)) (.must ((true&&(aG3 (List.take es.length es) nm x).all fun row=>decide (row.length=2))&&true&&true&&true) (.must (decide (1+nm.length≤9223372036854775807)) (.must (decide (([(43:UInt8)]++nm).length+1≤9223372036854775807)) (.must (inB x 0 9223372036854775807) (.must (decide (([(43:UInt8)]++nm++[(58:UInt8)]).length+(aGt x).length≤9223372036854775807)) (.must (decide (ss.length=ss.length)&&aBj (ss.length+1) 16&&(decide (1=1)&&true)) (.must (true&&(true&&(true&&(true&&(true&&(true&&true)))))&&(decide ((aG3 (List.take es.length es) nm x).length=(aG3 (List.take es.length es) nm x).length)&&(decide (os.length=os.length)&&(decide (ss.length+1=(ss.append [[C.str ([(43:UInt8)]++nm++[(58:UInt8)]++aGt x)]]).length)&&true))&&true)) (.must (aFj (List.take (ns.length+1) (ns.append [[C.int .i64 x,C.str [],C.int .i64 0]])) (aG3 (List.take es.length es) nm x) os (ss.append [[C.str ([(43:UInt8)]++nm++[(58:UInt8)]++aGt x)]])) (.must ((true&&(aCx (List.take (ns.length+1) (ns.append [[C.int .i64 x,C.str [],C.int .i64 0]])) os (ss.append [[C.str ([(43:UInt8)]++nm++[(58:UInt8)]++aGt x)]])).all fun row=>decide (row.length=3))&&(decide ((aG3 (List.take es.length es) nm x).length≤(aG3 (List.take es.length es) nm x).length)&&(decide (os.length≤os.length)&&(decide ((ss.append [[C.str ([(43:UInt8)]++nm++[(58:UInt8)]++aGt x)]]).length≤(ss.append [[C.str ([(43:UInt8)]++nm++[(58:UInt8)]++aGt x)]]).length)&&(decide (0<1)&&true&&(decide (0<1)&&true&&true)))))&&true&&((decide ((aG3 (List.take es.length es) nm x).length=(aG3 (List.take es.length es) nm x).length)&&(aG3 (List.take es.length es) nm x).all fun row=>decide (row.length=2))&&((decide (os.length=os.length)&&os.all fun row=>decide (row.length=2))&&((decide ((ss.append [[C.str ([(43:UInt8)]++nm++[(58:UInt8)]++aGt x)]]).length=(ss.append [[C.str ([(43:UInt8)]++nm++[(58:UInt8)]++aGt x)]]).length)&&(ss.append [[C.str ([(43:UInt8)]++nm++[(58:UInt8)]++aGt x)]]).all fun row=>decide (row.length=1))&&true))&&true)) (.must (decide ((aCx (List.take (ns.length+1) (ns.append [[C.int .i64 x,C.str [],C.int .i64 0]])) os (ss.append [[C.str ([(43:UInt8)]++nm++[(58:UInt8)]++aGt x)]])).length=(aCx (List.take (ns.length+1) (ns.append [[C.int .i64 x,C.str [],C.int .i64 0]])) os (ss.append [[C.str ([(43:UInt8)]++nm++[(58:UInt8)]++aGt x)]])).length)&&(false||(aCx (List.take (ns.length+1) (ns.append [[C.int .i64 x,C.str [],C.int .i64 0]])) os (ss.append [[C.str ([(43:UInt8)]++nm++[(58:UInt8)]++aGt x)]])).all fun r=>r.all C.flat)&&(decide ((aG3 (List.take es.length es) nm x).length=(aG3 (List.take es.length es) nm x).length)&&(false||(aG3 (List.take es.length es) nm x).all fun r=>r.all C.flat)&&(decide (os.length=os.length)&&(false||os.all fun r=>r.all C.flat)&&(decide ((ss.append [[C.str ([(43:UInt8)]++nm++[(58:UInt8)]++aGt x)]]).length=(ss.append [[C.str ([(43:UInt8)]++nm++[(58:UInt8)]++aGt x)]]).length)&&(false||(ss.append [[C.str ([(43:UInt8)]++nm++[(58:UInt8)]++aGt x)]]).all fun r=>r.all C.flat)&&(true&&(false||true)&&(true&&(false||true)&&true)))))&&(true&&(false||true)&&true&&true)&&true) (.ret [C.sl (aCx (List.take (ns.length+1) (ns.append [[C.int .i64 x,C.str [],C.int .i64 0]])) os (ss.append [[C.str ([(43:UInt8)]++nm++[(58:UInt8)]++aGt x)]])),C.sl (aG3 (List.take es.length es) nm x),C.sl os,C.sl (ss.append [[C.str ([(43:UInt8)]++nm++[(58:UInt8)]++aGt x)]]),C.int .i64 r,C.int .i64 (IntKind.i64.wrap (x+(1:Int))),C.int .i64 0])))))))))))))))))) (.must (decide (ns.length=ns.length)&&(false||ns.all fun r=>r.all C.flat)&&(decide (es.length=es.length)&&(false||es.all fun r=>r.all C.flat)&&(decide (os.length=os.length)&&(false||os.all fun r=>r.all C.flat)&&(decide (ss.length=ss.length)&&(false||ss.all fun r=>r.all C.flat)&&(true&&(false||true)&&(true&&(false||true)&&true)))))&&(true&&(false||true)&&true&&true)&&true) (.ret [C.sl ns,C.sl es,C.sl os,C.sl ss,C.int .i64 r,C.int .i64 x,C.int .i64 1])))) (.must (decide (ns.length=ns.length)&&(false||ns.all fun r=>r.all C.flat)&&(decide (es.length=es.length)&&(false||es.all fun r=>r.all C.flat)&&(decide (os.length=os.length)&&(false||os.all fun r=>r.all C.flat)&&(decide (ss.length=ss.length)&&(false||ss.all fun r=>r.all C.flat)&&(true&&(false||true)&&(true&&(false||true)&&true)))))&&(true&&(false||true)&&true&&true)&&true) (.ret [C.sl ns,C.sl es,C.sl os,C.sl ss,C.int .i64 r,C.int .i64 x,C.int .i64 3])))))):T (List C)).eval:=aAj (by kernel_rfl)
theorem bIk (H:List Pt→Nat→St→T (List C)) (ns:List (List C)) (es:List (List C)) (os:List (List C)) (ss:List (List C)) (r:Int) (x:Int) (nm:List UInt8) (t:List UInt8):(aAk bL9 aAc (sg [aB0,pS,pS] [aBz,rI]) Tryz.f112 H [C.sl ns,C.sl es,C.sl os,C.sl ss,C.int .i64 r,C.int .i64 x,C.str nm,C.str t]).eval=((.must (aFj ns es os ss) (.must ((true&&ns.all fun row=>decide (row.length=3))&&((true&&es.all fun row=>decide (row.length=2))&&((true&&os.all fun row=>decide (row.length=2))&&((true&&ss.all fun row=>decide (row.length=1))&&(decide (0<1)&&true&&(decide (0<1)&&true&&true)))))&&true&&true) (.must (aFj (List.take ns.length ns) (List.take es.length es) (List.take os.length os) (List.take ss.length ss)) (.ask (aFg (List.take ns.length ns) (List.take es.length es) (List.take os.length os) (List.take ss.length ss) r x) (.must (decide ((List.take es.length es).length≤aMj)&&aAp [K.str,K.int .i64] (List.take es.length es)) (.ask (aGz (ens (List.take es.length es)) nm) (.must (decide ((List.take es.length es).length≤aMj)&&aAp [K.str,K.int .i64] (List.take es.length es)) (.must (decide ((List.take ns.length ns).length≤aMj)&&aAp [K.int .i64,K.str,K.int .i64] (List.take ns.length ns)) (.must (bBy (List.take ns.length ns)) (.ask (decide (IntKind.i64.wrap (r-Int.ofNat (aEv (nds (List.take ns.length ns))))<(↑t.length:Int))) (.must (decide ((0:Int)≤aAz (nds (List.take ns.length ns)) (aBb (ens (List.take es.length es)) nm))&&decide (aAz (nds (List.take ns.length ns)) (aBb (ens (List.take es.length es)) nm)<(↑ns.length:Int))) (.must (decide (0+(aAz (nds (List.take ns.length ns)) (aBb (ens (List.take es.length es)) nm)).toNat<ns.length)&&(decide (0+1<(ns.getD (0+(aAz (nds (List.take ns.length ns)) (aBb (ens (List.take es.length es)) nm)).toNat) []).length)&&C.is K.str ((ns.getD (0+(aAz (nds (List.take ns.length ns)) (aBb (ens (List.take es.length es)) nm)).toNat) []).getD (0+1) (C.fn 0 []))&&true)) (.must (decide ((0:Int)≤IntKind.i64.wrap (r-Int.ofNat (aEv (nds (List.take ns.length ns)))))&&decide (IntKind.i64.wrap (r-Int.ofNat (aEv (nds (List.take ns.length ns))))≤(↑t.length:Int))) (.must (decide (((ns.getD (0+(aAz (nds (List.take ns.length ns)) (aBb (ens (List.take es.length es)) nm)).toNat) []).getD (0+1) (C.fn 0 [])).toStr.length+(List.drop 0 (List.take (IntKind.i64.wrap (r-Int.ofNat (aEv (nds (List.take ns.length ns))))).toNat t)).length≤9223372036854775807)) (.must (decide ((0:Int)≤aAz (nds (List.take ns.length ns)) (aBb (ens (List.take es.length es)) nm))&&decide (aAz (nds (List.take ns.length ns)) (aBb (ens (List.take es.length es)) nm)<(↑ns.length:Int))) (.must (decide (0+(aAz (nds (List.take ns.length ns)) (aBb (ens (List.take es.length es)) nm)).toNat<ns.length)) (.must (decide (ns.length=(ns.set (0+(aAz (nds (List.take ns.length ns)) (aBb (ens (List.take es.length es)) nm)).toNat) (((List.take (0+1) (ns.getD (0+(aAz (nds (List.take ns.length ns)) (aBb (ens (List.take es.length es)) nm)).toNat) [])).append [C.str (((ns.getD (0+(aAz (nds (List.take ns.length ns)) (aBb (ens (List.take es.length es)) nm)).toNat) []).getD (0+1) (C.fn 0 [])).toStr++List.drop 0 (List.take (IntKind.i64.wrap (r-Int.ofNat (aEv (nds (List.take ns.length ns))))).toNat t))]).append (List.drop (0+1+1) (ns.getD (0+(aAz (nds (List.take ns.length ns)) (aBb (ens (List.take es.length es)) nm)).toNat) [])))).length)&&(false||(ns.set (0+(aAz (nds (List.take ns.length ns)) (aBb (ens (List.take es.length es)) nm)).toNat) (((List.take (0+1) (ns.getD (0+(aAz (nds (List.take ns.length ns)) (aBb (ens (List.take es.length es)) nm)).toNat) [])).append [C.str (((ns.getD (0+(aAz (nds (List.take ns.length ns)) (aBb (ens (List.take es.length es)) nm)).toNat) []).getD (0+1) (C.fn 0 [])).toStr++List.drop 0 (List.take (IntKind.i64.wrap (r-Int.ofNat (aEv (nds (List.take ns.length ns))))).toNat t))]).append (List.drop (0+1+1) (ns.getD (0+(aAz (nds (List.take ns.length ns)) (aBb (ens (List.take es.length es)) nm)).toNat) [])))).all fun r=>r.all C.flat)&&(decide (es.length=es.length)&&(false||es.all fun r=>r.all C.flat)&&(decide (os.length=os.length)&&(false||os.all fun r=>r.all C.flat)&&(decide (ss.length=ss.length)&&(false||ss.all fun r=>r.all C.flat)&&(true&&(false||true)&&(true&&(false||true)&&true)))))&&(true&&(false||true)&&true&&true)&&true) (.ret [C.sl (ns.set (0+(aAz (nds (List.take ns.length ns)) (aBb (ens (List.take es.length es)) nm)).toNat) (((List.take (0+1) (ns.getD (0+(aAz (nds (List.take ns.length ns)) (aBb (ens (List.take es.length es)) nm)).toNat) [])).append [C.str (((ns.getD (0+(aAz (nds (List.take ns.length ns)) (aBb (ens (List.take es.length es)) nm)).toNat) []).getD (0+1) (C.fn 0 [])).toStr++List.drop 0 (List.take (IntKind.i64.wrap (r-Int.ofNat (aEv (nds (List.take ns.length ns))))).toNat t))]).append (List.drop (0+1+1) (ns.getD (0+(aAz (nds (List.take ns.length ns)) (aBb (ens (List.take es.length es)) nm)).toNat) [])))),C.sl es,C.sl os,C.sl ss,C.int .i64 r,C.int .i64 x,C.int .i64 5])))))))) (.must (decide ((0:Int)≤aAz (nds (List.take ns.length ns)) (aBb (ens (List.take es.length es)) nm))&&decide (aAz (nds (List.take ns.length ns)) (aBb (ens (List.take es.length es)) nm)<(↑ns.length:Int))) (.must (decide (0+(aAz (nds (List.take ns.length ns)) (aBb (ens (List.take es.length es)) nm)).toNat<ns.length)&&(decide (0+1<(ns.getD (0+(aAz (nds (List.take ns.length ns)) (aBb (ens (List.take es.length es)) nm)).toNat) []).length)&&C.is K.str ((ns.getD (0+(aAz (nds (List.take ns.length ns)) (aBb (ens (List.take es.length es)) nm)).toNat) []).getD (0+1) (C.fn 0 []))&&true)) (.must (decide (((ns.getD (0+(aAz (nds (List.take ns.length ns)) (aBb (ens (List.take es.length es)) nm)).toNat) []).getD (0+1) (C.fn 0 [])).toStr.length+t.length≤9223372036854775807)) (.must (decide ((0:Int)≤aAz (nds (List.take ns.length ns)) (aBb (ens (List.take es.length es)) nm))&&decide (aAz (nds (List.take ns.length ns)) (aBb (ens (List.take es.length es)) nm)<(↑ns.length:Int))) (.must (decide (0+(aAz (nds (List.take ns.length ns)) (aBb (ens (List.take es.length es)) nm)).toNat<ns.length)) (.must (decide (ns.length=(ns.set (0+(aAz (nds (List.take ns.length ns)) (aBb (ens (List.take es.length es)) nm)).toNat) (((List.take (0+1) (ns.getD (0+(aAz (nds (List.take ns.length ns)) (aBb (ens (List.take es.length es)) nm)).toNat) [])).append [C.str (((ns.getD (0+(aAz (nds (List.take ns.length ns)) (aBb (ens (List.take es.length es)) nm)).toNat) []).getD (0+1) (C.fn 0 [])).toStr++t)]).append (List.drop (0+1+1) (ns.getD (0+(aAz (nds (List.take ns.length ns)) (aBb (ens (List.take es.length es)) nm)).toNat) [])))).length)&&(false||(ns.set (0+(aAz (nds (List.take ns.length ns)) (aBb (ens (List.take es.length es)) nm)).toNat) (((List.take (0+1) (ns.getD (0+(aAz (nds (List.take ns.length ns)) (aBb (ens (List.take es.length es)) nm)).toNat) [])).append [C.str (((ns.getD (0+(aAz (nds (List.take ns.length ns)) (aBb (ens (List.take es.length es)) nm)).toNat) []).getD (0+1) (C.fn 0 [])).toStr++t)]).append (List.drop (0+1+1) (ns.getD (0+(aAz (nds (List.take ns.length ns)) (aBb (ens (List.take es.length es)) nm)).toNat) [])))).all fun r=>r.all C.flat)&&(decide (es.length=es.length)&&(false||es.all fun r=>r.all C.flat)&&(decide (os.length=os.length)&&(false||os.all fun r=>r.all C.flat)&&(decide (ss.length=ss.length)&&(false||ss.all fun r=>r.all C.flat)&&(true&&(false||true)&&(true&&(false||true)&&true)))))&&(true&&(false||true)&&true&&true)&&true) (.ret [C.sl (ns.set (0+(aAz (nds (List.take ns.length ns)) (aBb (ens (List.take es.length es)) nm)).toNat) (((List.take (0+1) (ns.getD (0+(aAz (nds (List.take ns.length ns)) (aBb (ens (List.take es.length es)) nm)).toNat) [])).append [C.str (((ns.getD (0+(aAz (nds (List.take ns.length ns)) (aBb (ens (List.take es.length es)) nm)).toNat) []).getD (0+1) (C.fn 0 [])).toStr++t)]).append (List.drop (0+1+1) (ns.getD (0+(aAz (nds (List.take ns.length ns)) (aBb (ens (List.take es.length es)) nm)).toNat) [])))),C.sl es,C.sl os,C.sl ss,C.int .i64 r,C.int .i64 x,C.int .i64 0]))))))))))) (.must (decide (ns.length=ns.length)&&(false||ns.all fun r=>r.all C.flat)&&(decide (es.length=es.length)&&(false||es.all fun r=>r.all C.flat)&&(decide (os.length=os.length)&&(false||os.all fun r=>r.all C.flat)&&(decide (ss.length=ss.length)&&(false||ss.all fun r=>r.all C.flat)&&(true&&(false||true)&&(true&&(false||true)&&true)))))&&(true&&(false||true)&&true&&true)&&true) (.ret [C.sl ns,C.sl es,C.sl os,C.sl ss,C.int .i64 r,C.int .i64 x,C.int .i64 3])))) (.must (decide (ns.length=ns.length)&&(false||ns.all fun r=>r.all C.flat)&&(decide (es.length=es.length)&&(false||es.all fun r=>r.all C.flat)&&(decide (os.length=os.length)&&(false||os.all fun r=>r.all C.flat)&&(decide (ss.length=ss.length)&&(false||ss.all fun r=>r.all C.flat)&&(true&&(false||true)&&(true&&(false||true)&&true)))))&&(true&&(false||true)&&true&&true)&&true) (.ret [C.sl ns,C.sl es,C.sl os,C.sl ss,C.int .i64 r,C.int .i64 x,C.int .i64 3])))))):T (List C)).eval:=aAj (by kernel_rfl)
theorem bR6 (H:List Pt→Nat→St→T (List C)) (ns:List (List C)) (es:List (List C)) (os:List (List C)) (ss:List (List C)) (r:Int) (x:Int) (nm:List UInt8):(aAk bXw aAc (sg [aB0,pS] [aBz,rI]) Tryz.f109 H [C.sl ns,C.sl es,C.sl os,C.sl ss,C.int .i64 r,C.int .i64 x,C.str nm]).eval=((.must (aFj ns es os ss) (.must ((true&&ns.all fun row=>decide (row.length=3))&&((true&&es.all fun row=>decide (row.length=2))&&((true&&os.all fun row=>decide (row.length=2))&&((true&&ss.all fun row=>decide (row.length=1))&&(decide (0<1)&&true&&(decide (0<1)&&true&&true)))))&&true&&true) (.must (aFj (List.take ns.length ns) (List.take es.length es) (List.take os.length os) (List.take ss.length ss)) (.ask (aFg (List.take ns.length ns) (List.take es.length es) (List.take os.length os) (List.take ss.length ss) r x) (.must (decide ((List.take es.length es).length≤aMj)&&aAp [K.str,K.int .i64] (List.take es.length es)) (.ask (aGz (ens (List.take es.length es)) nm) (.must (decide ((List.take es.length es).length≤aMj)&&aAp [K.str,K.int .i64] (List.take es.length es)) (.must (decide ((List.take ns.length ns).length≤aMj)&&aAp [K.int .i64,K.str,K.int .i64] (List.take ns.length ns)) (.must (decide ((0:Int)≤aAz (nds (List.take ns.length ns)) (aBb (ens (List.take es.length es)) nm))&&decide (aAz (nds (List.take ns.length ns)) (aBb (ens (List.take es.length es)) nm)<(↑ns.length:Int))) (.must (decide (0+(aAz (nds (List.take ns.length ns)) (aBb (ens (List.take es.length es)) nm)).toNat<ns.length)&&(decide (0+1<(ns.getD (0+(aAz (nds (List.take ns.length ns)) (aBb (ens (List.take es.length es)) nm)).toNat) []).length)&&C.is K.str ((ns.getD (0+(aAz (nds (List.take ns.length ns)) (aBb (ens (List.take es.length es)) nm)).toNat) []).getD (0+1) (C.fn 0 []))&&true)) (.must (decide ((0:Int)≤aAz (nds (List.take ns.length ns)) (aBb (ens (List.take es.length es)) nm))&&decide (aAz (nds (List.take ns.length ns)) (aBb (ens (List.take es.length es)) nm)<(↑ns.length:Int))) (.must (decide (0+(aAz (nds (List.take ns.length ns)) (aBb (ens (List.take es.length es)) nm)).toNat<ns.length)) (.must (decide (ns.length=(ns.set (0+(aAz (nds (List.take ns.length ns)) (aBb (ens (List.take es.length es)) nm)).toNat) (((List.take (0+2) (ns.getD (0+(aAz (nds (List.take ns.length ns)) (aBb (ens (List.take es.length es)) nm)).toNat) [])).append [C.int .i64 (↑((ns.getD (0+(aAz (nds (List.take ns.length ns)) (aBb (ens (List.take es.length es)) nm)).toNat) []).getD (0+1) (C.fn 0 [])).toStr.length:Int)]).append (List.drop (0+2+1) (ns.getD (0+(aAz (nds (List.take ns.length ns)) (aBb (ens (List.take es.length es)) nm)).toNat) [])))).length)&&(false||(ns.set (0+(aAz (nds (List.take ns.length ns)) (aBb (ens (List.take es.length es)) nm)).toNat) (((List.take (0+2) (ns.getD (0+(aAz (nds (List.take ns.length ns)) (aBb (ens (List.take es.length es)) nm)).toNat) [])).append [C.int .i64 (↑((ns.getD (0+(aAz (nds (List.take ns.length ns)) (aBb (ens (List.take es.length es)) nm)).toNat) []).getD (0+1) (C.fn 0 [])).toStr.length:Int)]).append (List.drop (0+2+1) (ns.getD (0+(aAz (nds (List.take ns.length ns)) (aBb (ens (List.take es.length es)) nm)).toNat) [])))).all fun r=>r.all C.flat)&&(decide (es.length=es.length)&&(false||es.all fun r=>r.all C.flat)&&(decide (os.length=os.length)&&(false||os.all fun r=>r.all C.flat)&&(decide (ss.length=ss.length)&&(false||ss.all fun r=>r.all C.flat)&&(true&&(false||true)&&(true&&(false||true)&&true)))))&&(true&&(false||true)&&true&&true)&&true) (.ret [C.sl (ns.set (0+(aAz (nds (List.take ns.length ns)) (aBb (ens (List.take es.length es)) nm)).toNat) (((List.take (0+2) (ns.getD (0+(aAz (nds (List.take ns.length ns)) (aBb (ens (List.take es.length es)) nm)).toNat) [])).append [C.int .i64 (↑((ns.getD (0+(aAz (nds (List.take ns.length ns)) (aBb (ens (List.take es.length es)) nm)).toNat) []).getD (0+1) (C.fn 0 [])).toStr.length:Int)]).append (List.drop (0+2+1) (ns.getD (0+(aAz (nds (List.take ns.length ns)) (aBb (ens (List.take es.length es)) nm)).toNat) [])))),C.sl es,C.sl os,C.sl ss,C.int .i64 r,C.int .i64 x,C.int .i64 0])))))))) (.must (decide (ns.length=ns.length)&&(false||ns.all fun r=>r.all C.flat)&&(decide (es.length=es.length)&&(false||es.all fun r=>r.all C.flat)&&(decide (os.length=os.length)&&(false||os.all fun r=>r.all C.flat)&&(decide (ss.length=ss.length)&&(false||ss.all fun r=>r.all C.flat)&&(true&&(false||true)&&(true&&(false||true)&&true)))))&&(true&&(false||true)&&true&&true)&&true) (.ret [C.sl ns,C.sl es,C.sl os,C.sl ss,C.int .i64 r,C.int .i64 x,C.int .i64 3])))) (.must (decide (ns.length=ns.length)&&(false||ns.all fun r=>r.all C.flat)&&(decide (es.length=es.length)&&(false||es.all fun r=>r.all C.flat)&&(decide (os.length=os.length)&&(false||os.all fun r=>r.all C.flat)&&(decide (ss.length=ss.length)&&(false||ss.all fun r=>r.all C.flat)&&(true&&(false||true)&&(true&&(false||true)&&true)))))&&(true&&(false||true)&&true&&true)&&true) (.ret [C.sl ns,C.sl es,C.sl os,C.sl ss,C.int .i64 r,C.int .i64 x,C.int .i64 3])))))):T (List C)).eval:=aAj (by kernel_rfl)
theorem bHi (H:List Pt→Nat→St→T (List C)) (ns:List (List C)) (es:List (List C)) (os:List (List C)) (ss:List (List C)) (r:Int) (x:Int) (a:List UInt8) (b:List UInt8):(aAk bKz aAc (sg [aB0,pS,pS] [aBz,rI]) Tryz.f110 H [C.sl ns,C.sl es,C.sl os,C.sl ss,C.int .i64 r,C.int .i64 x,C.str a,C.str b]).eval=((.must (aFj ns es os ss) (.must ((true&&ns.all fun row=>decide (row.length=3))&&((true&&es.all fun row=>decide (row.length=2))&&((true&&os.all fun row=>decide (row.length=2))&&((true&&ss.all fun row=>decide (row.length=1))&&(decide (0<1)&&true&&(decide (0<1)&&true&&true)))))&&true&&true) (.must (aFj (List.take ns.length ns) (List.take es.length es) (List.take os.length os) (List.take ss.length ss)) (.ask (aFg (List.take ns.length ns) (List.take es.length es) (List.take os.length os) (List.take ss.length ss) r x) (.must (decide ((List.take es.length es).length≤aMj)&&aAp [K.str,K.int .i64] (List.take es.length es)) (.ask (aGz (ens (List.take es.length es)) a) (.must (decide (b.length≤281474976710656)) (.ask (aEf b) (.ask (a==b) (.must (decide (ns.length=ns.length)&&(false||ns.all fun r=>r.all C.flat)&&(decide (es.length=es.length)&&(false||es.all fun r=>r.all C.flat)&&(decide (os.length=os.length)&&(false||os.all fun r=>r.all C.flat)&&(decide (ss.length=ss.length)&&(false||ss.all fun r=>r.all C.flat)&&(true&&(false||true)&&(true&&(false||true)&&true)))))&&(true&&(false||true)&&true&&true)&&true) (.ret [C.sl ns,C.sl es,C.sl os,C.sl ss,C.int .i64 r,C.int .i64 x,C.int .i64 1])) (.must (decide ((List.take es.length es).length≤aMj)&&aAp [K.str,K.int .i64] (List.take es.length es)) (.must (aKh (List.take es.length es)) (.must ((true&&(aBo (List.take es.length es) a).all fun row=>decide (row.length=2))&&true&&true&&true) (.must (aKh (List.take (aBo (List.take es.length es) a).length (aBo (List.take es.length es) a))) (.must ((true&&(aG3 (List.take (aBo (List.take es.length es) a).length (aBo (List.take es.length es) a)) b (aBb (ens (List.take es.length es)) a)).all fun row=>decide (row.length=2))&&true&&true&&true) (.must (decide (1+a.length≤9223372036854775807)) (.must (decide (([(62:UInt8)]++a).length+1≤9223372036854775807)) (.must (decide (([(62:UInt8)]++a++[(58:UInt8)]).length+b.length≤9223372036854775807)) (.must (decide (ss.length=ss.length)&&aBj (ss.length+1) 16&&(decide (1=1)&&true)) (.must (true&&(true&&(true&&(true&&(true&&(true&&true)))))&&(decide ((aG3 (List.take (aBo (List.take es.length es) a).length (aBo (List.take es.length es) a)) b (aBb (ens (List.take es.length es)) a)).length=(aG3 (List.take (aBo (List.take es.length es) a).length (aBo (List.take es.length es) a)) b (aBb (ens (List.take es.length es)) a)).length)&&(decide (os.length=os.length)&&(decide (ss.length+1=(ss.append [[C.str ([(62:UInt8)]++a++[(58:UInt8)]++b)]]).length)&&true))&&true)) (.must (aFj (List.take ns.length ns) (aG3 (List.take (aBo (List.take es.length es) a).length (aBo (List.take es.length es) a)) b (aBb (ens (List.take es.length es)) a)) os (ss.append [[C.str ([(62:UInt8)]++a++[(58:UInt8)]++b)]])) (.must ((true&&(aCx (List.take ns.length ns) os (ss.append [[C.str ([(62:UInt8)]++a++[(58:UInt8)]++b)]])).all fun row=>decide (row.length=3))&&(decide ((aG3 (List.take (aBo (List.take es.length es) a).length (aBo (List.take es.length es) a)) b (aBb (ens (List.take es.length es)) a)).length≤(aG3 (List.take (aBo (List.take es.length es) a).length (aBo (List.take es.length es) a)) b (aBb (ens (List.take es.length es)) a)).length)&&(decide (os.length≤os.length)&&(decide ((ss.append [[C.str ([(62:UInt8)]++a++[(58:UInt8)]++b)]]).length≤(ss.append [[C.str ([(62:UInt8)]++a++[(58:UInt8)]++b)]]).length)&&(decide (0<1)&&true&&(decide (0<1)&&true&&true)))))&&true&&((decide ((aG3 (List.take (aBo (List.take es.length es) a).length (aBo (List.take es.length es) a)) b (aBb (ens (List.take es.length es)) a)).length=(aG3 (List.take (aBo (List.take es.length es) a).length (aBo (List.take es.length es) a)) b (aBb (ens (List.take es.length es)) a)).length)&&(aG3 (List.take (aBo (List.take es.length es) a).length (aBo (List.take es.length es) a)) b (aBb (ens (List.take es.length es)) a)).all fun row=>decide (row.length=2))&&((decide (os.length=os.length)&&os.all fun row=>decide (row.length=2))&&((decide ((ss.append [[C.str ([(62:UInt8)]++a++[(58:UInt8)]++b)]]).length=(ss.append [[C.str ([(62:UInt8)]++a++[(58:UInt8)]++b)]]).length)&&(ss.append [[C.str ([(62:UInt8)]++a++[(58:UInt8)]++b)]]).all fun row=>decide (row.length=1))&&true))&&true)) (.must (decide ((aCx (List.take ns.length ns) os (ss.append [[C.str ([(62:UInt8)]++a++[(58:UInt8)]++b)]])).length=(aCx (List.take ns.length ns) os (ss.append [[C.str ([(62:UInt8)]++a++[(58:UInt8)]++b)]])).length)&&(false||(aCx (List.take ns.length ns) os (ss.append [[C.str ([(62:UInt8)]++a++[(58:UInt8)]++b)]])).all fun r=>r.all C.flat)&&(decide ((aG3 (List.take (aBo (List.take es.length es) a).length (aBo (List.take es.length es) a)) b (aBb (ens (List.take es.length es)) a)).length=(aG3 (List.take (aBo (List.take es.length es) a).length (aBo (List.take es.length es) a)) b (aBb (ens (List.take es.length es)) a)).length)&&(false||(aG3 (List.take (aBo (List.take es.length es) a).length (aBo (List.take es.length es) a)) b (aBb (ens (List.take es.length es)) a)).all fun r=>r.all C.flat)&&(decide (os.length=os.length)&&(false||os.all fun r=>r.all C.flat)&&(decide ((ss.append [[C.str ([(62:UInt8)]++a++[(58:UInt8)]++b)]]).length=(ss.append [[C.str ([(62:UInt8)]++a++[(58:UInt8)]++b)]]).length)&&(false||(ss.append [[C.str ([(62:UInt8)]++a++[(58:UInt8)]++b)]]).all fun r=>r.all C.flat)&&(true&&(false||true)&&(true&&(false||true)&&true)))))&&(true&&(false||true)&&true&&true)&&true) (.ret [C.sl (aCx (List.take ns.length ns) os (ss.append [[C.str ([(62:UInt8)]++a++[(58:UInt8)]++b)]])),C.sl (aG3 (List.take (aBo (List.take es.length es) a).length (aBo (List.take es.length es) a)) b (aBb (ens (List.take es.length es)) a)),C.sl os,C.sl (ss.append [[C.str ([(62:UInt8)]++a++[(58:UInt8)]++b)]]),C.int .i64 r,C.int .i64 x,C.int .i64 0]))))))))))))))) (.must (decide (ns.length=ns.length)&&(false||ns.all fun r=>r.all C.flat)&&(decide (es.length=es.length)&&(false||es.all fun r=>r.all C.flat)&&(decide (os.length=os.length)&&(false||os.all fun r=>r.all C.flat)&&(decide (ss.length=ss.length)&&(false||ss.all fun r=>r.all C.flat)&&(true&&(false||true)&&(true&&(false||true)&&true)))))&&(true&&(false||true)&&true&&true)&&true) (.ret [C.sl ns,C.sl es,C.sl os,C.sl ss,C.int .i64 r,C.int .i64 x,C.int .i64 1])))) (.must (decide (ns.length=ns.length)&&(false||ns.all fun r=>r.all C.flat)&&(decide (es.length=es.length)&&(false||es.all fun r=>r.all C.flat)&&(decide (os.length=os.length)&&(false||os.all fun r=>r.all C.flat)&&(decide (ss.length=ss.length)&&(false||ss.all fun r=>r.all C.flat)&&(true&&(false||true)&&(true&&(false||true)&&true)))))&&(true&&(false||true)&&true&&true)&&true) (.ret [C.sl ns,C.sl es,C.sl os,C.sl ss,C.int .i64 r,C.int .i64 x,C.int .i64 3])))) (.must (decide (ns.length=ns.length)&&(false||ns.all fun r=>r.all C.flat)&&(decide (es.length=es.length)&&(false||es.all fun r=>r.all C.flat)&&(decide (os.length=os.length)&&(false||os.all fun r=>r.all C.flat)&&(decide (ss.length=ss.length)&&(false||ss.all fun r=>r.all C.flat)&&(true&&(false||true)&&(true&&(false||true)&&true)))))&&(true&&(false||true)&&true&&true)&&true) (.ret [C.sl ns,C.sl es,C.sl os,C.sl ss,C.int .i64 r,C.int .i64 x,C.int .i64 3])))))):T (List C)).eval:=aAj (by kernel_rfl)
theorem aCq (n b:Nat) (h:n≤16777217) (hb:b≤32):aBj n b=true:=by
 simp only[aBj,decide_eq_true_eq]
 calc (n+n / 4+192)*b≤(16777217+16777217 / 4+192)*32:=Nat.mul_le_mul (by omega) hb
  _≤281474976710656:=by decide
theorem cDc {ns:List (List C)} (h:bBy ns=true):(ns.all fun r=>r.all C.flat)=true:=by obtain⟨l,rfl,_⟩:=aLo h;exact aVr l
theorem aFc {ns es os ss:List (List C)} (h:aFj ns es os ss=true):(ns.all fun row=>decide (row.length=3))=true∧(es.all fun row=>decide (row.length=2))=true∧(os.all fun row=>decide (row.length=2))=true∧(ss.all fun row=>decide (row.length=1))=true ∧
  (ns.all fun r=>r.all C.flat)=true∧(es.all fun r=>r.all C.flat)=true∧(os.all fun r=>r.all C.flat)=true∧(ss.all fun r=>r.all C.flat)=true:=by
 obtain⟨d1,d2,d3⟩:=aCm.1 h
 obtain⟨s1,s2,s3⟩:=aH6.1 d3
 exact⟨cF6 d1,bJe d2,bJe s1,cBb s2,cDc d1,bG2 d2,bG2 s1,bX0 s2⟩
theorem aJd {ns es os ss:List (List C)} (h:aFj ns es os ss=true):ns.length≤16777216∧es.length≤16777216∧os.length≤16777216∧ss.length≤16777216∧os.length+ss.length≤16777216:=by
 obtain⟨d1,d2,d3⟩:=aCm.1 h
 obtain⟨s1,s2,s3⟩:=aH6.1 d3
 exact⟨(aO6.1 d1).2.1,(aS3.1 d2).2.1,by omega,by omega,s3⟩
theorem cCi:aAa Tryz.prog bY3:=aA8 (by simp[])
theorem aH7:aAx Tryz.prog 138 (sg [aB0] [aBz]) aJw:=aA6 cCi aAb Tryz.func138 (by kernel_rfl) fun cs outs hk h=>by
 unfold aJw at h
 split at h
 ·simp only[Option.some.injEq,Prod.mk.injEq]at h
  obtain⟨hd,rfl⟩:=h
  rename_i ns es os ss r x
  obtain⟨n3,e2,o2,s1,nf,ef,of',sf⟩:=aFc hd
  obtain⟨l1,l2,l3,l4,_⟩:=aJd hd
  rw[aAd,bRy]
  have r1:=aCq ns.length 32 (by omega) (by omega)
  have r2:=aCq es.length 24 (by omega) (by omega)
  have r3:=aCq os.length 24 (by omega) (by omega)
  have r4:=aCq ss.length 16 (by omega) (by omega)
  simp only[aA1,aA4,aA3,List.take_length,List.append_eq,decide_true,Bool.and_self,Bool.and_true,Bool.true_and,Bool.or_true,Bool.false_or,if_true,Nat.zero_add,Nat.le_refl,Nat.reduceLT,n3,e2,o2,s1,nf,ef,of',sf,r1,r2,r3,r4]
 ·cases h
theorem aJ4 {os ss:List (List C)} {nm:List UInt8}:aF2 os ss nm=true↔os.length+ss.length<16777216∧nm.length≤1000000:=by simp only[aF2,dN,Bool.and_eq_true,decide_eq_true_eq]
theorem aS9 {ns:List (List C)} (os ss:List (List C)) (h:bBy ns=true):bBy (aCx ns os ss)=true:=by
 obtain⟨l,rfl,e,hl,ht⟩:=aLo h
 unfold aCx
 rw[aGh,aO5]
 exact⟨Nat.le_trans (List.length_filter_le _ _) hl,fun x hx=>ht x (List.mem_filter.1 hx).1⟩
theorem bG9 {es:List (List C)} (nm:List UInt8) (h:aKh es=true):aKh (aBo es nm)=true:=by
 obtain⟨l,rfl,e,hl,ht⟩:=aI8 h
 rw[aYs,aLw]
 exact⟨Nat.le_trans (aKz _ _) hl,fun x hx=>ht x (aKy hx)⟩
theorem bVh {es:List (List C)} (nm:List UInt8) (id:Int) (h:aKh es=true) (hl:es.length<16777216) (hn:nm.length≤16777216):aKh (aG3 es nm id)=true:=by
 obtain⟨l,rfl,e,_,ht⟩:=aI8 h
 rw[List.length_map]at hl
 rw[aRk,aLw]
 refine⟨Nat.le_trans (aRm _ _) hl,fun x hx=>?_⟩
 rcases aRl hx with rfl | hx
 ·exact hn
 ·exact ht x hx
theorem bP4 {os ss:List (List C)} {s:List UInt8} (h:stB os ss=true) (hl:os.length+ss.length<16777216) (hs:s.length≤16777216):stB os (ss1 ss s)=true:=by
 obtain⟨s1,s2,s3⟩:=aH6.1 h
 obtain⟨t,rfl,e,_,ht⟩:=aWh s2
 rw[List.length_map]at hl
 have em:ss1 (t.map aAt) s=(t++[s]).map aAt:=by simp[ss1]
 rw[em,aH6]
 refine⟨s1,bP2.2 ⟨by simp;omega,fun x hx=>?_⟩,by simp;omega⟩
 rcases List.mem_append.1 hx with hx | hx
 ·exact ht x hx
 ·have:x=s:=by simpa using hx
  rw[this];exact hs
theorem bLx (ss:List (List C)) (s:List UInt8):(ss1 ss s).length=ss.length+1:=by simp[ss1]
theorem bXa {es:List (List C)} (h:aKh es=true):(decide (es.length≤aMj)&&aAp [K.str,K.int .i64] es)=true:=by
 obtain⟨l,rfl,e,hl,_⟩:=aI8 h
 rw[List.length_map]
 exact bXd l hl
theorem bUc:aAa Tryz.prog bL0:=aA8 (by simp[aF4,aQ3,aF7,aJm,aH7])
theorem aR5:aAx Tryz.prog 107 (sg [aB0,pS] [aBz,rI]) bPe:=aA6 bUc aAb Tryz.func107 (by kernel_rfl) fun cs outs hk h=>by
 unfold bPe at h
 split at h
 ·simp only[Option.some.injEq,Prod.mk.injEq,Bool.and_eq_true]at h
  obtain⟨⟨hd,hm⟩,rfl⟩:=h
  rename_i ns es os ss r x nm
  obtain⟨n3,e2,o2,s1,nf,ef,of',sf⟩:=aFc hd
  obtain⟨l1,l2,l3,l4,_⟩:=aJd hd
  obtain⟨d1,d2,d3⟩:=aCm.1 hd
  obtain⟨m1,m2⟩:=aJ4.1 hm
  have hd2:aFj ns (aBo es nm) os (ss1 ss ([45]++nm))=true:=aCm.2 ⟨d1,bG9 nm d2,bP4 d3 m1 (by simp;omega)⟩
  have hd3:aFj (aCx ns os (ss1 ss ([45]++nm))) (aBo es nm) os (ss1 ss ([45]++nm))=true:=aCm.2 ⟨aS9 _ _ d1,bG9 nm d2,bP4 d3 m1 (by simp;omega)⟩
  obtain⟨p1,p2,p3,p4,p5,p6,p7,p8⟩:=aFc hd3
  have e1:ss++[[C.str ([45]++nm)]]=ss1 ss ([45]++nm):=rfl
  have r4:=aCq (ss.length+1) 16 (by omega) (by omega)
  have big:=bXa d2
  have k1:1+nm.length≤9223372036854775807:=by omega
  show _=some ([.sl (rmN ns es os ss r x nm),.sl (rmE ns es os ss r x nm),.sl os,.sl (rmS ns es os ss r x nm),.int .i64 r,.int .i64 x,.int .i64 (rmC ns es os ss r x nm)]:List C)
  rw[aAd,bHj]
  unfold rmN rmE rmS rmC bS6
  cases c1:aFg ns es os ss r x
  ·simp only[aA1,aA4,aA3,List.take_length,List.append_eq,decide_true,Bool.and_self,Bool.and_true,Bool.true_and,Bool.or_true,Bool.false_or,if_true,Nat.zero_add,Nat.le_refl,Nat.reduceLT,hd,n3,e2,o2,s1,nf,ef,of',sf,c1,Bool.false_and,Bool.false_eq_true,if_false]
  ·cases c2:aGz (ens es) nm
   ·simp only[aA1,aA4,aA3,List.take_length,List.append_eq,decide_true,Bool.and_self,Bool.and_true,Bool.true_and,Bool.or_true,Bool.false_or,if_true,Nat.zero_add,Nat.le_refl,Nat.reduceLT,hd,n3,e2,o2,s1,nf,ef,of',sf,c1,c2,big,Bool.false_eq_true,if_false]
   ·simp only[aA1,aA4,aA3,List.take_length,List.append_eq,decide_true,Bool.and_self,Bool.and_true,Bool.true_and,Bool.or_true,Bool.false_or,if_true,Nat.zero_add,Nat.le_refl,Nat.reduceLT,hd,n3,e2,o2,s1,nf,ef,of',sf,c1,c2,big,d2,p2,k1,r4,e1,bLx,hd2,p1,p3,p4,p5,p6,p7,p8]
 ·cases h
theorem cF1:bYs []=true:=rfl
theorem bHf:aAa Tryz.prog aUs:=aA8 (by simp[aF7,aJm,aH7])
theorem aM8:aAx Tryz.prog 108 (sg [aB0] [aBz]) bP5:=aA6 bHf aAb Tryz.func108 (by kernel_rfl) fun cs outs hk h=>by
 unfold bP5 at h
 split at h
 ·simp only[Option.some.injEq,Prod.mk.injEq]at h
  obtain⟨hd,rfl⟩:=h
  rename_i ns es os ss r x
  obtain⟨n3,e2,o2,s1,nf,ef,of',sf⟩:=aFc hd
  obtain⟨l1,l2,l3,l4,_⟩:=aJd hd
  obtain⟨d1,d2,d3⟩:=aCm.1 hd
  have st:stB es []=true:=aH6.2 ⟨d2,cF1,by simpa using l2⟩
  have hd2:aFj ns es es []=true:=aCm.2 ⟨d1,d2,st⟩
  have hd3:aFj (aCx ns es []) es es []=true:=aCm.2 ⟨aS9 _ _ d1,d2,st⟩
  obtain⟨p1,p2,p3,p4,p5,p6,p7,p8⟩:=aFc hd3
  have r2:=aCq es.length 24 (by omega) (by omega)
  show _=some ([.sl (snN ns es os ss r x),.sl es,.sl (snO ns es os ss r x),.sl (snS ns es os ss r x),.int .i64 r,.int .i64 x]:List C)
  rw[aAd,aWu]
  unfold snN snO snS
  cases c1:aFg ns es os ss r x
  ·simp only[aA1,aA4,aA3,List.take_length,List.append_eq,decide_true,Bool.and_self,Bool.and_true,Bool.true_and,Bool.or_true,Bool.false_or,if_true,Nat.zero_add,Nat.le_refl,Nat.reduceLT,hd,n3,e2,o2,s1,nf,ef,of',sf,c1,Bool.false_eq_true,if_false]
  ·simp only[aA1,aA4,aA3,List.take_length,List.append_eq,decide_true,Bool.and_self,Bool.and_true,Bool.true_and,Bool.or_true,Bool.false_or,if_true,Nat.zero_add,Nat.le_refl,Nat.reduceLT,hd,n3,e2,o2,s1,nf,ef,of',sf,c1,r2,hd2,p1,p5]
 ·cases h
theorem aHy {ns es os ss:List (List C)} {r x:Int} (hd:aFj ns es os ss=true) (h:aFg ns es os ss r x=true):ns.length≤64∧es.length≤16∧(0≤r∧r≤1000000000)∧(1≤x∧x≤1000000000)∧(aEv (nds ns):Int)≤r∧∀ e∈ens es,0≤aAz (nds ns) e.id:=by
 have nl:(nds ns).length=ns.length:=by unfold nds;rw[List.length_map]
 have el:(ens es).length=es.length:=by unfold ens;rw[List.length_map]
 unfold aFg bOi at h
 simp only[Bool.and_eq_true,decide_eq_true_eq,List.all_eq_true]at h
 obtain⟨⟨⟨⟨⟨h1,h2⟩,h3⟩,h4⟩,_⟩,h6⟩:=h
 have hk:=h6 (aCp ss).length (List.mem_range.2 (by omega))
 unfold aWi at hk
 simp only[decide_true,Bool.not_true,Bool.false_or,Bool.and_eq_true,decide_eq_true_eq]at hk
 obtain⟨⟨_,k2⟩,k3⟩:=hk
 rw[k3]at k2
 unfold aKx at k2
 simp only[Bool.and_eq_true,decide_eq_true_eq]at k2
 have all:∀ (l:List En) (q:Option (List UInt8)),aYr (nds ns) l q=true→∀ e∈l,0≤aAz (nds ns) e.id:=by
  intro l
  induction l with
  |nil=>intro q _ e he;cases he
  |cons y l ih =>
   intro q hq e he
   unfold aYr at hq
   simp only[Bool.and_eq_true,decide_eq_true_eq]at hq
   rcases List.mem_cons.1 he with rfl | he
   ·exact hq.1.1.2
   ·exact ih _ hq.2 e he
 exact⟨by omega,by omega,(aBi _ _ _).1 h2,(aBi _ _ _).1 h3,h4,all _ _ k2.1⟩
theorem cF4 {ns:List (List C)} (x:Int) (h:bBy ns=true) (hl:ns.length<16777216):bBy (ns++[eNd ⟨x,[],0⟩])=true:=by
 obtain⟨l,rfl,e,_,ht⟩:=aLo h
 rw[List.length_map]at hl
 have em:l.map eNd++[eNd ⟨x,[],0⟩]=(l++[(⟨x,[],0⟩:Nd)]).map eNd:=by simp
 rw[em,aO5]
 refine⟨by simp;omega,fun y hy=>?_⟩
 rcases List.mem_append.1 hy with hy | hy
 ·exact ht y hy
 ·have:y=⟨x,[],0⟩:=by simpa using hy
  rw[this];simp
theorem bUs:aAa Tryz.prog bL7:=aA8 (by simp[aF4,bCb,aGf,aTd,aF7,aJm,aH7])
theorem aR9:aAx Tryz.prog 111 (sg [aB0,pS] [aBz,rI]) bPz:=aA6 bUs aAb Tryz.func111 (by kernel_rfl) fun cs outs hk h=>by
 unfold bPz at h
 split at h
 ·simp only[Option.some.injEq,Prod.mk.injEq,Bool.and_eq_true]at h
  obtain⟨⟨hd,hm⟩,rfl⟩:=h
  rename_i ns es os ss r x nm
  obtain⟨n3,e2,o2,s1,nf,ef,of',sf⟩:=aFc hd
  obtain⟨l1,l2,l3,l4,_⟩:=aJd hd
  obtain⟨d1,d2,d3⟩:=aCm.1 hd
  obtain⟨m1,m2⟩:=aJ4.1 hm
  have big:=bXa d2
  have k0:nm.length≤281474976710656:=by omega
  show _=some ([.sl (crN ns es os ss r x nm),.sl (crE ns es os ss r x nm),.sl os,.sl (crS ns es os ss r x nm),.int .i64 r,.int .i64 (crX ns es os ss r x nm),.int .i64 (crC ns es os ss r x nm)]:List C)
  rw[aAd,bIe]
  unfold crN crE crS crX crC
  cases c1:aFg ns es os ss r x
  ·simp only[aA1,aA4,aA3,List.take_length,List.append_eq,decide_true,Bool.and_self,Bool.and_true,Bool.true_and,Bool.or_true,Bool.false_or,if_true,Nat.zero_add,Nat.le_refl,Nat.reduceLT,hd,n3,e2,o2,s1,nf,ef,of',sf,c1,Bool.false_eq_true,if_false,Int.reduceEq]
  ·obtain⟨f1,f2,f3,f4,_,_⟩:=aHy hd c1
   cases c2:aEf nm
   ·simp only[aA1,aA4,aA3,List.take_length,List.append_eq,decide_true,Bool.and_self,Bool.and_true,Bool.true_and,Bool.or_true,Bool.false_or,if_true,Nat.zero_add,Nat.le_refl,Nat.reduceLT,hd,n3,e2,o2,s1,nf,ef,of',sf,c1,c2,k0,Bool.false_eq_true,if_false,Int.reduceEq]
   ·cases c3:aGz (ens es) nm
    ·by_cases q1:16≤es.length
     ·have q1':(16:Int)≤es.length:=by omega
      simp only[aA1,aA4,aA3,List.take_length,List.append_eq,decide_true,Bool.and_self,Bool.and_true,Bool.true_and,Bool.or_true,Bool.false_or,if_true,Nat.zero_add,Nat.le_refl,Nat.reduceLT,hd,n3,e2,o2,s1,nf,ef,of',sf,c1,c2,c3,k0,big,q1,q1',true_or,Bool.false_eq_true,if_false,Int.reduceEq]
     ·have q1':¬(16:Int)≤es.length:=by omega
      by_cases q2:64≤ns.length
      ·have q2':(64:Int)≤ns.length:=by omega
       simp only[aA1,aA4,aA3,List.take_length,List.append_eq,decide_true,Bool.and_self,Bool.and_true,Bool.true_and,Bool.or_true,Bool.false_or,if_true,Nat.zero_add,Nat.le_refl,Nat.reduceLT,hd,n3,e2,o2,s1,nf,ef,of',sf,c1,c2,c3,k0,big,q1,q1',q2,q2',true_or,or_true,decide_false,Bool.false_eq_true,if_false,Int.reduceEq]
      ·have q2':¬(64:Int)≤ns.length:=by omega
       by_cases q3:1000000000≤x
       ·simp only[aA1,aA4,aA3,List.take_length,List.append_eq,decide_true,Bool.and_self,Bool.and_true,Bool.true_and,Bool.or_true,Bool.false_or,if_true,Nat.zero_add,Nat.le_refl,Nat.reduceLT,hd,n3,e2,o2,s1,nf,ef,of',sf,c1,c2,c3,k0,big,q1,q1',q2,q2',q3,true_or,or_true,decide_false,Bool.false_eq_true,if_false,Int.reduceEq]
       ·have dl:=bKm x
        have sl:([43]++nm++[58]++aGt x).length≤16777216:=by simp;omega
        have em:[43]++nm++[58]++aGt x=aS8 nm x:=rfl
        rw[em]at sl
        have st:=bP4 d3 m1 sl
        have pe:=bVh nm x d2 (by omega) (by omega)
        have nn:=cF4 x d1 (by omega)
        have hd2:aFj (ns++[eNd ⟨x,[],0⟩]) (aG3 es nm x) os (ss1 ss (aS8 nm x))=true:=aCm.2 ⟨nn,pe,st⟩
        have hd3:aFj (aCx (ns++[eNd ⟨x,[],0⟩]) os (ss1 ss (aS8 nm x))) (aG3 es nm x) os (ss1 ss (aS8 nm x))=true:=aCm.2 ⟨aS9 _ _ nn,pe,st⟩
        obtain⟨p1,p2,p3,p4,p5,p6,p7,p8⟩:=aFc hd3
        have e1:ss++[[C.str (aS8 nm x)]]=ss1 ss (aS8 nm x):=rfl
        have e3:ns++[[C.int .i64 x,C.str [],C.int .i64 0]]=ns++[eNd ⟨x,[],0⟩]:=rfl
        have tk:List.take (ns.length+1) (ns++[eNd ⟨x,[],0⟩])=ns++[eNd ⟨x,[],0⟩]:=by rw[List.take_of_length_le];simp
        have r1:=aCq (ns.length+1) 32 (by omega) (by omega)
        have r4:=aCq (ss.length+1) 16 (by omega) (by omega)
        have k1:1+nm.length≤9223372036854775807:=by omega
        have k2:([43]++nm).length+1≤9223372036854775807:=by simp;omega
        have k3:([43]++nm++[58]).length+(aGt x).length≤9223372036854775807:=by simp;omega
        have k4:inB x 0 9223372036854775807=true:=by rw[aBi];omega
        have w:IntKind.i64.wrap (x+1)=x+1:=by rw[aAh]<;>omega
        simp only[aA1,aA4,aA3,List.take_length,List.append_eq,decide_true,Bool.and_self,Bool.and_true,Bool.true_and,Bool.or_true,Bool.false_or,if_true,Nat.zero_add,Nat.le_refl,Nat.reduceLT,hd,n3,e2,o2,s1,nf,ef,of',sf,c1,c2,c3,k0,big,q1,q1',q2,q2',q3,r1,d2,k1,k2,k3,k4,r4,em,e1,e3,tk,bLx,hd2,w,p1,p2,p3,p4,p5,p6,p7,p8,or_self,decide_false,Bool.false_eq_true,if_false]
    ·simp only[aA1,aA4,aA3,List.take_length,List.append_eq,decide_true,Bool.and_self,Bool.and_true,Bool.true_and,Bool.or_true,Bool.false_or,if_true,Nat.zero_add,Nat.le_refl,Nat.reduceLT,hd,n3,e2,o2,s1,nf,ef,of',sf,c1,c2,c3,k0,big,Bool.false_eq_true,if_false,Int.reduceEq]
 ·cases h
theorem bJo {A:Type} (p:A→Bool):∀ (l:List A) (i:Nat) (d:A),0≤aDb p l i→i≤(aDb p l i).toNat∧(aDb p l i).toNat<i+l.length∧l.getD ((aDb p l i).toNat-i) d∈l∧p (l.getD ((aDb p l i).toNat-i) d)=true
 |[],i,d,h=>by simp[aDb]at h
 |x::r,i,d,h=>by
  unfold aDb at h ⊢
  by_cases c:p x=true
  ·rw[if_pos c]at h ⊢
   simp[c]
  ·rw[if_neg c]at h ⊢
   obtain⟨a1,a2,a3,a4⟩:=bJo p r (i+1) d h
   have e:(aDb p r (i+1)).toNat-i=((aDb p r (i+1)).toNat-(i+1))+1:=by omega
   rw[e,List.getD_cons_succ]
   exact⟨by omega,by simp;omega,List.mem_cons_of_mem _ a3,a4⟩
theorem bVz {ns es os ss:List (List C)} {r x:Int} {nm:List UInt8} (hd:aFj ns es os ss=true) (h:aFg ns es os ss r x=true) (hh:aGz (ens es) nm=true):0≤aAz (nds ns) (aBb (ens es) nm)∧aAz (nds ns) (aBb (ens es) nm)<ns.length:=by
 obtain⟨_,_,_,_,_,f⟩:=aHy hd h
 unfold aGz at hh
 simp only[decide_eq_true_eq]at hh
 have hit:=bJo (bXb nm) (ens es) 0 ⟨[],0⟩ hh
 have e:aBb (ens es) nm=((ens es).getD (aCd (ens es) nm).toNat ⟨[],0⟩).id:=by unfold aBb;rw[if_neg (by omega)]
 have nl:(nds ns).length=ns.length:=by unfold nds;rw[List.length_map]
 have k:=f _ hit.2.2.1
 rw[Nat.sub_zero]at k
 rw[e]
 refine⟨k,?_⟩
 rcases bBw (nds ns) ((ens es).getD (aCd (ens es) nm).toNat ⟨[],0⟩).id with q | q
 ·have:aAz (nds ns) ((ens es).getD (aDb (bXb nm) (ens es) 0).toNat ⟨[],0⟩).id= -1:=q
  omega
 ·rw[nl]at q;exact q.2
theorem bH2 {l:List Nd} {k:Nat} (h:k<l.length):(l.getD k ⟨0,[],0⟩).text.length≤aEv l:=by
 have h1:=bBi l k h
 have h2:=bBh l (k+1)
 omega
theorem cGv (y:Nd) (t:List UInt8):((List.take 1 (eNd y))++[C.str (y.text++t)])++List.drop (1+1) (eNd y)=eNd (cBm y t):=rfl
theorem cGb (y:Nd) (n:Int):((List.take 2 (eNd y))++[C.int .i64 n])++List.drop (2+1) (eNd y)=eNd ⟨y.id,y.text,n⟩:=rfl
theorem cF3 {ns:List (List C)} (h:bBy ns=true):(decide (ns.length≤aMj)&&aAp [K.int .i64,K.str,K.int .i64] ns)=true:=cB7 h
theorem bEt (l:List Nd) (k:Nat) (y:Nd):(l.map eNd).set k (eNd y)=(l.set k y).map eNd:=(List.map_set).symm
theorem bUu:aAa Tryz.prog bL9:=aA8 (by simp[aHx,aF4,aIf,aWr,aF7,aH7])
theorem aRc:aAx Tryz.prog 112 (sg [aB0,pS,pS] [aBz,rI]) bQ5:=aA6 bUu aAb Tryz.func112 (by kernel_rfl) fun cs outs hk h=>by
 unfold bQ5 at h
 split at h
 ·simp only[Option.some.injEq,Prod.mk.injEq,Bool.and_eq_true,decide_eq_true_eq]at h
  obtain⟨⟨hd,hm⟩,rfl⟩:=h
  rename_i ns es os ss r x nm t
  obtain⟨d1,d2,d3⟩:=aCm.1 hd
  obtain⟨l,rfl,e,hl,ht⟩:=aLo d1
  obtain⟨n3,e2,o2,s1,nf,ef,of',sf⟩:=aFc hd
  obtain⟨l1,l2,l3,l4,_⟩:=aJd hd
  have big:=bXa d2
  have big2:=cF3 d1
  have big3:=big2
  rw[List.length_map]at big3
  have tl:t.length≤16777216:=hm
  show _=some ([.sl (apN (l.map eNd) es os ss r x nm t),.sl es,.sl os,.sl ss,.int .i64 r,.int .i64 x,.int .i64 (apC (l.map eNd) es os ss r x nm t)]:List C)
  rw[aAd,bIk]
  unfold apN apC bS6 ndK bJ8
  cases c1:aFg (l.map eNd) es os ss r x
  ·simp only[aA1,aA4,aA3,List.take_length,List.append_eq,decide_true,Bool.and_self,Bool.and_true,Bool.true_and,Bool.or_true,Bool.false_or,if_true,Nat.zero_add,Nat.le_refl,Nat.reduceLT,hd,n3,e2,o2,s1,nf,ef,of',sf,c1,Bool.false_and,Bool.false_eq_true,if_false]
  ·cases c2:aGz (ens es) nm
   ·simp only[aA1,aA4,aA3,List.take_length,List.append_eq,decide_true,Bool.and_self,Bool.and_true,Bool.true_and,Bool.or_true,Bool.false_or,if_true,Nat.zero_add,Nat.le_refl,Nat.reduceLT,hd,n3,e2,o2,s1,nf,ef,of',sf,c1,c2,big,Bool.false_eq_true,if_false]
   ·obtain⟨k1,k2⟩:=bVz hd c1 c2
    obtain⟨_,_,f3,_,f5,_⟩:=aHy hd c1
    rw[aGh]at k1 k2 f5
    rw[List.length_map]at k2
    obtain⟨k,hk⟩:=Int.eq_ofNat_of_zero_le k1
    have hkl:k<l.length:=by omega
    have g:=aBc eNd l ⟨0,[],0⟩ k hkl
    have un:=bH2 hkl
    have tx:=ht _ (aJt (d:=⟨0,[],0⟩) hkl)
    have w:IntKind.i64.wrap (r-Int.ofNat (aEv l))=r-aEv l:=by
     show IntKind.i64.wrap (r-(aEv l:Int))=_
     rw[aAh]<;>omega
    have m1:(0:Int)≤k:=by omega
    have m2:(k:Int)<l.length:=by omega
    have m3:(0:Int)≤r-aEv l:=by omega
    have tkl:List.take l.length (l.map eNd)=l.map eNd:=by rw[List.take_of_length_le];simp
    generalize hy:l.getD k ⟨0,[],0⟩=y at g un tx
    have m4:y.text.length+t.length≤9223372036854775807:=by omega
    have m5:y.text.length+(List.take (r-(aEv l:Int)).toNat t).length≤9223372036854775807:=by rw[List.length_take];omega
    simp only[aA1,aA4,aA3,List.take_length,List.append_eq,decide_true,Bool.and_self,Bool.and_true,Bool.true_and,Bool.or_true,Bool.false_or,if_true,Nat.zero_add,Nat.le_refl,Nat.reduceLT,hd,n3,e2,o2,s1,nf,ef,of',sf,c1,c2,big,big2,big3,d1,aGh,tkl,hk,w,m1,m2,m3,hkl,Int.toNat_natCast,List.length_map,g,hy,cGv,bEt,List.length_set,aVr,List.getD_cons_succ,List.getD_cons_zero,C.toStr,C.is,List.length_cons,List.length_nil,Nat.reduceAdd,List.drop_zero,m4,m5,decide_eq_true_eq]
    by_cases c3:r-(aEv l:Int)<t.length
    ·have m6:r-(aEv l:Int)≤t.length:=by omega
     simp only[c3,m6,decide_true,Bool.and_self,if_true]
    ·simp only[c3,if_false]
 ·cases h
theorem cC7:aAa Tryz.prog bXw:=aA8 (by simp[aHx,aF4,aIf,aF7,aH7])
theorem aWt:aAx Tryz.prog 109 (sg [aB0,pS] [aBz,rI]) bP0:=aA6 cC7 aAb Tryz.func109 (by kernel_rfl) fun cs outs hk h=>by
 unfold bP0 at h
 split at h
 ·simp only[Option.some.injEq,Prod.mk.injEq]at h
  obtain⟨hd,rfl⟩:=h
  rename_i ns es os ss r x nm
  obtain⟨d1,d2,d3⟩:=aCm.1 hd
  obtain⟨l,rfl,e,hl,ht⟩:=aLo d1
  obtain⟨n3,e2,o2,s1,nf,ef,of',sf⟩:=aFc hd
  have big:=bXa d2
  have big2:=cF3 d1
  have big3:=big2
  rw[List.length_map]at big3
  show _=some ([.sl (syN (l.map eNd) es os ss r x nm),.sl es,.sl os,.sl ss,.int .i64 r,.int .i64 x,.int .i64 (rmC (l.map eNd) es os ss r x nm)]:List C)
  rw[aAd,bR6]
  unfold syN rmC bS6 ndK
  cases c1:aFg (l.map eNd) es os ss r x
  ·simp only[aA1,aA4,aA3,List.take_length,List.append_eq,decide_true,Bool.and_self,Bool.and_true,Bool.true_and,Bool.or_true,Bool.false_or,if_true,Nat.zero_add,Nat.le_refl,Nat.reduceLT,hd,n3,e2,o2,s1,nf,ef,of',sf,c1,Bool.false_and,Bool.false_eq_true,if_false]
  ·cases c2:aGz (ens es) nm
   ·simp only[aA1,aA4,aA3,List.take_length,List.append_eq,decide_true,Bool.and_self,Bool.and_true,Bool.true_and,Bool.or_true,Bool.false_or,if_true,Nat.zero_add,Nat.le_refl,Nat.reduceLT,hd,n3,e2,o2,s1,nf,ef,of',sf,c1,c2,big,Bool.false_eq_true,if_false]
   ·obtain⟨k1,k2⟩:=bVz hd c1 c2
    rw[aGh]at k1 k2
    rw[List.length_map]at k2
    obtain⟨k,hk⟩:=Int.eq_ofNat_of_zero_le k1
    have hkl:k<l.length:=by omega
    have g:=aBc eNd l ⟨0,[],0⟩ k hkl
    have m1:(0:Int)≤k:=by omega
    have m2:(k:Int)<l.length:=by omega
    have tkl:List.take l.length (l.map eNd)=l.map eNd:=by rw[List.take_of_length_le];simp
    generalize hy:l.getD k ⟨0,[],0⟩=y at g
    simp only[aA1,aA4,aA3,List.take_length,List.append_eq,decide_true,Bool.and_self,Bool.and_true,Bool.true_and,Bool.or_true,Bool.false_or,if_true,Nat.zero_add,Nat.le_refl,Nat.reduceLT,hd,n3,e2,o2,s1,nf,ef,of',sf,c1,c2,big,big2,big3,d1,aGh,tkl,hk,m1,m2,hkl,Int.toNat_natCast,List.length_map,g,hy,cGb,bEt,List.length_set,aVr,List.getD_cons_succ,List.getD_cons_zero,C.toStr,C.is,List.length_cons,List.length_nil,Nat.reduceAdd]
 ·cases h
theorem bUb:aAa Tryz.prog bKz:=aA8 (by simp[aHx,aF4,aGf,aTd,aQ3,aF7,aJm,aH7])
theorem bDo:aAx Tryz.prog 110 (sg [aB0,pS,pS] [aBz,rI]) bV3:=aA6 bUb aAb Tryz.func110 (by kernel_rfl) fun cs outs hk h=>by
 unfold bV3 at h
 split at h
 ·simp only[Option.some.injEq,Prod.mk.injEq,Bool.and_eq_true]at h
  obtain⟨⟨hd,hm,hm2⟩,rfl⟩:=h
  rename_i ns es os ss r x a b
  obtain⟨n3,e2,o2,s1,nf,ef,of',sf⟩:=aFc hd
  obtain⟨l1,l2,l3,l4,_⟩:=aJd hd
  obtain⟨d1,d2,d3⟩:=aCm.1 hd
  obtain⟨m1,m2⟩:=aJ4.1 hm
  obtain⟨_,m3⟩:=aJ4.1 hm2
  have big:=bXa d2
  have k0:b.length≤281474976710656:=by omega
  show _=some ([.sl (rnN ns es os ss r x a b),.sl (rnE ns es os ss r x a b),.sl os,.sl (rnS ns es os ss r x a b),.int .i64 r,.int .i64 x,.int .i64 (rnC ns es os ss r x a b)]:List C)
  rw[aAd,bHi]
  unfold rnN rnE rnS rnC bS6
  cases c1:aFg ns es os ss r x
  ·simp only[aA1,aA4,aA3,List.take_length,List.append_eq,decide_true,Bool.and_self,Bool.and_true,Bool.true_and,Bool.or_true,Bool.false_or,if_true,Nat.zero_add,Nat.le_refl,Nat.reduceLT,hd,n3,e2,o2,s1,nf,ef,of',sf,c1,Bool.false_and,Bool.false_eq_true,if_false,Int.reduceEq]
  ·cases c2:aGz (ens es) a
   ·simp only[aA1,aA4,aA3,List.take_length,List.append_eq,decide_true,Bool.and_self,Bool.and_true,Bool.true_and,Bool.or_true,Bool.false_or,if_true,Nat.zero_add,Nat.le_refl,Nat.reduceLT,hd,n3,e2,o2,s1,nf,ef,of',sf,c1,c2,big,Bool.false_eq_true,if_false,Int.reduceEq]
   ·cases c3:aEf b
    ·simp only[aA1,aA4,aA3,List.take_length,List.append_eq,decide_true,Bool.and_self,Bool.and_true,Bool.true_and,Bool.or_true,Bool.false_or,if_true,Nat.zero_add,Nat.le_refl,Nat.reduceLT,hd,n3,e2,o2,s1,nf,ef,of',sf,c1,c2,c3,k0,big,Bool.false_eq_true,if_false,Int.reduceEq]
    ·by_cases c4:a=b
     ·have c4':(a==b)=true:=by simpa using c4
      simp only[aA1,aA4,aA3,List.take_length,List.append_eq,decide_true,Bool.and_self,Bool.and_true,Bool.true_and,Bool.or_true,Bool.false_or,if_true,Nat.zero_add,Nat.le_refl,Nat.reduceLT,hd,n3,e2,o2,s1,nf,ef,of',sf,c1,c2,c3,c4',k0,big,if_pos c4,Bool.false_eq_true,if_false,Int.reduceEq]
     ·have c4':(a==b)=false:=by simpa using c4
      obtain⟨f1,f2,f3,f4,_,_⟩:=aHy hd c1
      have dr:=bG9 a d2
      have dl:(aBo es a).length≤es.length:=by unfold aBo;rw[List.length_map];have:=aKz (ens es) a;unfold ens at this ⊢;rw[List.length_map]at this;exact this
      have pe:=bVh b (aBb (ens es) a) dr (by omega) (by omega)
      have em:[62]++a++[58]++b=aPg a b:=rfl
      have sl:(aPg a b).length≤16777216:=by rw[←em];simp;omega
      have st:=bP4 d3 m1 sl
      have hd2:aFj ns (aG3 (aBo es a) b (aBb (ens es) a)) os (ss1 ss (aPg a b))=true:=aCm.2 ⟨d1,pe,st⟩
      have hd3:aFj (aCx ns os (ss1 ss (aPg a b))) (aG3 (aBo es a) b (aBb (ens es) a)) os (ss1 ss (aPg a b))=true:=aCm.2 ⟨aS9 _ _ d1,pe,st⟩
      obtain⟨p1,p2,p3,p4,p5,p6,p7,p8⟩:=aFc hd3
      have q2:=bJe dr
      have e1:ss++[[C.str (aPg a b)]]=ss1 ss (aPg a b):=rfl
      have r4:=aCq (ss.length+1) 16 (by omega) (by omega)
      have k1:1+a.length≤9223372036854775807:=by omega
      have k2:([62]++a).length+1≤9223372036854775807:=by simp;omega
      have k3:([62]++a++[58]).length+b.length≤9223372036854775807:=by simp;omega
      simp only[aA1,aA4,aA3,List.take_length,List.append_eq,decide_true,Bool.and_self,Bool.and_true,Bool.true_and,Bool.or_true,Bool.false_or,if_true,Nat.zero_add,Nat.le_refl,Nat.reduceLT,hd,n3,e2,o2,s1,nf,ef,of',sf,c1,c2,c3,c4',if_neg c4,k0,big,d2,dr,q2,p2,k1,k2,k3,r4,em,e1,bLx,hd2,p1,p3,p4,p5,p6,p7,p8,Bool.false_eq_true,if_false]
 ·cases h
noncomputable section
def aDq (rows:List (List C)) (i h:Int) (l:List (List UInt8)):List UInt8:=l.getD (aAm rows i h l.length).toNat []
def aRn:aCf:=fun cs=>match cs with
 |[.sl rows,.int .i64 i,.int .i64 h,.sl l]=>some (aAs rows i&&(aAp [.str] l&&(decide (0<l.length)&&decide (l.length≤1048576))),[.str (aDq rows i h (aCp l)),.sl rows,.int .i64 (aA0 rows i l.length),.int .i64 (aA2 h l.length)])
 |_=>none
def bXx:Env:=mkE [] [(46,(⟨[aDa,pI],[rI],true⟩),aEh)]
def aN7 (r:Int):Int:=if r<0 then 0 else r
def aVw:aCf:=fun cs=>match cs with
 |[.int .i64 r]=>some (true,[.sl [],.sl [],.sl [],.sl [],.int .i64 (aN7 r),.int .i64 1])
 |_=>none
def bY2:Env:=mkE [] []
def oR (o:Option (List C)) (k:Nat):List (List C):=((o.getD []).getD k (.fn 0 [])).toRows
def oI (o:Option (List C)) (k:Nat):Int:=((o.getD []).getD k (.fn 0 [])).toInt
def cE5 (o:Option (List C)):Option (List C):=Classical.choose (show ∃ x,x=o from⟨o,rfl⟩)
def aTj (o:Option (List C)) (rows:List (List C)):List C:=[.sl (oR o 0),.sl (oR o 1),.sl (oR o 2),.sl (oR o 3),.int .i64 (oI o 4),.int .i64 (oI o 5),.sl rows,.int .i64 (oI o 7),.int .i64 (oI o 8)]
def bPl:List (List C):=[[C.str [97]],[C.str [98]],[C.str [115,48,48,48,48,48,48,48,48,46,115,101,103]],[C.str [115,48,48,48,48,48,48,48,51,46,115,101,103]],[C.str [115,48,48,48,48,48,48,48,48,46,115,101,103,46,116,109,112]],[C.str [99]]]
def cF0:List (List C):=[[C.str [98]],[C.str [120]],[C.str [115,48,48,48,48,48,48,48,51,46,115,101,103]]]
abbrev cGx (n m p q:Nat) (r x:Int):Blk:=.box [.ref 3 0 n,.ref 4 0 m,.ref 5 0 p,.ref 6 0 q,.i .i64 r,.i .i64 x]
def aHp (rows:List (List C)) (i h:Int) (n:Nat) (ns:List (List C)) (m:Nat) (es:List (List C)) (p:Nat) (os:List (List C)) (q:Nat) (ss:List (List C)) (r x j:Int):St:={slots:=[(0,.l (.ptr 0 0)),(2,.l (.ptr 1 0)),(3,.l (.ptr 2 0)),(4,aBf j)],heap:=[(0,.box [.sl rows,.i .i64 i,.i .i64 h]),(1,.box [.nil,.nil,.nil,.nil,.i .i64 0,.i .i64 0]),(2,cGx n m p q r x),(3,.arr 3 ns),(4,.arr 2 es),(5,.arr 2 os),(6,.arr 1 ss)],next:=7,pins:=[0]}
def aSs:Env:=mkE [(3,[0,2,3,4])] [(46,(⟨[aDa,pI],[rI],true⟩),aEh),(42,(⟨[aDa,pSl 3],[rI],true⟩),aLm),(47,(⟨[aDa,pI],[rS],true⟩),aQw),(107,(sg [aB0,pS] [aBz,rI]),bPe),(108,(sg [aB0] [aBz]),bP5),(111,(sg [aB0,pS] [aBz,rI]),bPz),(112,(sg [aB0,pS,pS] [aBz,rI]),bQ5),(109,(sg [aB0,pS] [aBz,rI]),bP0),(110,(sg [aB0,pS,pS] [aBz,rI]),bV3),(72,(⟨[aDa,pSl 9],[rS],true⟩),aRn),(14,(sg [pI] [aBz]),aVw)]
def aYu (rows:List (List C)) (i h:Int):Option (List C):=cE5 (bD4 aSs aAc ⟨[aDa],[aBz],true⟩ Tryz.f71 [.sl rows,.int .i64 i,.int .i64 h]).eval
def aYt:aCf:=fun cs=>match cs with
 |[.sl rows,.int .i64 i,.int .i64 h]=>some (aAs rows i,aTj (aYu rows i h) rows)
 |_=>none
end
theorem bRk (H:List Pt→Nat→St→T (List C)) (r:List (List C)) (i:Int) (h:Int) (l:List (List C)):(aAk bXx aAc {params:=[aDa,pSl 9],results:=[rS],nested:=true} Tryz.f72 H [C.sl r,C.int .i64 i,C.int .i64 h,C.sl l]).eval=((.must (aAs r i) (.must (decide ((0:Int)≤aAm r i h (↑l.length:Int))&&decide (aAm r i h (↑l.length:Int)<(↑l.length:Int))&&decide ((l.getD (aAm r i h (↑l.length:Int)).toNat []).length=1)) (.must (decide (0<(l.getD (aAm r i h (↑l.length:Int)).toNat []).length)&&C.is K.str ((l.getD (aAm r i h (↑l.length:Int)).toNat []).getD 0 (C.fn 0 []))&&true) (.ret [C.str ((l.getD (aAm r i h (↑l.length:Int)).toNat []).getD 0 (C.fn 0 [])).toStr,C.sl r,C.int .i64 (aA0 r i (↑l.length:Int)),C.int .i64 (aA2 h (↑l.length:Int))])))):T (List C)).eval:=aAj (by kernel_rfl)
theorem bRx (H:List Pt→Nat→St→T (List C)) (r:Int):(aAk bY2 aAc (sg [pI] [aBz]) Tryz.f14 H [C.int .i64 r]).eval=((.ask (decide (r<(0:Int))) (.ret [C.sl [],C.sl [],C.sl [],C.sl [],C.int .i64 0,C.int .i64 1]) (.ret [C.sl [],C.sl [],C.sl [],C.sl [],C.int .i64 r,C.int .i64 1])):T (List C)).eval:=aAj (by kernel_rfl)
theorem bMm (H:List Pt→Nat→St→T (List C)) (r:List (List C)) (i:Int) (h:Int):(aAk aSs aAc {params:=[aDa],results:=[aBz],nested:=true} Tryz.f71 H [C.sl r,C.int .i64 i,C.int .i64 h]).eval=((.must (aAs r i&&(aAp [K.int .i64] [[C.int .i64 4000],[C.int .i64 4000],[C.int .i64 4000],[C.int .i64 300],[C.int .i64 100]]&&(decide (0<5)&&decide (5≤1048576)))) (H [Pt.r,Pt.r,Pt.l,Pt.r,Pt.b] 9223372036854775808 (aHp (r) (aA0 r i (↑(5:Nat):Int)) (aA2 h (↑(5:Nat):Int)) (0) ([]) (0) ([]) (0) ([]) (0) ([]) (aN7 ((aDo [[C.int .i64 4000],[C.int .i64 4000],[C.int .i64 4000],[C.int .i64 300],[C.int .i64 100]]).getD (aAm r i h (↑(5:Nat):Int)).toNat 0)) ((1:Int)) ((0:Int))))):T (List C)).eval:=aAj (by kernel_rfl)
theorem bE9 (H:List Pt→Nat→St→T (List C)) (rows:List (List C)) (i:Int) (h:Int) (n:Nat) (ns:List (List C)) (q2:Nat) (es:List (List C)) (p:Nat) (os:List (List C)) (q:Nat) (ss:List (List C)) (r:Int) (x:Int) (j:Int) (k:Nat):(aBl aSs aAc {params:=[aDa],results:=[aBz],nested:=true} Tryz.f71 H [Pt.r,Pt.r,Pt.l,Pt.r,Pt.b] k (aHp rows i h n ns q2 es p os q ss r x j)).eval=(let d1:Dk:=(rmD {ns:=List.take n ns,es:=List.take q2 es,os:=List.take p os,ss:=List.take q ss,r:=r,x:=x} (aDq rows (aA0 rows i 9) (aA2 h 9) (aCp bPl)));let d2:Dk:=(snD {ns:=List.take n ns,es:=List.take q2 es,os:=List.take p os,ss:=List.take q ss,r:=r,x:=x});let d3:Dk:=(syD {ns:=List.take n ns,es:=List.take q2 es,os:=List.take p os,ss:=List.take q ss,r:=r,x:=x} (aDq rows (aA0 rows i 9) (aA2 h 9) (aCp bPl)));let d4:Dk:=(rnD {ns:=List.take n ns,es:=List.take q2 es,os:=List.take p os,ss:=List.take q ss,r:=r,x:=x} (aDq rows (aA0 rows i 9) (aA2 h 9) (aCp bPl)) (aDq rows (aA0 rows (aA0 rows (aA0 rows i 9) (↑(6:Nat):Int)) (8:Int)) (aA2 (aA2 (aA2 h 9) (↑(6:Nat):Int)) (8:Int)) (aCp cF0)));let d5:Dk:=(crD {ns:=List.take n ns,es:=List.take q2 es,os:=List.take p os,ss:=List.take q ss,r:=r,x:=x} (aDq rows (aA0 rows i 9) (aA2 h 9) (aCp bPl)));let s1:List UInt8:=(aE1 rows (aEw (aAm rows (aA0 rows (aA0 rows (aA0 rows i 9) (↑(6:Nat):Int)) (8:Int)) (aA2 (aA2 (aA2 h 9) (↑(6:Nat):Int)) (8:Int)) (12:Int))) (aA0 rows (aA0 rows (aA0 rows (aA0 rows i 9) (↑(6:Nat):Int)) (8:Int)) (12:Int)) (aA2 (aA2 (aA2 (aA2 h 9) (↑(6:Nat):Int)) (8:Int)) (12:Int)));let d6:Dk:=(apD {ns:=List.take d5.ns.length d5.ns,es:=List.take d5.es.length d5.es,os:=List.take d5.os.length d5.os,ss:=List.take d5.ss.length d5.ss,r:=d5.r,x:=d5.x} (aDq rows (aA0 rows i 9) (aA2 h 9) (aCp bPl)) s1);let z1:Int:=(aQy rows (aEw (aAm rows (aA0 rows (aA0 rows (aA0 rows i 9) (↑(6:Nat):Int)) (8:Int)) (aA2 (aA2 (aA2 h 9) (↑(6:Nat):Int)) (8:Int)) (12:Int))) (aA0 rows (aA0 rows (aA0 rows (aA0 rows i 9) (↑(6:Nat):Int)) (8:Int)) (12:Int)));let z2:Int:=(aT2 (aEw (aAm rows (aA0 rows (aA0 rows (aA0 rows i 9) (↑(6:Nat):Int)) (8:Int)) (aA2 (aA2 (aA2 h 9) (↑(6:Nat):Int)) (8:Int)) (12:Int))) (aA2 (aA2 (aA2 (aA2 h 9) (↑(6:Nat):Int)) (8:Int)) (12:Int)));(.must (aAs rows i) (.ask (decide (j<aAm rows i h 9)) (.must (aAs rows (aA0 rows i 9)&&(aAp [K.str] bPl&&(decide (0<6)&&decide (6≤1048576)))) (.must (aAs rows (aA0 rows (aA0 rows i 9) (↑(6:Nat):Int))) (.ask (decide (aAm rows (aA0 rows (aA0 rows i 9) (↑(6:Nat):Int)) (aA2 (aA2 h 9) (↑(6:Nat):Int)) (8:Int)=(0:Int))) (.must (aFj (List.take n ns) (List.take q2 es) (List.take p os) (List.take q ss)&&aF2 (List.take p os) (List.take q ss) (aDq rows (aA0 rows i 9) (aA2 h 9) (aCp bPl))) (.must ((true&&d1.ns.all fun row=>decide (row.length=3))&&((true&&d1.es.all fun row=>decide (row.length=2))&&((true&&d1.os.all fun row=>decide (row.length=2))&&((true&&d1.ss.all fun row=>decide (row.length=1))&&(decide (0<1)&&true&&(decide (0<1)&&true&&true)))))&&(decide (0<1)&&true&&true&&true)&&true) (H [Pt.r,Pt.r,Pt.l,Pt.r,Pt.b] k (aHp (rows) (aA0 rows (aA0 rows (aA0 rows i 9) (↑(6:Nat):Int)) (8:Int)) (aA2 (aA2 (aA2 h 9) (↑(6:Nat):Int)) (8:Int)) (d1.ns.length) (d1.ns) (d1.es.length) (d1.es) (d1.os.length) (d1.os) (d1.ss.length) (d1.ss) (d1.r) (d1.x) (IntKind.i64.wrap (j+(1:Int))))))) (.ask (decide (aAm rows (aA0 rows (aA0 rows i 9) (↑(6:Nat):Int)) (aA2 (aA2 h 9) (↑(6:Nat):Int)) (8:Int)=(1:Int))) (.must (aFj (List.take n ns) (List.take q2 es) (List.take p os) (List.take q ss)) (.must ((true&&d2.ns.all fun row=>decide (row.length=3))&&((true&&d2.es.all fun row=>decide (row.length=2))&&((true&&d2.os.all fun row=>decide (row.length=2))&&((true&&d2.ss.all fun row=>decide (row.length=1))&&(decide (0<1)&&true&&(decide (0<1)&&true&&true)))))&&true&&true) (H [Pt.r,Pt.r,Pt.l,Pt.r,Pt.b] k (aHp (rows) (aA0 rows (aA0 rows (aA0 rows i 9) (↑(6:Nat):Int)) (8:Int)) (aA2 (aA2 (aA2 h 9) (↑(6:Nat):Int)) (8:Int)) (d2.ns.length) (d2.ns) (d2.es.length) (d2.es) (d2.os.length) (d2.os) (d2.ss.length) (d2.ss) (d2.r) (d2.x) (IntKind.i64.wrap (j+(1:Int))))))) (.ask (decide (aAm rows (aA0 rows (aA0 rows i 9) (↑(6:Nat):Int)) (aA2 (aA2 h 9) (↑(6:Nat):Int)) (8:Int)=(2:Int))) (.must (aFj (List.take n ns) (List.take q2 es) (List.take p os) (List.take q ss)) (.must ((true&&d3.ns.all fun row=>decide (row.length=3))&&((true&&d3.es.all fun row=>decide (row.length=2))&&((true&&d3.os.all fun row=>decide (row.length=2))&&((true&&d3.ss.all fun row=>decide (row.length=1))&&(decide (0<1)&&true&&(decide (0<1)&&true&&true)))))&&(decide (0<1)&&true&&true&&true)&&true) (H [Pt.r,Pt.r,Pt.l,Pt.r,Pt.b] k (aHp (rows) (aA0 rows (aA0 rows (aA0 rows i 9) (↑(6:Nat):Int)) (8:Int)) (aA2 (aA2 (aA2 h 9) (↑(6:Nat):Int)) (8:Int)) (d3.ns.length) (d3.ns) (d3.es.length) (d3.es) (d3.os.length) (d3.os) (d3.ss.length) (d3.ss) (d3.r) (d3.x) (IntKind.i64.wrap (j+(1:Int))))))) (.ask (decide (aAm rows (aA0 rows (aA0 rows i 9) (↑(6:Nat):Int)) (aA2 (aA2 h 9) (↑(6:Nat):Int)) (8:Int)=(3:Int))) (.must (aAs rows (aA0 rows (aA0 rows (aA0 rows i 9) (↑(6:Nat):Int)) (8:Int))&&(aAp [K.str] cF0&&(decide (0<3)&&decide (3≤1048576)))) (.must (aFj (List.take n ns) (List.take q2 es) (List.take p os) (List.take q ss)&&(aF2 (List.take p os) (List.take q ss) (aDq rows (aA0 rows i 9) (aA2 h 9) (aCp bPl))&&aF2 (List.take p os) (List.take q ss) (aDq rows (aA0 rows (aA0 rows (aA0 rows i 9) (↑(6:Nat):Int)) (8:Int)) (aA2 (aA2 (aA2 h 9) (↑(6:Nat):Int)) (8:Int)) (aCp cF0)))) (.must ((true&&d4.ns.all fun row=>decide (row.length=3))&&((true&&d4.es.all fun row=>decide (row.length=2))&&((true&&d4.os.all fun row=>decide (row.length=2))&&((true&&d4.ss.all fun row=>decide (row.length=1))&&(decide (0<1)&&true&&(decide (0<1)&&true&&true)))))&&(decide (0<1)&&true&&true&&true)&&true) (H [Pt.r,Pt.r,Pt.l,Pt.r,Pt.b] k (aHp (rows) (aA0 rows (aA0 rows (aA0 rows (aA0 rows i 9) (↑(6:Nat):Int)) (8:Int)) (↑(3:Nat):Int)) (aA2 (aA2 (aA2 (aA2 h 9) (↑(6:Nat):Int)) (8:Int)) (↑(3:Nat):Int)) (d4.ns.length) (d4.ns) (d4.es.length) (d4.es) (d4.os.length) (d4.os) (d4.ss.length) (d4.ss) (d4.r) (d4.x) (IntKind.i64.wrap (j+(1:Int)))))))) (.ask (decide (aAm rows (aA0 rows (aA0 rows i 9) (↑(6:Nat):Int)) (aA2 (aA2 h 9) (↑(6:Nat):Int)) (8:Int)=(4:Int))) (.must (aFj (List.take n ns) (List.take q2 es) (List.take p os) (List.take q ss)&&aF2 (List.take p os) (List.take q ss) (aDq rows (aA0 rows i 9) (aA2 h 9) (aCp bPl))) (.must ((true&&d5.ns.all fun row=>decide (row.length=3))&&((true&&d5.es.all fun row=>decide (row.length=2))&&((true&&d5.os.all fun row=>decide (row.length=2))&&((true&&d5.ss.all fun row=>decide (row.length=1))&&(decide (0<1)&&true&&(decide (0<1)&&true&&true)))))&&(decide (0<1)&&true&&true&&true)&&true) (H [Pt.r,Pt.r,Pt.l,Pt.r,Pt.b] k (aHp (rows) (aA0 rows (aA0 rows (aA0 rows i 9) (↑(6:Nat):Int)) (8:Int)) (aA2 (aA2 (aA2 h 9) (↑(6:Nat):Int)) (8:Int)) (d5.ns.length) (d5.ns) (d5.es.length) (d5.es) (d5.os.length) (d5.os) (d5.ss.length) (d5.ss) (d5.r) (d5.x) (IntKind.i64.wrap (j+(1:Int))))))) (.ask (decide (aAm rows (aA0 rows (aA0 rows i 9) (↑(6:Nat):Int)) (aA2 (aA2 h 9) (↑(6:Nat):Int)) (8:Int)=(5:Int))) (.must (aFj (List.take n ns) (List.take q2 es) (List.take p os) (List.take q ss)&&aF2 (List.take p os) (List.take q ss) (aDq rows (aA0 rows i 9) (aA2 h 9) (aCp bPl))) (.must ((true&&d5.ns.all fun row=>decide (row.length=3))&&((true&&d5.es.all fun row=>decide (row.length=2))&&((true&&d5.os.all fun row=>decide (row.length=2))&&((true&&d5.ss.all fun row=>decide (row.length=1))&&(decide (0<1)&&true&&(decide (0<1)&&true&&true)))))&&(decide (0<1)&&true&&true&&true)&&true) (H [Pt.r,Pt.r,Pt.l,Pt.r,Pt.b] k (aHp (rows) (aA0 rows (aA0 rows (aA0 rows i 9) (↑(6:Nat):Int)) (8:Int)) (aA2 (aA2 (aA2 h 9) (↑(6:Nat):Int)) (8:Int)) (d5.ns.length) (d5.ns) (d5.es.length) (d5.es) (d5.os.length) (d5.os) (d5.ss.length) (d5.ss) (d5.r) (d5.x) (IntKind.i64.wrap (j+(1:Int))))))) (.must (aFj (List.take n ns) (List.take q2 es) (List.take p os) (List.take q ss)&&aF2 (List.take p os) (List.take q ss) (aDq rows (aA0 rows i 9) (aA2 h 9) (aCp bPl))) (.must ((true&&d5.ns.all fun row=>decide (row.length=3))&&((true&&d5.es.all fun row=>decide (row.length=2))&&((true&&d5.os.all fun row=>decide (row.length=2))&&((true&&d5.ss.all fun row=>decide (row.length=1))&&(decide (0<1)&&true&&(decide (0<1)&&true&&true)))))&&(decide (0<1)&&true&&true&&true)&&true) (.must (aAs rows (aA0 rows (aA0 rows (aA0 rows i 9) (↑(6:Nat):Int)) (8:Int))) (.must (aAs rows (aA0 rows (aA0 rows (aA0 rows (aA0 rows i 9) (↑(6:Nat):Int)) (8:Int)) (12:Int))) (.must (aFj (List.take d5.ns.length d5.ns) (List.take d5.es.length d5.es) (List.take d5.os.length d5.os) (List.take d5.ss.length d5.ss)&&decide (s1.length≤16777216)) (.must ((true&&d6.ns.all fun row=>decide (row.length=3))&&((true&&d6.es.all fun row=>decide (row.length=2))&&((true&&d6.os.all fun row=>decide (row.length=2))&&((true&&d6.ss.all fun row=>decide (row.length=1))&&(decide (0<1)&&true&&(decide (0<1)&&true&&true)))))&&(decide (0<1)&&true&&true&&true)&&true) (H [Pt.r,Pt.r,Pt.l,Pt.r,Pt.b] k (aHp (rows) (z1) (z2) (d6.ns.length) (d6.ns) (d6.es.length) (d6.es) (d6.os.length) (d6.os) (d6.ss.length) (d6.ss) (d6.r) (d6.x) (IntKind.i64.wrap (j+(1:Int))))))))))))))))))) (.must (decide (n=ns.length)&&(true||ns.all fun r=>r.all C.flat)&&(decide (q2=es.length)&&(true||es.all fun r=>r.all C.flat)&&(decide (p=os.length)&&(true||os.all fun r=>r.all C.flat)&&(decide (q=ss.length)&&(true||ss.all fun r=>r.all C.flat)&&(true&&(true||true)&&(true&&(true||true)&&true)))))&&true&&(true&&(true||(C.sl rows).flat)&&(true&&(true||true)&&(true&&(true||true)&&true))&&true)) (.ret [C.sl ns,C.sl es,C.sl os,C.sl ss,C.int .i64 r,C.int .i64 x,C.sl rows,C.int .i64 (aA0 rows i 9),C.int .i64 (aA2 h 9)])))):T (List C)).eval:=aAj (by kernel_rfl)
theorem cCb:aAa Tryz.prog bXx:=aA8 (by simp[aD6])
theorem aX5:aAx Tryz.prog 72 (⟨[aDa,pSl 9],[rS],true⟩) aRn:=aA6 cCb aAb Tryz.func72 (by kernel_rfl) fun cs outs hk h=>by
 unfold aRn at h
 split at h
 ·simp only[Option.some.injEq,Prod.mk.injEq,Bool.and_eq_true,decide_eq_true_eq]at h
  obtain⟨⟨h1,h2,h3,h4⟩,rfl⟩:=h
  rename_i rows i hh l
  have hr:=aFq h2
  generalize aCp l=m at hr ⊢
  subst hr
  rw[List.length_map]at h3 h4
  rw[aAd,bRk]
  simp only[List.length_map]
  obtain⟨b1,b2⟩:=aBs rows i hh m.length (by omega)
  have hlt:(aAm rows i hh m.length).toNat<m.length:=by omega
  have g:=aBc aAt m [] _ hlt
  unfold aDq
  simp only[aA1,aA4,aA3,if_true,decide_eq_true_eq,Bool.and_eq_true,h1,b1,b2,g,List.length_map,and_self]
  simp[C.is,C.toStr]
 ·cases h
theorem cCh:aAa Tryz.prog bY2:=aA8 (by simp[])
theorem aXg:aAx Tryz.prog 14 (sg [pI] [aBz]) aVw:=aA6 cCh aAb Tryz.func14 (by kernel_rfl) fun cs outs hk h=>by
 unfold aVw at h
 split at h
 ·simp only[Option.some.injEq,Prod.mk.injEq,true_and]at h
  rw[←h,aAd,bRx]
  unfold aN7
  simp only[aA1,aA4,aA3,decide_eq_true_eq]
  repeat' split
  all_goals first | rfl | (simp_all;done) | (simp_all;omega)
 ·cases h
theorem aKe (o:Option (List C)):cE5 o=o:=Classical.choose_spec (show ∃ x,x=o from⟨o,rfl⟩)
def NB (n:Nat) (ns:List (List C)):Prop:=∃ l:List Nd,ns=l.map eNd∧l.length≤n∧∀ y∈l,y.text.length≤6000
def EB (n:Nat) (es:List (List C)):Prop:=∃ l:List En,es=l.map eEn∧l.length≤n∧∀ y∈l,y.name.length≤1000
def TB (n:Nat) (ss:List (List C)):Prop:=∃ l:List (List UInt8),ss=l.map aAt∧l.length≤n∧∀ y∈l,y.length≤3000
def Sz (n:Nat) (ns es os ss:List (List C)):Prop:=NB n ns∧EB n es∧EB n os∧TB n ss
theorem NB.mono {n m:Nat} {ns:List (List C)} (h:NB n ns) (hm:n≤m):NB m ns:=let⟨l,a,b,c⟩:=h;⟨l,a,by omega,c⟩
theorem EB.mono {n m:Nat} {ns:List (List C)} (h:EB n ns) (hm:n≤m):EB m ns:=let⟨l,a,b,c⟩:=h;⟨l,a,by omega,c⟩
theorem TB.mono {n m:Nat} {ns:List (List C)} (h:TB n ns) (hm:n≤m):TB m ns:=let⟨l,a,b,c⟩:=h;⟨l,a,by omega,c⟩
theorem Sz.mono {n m:Nat} {ns es os ss:List (List C)} (h:Sz n ns es os ss) (hm:n≤m):Sz m ns es os ss:=⟨h.1.mono hm,h.2.1.mono hm,h.2.2.1.mono hm,h.2.2.2.mono hm⟩
theorem aIb {n:Nat} {ns es os ss:List (List C)} (h:Sz n ns es os ss) (hn:n≤100):aFj ns es os ss=true:=by
 obtain⟨⟨a,rfl,a1,a2⟩,⟨b,rfl,b1,b2⟩,⟨c,rfl,c1,c2⟩,⟨d,rfl,d1,d2⟩⟩:=h
 refine aCm.2 ⟨aO5.2 ⟨by omega,fun y hy=>by have:=a2 y hy;omega⟩,aLw.2 ⟨by omega,fun y hy=>by have:=b2 y hy;omega⟩,aH6.2 ⟨aLw.2 ⟨by omega,fun y hy=>by have:=c2 y hy;omega⟩,bP2.2 ⟨by omega,fun y hy=>by have:=d2 y hy;omega⟩,by simp only[List.length_map];omega⟩⟩
theorem bLw {n:Nat} {ns es os ss:List (List C)} {nm:List UInt8} (h:Sz n ns es os ss) (hn:n≤100) (hm:nm.length≤1000):aF2 os ss nm=true:=by
 obtain⟨⟨a,rfl,a1,a2⟩,⟨b,rfl,b1,b2⟩,⟨c,rfl,c1,c2⟩,⟨d,rfl,d1,d2⟩⟩:=h
 exact aJ4.2 ⟨by simp only[List.length_map];omega,by omega⟩
theorem cEc {n:Nat} {ns es os ss:List (List C)} (h:Sz n ns es os ss) (hn:n≤100):aJc ns es=true:=by
 obtain⟨⟨a,rfl,a1,a2⟩,⟨b,rfl,b1,b2⟩,_,_⟩:=h
 unfold aJc bGu aMj
 rw[aTh,aKl,aGh]
 simp only[List.length_map,Bool.and_true,Bool.and_eq_true,decide_eq_true_eq,List.all_eq_true]
 exact⟨⟨by omega,by omega⟩,fun y hy=>by have:=a2 y hy;omega⟩
theorem aVz {n:Nat} {ns:List (List C)} (os ss:List (List C)) (h:NB n ns):NB n (aCx ns os ss):=by
 obtain⟨a,rfl,a1,a2⟩:=h
 unfold aCx
 rw[aGh]
 exact⟨_,rfl,Nat.le_trans (List.length_filter_le _ _) a1,fun y hy=>a2 y (List.mem_filter.1 hy).1⟩
theorem bY9 {n:Nat} {es:List (List C)} (nm:List UInt8) (h:EB n es):EB n (aBo es nm):=by
 obtain⟨a,rfl,a1,a2⟩:=h
 rw[aYs]
 exact⟨_,rfl,Nat.le_trans (aKz _ _) a1,fun y hy=>a2 y (aKy hy)⟩
theorem cBu {n:Nat} {es:List (List C)} {nm:List UInt8} (id:Int) (h:EB n es) (hn:nm.length≤1000):EB (n+1) (aG3 es nm id):=by
 obtain⟨a,rfl,a1,a2⟩:=h
 rw[aRk]
 refine⟨_,rfl,Nat.le_trans (aRm _ _) (by omega),fun y hy=>?_⟩
 rcases aRl hy with rfl | hy
 ·exact hn
 ·exact a2 y hy
theorem bQa {n:Nat} {ss:List (List C)} {s:List UInt8} (h:TB n ss) (hs:s.length≤3000):TB (n+1) (ss1 ss s):=by
 obtain⟨a,rfl,a1,a2⟩:=h
 refine⟨a++[s],by simp[ss1],by simp;omega,fun y hy=>?_⟩
 rcases List.mem_append.1 hy with hy | hy
 ·exact a2 y hy
 ·have:y=s:=by simpa using hy
  rw[this];exact hs
theorem cG0 {n:Nat} {ns:List (List C)} (x:Int) (h:NB n ns):NB (n+1) (ns++[eNd ⟨x,[],0⟩]):=by
 obtain⟨a,rfl,a1,a2⟩:=h
 refine⟨a++[⟨x,[],0⟩],by simp,by simp;omega,fun y hy=>?_⟩
 rcases List.mem_append.1 hy with hy | hy
 ·exact a2 y hy
 ·have:y=⟨x,[],0⟩:=by simpa using hy
  rw[this];simp
theorem cEp {n:Nat} {ns es os ss:List (List C)} {r x:Int} {nm:List UInt8} (h:Sz n ns es os ss) (hm:nm.length≤1000):Sz (n+1) (rmN ns es os ss r x nm) (rmE ns es os ss r x nm) os (rmS ns es os ss r x nm):=by
 obtain⟨h1,h2,h3,h4⟩:=h
 unfold rmN rmE rmS
 split
 ·exact⟨(aVz _ _ h1).mono (by omega),(bY9 _ h2).mono (by omega),h3.mono (by omega),bQa h4 (by simp;omega)⟩
 ·exact⟨h1.mono (by omega),h2.mono (by omega),h3.mono (by omega),h4.mono (by omega)⟩
theorem cEh {n:Nat} {ns es os ss:List (List C)} {r x:Int} (h:Sz n ns es os ss):Sz n (snN ns es os ss r x) es (snO ns es os ss r x) (snS ns es os ss r x):=by
 obtain⟨h1,h2,h3,h4⟩:=h
 unfold snN snO snS
 split
 ·exact⟨aVz _ _ h1,h2,h2,⟨[],rfl,by simp,fun y hy=>by cases hy⟩⟩
 ·exact⟨h1,h2,h3,h4⟩
theorem cFo {n:Nat} {ns es os ss:List (List C)} {r x:Int} {nm:List UInt8} (h:Sz n ns es os ss) (hm:nm.length≤1000):Sz (n+1) (crN ns es os ss r x nm) (crE ns es os ss r x nm) os (crS ns es os ss r x nm):=by
 obtain⟨h1,h2,h3,h4⟩:=h
 have dl:=bKm x
 unfold crN crE crS
 split
 ·exact⟨aVz _ _ (cG0 x h1),cBu x h2 hm,h3.mono (by omega),bQa h4 (by unfold aS8;simp;omega)⟩
 ·exact⟨h1.mono (by omega),h2.mono (by omega),h3.mono (by omega),h4.mono (by omega)⟩
theorem cGd {n:Nat} {ns es os ss:List (List C)} {r x:Int} {a b:List UInt8} (h:Sz n ns es os ss) (ha:a.length≤1000) (hb:b.length≤1000):Sz (n+1) (rnN ns es os ss r x a b) (rnE ns es os ss r x a b) os (rnS ns es os ss r x a b):=by
 obtain⟨h1,h2,h3,h4⟩:=h
 unfold rnN rnE rnS
 split
 ·exact⟨(aVz _ _ h1).mono (by omega),cBu _ (bY9 _ h2) hb,h3.mono (by omega),bQa h4 (by unfold aPg;simp;omega)⟩
 ·exact⟨h1.mono (by omega),h2.mono (by omega),h3.mono (by omega),h4.mono (by omega)⟩
theorem bQb {n k:Nat} {l:List Nd} {y:Nd} (h:NB n (l.map eNd)) (hy:y.text.length≤6000):NB n ((l.map eNd).set k (eNd y)):=by
 obtain⟨a,e,a1,a2⟩:=h
 rw[e,bEt]
 refine⟨_,rfl,by rw[List.length_set];exact a1,fun z hz=>?_⟩
 rcases List.mem_or_eq_of_mem_set hz with hz | rfl
 ·exact a2 z hz
 ·exact hy
theorem cFv {n:Nat} {ns es os ss:List (List C)} {r x:Int} {nm t:List UInt8} (h:Sz n ns es os ss) (hd:aFj ns es os ss=true) (hr:r≤6000):Sz n (apN ns es os ss r x nm t) es os ss:=by
 obtain⟨h1,h2,h3,h4⟩:=h
 refine⟨?_,h2,h3,h4⟩
 unfold apN
 split
 ·rename_i ho
  unfold bS6 at ho
  simp only[Bool.and_eq_true]at ho
  obtain⟨k1,k2⟩:=bVz hd ho.1 ho.2
  obtain⟨_,_,f3,_,f5,_⟩:=aHy hd ho.1
  obtain⟨l,rfl,a1,a2⟩:=h1
  unfold ndK bJ8
  rw[aGh]at k1 k2 f5 ⊢
  rw[List.length_map]at k2
  obtain⟨k,hk⟩:=Int.eq_ofNat_of_zero_le k1
  have hkl:k<l.length:=by omega
  have un:=bH2 hkl
  rw[hk,Int.toNat_natCast]
  refine bQb ⟨l,rfl,a1,a2⟩ ?_
  show (_++_:List UInt8).length≤6000
  rw[List.length_append]
  split
  ·rw[List.length_take];omega
  ·omega
 ·exact h1
theorem cEe {n:Nat} {ns es os ss:List (List C)} {r x:Int} {nm:List UInt8} (h:Sz n ns es os ss):Sz n (syN ns es os ss r x nm) es os ss:=by
 obtain⟨h1,h2,h3,h4⟩:=h
 refine⟨?_,h2,h3,h4⟩
 unfold syN
 split
 ·obtain⟨l,rfl,a1,a2⟩:=h1
  rw[aGh]
  refine bQb ⟨l,rfl,a1,a2⟩ ?_
  show ((l.getD (ndK (l.map eNd) es nm).toNat ⟨0,[],0⟩).text).length≤6000
  by_cases hk:(ndK (l.map eNd) es nm).toNat<l.length
  ·exact a2 _ (aJt hk)
  ·rw[List.getD_eq_getElem?_getD,List.getElem?_eq_none (by omega)];simp
 ·exact h1
def bCy (n:Nat) (rows:List (List C)) (o:Option (List C)):Prop :=
 ∃ ns es os ss r x i h,o=some [.sl ns,.sl es,.sl os,.sl ss,.int .i64 r,.int .i64 x,.sl rows,.int .i64 i,.int .i64 h]∧Sz n ns es os ss∧aAs rows i=true
theorem bCy.of {n:Nat} {rows:List (List C)} {o o':Option (List C)} (e:o=o') (h:bCy n rows o'):bCy n rows o:=e▸h
theorem bCy.back {n:Nat} {rows:List (List C)} {o:Option (List C)} (h:bCy n rows o):o=some (aTj o rows):=by
 obtain⟨ns,es,os,ss,r,x,i,h,rfl,_⟩:=h
 rfl
theorem bCy.sz {n:Nat} {rows:List (List C)} {o:Option (List C)} (h:bCy n rows o):Sz n (oR o 0) (oR o 1) (oR o 2) (oR o 3)∧aAs rows (oI o 7)=true:=by
 obtain⟨ns,es,os,ss,r,x,i,h,rfl,h1,h2⟩:=h
 exact⟨h1,h2⟩
theorem bEl {l:List (List UInt8)} (rows:List (List C)) (i h:Int) {B:Nat} (hl:∀ x∈l,x.length≤B):(aDq rows i h l).length≤B:=by
 unfold aDq
 by_cases hk:(aAm rows i h l.length).toNat<l.length
 ·exact hl _ (aJt hk)
 ·rw[List.getD_eq_getElem?_getD,List.getElem?_eq_none (by omega)];simp
theorem bZo:∀ x∈aCp bPl,x.length≤1000:=by decide
theorem bZp:∀ x∈aCp cF0,x.length≤1000:=by decide
theorem bNd {ns es os ss:List (List C)} (h:aFj ns es os ss=true):((true&&ns.all fun row=>decide (row.length=3))&&((true&&es.all fun row=>decide (row.length=2))&&((true&&os.all fun row=>decide (row.length=2))&&((true&&ss.all fun row=>decide (row.length=1))&&(decide (0<1)&&true&&(decide (0<1)&&true&&true))))))=true:=by
 obtain⟨p1,p2,p3,p4,_⟩:=aFc h
 rw[p1,p2,p3,p4];rfl
theorem aIi {ns es os ss:List (List C)} (h:aFj ns es os ss=true):((true&&ns.all fun row=>decide (row.length=3))&&((true&&es.all fun row=>decide (row.length=2))&&((true&&os.all fun row=>decide (row.length=2))&&((true&&ss.all fun row=>decide (row.length=1))&&(decide (0<1)&&true&&(decide (0<1)&&true&&true)))))&&(decide (0<1)&&true&&true&&true)&&true)=true:=by
 rw[bNd h];rfl
theorem cD2 {ns es os ss:List (List C)} (h:aFj ns es os ss=true):((true&&ns.all fun row=>decide (row.length=3))&&((true&&es.all fun row=>decide (row.length=2))&&((true&&os.all fun row=>decide (row.length=2))&&((true&&ss.all fun row=>decide (row.length=1))&&(decide (0<1)&&true&&(decide (0<1)&&true&&true)))))&&true&&true)=true:=by
 rw[bNd h];rfl
theorem bMn (rows:List (List C)):∀ (N k:Nat) (i h:Int) (ns es os ss:List (List C)) (r x:Int),k≤8→9<k+N→aAs rows i=true→Sz (2*k+1) ns es os ss→r≤6000 →
  bCy 20 rows (aBr aSs aAc (⟨[aDa],[aBz],true⟩) Tryz.f71 [.r,.r,.l,.r,.b] N (aHp rows i h ns.length ns es.length es os.length os ss.length ss r x k)).eval:=by
 intro N
 induction N with
 |zero=>intro k i h ns es os ss r x h1 h2;omega
 |succ N ih =>
  intro k i h ns es os ss r x h1 h2 ho hs hr
  rw[aAv _ _ _ _ _ _ _ (by kernel_rfl),bE9]
  have b:=aBs rows i h 9 (by omega)
  have w2:IntKind.i64.wrap ((k:Int)+1)=((k+1:Nat):Int):=by rw[aAh]<;>omega
  have hd:=aIb hs (by omega)
  have o1:=aAr rows i 9 ho
  have o2:=aAr rows (aA0 rows i 9) ((6:Nat):Int) o1
  have o3:=aAr rows (aA0 rows (aA0 rows i 9) ((6:Nat):Int)) 8 o2
  have o4:=aAr rows (aA0 rows (aA0 rows (aA0 rows i 9) ((6:Nat):Int)) 8) ((3:Nat):Int) o3
  have o5:=aAr rows (aA0 rows (aA0 rows (aA0 rows i 9) ((6:Nat):Int)) 8) 12 o3
  simp only[List.take_length,w2]
  by_cases c:(k:Int)<aAm rows i h 9
  ·have pl:=bEl rows (aA0 rows i 9) (aA2 h 9) bZo
   have pl3:=bEl rows (aA0 rows (aA0 rows (aA0 rows i 9) ((6:Nat):Int)) 8) (aA2 (aA2 (aA2 h 9) ((6:Nat):Int)) 8) bZp
   generalize aDq rows (aA0 rows i 9) (aA2 h 9) (aCp bPl)=nm at pl ⊢
   generalize aDq rows (aA0 rows (aA0 rows (aA0 rows i 9) ((6:Nat):Int)) 8) (aA2 (aA2 (aA2 h 9) ((6:Nat):Int)) 8) (aCp cF0)=nm3 at pl3 ⊢
   have mr:=bLw hs (by omega) pl
   have mr3:=bLw hs (by omega) pl3
   have m6:(aAs rows (aA0 rows i 9)&&(aAp [K.str] bPl&&(decide (0<6)&&decide (6≤1048576))))=true:=by rw[o1];rfl
   by_cases c0:aAm rows (aA0 rows (aA0 rows i 9) ((6:Nat):Int)) (aA2 (aA2 h 9) ((6:Nat):Int)) 8=0
   ·have hS:=cEp (r:=r) (x:=x) hs pl
    exact bCy.of (aA5 ho (aAg (decide_eq_true c) (aA5 m6 (aA5 o2 (aAg (decide_eq_true c0) (aA5 (by rw[hd,mr];rfl) (aA5 (aIi (aIb hS (by omega))) rfl))))))) (ih (k+1) _ _ _ _ _ _ _ _ (by omega) (by omega) o3 (hS.mono (by omega)) hr)
   by_cases c1:aAm rows (aA0 rows (aA0 rows i 9) ((6:Nat):Int)) (aA2 (aA2 h 9) ((6:Nat):Int)) 8=1
   ·have hS:=cEh (r:=r) (x:=x) hs
    exact bCy.of (aA5 ho (aAg (decide_eq_true c) (aA5 m6 (aA5 o2 (aAi (decide_eq_false c0) (aAg (decide_eq_true c1) (aA5 hd (aA5 (cD2 (aIb hS (by omega))) rfl)))))))) (ih (k+1) _ _ _ _ _ _ _ _ (by omega) (by omega) o3 (hS.mono (by omega)) hr)
   by_cases c2:aAm rows (aA0 rows (aA0 rows i 9) ((6:Nat):Int)) (aA2 (aA2 h 9) ((6:Nat):Int)) 8=2
   ·have hS:=cEe (r:=r) (x:=x) (nm:=nm) hs
    exact bCy.of (aA5 ho (aAg (decide_eq_true c) (aA5 m6 (aA5 o2 (aAi (decide_eq_false c0) (aAi (decide_eq_false c1) (aAg (decide_eq_true c2) (aA5 hd (aA5 (aIi (aIb hS (by omega))) rfl))))))))) (ih (k+1) _ _ _ _ _ _ _ _ (by omega) (by omega) o3 (hS.mono (by omega)) hr)
   by_cases c3:aAm rows (aA0 rows (aA0 rows i 9) ((6:Nat):Int)) (aA2 (aA2 h 9) ((6:Nat):Int)) 8=3
   ·have hS:=cGd (r:=r) (x:=x) hs pl pl3
    exact bCy.of (aA5 ho (aAg (decide_eq_true c) (aA5 m6 (aA5 o2 (aAi (decide_eq_false c0) (aAi (decide_eq_false c1) (aAi (decide_eq_false c2) (aAg (decide_eq_true c3) (aA5 (by rw[o3];rfl) (aA5 (by rw[hd,mr,mr3];rfl) (aA5 (aIi (aIb hS (by omega))) rfl))))))))))) (ih (k+1) _ _ _ _ _ _ _ _ (by omega) (by omega) o4 (hS.mono (by omega)) hr)
   have hS:=cFo (r:=r) (x:=x) hs pl
   have hd2:=aIb hS (by omega)
   by_cases c4:aAm rows (aA0 rows (aA0 rows i 9) ((6:Nat):Int)) (aA2 (aA2 h 9) ((6:Nat):Int)) 8=4
   ·exact bCy.of (aA5 ho (aAg (decide_eq_true c) (aA5 m6 (aA5 o2 (aAi (decide_eq_false c0) (aAi (decide_eq_false c1) (aAi (decide_eq_false c2) (aAi (decide_eq_false c3) (aAg (decide_eq_true c4) (aA5 (by rw[hd,mr];rfl) (aA5 (aIi hd2) rfl))))))))))) (ih (k+1) _ _ _ _ _ _ _ _ (by omega) (by omega) o3 (hS.mono (by omega)) hr)
   by_cases c5:aAm rows (aA0 rows (aA0 rows i 9) ((6:Nat):Int)) (aA2 (aA2 h 9) ((6:Nat):Int)) 8=5
   ·exact bCy.of (aA5 ho (aAg (decide_eq_true c) (aA5 m6 (aA5 o2 (aAi (decide_eq_false c0) (aAi (decide_eq_false c1) (aAi (decide_eq_false c2) (aAi (decide_eq_false c3) (aAi (decide_eq_false c4) (aAg (decide_eq_true c5) (aA5 (by rw[hd,mr];rfl) (aA5 (aIi hd2) rfl)))))))))))) (ih (k+1) _ _ _ _ _ _ _ _ (by omega) (by omega) o3 (hS.mono (by omega)) hr)
   have tl:(aE1 rows (aEw (aAm rows (aA0 rows (aA0 rows (aA0 rows i 9) ((6:Nat):Int)) 8) (aA2 (aA2 (aA2 h 9) ((6:Nat):Int)) 8) 12)) (aA0 rows (aA0 rows (aA0 rows (aA0 rows i 9) ((6:Nat):Int)) 8) 12) (aA2 (aA2 (aA2 (aA2 h 9) ((6:Nat):Int)) 8) 12)).length≤16777216:=by
    rw[aHe];unfold aEw;split<;>omega
   have o6:=aQx rows (aEw (aAm rows (aA0 rows (aA0 rows (aA0 rows i 9) ((6:Nat):Int)) 8) (aA2 (aA2 (aA2 h 9) ((6:Nat):Int)) 8) 12)) _ o5
   have hA:=cFv (nm:=nm) (t:=aE1 rows (aEw (aAm rows (aA0 rows (aA0 rows (aA0 rows i 9) ((6:Nat):Int)) 8) (aA2 (aA2 (aA2 h 9) ((6:Nat):Int)) 8) 12)) (aA0 rows (aA0 rows (aA0 rows (aA0 rows i 9) ((6:Nat):Int)) 8) 12) (aA2 (aA2 (aA2 (aA2 h 9) ((6:Nat):Int)) 8) 12)) (x:=crX ns es os ss r x nm) hS hd2 hr
   exact bCy.of (aA5 ho (aAg (decide_eq_true c) (aA5 m6 (aA5 o2 (aAi (decide_eq_false c0) (aAi (decide_eq_false c1) (aAi (decide_eq_false c2) (aAi (decide_eq_false c3) (aAi (decide_eq_false c4) (aAi (decide_eq_false c5) (aA5 (by rw[hd,mr];rfl) (aA5 (aIi hd2) (aA5 o3 (aA5 o5 (aA5 ((Bool.and_eq_true _ _).mpr ⟨hd2,decide_eq_true tl⟩) (aA5 (aIi (aIb hA (by omega))) rfl)))))))))))))))) (ih (k+1) _ _ _ _ _ _ _ _ (by omega) (by omega) o6 (hA.mono (by omega)) hr)
  ·obtain⟨_,_,_,_,p5,p6,p7,p8⟩:=aFc hd
   refine⟨ns,es,os,ss,r,x,aA0 rows i 9,aA2 h 9,?_,hs.mono (by omega),o1⟩
   exact aA5 ho (aAi (decide_eq_false c) (aA5 (by simp only[decide_true,Bool.true_or,Bool.and_self]) rfl))
theorem bKi (rows:List (List C)) (i h:Int) (ho:aAs rows i=true):bCy 20 rows (aYu rows i h):=by
 unfold aYu
 rw[aKe,aAd,bMm]
 have o1:=aAr rows i 5 ho
 have b:=aBs rows i h ((5:Nat):Int) (by omega)
 have hr:aN7 ((aDo [[C.int .i64 4000],[C.int .i64 4000],[C.int .i64 4000],[C.int .i64 300],[C.int .i64 100]]).getD (aAm rows i h ((5:Nat):Int)).toNat 0)≤6000:=by
  have:∀ k:Nat,k<5→aN7 ((aDo [[C.int .i64 4000],[C.int .i64 4000],[C.int .i64 4000],[C.int .i64 300],[C.int .i64 100]]).getD k 0)≤6000:=by decide
  exact this _ (by omega)
 exact bCy.of (aA5 (by rw[ho];rfl) rfl) (bMn rows 9223372036854775808 0 _ _ [] [] [] [] _ 1 (by omega) (by omega) o1 ⟨⟨[],rfl,by simp,fun y hy=>by cases hy⟩,⟨[],rfl,by simp,fun y hy=>by cases hy⟩,⟨[],rfl,by simp,fun y hy=>by cases hy⟩,⟨[],rfl,by simp,fun y hy=>by cases hy⟩⟩ hr)
theorem bZ1:aAa Tryz.prog aSs:=aA8 (by simp[aD6,aFo,aQ1,aR5,aM8,aR9,aRc,aWt,bDo,aX5,aXg])
theorem bIb:aAx Tryz.prog 71 (⟨[aDa],[aBz],true⟩) aYt:=aA6 bZ1 aAb Tryz.func71 (by kernel_rfl) fun cs outs hk h=>by
 unfold aYt at h
 split at h
 ·simp only[Option.some.injEq,Prod.mk.injEq]at h
  obtain⟨h1,rfl⟩:=h
  rename_i rows i hh
  have e:=(bKi rows i hh h1).back
  rw[←e]
  exact (aKe _).symm
 ·cases h
noncomputable section
def cEz:List (List C):=[[C.str [45,97]],[C.str [43,113,58,49]],[C.str [120]],[C.str []],[C.str [43,113,58,57]],[C.str [45,122,122]],[C.str [43,58,49]],[C.str [43,113,58]]]
def bOp:Env:=mkE [] [(46,(⟨[aDa,pI],[rI],true⟩),aEh),(42,(⟨[aDa,pSl 3],[rI],true⟩),aLm),(72,(⟨[aDa,pSl 9],[rS],true⟩),aRn),(71,(⟨[aDa],[aBz],true⟩),aYt)]
def bQ7 (rows:List (List C)) (i h:Int):Option (List C):=cE5 (bD4 bOp aAc ⟨[aDa],[aBz],true⟩ Tryz.f57 [.sl rows,.int .i64 i,.int .i64 h]).eval
def bGi:aCf:=fun cs=>match cs with
 |[.sl rows,.int .i64 i,.int .i64 h]=>some (aAs rows i,aTj (bQ7 rows i h) rows)
 |_=>none
end
theorem bS1 (H:List Pt→Nat→St→T (List C)) (r:List (List C)) (i:Int) (h:Int):(aAk bOp aAc {params:=[aDa],results:=[aBz],nested:=true} Tryz.f57 H [C.sl r,C.int .i64 i,C.int .i64 h]).eval=(let e1:Option (List C):=(aYu r i h);(.must (aAs r i) (.must ((true&&(oR e1 0).all fun row=>decide (row.length=3))&&((true&&(oR e1 1).all fun row=>decide (row.length=2))&&((true&&(oR e1 2).all fun row=>decide (row.length=2))&&((true&&(oR e1 3).all fun row=>decide (row.length=1))&&(decide (0<1)&&true&&(decide (0<1)&&true&&true)))))&&true&&(decide (0<((Nat.add 1 0).succ.add 0).succ)&&true&&(decide (0+1<((Nat.add 1 0).succ.add 0).succ)&&true&&(decide (0+1+1<((Nat.add 1 0).succ.add 0).succ)&&true&&true))&&true)) (.must (aAs r (oI e1 7)) (.ask (decide (aAm r (oI e1 7) (oI e1 8) 16=(0:Int))) (.must (aAs r (aA0 r (oI e1 7) 16)&&(aAp [K.int .i64] [[C.int .i64 (-1)],[C.int .i64 0],[C.int .i64 5],[C.int .i64 1000000001]]&&(decide (0<4)&&decide (4≤1048576)))) (.must (decide ((oR e1 0).length=(oR e1 0).length)&&(true||(oR e1 0).all fun r=>r.all C.flat)&&(decide ((oR e1 1).length=(oR e1 1).length)&&(true||(oR e1 1).all fun r=>r.all C.flat)&&(decide ((oR e1 2).length=(oR e1 2).length)&&(true||(oR e1 2).all fun r=>r.all C.flat)&&(decide ((oR e1 3).length=(oR e1 3).length)&&(true||(oR e1 3).all fun r=>r.all C.flat)&&(true&&(true||true)&&(true&&(true||true)&&true)))))&&true&&(true&&(true||(C.sl r).flat)&&(true&&(true||true)&&(true&&(true||true)&&true))&&true)) (.ret [C.sl (oR e1 0),C.sl (oR e1 1),C.sl (oR e1 2),C.sl (oR e1 3),C.int .i64 ((aDo [[C.int .i64 (-1)],[C.int .i64 0],[C.int .i64 5],[C.int .i64 1000000001]]).getD (aAm r (aA0 r (oI e1 7) 16) (aA2 (oI e1 8) 16) (↑(4:Nat):Int)).toNat 0),C.int .i64 (oI e1 5),C.sl r,C.int .i64 (aA0 r (aA0 r (oI e1 7) 16) (↑(4:Nat):Int)),C.int .i64 (aA2 (aA2 (oI e1 8) 16) (↑(4:Nat):Int))]))) (.ask (decide (aAm r (oI e1 7) (oI e1 8) 16=(1:Int))) (.must (aAs r (aA0 r (oI e1 7) 16)&&(aAp [K.int .i64] [[C.int .i64 0],[C.int .i64 1],[C.int .i64 2],[C.int .i64 (-1)],[C.int .i64 9223372036854775807]]&&(decide (0<5)&&decide (5≤1048576)))) (.must (decide ((oR e1 0).length=(oR e1 0).length)&&(true||(oR e1 0).all fun r=>r.all C.flat)&&(decide ((oR e1 1).length=(oR e1 1).length)&&(true||(oR e1 1).all fun r=>r.all C.flat)&&(decide ((oR e1 2).length=(oR e1 2).length)&&(true||(oR e1 2).all fun r=>r.all C.flat)&&(decide ((oR e1 3).length=(oR e1 3).length)&&(true||(oR e1 3).all fun r=>r.all C.flat)&&(true&&(true||true)&&(true&&(true||true)&&true)))))&&true&&(true&&(true||(C.sl r).flat)&&(true&&(true||true)&&(true&&(true||true)&&true))&&true)) (.ret [C.sl (oR e1 0),C.sl (oR e1 1),C.sl (oR e1 2),C.sl (oR e1 3),C.int .i64 (oI e1 4),C.int .i64 ((aDo [[C.int .i64 0],[C.int .i64 1],[C.int .i64 2],[C.int .i64 (-1)],[C.int .i64 9223372036854775807]]).getD (aAm r (aA0 r (oI e1 7) 16) (aA2 (oI e1 8) 16) (↑(5:Nat):Int)).toNat 0),C.sl r,C.int .i64 (aA0 r (aA0 r (oI e1 7) 16) (↑(5:Nat):Int)),C.int .i64 (aA2 (aA2 (oI e1 8) 16) (↑(5:Nat):Int))]))) (.ask (decide (aAm r (oI e1 7) (oI e1 8) 16=(2:Int))) (.must (aAs r (aA0 r (oI e1 7) 16)) (.must (decide ((oR e1 1).length=(oR e1 1).length)&&aBj ((oR e1 1).length+1) 24&&(decide ((Nat.add 1 0).succ=2)&&true)) (.must (decide ((oR e1 0).length=(oR e1 0).length)&&(true||(oR e1 0).all fun r=>r.all C.flat)&&(decide ((oR e1 1).length+1=((oR e1 1).append [[C.str [(122:UInt8)],C.int .i64 (aAm r (aA0 r (oI e1 7) 16) (aA2 (oI e1 8) 16) (4:Int))]]).length)&&(true||((oR e1 1).append [[C.str [(122:UInt8)],C.int .i64 (aAm r (aA0 r (oI e1 7) 16) (aA2 (oI e1 8) 16) (4:Int))]]).all fun r=>r.all C.flat)&&(decide ((oR e1 2).length=(oR e1 2).length)&&(true||(oR e1 2).all fun r=>r.all C.flat)&&(decide ((oR e1 3).length=(oR e1 3).length)&&(true||(oR e1 3).all fun r=>r.all C.flat)&&(true&&(true||true)&&(true&&(true||true)&&true)))))&&true&&(true&&(true||(C.sl r).flat)&&(true&&(true||true)&&(true&&(true||true)&&true))&&true)) (.ret [C.sl (oR e1 0),C.sl ((oR e1 1).append [[C.str [(122:UInt8)],C.int .i64 (aAm r (aA0 r (oI e1 7) 16) (aA2 (oI e1 8) 16) (4:Int))]]),C.sl (oR e1 2),C.sl (oR e1 3),C.int .i64 (oI e1 4),C.int .i64 (oI e1 5),C.sl r,C.int .i64 (aA0 r (aA0 r (oI e1 7) 16) (4:Int)),C.int .i64 (aA2 (aA2 (oI e1 8) 16) (4:Int))])))) (.ask (decide (aAm r (oI e1 7) (oI e1 8) 16=(3:Int))) (.must (decide ((oR e1 2).length=(oR e1 2).length)&&aBj ((oR e1 2).length+1) 24&&(decide (2=2)&&true)) (.must (decide ((oR e1 0).length=(oR e1 0).length)&&(true||(oR e1 0).all fun r=>r.all C.flat)&&(decide ((oR e1 1).length=(oR e1 1).length)&&(true||(oR e1 1).all fun r=>r.all C.flat)&&(decide ((oR e1 2).length+1=((oR e1 2).append [[C.str [(122:UInt8)],C.int .i64 1]]).length)&&(true||((oR e1 2).append [[C.str [(122:UInt8)],C.int .i64 1]]).all fun r=>r.all C.flat)&&(decide ((oR e1 3).length=(oR e1 3).length)&&(true||(oR e1 3).all fun r=>r.all C.flat)&&(true&&(true||true)&&(true&&(true||true)&&true)))))&&true&&(true&&(true||(C.sl r).flat)&&(true&&(true||true)&&(true&&(true||true)&&true))&&true)) (.ret [C.sl (oR e1 0),C.sl (oR e1 1),C.sl ((oR e1 2).append [[C.str [(122:UInt8)],C.int .i64 1]]),C.sl (oR e1 3),C.int .i64 (oI e1 4),C.int .i64 (oI e1 5),C.sl r,C.int .i64 (aA0 r (oI e1 7) 16),C.int .i64 (aA2 (oI e1 8) 16)]))) (.ask (decide (aAm r (oI e1 7) (oI e1 8) 16=(4:Int))) (.must (aAs r (aA0 r (oI e1 7) 16)&&(aAp [K.str] cEz&&(decide (0<8)&&decide (8≤1048576)))) (.must (decide ((oR e1 3).length=(oR e1 3).length)&&aBj ((oR e1 3).length+1) 16&&(decide (1=1)&&true)) (.must (decide ((oR e1 0).length=(oR e1 0).length)&&(true||(oR e1 0).all fun r=>r.all C.flat)&&(decide ((oR e1 1).length=(oR e1 1).length)&&(true||(oR e1 1).all fun r=>r.all C.flat)&&(decide ((oR e1 2).length=(oR e1 2).length)&&(true||(oR e1 2).all fun r=>r.all C.flat)&&(decide ((oR e1 3).length+1=((oR e1 3).append [[C.str (aDq r (aA0 r (oI e1 7) 16) (aA2 (oI e1 8) 16) (aCp cEz))]]).length)&&(true||((oR e1 3).append [[C.str (aDq r (aA0 r (oI e1 7) 16) (aA2 (oI e1 8) 16) (aCp cEz))]]).all fun r=>r.all C.flat)&&(true&&(true||true)&&(true&&(true||true)&&true)))))&&true&&(true&&(true||(C.sl r).flat)&&(true&&(true||true)&&(true&&(true||true)&&true))&&true)) (.ret [C.sl (oR e1 0),C.sl (oR e1 1),C.sl (oR e1 2),C.sl ((oR e1 3).append [[C.str (aDq r (aA0 r (oI e1 7) 16) (aA2 (oI e1 8) 16) (aCp cEz))]]),C.int .i64 (oI e1 4),C.int .i64 (oI e1 5),C.sl r,C.int .i64 (aA0 r (aA0 r (oI e1 7) 16) (↑(8:Nat):Int)),C.int .i64 (aA2 (aA2 (oI e1 8) 16) (↑(8:Nat):Int))])))) (.ask (decide (aAm r (oI e1 7) (oI e1 8) 16=(5:Int))) (.ask (decide ((0:Int)<(↑(oR e1 0).length:Int))) (.must (aAs r (aA0 r (oI e1 7) 16)&&(aAp [K.int .i64] [[C.int .i64 (-1)],[C.int .i64 0],[C.int .i64 99]]&&(decide (0<3)&&decide (3≤1048576)))) (.must (decide ((0:Int)≤(0:Int))&&decide ((0:Int)<(↑(oR e1 0).length:Int))) (.must (decide (0+Int.toNat 0<(oR e1 0).length)) (.must (decide ((oR e1 0).length=((oR e1 0).set (0+Int.toNat 0) (((List.take (0+2) ((oR e1 0).getD (0+Int.toNat 0) [])).append [C.int .i64 ((aDo [[C.int .i64 (-1)],[C.int .i64 0],[C.int .i64 99]]).getD (aAm r (aA0 r (oI e1 7) 16) (aA2 (oI e1 8) 16) (↑(3:Nat):Int)).toNat 0)]).append (List.drop (0+2+1) ((oR e1 0).getD (0+Int.toNat 0) [])))).length)&&(true||((oR e1 0).set (0+Int.toNat 0) (((List.take (0+2) ((oR e1 0).getD (0+Int.toNat 0) [])).append [C.int .i64 ((aDo [[C.int .i64 (-1)],[C.int .i64 0],[C.int .i64 99]]).getD (aAm r (aA0 r (oI e1 7) 16) (aA2 (oI e1 8) 16) (↑(3:Nat):Int)).toNat 0)]).append (List.drop (0+2+1) ((oR e1 0).getD (0+Int.toNat 0) [])))).all fun r=>r.all C.flat)&&(decide ((oR e1 1).length=(oR e1 1).length)&&(true||(oR e1 1).all fun r=>r.all C.flat)&&(decide ((oR e1 2).length=(oR e1 2).length)&&(true||(oR e1 2).all fun r=>r.all C.flat)&&(decide ((oR e1 3).length=(oR e1 3).length)&&(true||(oR e1 3).all fun r=>r.all C.flat)&&(true&&(true||true)&&(true&&(true||true)&&true)))))&&true&&(true&&(true||(C.sl r).flat)&&(true&&(true||true)&&(true&&(true||true)&&true))&&true)) (.ret [C.sl ((oR e1 0).set (0+Int.toNat 0) (((List.take (0+2) ((oR e1 0).getD (0+Int.toNat 0) [])).append [C.int .i64 ((aDo [[C.int .i64 (-1)],[C.int .i64 0],[C.int .i64 99]]).getD (aAm r (aA0 r (oI e1 7) 16) (aA2 (oI e1 8) 16) (↑(3:Nat):Int)).toNat 0)]).append (List.drop (0+2+1) ((oR e1 0).getD (0+Int.toNat 0) [])))),C.sl (oR e1 1),C.sl (oR e1 2),C.sl (oR e1 3),C.int .i64 (oI e1 4),C.int .i64 (oI e1 5),C.sl r,C.int .i64 (aA0 r (aA0 r (oI e1 7) 16) (↑(3:Nat):Int)),C.int .i64 (aA2 (aA2 (oI e1 8) 16) (↑(3:Nat):Int))]))))) (.must (decide ((oR e1 0).length=(oR e1 0).length)&&(true||(oR e1 0).all fun r=>r.all C.flat)&&(decide ((oR e1 1).length=(oR e1 1).length)&&(true||(oR e1 1).all fun r=>r.all C.flat)&&(decide ((oR e1 2).length=(oR e1 2).length)&&(true||(oR e1 2).all fun r=>r.all C.flat)&&(decide ((oR e1 3).length=(oR e1 3).length)&&(true||(oR e1 3).all fun r=>r.all C.flat)&&(true&&(true||true)&&(true&&(true||true)&&true)))))&&true&&(true&&(true||(C.sl r).flat)&&(true&&(true||true)&&(true&&(true||true)&&true))&&true)) (.ret [C.sl (oR e1 0),C.sl (oR e1 1),C.sl (oR e1 2),C.sl (oR e1 3),C.int .i64 (oI e1 4),C.int .i64 (oI e1 5),C.sl r,C.int .i64 (aA0 r (oI e1 7) 16),C.int .i64 (aA2 (oI e1 8) 16)]))) (.ask (decide (aAm r (oI e1 7) (oI e1 8) 16=(6:Int))) (.ask (decide ((1:Int)<(↑(oR e1 0).length:Int))) (.must (decide ((0:Int)≤(0:Int))&&decide ((0:Int)<(↑(oR e1 0).length:Int))) (.must (decide (0+Int.toNat 0<(oR e1 0).length)&&(decide (0+0<((oR e1 0).getD (0+Int.toNat 0) []).length)&&C.is (K.int .i64) (((oR e1 0).getD (0+Int.toNat 0) []).getD (0+0) (C.fn 0 []))&&true)) (.must (decide ((0:Int)≤(1:Int))&&decide ((1:Int)<(↑(oR e1 0).length:Int))) (.must (decide (0+Int.toNat 1<(oR e1 0).length)) (.must (decide ((oR e1 0).length=((oR e1 0).set (0+Int.toNat 1) (C.int .i64 (((oR e1 0).getD (0+Int.toNat 0) []).getD (0+0) (C.fn 0 [])).toInt::List.drop (0+0+1) ((oR e1 0).getD (0+Int.toNat 1) []))).length)&&(true||((oR e1 0).set (0+Int.toNat 1) (C.int .i64 (((oR e1 0).getD (0+Int.toNat 0) []).getD (0+0) (C.fn 0 [])).toInt::List.drop (0+0+1) ((oR e1 0).getD (0+Int.toNat 1) []))).all fun r=>r.all C.flat)&&(decide ((oR e1 1).length=(oR e1 1).length)&&(true||(oR e1 1).all fun r=>r.all C.flat)&&(decide ((oR e1 2).length=(oR e1 2).length)&&(true||(oR e1 2).all fun r=>r.all C.flat)&&(decide ((oR e1 3).length=(oR e1 3).length)&&(true||(oR e1 3).all fun r=>r.all C.flat)&&(true&&(true||true)&&(true&&(true||true)&&true)))))&&true&&(true&&(true||(C.sl r).flat)&&(true&&(true||true)&&(true&&(true||true)&&true))&&true)) (.ret [C.sl ((oR e1 0).set (0+Int.toNat 1) (C.int .i64 (((oR e1 0).getD (0+Int.toNat 0) []).getD (0+0) (C.fn 0 [])).toInt::List.drop (0+0+1) ((oR e1 0).getD (0+Int.toNat 1) []))),C.sl (oR e1 1),C.sl (oR e1 2),C.sl (oR e1 3),C.int .i64 (oI e1 4),C.int .i64 (oI e1 5),C.sl r,C.int .i64 (aA0 r (oI e1 7) 16),C.int .i64 (aA2 (oI e1 8) 16)])))))) (.must (decide ((oR e1 0).length=(oR e1 0).length)&&(true||(oR e1 0).all fun r=>r.all C.flat)&&(decide ((oR e1 1).length=(oR e1 1).length)&&(true||(oR e1 1).all fun r=>r.all C.flat)&&(decide ((oR e1 2).length=(oR e1 2).length)&&(true||(oR e1 2).all fun r=>r.all C.flat)&&(decide ((oR e1 3).length=(oR e1 3).length)&&(true||(oR e1 3).all fun r=>r.all C.flat)&&(true&&(true||true)&&(true&&(true||true)&&true)))))&&true&&(true&&(true||(C.sl r).flat)&&(true&&(true||true)&&(true&&(true||true)&&true))&&true)) (.ret [C.sl (oR e1 0),C.sl (oR e1 1),C.sl (oR e1 2),C.sl (oR e1 3),C.int .i64 (oI e1 4),C.int .i64 (oI e1 5),C.sl r,C.int .i64 (aA0 r (oI e1 7) 16),C.int .i64 (aA2 (oI e1 8) 16)]))) (.must (decide ((oR e1 0).length=(oR e1 0).length)&&(true||(oR e1 0).all fun r=>r.all C.flat)&&(decide ((oR e1 1).length=(oR e1 1).length)&&(true||(oR e1 1).all fun r=>r.all C.flat)&&(decide ((oR e1 2).length=(oR e1 2).length)&&(true||(oR e1 2).all fun r=>r.all C.flat)&&(decide ((oR e1 3).length=(oR e1 3).length)&&(true||(oR e1 3).all fun r=>r.all C.flat)&&(true&&(true||true)&&(true&&(true||true)&&true)))))&&true&&(true&&(true||(C.sl r).flat)&&(true&&(true||true)&&(true&&(true||true)&&true))&&true)) (.ret [C.sl (oR e1 0),C.sl (oR e1 1),C.sl (oR e1 2),C.sl (oR e1 3),C.int .i64 (oI e1 4),C.int .i64 (oI e1 5),C.sl r,C.int .i64 (aA0 r (oI e1 7) 16),C.int .i64 (aA2 (oI e1 8) 16)])))))))))))):T (List C)).eval:=aAj (by kernel_rfl)
theorem cBv {n:Nat} {es:List (List C)} {nm:List UInt8} (id:Int) (h:EB n es) (hn:nm.length≤1000):EB (n+1) (es++[[C.str nm,C.int .i64 id]]):=by
 obtain⟨a,rfl,a1,a2⟩:=h
 refine⟨a++[⟨nm,id⟩],by simp,by simp;omega,fun y hy=>?_⟩
 rcases List.mem_append.1 hy with hy | hy
 ·exact a2 y hy
 ·have:y=⟨nm,id⟩:=by simpa using hy
  rw[this];exact hn
theorem bZn:∀ x∈aCp cEz,x.length≤3000:=by decide
theorem bQ6 (rows:List (List C)) (i h:Int) (ho:aAs rows i=true):bCy 21 rows (bQ7 rows i h):=by
 unfold bQ7
 rw[aKe,aAd,bS1]
 dsimp only
 obtain⟨hs,o7⟩:=(bKi rows i h ho).sz
 generalize aYu rows i h=o at hs o7 ⊢
 generalize oR o 0=ns at hs ⊢
 generalize oR o 1=es at hs ⊢
 generalize oR o 2=os at hs ⊢
 generalize oR o 3=ss at hs ⊢
 generalize oI o 7=j at o7 ⊢
 generalize oI o 8=q
 have hd:=aIb hs (by omega)
 obtain⟨l1,l2,l3,l4,_⟩:=aJd hd
 have hs2:Sz 21 ns es os ss:=hs.mono (by omega)
 obtain⟨t1,t2,t3,t4⟩:=hs
 obtain⟨u1,u2,u3,u4⟩:=hs2
 have o8:=aAr rows j 16 o7
 have r2:=aCq (es.length+1) 24 (by omega) (by omega)
 have r3:=aCq (os.length+1) 24 (by omega) (by omega)
 have r4:=aCq (ss.length+1) 16 (by omega) (by omega)
 have m1:((true&&ns.all fun row=>decide (row.length=3))&&((true&&es.all fun row=>decide (row.length=2))&&((true&&os.all fun row=>decide (row.length=2))&&((true&&ss.all fun row=>decide (row.length=1))&&(decide (0<1)&&true&&(decide (0<1)&&true&&true)))))&&true&&(decide (0<((Nat.add 1 0).succ.add 0).succ)&&true&&(decide (0+1<((Nat.add 1 0).succ.add 0).succ)&&true&&(decide (0+1+1<((Nat.add 1 0).succ.add 0).succ)&&true&&true))&&true))=true:=by
  rw[bNd hd];rfl
 by_cases c0:aAm rows j q 16=0
 ·exact⟨_,_,_,_,_,_,_,_,aA5 ho (aA5 m1 (aA5 o7 (aAg (decide_eq_true c0) (aA5 (by rw[o8];rfl) (aA5 (by simp only[decide_true,Bool.true_or,Bool.and_self,Bool.and_true,List.append_eq,List.length_append,List.length_cons,List.length_nil,List.length_set,Nat.zero_add]) rfl))))),⟨u1,u2,u3,u4⟩,aAr _ _ _ o8⟩
 by_cases c1:aAm rows j q 16=1
 ·exact⟨_,_,_,_,_,_,_,_,aA5 ho (aA5 m1 (aA5 o7 (aAi (decide_eq_false c0) (aAg (decide_eq_true c1) (aA5 (by rw[o8];rfl) (aA5 (by simp only[decide_true,Bool.true_or,Bool.and_self,Bool.and_true,List.append_eq,List.length_append,List.length_cons,List.length_nil,List.length_set,Nat.zero_add]) rfl)))))),⟨u1,u2,u3,u4⟩,aAr _ _ _ o8⟩
 by_cases c2:aAm rows j q 16=2
 ·exact⟨_,_,_,_,_,_,_,_,aA5 ho (aA5 m1 (aA5 o7 (aAi (decide_eq_false c0) (aAi (decide_eq_false c1) (aAg (decide_eq_true c2) (aA5 o8 (aA5 (by rw[r2,decide_eq_true rfl];rfl) (aA5 (by simp only[decide_true,Bool.true_or,Bool.and_self,Bool.and_true,List.append_eq,List.length_append,List.length_cons,List.length_nil,List.length_set,Nat.zero_add]) rfl)))))))),⟨u1,cBv _ t2 (by decide),u3,u4⟩,aAr _ _ _ o8⟩
 by_cases c3:aAm rows j q 16=3
 ·exact⟨_,_,_,_,_,_,_,_,aA5 ho (aA5 m1 (aA5 o7 (aAi (decide_eq_false c0) (aAi (decide_eq_false c1) (aAi (decide_eq_false c2) (aAg (decide_eq_true c3) (aA5 (by rw[r3,decide_eq_true rfl];rfl) (aA5 (by simp only[decide_true,Bool.true_or,Bool.and_self,Bool.and_true,List.append_eq,List.length_append,List.length_cons,List.length_nil,List.length_set,Nat.zero_add]) rfl)))))))),⟨u1,u2,cBv _ t3 (by decide),u4⟩,o8⟩
 by_cases c4:aAm rows j q 16=4
 ·exact⟨_,_,_,_,_,_,_,_,aA5 ho (aA5 m1 (aA5 o7 (aAi (decide_eq_false c0) (aAi (decide_eq_false c1) (aAi (decide_eq_false c2) (aAi (decide_eq_false c3) (aAg (decide_eq_true c4) (aA5 (by rw[o8];rfl) (aA5 (by rw[r4,decide_eq_true rfl];rfl) (aA5 (by simp only[decide_true,Bool.true_or,Bool.and_self,Bool.and_true,List.append_eq,List.length_append,List.length_cons,List.length_nil,List.length_set,Nat.zero_add]) rfl)))))))))),⟨u1,u2,u3,bQa t4 (bEl _ _ _ bZn)⟩,aAr _ _ _ o8⟩
 by_cases c5:aAm rows j q 16=5
 ·by_cases d:(0:Int)<ns.length
  ·obtain⟨l,rfl,a1,a2⟩:=t1
   have hl:0<l.length:=by rw[List.length_map]at d;omega
   have g:=aBc eNd l ⟨0,[],0⟩ 0 hl
   have ds:∀ z:Int,NB 21 ((l.map eNd).set 0 ((List.take 2 (eNd (l.getD 0 ⟨0,[],0⟩))).append [C.int .i64 z] |>.append (List.drop 3 (eNd (l.getD 0 ⟨0,[],0⟩))))):=fun z=>bQb (y:=⟨(l.getD 0 ⟨0,[],0⟩).id,(l.getD 0 ⟨0,[],0⟩).text,z⟩) u1 (show (l.getD 0 ⟨0,[],0⟩).text.length≤6000 from a2 _ (aJt hl))
   have t0:Int.toNat 0=0:=rfl
   simp only[t0,Nat.zero_add,g]
   exact⟨_,_,_,_,_,_,_,_,aA5 ho (aA5 m1 (aA5 o7 (aAi (decide_eq_false c0) (aAi (decide_eq_false c1) (aAi (decide_eq_false c2) (aAi (decide_eq_false c3) (aAi (decide_eq_false c4) (aAg (decide_eq_true c5) (aAg (decide_eq_true d) (aA5 (by rw[o8];rfl) (aA5 (by rw[decide_eq_true d];rfl) (aA5 (by rw[List.length_map,decide_eq_true hl]) (aA5 (by simp only[decide_true,Bool.true_or,Bool.and_self,Bool.and_true,List.append_eq,List.length_append,List.length_cons,List.length_nil,List.length_set,Nat.zero_add]) rfl))))))))))))),⟨ds _,u2,u3,u4⟩,aAr _ _ _ o8⟩
  ·exact⟨_,_,_,_,_,_,_,_,aA5 ho (aA5 m1 (aA5 o7 (aAi (decide_eq_false c0) (aAi (decide_eq_false c1) (aAi (decide_eq_false c2) (aAi (decide_eq_false c3) (aAi (decide_eq_false c4) (aAg (decide_eq_true c5) (aAi (decide_eq_false d) (aA5 (by simp only[decide_true,Bool.true_or,Bool.and_self,Bool.and_true,List.append_eq,List.length_append,List.length_cons,List.length_nil,List.length_set,Nat.zero_add]) rfl)))))))))),⟨u1,u2,u3,u4⟩,o8⟩
 by_cases c6:aAm rows j q 16=6
 ·by_cases d:(1:Int)<ns.length
  ·obtain⟨l,rfl,a1,a2⟩:=t1
   have hl:1<l.length:=by rw[List.length_map]at d;omega
   have g:=aBc eNd l ⟨0,[],0⟩ 0 (by omega)
   have g1:=aBc eNd l ⟨0,[],0⟩ 1 hl
   have ds:NB 21 ((l.map eNd).set 1 (C.int .i64 (l.getD 0 ⟨0,[],0⟩).id::List.drop 1 (eNd (l.getD 1 ⟨0,[],0⟩)))):=bQb (y:=⟨(l.getD 0 ⟨0,[],0⟩).id,(l.getD 1 ⟨0,[],0⟩).text,(l.getD 1 ⟨0,[],0⟩).sure⟩) u1 (show (l.getD 1 ⟨0,[],0⟩).text.length≤6000 from a2 _ (aJt hl))
   have t0:Int.toNat 0=0:=rfl
   have t1:Int.toNat 1=1:=rfl
   simp only[t0,t1,Nat.zero_add,g,g1]
   exact⟨_,_,_,_,_,_,_,_,aA5 ho (aA5 m1 (aA5 o7 (aAi (decide_eq_false c0) (aAi (decide_eq_false c1) (aAi (decide_eq_false c2) (aAi (decide_eq_false c3) (aAi (decide_eq_false c4) (aAi (decide_eq_false c5) (aAg (decide_eq_true c6) (aAg (decide_eq_true d) (aA5 (by rw[decide_eq_true (by omega:(0:Int)<((l.map eNd).length:Int))];rfl) (aA5 (by rw[List.length_map,decide_eq_true (by omega:0<l.length)];rfl) (aA5 (by rw[decide_eq_true d];rfl) (aA5 (by rw[List.length_map,decide_eq_true hl]) (aA5 (by simp only[decide_true,Bool.true_or,Bool.and_self,Bool.and_true,List.append_eq,List.length_append,List.length_cons,List.length_nil,List.length_set,Nat.zero_add]) rfl))))))))))))))),⟨ds,u2,u3,u4⟩,o8⟩
  ·exact⟨_,_,_,_,_,_,_,_,aA5 ho (aA5 m1 (aA5 o7 (aAi (decide_eq_false c0) (aAi (decide_eq_false c1) (aAi (decide_eq_false c2) (aAi (decide_eq_false c3) (aAi (decide_eq_false c4) (aAi (decide_eq_false c5) (aAg (decide_eq_true c6) (aAi (decide_eq_false d) (aA5 (by simp only[decide_true,Bool.true_or,Bool.and_self,Bool.and_true,List.append_eq,List.length_append,List.length_cons,List.length_nil,List.length_set,Nat.zero_add]) rfl))))))))))),⟨u1,u2,u3,u4⟩,o8⟩
 exact⟨_,_,_,_,_,_,_,_,aA5 ho (aA5 m1 (aA5 o7 (aAi (decide_eq_false c0) (aAi (decide_eq_false c1) (aAi (decide_eq_false c2) (aAi (decide_eq_false c3) (aAi (decide_eq_false c4) (aAi (decide_eq_false c5) (aAi (decide_eq_false c6) (aA5 (by simp only[decide_true,Bool.true_or,Bool.and_self,Bool.and_true,List.append_eq,List.length_append,List.length_cons,List.length_nil,List.length_set,Nat.zero_add]) rfl)))))))))),⟨u1,u2,u3,u4⟩,o8⟩
theorem cCk:aAa Tryz.prog bOp:=aA8 (by simp[aD6,aFo,aX5,bIb])
theorem bMu:aAx Tryz.prog 57 (⟨[aDa],[aBz],true⟩) bGi:=aA6 cCk aAb Tryz.func57 (by kernel_rfl) fun cs outs hk h=>by
 unfold bGi at h
 split at h
 ·simp only[Option.some.injEq,Prod.mk.injEq]at h
  obtain⟨h1,rfl⟩:=h
  rename_i rows i hh
  have e:=(bQ6 rows i hh h1).back
  rw[←e]
  exact (aKe _).symm
 ·cases h
noncomputable section
def szB (n:Nat) (ns es os ss:List (List C)):Bool :=
 aAp kNd ns&&aAp kEn es&&aAp kEn os&&aAp [.str] ss&&decide (ns.length≤n)&&decide (es.length≤n)&&decide (os.length≤n)&&decide (ss.length≤n) &&
 ((nds ns).all fun y=>decide (y.text.length≤6000))&&((ens es).all fun y=>decide (y.name.length≤1000))&&((ens os).all fun y=>decide (y.name.length≤1000))&&((aCp ss).all fun y=>decide (y.length≤3000))
def aXo (ns es os ss:List (List C)) (r:Int) (nm t:List UInt8):Bool:=szB 60 ns es os ss&&decide (r≤6000)&&decide (nm.length≤1000)&&decide (t.length≤16777216)
def bGp:Env:=mkE [] [(56,(⟨[aDa,pI],[rB],true⟩),aLn),(107,(sg [aB0,pS] [aBz,rI]),bPe),(108,(sg [aB0] [aBz]),bP5),(111,(sg [aB0,pS] [aBz,rI]),bPz),(112,(sg [aB0,pS,pS] [aBz,rI]),bQ5),(109,(sg [aB0,pS] [aBz,rI]),bP0)]
def aBd (rows:List (List C)) (i h:Int) (ns es os ss:List (List C)) (r x:Int) (nm t:List UInt8):Option (List C):=cE5 (bD4 bGp aAc ⟨[aDa,aB0,pS,pS],[aBz],true⟩ Tryz.f76 [.sl rows,.int .i64 i,.int .i64 h,.sl ns,.sl es,.sl os,.sl ss,.int .i64 r,.int .i64 x,.str nm,.str t]).eval
def aXq:aCf:=fun cs=>match cs with
 |[.sl rows,.int .i64 i,.int .i64 h,.sl ns,.sl es,.sl os,.sl ss,.int .i64 r,.int .i64 x,.str nm,.str t]=>some (aAs rows i&&aXo ns es os ss r nm t,aTj (aBd rows i h ns es os ss r x nm t) rows)
 |_=>none
end
theorem bMc (H:List Pt→Nat→St→T (List C)) (rows:List (List C)) (i:Int) (h:Int) (ns:List (List C)) (es:List (List C)) (os:List (List C)) (ss:List (List C)) (r:Int) (x:Int) (nm:List UInt8) (t:List UInt8):(aAk bGp aAc {params:=[aDa,aB0,pS,pS],results:=[aBz],nested:=true} Tryz.f76 H [C.sl rows,C.int .i64 i,C.int .i64 h,C.sl ns,C.sl es,C.sl os,C.sl ss,C.int .i64 r,C.int .i64 x,C.str nm,C.str t]).eval=(let d1:Dk:=(rmD {ns:=ns,es:=es,os:=os,ss:=ss,r:=r,x:=x} nm);let d2:Dk:=(crD {ns:=List.take d1.ns.length d1.ns,es:=List.take d1.es.length d1.es,os:=List.take d1.os.length d1.os,ss:=List.take d1.ss.length d1.ss,r:=d1.r,x:=d1.x} nm);let d3:Dk:=(apD {ns:=List.take d2.ns.length d2.ns,es:=List.take d2.es.length d2.es,os:=List.take d2.os.length d2.os,ss:=List.take d2.ss.length d2.ss,r:=d2.r,x:=d2.x} nm t);let d4:Dk:=(snD {ns:=List.take d3.ns.length d3.ns,es:=List.take d3.es.length d3.es,os:=List.take d3.os.length d3.os,ss:=List.take d3.ss.length d3.ss,r:=d3.r,x:=d3.x});let d5:Dk:=(syD {ns:=List.take d3.ns.length d3.ns,es:=List.take d3.es.length d3.es,os:=List.take d3.os.length d3.os,ss:=List.take d3.ss.length d3.ss,r:=d3.r,x:=d3.x} nm);let d6:Dk:=(snD {ns:=List.take d5.ns.length d5.ns,es:=List.take d5.es.length d5.es,os:=List.take d5.os.length d5.os,ss:=List.take d5.ss.length d5.ss,r:=d5.r,x:=d5.x});(.must (aFj ns es os ss&&aF2 os ss nm) (.must ((true&&d1.ns.all fun row=>decide (row.length=3))&&((true&&d1.es.all fun row=>decide (row.length=2))&&((true&&d1.os.all fun row=>decide (row.length=2))&&((true&&d1.ss.all fun row=>decide (row.length=1))&&(decide (0<1)&&true&&(decide (0<1)&&true&&true)))))&&(decide (0<1)&&true&&true&&true)&&true) (.must (aFj (List.take d1.ns.length d1.ns) (List.take d1.es.length d1.es) (List.take d1.os.length d1.os) (List.take d1.ss.length d1.ss)&&aF2 (List.take d1.os.length d1.os) (List.take d1.ss.length d1.ss) nm) (.must ((true&&d2.ns.all fun row=>decide (row.length=3))&&((true&&d2.es.all fun row=>decide (row.length=2))&&((true&&d2.os.all fun row=>decide (row.length=2))&&((true&&d2.ss.all fun row=>decide (row.length=1))&&(decide (0<1)&&true&&(decide (0<1)&&true&&true)))))&&(decide (0<1)&&true&&true&&true)&&true) (.must (aFj (List.take d2.ns.length d2.ns) (List.take d2.es.length d2.es) (List.take d2.os.length d2.os) (List.take d2.ss.length d2.ss)&&decide (t.length≤16777216)) (.must ((true&&d3.ns.all fun row=>decide (row.length=3))&&((true&&d3.es.all fun row=>decide (row.length=2))&&((true&&d3.os.all fun row=>decide (row.length=2))&&((true&&d3.ss.all fun row=>decide (row.length=1))&&(decide (0<1)&&true&&(decide (0<1)&&true&&true)))))&&(decide (0<1)&&true&&true&&true)&&true) (.must (aAs rows i) (.ask (decide (aAm rows i h 4=(0:Int))) (.must (aAs rows (aA0 rows i 4)) (.ask (decide (aAm rows (aA0 rows i 4) (aA2 h 4) 4=(0:Int))) (.must (decide (d3.ns.length=d3.ns.length)&&(true||d3.ns.all fun r=>r.all C.flat)&&(decide (d3.es.length=d3.es.length)&&(true||d3.es.all fun r=>r.all C.flat)&&(decide (d3.os.length=d3.os.length)&&(true||d3.os.all fun r=>r.all C.flat)&&(decide (d3.ss.length=d3.ss.length)&&(true||d3.ss.all fun r=>r.all C.flat)&&(true&&(true||true)&&(true&&(true||true)&&true)))))&&true&&(true&&(true||(C.sl rows).flat)&&(true&&(true||true)&&(true&&(true||true)&&true))&&true)) (.ret [C.sl d3.ns,C.sl d3.es,C.sl d3.os,C.sl d3.ss,C.int .i64 d3.r,C.int .i64 d3.x,C.sl rows,C.int .i64 (aA0 rows (aA0 rows i 4) 4),C.int .i64 (aA2 (aA2 h 4) 4)])) (.must (aFj (List.take d3.ns.length d3.ns) (List.take d3.es.length d3.es) (List.take d3.os.length d3.os) (List.take d3.ss.length d3.ss)) (.must ((true&&d4.ns.all fun row=>decide (row.length=3))&&((true&&d4.es.all fun row=>decide (row.length=2))&&((true&&d4.os.all fun row=>decide (row.length=2))&&((true&&d4.ss.all fun row=>decide (row.length=1))&&(decide (0<1)&&true&&(decide (0<1)&&true&&true)))))&&true&&true) (.must (decide (d4.ns.length=d4.ns.length)&&(true||d4.ns.all fun r=>r.all C.flat)&&(decide (d4.es.length=d4.es.length)&&(true||d4.es.all fun r=>r.all C.flat)&&(decide (d4.os.length=d4.os.length)&&(true||d4.os.all fun r=>r.all C.flat)&&(decide (d4.ss.length=d4.ss.length)&&(true||d4.ss.all fun r=>r.all C.flat)&&(true&&(true||true)&&(true&&(true||true)&&true)))))&&true&&(true&&(true||(C.sl rows).flat)&&(true&&(true||true)&&(true&&(true||true)&&true))&&true)) (.ret [C.sl d4.ns,C.sl d4.es,C.sl d4.os,C.sl d4.ss,C.int .i64 d4.r,C.int .i64 d4.x,C.sl rows,C.int .i64 (aA0 rows (aA0 rows i 4) 4),C.int .i64 (aA2 (aA2 h 4) 4)])))))) (.must (aFj (List.take d3.ns.length d3.ns) (List.take d3.es.length d3.es) (List.take d3.os.length d3.os) (List.take d3.ss.length d3.ss)) (.must ((true&&d5.ns.all fun row=>decide (row.length=3))&&((true&&d5.es.all fun row=>decide (row.length=2))&&((true&&d5.os.all fun row=>decide (row.length=2))&&((true&&d5.ss.all fun row=>decide (row.length=1))&&(decide (0<1)&&true&&(decide (0<1)&&true&&true)))))&&(decide (0<1)&&true&&true&&true)&&true) (.must (aAs rows (aA0 rows i 4)) (.ask (decide (aAm rows (aA0 rows i 4) (aA2 h 4) 4=(0:Int))) (.must (decide (d5.ns.length=d5.ns.length)&&(true||d5.ns.all fun r=>r.all C.flat)&&(decide (d5.es.length=d5.es.length)&&(true||d5.es.all fun r=>r.all C.flat)&&(decide (d5.os.length=d5.os.length)&&(true||d5.os.all fun r=>r.all C.flat)&&(decide (d5.ss.length=d5.ss.length)&&(true||d5.ss.all fun r=>r.all C.flat)&&(true&&(true||true)&&(true&&(true||true)&&true)))))&&true&&(true&&(true||(C.sl rows).flat)&&(true&&(true||true)&&(true&&(true||true)&&true))&&true)) (.ret [C.sl d5.ns,C.sl d5.es,C.sl d5.os,C.sl d5.ss,C.int .i64 d5.r,C.int .i64 d5.x,C.sl rows,C.int .i64 (aA0 rows (aA0 rows i 4) 4),C.int .i64 (aA2 (aA2 h 4) 4)])) (.must (aFj (List.take d5.ns.length d5.ns) (List.take d5.es.length d5.es) (List.take d5.os.length d5.os) (List.take d5.ss.length d5.ss)) (.must ((true&&d6.ns.all fun row=>decide (row.length=3))&&((true&&d6.es.all fun row=>decide (row.length=2))&&((true&&d6.os.all fun row=>decide (row.length=2))&&((true&&d6.ss.all fun row=>decide (row.length=1))&&(decide (0<1)&&true&&(decide (0<1)&&true&&true)))))&&true&&true) (.must (decide (d6.ns.length=d6.ns.length)&&(true||d6.ns.all fun r=>r.all C.flat)&&(decide (d6.es.length=d6.es.length)&&(true||d6.es.all fun r=>r.all C.flat)&&(decide (d6.os.length=d6.os.length)&&(true||d6.os.all fun r=>r.all C.flat)&&(decide (d6.ss.length=d6.ss.length)&&(true||d6.ss.all fun r=>r.all C.flat)&&(true&&(true||true)&&(true&&(true||true)&&true)))))&&true&&(true&&(true||(C.sl rows).flat)&&(true&&(true||true)&&(true&&(true||true)&&true))&&true)) (.ret [C.sl d6.ns,C.sl d6.es,C.sl d6.os,C.sl d6.ss,C.int .i64 d6.r,C.int .i64 d6.x,C.sl rows,C.int .i64 (aA0 rows (aA0 rows i 4) 4),C.int .i64 (aA2 (aA2 h 4) 4)])))))))))))))))):T (List C)).eval:=aAj (by kernel_rfl)
theorem cFl (d:Dk):Dk.mk d.ns d.es d.os d.ss d.r d.x=d:=rfl
def SzD (n:Nat) (d:Dk):Prop:=Sz n d.ns d.es d.os d.ss∧d.r≤6000
theorem SzD.dis {n:Nat} {d:Dk} (h:SzD n d) (hn:n≤100):aFj d.ns d.es d.os d.ss=true:=aIb h.1 hn
theorem SzD.more {n:Nat} {d:Dk} {nm:List UInt8} (h:SzD n d) (hn:n≤100) (hm:nm.length≤1000):aF2 d.os d.ss nm=true:=bLw h.1 hn hm
theorem cEq {n:Nat} {d:Dk} {nm:List UInt8} (h:SzD n d) (hm:nm.length≤1000):SzD (n+1) (rmD d nm):=⟨cEp h.1 hm,h.2⟩
theorem cFp {n:Nat} {d:Dk} {nm:List UInt8} (h:SzD n d) (hm:nm.length≤1000):SzD (n+1) (crD d nm):=⟨cFo h.1 hm,h.2⟩
theorem cB1 {n:Nat} {d:Dk} (h:SzD n d):SzD n (snD d):=⟨cEh h.1,h.2⟩
theorem cEf {n:Nat} {d:Dk} {nm:List UInt8} (h:SzD n d):SzD n (syD d nm):=⟨cEe h.1,h.2⟩
theorem cFx {n:Nat} {d:Dk} {nm t:List UInt8} (h:SzD n d) (hn:n≤100):SzD n (apD d nm t):=⟨cFv h.1 (aIb h.1 hn) h.2,h.2⟩
def aCc (n:Nat) (rows:List (List C)) (o:Option (List C)):Prop :=
 ∃ d i h,o=some [.sl d.ns,.sl d.es,.sl d.os,.sl d.ss,.int .i64 d.r,.int .i64 d.x,.sl rows,.int .i64 i,.int .i64 h]∧SzD n d∧aAs rows i=true
theorem aCc.of {n:Nat} {rows:List (List C)} {o o':Option (List C)} (e:o=o') (h:aCc n rows o'):aCc n rows o:=e▸h
theorem aCc.out {n:Nat} {rows:List (List C)} {o:Option (List C)} (h:aCc n rows o):bCy n rows o:=by
 obtain⟨d,i,h,e,h1,h2⟩:=h
 exact⟨d.ns,d.es,d.os,d.ss,d.r,d.x,i,h,e,h1.1,h2⟩
theorem aCc.sz {n:Nat} {rows:List (List C)} {o:Option (List C)} (h:aCc n rows o):SzD n ⟨oR o 0,oR o 1,oR o 2,oR o 3,oI o 4,oI o 5⟩∧aAs rows (oI o 7)=true:=by
 obtain⟨d,i,h,rfl,h1,h2⟩:=h
 exact⟨h1,h2⟩
theorem cEd {n:Nat} {ns es os ss:List (List C)} (h:szB n ns es os ss=true):Sz n ns es os ss:=by
 unfold szB at h
 simp only[Bool.and_eq_true,decide_eq_true_eq,List.all_eq_true]at h
 obtain⟨⟨⟨⟨⟨⟨⟨⟨⟨⟨⟨a1,a2⟩,a3⟩,a4⟩,b1⟩,b2⟩,b3⟩,b4⟩,c1⟩,c2⟩,c3⟩,c4⟩:=h
 exact⟨⟨nds ns,aO0 a1,by unfold nds;rw[List.length_map];exact b1,c1⟩,⟨ens es,aLk a2,by unfold ens;rw[List.length_map];exact b2,c2⟩,⟨ens os,aLk a3,by unfold ens;rw[List.length_map];exact b3,c3⟩,⟨aCp ss,aFq a4,by unfold aCp;rw[List.length_map];exact b4,c4⟩⟩
theorem cEb {n:Nat} {ns es os ss:List (List C)} (h:Sz n ns es os ss):szB n ns es os ss=true:=by
 obtain⟨⟨a,rfl,a1,a2⟩,⟨b,rfl,b1,b2⟩,⟨c,rfl,c1,c2⟩,⟨d,rfl,d1,d2⟩⟩:=h
 unfold szB
 rw[aTh,aKl,aKl,aEy,aGh,aQe,aQe,aId]
 simp only[List.length_map,Bool.true_and,Bool.and_eq_true,decide_eq_true_eq,List.all_eq_true]
 exact⟨⟨⟨⟨⟨⟨⟨a1,b1⟩,c1⟩,d1⟩,a2⟩,b2⟩,c2⟩,d2⟩
theorem aXp (n:Nat) (hn:n≤60) (rows:List (List C)) (i h:Int) (ns es os ss:List (List C)) (r x:Int) (nm t:List UInt8) (ho:aAs rows i=true) (hs:SzD n ⟨ns,es,os,ss,r,x⟩) (hm:nm.length≤1000) (ht:t.length≤16777216) :
  aCc (n+2) rows (aBd rows i h ns es os ss r x nm t):=by
 unfold aBd
 rw[aKe,aAd,bMc]
 simp only[List.take_length,cFl]
 have hd0:aFj ns es os ss=true:=hs.dis (by omega)
 have mr0:aF2 os ss nm=true:=hs.more (by omega) hm
 have s1:=cEq hs hm
 generalize rmD ⟨ns,es,os,ss,r,x⟩ nm=D1 at s1 ⊢
 have hd1:=s1.dis (by omega)
 have mr1:=s1.more (by omega) hm
 have s2:=cFp s1 hm
 generalize crD D1 nm=D2 at s2 ⊢
 have hd2:=s2.dis (by omega)
 have s3:=cFx (nm:=nm) (t:=t) s2 (by omega)
 generalize apD D2 nm t=D3 at s3 ⊢
 have hd3:=s3.dis (by omega)
 have s4:=cB1 s3
 have s5:=cEf (nm:=nm) s3
 generalize syD D3 nm=D5 at s5 ⊢
 have hd5:=s5.dis (by omega)
 have s6:=cB1 s5
 have o1:=aAr rows i 4 ho
 have o2:=aAr rows (aA0 rows i 4) 4 o1
 by_cases c1:aAm rows i h 4=0
 ·by_cases c2:aAm rows (aA0 rows i 4) (aA2 h 4) 4=0
  ·exact⟨D3,_,_,aA5 (by rw[hd0,mr0];rfl) (aA5 (aIi hd1) (aA5 (by rw[hd1,mr1];rfl) (aA5 (aIi hd2) (aA5 (by rw[hd2,decide_eq_true ht];rfl) (aA5 (aIi hd3) (aA5 ho (aAg (decide_eq_true c1) (aA5 o1 (aAg (decide_eq_true c2) (aA5 (by simp only[decide_true,Bool.true_or,Bool.and_self,Bool.and_true]) rfl)))))))))),s3,o2⟩
  ·exact⟨snD D3,_,_,aA5 (by rw[hd0,mr0];rfl) (aA5 (aIi hd1) (aA5 (by rw[hd1,mr1];rfl) (aA5 (aIi hd2) (aA5 (by rw[hd2,decide_eq_true ht];rfl) (aA5 (aIi hd3) (aA5 ho (aAg (decide_eq_true c1) (aA5 o1 (aAi (decide_eq_false c2) (aA5 hd3 (aA5 (cD2 (s4.dis (by omega))) (aA5 (by simp only[decide_true,Bool.true_or,Bool.and_self,Bool.and_true]) rfl)))))))))))),s4,o2⟩
 ·by_cases c2:aAm rows (aA0 rows i 4) (aA2 h 4) 4=0
  ·exact⟨D5,_,_,aA5 (by rw[hd0,mr0];rfl) (aA5 (aIi hd1) (aA5 (by rw[hd1,mr1];rfl) (aA5 (aIi hd2) (aA5 (by rw[hd2,decide_eq_true ht];rfl) (aA5 (aIi hd3) (aA5 ho (aAi (decide_eq_false c1) (aA5 hd3 (aA5 (aIi hd5) (aA5 o1 (aAg (decide_eq_true c2) (aA5 (by simp only[decide_true,Bool.true_or,Bool.and_self,Bool.and_true]) rfl)))))))))))),s5,o2⟩
  ·exact⟨snD D5,_,_,aA5 (by rw[hd0,mr0];rfl) (aA5 (aIi hd1) (aA5 (by rw[hd1,mr1];rfl) (aA5 (aIi hd2) (aA5 (by rw[hd2,decide_eq_true ht];rfl) (aA5 (aIi hd3) (aA5 ho (aAi (decide_eq_false c1) (aA5 hd3 (aA5 (aIi hd5) (aA5 o1 (aAi (decide_eq_false c2) (aA5 hd5 (aA5 (cD2 (s6.dis (by omega))) (aA5 (by simp only[decide_true,Bool.true_or,Bool.and_self,Bool.and_true]) rfl)))))))))))))),s6,o2⟩
theorem bEi {ns es os ss:List (List C)} {r x:Int} {nm t:List UInt8}:aXo ns es os ss r nm t=true↔SzD 60 ⟨ns,es,os,ss,r,x⟩∧nm.length≤1000∧t.length≤16777216:=by
 unfold aXo
 simp only[Bool.and_eq_true,decide_eq_true_eq]
 exact⟨fun⟨⟨⟨a,b⟩,c⟩,d⟩=>⟨⟨cEd a,b⟩,c,d⟩,fun⟨⟨a,b⟩,c,d⟩=>⟨⟨⟨cEb a,b⟩,c⟩,d⟩⟩
theorem bYy:aAa Tryz.prog bGp:=aA8 (by simp[aIz,aR5,aM8,aR9,aRc,aWt])
theorem bHo:aAx Tryz.prog 76 (⟨[aDa,aB0,pS,pS],[aBz],true⟩) aXq:=aA6 bYy aAb Tryz.func76 (by kernel_rfl) fun cs outs hk h=>by
 unfold aXq at h
 split at h
 ·simp only[Option.some.injEq,Prod.mk.injEq,Bool.and_eq_true]at h
  obtain⟨⟨h1,h2⟩,rfl⟩:=h
  rename_i rows i hh ns es os ss r x nm t
  obtain⟨q1,q2,q3⟩:=(bEi (x:=x)).1 h2
  have e:=(aXp 60 (by omega) rows i hh ns es os ss r x nm t h1 q1 q2 q3).out.back
  rw[←e]
  exact (aKe _).symm
 ·cases h
noncomputable section
def aHz (rows:List (List C)) (i h:Int) (n:Nat) (ns:List (List C)) (m:Nat) (es:List (List C)) (p:Nat) (os:List (List C)) (q:Nat) (ss:List (List C)) (r x b l j:Int):St:={slots:=[(0,.l (.ptr 0 0)),(2,.l (.ptr 1 0)),(3,.l (.ptr 2 0)),(4,aBf b),(5,aBf l),(6,aBf j)],heap:=[(0,.box [.sl rows,.i .i64 i,.i .i64 h]),(1,.box [.nil,.nil,.nil,.nil,.i .i64 0,.i .i64 0]),(2,cGx n m p q r x),(3,.arr 3 ns),(4,.arr 2 es),(5,.arr 2 os),(6,.arr 1 ss)],next:=7,pins:=[0]}
def aBy (rows:List (List C)) (i h:Int) (n:Nat) (ns:List (List C)) (m:Nat) (es:List (List C)) (p:Nat) (os:List (List C)) (q:Nat) (ss:List (List C)) (r x b l j:Int) (nr:Nat) (rs:List (List C)) (y:Int):St:={slots:=[(0,.l (.ptr 0 0)),(2,.l (.ptr 1 0)),(3,.l (.ptr 2 0)),(4,aBf b),(5,aBf l),(6,aBf j),(8,.l (.ref 3 0 nr)),(10,aBf y)],heap:=[(0,.box [.sl rows,.i .i64 i,.i .i64 h]),(1,.box [.nil,.nil,.nil,.nil,.i .i64 0,.i .i64 0]),(2,.box [.ref 4 0 n,.ref 5 0 m,.ref 6 0 p,.ref 7 0 q,.i .i64 r,.i .i64 x]),(3,.fro 1 rs),(4,.arr 3 ns),(5,.arr 2 es),(6,.arr 2 os),(7,.arr 1 ss)],next:=8,pins:=[0]}
def aDn:Env:=mkE [(5,[0,2,3,4,5,6]),(21,[0,2,3,4,5,6,8,10])] [(46,(⟨[aDa,pI],[rI],true⟩),aEh),(56,(⟨[aDa,pI],[rB],true⟩),aLn),(42,(⟨[aDa,pSl 3],[rI],true⟩),aLm),(53,(sg [pI] [rS]),aMo),(65,(sg [pI,pS] [rI]),aF3),(70,(⟨[aDr,aUg],[rS],true⟩),aR3),(27,(⟨[aDa],[rS],true⟩),bPh),(73,(⟨[aDa,pI],[rSl 9],true⟩),bPa),(75,(⟨[aDa,pS],[rS],true⟩),bQ2),(74,(⟨[aDr,aUg],[rS],true⟩),aOe),(78,(⟨[aDa],[rS],true⟩),bG6),(77,(sg [pI] [rS]),bD6),(14,(sg [pI] [aBz]),aVw),(76,(⟨[aDa,aB0,pS,pS],[aBz],true⟩),aXq)]
def aVx (rows:List (List C)) (i h:Int):Option (List C):=cE5 (bD4 aDn aAc ⟨[aDa],[aBz],true⟩ Tryz.f58 [.sl rows,.int .i64 i,.int .i64 h]).eval
def aTy:aCf:=fun cs=>match cs with
 |[.sl rows,.int .i64 i,.int .i64 h]=>some (aAs rows i,aTj (aVx rows i h) rows)
 |_=>none
end
theorem bIc (H:List Pt→Nat→St→T (List C)) (r:List (List C)) (i:Int) (h:Int):(aAk aDn aAc {params:=[aDa],results:=[aBz],nested:=true} Tryz.f58 H [C.sl r,C.int .i64 i,C.int .i64 h]).eval=((.must (aAs r i&&(aAp [K.int .i64] [[C.int .i64 6000],[C.int .i64 6000],[C.int .i64 6000],[C.int .i64 900]]&&(decide (0<4)&&decide (4≤1048576)))) (H [Pt.r,Pt.r,Pt.r,Pt.r,Pt.l,Pt.r,Pt.b] 9223372036854775808 (aHz (r) (aA0 r i (↑(4:Nat):Int)) (aA2 h (↑(4:Nat):Int)) (0) ([]) (0) ([]) (0) ([]) (0) ([]) (aN7 ((aDo [[C.int .i64 6000],[C.int .i64 6000],[C.int .i64 6000],[C.int .i64 900]]).getD (aAm r i h (↑(4:Nat):Int)).toNat 0)) ((1:Int)) ((0:Int)) ((0:Int)) ((0:Int))))):T (List C)).eval:=aAj (by kernel_rfl)
theorem aXf (H:List Pt→Nat→St→T (List C)) (rows:List (List C)) (i:Int) (h:Int) (n:Nat) (ns:List (List C)) (q2:Nat) (es:List (List C)) (p:Nat) (os:List (List C)) (q:Nat) (ss:List (List C)) (r:Int) (x:Int) (b:Int) (l:Int) (j:Int) (nr:Nat) (rs:List (List C)) (y:Int) (m:Nat) (k:Nat):(aBl aDn aAc {params:=[aDa],results:=[aBz],nested:=true} Tryz.f58 H [Pt.r,Pt.r,Pt.r,Pt.r,Pt.l,Pt.r,Pt.b,Pt.lp m,Pt.r,Pt.l,Pt.b,Pt.r,Pt.r,Pt.r,Pt.r,Pt.r,Pt.r,Pt.r,Pt.r,Pt.r,Pt.r,Pt.b] k (aBy rows i h n ns q2 es p os q ss r x b l j nr rs y)).eval=(let z1:Int:=(aRs l ((rs.getD (0+y.toNat) []).getD 0 (C.fn 0 [])).toStr);(.ask (decide (y<(↑nr:Int))) (.must (decide ((0:Int)≤y)&&decide (y<(↑nr:Int))&&decide (0+y.toNat<rs.length)) (.must (decide (0<(rs.getD (0+y.toNat) []).length)&&C.is K.str ((rs.getD (0+y.toNat) []).getD 0 (C.fn 0 []))&&true) (.must (decide (((rs.getD (0+y.toNat) []).getD 0 (C.fn 0 [])).toStr.length≤1048576)) (H [Pt.r,Pt.r,Pt.r,Pt.r,Pt.l,Pt.r,Pt.b,Pt.lp m,Pt.r,Pt.l,Pt.b,Pt.r,Pt.r,Pt.r,Pt.r,Pt.r,Pt.r,Pt.r,Pt.r,Pt.r,Pt.r,Pt.b] k (aBy (rows) (i) (h) (n) (ns) (q2) (es) (p) (os) (q) (ss) (r) (x) (b) (z1) (j) (nr) (rs) (IntKind.i64.wrap (y+(1:Int)))))))) (H [Pt.r,Pt.r,Pt.r,Pt.r,Pt.l,Pt.r,Pt.b] m (aHz (rows) (i) (h) (n) (ns) (q2) (es) (p) (os) (q) (ss) (r) (x) (b) (l) (IntKind.i64.wrap (j+(1:Int)))))):T (List C)).eval:=aAj (by kernel_rfl)
theorem bAl (H:List Pt→Nat→St→T (List C)) (rows:List (List C)) (i:Int) (h:Int) (n:Nat) (ns:List (List C)) (q2:Nat) (es:List (List C)) (p:Nat) (os:List (List C)) (q:Nat) (ss:List (List C)) (r:Int) (x:Int) (b:Int) (l:Int) (j:Int) (k:Nat):(aBl aDn aAc {params:=[aDa],results:=[aBz],nested:=true} Tryz.f58 H [Pt.r,Pt.r,Pt.r,Pt.r,Pt.l,Pt.r,Pt.b] k (aHz rows i h n ns q2 es p os q ss r x b l j)).eval=(let z1:Int:=(rcI rows (aA0 rows (aA0 rows (aA0 rows i 5) 2) (3:Int)) (aA2 (aA2 (aA2 h 5) 2) (3:Int)));let z2:Int:=(rcH rows (aA0 rows (aA0 rows (aA0 rows i 5) 2) (3:Int)) (aA2 (aA2 (aA2 h 5) 2) (3:Int)));let u1:List (List UInt8):=(rsL rows z1 z2 3);let z3:Int:=(rsI rows z1 z2 3);let z4:Int:=(rsH rows z1 z2 3);let s1:List UInt8:=(rcT rows (aA0 rows (aA0 rows (aA0 rows i 5) 2) (3:Int)) (aA2 (aA2 (aA2 h 5) 2) (3:Int)));let s2:List UInt8:=(aCk (IntKind.i64.wrap ((1:Int)+aAm rows (aA0 rows i 5) (aA2 h 5) 2)) (IntKind.i64.wrap ((1:Int)+aAm rows (aA0 rows (aA0 rows i 5) 2) (aA2 (aA2 h 5) 2) (3:Int))) b (aQn .i64 l 1) (aCp []));let s3:List UInt8:=(aCw (IntKind.i64.wrap ((1:Int)+aAm rows (aA0 rows i 5) (aA2 h 5) 2)) (IntKind.i64.wrap ((1:Int)+aAm rows (aA0 rows (aA0 rows i 5) 2) (aA2 (aA2 h 5) 2) (3:Int))) b (aQn .i64 l 1) (aCp []));let z5:Int:=(bnI rows (aA0 rows (aA0 rows (aA0 rows (aA0 rows z3 20) 20) (4:Int)) (6:Int)) (aA2 (aA2 (aA2 (aA2 z4 20) 20) (4:Int)) (6:Int)) s3);let s4:List UInt8:=(bnT rows (aA0 rows (aA0 rows (aA0 rows (aA0 rows z3 20) 20) (4:Int)) (6:Int)) (aA2 (aA2 (aA2 (aA2 z4 20) 20) (4:Int)) (6:Int)) s3);let z6:Int:=(bnH rows (aA0 rows (aA0 rows (aA0 rows (aA0 rows z3 20) 20) (4:Int)) (6:Int)) (aA2 (aA2 (aA2 (aA2 z4 20) 20) (4:Int)) (6:Int)) s3);let e1:Option (List C):=(aBd rows z5 z6 (List.take n ns) (List.take q2 es) (List.take p os) (List.take q ss) r x (aAo b) s4);let e2:Option (List C):=(aBd rows (aA0 rows (aA0 rows (aA0 rows (aA0 rows z3 20) 20) (4:Int)) (6:Int)) (aA2 (aA2 (aA2 (aA2 z4 20) 20) (4:Int)) (6:Int)) (List.take n ns) (List.take q2 es) (List.take p os) (List.take q ss) r x (aAo b) s3);let s5:List UInt8:=(bnT rows (aA0 rows (aA0 rows (aA0 rows (aA0 rows z3 20) 20) (4:Int)) (6:Int)) (aA2 (aA2 (aA2 (aA2 z4 20) 20) (4:Int)) (6:Int)) s2);let z7:Int:=(bnI rows (aA0 rows (aA0 rows (aA0 rows (aA0 rows z3 20) 20) (4:Int)) (6:Int)) (aA2 (aA2 (aA2 (aA2 z4 20) 20) (4:Int)) (6:Int)) s2);let z8:Int:=(bnH rows (aA0 rows (aA0 rows (aA0 rows (aA0 rows z3 20) 20) (4:Int)) (6:Int)) (aA2 (aA2 (aA2 (aA2 z4 20) 20) (4:Int)) (6:Int)) s2);let e3:Option (List C):=(aBd rows z7 z8 (List.take n ns) (List.take q2 es) (List.take p os) (List.take q ss) r x (aAo b) s5);let e4:Option (List C):=(aBd rows (aA0 rows (aA0 rows (aA0 rows (aA0 rows z3 20) 20) (4:Int)) (6:Int)) (aA2 (aA2 (aA2 (aA2 z4 20) 20) (4:Int)) (6:Int)) (List.take n ns) (List.take q2 es) (List.take p os) (List.take q ss) r x (aAo b) s2);let s6:List UInt8:=(aCk (IntKind.i64.wrap ((1:Int)+aAm rows (aA0 rows i 5) (aA2 h 5) 2)) (IntKind.i64.wrap ((1:Int)+aAm rows (aA0 rows (aA0 rows i 5) 2) (aA2 (aA2 h 5) 2) (3:Int))) b l (aCp []));let s7:List UInt8:=(aCw (IntKind.i64.wrap ((1:Int)+aAm rows (aA0 rows i 5) (aA2 h 5) 2)) (IntKind.i64.wrap ((1:Int)+aAm rows (aA0 rows (aA0 rows i 5) 2) (aA2 (aA2 h 5) 2) (3:Int))) b l (aCp []));let z9:Int:=(bnI rows (aA0 rows (aA0 rows (aA0 rows (aA0 rows z3 20) 20) (4:Int)) (6:Int)) (aA2 (aA2 (aA2 (aA2 z4 20) 20) (4:Int)) (6:Int)) s7);let s8:List UInt8:=(bnT rows (aA0 rows (aA0 rows (aA0 rows (aA0 rows z3 20) 20) (4:Int)) (6:Int)) (aA2 (aA2 (aA2 (aA2 z4 20) 20) (4:Int)) (6:Int)) s7);let z10:Int:=(bnH rows (aA0 rows (aA0 rows (aA0 rows (aA0 rows z3 20) 20) (4:Int)) (6:Int)) (aA2 (aA2 (aA2 (aA2 z4 20) 20) (4:Int)) (6:Int)) s7);let e5:Option (List C):=(aBd rows z9 z10 (List.take n ns) (List.take q2 es) (List.take p os) (List.take q ss) r x (aAo b) s8);let e6:Option (List C):=(aBd rows (aA0 rows (aA0 rows (aA0 rows (aA0 rows z3 20) 20) (4:Int)) (6:Int)) (aA2 (aA2 (aA2 (aA2 z4 20) 20) (4:Int)) (6:Int)) (List.take n ns) (List.take q2 es) (List.take p os) (List.take q ss) r x (aAo b) s7);let s9:List UInt8:=(bnT rows (aA0 rows (aA0 rows (aA0 rows (aA0 rows z3 20) 20) (4:Int)) (6:Int)) (aA2 (aA2 (aA2 (aA2 z4 20) 20) (4:Int)) (6:Int)) s6);let z11:Int:=(bnI rows (aA0 rows (aA0 rows (aA0 rows (aA0 rows z3 20) 20) (4:Int)) (6:Int)) (aA2 (aA2 (aA2 (aA2 z4 20) 20) (4:Int)) (6:Int)) s6);let z12:Int:=(bnH rows (aA0 rows (aA0 rows (aA0 rows (aA0 rows z3 20) 20) (4:Int)) (6:Int)) (aA2 (aA2 (aA2 (aA2 z4 20) 20) (4:Int)) (6:Int)) s6);let e7:Option (List C):=(aBd rows z11 z12 (List.take n ns) (List.take q2 es) (List.take p os) (List.take q ss) r x (aAo b) s9);let e8:Option (List C):=(aBd rows (aA0 rows (aA0 rows (aA0 rows (aA0 rows z3 20) 20) (4:Int)) (6:Int)) (aA2 (aA2 (aA2 (aA2 z4 20) 20) (4:Int)) (6:Int)) (List.take n ns) (List.take q2 es) (List.take p os) (List.take q ss) r x (aAo b) s6);let s10:List UInt8:=(aCk (IntKind.i64.wrap ((1:Int)+aAm rows (aA0 rows i 5) (aA2 h 5) 2)) (IntKind.i64.wrap ((1:Int)+aAm rows (aA0 rows (aA0 rows i 5) 2) (aA2 (aA2 h 5) 2) (3:Int))) b (aQn .i64 l 1) (aCp (List.take (1+(List.take (List.map aAt u1).length (List.map aAt u1)).length) ([C.str s1]::List.take (List.map aAt u1).length (List.map aAt u1)))));let s11:List UInt8:=(aCw (IntKind.i64.wrap ((1:Int)+aAm rows (aA0 rows i 5) (aA2 h 5) 2)) (IntKind.i64.wrap ((1:Int)+aAm rows (aA0 rows (aA0 rows i 5) 2) (aA2 (aA2 h 5) 2) (3:Int))) b (aQn .i64 l 1) (aCp (List.take (1+(List.take (List.map aAt u1).length (List.map aAt u1)).length) ([C.str s1]::List.take (List.map aAt u1).length (List.map aAt u1)))));let z13:Int:=(bnI rows (aA0 rows (aA0 rows (aA0 rows (aA0 rows z3 20) 20) (4:Int)) (6:Int)) (aA2 (aA2 (aA2 (aA2 z4 20) 20) (4:Int)) (6:Int)) s11);let s12:List UInt8:=(bnT rows (aA0 rows (aA0 rows (aA0 rows (aA0 rows z3 20) 20) (4:Int)) (6:Int)) (aA2 (aA2 (aA2 (aA2 z4 20) 20) (4:Int)) (6:Int)) s11);let z14:Int:=(bnH rows (aA0 rows (aA0 rows (aA0 rows (aA0 rows z3 20) 20) (4:Int)) (6:Int)) (aA2 (aA2 (aA2 (aA2 z4 20) 20) (4:Int)) (6:Int)) s11);let e9:Option (List C):=(aBd rows z13 z14 (List.take n ns) (List.take q2 es) (List.take p os) (List.take q ss) r x (aAo b) s12);let e10:Option (List C):=(aBd rows (aA0 rows (aA0 rows (aA0 rows (aA0 rows z3 20) 20) (4:Int)) (6:Int)) (aA2 (aA2 (aA2 (aA2 z4 20) 20) (4:Int)) (6:Int)) (List.take n ns) (List.take q2 es) (List.take p os) (List.take q ss) r x (aAo b) s11);let s13:List UInt8:=(bnT rows (aA0 rows (aA0 rows (aA0 rows (aA0 rows z3 20) 20) (4:Int)) (6:Int)) (aA2 (aA2 (aA2 (aA2 z4 20) 20) (4:Int)) (6:Int)) s10);let z15:Int:=(bnI rows (aA0 rows (aA0 rows (aA0 rows (aA0 rows z3 20) 20) (4:Int)) (6:Int)) (aA2 (aA2 (aA2 (aA2 z4 20) 20) (4:Int)) (6:Int)) s10);let z16:Int:=(bnH rows (aA0 rows (aA0 rows (aA0 rows (aA0 rows z3 20) 20) (4:Int)) (6:Int)) (aA2 (aA2 (aA2 (aA2 z4 20) 20) (4:Int)) (6:Int)) s10);let e11:Option (List C):=(aBd rows z15 z16 (List.take n ns) (List.take q2 es) (List.take p os) (List.take q ss) r x (aAo b) s13);let e12:Option (List C):=(aBd rows (aA0 rows (aA0 rows (aA0 rows (aA0 rows z3 20) 20) (4:Int)) (6:Int)) (aA2 (aA2 (aA2 (aA2 z4 20) 20) (4:Int)) (6:Int)) (List.take n ns) (List.take q2 es) (List.take p os) (List.take q ss) r x (aAo b) s10);let s14:List UInt8:=(aCk (IntKind.i64.wrap ((1:Int)+aAm rows (aA0 rows i 5) (aA2 h 5) 2)) (IntKind.i64.wrap ((1:Int)+aAm rows (aA0 rows (aA0 rows i 5) 2) (aA2 (aA2 h 5) 2) (3:Int))) b l (aCp (List.take (1+(List.take (List.map aAt u1).length (List.map aAt u1)).length) ([C.str s1]::List.take (List.map aAt u1).length (List.map aAt u1)))));let s15:List UInt8:=(aCw (IntKind.i64.wrap ((1:Int)+aAm rows (aA0 rows i 5) (aA2 h 5) 2)) (IntKind.i64.wrap ((1:Int)+aAm rows (aA0 rows (aA0 rows i 5) 2) (aA2 (aA2 h 5) 2) (3:Int))) b l (aCp (List.take (1+(List.take (List.map aAt u1).length (List.map aAt u1)).length) ([C.str s1]::List.take (List.map aAt u1).length (List.map aAt u1)))));let z17:Int:=(bnI rows (aA0 rows (aA0 rows (aA0 rows (aA0 rows z3 20) 20) (4:Int)) (6:Int)) (aA2 (aA2 (aA2 (aA2 z4 20) 20) (4:Int)) (6:Int)) s15);let s16:List UInt8:=(bnT rows (aA0 rows (aA0 rows (aA0 rows (aA0 rows z3 20) 20) (4:Int)) (6:Int)) (aA2 (aA2 (aA2 (aA2 z4 20) 20) (4:Int)) (6:Int)) s15);let z18:Int:=(bnH rows (aA0 rows (aA0 rows (aA0 rows (aA0 rows z3 20) 20) (4:Int)) (6:Int)) (aA2 (aA2 (aA2 (aA2 z4 20) 20) (4:Int)) (6:Int)) s15);let e13:Option (List C):=(aBd rows z17 z18 (List.take n ns) (List.take q2 es) (List.take p os) (List.take q ss) r x (aAo b) s16);let e14:Option (List C):=(aBd rows (aA0 rows (aA0 rows (aA0 rows (aA0 rows z3 20) 20) (4:Int)) (6:Int)) (aA2 (aA2 (aA2 (aA2 z4 20) 20) (4:Int)) (6:Int)) (List.take n ns) (List.take q2 es) (List.take p os) (List.take q ss) r x (aAo b) s15);let s17:List UInt8:=(bnT rows (aA0 rows (aA0 rows (aA0 rows (aA0 rows z3 20) 20) (4:Int)) (6:Int)) (aA2 (aA2 (aA2 (aA2 z4 20) 20) (4:Int)) (6:Int)) s14);let z19:Int:=(bnI rows (aA0 rows (aA0 rows (aA0 rows (aA0 rows z3 20) 20) (4:Int)) (6:Int)) (aA2 (aA2 (aA2 (aA2 z4 20) 20) (4:Int)) (6:Int)) s14);let z20:Int:=(bnH rows (aA0 rows (aA0 rows (aA0 rows (aA0 rows z3 20) 20) (4:Int)) (6:Int)) (aA2 (aA2 (aA2 (aA2 z4 20) 20) (4:Int)) (6:Int)) s14);let e15:Option (List C):=(aBd rows z19 z20 (List.take n ns) (List.take q2 es) (List.take p os) (List.take q ss) r x (aAo b) s17);let e16:Option (List C):=(aBd rows (aA0 rows (aA0 rows (aA0 rows (aA0 rows z3 20) 20) (4:Int)) (6:Int)) (aA2 (aA2 (aA2 (aA2 z4 20) 20) (4:Int)) (6:Int)) (List.take n ns) (List.take q2 es) (List.take p os) (List.take q ss) r x (aAo b) s14);let e17:Option (List C):=(aBd rows (aA0 rows (aA0 rows (aA0 rows i 5) 6) (4:Int)) (aA2 (aA2 (aA2 h 5) 6) (4:Int)) (List.take n ns) (List.take q2 es) (List.take p os) (List.take q ss) r x (aJh (aAm rows (aA0 rows (aA0 rows i 5) 6) (aA2 (aA2 h 5) 6) (4:Int))) [(104:UInt8),97,108,102]);let z21:Int:=(cAc rows (aA0 rows (aA0 rows (aA0 rows i 5) 6) (9:Int)) (aA2 (aA2 (aA2 h 5) 6) (9:Int)));let s18:List UInt8:=(bT8 rows (aA0 rows (aA0 rows (aA0 rows i 5) 6) (9:Int)) (aA2 (aA2 (aA2 h 5) 6) (9:Int)));let z22:Int:=(cAd rows (aA0 rows (aA0 rows (aA0 rows i 5) 6) (9:Int)) (aA2 (aA2 (aA2 h 5) 6) (9:Int)));let e18:Option (List C):=(aBd rows z21 z22 (List.take n ns) (List.take q2 es) (List.take p os) (List.take q ss) r x (aAo (IntKind.i64.wrap ((20:Int)+aAm rows (aA0 rows (aA0 rows i 5) 6) (aA2 (aA2 h 5) 6) (9:Int)))) s18);let e19:Option (List C):=(aBd rows (aA0 rows (aA0 rows i 5) 6) (aA2 (aA2 h 5) 6) (List.take n ns) (List.take q2 es) (List.take p os) (List.take q ss) r x [(114:UInt8),101,97,100,109,101] [(115:UInt8),111,109,101,32,116,101,120,116]);(.must (aAs rows i) (.ask (decide (j<aAm rows i h 5)) (.must (aAs rows (aA0 rows i 5)) (.must (aAs rows (aA0 rows (aA0 rows i 5) 2)) (.must (aAs rows (aA0 rows (aA0 rows (aA0 rows i 5) 2) (3:Int))) (.must (aAs rows z1&&decide ((0:Int)≤(3:Int)∧(3:Int)≤(100:Int))) (.must ((true&&(List.map aAt u1).all fun row=>decide (row.length=1))&&true&&true&&(decide (0<((Nat.add 1 0).succ.add 0).succ)&&true&&(decide (0+1<((Nat.add 1 0).succ.add 0).succ)&&true&&(decide (0+1+1<((Nat.add 1 0).succ.add 0).succ)&&true&&true))&&true)) (.must (decide (1=1)&&aBj (1+(List.take (List.map aAt u1).length (List.map aAt u1)).length) 16&&(List.take (List.map aAt u1).length (List.map aAt u1)).all fun row=>decide (row.length=1)) (.must (aAs rows z3) (.ask (decide (aAm rows z3 z4 20=(0:Int))) (.must (aAs rows (aA0 rows z3 20)) (.ask (decide (aAm rows (aA0 rows z3 20) (aA2 z4 20) 20=(0:Int))) (.must (decide (0<1)&&true&&true&&true&&true) (.must (aAs rows (aA0 rows (aA0 rows z3 20) 20)) (.ask (decide (aAm rows (aA0 rows (aA0 rows z3 20) 20) (aA2 (aA2 z4 20) 20) (4:Int)=(0:Int))) (.must (aAp [K.str] []&&(decide (0≤1048576)&&(inB b 0 1000000000&&aK5 []))) (.must (aAs rows (aA0 rows (aA0 rows (aA0 rows z3 20) 20) (4:Int))) (.ask (decide (aAm rows (aA0 rows (aA0 rows (aA0 rows z3 20) 20) (4:Int)) (aA2 (aA2 (aA2 z4 20) 20) (4:Int)) (6:Int)=(0:Int))) (.must (aAs rows (aA0 rows (aA0 rows (aA0 rows (aA0 rows z3 20) 20) (4:Int)) (6:Int))&&decide (s3.length≤1048576)) (.must (aAs rows z5&&aXo (List.take n ns) (List.take q2 es) (List.take p os) (List.take q ss) r (aAo b) s4) (.must ((true&&(oR e1 0).all fun row=>decide (row.length=3))&&((true&&(oR e1 1).all fun row=>decide (row.length=2))&&((true&&(oR e1 2).all fun row=>decide (row.length=2))&&((true&&(oR e1 3).all fun row=>decide (row.length=1))&&(decide (0<1)&&true&&(decide (0<1)&&true&&true)))))&&true&&(decide (0<((Nat.add 1 0).succ.add 0).succ)&&true&&(decide (0+1<((Nat.add 1 0).succ.add 0).succ)&&true&&(decide (0+1+1<((Nat.add 1 0).succ.add 0).succ)&&true&&true))&&true)) (H [Pt.r,Pt.r,Pt.r,Pt.r,Pt.l,Pt.r,Pt.b,Pt.lp k,Pt.r,Pt.l,Pt.b,Pt.r,Pt.r,Pt.r,Pt.r,Pt.r,Pt.r,Pt.r,Pt.r,Pt.r,Pt.r,Pt.b] 9223372036854775808 (aBy (rows) (oI e1 7) (oI e1 8) ((oR e1 0).length) (oR e1 0) ((oR e1 1).length) (oR e1 1) ((oR e1 2).length) (oR e1 2) ((oR e1 3).length) (oR e1 3) (oI e1 4) (oI e1 5) (IntKind.i64.wrap (b+(↑(0:Nat):Int))) (l) (j) (0) ([]) ((0:Int))))))) (.must (aAs rows (aA0 rows (aA0 rows (aA0 rows (aA0 rows z3 20) 20) (4:Int)) (6:Int))&&aXo (List.take n ns) (List.take q2 es) (List.take p os) (List.take q ss) r (aAo b) s3) (.must ((true&&(oR e2 0).all fun row=>decide (row.length=3))&&((true&&(oR e2 1).all fun row=>decide (row.length=2))&&((true&&(oR e2 2).all fun row=>decide (row.length=2))&&((true&&(oR e2 3).all fun row=>decide (row.length=1))&&(decide (0<1)&&true&&(decide (0<1)&&true&&true)))))&&true&&(decide (0<((Nat.add 1 0).succ.add 0).succ)&&true&&(decide (0+1<((Nat.add 1 0).succ.add 0).succ)&&true&&(decide (0+1+1<((Nat.add 1 0).succ.add 0).succ)&&true&&true))&&true)) (H [Pt.r,Pt.r,Pt.r,Pt.r,Pt.l,Pt.r,Pt.b,Pt.lp k,Pt.r,Pt.l,Pt.b,Pt.r,Pt.r,Pt.r,Pt.r,Pt.r,Pt.r,Pt.r,Pt.r,Pt.r,Pt.r,Pt.b] 9223372036854775808 (aBy (rows) (oI e2 7) (oI e2 8) ((oR e2 0).length) (oR e2 0) ((oR e2 1).length) (oR e2 1) ((oR e2 2).length) (oR e2 2) ((oR e2 3).length) (oR e2 3) (oI e2 4) (oI e2 5) (IntKind.i64.wrap (b+(↑(0:Nat):Int))) (l) (j) (0) ([]) ((0:Int))))))))) (.must (aAs rows (aA0 rows (aA0 rows (aA0 rows z3 20) 20) (4:Int))) (.ask (decide (aAm rows (aA0 rows (aA0 rows (aA0 rows z3 20) 20) (4:Int)) (aA2 (aA2 (aA2 z4 20) 20) (4:Int)) (6:Int)=(0:Int))) (.must (aAs rows (aA0 rows (aA0 rows (aA0 rows (aA0 rows z3 20) 20) (4:Int)) (6:Int))&&decide (s2.length≤1048576)) (.must (decide (0<1)&&true&&true&&true&&(decide (0<((Nat.add 1 0).succ.add 0).succ)&&true&&(decide (0+1<((Nat.add 1 0).succ.add 0).succ)&&true&&(decide (0+1+1<((Nat.add 1 0).succ.add 0).succ)&&true&&true))&&true)) (.must (aAs rows z7&&aXo (List.take n ns) (List.take q2 es) (List.take p os) (List.take q ss) r (aAo b) s5) (.must ((true&&(oR e3 0).all fun row=>decide (row.length=3))&&((true&&(oR e3 1).all fun row=>decide (row.length=2))&&((true&&(oR e3 2).all fun row=>decide (row.length=2))&&((true&&(oR e3 3).all fun row=>decide (row.length=1))&&(decide (0<1)&&true&&(decide (0<1)&&true&&true)))))&&true&&(decide (0<((Nat.add 1 0).succ.add 0).succ)&&true&&(decide (0+1<((Nat.add 1 0).succ.add 0).succ)&&true&&(decide (0+1+1<((Nat.add 1 0).succ.add 0).succ)&&true&&true))&&true)) (H [Pt.r,Pt.r,Pt.r,Pt.r,Pt.l,Pt.r,Pt.b,Pt.lp k,Pt.r,Pt.l,Pt.b,Pt.r,Pt.r,Pt.r,Pt.r,Pt.r,Pt.r,Pt.r,Pt.r,Pt.r,Pt.r,Pt.b] 9223372036854775808 (aBy (rows) (oI e3 7) (oI e3 8) ((oR e3 0).length) (oR e3 0) ((oR e3 1).length) (oR e3 1) ((oR e3 2).length) (oR e3 2) ((oR e3 3).length) (oR e3 3) (oI e3 4) (oI e3 5) (IntKind.i64.wrap (b+(↑(0:Nat):Int))) (l) (j) (0) ([]) ((0:Int)))))))) (.must (aAs rows (aA0 rows (aA0 rows (aA0 rows (aA0 rows z3 20) 20) (4:Int)) (6:Int))&&aXo (List.take n ns) (List.take q2 es) (List.take p os) (List.take q ss) r (aAo b) s2) (.must ((true&&(oR e4 0).all fun row=>decide (row.length=3))&&((true&&(oR e4 1).all fun row=>decide (row.length=2))&&((true&&(oR e4 2).all fun row=>decide (row.length=2))&&((true&&(oR e4 3).all fun row=>decide (row.length=1))&&(decide (0<1)&&true&&(decide (0<1)&&true&&true)))))&&true&&(decide (0<((Nat.add 1 0).succ.add 0).succ)&&true&&(decide (0+1<((Nat.add 1 0).succ.add 0).succ)&&true&&(decide (0+1+1<((Nat.add 1 0).succ.add 0).succ)&&true&&true))&&true)) (H [Pt.r,Pt.r,Pt.r,Pt.r,Pt.l,Pt.r,Pt.b,Pt.lp k,Pt.r,Pt.l,Pt.b,Pt.r,Pt.r,Pt.r,Pt.r,Pt.r,Pt.r,Pt.r,Pt.r,Pt.r,Pt.r,Pt.b] 9223372036854775808 (aBy (rows) (oI e4 7) (oI e4 8) ((oR e4 0).length) (oR e4 0) ((oR e4 1).length) (oR e4 1) ((oR e4 2).length) (oR e4 2) ((oR e4 3).length) (oR e4 3) (oI e4 4) (oI e4 5) (IntKind.i64.wrap (b+(↑(0:Nat):Int))) (l) (j) (0) ([]) ((0:Int))))))))))) (.must (decide (0<1)&&true&&true&&true&&true) (.must (aAs rows (aA0 rows (aA0 rows z3 20) 20)) (.ask (decide (aAm rows (aA0 rows (aA0 rows z3 20) 20) (aA2 (aA2 z4 20) 20) (4:Int)=(0:Int))) (.must (aAp [K.str] []&&(decide (0≤1048576)&&(inB b 0 1000000000&&aK5 []))) (.must (aAs rows (aA0 rows (aA0 rows (aA0 rows z3 20) 20) (4:Int))) (.ask (decide (aAm rows (aA0 rows (aA0 rows (aA0 rows z3 20) 20) (4:Int)) (aA2 (aA2 (aA2 z4 20) 20) (4:Int)) (6:Int)=(0:Int))) (.must (aAs rows (aA0 rows (aA0 rows (aA0 rows (aA0 rows z3 20) 20) (4:Int)) (6:Int))&&decide (s7.length≤1048576)) (.must (aAs rows z9&&aXo (List.take n ns) (List.take q2 es) (List.take p os) (List.take q ss) r (aAo b) s8) (.must ((true&&(oR e5 0).all fun row=>decide (row.length=3))&&((true&&(oR e5 1).all fun row=>decide (row.length=2))&&((true&&(oR e5 2).all fun row=>decide (row.length=2))&&((true&&(oR e5 3).all fun row=>decide (row.length=1))&&(decide (0<1)&&true&&(decide (0<1)&&true&&true)))))&&true&&(decide (0<((Nat.add 1 0).succ.add 0).succ)&&true&&(decide (0+1<((Nat.add 1 0).succ.add 0).succ)&&true&&(decide (0+1+1<((Nat.add 1 0).succ.add 0).succ)&&true&&true))&&true)) (H [Pt.r,Pt.r,Pt.r,Pt.r,Pt.l,Pt.r,Pt.b,Pt.lp k,Pt.r,Pt.l,Pt.b,Pt.r,Pt.r,Pt.r,Pt.r,Pt.r,Pt.r,Pt.r,Pt.r,Pt.r,Pt.r,Pt.b] 9223372036854775808 (aBy (rows) (oI e5 7) (oI e5 8) ((oR e5 0).length) (oR e5 0) ((oR e5 1).length) (oR e5 1) ((oR e5 2).length) (oR e5 2) ((oR e5 3).length) (oR e5 3) (oI e5 4) (oI e5 5) (IntKind.i64.wrap (b+(↑(0:Nat):Int))) (l) (j) (0) ([]) ((0:Int))))))) (.must (aAs rows (aA0 rows (aA0 rows (aA0 rows (aA0 rows z3 20) 20) (4:Int)) (6:Int))&&aXo (List.take n ns) (List.take q2 es) (List.take p os) (List.take q ss) r (aAo b) s7) (.must ((true&&(oR e6 0).all fun row=>decide (row.length=3))&&((true&&(oR e6 1).all fun row=>decide (row.length=2))&&((true&&(oR e6 2).all fun row=>decide (row.length=2))&&((true&&(oR e6 3).all fun row=>decide (row.length=1))&&(decide (0<1)&&true&&(decide (0<1)&&true&&true)))))&&true&&(decide (0<((Nat.add 1 0).succ.add 0).succ)&&true&&(decide (0+1<((Nat.add 1 0).succ.add 0).succ)&&true&&(decide (0+1+1<((Nat.add 1 0).succ.add 0).succ)&&true&&true))&&true)) (H [Pt.r,Pt.r,Pt.r,Pt.r,Pt.l,Pt.r,Pt.b,Pt.lp k,Pt.r,Pt.l,Pt.b,Pt.r,Pt.r,Pt.r,Pt.r,Pt.r,Pt.r,Pt.r,Pt.r,Pt.r,Pt.r,Pt.b] 9223372036854775808 (aBy (rows) (oI e6 7) (oI e6 8) ((oR e6 0).length) (oR e6 0) ((oR e6 1).length) (oR e6 1) ((oR e6 2).length) (oR e6 2) ((oR e6 3).length) (oR e6 3) (oI e6 4) (oI e6 5) (IntKind.i64.wrap (b+(↑(0:Nat):Int))) (l) (j) (0) ([]) ((0:Int))))))))) (.must (aAs rows (aA0 rows (aA0 rows (aA0 rows z3 20) 20) (4:Int))) (.ask (decide (aAm rows (aA0 rows (aA0 rows (aA0 rows z3 20) 20) (4:Int)) (aA2 (aA2 (aA2 z4 20) 20) (4:Int)) (6:Int)=(0:Int))) (.must (aAs rows (aA0 rows (aA0 rows (aA0 rows (aA0 rows z3 20) 20) (4:Int)) (6:Int))&&decide (s6.length≤1048576)) (.must (decide (0<1)&&true&&true&&true&&(decide (0<((Nat.add 1 0).succ.add 0).succ)&&true&&(decide (0+1<((Nat.add 1 0).succ.add 0).succ)&&true&&(decide (0+1+1<((Nat.add 1 0).succ.add 0).succ)&&true&&true))&&true)) (.must (aAs rows z11&&aXo (List.take n ns) (List.take q2 es) (List.take p os) (List.take q ss) r (aAo b) s9) (.must ((true&&(oR e7 0).all fun row=>decide (row.length=3))&&((true&&(oR e7 1).all fun row=>decide (row.length=2))&&((true&&(oR e7 2).all fun row=>decide (row.length=2))&&((true&&(oR e7 3).all fun row=>decide (row.length=1))&&(decide (0<1)&&true&&(decide (0<1)&&true&&true)))))&&true&&(decide (0<((Nat.add 1 0).succ.add 0).succ)&&true&&(decide (0+1<((Nat.add 1 0).succ.add 0).succ)&&true&&(decide (0+1+1<((Nat.add 1 0).succ.add 0).succ)&&true&&true))&&true)) (H [Pt.r,Pt.r,Pt.r,Pt.r,Pt.l,Pt.r,Pt.b,Pt.lp k,Pt.r,Pt.l,Pt.b,Pt.r,Pt.r,Pt.r,Pt.r,Pt.r,Pt.r,Pt.r,Pt.r,Pt.r,Pt.r,Pt.b] 9223372036854775808 (aBy (rows) (oI e7 7) (oI e7 8) ((oR e7 0).length) (oR e7 0) ((oR e7 1).length) (oR e7 1) ((oR e7 2).length) (oR e7 2) ((oR e7 3).length) (oR e7 3) (oI e7 4) (oI e7 5) (IntKind.i64.wrap (b+(↑(0:Nat):Int))) (l) (j) (0) ([]) ((0:Int)))))))) (.must (aAs rows (aA0 rows (aA0 rows (aA0 rows (aA0 rows z3 20) 20) (4:Int)) (6:Int))&&aXo (List.take n ns) (List.take q2 es) (List.take p os) (List.take q ss) r (aAo b) s6) (.must ((true&&(oR e8 0).all fun row=>decide (row.length=3))&&((true&&(oR e8 1).all fun row=>decide (row.length=2))&&((true&&(oR e8 2).all fun row=>decide (row.length=2))&&((true&&(oR e8 3).all fun row=>decide (row.length=1))&&(decide (0<1)&&true&&(decide (0<1)&&true&&true)))))&&true&&(decide (0<((Nat.add 1 0).succ.add 0).succ)&&true&&(decide (0+1<((Nat.add 1 0).succ.add 0).succ)&&true&&(decide (0+1+1<((Nat.add 1 0).succ.add 0).succ)&&true&&true))&&true)) (H [Pt.r,Pt.r,Pt.r,Pt.r,Pt.l,Pt.r,Pt.b,Pt.lp k,Pt.r,Pt.l,Pt.b,Pt.r,Pt.r,Pt.r,Pt.r,Pt.r,Pt.r,Pt.r,Pt.r,Pt.r,Pt.r,Pt.b] 9223372036854775808 (aBy (rows) (oI e8 7) (oI e8 8) ((oR e8 0).length) (oR e8 0) ((oR e8 1).length) (oR e8 1) ((oR e8 2).length) (oR e8 2) ((oR e8 3).length) (oR e8 3) (oI e8 4) (oI e8 5) (IntKind.i64.wrap (b+(↑(0:Nat):Int))) (l) (j) (0) ([]) ((0:Int))))))))))))) (.must (aAs rows (aA0 rows z3 20)) (.ask (decide (aAm rows (aA0 rows z3 20) (aA2 z4 20) 20=(0:Int))) (.must (aAp [K.str] (List.take (1+(List.take (List.map aAt u1).length (List.map aAt u1)).length) ([C.str s1]::List.take (List.map aAt u1).length (List.map aAt u1)))&&decide ((List.take (1+(List.take (List.map aAt u1).length (List.map aAt u1)).length) ([C.str s1]::List.take (List.map aAt u1).length (List.map aAt u1))).length≤1048576)) (.must (decide (0<1)&&true&&true&&true&&true) (.must (aAs rows (aA0 rows (aA0 rows z3 20) 20)) (.ask (decide (aAm rows (aA0 rows (aA0 rows z3 20) 20) (aA2 (aA2 z4 20) 20) (4:Int)=(0:Int))) (.must (aAp [K.str] (List.take (1+(List.take (List.map aAt u1).length (List.map aAt u1)).length) ([C.str s1]::List.take (List.map aAt u1).length (List.map aAt u1)))&&(decide ((List.take (1+(List.take (List.map aAt u1).length (List.map aAt u1)).length) ([C.str s1]::List.take (List.map aAt u1).length (List.map aAt u1))).length≤1048576)&&(inB b 0 1000000000&&aK5 (List.take (1+(List.take (List.map aAt u1).length (List.map aAt u1)).length) ([C.str s1]::List.take (List.map aAt u1).length (List.map aAt u1)))))) (.must (aAs rows (aA0 rows (aA0 rows (aA0 rows z3 20) 20) (4:Int))) (.ask (decide (aAm rows (aA0 rows (aA0 rows (aA0 rows z3 20) 20) (4:Int)) (aA2 (aA2 (aA2 z4 20) 20) (4:Int)) (6:Int)=(0:Int))) (.must (aAs rows (aA0 rows (aA0 rows (aA0 rows (aA0 rows z3 20) 20) (4:Int)) (6:Int))&&decide (s11.length≤1048576)) (.must (aAs rows z13&&aXo (List.take n ns) (List.take q2 es) (List.take p os) (List.take q ss) r (aAo b) s12) (.must ((true&&(oR e9 0).all fun row=>decide (row.length=3))&&((true&&(oR e9 1).all fun row=>decide (row.length=2))&&((true&&(oR e9 2).all fun row=>decide (row.length=2))&&((true&&(oR e9 3).all fun row=>decide (row.length=1))&&(decide (0<1)&&true&&(decide (0<1)&&true&&true)))))&&true&&(decide (0<((Nat.add 1 0).succ.add 0).succ)&&true&&(decide (0+1<((Nat.add 1 0).succ.add 0).succ)&&true&&(decide (0+1+1<((Nat.add 1 0).succ.add 0).succ)&&true&&true))&&true)) (H [Pt.r,Pt.r,Pt.r,Pt.r,Pt.l,Pt.r,Pt.b,Pt.lp k,Pt.r,Pt.l,Pt.b,Pt.r,Pt.r,Pt.r,Pt.r,Pt.r,Pt.r,Pt.r,Pt.r,Pt.r,Pt.r,Pt.b] 9223372036854775808 (aBy (rows) (oI e9 7) (oI e9 8) ((oR e9 0).length) (oR e9 0) ((oR e9 1).length) (oR e9 1) ((oR e9 2).length) (oR e9 2) ((oR e9 3).length) (oR e9 3) (oI e9 4) (oI e9 5) (IntKind.i64.wrap (b+(↑(1+(List.take (List.map aAt u1).length (List.map aAt u1)).length):Int))) (l) (j) (1+(List.take (List.map aAt u1).length (List.map aAt u1)).length) ([C.str s1]::List.take (List.map aAt u1).length (List.map aAt u1)) ((0:Int))))))) (.must (aAs rows (aA0 rows (aA0 rows (aA0 rows (aA0 rows z3 20) 20) (4:Int)) (6:Int))&&aXo (List.take n ns) (List.take q2 es) (List.take p os) (List.take q ss) r (aAo b) s11) (.must ((true&&(oR e10 0).all fun row=>decide (row.length=3))&&((true&&(oR e10 1).all fun row=>decide (row.length=2))&&((true&&(oR e10 2).all fun row=>decide (row.length=2))&&((true&&(oR e10 3).all fun row=>decide (row.length=1))&&(decide (0<1)&&true&&(decide (0<1)&&true&&true)))))&&true&&(decide (0<((Nat.add 1 0).succ.add 0).succ)&&true&&(decide (0+1<((Nat.add 1 0).succ.add 0).succ)&&true&&(decide (0+1+1<((Nat.add 1 0).succ.add 0).succ)&&true&&true))&&true)) (H [Pt.r,Pt.r,Pt.r,Pt.r,Pt.l,Pt.r,Pt.b,Pt.lp k,Pt.r,Pt.l,Pt.b,Pt.r,Pt.r,Pt.r,Pt.r,Pt.r,Pt.r,Pt.r,Pt.r,Pt.r,Pt.r,Pt.b] 9223372036854775808 (aBy (rows) (oI e10 7) (oI e10 8) ((oR e10 0).length) (oR e10 0) ((oR e10 1).length) (oR e10 1) ((oR e10 2).length) (oR e10 2) ((oR e10 3).length) (oR e10 3) (oI e10 4) (oI e10 5) (IntKind.i64.wrap (b+(↑(1+(List.take (List.map aAt u1).length (List.map aAt u1)).length):Int))) (l) (j) (1+(List.take (List.map aAt u1).length (List.map aAt u1)).length) ([C.str s1]::List.take (List.map aAt u1).length (List.map aAt u1)) ((0:Int))))))))) (.must (aAs rows (aA0 rows (aA0 rows (aA0 rows z3 20) 20) (4:Int))) (.ask (decide (aAm rows (aA0 rows (aA0 rows (aA0 rows z3 20) 20) (4:Int)) (aA2 (aA2 (aA2 z4 20) 20) (4:Int)) (6:Int)=(0:Int))) (.must (aAs rows (aA0 rows (aA0 rows (aA0 rows (aA0 rows z3 20) 20) (4:Int)) (6:Int))&&decide (s10.length≤1048576)) (.must (decide (0<1)&&true&&true&&true&&(decide (0<((Nat.add 1 0).succ.add 0).succ)&&true&&(decide (0+1<((Nat.add 1 0).succ.add 0).succ)&&true&&(decide (0+1+1<((Nat.add 1 0).succ.add 0).succ)&&true&&true))&&true)) (.must (aAs rows z15&&aXo (List.take n ns) (List.take q2 es) (List.take p os) (List.take q ss) r (aAo b) s13) (.must ((true&&(oR e11 0).all fun row=>decide (row.length=3))&&((true&&(oR e11 1).all fun row=>decide (row.length=2))&&((true&&(oR e11 2).all fun row=>decide (row.length=2))&&((true&&(oR e11 3).all fun row=>decide (row.length=1))&&(decide (0<1)&&true&&(decide (0<1)&&true&&true)))))&&true&&(decide (0<((Nat.add 1 0).succ.add 0).succ)&&true&&(decide (0+1<((Nat.add 1 0).succ.add 0).succ)&&true&&(decide (0+1+1<((Nat.add 1 0).succ.add 0).succ)&&true&&true))&&true)) (H [Pt.r,Pt.r,Pt.r,Pt.r,Pt.l,Pt.r,Pt.b,Pt.lp k,Pt.r,Pt.l,Pt.b,Pt.r,Pt.r,Pt.r,Pt.r,Pt.r,Pt.r,Pt.r,Pt.r,Pt.r,Pt.r,Pt.b] 9223372036854775808 (aBy (rows) (oI e11 7) (oI e11 8) ((oR e11 0).length) (oR e11 0) ((oR e11 1).length) (oR e11 1) ((oR e11 2).length) (oR e11 2) ((oR e11 3).length) (oR e11 3) (oI e11 4) (oI e11 5) (IntKind.i64.wrap (b+(↑(1+(List.take (List.map aAt u1).length (List.map aAt u1)).length):Int))) (l) (j) (1+(List.take (List.map aAt u1).length (List.map aAt u1)).length) ([C.str s1]::List.take (List.map aAt u1).length (List.map aAt u1)) ((0:Int)))))))) (.must (aAs rows (aA0 rows (aA0 rows (aA0 rows (aA0 rows z3 20) 20) (4:Int)) (6:Int))&&aXo (List.take n ns) (List.take q2 es) (List.take p os) (List.take q ss) r (aAo b) s10) (.must ((true&&(oR e12 0).all fun row=>decide (row.length=3))&&((true&&(oR e12 1).all fun row=>decide (row.length=2))&&((true&&(oR e12 2).all fun row=>decide (row.length=2))&&((true&&(oR e12 3).all fun row=>decide (row.length=1))&&(decide (0<1)&&true&&(decide (0<1)&&true&&true)))))&&true&&(decide (0<((Nat.add 1 0).succ.add 0).succ)&&true&&(decide (0+1<((Nat.add 1 0).succ.add 0).succ)&&true&&(decide (0+1+1<((Nat.add 1 0).succ.add 0).succ)&&true&&true))&&true)) (H [Pt.r,Pt.r,Pt.r,Pt.r,Pt.l,Pt.r,Pt.b,Pt.lp k,Pt.r,Pt.l,Pt.b,Pt.r,Pt.r,Pt.r,Pt.r,Pt.r,Pt.r,Pt.r,Pt.r,Pt.r,Pt.r,Pt.b] 9223372036854775808 (aBy (rows) (oI e12 7) (oI e12 8) ((oR e12 0).length) (oR e12 0) ((oR e12 1).length) (oR e12 1) ((oR e12 2).length) (oR e12 2) ((oR e12 3).length) (oR e12 3) (oI e12 4) (oI e12 5) (IntKind.i64.wrap (b+(↑(1+(List.take (List.map aAt u1).length (List.map aAt u1)).length):Int))) (l) (j) (1+(List.take (List.map aAt u1).length (List.map aAt u1)).length) ([C.str s1]::List.take (List.map aAt u1).length (List.map aAt u1)) ((0:Int)))))))))))) (.must (aAp [K.str] (List.take (1+(List.take (List.map aAt u1).length (List.map aAt u1)).length) ([C.str s1]::List.take (List.map aAt u1).length (List.map aAt u1)))&&decide ((List.take (1+(List.take (List.map aAt u1).length (List.map aAt u1)).length) ([C.str s1]::List.take (List.map aAt u1).length (List.map aAt u1))).length≤1048576)) (.must (decide (0<1)&&true&&true&&true&&true) (.must (aAs rows (aA0 rows (aA0 rows z3 20) 20)) (.ask (decide (aAm rows (aA0 rows (aA0 rows z3 20) 20) (aA2 (aA2 z4 20) 20) (4:Int)=(0:Int))) (.must (aAp [K.str] (List.take (1+(List.take (List.map aAt u1).length (List.map aAt u1)).length) ([C.str s1]::List.take (List.map aAt u1).length (List.map aAt u1)))&&(decide ((List.take (1+(List.take (List.map aAt u1).length (List.map aAt u1)).length) ([C.str s1]::List.take (List.map aAt u1).length (List.map aAt u1))).length≤1048576)&&(inB b 0 1000000000&&aK5 (List.take (1+(List.take (List.map aAt u1).length (List.map aAt u1)).length) ([C.str s1]::List.take (List.map aAt u1).length (List.map aAt u1)))))) (.must (aAs rows (aA0 rows (aA0 rows (aA0 rows z3 20) 20) (4:Int))) (.ask (decide (aAm rows (aA0 rows (aA0 rows (aA0 rows z3 20) 20) (4:Int)) (aA2 (aA2 (aA2 z4 20) 20) (4:Int)) (6:Int)=(0:Int))) (.must (aAs rows (aA0 rows (aA0 rows (aA0 rows (aA0 rows z3 20) 20) (4:Int)) (6:Int))&&decide (s15.length≤1048576)) (.must (aAs rows z17&&aXo (List.take n ns) (List.take q2 es) (List.take p os) (List.take q ss) r (aAo b) s16) (.must ((true&&(oR e13 0).all fun row=>decide (row.length=3))&&((true&&(oR e13 1).all fun row=>decide (row.length=2))&&((true&&(oR e13 2).all fun row=>decide (row.length=2))&&((true&&(oR e13 3).all fun row=>decide (row.length=1))&&(decide (0<1)&&true&&(decide (0<1)&&true&&true)))))&&true&&(decide (0<((Nat.add 1 0).succ.add 0).succ)&&true&&(decide (0+1<((Nat.add 1 0).succ.add 0).succ)&&true&&(decide (0+1+1<((Nat.add 1 0).succ.add 0).succ)&&true&&true))&&true)) (H [Pt.r,Pt.r,Pt.r,Pt.r,Pt.l,Pt.r,Pt.b,Pt.lp k,Pt.r,Pt.l,Pt.b,Pt.r,Pt.r,Pt.r,Pt.r,Pt.r,Pt.r,Pt.r,Pt.r,Pt.r,Pt.r,Pt.b] 9223372036854775808 (aBy (rows) (oI e13 7) (oI e13 8) ((oR e13 0).length) (oR e13 0) ((oR e13 1).length) (oR e13 1) ((oR e13 2).length) (oR e13 2) ((oR e13 3).length) (oR e13 3) (oI e13 4) (oI e13 5) (IntKind.i64.wrap (b+(↑(1+(List.take (List.map aAt u1).length (List.map aAt u1)).length):Int))) (l) (j) (1+(List.take (List.map aAt u1).length (List.map aAt u1)).length) ([C.str s1]::List.take (List.map aAt u1).length (List.map aAt u1)) ((0:Int))))))) (.must (aAs rows (aA0 rows (aA0 rows (aA0 rows (aA0 rows z3 20) 20) (4:Int)) (6:Int))&&aXo (List.take n ns) (List.take q2 es) (List.take p os) (List.take q ss) r (aAo b) s15) (.must ((true&&(oR e14 0).all fun row=>decide (row.length=3))&&((true&&(oR e14 1).all fun row=>decide (row.length=2))&&((true&&(oR e14 2).all fun row=>decide (row.length=2))&&((true&&(oR e14 3).all fun row=>decide (row.length=1))&&(decide (0<1)&&true&&(decide (0<1)&&true&&true)))))&&true&&(decide (0<((Nat.add 1 0).succ.add 0).succ)&&true&&(decide (0+1<((Nat.add 1 0).succ.add 0).succ)&&true&&(decide (0+1+1<((Nat.add 1 0).succ.add 0).succ)&&true&&true))&&true)) (H [Pt.r,Pt.r,Pt.r,Pt.r,Pt.l,Pt.r,Pt.b,Pt.lp k,Pt.r,Pt.l,Pt.b,Pt.r,Pt.r,Pt.r,Pt.r,Pt.r,Pt.r,Pt.r,Pt.r,Pt.r,Pt.r,Pt.b] 9223372036854775808 (aBy (rows) (oI e14 7) (oI e14 8) ((oR e14 0).length) (oR e14 0) ((oR e14 1).length) (oR e14 1) ((oR e14 2).length) (oR e14 2) ((oR e14 3).length) (oR e14 3) (oI e14 4) (oI e14 5) (IntKind.i64.wrap (b+(↑(1+(List.take (List.map aAt u1).length (List.map aAt u1)).length):Int))) (l) (j) (1+(List.take (List.map aAt u1).length (List.map aAt u1)).length) ([C.str s1]::List.take (List.map aAt u1).length (List.map aAt u1)) ((0:Int))))))))) (.must (aAs rows (aA0 rows (aA0 rows (aA0 rows z3 20) 20) (4:Int))) (.ask (decide (aAm rows (aA0 rows (aA0 rows (aA0 rows z3 20) 20) (4:Int)) (aA2 (aA2 (aA2 z4 20) 20) (4:Int)) (6:Int)=(0:Int))) (.must (aAs rows (aA0 rows (aA0 rows (aA0 rows (aA0 rows z3 20) 20) (4:Int)) (6:Int))&&decide (s14.length≤1048576)) (.must (decide (0<1)&&true&&true&&true&&(decide (0<((Nat.add 1 0).succ.add 0).succ)&&true&&(decide (0+1<((Nat.add 1 0).succ.add 0).succ)&&true&&(decide (0+1+1<((Nat.add 1 0).succ.add 0).succ)&&true&&true))&&true)) (.must (aAs rows z19&&aXo (List.take n ns) (List.take q2 es) (List.take p os) (List.take q ss) r (aAo b) s17) (.must ((true&&(oR e15 0).all fun row=>decide (row.length=3))&&((true&&(oR e15 1).all fun row=>decide (row.length=2))&&((true&&(oR e15 2).all fun row=>decide (row.length=2))&&((true&&(oR e15 3).all fun row=>decide (row.length=1))&&(decide (0<1)&&true&&(decide (0<1)&&true&&true)))))&&true&&(decide (0<((Nat.add 1 0).succ.add 0).succ)&&true&&(decide (0+1<((Nat.add 1 0).succ.add 0).succ)&&true&&(decide (0+1+1<((Nat.add 1 0).succ.add 0).succ)&&true&&true))&&true)) (H [Pt.r,Pt.r,Pt.r,Pt.r,Pt.l,Pt.r,Pt.b,Pt.lp k,Pt.r,Pt.l,Pt.b,Pt.r,Pt.r,Pt.r,Pt.r,Pt.r,Pt.r,Pt.r,Pt.r,Pt.r,Pt.r,Pt.b] 9223372036854775808 (aBy (rows) (oI e15 7) (oI e15 8) ((oR e15 0).length) (oR e15 0) ((oR e15 1).length) (oR e15 1) ((oR e15 2).length) (oR e15 2) ((oR e15 3).length) (oR e15 3) (oI e15 4) (oI e15 5) (IntKind.i64.wrap (b+(↑(1+(List.take (List.map aAt u1).length (List.map aAt u1)).length):Int))) (l) (j) (1+(List.take (List.map aAt u1).length (List.map aAt u1)).length) ([C.str s1]::List.take (List.map aAt u1).length (List.map aAt u1)) ((0:Int)))))))) (.must (aAs rows (aA0 rows (aA0 rows (aA0 rows (aA0 rows z3 20) 20) (4:Int)) (6:Int))&&aXo (List.take n ns) (List.take q2 es) (List.take p os) (List.take q ss) r (aAo b) s14) (.must ((true&&(oR e16 0).all fun row=>decide (row.length=3))&&((true&&(oR e16 1).all fun row=>decide (row.length=2))&&((true&&(oR e16 2).all fun row=>decide (row.length=2))&&((true&&(oR e16 3).all fun row=>decide (row.length=1))&&(decide (0<1)&&true&&(decide (0<1)&&true&&true)))))&&true&&(decide (0<((Nat.add 1 0).succ.add 0).succ)&&true&&(decide (0+1<((Nat.add 1 0).succ.add 0).succ)&&true&&(decide (0+1+1<((Nat.add 1 0).succ.add 0).succ)&&true&&true))&&true)) (H [Pt.r,Pt.r,Pt.r,Pt.r,Pt.l,Pt.r,Pt.b,Pt.lp k,Pt.r,Pt.l,Pt.b,Pt.r,Pt.r,Pt.r,Pt.r,Pt.r,Pt.r,Pt.r,Pt.r,Pt.r,Pt.r,Pt.b] 9223372036854775808 (aBy (rows) (oI e16 7) (oI e16 8) ((oR e16 0).length) (oR e16 0) ((oR e16 1).length) (oR e16 1) ((oR e16 2).length) (oR e16 2) ((oR e16 3).length) (oR e16 3) (oI e16 4) (oI e16 5) (IntKind.i64.wrap (b+(↑(1+(List.take (List.map aAt u1).length (List.map aAt u1)).length):Int))) (l) (j) (1+(List.take (List.map aAt u1).length (List.map aAt u1)).length) ([C.str s1]::List.take (List.map aAt u1).length (List.map aAt u1)) ((0:Int)))))))))))))))))))))) (.must (aAs rows (aA0 rows i 5)) (.ask (decide (aAm rows (aA0 rows i 5) (aA2 h 5) 6=(0:Int))) (.must (aAs rows (aA0 rows (aA0 rows i 5) 6)) (.must (aAs rows (aA0 rows (aA0 rows (aA0 rows i 5) 6) (4:Int))&&aXo (List.take n ns) (List.take q2 es) (List.take p os) (List.take q ss) r (aJh (aAm rows (aA0 rows (aA0 rows i 5) 6) (aA2 (aA2 h 5) 6) (4:Int))) [(104:UInt8),97,108,102]) (.must ((true&&(oR e17 0).all fun row=>decide (row.length=3))&&((true&&(oR e17 1).all fun row=>decide (row.length=2))&&((true&&(oR e17 2).all fun row=>decide (row.length=2))&&((true&&(oR e17 3).all fun row=>decide (row.length=1))&&(decide (0<1)&&true&&(decide (0<1)&&true&&true)))))&&true&&(decide (0<((Nat.add 1 0).succ.add 0).succ)&&true&&(decide (0+1<((Nat.add 1 0).succ.add 0).succ)&&true&&(decide (0+1+1<((Nat.add 1 0).succ.add 0).succ)&&true&&true))&&true)) (.must (decide ((oR e17 0).length=(oR e17 0).length)&&(true||(oR e17 0).all fun r=>r.all C.flat)&&(decide ((oR e17 1).length=(oR e17 1).length)&&(true||(oR e17 1).all fun r=>r.all C.flat)&&(decide ((oR e17 2).length=(oR e17 2).length)&&(true||(oR e17 2).all fun r=>r.all C.flat)&&(decide ((oR e17 3).length=(oR e17 3).length)&&(true||(oR e17 3).all fun r=>r.all C.flat)&&(true&&(true||true)&&(true&&(true||true)&&true)))))&&true&&(true&&(true||(C.sl rows).flat)&&(true&&(true||true)&&(true&&(true||true)&&true))&&true)) (.ret [C.sl (oR e17 0),C.sl (oR e17 1),C.sl (oR e17 2),C.sl (oR e17 3),C.int .i64 (oI e17 4),C.int .i64 (oI e17 5),C.sl rows,C.int .i64 (oI e17 7),C.int .i64 (oI e17 8)]))))) (.ask (decide (aAm rows (aA0 rows i 5) (aA2 h 5) 6=(1:Int))) (.must (aAs rows (aA0 rows (aA0 rows i 5) 6)) (.must (aAs rows (aA0 rows (aA0 rows (aA0 rows i 5) 6) (9:Int))) (.must (aAs rows z21&&aXo (List.take n ns) (List.take q2 es) (List.take p os) (List.take q ss) r (aAo (IntKind.i64.wrap ((20:Int)+aAm rows (aA0 rows (aA0 rows i 5) 6) (aA2 (aA2 h 5) 6) (9:Int)))) s18) (.must ((true&&(oR e18 0).all fun row=>decide (row.length=3))&&((true&&(oR e18 1).all fun row=>decide (row.length=2))&&((true&&(oR e18 2).all fun row=>decide (row.length=2))&&((true&&(oR e18 3).all fun row=>decide (row.length=1))&&(decide (0<1)&&true&&(decide (0<1)&&true&&true)))))&&true&&(decide (0<((Nat.add 1 0).succ.add 0).succ)&&true&&(decide (0+1<((Nat.add 1 0).succ.add 0).succ)&&true&&(decide (0+1+1<((Nat.add 1 0).succ.add 0).succ)&&true&&true))&&true)) (.must (decide ((oR e18 0).length=(oR e18 0).length)&&(true||(oR e18 0).all fun r=>r.all C.flat)&&(decide ((oR e18 1).length=(oR e18 1).length)&&(true||(oR e18 1).all fun r=>r.all C.flat)&&(decide ((oR e18 2).length=(oR e18 2).length)&&(true||(oR e18 2).all fun r=>r.all C.flat)&&(decide ((oR e18 3).length=(oR e18 3).length)&&(true||(oR e18 3).all fun r=>r.all C.flat)&&(true&&(true||true)&&(true&&(true||true)&&true)))))&&true&&(true&&(true||(C.sl rows).flat)&&(true&&(true||true)&&(true&&(true||true)&&true))&&true)) (.ret [C.sl (oR e18 0),C.sl (oR e18 1),C.sl (oR e18 2),C.sl (oR e18 3),C.int .i64 (oI e18 4),C.int .i64 (oI e18 5),C.sl rows,C.int .i64 (oI e18 7),C.int .i64 (oI e18 8)])))))) (.ask (decide (aAm rows (aA0 rows i 5) (aA2 h 5) 6=(2:Int))) (.must (aAs rows (aA0 rows (aA0 rows i 5) 6)&&aXo (List.take n ns) (List.take q2 es) (List.take p os) (List.take q ss) r [(114:UInt8),101,97,100,109,101] [(115:UInt8),111,109,101,32,116,101,120,116]) (.must ((true&&(oR e19 0).all fun row=>decide (row.length=3))&&((true&&(oR e19 1).all fun row=>decide (row.length=2))&&((true&&(oR e19 2).all fun row=>decide (row.length=2))&&((true&&(oR e19 3).all fun row=>decide (row.length=1))&&(decide (0<1)&&true&&(decide (0<1)&&true&&true)))))&&true&&(decide (0<((Nat.add 1 0).succ.add 0).succ)&&true&&(decide (0+1<((Nat.add 1 0).succ.add 0).succ)&&true&&(decide (0+1+1<((Nat.add 1 0).succ.add 0).succ)&&true&&true))&&true)) (.must (decide ((oR e19 0).length=(oR e19 0).length)&&(true||(oR e19 0).all fun r=>r.all C.flat)&&(decide ((oR e19 1).length=(oR e19 1).length)&&(true||(oR e19 1).all fun r=>r.all C.flat)&&(decide ((oR e19 2).length=(oR e19 2).length)&&(true||(oR e19 2).all fun r=>r.all C.flat)&&(decide ((oR e19 3).length=(oR e19 3).length)&&(true||(oR e19 3).all fun r=>r.all C.flat)&&(true&&(true||true)&&(true&&(true||true)&&true)))))&&true&&(true&&(true||(C.sl rows).flat)&&(true&&(true||true)&&(true&&(true||true)&&true))&&true)) (.ret [C.sl (oR e19 0),C.sl (oR e19 1),C.sl (oR e19 2),C.sl (oR e19 3),C.int .i64 (oI e19 4),C.int .i64 (oI e19 5),C.sl rows,C.int .i64 (oI e19 7),C.int .i64 (oI e19 8)])))) (.must (decide (n=ns.length)&&(true||ns.all fun r=>r.all C.flat)&&(decide (q2=es.length)&&(true||es.all fun r=>r.all C.flat)&&(decide (p=os.length)&&(true||os.all fun r=>r.all C.flat)&&(decide (q=ss.length)&&(true||ss.all fun r=>r.all C.flat)&&(true&&(true||true)&&(true&&(true||true)&&true)))))&&true&&(true&&(true||(C.sl rows).flat)&&(true&&(true||true)&&(true&&(true||true)&&true))&&true)) (.ret [C.sl ns,C.sl es,C.sl os,C.sl ss,C.int .i64 r,C.int .i64 x,C.sl rows,C.int .i64 (aA0 rows (aA0 rows i 5) 6),C.int .i64 (aA2 (aA2 h 5) 6)])))))))):T (List C)).eval:=aAj (by kernel_rfl)
theorem aCc.ask {n:Nat} {rows:List (List C)} {c:Bool} {y m:T (List C)} (hy:aCc n rows y.eval) (hn:aCc n rows m.eval):aCc n rows (T.ask c y m).eval:=by cases c;exact hn;exact hy
theorem aCc.must {n:Nat} {rows:List (List C)} {c:Bool} {m:T (List C)} (hc:c=true) (h:aCc n rows m.eval):aCc n rows (T.must c m).eval:=by subst hc;exact h
theorem aCc.mono {n m:Nat} {rows:List (List C)} {o:Option (List C)} (h:aCc n rows o) (hm:n≤m):aCc m rows o:=by
 obtain⟨d,i,h,e,h1,h2⟩:=h
 exact⟨d,i,h,e,⟨h1.1.mono hm,h1.2⟩,h2⟩
theorem SzD.mono {n m:Nat} {d:Dk} (h:SzD n d) (hm:n≤m):SzD m d:=⟨h.1.mono hm,h.2⟩
theorem bD9 (b:Int):(aAo b).length≤1000:=by have:=bLy b;omega
theorem bYr (b:Int):(aJh b).length≤1000:=by
 unfold aJh
 split
 ·have:=bLy b;simp;omega
 ·simp
theorem bEb (rows:List (List C)) (i h:Int) (ns es os ss:List (List C)) (r x b j:Int) (rs:List (List UInt8)) (hr:rs.length≤1048576) (hx:∀ y∈rs,y.length≤60) (m:Nat)
  (hk:∀ l':Int,aCc 40 rows (aBr aDn aAc (⟨[aDa],[aBz],true⟩) Tryz.f58 [.r,.r,.r,.r,.l,.r,.b] m (aHz rows i h ns.length ns es.length es os.length os ss.length ss r x b l' (IntKind.i64.wrap (j+1)))).eval):∀ (N y:Nat) (l:Int),y≤rs.length→rs.length<y+N →
  aCc 40 rows (aBr aDn aAc (⟨[aDa],[aBz],true⟩) Tryz.f58 [.r,.r,.r,.r,.l,.r,.b,.lp m,.r,.l,.b,.r,.r,.r,.r,.r,.r,.r,.r,.r,.r,.b] N (aBy rows i h ns.length ns es.length es os.length os ss.length ss r x b l j rs.length (rs.map aAt) y)).eval:=by
 intro N
 induction N with
 |zero=>intro y l h1 h2;omega
 |succ N ih =>
  intro y l h1 h2
  rw[aAv _ _ _ _ _ _ _ (by kernel_rfl),aXf]
  by_cases hy:y<rs.length
  ·have g:=aBc aAt rs [] y hy
   have hb:=hx _ (aJt (d:=[]) hy)
   have w2:IntKind.i64.wrap ((y:Int)+1)=((y+1:Nat):Int):=by rw[aAh]<;>omega
   have e:=fun q:Int=>ih (y+1) q (by omega) (by omega)
   simp only[List.length_map,Int.toNat_natCast,Nat.zero_add,g,w2]
   generalize rs.getD y []=z at hb ⊢
   refine aCc.of (aAg (decide_eq_true (by omega)) (aA5 ?_ (aA5 ?_ (aA5 ?_ rfl)))) (e _)
   ·rw[decide_eq_true (by omega),decide_eq_true (by omega),decide_eq_true hy];rfl
   ·rfl
   ·exact decide_eq_true (show z.length≤1048576 by omega)
  ·exact aCc.of (aAi (decide_eq_false (by omega)) rfl) (hk l)
theorem bU2 (s:List UInt8) (u:List (List UInt8)):List.take (1+(u.map aAt).length) ([C.str s]::u.map aAt)=(s::u).map aAt:=by
 rw[List.take_of_length_le]
 ·rfl
 ·simp;omega
theorem aEi (v s b l:Int) (rs:List (List UInt8)):(aCk v s b l rs).length≤1000000:=by have:=aQ0 v s b l rs;omega
theorem aD5 (v s b l:Int) (rs:List (List UInt8)) (h:rs.length≤5):(aCw v s b l rs).length≤1000000:=by have:=aLt v s b l rs;omega
theorem aHj (rows:List (List C)) (i h:Int) (t:List UInt8) (ht:t.length≤1000000):(bnT rows i h t).length≤1000005:=by have:=bXl rows i h t;omega
theorem bW3 {ns es os ss:List (List C)} (h:aFj ns es os ss=true):((true&&ns.all fun row=>decide (row.length=3))&&((true&&es.all fun row=>decide (row.length=2))&&((true&&os.all fun row=>decide (row.length=2))&&((true&&ss.all fun row=>decide (row.length=1))&&(decide (0<1)&&true&&(decide (0<1)&&true&&true)))))&&true&&(decide (0<((Nat.add 1 0).succ.add 0).succ)&&true&&(decide (0+1<((Nat.add 1 0).succ.add 0).succ)&&true&&(decide (0+1+1<((Nat.add 1 0).succ.add 0).succ)&&true&&true))&&true))=true:=by
 rw[bNd h];rfl
theorem aYv (rows:List (List C)) (k m:Nat) (hk:k≤3) (z zh:Int) (ns es os ss:List (List C)) (r x b b':Int) (t:List UInt8) (rs:List (List UInt8)) (hz:aAs rows z=true) (hs:SzD (2*k+1) ⟨ns,es,os,ss,r,x⟩) (ht:t.length≤1048576) (hrl:rs.length≤5) (hrs:∀ y∈rs,y.length≤60) (hb:b'=IntKind.i64.wrap (b+rs.length)) (hb0:0≤b) (hb1:b≤5*k)
  (ih:∀ (i h:Int) (ns es os ss:List (List C)) (r x b l:Int),aAs rows i=true→SzD (2*(k+1)+1) ⟨ns,es,os,ss,r,x⟩→0≤b→b≤5*((k+1:Nat):Int)→aCc 40 rows (aBr aDn aAc (⟨[aDa],[aBz],true⟩) Tryz.f58 [.r,.r,.r,.r,.l,.r,.b] m (aHz rows i h ns.length ns es.length es os.length os ss.length ss r x b l ((k+1:Nat):Int))).eval) (l:Int) :
  aCc 40 rows (aBr aDn aAc (⟨[aDa],[aBz],true⟩) Tryz.f58 [.r,.r,.r,.r,.l,.r,.b,.lp m,.r,.l,.b,.r,.r,.r,.r,.r,.r,.r,.r,.r,.r,.b] 9223372036854775808 (aBy rows (oI (aBd rows z zh ns es os ss r x (aAo b) t) 7) (oI (aBd rows z zh ns es os ss r x (aAo b) t) 8) (oR (aBd rows z zh ns es os ss r x (aAo b) t) 0).length (oR (aBd rows z zh ns es os ss r x (aAo b) t) 0) (oR (aBd rows z zh ns es os ss r x (aAo b) t) 1).length (oR (aBd rows z zh ns es os ss r x (aAo b) t) 1) (oR (aBd rows z zh ns es os ss r x (aAo b) t) 2).length (oR (aBd rows z zh ns es os ss r x (aAo b) t) 2) (oR (aBd rows z zh ns es os ss r x (aAo b) t) 3).length (oR (aBd rows z zh ns es os ss r x (aAo b) t) 3) (oI (aBd rows z zh ns es os ss r x (aAo b) t) 4) (oI (aBd rows z zh ns es os ss r x (aAo b) t) 5) b' l k rs.length (rs.map aAt) 0)).eval:=by
 obtain⟨P,o7⟩:=(aXp (2*k+1) (by omega) rows z zh ns es os ss r x (aAo b) t hz hs (bD9 b) (by omega)).sz
 have w:IntKind.i64.wrap ((k:Int)+1)=((k+1:Nat):Int):=by rw[aAh]<;>omega
 have wb:b'=b+rs.length:=by rw[hb,aAh]<;>omega
 refine bEb rows _ _ _ _ _ _ _ _ b' k rs (by omega) hrs m (fun l'=>?_) 9223372036854775808 0 l (by omega) (by omega)
 rw[w]
 exact ih _ _ _ _ _ _ _ _ _ _ o7 P (by omega) (by omega)
theorem cAl {a b:Bool} (ha:a=true) (hb:b=true):(a&&b)=true:=by rw[ha,hb];rfl
theorem bKk (rows:List (List C)) (k m:Nat) (hk:k≤3) (z zh:Int) (ns es os ss:List (List C)) (r x b:Int) (t:List UInt8) (hz:aAs rows z=true) (hs:SzD (2*k+1) ⟨ns,es,os,ss,r,x⟩) (ht:t.length≤1048576) (hb0:0≤b) (hb1:b≤5*k)
  (ih:∀ (i h:Int) (ns es os ss:List (List C)) (r x b l:Int),aAs rows i=true→SzD (2*(k+1)+1) ⟨ns,es,os,ss,r,x⟩→0≤b→b≤5*((k+1:Nat):Int)→aCc 40 rows (aBr aDn aAc (⟨[aDa],[aBz],true⟩) Tryz.f58 [.r,.r,.r,.r,.l,.r,.b] m (aHz rows i h ns.length ns es.length es os.length os ss.length ss r x b l ((k+1:Nat):Int))).eval) (l:Int) :
  aCc 40 rows (aBr aDn aAc (⟨[aDa],[aBz],true⟩) Tryz.f58 [.r,.r,.r,.r,.l,.r,.b,.lp m,.r,.l,.b,.r,.r,.r,.r,.r,.r,.r,.r,.r,.r,.b] 9223372036854775808 (aBy rows (oI (aBd rows z zh ns es os ss r x (aAo b) t) 7) (oI (aBd rows z zh ns es os ss r x (aAo b) t) 8) (oR (aBd rows z zh ns es os ss r x (aAo b) t) 0).length (oR (aBd rows z zh ns es os ss r x (aAo b) t) 0) (oR (aBd rows z zh ns es os ss r x (aAo b) t) 1).length (oR (aBd rows z zh ns es os ss r x (aAo b) t) 1) (oR (aBd rows z zh ns es os ss r x (aAo b) t) 2).length (oR (aBd rows z zh ns es os ss r x (aAo b) t) 2) (oR (aBd rows z zh ns es os ss r x (aAo b) t) 3).length (oR (aBd rows z zh ns es os ss r x (aAo b) t) 3) (oI (aBd rows z zh ns es os ss r x (aAo b) t) 4) (oI (aBd rows z zh ns es os ss r x (aAo b) t) 5) (IntKind.i64.wrap (b+((0:Nat):Int))) l k 0 [] 0)).eval :=
 aYv rows k m hk z zh ns es os ss r x b _ t [] hz hs ht (by decide) (fun y hy=>by cases hy) rfl hb0 hb1 ih l
theorem bKj (rows:List (List C)) (s1:List UInt8) (u1:List (List UInt8)) (hrl:(s1::u1).length≤5) (hrs:∀ y∈s1::u1,y.length≤60) (k m:Nat) (hk:k≤3) (z zh:Int) (ns es os ss:List (List C)) (r x b:Int) (t:List UInt8) (hz:aAs rows z=true) (hs:SzD (2*k+1) ⟨ns,es,os,ss,r,x⟩) (ht:t.length≤1048576) (hb0:0≤b) (hb1:b≤5*k)
  (ih:∀ (i h:Int) (ns es os ss:List (List C)) (r x b l:Int),aAs rows i=true→SzD (2*(k+1)+1) ⟨ns,es,os,ss,r,x⟩→0≤b→b≤5*((k+1:Nat):Int)→aCc 40 rows (aBr aDn aAc (⟨[aDa],[aBz],true⟩) Tryz.f58 [.r,.r,.r,.r,.l,.r,.b] m (aHz rows i h ns.length ns es.length es os.length os ss.length ss r x b l ((k+1:Nat):Int))).eval) (l:Int) :
  aCc 40 rows (aBr aDn aAc (⟨[aDa],[aBz],true⟩) Tryz.f58 [.r,.r,.r,.r,.l,.r,.b,.lp m,.r,.l,.b,.r,.r,.r,.r,.r,.r,.r,.r,.r,.r,.b] 9223372036854775808 (aBy rows (oI (aBd rows z zh ns es os ss r x (aAo b) t) 7) (oI (aBd rows z zh ns es os ss r x (aAo b) t) 8) (oR (aBd rows z zh ns es os ss r x (aAo b) t) 0).length (oR (aBd rows z zh ns es os ss r x (aAo b) t) 0) (oR (aBd rows z zh ns es os ss r x (aAo b) t) 1).length (oR (aBd rows z zh ns es os ss r x (aAo b) t) 1) (oR (aBd rows z zh ns es os ss r x (aAo b) t) 2).length (oR (aBd rows z zh ns es os ss r x (aAo b) t) 2) (oR (aBd rows z zh ns es os ss r x (aAo b) t) 3).length (oR (aBd rows z zh ns es os ss r x (aAo b) t) 3) (oI (aBd rows z zh ns es os ss r x (aAo b) t) 4) (oI (aBd rows z zh ns es os ss r x (aAo b) t) 5) (IntKind.i64.wrap (b+((s1::u1).length:Int))) l k (s1::u1).length ([C.str s1]::List.map aAt u1) 0)).eval :=
 aYv rows k m hk z zh ns es os ss r x b _ t (s1::u1) hz hs ht hrl hrs rfl hb0 hb1 ih l
theorem aLy (rows:List (List C)) (k:Nat) (hk:k≤4) (z zh:Int) (ns es os ss:List (List C)) (r x:Int) (nm t:List UInt8) (hz:aAs rows z=true) (hs:SzD (2*k+1) ⟨ns,es,os,ss,r,x⟩) (hn:nm.length≤1000) (ht:t.length≤1048576) :
  (aAs rows z&&aXo ns es os ss r nm t)=true∧aCc (2*k+3) rows (aBd rows z zh ns es os ss r x nm t):=by
 refine⟨?_,aXp (2*k+1) (by omega) rows z zh ns es os ss r x nm t hz hs hn (by omega)⟩
 rw[hz,(bEi (x:=x)).2 ⟨hs.mono (by omega),hn,by omega⟩];rfl
theorem aCc.lens {n:Nat} {rows:List (List C)} {o:Option (List C)} (h:aCc n rows o) (hn:n≤100):aFj (oR o 0) (oR o 1) (oR o 2) (oR o 3)=true:=h.sz.1.dis hn
theorem aCc.ret {n:Nat} {rows:List (List C)} {o:Option (List C)} (h:aCc n rows o) (hn:n≤40):aCc 40 rows (some [.sl (oR o 0),.sl (oR o 1),.sl (oR o 2),.sl (oR o 3),.int .i64 (oI o 4),.int .i64 (oI o 5),.sl rows,.int .i64 (oI o 7),.int .i64 (oI o 8)]) :=
 ⟨⟨oR o 0,oR o 1,oR o 2,oR o 3,oI o 4,oI o 5⟩,oI o 7,oI o 8,rfl,h.sz.1.mono hn,h.sz.2⟩
theorem bId (rows:List (List C)):∀ (N k:Nat) (i h:Int) (ns es os ss:List (List C)) (r x b l:Int),k≤4→5<k+N→aAs rows i=true→SzD (2*k+1) ⟨ns,es,os,ss,r,x⟩→0≤b→b≤5*(k:Int) →
  aCc 40 rows (aBr aDn aAc (⟨[aDa],[aBz],true⟩) Tryz.f58 [.r,.r,.r,.r,.l,.r,.b] N (aHz rows i h ns.length ns es.length es os.length os ss.length ss r x b l k)).eval:=by
 intro N
 induction N with
 |zero=>intro k i h ns es os ss r x b l h1 h2;omega
 |succ N ih =>
  intro k i h ns es os ss r x b l h1 h2 ho hs hb0 hb1
  rw[aAv _ _ _ _ _ _ _ (by kernel_rfl),bAl]
  simp only[List.take_length,bU2,aId]
  have bw:=aBs rows i h 5 (by omega)
  have o1:=aAr rows i 5 ho
  refine aCc.must ho ?_
  by_cases c:(k:Int)<aAm rows i h 5
  ·refine aCc.of (aAg (decide_eq_true c) rfl) ?_
   have ih':=fun (i h:Int) (ns es os ss:List (List C)) (r x b l:Int) a1 a2 a3 a4=>ih (k+1) i h ns es os ss r x b l (by omega) (by omega) a1 a2 a3 a4
   have hib:inB b 0 1000000000=true:=by rw[aBi];omega
   have o3:=aAr rows _ 3 (aAr rows _ 2 o1)
   have oz1:=bVd rows (aA0 rows (aA0 rows (aA0 rows i 5) 2) 3) (aA2 (aA2 (aA2 h 5) 2) 3) o3
   have sl1:=bVc rows (aA0 rows (aA0 rows (aA0 rows i 5) 2) 3) (aA2 (aA2 (aA2 h 5) 2) 3)
   generalize rcI rows (aA0 rows (aA0 rows (aA0 rows i 5) 2) 3) (aA2 (aA2 (aA2 h 5) 2) 3)=z1 at oz1 ⊢
   generalize rcH rows (aA0 rows (aA0 rows (aA0 rows i 5) 2) 3) (aA2 (aA2 (aA2 h 5) 2) 3)=z2
   generalize rcT rows (aA0 rows (aA0 rows (aA0 rows i 5) 2) 3) (aA2 (aA2 (aA2 h 5) 2) 3)=s1 at sl1 ⊢
   have oz3:=bUw rows z1 z2 3 oz1
   have ul:=bMy rows z1 z2 3 (by omega)
   have us:=bIn rows z1 z2 3 (by omega)
   generalize rsI rows z1 z2 3=z3 at oz3 ⊢
   generalize rsH rows z1 z2 3=z4
   generalize rsL rows z1 z2 3=u1 at ul us ⊢
   have rl:(s1::u1).length≤5:=by simp only[List.length_cons];omega
   have rs:∀ y∈s1::u1,y.length≤60:=fun y hy=>by
    rcases List.mem_cons.1 hy with rfl | hy
    ·exact sl1
    ·exact us y hy
   have sh:aK5 ((s1::u1).map aAt)=true:=by rw[aPy];exact fun y hy=>by have:=rs y hy;omega
   have p1:=aAr rows z3 20 oz3
   have p2:=aAr rows _ 20 p1
   have p3:=aAr rows _ 4 p2
   have p4:=aAr rows _ 6 p3
   have rr:=aCq (1+(u1.map aAt).length) 16 (by rw[List.length_map];omega) (by omega)
   have r1:((u1.map aAt).all fun row=>decide (row.length=1))=true:=by simp
   have rk:aAp [K.str] ((s1::u1).map aAt)=true:=aEy _
   have rk2:decide (((s1::u1).map aAt).length≤1048576)=true:=decide_eq_true (by rw[List.length_map];omega)
   have nil60:∀ y∈([]:List (List UInt8)),y.length≤60:=fun y hy=>by cases hy
   refine aCc.must o1 (aCc.must (aAr rows _ 2 o1) (aCc.must o3 (aCc.must (by rw[oz1];rfl) (aCc.must (by rw[r1];rfl) (aCc.must (by rw[rr,r1];rfl) (aCc.must oz3 ?_))))))
   have e1:1+u1.length=(s1::u1).length:=Nat.add_comm _ _
   simp only[List.length_map,e1]
   have hs60:SzD 60 ⟨ns,es,os,ss,r,x⟩:=hs.mono (by omega)
   have rk3:decide ((s1::u1).length≤1048576)=true:=decide_eq_true (by omega)
   repeat' (first | with_reducible refine aCc.ask ?_ ?_ | with_reducible refine aCc.must ?_ ?_)
   all_goals first
    |(with_reducible refine bW3 ?_;exact (aLy rows k h1 _ _ ns es os ss r x (aAo b) _ (by first | with_reducible exact p4 | with_reducible exact bKr rows _ _ _ p4) hs (bD9 b) (by first | with_reducible exact Nat.le_trans (aEi _ _ _ _ _) (by omega) | with_reducible exact Nat.le_trans (aD5 _ _ _ _ _ (by first | with_reducible exact rl | decide)) (by omega) | with_reducible exact Nat.le_trans (aHj _ _ _ _ (aEi _ _ _ _ _)) (by omega) | with_reducible exact Nat.le_trans (aHj _ _ _ _ (aD5 _ _ _ _ _ (by first | with_reducible exact rl | decide))) (by omega))).2.lens (by omega))
    |(with_reducible refine bKk rows k N (by omega) _ _ ns es os ss r x b _ ?_ hs ?_ hb0 hb1 ih' l<;>first | with_reducible exact p4 | with_reducible exact bKr rows _ _ _ p4 | exact (by first | with_reducible exact Nat.le_trans (aEi _ _ _ _ _) (by omega) | with_reducible exact Nat.le_trans (aD5 _ _ _ _ _ (by first | with_reducible exact rl | decide)) (by omega) | with_reducible exact Nat.le_trans (aHj _ _ _ _ (aEi _ _ _ _ _)) (by omega) | with_reducible exact Nat.le_trans (aHj _ _ _ _ (aD5 _ _ _ _ _ (by first | with_reducible exact rl | decide))) (by omega)))
    |(with_reducible refine bKj rows s1 u1 rl rs k N (by omega) _ _ ns es os ss r x b _ ?_ hs ?_ hb0 hb1 ih' l<;>first | with_reducible exact p4 | with_reducible exact bKr rows _ _ _ p4 | exact (by first | with_reducible exact Nat.le_trans (aEi _ _ _ _ _) (by omega) | with_reducible exact Nat.le_trans (aD5 _ _ _ _ _ (by first | with_reducible exact rl | decide)) (by omega) | with_reducible exact Nat.le_trans (aHj _ _ _ _ (aEi _ _ _ _ _)) (by omega) | with_reducible exact Nat.le_trans (aHj _ _ _ _ (aD5 _ _ _ _ _ (by first | with_reducible exact rl | decide))) (by omega)))
    |skip
   all_goals (repeat' (with_reducible refine cAl ?_ ?_))
   all_goals first
    |with_reducible assumption
    |with_reducible rfl
    |with_reducible exact bKr rows _ _ _ p4
    |with_reducible exact (bEi (x:=x)).2 ⟨hs60,bD9 b,Nat.le_trans (m:=1048576) (by first | with_reducible exact Nat.le_trans (aEi _ _ _ _ _) (by omega) | with_reducible exact Nat.le_trans (aD5 _ _ _ _ _ (by first | with_reducible exact rl | decide)) (by omega) | with_reducible exact Nat.le_trans (aHj _ _ _ _ (aEi _ _ _ _ _)) (by omega) | with_reducible exact Nat.le_trans (aHj _ _ _ _ (aD5 _ _ _ _ _ (by first | with_reducible exact rl | decide))) (by omega)) (by omega)⟩
    |with_reducible exact decide_eq_true (by first | with_reducible exact Nat.le_trans (aEi _ _ _ _ _) (by omega) | with_reducible exact Nat.le_trans (aD5 _ _ _ _ _ (by first | with_reducible exact rl | decide)) (by omega) | with_reducible exact Nat.le_trans (aHj _ _ _ _ (aEi _ _ _ _ _)) (by omega) | with_reducible exact Nat.le_trans (aHj _ _ _ _ (aD5 _ _ _ _ _ (by first | with_reducible exact rl | decide))) (by omega))
    |decide
  ·refine aCc.of (aAi (decide_eq_false c) rfl) ?_
   refine aCc.must o1 (aCc.ask ?_ (aCc.ask ?_ (aCc.ask ?_ ?_)))
   ·have q1:=aAr rows _ 6 o1
    have q2:=aAr rows _ 4 q1
    obtain⟨m1,P⟩:=aLy rows k h1 _ (aA2 (aA2 (aA2 h 5) 6) 4) ns es os ss r x (aJh (aAm rows (aA0 rows (aA0 rows i 5) 6) (aA2 (aA2 h 5) 6) 4)) [104,97,108,102] q2 hs (bYr _) (by decide)
    exact aCc.must q1 (aCc.must m1 (aCc.must (bW3 (P.lens (by omega))) (aCc.must (by simp only[decide_true,Bool.true_or,Bool.and_self,Bool.and_true]) (P.ret (by omega)))))
   ·have q1:=aAr rows _ 6 o1
    have q2:=aAr rows _ 9 q1
    have q3:=cAb rows _ (aA2 (aA2 (aA2 h 5) 6) 9) q2
    have fl:=cAa rows (aA0 rows (aA0 rows (aA0 rows i 5) 6) 9) (aA2 (aA2 (aA2 h 5) 6) 9)
    obtain⟨m1,P⟩:=aLy rows k h1 _ (cAd rows (aA0 rows (aA0 rows (aA0 rows i 5) 6) 9) (aA2 (aA2 (aA2 h 5) 6) 9)) ns es os ss r x (aAo (IntKind.i64.wrap (20+aAm rows (aA0 rows (aA0 rows i 5) 6) (aA2 (aA2 h 5) 6) 9))) (bT8 rows (aA0 rows (aA0 rows (aA0 rows i 5) 6) 9) (aA2 (aA2 (aA2 h 5) 6) 9)) q3 hs (bD9 _) (by omega)
    exact aCc.must q1 (aCc.must q2 (aCc.must m1 (aCc.must (bW3 (P.lens (by omega))) (aCc.must (by simp only[decide_true,Bool.true_or,Bool.and_self,Bool.and_true]) (P.ret (by omega))))))
   ·have q1:=aAr rows _ 6 o1
    obtain⟨m1,P⟩:=aLy rows k h1 _ (aA2 (aA2 h 5) 6) ns es os ss r x [114,101,97,100,109,101] [115,111,109,101,32,116,101,120,116] q1 hs (by decide) (by decide)
    exact aCc.must m1 (aCc.must (bW3 (P.lens (by omega))) (aCc.must (by simp only[decide_true,Bool.true_or,Bool.and_self,Bool.and_true]) (P.ret (by omega))))
   ·exact aCc.must (by simp only[decide_true,Bool.true_or,Bool.and_self,Bool.and_true]) ⟨⟨ns,es,os,ss,r,x⟩,_,_,rfl,hs.mono (by omega),aAr rows _ 6 o1⟩
theorem bCa (rows:List (List C)) (i h:Int) (ho:aAs rows i=true):aCc 40 rows (aVx rows i h):=by
 unfold aVx
 rw[aKe,aAd,bIc]
 have o1:=aAr rows i ((4:Nat):Int) ho
 have b:=aBs rows i h ((4:Nat):Int) (by omega)
 have hr:aN7 ((aDo [[C.int .i64 6000],[C.int .i64 6000],[C.int .i64 6000],[C.int .i64 900]]).getD (aAm rows i h ((4:Nat):Int)).toNat 0)≤6000:=by
  have:∀ k:Nat,k<4→aN7 ((aDo [[C.int .i64 6000],[C.int .i64 6000],[C.int .i64 6000],[C.int .i64 900]]).getD k 0)≤6000:=by decide
  exact this _ (by omega)
 refine aCc.must (by rw[ho];rfl) ?_
 exact bId rows 9223372036854775808 0 _ _ [] [] [] [] _ 1 0 0 (by omega) (by omega) o1 ⟨⟨⟨[],rfl,by simp,fun y hy=>by cases hy⟩,⟨[],rfl,by simp,fun y hy=>by cases hy⟩,⟨[],rfl,by simp,fun y hy=>by cases hy⟩,⟨[],rfl,by simp,fun y hy=>by cases hy⟩⟩,hr⟩ (by omega) (by omega)
theorem bUr:aAa Tryz.prog aDn:=aA8 (by simp[aD6,aIz,aFo,aGe,aMv,aQ2,aPc,aMt,aUe,aR7,bMl,aWs,aXg,bHo])
theorem bEa:aAx Tryz.prog 58 (⟨[aDa],[aBz],true⟩) aTy:=aA6 bUr aAb Tryz.func58 (by kernel_rfl) fun cs outs hk h=>by
 unfold aTy at h
 split at h
 ·simp only[Option.some.injEq,Prod.mk.injEq]at h
  obtain⟨h1,rfl⟩:=h
  rename_i rows i hh
  have e:=(bCa rows i hh h1).out.back
  rw[←e]
  exact (aKe _).symm
 ·cases h
noncomputable section
def bGr:Env:=mkE [] [(56,(⟨[aDa,pI],[rB],true⟩),aLn),(57,(⟨[aDa],[aBz],true⟩),bGi),(58,(⟨[aDa],[aBz],true⟩),aTy)]
def aZ7 (rows:List (List C)) (i h:Int):Option (List C):=cE5 (bD4 bGr aAc ⟨[aDa],[aBz],true⟩ Tryz.f44 [.sl rows,.int .i64 i,.int .i64 h]).eval
def aZ6:aCf:=fun cs=>match cs with
 |[.sl rows,.int .i64 i,.int .i64 h]=>some (aAs rows i,aTj (aZ7 rows i h) rows)
 |_=>none
def c18 (rows:List (List C)):Option (List C):=aZ7 rows 0 (cCz rows)
def bXk (rows:List (List C)):List (List UInt8):=aC8 (oR (c18 rows) 0) (oR (c18 rows) 1)
def aFl (rows:List (List C)):Int:=([0,1,2,3,IntKind.i64.wrap ((bXk rows).length-1),(bXk rows).length,-1,9223372036854775807]:List Int).getD (aAm rows (oI (c18 rows) 7) (oI (c18 rows) 8) 8).toNat 0
def cEv (o:Option (List C)):List C:=[.sl (oR o 0),.sl (oR o 1),.sl (oR o 2),.sl (oR o 3),.int .i64 (oI o 4),.int .i64 (oI o 5)]
def aQi:aCf:=fun cs=>match cs with
 |[.sl rows]=>some (aAs rows 0,cEv (c18 rows)++[.int .i64 (aFl rows)])
 |_=>none
def bL8:Env:=mkD [] [(42,(⟨[aDa,pSl 3],[rI],true⟩),aLm),(43,(sg [aB0] [rI]),aHc),(44,(⟨[aDa],[aBz],true⟩),aZ6)]
def aWq:aCf:=fun cs=>match cs with
 |[.sl x,.sl y]=>some (decide (x.length≤1073741824)&&(aAp [.str] x&&aAp [.str] y),[.bool (decide (aCp x=aCp y))])
 |_=>none
def aW3 (x y:List (List C)) (i:Int):St:=st0 [(0,.l (.sl x)),(1,.l (.sl y)),(5,aBf i)]
def aWa:Env:=mkE [(4,[0,1,5])] []
def cGt:aCf:=fun cs=>match cs with
 |[.sl rows]=>some (true,[.bool (decide (1048576<rows.length))])
 |_=>none
def bGc:aCf:=fun cs=>match cs with
 |[.sl rows]=>some (aAp [.int .u8] rows,[.bool true])
 |_=>none
def bY6:Env:=mkE [] []
end
theorem bMv (H:List Pt→Nat→St→T (List C)) (r:List (List C)) (i:Int) (h:Int):(aAk bGr aAc {params:=[aDa],results:=[aBz],nested:=true} Tryz.f44 H [C.sl r,C.int .i64 i,C.int .i64 h]).eval=(let e1:Option (List C):=(bQ7 r (aA0 r i 10) (aA2 h 10));let e2:Option (List C):=(aVx r (aA0 r i 10) (aA2 h 10));(.must (aAs r i) (.ask (decide (aAm r i h 10=(0:Int))) (.must (aAs r (aA0 r i 10)) (.must ((true&&(oR e1 0).all fun row=>decide (row.length=3))&&((true&&(oR e1 1).all fun row=>decide (row.length=2))&&((true&&(oR e1 2).all fun row=>decide (row.length=2))&&((true&&(oR e1 3).all fun row=>decide (row.length=1))&&(decide (0<1)&&true&&(decide (0<1)&&true&&true)))))&&true&&(decide (0<((Nat.add 1 0).succ.add 0).succ)&&true&&(decide (0+1<((Nat.add 1 0).succ.add 0).succ)&&true&&(decide (0+1+1<((Nat.add 1 0).succ.add 0).succ)&&true&&true))&&true)) (.must (decide ((oR e1 0).length=(oR e1 0).length)&&(true||(oR e1 0).all fun r=>r.all C.flat)&&(decide ((oR e1 1).length=(oR e1 1).length)&&(true||(oR e1 1).all fun r=>r.all C.flat)&&(decide ((oR e1 2).length=(oR e1 2).length)&&(true||(oR e1 2).all fun r=>r.all C.flat)&&(decide ((oR e1 3).length=(oR e1 3).length)&&(true||(oR e1 3).all fun r=>r.all C.flat)&&(true&&(true||true)&&(true&&(true||true)&&true)))))&&true&&(true&&(true||(C.sl r).flat)&&(true&&(true||true)&&(true&&(true||true)&&true))&&true)) (.ret [C.sl (oR e1 0),C.sl (oR e1 1),C.sl (oR e1 2),C.sl (oR e1 3),C.int .i64 (oI e1 4),C.int .i64 (oI e1 5),C.sl r,C.int .i64 (oI e1 7),C.int .i64 (oI e1 8)])))) (.must (aAs r (aA0 r i 10)) (.must ((true&&(oR e2 0).all fun row=>decide (row.length=3))&&((true&&(oR e2 1).all fun row=>decide (row.length=2))&&((true&&(oR e2 2).all fun row=>decide (row.length=2))&&((true&&(oR e2 3).all fun row=>decide (row.length=1))&&(decide (0<1)&&true&&(decide (0<1)&&true&&true)))))&&true&&(decide (0<((Nat.add 1 0).succ.add 0).succ)&&true&&(decide (0+1<((Nat.add 1 0).succ.add 0).succ)&&true&&(decide (0+1+1<((Nat.add 1 0).succ.add 0).succ)&&true&&true))&&true)) (.must (decide ((oR e2 0).length=(oR e2 0).length)&&(true||(oR e2 0).all fun r=>r.all C.flat)&&(decide ((oR e2 1).length=(oR e2 1).length)&&(true||(oR e2 1).all fun r=>r.all C.flat)&&(decide ((oR e2 2).length=(oR e2 2).length)&&(true||(oR e2 2).all fun r=>r.all C.flat)&&(decide ((oR e2 3).length=(oR e2 3).length)&&(true||(oR e2 3).all fun r=>r.all C.flat)&&(true&&(true||true)&&(true&&(true||true)&&true)))))&&true&&(true&&(true||(C.sl r).flat)&&(true&&(true||true)&&(true&&(true||true)&&true))&&true)) (.ret [C.sl (oR e2 0),C.sl (oR e2 1),C.sl (oR e2 2),C.sl (oR e2 3),C.int .i64 (oI e2 4),C.int .i64 (oI e2 5),C.sl r,C.int .i64 (oI e2 7),C.int .i64 (oI e2 8)])))))):T (List C)).eval:=aAj (by kernel_rfl)
theorem bIj (H:List Pt→Nat→St→T (List C)) (r:List (List C)):(aAk bL8 (bP1 cAg) {params:=[aQ8],results:=[aBz,rI],nested:=true} Tryz.f25 H [C.sl r]).eval=(let e1:Option (List C):=(aZ7 r 0 (cCz r));(.must (aAs r 0) (.must (aAs r 0) (.must ((true&&(oR e1 0).all fun row=>decide (row.length=3))&&((true&&(oR e1 1).all fun row=>decide (row.length=2))&&((true&&(oR e1 2).all fun row=>decide (row.length=2))&&((true&&(oR e1 3).all fun row=>decide (row.length=1))&&(decide (0<1)&&true&&(decide (0<1)&&true&&true)))))&&true&&(decide (0<((Nat.add 1 0).succ.add 0).succ)&&true&&(decide (0+1<((Nat.add 1 0).succ.add 0).succ)&&true&&(decide (0+1+1<((Nat.add 1 0).succ.add 0).succ)&&true&&true))&&true)) (.must (aJc (List.take (oR e1 0).length (oR e1 0)) (List.take (oR e1 1).length (oR e1 1))) (.must (aAs r (oI e1 7)&&(aAp [K.int .i64] [[C.int .i64 0],[C.int .i64 1],[C.int .i64 2],[C.int .i64 3],[C.int .i64 (IntKind.i64.wrap (Int.ofNat (aB5 (aAu (nds (List.take (oR e1 0).length (oR e1 0))) (ens (List.take (oR e1 1).length (oR e1 1))))).length-(1:Int)))],[C.int .i64 (Int.ofNat (aB5 (aAu (nds (List.take (oR e1 0).length (oR e1 0))) (ens (List.take (oR e1 1).length (oR e1 1))))).length)],[C.int .i64 (-1)],[C.int .i64 9223372036854775807]]&&(decide (0<(((((Nat.add 3 0).succ.add 0).succ.add 0).succ.add 0).succ.add 0).succ)&&decide ((((((Nat.add 3 0).succ.add 0).succ.add 0).succ.add 0).succ.add 0).succ≤1048576)))) (.must (decide ((oR e1 0).length=(oR e1 0).length)&&(true||(oR e1 0).all fun r=>r.all C.flat)&&(decide ((oR e1 1).length=(oR e1 1).length)&&(true||(oR e1 1).all fun r=>r.all C.flat)&&(decide ((oR e1 2).length=(oR e1 2).length)&&(true||(oR e1 2).all fun r=>r.all C.flat)&&(decide ((oR e1 3).length=(oR e1 3).length)&&(true||(oR e1 3).all fun r=>r.all C.flat)&&(true&&(true||true)&&(true&&(true||true)&&true)))))&&(true&&(true||true)&&true&&true)&&true) (.ret [C.sl (oR e1 0),C.sl (oR e1 1),C.sl (oR e1 2),C.sl (oR e1 3),C.int .i64 (oI e1 4),C.int .i64 (oI e1 5),C.int .i64 ((aDo [[C.int .i64 0],[C.int .i64 1],[C.int .i64 2],[C.int .i64 3],[C.int .i64 (IntKind.i64.wrap (Int.ofNat (aB5 (aAu (nds (List.take (oR e1 0).length (oR e1 0))) (ens (List.take (oR e1 1).length (oR e1 1))))).length-(1:Int)))],[C.int .i64 (Int.ofNat (aB5 (aAu (nds (List.take (oR e1 0).length (oR e1 0))) (ens (List.take (oR e1 1).length (oR e1 1))))).length)],[C.int .i64 (-1)],[C.int .i64 9223372036854775807]]).getD (aAm r (oI e1 7) (oI e1 8) (↑(((((Nat.add 3 0).succ.add 0).succ.add 0).succ.add 0).succ.add 0).succ:Int)).toNat 0)]))))))):T (List C)).eval:=aAj (by kernel_rfl)
theorem bNe (H:List Pt→Nat→St→T (List C)) (x:List (List C)) (y:List (List C)):(aAk aWa aAc (sg [pSl 9,pSl 9] [rB]) Tryz.f12 H [C.sl x,C.sl y]).eval=((.ask ((↑x.length:Int) != (↑y.length:Int)) (.ret [C.bool false]) (H [Pt.r,Pt.r,Pt.l,Pt.r,Pt.b] 9223372036854775808 (aW3 (x) (y) ((0:Int))))):T (List C)).eval:=aAj (by kernel_rfl)
theorem bEy (H:List Pt→Nat→St→T (List C)) (x:List (List C)) (y:List (List C)) (i:Int) (k:Nat):(aBl aWa aAc (sg [pSl 9,pSl 9] [rB]) Tryz.f12 H [Pt.r,Pt.r,Pt.l,Pt.r,Pt.b] k (aW3 x y i)).eval=((.ask (decide (i<(↑x.length:Int))) (.must (decide ((0:Int)≤i)&&decide (i<(↑x.length:Int))&&decide ((x.getD i.toNat []).length=1)) (.must (decide (0<(x.getD i.toNat []).length)&&C.is K.str ((x.getD i.toNat []).getD 0 (C.fn 0 []))&&true) (.must (decide ((0:Int)≤i)&&decide (i<(↑y.length:Int))&&decide ((y.getD i.toNat []).length=1)) (.must (decide (0<(y.getD i.toNat []).length)&&C.is K.str ((y.getD i.toNat []).getD 0 (C.fn 0 []))&&true) (.ask (!((x.getD i.toNat []).getD 0 (C.fn 0 [])).toStr==((y.getD i.toNat []).getD 0 (C.fn 0 [])).toStr) (.ret [C.bool false]) (H [Pt.r,Pt.r,Pt.l,Pt.r,Pt.b] k (aW3 (x) (y) (IntKind.i64.wrap (i+(1:Int)))))))))) (.ret [C.bool true])):T (List C)).eval:=aAj (by kernel_rfl)
theorem bSo (H:List Pt→Nat→St→T (List C)) (r:List (List C)):(aAk bY6 aAc (sg [aQ8] [rB]) Tryz.f5 H [C.sl r]).eval=((.ask (decide ((1048576:Int)<(↑r.length:Int))) (.ret [C.bool true]) (.ret [C.bool false])):T (List C)).eval:=aAj (by kernel_rfl)
theorem aZ5 (rows:List (List C)) (i h:Int) (ho:aAs rows i=true):bCy 40 rows (aZ7 rows i h):=by
 unfold aZ7
 rw[aKe,aAd,bMv]
 have o1:=aAr rows i 10 ho
 by_cases c:aAm rows i h 10=0
 ·have D:=bQ6 rows _ (aA2 h 10) o1
  obtain⟨hs,o7⟩:=D.sz
  exact⟨_,_,_,_,_,_,_,_,aA5 ho (aAg (decide_eq_true c) (aA5 o1 (aA5 (by rw[bNd (aIb hs (by omega))];rfl) (aA5 (by simp only[decide_true,Bool.true_or,Bool.and_self,Bool.and_true]) rfl)))),hs.mono (by omega),o7⟩
 ·have D:=bCa rows _ (aA2 h 10) o1
  obtain⟨hs,o7⟩:=D.out.sz
  exact⟨_,_,_,_,_,_,_,_,aA5 ho (aAi (decide_eq_false c) (aA5 o1 (aA5 (by rw[bNd (aIb hs (by omega))];rfl) (aA5 (by simp only[decide_true,Bool.true_or,Bool.and_self,Bool.and_true]) rfl)))),hs,o7⟩
theorem bZ6:aAa Tryz.prog bGr:=aA8 (by simp[aIz,bMu,bEa])
theorem bIl:aAx Tryz.prog 44 (⟨[aDa],[aBz],true⟩) aZ6:=aA6 bZ6 aAb Tryz.func44 (by kernel_rfl) fun cs outs hk h=>by
 unfold aZ6 at h
 split at h
 ·simp only[Option.some.injEq,Prod.mk.injEq]at h
  obtain⟨h1,rfl⟩:=h
  rename_i rows i hh
  have e:=(aZ5 rows i hh h1).back
  rw[←e]
  exact (aKe _).symm
 ·cases h
theorem bQ1 (rows:List (List C)) (h:aAs rows 0=true):Sz 40 (oR (c18 rows) 0) (oR (c18 rows) 1) (oR (c18 rows) 2) (oR (c18 rows) 3):=(aZ5 rows 0 (cCz rows) h).sz.1
theorem bUt:aAa Tryz.prog bL8:=bJa (by simp[aFo,aR6,bIl])
theorem aRb:aAx Tryz.prog 25 (⟨[aQ8],[aBz,rI],true⟩) aQi:=aA6 bUt (bH5 bPx) Tryz.func25 (by kernel_rfl) fun cs outs hk h=>by
 unfold aQi at h
 split at h
 ·simp only[Option.some.injEq,Prod.mk.injEq]at h
  obtain⟨h1,rfl⟩:=h
  rename_i rows
  obtain⟨hs,o7⟩:=(aZ5 rows 0 (cCz rows) h1).sz
  have dk:=cEc hs (by omega)
  rw[aAd,bIj]
  simp only[List.take_length]
  exact aA5 h1 (aA5 h1 (aA5 (bW3 (aIb hs (by omega))) (aA5 dk (aA5 (by rw[o7];rfl) (aA5 (by simp only[decide_true,Bool.true_or,Bool.and_self,Bool.and_true]) rfl)))))
 ·cases h
theorem cBi (rows:List (List C)) (h:aAs rows 0=true):aJc (oR (c18 rows) 0) (oR (c18 rows) 1)=true:=cEc (bQ1 rows h) (by omega)
theorem bNf (x y:List (List UInt8)) (hx:x.length≤1073741824) (hl:x.length=y.length):∀ (n i:Nat),i≤x.length→x.length<i+n→x.take i=y.take i →
  (aBr aWa aAc (sg [pSl 9,pSl 9] [rB]) Tryz.f12 [.r,.r,.l,.r,.b] n (aW3 (x.map aAt) (y.map aAt) i)).eval=some [.bool (decide (x=y))]:=by
 intro n
 induction n with
 |zero=>intro i h1 h2;omega
 |succ n ih =>
  intro i h1 h2 h3
  rw[aAv _ _ _ _ _ _ _ (by kernel_rfl),bEy]
  by_cases hi:i<x.length
  ·have hi2:i<y.length:=by omega
   have w:IntKind.i64.wrap ((i:Int)+1)=((i+1:Nat):Int):=by rw[aAh]<;>omega
   have hz:(0:Int)≤i:=by omega
   have g:=aBc aAt x [] i hi
   have g2:=aBc aAt y [] i hi2
   simp only[aA1,aA4,aA3,if_true,decide_eq_true_eq,Bool.and_eq_true,w,hz,Int.toNat_natCast,Int.ofNat_lt,List.length_map,g,g2,hi,hi2,and_self,List.getD_cons_zero,C.toStr,C.is,List.length_cons,List.length_nil,Nat.zero_add,Nat.zero_lt_succ,Bool.not_eq_true',beq_eq_false_iff_ne,ne_eq]
   by_cases hxy:x.getD i []=y.getD i []
   ·have e:=ih (i+1) (by omega) (by omega) (aU9 [] hi hi2 h3 hxy)
    simp only[hxy,not_true_eq_false,if_false]
    exact e
   ·have:x≠y:=fun h=>hxy (by rw[h])
    simp only[hxy,not_false_eq_true,if_true,this,decide_false]
  ·have e1:i=x.length:=by omega
   have:x=y:=by
    rw[e1,List.take_length,hl,List.take_length]at h3
    exact h3
   have e2:decide (x=y)=true:=by simp[this]
   simp only[aA1,aA4,aA3,decide_eq_true_eq,List.length_map,Int.ofNat_lt,hi,if_false,if_true,e2]
theorem bZv:aAa Tryz.prog aWa:=aA8 (by simp[])
theorem bJj:aAx Tryz.prog 12 (sg [pSl 9,pSl 9] [rB]) aWq:=aA6 bZv aAb Tryz.func12 (by kernel_rfl) fun cs outs hk h=>by
 unfold aWq at h
 split at h
 ·simp only[Option.some.injEq,Prod.mk.injEq,Bool.and_eq_true,decide_eq_true_eq]at h
  obtain⟨⟨h1,h2,h3⟩,rfl⟩:=h
  rename_i x y
  have hx:=aFq h2
  have hy:=aFq h3
  generalize aCp x=l at hx ⊢
  generalize aCp y=m at hy ⊢
  subst hx;subst hy
  rw[List.length_map]at h1
  rw[aAd,bNe]
  simp only[aA1,aA4,aA3,if_true,bne_iff_ne,ne_eq,List.length_map,Int.ofNat_inj]
  by_cases hl:l.length=m.length
  ·simp only[hl,not_true_eq_false,if_false]
   exact bNf l m h1 hl _ 0 (by omega) (by omega) rfl
  ·have:l≠m:=fun h=>hl (by rw[h])
   simp[hl,this]
 ·cases h
theorem cD3:aAa Tryz.prog bY6:=aA8 (by simp[])
theorem bNg:aAx Tryz.prog 5 (sg [aQ8] [rB]) cGt:=aA6 cD3 aAb Tryz.func5 (by kernel_rfl) fun cs outs hk h=>by
 unfold cGt at h
 split at h
 ·simp only[Option.some.injEq,Prod.mk.injEq,true_and]at h
  rename_i rows
  rw[←h,aAd,bSo]
  by_cases hb:1048576<rows.length
  ·have:(1048576:Int)<rows.length:=by omega
   simp[aA1,aA4,aA3,hb,this]
  ·have:¬(1048576:Int)<rows.length:=by omega
   simp[aA1,aA4,aA3,hb,this]
 ·cases h
noncomputable section
end
theorem cFn {rows:List (List C)} (h:aAp [.int .u8] rows=true) (hl:rows.length≤1048576):aAs rows 0=true:=by
 rw[aL0];exact⟨h,hl,by omega,by omega⟩
noncomputable section
def cBj:cDw:=⟨119,5,99,101,103⟩
def bXq (g:FuncId):Option Func:=if g=99 then some Tryz.f99 else if g=101 then some Tryz.f101 else if g=103 then some Tryz.f103 else none
def cGs (t:TypeId):Option TypeId:=if t=119 then some 5 else none
def cFs:TI:=⟨true,[.ptr,.slice 5],[(0,117),(1,22)],32,false⟩
def mkB (lv:List (Nat×List Nat)) (gs:Laws):Env:={mkE lv gs with inl:=bXq,bt:=cGs}
end
theorem cAm:tyB Tryz.prog 119 cFs=true:=by kernel_rfl
theorem cDn:∀ t e,cGs t=some e→cG3 Tryz.prog t:=by
 intro t e h
 unfold cGs at h
 split at h
 ·rename_i ht
  subst ht
  exact⟨cFs,_,(bTy cAm).1,rfl,rfl⟩
 ·cases h
theorem cAq:Tryz.prog.follows .mixedOrders=true:=by kernel_rfl
theorem cAp : (Tryz.f99.name == "runtime.NumGoroutine") = false := by kernel_rfl
theorem cAo : (Tryz.f101.name == "runtime.NumGoroutine") = false := by kernel_rfl
theorem cAn : (Tryz.f103.name == "runtime.NumGoroutine") = false := by kernel_rfl
theorem bKt {g : FuncId} {fn : Func} (h : bXq g = some fn) : Tryz.prog.funcs[g]? = some fn ∧ (fn.name == "runtime.NumGoroutine") = false := by
 unfold bXq at h
 split at h
 ·rename_i hg;subst hg;obtain rfl:=Option.some.inj h;exact⟨Tryz.func99,cAp⟩
 ·split at h
  ·rename_i hg;subst hg;obtain rfl:=Option.some.inj h;exact⟨Tryz.func101,cAo⟩
  ·split at h
   ·rename_i hg;subst hg;obtain rfl:=Option.some.inj h;exact⟨Tryz.func103,cAn⟩
   ·cases h
theorem bJb {lv:List (Nat×List Nat)} {gs:Laws} (h:∀ p,p∈gs→aAx Tryz.prog p.1 p.2.1 p.2.2):aAa Tryz.prog (mkB lv gs) :=
 ⟨⟨(bOx aVo).1,fun g fn hh=>(bKt hh).1,fun t m e te h1 h2=>bOn aZ1 t m e te h1 h2,bWt bFw,cDn⟩,fun g sig spec hl=>h (g,sig,spec) (aG5 hl),fun g fn hh=>(bKt hh).2,cAq⟩
theorem bMx {P:Program} {w:World} (t u ty e:TypeId) (i:TypeInfo) (ht:P.underlying t=some (.slice e)) (hu:P.underlying u=some .string) (hi:P.info? e=some i) (hz:i.zero=some (.int .u8 0)) (hsize:i.size=1) (hby:i.bytes=1)
  (v:Value) (bs:List UInt8) (hv:(v=.slice none 0 0∧bs=[])∨∃ g cur,v=.slice (some ⟨g,0,none⟩) bs.length cur.size∧w.heap[g]? =some (.cells cur e (0,0))∧bs.length≤cur.size∧cur.size≤maxLen∧cur.toList.take bs.length=aCb bs)
  (s:ByteArray) (hl:bs.length+s.size≤140737488355328) (h0:0<bs.length+s.size) :
  ∃ g' cur' w',(Builtin.append_ #[t,u] ty #[v,.string s]).run P w=.ok (.slice (some ⟨g',0,none⟩) (bs++s.data.toList).length cur'.size) w'∧w'.heap[g']? =some (.cells cur' e (0,0))∧(bs++s.data.toList).length≤cur'.size∧cur'.size≤maxLen ∧
   cur'.toList.take (bs++s.data.toList).length=aCb (bs++s.data.toList)∧(w.heap.size≤g'∨∃ n c,v=.slice (some ⟨g',0,none⟩) n c)∧w.heap.size≤w'.heap.size∧w'.os=w.os∧w'.output=w.output ∧
   ∀ k,k<w.heap.size→(∀ n c,v≠.slice (some ⟨k,0,none⟩) n c)→w'.heap[k]? =w.heap[k]? :=by
 have hsl:s.data.toList.length=s.size:=Array.length_toList
 have hll:(bs++s.data.toList).length=bs.length+s.size:=by rw[List.length_append,hsl]
 have hbv:aCb bs++Lib.strCells s=aCb (bs++s.data.toList):=by simp[aCb,Lib.strCells]
 have h63:bs.length+s.size≤maxLen:=by unfold maxLen;omega
 have fin:∀ base v' w',(Builtin.append_ #[t,u] ty #[v,.string s]).run P w=.ok v' w'→w'.ownsRow base e 1 v' (bs.length+s.size) (aCb bs++Lib.strCells s)→∃ g' cur',base≤g'∧v'=.slice (some ⟨g',0,none⟩) (bs++s.data.toList).length cur'.size∧w'.heap[g']? =some (.cells cur' e (0,0))∧(bs++s.data.toList).length≤cur'.size∧cur'.size≤maxLen ∧
   cur'.toList.take (bs++s.data.toList).length=aCb (bs++s.data.toList):=by
  rintro base v' w' hr ⟨_,hown⟩
  rcases hown with⟨_,hz0⟩ | ⟨g',cap,cur',rfl,hb,hg,h1,h2,h3,h4⟩
  ·omega
  ·obtain rfl:cur'.size=cap:=by omega
   rw[hbv]at h4
   exact⟨g',cur',hb,by rw[hll],hg,by rw[hll];exact h1,h2,by rw[hll];simpa using h4⟩
 rcases hv with⟨rfl,rfl⟩ | ⟨g,cur,rfl,hg,h1,h2,h3⟩
 ·obtain⟨v',w',hr,hown,hgr,_⟩:=Lib.run_append_own_string (P:=P) w w.heap.size t u ty e i ht hu hi hz hsize hby (.slice none 0 0) 0 [] (World.ownsRow_nil _ _ _ _) s (by simpa using h63) (by simpa using hl) (Nat.le_refl _)
  obtain⟨g',cur',hb,rfl,q1,q2,q3,q4⟩:=fin w.heap.size v' w' hr (by simpa[aCb]using hown)
  exact⟨g',cur',w',hr,q1,q2,q3,q4,.inl hb,hgr.size,hgr.os,hgr.output,fun k hk _=>hgr.block k hk (by simp[Value.ownBlock])⟩
 ·have hown0:w.ownsRow 0 e 1 (.slice (some ⟨g,0,none⟩) bs.length cur.size) bs.length (aCb bs):=⟨by simp[aCb],.inr ⟨g,cur.size,cur,rfl,Nat.zero_le _,hg,h1,h2,by simp,by simpa using h3⟩⟩
  obtain⟨v',w',hr,hown,hgr,_⟩:=Lib.run_append_own_string (P:=P) w 0 t u ty e i ht hu hi hz hsize hby _ _ _ hown0 s h63 hl (Nat.zero_le _)
  obtain⟨g',cur',hb,rfl,q1,q2,q3,q4⟩:=fin 0 v' w' hr hown
  refine⟨g',cur',w',hr,q1,q2,q3,q4,?_,hgr.size,hgr.os,hgr.output,fun k hk hne=>hgr.block k hk (fun he=>?_)⟩
  ·by_cases hroom:bs.length+s.size≤cur.size
   ·have hr2:=Lib.run_append_room_string (P:=P) w t u ty e i ht hu hi hsize g bs.length cur.size cur hg s hroom hroom
    rw[hr]at hr2
    injection hr2 with hr2 _
    injection hr2 with hr2 _ _
    exact .inr ⟨bs.length,cur.size,by rw[hr2]⟩
   ·have hr2:=Lib.run_append_grow_string (P:=P) w t u ty e i (.int .u8 0) ht hu hi hz ⟨g,0,none⟩ bs.length cur.size (aCb bs) (by simp[aCb,hsize]) (hown0.cells (g:=g) rfl) s (by omega) (by omega) (by rw[hby];exact growslice_fits (by omega) (by omega))
    rw[hr]at hr2
    injection hr2 with hr2 _
    injection hr2 with hr2 _ _
    injection hr2 with hr2
    injection hr2 with hr2 _ _
    exact .inl (by omega)
  ·simp only[Value.ownBlock,Option.some.injEq]at he
   exact hne bs.length cur.size (by rw[he])
theorem aZv {P:Program} {w:World} {ops:Array Oper} {rest:List Oper} {o:Oper} {a:Act} {Q:Exit→Act→World→Prop} (hgd:o.guard=none) (sl x:Operand) (t u:TypeId)
  (ho:o.op=.call {callee:=.builtin .append,args:=#[sl,x],argTypes:=#[t,u]})
  (e:TypeId) (i:TypeInfo) (ht:P.underlying t=some (.slice e)) (hu:P.underlying u=some .string) (hi:P.info? e=some i) (hz:i.zero=some (.int .u8 0)) (hsize:i.size=1) (hby:i.bytes=1)
  (v:Value) (bs:List UInt8) (hs:a.eval sl=v) (hv:(v=.slice none 0 0∧bs=[])∨∃ g cur,v=.slice (some ⟨g,0,none⟩) bs.length cur.size∧w.heap[g]? =some (.cells cur e (0,0))∧bs.length≤cur.size∧cur.size≤maxLen∧cur.toList.take bs.length=aCb bs)
  (s:ByteArray) (hx:a.eval x=.string s) (hl:bs.length+s.size≤140737488355328) (h0:0<bs.length+s.size)
  (h:∀ g' cur' w',w'.heap[g']? =some (.cells cur' e (0,0))→(bs++s.data.toList).length≤cur'.size→cur'.size≤maxLen →
   cur'.toList.take (bs++s.data.toList).length=aCb (bs++s.data.toList)→(w.heap.size≤g'∨∃ n c,v=.slice (some ⟨g',0,none⟩) n c)→w.heap.size≤w'.heap.size→w'.os=w.os→w'.output=w.output →
   (∀ k,k<w.heap.size→(∀ n c,v≠.slice (some ⟨k,0,none⟩) n c)→w'.heap[k]? =w.heap[k]?)→wpList P ops Q rest (a.put o.dst (.slice (some ⟨g',0,none⟩) (bs++s.data.toList).length cur'.size)) w'):wpList P ops Q (o::rest) a w:=by
 refine wpList_plain hgd fun K hK=>?_
 obtain⟨g',cur',w',hr,q1,q2,q3,q4,q5,q6,q7,q8,q9⟩:=bMx (P:=P) (w:=w) t u o.type e i ht hu hi hz hsize hby v bs hv s hl h0
 unfold Oper.wp execOp
 simp only[ho,resolve,invoke,builtin,Sem.run_bind,Sem.run_pure,Result.andThen_ok,List.map_toArray,List.map_cons,List.map_nil,hs,hx,hr]
 exact hK _ _ (h g' cur' w' q1 q2 q3 q4 q5 q6 q7 q8 q9)
theorem bXo:∃ j,Tryz.prog.info? 119=some j∧j.size=2:=Option.map_eq_some_iff.1 (by kernel_rfl:(Tryz.prog.info? 119).map (·.size)=some 2)
theorem cDo:liesAt Tryz.prog Tryz.prog.depth 119 (2 / Tryz.prog.cellsOf 119) 0 119 1=true:=by kernel_rfl
theorem cAk:∃ i,Tryz.prog.info? 5=some i∧i.zero=some (.int .u8 0)∧i.size=1∧i.bytes=1:=by
 obtain⟨i,h1,h2⟩:=Option.map_eq_some_iff.1 (by kernel_rfl:(Tryz.prog.info? 5).map (fun i=>(i.zero,i.size,i.bytes))=some (some (.int .u8 0),1,1))
 simp only[Prod.mk.injEq]at h2
 exact⟨i,h1,h2⟩
set_option maxHeartbeats 1000000 in
set_option maxRecDepth 100000 in
theorem bTe (b:Nat) (w:World) (h0:w.cell? ⟨b,0,none⟩=some (.pointer (some ⟨b,0,none⟩))) :
  Calls Tryz.prog 128 #[.pointer (some ⟨b,0,none⟩)] w fun e w'=>e=.returned (.tuple #[])∧w'=w:=by
 obtain⟨j,hj,_⟩:=bXo
 go_enter Tryz.func128,Tryz.ntmps128
 go_wp2
 rw[Lib.run_neq_ptr_same w _ Tryz.underlying117 hj]
 go_wp2
 go_end0
 exact⟨rfl,rfl⟩
set_option maxHeartbeats 1000000 in
set_option maxRecDepth 100000 in
theorem bOk (b:Nat) (w:World) (h0:w.cell? ⟨b,0,none⟩=some (.pointer none)) (hsh:w.shape? b=some (119,2)) (hfz:w.frozen? ⟨b,0,none⟩=false) :
  Calls Tryz.prog 128 #[.pointer (some ⟨b,0,none⟩)] w fun e w'=>e=.returned (.tuple #[])∧w'=w.setCell ⟨b,0,none⟩ (.pointer (some ⟨b,0,none⟩)):=by
 obtain⟨j,hj,hjs⟩:=bXo
 go_enter Tryz.func128,Tryz.ntmps128
 go_wp2
 rw[Lib.run_to_unsafe w ⟨b,0,none⟩ Tryz.underlying117 Tryz.underlying150 hj (by rw[hjs];decide) hsh (Nat.zero_lt_succ 1)]
 simp only[Result.andThen]
 rw[Oper.upon_value]
 go_wp2
 rw[run_callFunc_extern Tryz.func152 (by kernel_rfl) (by kernel_rfl) (by kernel_rfl) (e:=Extern.AbiNoEscape.same) (by kernel_rfl)]
 rw[Lib.run_noEscape]
 simp only[Result.andThen]
 rw[Oper.upon_value]
 go_wp2
 rw[Lib.run_from_unsafe w ⟨b,0,none⟩ Tryz.underlying150 Tryz.underlying117 hj hsh cDo]
 simp only[Result.andThen]
 rw[Oper.upon_value]
 go_wp2
 go_end0
 exact⟨rfl,rfl⟩
theorem bXm (b:Nat) (p u:Value) (w:World) (hb:w.heap[b]? =some (.cells #[p,u] 119 (0,0))) (hp:p=.pointer none∨p=.pointer (some ⟨b,0,none⟩)) :
  Calls Tryz.prog 128 #[.pointer (some ⟨b,0,none⟩)] w fun e w'=>e=.returned (.tuple #[])∧w'.heap[b]? =some (.cells #[.pointer (some ⟨b,0,none⟩),u] 119 (0,0))∧w'.heap.size=w.heap.size∧w'.os=w.os∧w'.output=w.output ∧
   ∀ k,k≠b→w'.heap[k]? =w.heap[k]? :=by
 have c0:w.cell? ⟨b,0,none⟩=some p:=by rw[Lib.cell_of_heap hb];rfl
 rcases hp with rfl | rfl
 ·refine (bOk b w c0 (by simp[World.shape?,hb]) (Lib.frozen_of_heap hb 0)).mono ?_
  rintro e w' ⟨rfl,rfl⟩
  refine⟨rfl,?_,by simp[World.setCell],rfl,rfl,fun k hk=>RowKit.Below.heap_setCell _ _ _ _ (fun e=>hk (by simp[e]))⟩
  simp[World.setCell,Array.getElem?_modify,hb]
 ·refine (bTe b w c0).mono ?_
  rintro e w' ⟨rfl,rfl⟩
  exact⟨rfl,hb,rfl,rfl,rfl,fun _ _=>rfl⟩
set_option maxHeartbeats 1000000 in
set_option maxRecDepth 100000 in
theorem cDm (b:Nat) (p:Value) (a:Option Addr) (n m:Nat) (w:World) (hb:w.heap[b]? =some (.cells #[p,.slice a n m] 119 (0,0))) :
  Calls Tryz.prog 101 #[.pointer (some ⟨b,0,none⟩)] w fun e w'=>e=.returned (.int .i64 n)∧w'=w:=by
 have c1:w.cell? ⟨b,1,none⟩=some (.slice a n m):=by rw[Lib.cell_of_heap hb];rfl
 go_enter Tryz.func101,Tryz.ntmps101
 go_wp2
 go_ret
 exact⟨rfl,rfl⟩
theorem bO8 (w:World) (g n:Nat) (cur:Array Value) (t:TypeId) (h:w.heap[g]? =some (.cells cur t (0,0))):(w.freeze ⟨g,0,none⟩ n).heap.size=w.heap.size∧(w.freeze ⟨g,0,none⟩ n).os=w.os∧(w.freeze ⟨g,0,none⟩ n).output=w.output ∧
  (∃ fr,(w.freeze ⟨g,0,none⟩ n).heap[g]? =some (.cells cur t fr))∧∀ k,k≠g→(w.freeze ⟨g,0,none⟩ n).heap[k]? =w.heap[k]? :=by
 unfold World.freeze
 split
 ·exact⟨rfl,rfl,rfl,⟨_,h⟩,fun _ _=>rfl⟩
 ·refine⟨by simp,rfl,rfl,?_,fun k hk=>?_⟩
  ·simp only[Array.getElem?_modify,if_true,h,Option.map_some]
   exact⟨_,rfl⟩
  ·simp only[Array.getElem?_modify]
   rw[if_neg (fun e=>hk e.symm)]
set_option maxHeartbeats 2000000 in
set_option maxRecDepth 100000 in
theorem cFr (b:Nat) (p u:Value) (bs:List UInt8) (s:ByteArray) (w:World) (hb:w.heap[b]? =some (.cells #[p,u] 119 (0,0))) (hp:p=.pointer none∨p=.pointer (some ⟨b,0,none⟩)) (hu:cDv cBj w b u bs)
  (hl:bs.length+s.size≤140737488355328) (h0:0<bs.length+s.size) :
  Calls Tryz.prog 99 #[.pointer (some ⟨b,0,none⟩),.string s] w fun e w'=>∃ y,e=.returned (.tuple #[.int .i64 s.size,y])∧w.heap.size≤w'.heap.size∧w'.os=w.os∧w'.output=w.output ∧
   ∃ g' cur',w'.heap[b]? =some (.cells #[.pointer (some ⟨b,0,none⟩),.slice (some ⟨g',0,none⟩) (bs++s.data.toList).length cur'.size] 119 (0,0))∧g'≠b∧w'.heap[g']? =some (.cells cur' 5 (0,0)) ∧
    (bs++s.data.toList).length≤cur'.size∧cur'.size≤maxLen∧cur'.toList.take (bs++s.data.toList).length=aCb (bs++s.data.toList)∧(w.heap.size≤g'∨∃ n c,u=.slice (some ⟨g',0,none⟩) n c) ∧
    ∀ k,k<w.heap.size→k≠b→(∀ n c,u≠.slice (some ⟨k,0,none⟩) n c)→w'.heap[k]? =w.heap[k]? :=by
 obtain⟨i0,hi,hz0,hz1,hz2⟩:=cAk
 have hlt:b<w.heap.size:=by
  rcases Nat.lt_or_ge b w.heap.size with h' | h'
  ·exact h'
  ·simp[Array.getElem?_eq_none h']at hb
 go_enter Tryz.func99,Tryz.ntmps99
 go_wp2_with (go_at_call 128;refine (bXm b p u _ hb hp).mono ?_)
 rintro e w1 ⟨rfl,hb1,hs1,ho1,hout1,hk1⟩
 have c0:w1.cell? ⟨b,0,none⟩=some (.pointer (some ⟨b,0,none⟩)):=by rw[Lib.cell_of_heap hb1];rfl
 have c1:w1.cell? ⟨b,1,none⟩=some u:=by rw[Lib.cell_of_heap hb1];rfl
 have hu1:(u=.slice none 0 0∧bs=[])∨∃ g cur,u=.slice (some ⟨g,0,none⟩) bs.length cur.size∧w1.heap[g]? =some (.cells cur 5 (0,0))∧bs.length≤cur.size∧cur.size≤maxLen∧cur.toList.take bs.length=aCb bs:=by
  rcases hu with h | ⟨g,cur,h1,h2,h3,h4,h5,h6⟩
  ·exact .inl h
  ·exact .inr ⟨g,cur,h1,by rw[hk1 g h2];exact h3,h4,h5,h6⟩
 have hub:∀ n c,u≠.slice (some ⟨b,0,none⟩) n c:=by
  intro n c he
  rcases hu with⟨h,_⟩ | ⟨g,cur,h1,h2,_⟩
  ·rw[h]at he;cases he
  ·rw[h1]at he
   injection he with he _ _
   injection he with he
   injection he with he _ _
   exact h2 he
 go_wp2_with (at_builtin;refine aZv rfl _ _ 22 9 rfl 5 i0 Tryz.underlying22 Tryz.underlying9 hi hz0 hz1 hz2 _ bs rfl hu1 s rfl hl h0 ?_)
 intro g' cur' w2 q1 q2 q3 q4 q5 q6 q7 q8 q9
 have hb2:w2.heap[b]? =some (.cells #[.pointer (some ⟨b,0,none⟩),u] 119 (0,0)):=by
  rw[q9 b (by omega) hub]
  exact hb1
 have d0:w2.cell? ⟨b,0,none⟩=some (.pointer (some ⟨b,0,none⟩)):=by rw[Lib.cell_of_heap hb2];rfl
 have d1:w2.cell? ⟨b,1,none⟩=some u:=by rw[Lib.cell_of_heap hb2];rfl
 have f1:w2.frozen? ⟨b,1,none⟩=false:=Lib.frozen_of_heap hb2 1
 have hgb:g'≠b:=fun e=>by
  subst e
  rw[hb2]at q1
  simp only[Option.some.injEq,Obj.cells.injEq]at q1
  exact absurd q1.2.1 (by decide)
 have hbl:(bs++s.data.toList).length=bs.length+s.size:=by rw[List.length_append];rfl
 go_wp2
 go_ret2
 refine⟨_,rfl,by simp[World.setCell];omega,q7,q8,g',cur',?_,hgb,?_,by rw[hbl];exact q2,q3,by rw[hbl];exact q4,?_,?_⟩
 ·simp[World.setCell,Array.getElem?_modify,hb2]
 ·rw[RowKit.Below.heap_setCell _ _ _ _ hgb]
  exact q1
 ·exact q5
 ·intro k hk hkb hku
  rw[RowKit.Below.heap_setCell _ _ _ _ hkb,q9 k (by omega) hku,hk1 k hkb]
set_option maxHeartbeats 1000000 in
set_option maxRecDepth 100000 in
theorem cDl (b:Nat) (p:Value) (g:Nat) (cur:Array Value) (bs:List UInt8) (w:World) (hb:w.heap[b]? =some (.cells #[p,.slice (some ⟨g,0,none⟩) bs.length cur.size] 119 (0,0))) (hgb:g≠b) (hg:w.heap[g]? =some (.cells cur 5 (0,0)))
  (h1:bs.length≤cur.size) (h2:cur.size≤maxLen) (h3:cur.toList.take bs.length=aCb bs) (h0:0<bs.length) :
  Calls Tryz.prog 103 #[.pointer (some ⟨b,0,none⟩)] w fun e w'=>e=.returned (.string ⟨bs.toArray⟩)∧w'.heap.size=w.heap.size∧w'.os=w.os∧w'.output=w.output∧(∃ fr,w'.heap[g]? =some (.cells cur 5 fr))∧∀ k,k≠g→w'.heap[k]? =w.heap[k]? :=by
 have hbn:bs≠[]:=fun h=>by rw[h]at h0;simp at h0
 have hown:w.drew.ownsRow 0 5 1 (.slice (some ⟨g,0,none⟩) bs.length cur.size) bs.length (aCb bs):=⟨by simp[aCb],.inr ⟨g,cur.size,cur,rfl,Nat.zero_le _,hg,h1,h2,by simp,by simpa using h3⟩⟩
 have c1:w.drew.cell? ⟨b,1,none⟩=some (.slice (some ⟨g,0,none⟩) bs.length cur.size):=by
  have:w.drew.heap[b]? =some (.cells #[p,.slice (some ⟨g,0,none⟩) bs.length cur.size] 119 (0,0)):=hb
  rw[Lib.cell_of_heap this];rfl
 have hSD:(Builtin.unsafeSliceData_ #[22] 136 #[.slice (some ⟨g,0,none⟩) bs.length cur.size]).run Tryz.prog w.drew=.ok (.pointer (some ⟨g,0,none⟩)) w.drew :=
  Lib.run_unsafeSliceData_row _ _ _ _ _ _ (by omega)
 have hUS:(Builtin.unsafeString_ #[136,3] 9 #[.pointer (some ⟨g,0,none⟩),.int .i64 bs.length]).run Tryz.prog w.drew=.ok (.string ⟨bs.toArray⟩) (w.drew.freeze ⟨g,0,none⟩ bs.length):=by
  refine Lib.run_unsafeString_row w.drew 136 3 9 5 Tryz.underlying136 (by kernel_rfl) g cur.size (by have hg':w.drew.heap[g]? =some (.cells cur 5 (0,0)):=hg;simp[World.shape?,hg']) bs hbn (by omega) (by unfold maxLen at h2;omega) ?_
  intro j x hx
  exact hown.cells (g:=g) rfl j (.int .u8 x.toNat) (by simp[aCb,hx])
 go_enter Tryz.func103,Tryz.ntmps103
 go_wp2
 go_region
 all_goals (go_wp2;go_ret;exact⟨rfl,bO8 w.drew g _ cur _ hg⟩)
theorem bXp:bYc Tryz.prog cBj:=⟨fun b p u bs s w h1 h2 h3 h4 h5=>cFr b p u bs s w h1 h2 h3 h4 h5,fun b p a n m w h=>cDm b p a n m w h,fun b p g cur bs w h1 h2 h3 h4 h5 h6 h7=>cDl b p g cur bs w h1 h2 h3 h4 h5 h6 h7⟩
noncomputable section
def aM4 (s:Int) (o:List (List C)) (n:Nat) (r:List (List C)) (j:Int):St:={slots:=[(0,aBf s),(1,.l (.sl o)),(5,.l (.ref 0 0 n)),(6,aBf j)],heap:=[(0,.arr 2 r)],next:=1,pins:=[]}
def aM7:Env:=mkE [(5,[0,1,5,6])] []
def aZ8:aCf:=fun cs=>match cs with
 |[.int .i64 a,.int .i64 b]=>some (inB a (-9223372036854775808) 9223372036854775807&&inB b (-9223372036854775808) 9223372036854775807,[.str (aB4 (aI2 a b))])
 |_=>none
def bQp:Env:=mkE [] [(130,(sg [pI] [rS]),aDp)]
def aIk (r:List (List C)) (t:List UInt8) (a b j:Int):St:={slots:=[(3,.l (.ptr 0 0)),(4,.l (.ptr 1 0)),(15,.l (.sl r)),(16,aBf r.length),(17,aBf j)],heap:=[(0,.bld 119 5 (some 2)),(1,.box [.i .i64 a,.i .i64 b]),(2,.own 5 t)],next:=3,pins:=[]}
def cB6 (p:Pl):Bool:=inB p.1 (-9223372036854775808) 9223372036854775807&&inB p.2 (-9223372036854775808) 9223372036854775807
def aJ2:aCf:=fun cs=>match cs with
 |[.sl r]=>some (aAp [.int .i64,.int .i64] r&&(decide (r.length≤1048576)&&(pls r).all cB6),[.str (aB9 (pls r))])
 |_=>none
def aIm:Env:=mkB [(5,[3,4,15,16,17])] [(130,(sg [pI] [rS]),aDp),(153,(sg [pI,pI] [rS]),aZ8)]
def aOp (t:List UInt8) (a b c d j:Int):St:={slots:=[(9,aZu t),(17,.l (.ref 0 0 4)),(18,aBf ((4:Nat):Int)),(19,aBf j)],heap:=[(0,.arr 1 [[.int .i64 a],[.int .i64 b],[.int .i64 c],[.int .i64 d]])],next:=1,pins:=[]}
def aP3:Env:=mkE [(3,[9,17,18,19])] [(122,(sg [pI,pI] [rS]),aGr)]
def okI (x:Int):Bool:=inB x (-9223372036854775808) 9223372036854775807
def aYm:aCf:=fun cs=>match cs with
 |[.int .i64 v,.int .i64 s,.int .i64 b,.int .i64 l,.sl os,.int .i64 e]=>some (aAp [.int .i64] os&&(decide (os.length≤1048576)&&(inB e (-9223372036854775808) 9223372036854775807&&(aDo os).all okI)),[.str (aC7 v s b l (aDo os) e)])
 |_=>none
def bY8:Env:=mkE [] [(129,(sg [pS] [rI]),aEb),(95,(sg [aDr] [rB]),aEm),(118,(sg [pI,pI] [rS]),aF6),(133,(⟨[pI,bLo],[bYf],true⟩),aG4),(132,(⟨[bYg],[rS],true⟩),aJ2),(134,(sg [pI,pI,pI,pI] [rS]),aH5)]
def aO9:aCf:=fun cs=>match cs with
 |[.str r]=>some (decide (r.length≤281474976710656),[.bool (decide (60<r.length))])
 |_=>none
def aMd (r:List UInt8):Bool:=decide (60<r.length)
def bC2 (rs:List (List UInt8)):Int:=aDb aMd rs 0
def aNo (rs:List (List UInt8)):Bool:=decide (0≤bC2 rs)
def aRj (rows:List (List C)):Bool:=aAp [.str] rows&&(decide (rows.length≤1048576)&&(aCp rows).all fun r=>decide (r.length≤1048576))
def aTm:aCf:=fun cs=>match cs with
 |[.sl r,.fn f []]=>some (decide (f=98)&&aRj r,[.int .i64 (bC2 (aCp r))])
 |_=>none
def aQk:aCf:=fun cs=>match cs with
 |[.sl r,.fn f []]=>some (decide (f=98)&&aRj r,[.bool (aNo (aCp r))])
 |_=>none
def aWm:aCf:=fun cs=>match cs with
 |[.int .i64 v,.int .i64 s,.int .i64 b,.int .i64 l,.sl r]=>some (aRj r,[.str (aCk v s b l (aCp r))])
 |_=>none
def aSi (r:List (List C)) (n i:Int):St:=st0 [(0,.l (.sl r)),(1,.l (.fn 98 [])),(7,aBf n),(8,aBf i)]
def bGl (v s b l:Int) (r:List (List C)) (t:List UInt8) (q:Nat) (o:List (List C)) (j:Int):St:={slots:=[(2,.l (.ptr 0 0)),(5,.l (.ptr 1 0)),(6,.l (.ref 2 0 q)),(35,.l (.sl r)),(36,aBf r.length),(37,aBf j)],heap:=[(0,.box [.i .i64 v,.i .i64 s,.i .i64 b,.i .i64 l]),(1,.bld 119 5 (some 3)),(2,.arr 1 o),(3,.own 5 t)],next:=4,pins:=[]}
def bQj:Env:=mkE [] []
def aSt:Env:=mkE [(2,[0,1,7,8])] [(98,(sg [pS] [rB]),aO9)]
def bCx:Env:=mkE [] [(127,(sg [aUg,pF] [rI]),aTm)]
def bGs:Env:=mkB [(7,[2,5,6,35,36,37])] [(96,(sg [pI] [rB]),aDk),(95,(sg [aDr] [rB]),aEm),(100,(sg [aDr] [rS]),aDm),(102,(sg [pI,pI,pS] [rS]),aGq),(104,(⟨[aDr,bLo,pI],[rS],true⟩),aYm),(98,(sg [pS] [rB]),aO9),(97,(sg [aUg,pF] [rB]),aQk)]
end
theorem bB3 (H:List Pt→Nat→St→T (List C)) (s:Int) (o:List (List C)):(aAk aM7 aAc {params:=[pI,bLo],results:=[bYf],nested:=true} Tryz.f133 H [C.int .i64 s,C.sl o]).eval=((.ask (decide (s<(1:Int))) (.ret [C.sl []]) (H [Pt.r,Pt.r,Pt.r,Pt.l,Pt.r,Pt.b] 9223372036854775808 (aM4 (s) (o) (0) ([]) ((0:Int))))):T (List C)).eval:=aAj (by kernel_rfl)
theorem aMe (H:List Pt→Nat→St→T (List C)) (s:Int) (o:List (List C)) (n:Nat) (r:List (List C)) (j:Int) (k:Nat):(aBl aM7 aAc {params:=[pI,bLo],results:=[bYf],nested:=true} Tryz.f133 H [Pt.r,Pt.r,Pt.r,Pt.l,Pt.r,Pt.b] k (aM4 s o n r j)).eval=((.ask (decide (j<(↑o.length:Int))) (.must (decide ((0:Int)≤j)&&decide (j<(↑o.length:Int))&&decide ((o.getD j.toNat []).length=1)) (.must (decide (0<(o.getD j.toNat []).length)&&C.is (K.int .i64) ((o.getD j.toNat []).getD 0 (C.fn 0 []))&&true) (.must (decide (n=r.length)&&aBj (r.length+1) 16&&(decide ((Nat.add 1 0).succ=2)&&true)) (.ask (decide (IntKind.i64.wrap ((↑o.length:Int)-j)<s)) (.must (decide (r.length+1=(r.append [[C.int .i64 j,C.int .i64 ((o.getD j.toNat []).getD 0 (C.fn 0 [])).toInt]]).length)&&(true||(r.append [[C.int .i64 j,C.int .i64 ((o.getD j.toNat []).getD 0 (C.fn 0 [])).toInt]]).all fun r=>r.all C.flat)&&true&&true&&true) (.ret [C.sl (r.append [[C.int .i64 j,C.int .i64 ((o.getD j.toNat []).getD 0 (C.fn 0 [])).toInt]])])) (H [Pt.r,Pt.r,Pt.r,Pt.l,Pt.r,Pt.b] k (aM4 (s) (o) (r.length+1) (r.append [[C.int .i64 j,C.int .i64 ((o.getD j.toNat []).getD 0 (C.fn 0 [])).toInt]]) (IntKind.i64.wrap (j+s)))))))) (.must (decide (n=r.length)&&(true||r.all fun r=>r.all C.flat)&&true&&true&&true) (.ret [C.sl r]))):T (List C)).eval:=aAj (by kernel_rfl)
theorem bO3 (H:List Pt→Nat→St→T (List C)) (a:Int) (b:Int):(aAk bQp aAc (sg [pI,pI] [rS]) Tryz.f153 H [C.int .i64 a,C.int .i64 b]).eval=((.ask (decide (a<b)) (.ret [C.str []]) (.ask (decide ((1000000000:Int)<IntKind.u64.wrap (IntKind.u64.wrap a-IntKind.u64.wrap b))) (.ret [C.str []]) (.ret [C.str (aB4 (IntKind.i64.wrap (a-b)))]))):T (List C)).eval:=aAj (by kernel_rfl)
theorem aVh (H:List Pt→Nat→St→T (List C)) (r:List (List C)):(aAk aIm (cBa cBj) {params:=[bYg],results:=[rS],nested:=true} Tryz.f132 H [C.sl r]).eval=((.must (decide (0+(aB4 (↑r.length:Int)).length≤140737488355328)&&decide (0<0+(aB4 (↑r.length:Int)).length)) (H [Pt.r,Pt.r,Pt.r,Pt.r,Pt.l,Pt.r,Pt.b] 9223372036854775808 (aIk (r) ([]++aB4 (↑r.length:Int)) ((0:Int)) ((0:Int)) ((0:Int))))):T (List C)).eval:=aAj (by kernel_rfl)
theorem aJs (H:List Pt→Nat→St→T (List C)) (r:List (List C)) (t:List UInt8) (a:Int) (b:Int) (j:Int) (k:Nat):(aBl aIm (cBa cBj) {params:=[bYg],results:=[rS],nested:=true} Tryz.f132 H [Pt.r,Pt.r,Pt.r,Pt.r,Pt.l,Pt.r,Pt.b] k (aIk r t a b j)).eval=((.ask (decide (j<(↑r.length:Int))) (.must (decide ((0:Int)≤j)&&decide (j<(↑r.length:Int))&&decide ((r.getD j.toNat []).length=2)) (.must (decide (0<(r.getD j.toNat []).length)&&C.is (K.int .i64) ((r.getD j.toNat []).getD 0 (C.fn 0 []))&&(decide (0+1<(r.getD j.toNat []).length)&&C.is (K.int .i64) ((r.getD j.toNat []).getD (0+1) (C.fn 0 []))&&true)) (.must (inB ((r.getD j.toNat []).getD 0 (C.fn 0 [])).toInt (-9223372036854775808) 9223372036854775807&&inB a (-9223372036854775808) 9223372036854775807) (.must (inB ((r.getD j.toNat []).getD (0+1) (C.fn 0 [])).toInt (-9223372036854775808) 9223372036854775807&&inB b (-9223372036854775808) 9223372036854775807) (.ask (aB4 (aI2 ((r.getD j.toNat []).getD 0 (C.fn 0 [])).toInt a)==[]) (.ret [C.str []]) (.ask (aB4 (aI2 ((r.getD j.toNat []).getD (0+1) (C.fn 0 [])).toInt b)==[]) (.ret [C.str []]) (.must (decide ((aB4 (aI2 ((r.getD j.toNat []).getD 0 (C.fn 0 [])).toInt a)).length+(aB4 (aI2 ((r.getD j.toNat []).getD (0+1) (C.fn 0 [])).toInt b)).length≤9223372036854775807)) (.must (decide (t.length+(aB4 (aI2 ((r.getD j.toNat []).getD 0 (C.fn 0 [])).toInt a)++aB4 (aI2 ((r.getD j.toNat []).getD (0+1) (C.fn 0 [])).toInt b)).length≤140737488355328)&&decide (0<t.length+(aB4 (aI2 ((r.getD j.toNat []).getD 0 (C.fn 0 [])).toInt a)++aB4 (aI2 ((r.getD j.toNat []).getD (0+1) (C.fn 0 [])).toInt b)).length)) (H [Pt.r,Pt.r,Pt.r,Pt.r,Pt.l,Pt.r,Pt.b] k (aIk (r) (t++(aB4 (aI2 ((r.getD j.toNat []).getD 0 (C.fn 0 [])).toInt a)++aB4 (aI2 ((r.getD j.toNat []).getD (0+1) (C.fn 0 [])).toInt b))) (((r.getD j.toNat []).getD 0 (C.fn 0 [])).toInt) (((r.getD j.toNat []).getD (0+1) (C.fn 0 [])).toInt) (IntKind.i64.wrap (j+(1:Int))))))))))))) (.must (decide ¬5=0&&decide (0<t.length)) (.ret [C.str t]))):T (List C)).eval:=aAj (by kernel_rfl)
theorem bF6 (H:List Pt→Nat→St→T (List C)) (a:Int) (b:Int) (c:Int) (d:Int):(aAk aP3 aAc (sg [pI,pI,pI,pI] [rS]) Tryz.f134 H [C.int .i64 a,C.int .i64 b,C.int .i64 c,C.int .i64 d]).eval=((H [Pt.r,Pt.r,Pt.l,Pt.r,Pt.b] 9223372036854775808 (aOp ([]) (a) (b) (c) (d) ((0:Int)))):T (List C)).eval:=aAj (by kernel_rfl)
theorem aNb (H:List Pt→Nat→St→T (List C)) (t:List UInt8) (a:Int) (b:Int) (c:Int) (d:Int) (j:Int) (k:Nat):(aBl aP3 aAc (sg [pI,pI,pI,pI] [rS]) Tryz.f134 H [Pt.r,Pt.r,Pt.l,Pt.r,Pt.b] k (aOp t a b c d j)).eval=((.ask (decide (j<(↑(4:Nat):Int))) (.must (decide ((0:Int)≤j)&&decide (j<(↑(4:Nat):Int))) (.must (decide (0+j.toNat<(((Nat.add 1 0).succ.add 0).succ.add 0).succ)&&(decide (0<([[C.int .i64 a],[C.int .i64 b],[C.int .i64 c],[C.int .i64 d]].getD (0+j.toNat) []).length)&&C.is (K.int .i64) (([[C.int .i64 a],[C.int .i64 b],[C.int .i64 c],[C.int .i64 d]].getD (0+j.toNat) []).getD 0 (C.fn 0 []))&&true)) (.must (decide ((-9223372036854775808:Int)≤(([[C.int .i64 a],[C.int .i64 b],[C.int .i64 c],[C.int .i64 d]].getD (0+j.toNat) []).getD 0 (C.fn 0 [])).toInt)&&decide ((([[C.int .i64 a],[C.int .i64 b],[C.int .i64 c],[C.int .i64 d]].getD (0+j.toNat) []).getD 0 (C.fn 0 [])).toInt≤(9223372036854775807:Int))) (.ask (aAl (([[C.int .i64 a],[C.int .i64 b],[C.int .i64 c],[C.int .i64 d]].getD (0+j.toNat) []).getD 0 (C.fn 0 [])).toInt 4==[]) (.ret [C.str []]) (.must (decide (t.length+(aAl (([[C.int .i64 a],[C.int .i64 b],[C.int .i64 c],[C.int .i64 d]].getD (0+j.toNat) []).getD 0 (C.fn 0 [])).toInt 4).length≤9223372036854775807)) (H [Pt.r,Pt.r,Pt.l,Pt.r,Pt.b] k (aOp (t++aAl (([[C.int .i64 a],[C.int .i64 b],[C.int .i64 c],[C.int .i64 d]].getD (0+j.toNat) []).getD 0 (C.fn 0 [])).toInt 4) (a) (b) (c) (d) (IntKind.i64.wrap (j+(1:Int)))))))))) (.must (decide (t.length+4≤9223372036854775807)) (.ret [C.str (t++[(73:UInt8),68,88,33])]))):T (List C)).eval:=aAj (by kernel_rfl)
theorem bT2 (H:List Pt→Nat→St→T (List C)) (v:Int) (s:Int) (b:Int) (l:Int) (o:List (List C)) (e:Int):(aAk bY8 aAc {params:=[aDr,bLo,pI],results:=[rS],nested:=true} Tryz.f104 H [C.int .i64 v,C.int .i64 s,C.int .i64 b,C.int .i64 l,C.sl o,C.int .i64 e]).eval=((.ask (aD7 v s b l) (.must (aAp [K.int .i64] o&&decide (o.length≤1048576)) (.must ((true&&(List.map ePl (aAy s (aDo o))).all fun row=>decide (row.length=2))&&true&&true&&true) (.must (aAp [K.int .i64,K.int .i64] (List.take (List.map ePl (aAy s (aDo o))).length (List.map ePl (aAy s (aDo o))))&&(decide ((List.take (List.map ePl (aAy s (aDo o))).length (List.map ePl (aAy s (aDo o)))).length≤1048576)&&(pls (List.take (List.map ePl (aAy s (aDo o))).length (List.map ePl (aAy s (aDo o))))).all cB6)) (.must (inB e (-9223372036854775808) 9223372036854775807&&(inB (↑o.length:Int) (-9223372036854775808) 9223372036854775807&&(inB s (-9223372036854775808) 9223372036854775807&&inB 0 (-9223372036854775808) 9223372036854775807))) (.ask (aBa v (IntKind.i64.wrap (b+(↑o.length:Int)))==[]) (.ret [C.str []]) (.ask (aB9 (pls (List.take (List.map ePl (aAy s (aDo o))).length (List.map ePl (aAy s (aDo o)))))==[]) (.ret [C.str []]) (.ask (aBv e (↑o.length:Int) s 0==[]) (.ret [C.str []]) (.must (decide ((aBa v (IntKind.i64.wrap (b+(↑o.length:Int)))).length+(aB9 (pls (List.take (List.map ePl (aAy s (aDo o))).length (List.map ePl (aAy s (aDo o)))))).length≤9223372036854775807)) (.must (decide ((0:Int)≤(12:Int))&&decide ((12:Int)≤(↑(aBv e (↑o.length:Int) s 0).length:Int))) (.must (decide ((aBa v (IntKind.i64.wrap (b+(↑o.length:Int)))++aB9 (pls (List.take (List.map ePl (aAy s (aDo o))).length (List.map ePl (aAy s (aDo o)))))).length+(List.drop 0 (List.take (Int.toNat 12) (aBv e (↑o.length:Int) s 0))).length≤9223372036854775807)) (.must (decide ((aBa v (IntKind.i64.wrap (b+(↑o.length:Int)))++aB9 (pls (List.take (List.map ePl (aAy s (aDo o))).length (List.map ePl (aAy s (aDo o)))))++List.drop 0 (List.take (Int.toNat 12) (aBv e (↑o.length:Int) s 0))).length≤281474976710656)) (.must (decide ((aBa v (IntKind.i64.wrap (b+(↑o.length:Int)))).length+(aB9 (pls (List.take (List.map ePl (aAy s (aDo o))).length (List.map ePl (aAy s (aDo o)))))).length≤9223372036854775807)) (.must (inB e (-9223372036854775808) 9223372036854775807&&(inB (↑o.length:Int) (-9223372036854775808) 9223372036854775807&&(inB s (-9223372036854775808) 9223372036854775807&&inB (Int.ofNat (aB6 0 (aBa v (IntKind.i64.wrap (b+(↑o.length:Int)))++aB9 (pls (List.take (List.map ePl (aAy s (aDo o))).length (List.map ePl (aAy s (aDo o)))))++List.drop 0 (List.take (Int.toNat 12) (aBv e (↑o.length:Int) s 0))))) (-9223372036854775808:Int) (9223372036854775807:Int)))) (.must (decide ((aBa v (IntKind.i64.wrap (b+(↑o.length:Int)))++aB9 (pls (List.take (List.map ePl (aAy s (aDo o))).length (List.map ePl (aAy s (aDo o)))))).length+(aBv e (↑o.length:Int) s (Int.ofNat (aB6 0 (aBa v (IntKind.i64.wrap (b+(↑o.length:Int)))++aB9 (pls (List.take (List.map ePl (aAy s (aDo o))).length (List.map ePl (aAy s (aDo o)))))++List.drop 0 (List.take (Int.toNat 12) (aBv e (↑o.length:Int) s 0)))))).length≤9223372036854775807)) (.ret [C.str (aBa v (IntKind.i64.wrap (b+(↑o.length:Int)))++aB9 (pls (List.take (List.map ePl (aAy s (aDo o))).length (List.map ePl (aAy s (aDo o)))))++aBv e (↑o.length:Int) s (Int.ofNat (aB6 0 (aBa v (IntKind.i64.wrap (b+(↑o.length:Int)))++aB9 (pls (List.take (List.map ePl (aAy s (aDo o))).length (List.map ePl (aAy s (aDo o)))))++List.drop 0 (List.take (Int.toNat 12) (aBv e (↑o.length:Int) s 0))))))]))))))))))))))) (.ret [C.str []])):T (List C)).eval:=aAj (by kernel_rfl)
theorem bNa (H:List Pt→Nat→St→T (List C)) (r:List UInt8):(aAk bQj aAc (sg [pS] [rB]) Tryz.f98 H [C.str r]).eval=((.ask (decide ((60:Int)<(↑r.length:Int))) (.ret [C.bool true]) (.ret [C.bool false])):T (List C)).eval:=aAj (by kernel_rfl)
theorem bJl (H:List Pt→Nat→St→T (List C)) (r:List (List C)):(aAk aSt aAc (sg [aUg,pF] [rI]) Tryz.f127 H [C.sl r,C.fn 98 []]).eval=((H [Pt.r,Pt.l,Pt.r,Pt.b] 9223372036854775808 (aSi (r) ((↑r.length:Int)) ((0:Int)))):T (List C)).eval:=aAj (by kernel_rfl)
theorem bGh (H:List Pt→Nat→St→T (List C)) (r:List (List C)):(aAk bCx aAc (sg [aUg,pF] [rB]) Tryz.f97 H [C.sl r,C.fn 98 []]).eval=((.must (decide (98=98)&&aRj r) (.ask (decide ((0:Int)≤bC2 (aCp r))) (.ret [C.bool true]) (.ret [C.bool false]))):T (List C)).eval:=aAj (by kernel_rfl)
theorem bSx (H:List Pt→Nat→St→T (List C)) (v:Int) (s:Int) (b:Int) (l:Int) (r:List (List C)):(aAk bGs (cBa cBj) {params:=[aDr,aUg],results:=[rS],nested:=true} Tryz.f69 H [C.int .i64 v,C.int .i64 s,C.int .i64 b,C.int .i64 l,C.sl r]).eval=((.ask (aD7 v s b l) (.ask (decide ((1000:Int)<(↑r.length:Int))) (.ret [C.str []]) (.ask (inB (IntKind.i64.wrap (b+(↑r.length:Int))) (0:Int) (1000000000:Int)) (.must (decide (98=98)&&aRj r) (.ask (aNo (aCp r)) (.ret [C.str []]) (.must (decide (0+(aBe v s b l).length≤140737488355328)&&decide (0<0+(aBe v s b l).length)) (H [Pt.r,Pt.r,Pt.r,Pt.r,Pt.r,Pt.l,Pt.r,Pt.b] 9223372036854775808 (bGl (v) (s) (b) (l) (r) ([]++aBe v s b l) (0) ([]) ((0:Int))))))) (.ret [C.str []]))) (.ret [C.str []])):T (List C)).eval:=aAj (by kernel_rfl)
theorem bAv (H:List Pt→Nat→St→T (List C)) (r:List (List C)) (n:Int) (i:Int) (k:Nat):(aBl aSt aAc (sg [aUg,pF] [rI]) Tryz.f127 H [Pt.r,Pt.l,Pt.r,Pt.b] k (aSi r n i)).eval=((.ask (decide (i<n)) (.must (decide ((0:Int)≤i)&&decide (i<(↑r.length:Int))&&decide ((r.getD i.toNat []).length=1)) (.must (decide (0<(r.getD i.toNat []).length)&&C.is K.str ((r.getD i.toNat []).getD 0 (C.fn 0 []))&&true) (.must (decide (((r.getD i.toNat []).getD 0 (C.fn 0 [])).toStr.length≤281474976710656)) (.ask (decide (60<((r.getD i.toNat []).getD 0 (C.fn 0 [])).toStr.length)) (.ret [C.int .i64 i]) (H [Pt.r,Pt.l,Pt.r,Pt.b] k (aSi (r) (n) (IntKind.i64.wrap (i+(1:Int))))))))) (.ret [C.int .i64 (-1)])):T (List C)).eval:=aAj (by kernel_rfl)
theorem aUm (H:List Pt→Nat→St→T (List C)) (v:Int) (s:Int) (b:Int) (l:Int) (r:List (List C)) (t:List UInt8) (q:Nat) (o:List (List C)) (j:Int) (k:Nat):(aBl bGs (cBa cBj) {params:=[aDr,aUg],results:=[rS],nested:=true} Tryz.f69 H [Pt.r,Pt.r,Pt.r,Pt.r,Pt.r,Pt.l,Pt.r,Pt.b] k (bGl v s b l r t q o j)).eval=((.ask (decide (j<(↑r.length:Int))) (.must (decide ((0:Int)≤j)&&decide (j<(↑r.length:Int))&&decide ((r.getD j.toNat []).length=1)) (.must (decide (0<(r.getD j.toNat []).length)&&C.is K.str ((r.getD j.toNat []).getD 0 (C.fn 0 []))&&true) (.must (decide (q=o.length)&&aBj (o.length+1) 8&&(decide (1=1)&&true)) (.must (decide (((r.getD j.toNat []).getD 0 (C.fn 0 [])).toStr.length≤281474976710656)) (.must (decide (t.length+(aAf v (IntKind.i64.wrap (b+j)) ((r.getD j.toNat []).getD 0 (C.fn 0 [])).toStr).length≤140737488355328)&&decide (0<t.length+(aAf v (IntKind.i64.wrap (b+j)) ((r.getD j.toNat []).getD 0 (C.fn 0 [])).toStr).length)) (H [Pt.r,Pt.r,Pt.r,Pt.r,Pt.r,Pt.l,Pt.r,Pt.b] k (bGl (v) (s) (b) (l) (r) (t++aAf v (IntKind.i64.wrap (b+j)) ((r.getD j.toNat []).getD 0 (C.fn 0 [])).toStr) (o.length+1) (o.append [[C.int .i64 (↑t.length:Int)]]) (IntKind.i64.wrap (j+(1:Int)))))))))) (.must (decide ¬5=0&&decide (0<t.length)) (.must (aAp [K.int .i64] (List.take q o)&&(decide ((List.take q o).length≤1048576)&&(inB (↑t.length:Int) (-9223372036854775808) 9223372036854775807&&(aDo (List.take q o)).all okI))) (.must (decide (t.length+(aC7 v s b l (aDo (List.take q o)) (↑t.length:Int)).length≤9223372036854775807)) (.ret [C.str (t++aC7 v s b l (aDo (List.take q o)) (↑t.length:Int))]))))):T (List C)).eval:=aAj (by kernel_rfl)
end Go.Proofs.YtajoeindkdhofaaGreatDoor.V
