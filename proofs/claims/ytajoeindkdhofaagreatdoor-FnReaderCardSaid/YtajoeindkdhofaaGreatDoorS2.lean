/- Functions of the given program and of its reference: what each returns, as an equation over data; by the interpreter. -/
import Derived.Test.YtajoeindkdhofaaGreatDoorS
import Derived.Test.YtajoeindkdhofaaGreatDoorProg
import Derived.KernelRfl
import Derived.Lib.Builder
import Derived.Lib.AppendStr
import Derived.Lib.UnsafeStr
import Derived.Lib.Walk
import Derived.WalkKit
import Derived.RegionTactic
set_option linter.unusedVariables false
set_option linter.unusedSimpArgs false
set_option linter.unusedSectionVars false
set_option linter.deprecated false
namespace Go.Proofs.YtajoeindkdhofaaGreatDoor.V
theorem aLr {A:Type} (p:A→Bool):∀ (l:List A) (i:Nat),aDb p l i= -1∨((i:Int)≤aDb p l i∧aDb p l i<i+l.length)
 |[],i=>.inl rfl
 |x::r,i=>by
  simp only[aDb]
  split
  ·exact .inr ⟨Int.le_refl _,by simp;omega⟩
  ·rcases aLr p r (i+1)with h | h
   ·exact .inl h
   ·exact .inr ⟨by omega,by simp;omega⟩
theorem bN2 (es:List En) (nm:List UInt8):aCd es nm= -1∨(0≤aCd es nm∧aCd es nm<es.length):=by
 rcases aLr (bXb nm) es 0 with h | h
 ·exact .inl h
 ·refine .inr ?_
  unfold aCd
  omega
theorem bBw (ns:List Nd) (id:Int):aAz ns id= -1∨(0≤aAz ns id∧aAz ns id<ns.length):=by
 rcases aLr (cB9 id) ns 0 with h | h
 ·exact .inl h
 ·refine .inr ?_
  unfold aAz
  omega
theorem cFi:aAa Tryz.prog cBt:=aA8 (by simp[])
theorem bC8:aAx Tryz.prog 171 (sg [aKo,pP] [rB]) aVv:=aA6 cFi aAb Tryz.func171 (by kernel_rfl) fun cs outs hk h=>by
 unfold aVv at h
 split at h
 ·simp only[Option.some.injEq,Prod.mk.injEq,true_and]at h
  subst h
  rename_i n i nm
  rw[aAd,bXc]
  simp only[aA4,aA3,beq_iff_eq]
  split<;>simp_all
 ·cases h
theorem cF2:aAa Tryz.prog cBq:=aA8 (by simp[])
theorem bBz:aAx Tryz.prog 173 (sg [bZe,pP] [rB]) aVp:=aA6 cF2 aAb Tryz.func173 (by kernel_rfl) fun cs outs hk h=>by
 unfold aVp at h
 split at h
 ·simp only[Option.some.injEq,Prod.mk.injEq,true_and]at h
  subst h
  rw[aAd,bW0]
  simp only[aA4,aA3,decide_eq_true_eq]
  split<;>simp_all
 ·cases h
theorem bWd (l:List En) (nm:List UInt8) (hl:l.length≤281474976710656):∀ (n i:Nat),i≤l.length→l.length<i+n →
  (aBr bQl aAc (sg [pSl 100,pF] [rI]) Tryz.f170 [.r,.l,.r,.b] n (bQe (l.map eEn) nm l.length i)).eval=some [.int .i64 (aDb (bXb nm) (l.drop i) i)]:=by
 intro n
 induction n with
 |zero=>intro i h1 h2;omega
 |succ n ih =>
  intro i h1 h2
  rw[aAv _ _ _ _ _ _ _ (by kernel_rfl),bNi]
  by_cases hi:i<l.length
  ·have g:=aBc eEn l ⟨[],0⟩ i hi
   have w:IntKind.i64.wrap ((i:Int)+1)=((i+1:Nat):Int):=by rw[aAh]<;>omega
   have hz:(0:Int)≤i:=by omega
   have hi':(i:Int)<l.length:=by omega
   rw[aBx l i ⟨[],0⟩ hi]
   generalize l.getD i ⟨[],0⟩=y at g ⊢
   simp only[aA1,aA4,aA3,if_true,decide_eq_true_eq,Bool.and_eq_true,w,hz,hi',Int.toNat_natCast,List.length_map,g,and_self,List.getD_cons_zero,List.getD_cons_succ,C.toStr,C.toInt,C.is,List.length_cons,List.length_nil,Nat.zero_add,Nat.reduceAdd,Nat.reduceLT,decide_true,beq_self_eq_true,aDb,bXb]
   by_cases hy:y.name=nm
   ·simp only[hy,if_true]
   ·simp only[hy,if_false]
    exact ih (i+1) (by omega) (by omega)
  ·have e:i=l.length:=by omega
   subst e
   have hi':¬((l.length:Int)<(l.length:Int)):=by omega
   simp only[aA4,aA3,decide_eq_true_eq,hi',if_false,List.drop_length,aDb]
theorem cF8:aAa Tryz.prog bQl:=aA8 (by simp[bC8])
theorem bSq:aAx Tryz.prog 170 (sg [pSl 100,pF] [rI]) bF2:=aA6 cF8 aAb Tryz.func170 (by kernel_rfl) fun cs outs hk h=>by
 unfold bF2 at h
 split at h
 ·simp only[Option.some.injEq,Prod.mk.injEq,Bool.and_eq_true,decide_eq_true_eq]at h
  obtain⟨⟨rfl,h1,h2⟩,rfl⟩:=h
  rename_i rows nm
  have hr:=aLk h2
  generalize ens rows=l at hr ⊢
  subst hr
  rw[List.length_map]at h1
  rw[aAd,bWc]
  have:=bWd l nm h1 9223372036854775808 0 (by omega) (by have:l.length≤281474976710656:=h1;omega)
  rw[show (l.length:Int)=((l.map eEn).length:Int) by rw[List.length_map]]at this
  exact this
 ·cases h
theorem bWa (l:List Nd) (id:Int) (hl:l.length≤281474976710656):∀ (n i:Nat),i≤l.length→l.length<i+n →
  (aBr bQk aAc (sg [pSl 94,pF] [rI]) Tryz.f172 [.r,.l,.r,.b] n (bQd (l.map eNd) id l.length i)).eval=some [.int .i64 (aDb (cB9 id) (l.drop i) i)]:=by
 intro n
 induction n with
 |zero=>intro i h1 h2;omega
 |succ n ih =>
  intro i h1 h2
  rw[aAv _ _ _ _ _ _ _ (by kernel_rfl),bNh]
  by_cases hi:i<l.length
  ·have g:=aBc eNd l ⟨0,[],0⟩ i hi
   have w:IntKind.i64.wrap ((i:Int)+1)=((i+1:Nat):Int):=by rw[aAh]<;>omega
   have hz:(0:Int)≤i:=by omega
   have hi':(i:Int)<l.length:=by omega
   rw[aBx l i ⟨0,[],0⟩ hi]
   generalize l.getD i ⟨0,[],0⟩=y at g ⊢
   simp only[aA1,aA4,aA3,if_true,decide_eq_true_eq,Bool.and_eq_true,w,hz,hi',Int.toNat_natCast,List.length_map,g,and_self,List.getD_cons_zero,List.getD_cons_succ,C.toStr,C.toInt,C.is,List.length_cons,List.length_nil,Nat.zero_add,Nat.reduceAdd,Nat.reduceLT,decide_true,beq_self_eq_true,aDb,cB9]
   by_cases hy:y.id=id
   ·simp only[hy,if_true]
   ·simp only[hy,if_false]
    exact ih (i+1) (by omega) (by omega)
  ·have e:i=l.length:=by omega
   subst e
   have hi':¬((l.length:Int)<(l.length:Int)):=by omega
   simp only[aA4,aA3,decide_eq_true_eq,hi',if_false,List.drop_length,aDb]
theorem cF7:aAa Tryz.prog bQk:=aA8 (by simp[bBz])
theorem bSp:aAx Tryz.prog 172 (sg [pSl 94,pF] [rI]) bF0:=aA6 cF7 aAb Tryz.func172 (by kernel_rfl) fun cs outs hk h=>by
 unfold bF0 at h
 split at h
 ·simp only[Option.some.injEq,Prod.mk.injEq,Bool.and_eq_true,decide_eq_true_eq]at h
  obtain⟨⟨rfl,h1,h2⟩,rfl⟩:=h
  rename_i rows id
  have hr:=aO0 h2
  generalize nds rows=l at hr ⊢
  subst hr
  rw[List.length_map]at h1
  rw[aAd,bW9]
  have:=bWa l id h1 9223372036854775808 0 (by omega) (by have:l.length≤281474976710656:=h1;omega)
  rw[show (l.length:Int)=((l.map eNd).length:Int) by rw[List.length_map]]at this
  exact this
 ·cases h
theorem bSe:aAa Tryz.prog bCu:=aA8 (by simp[bC8,bSq])
theorem bAr:aAx Tryz.prog 159 (sg [pSl 100,pS] [rI]) aXu:=aA6 bSe aAb Tryz.func159 (by kernel_rfl) fun cs outs hk h=>by
 unfold aXu at h
 split at h
 ·simp only[Option.some.injEq,Prod.mk.injEq,Bool.and_eq_true,decide_eq_true_eq]at h
  obtain⟨⟨h1,h2⟩,rfl⟩:=h
  rw[aAd,bEk]
  simp only[kEn]at h2
  simp only[aA1,aA3,h1,h2,decide_true,Bool.and_self,if_true]
 ·cases h
theorem bVt:aAa Tryz.prog bLa:=aA8 (by simp[bBz,bSp])
theorem bEp:aAx Tryz.prog 160 (sg [aB0,pI] [rI]) aFb:=aA6 bVt aAb Tryz.func160 (by kernel_rfl) fun cs outs hk h=>by
 unfold aFb at h
 split at h
 ·simp only[Option.some.injEq,Prod.mk.injEq,Bool.and_eq_true,decide_eq_true_eq]at h
  obtain⟨⟨h1,h2⟩,rfl⟩:=h
  rw[aAd,bJ5]
  simp only[kNd]at h2
  simp only[aA1,aA3,h1,h2,decide_true,Bool.and_self,if_true]
 ·cases h
theorem cFh (l:List En) (nm:List UInt8) (i:Nat) (hi:i<l.length):aDb (bXb nm) (l.drop i) i=if (l.getD i ⟨[],0⟩).name=nm then (i:Int)else aDb (bXb nm) (l.drop (i+1)) (i+1):=by
 rw[aBx l i ⟨[],0⟩ hi]
 simp only[aDb,bXb,decide_eq_true_eq]
theorem cH3 (l:List Nd) (id:Int) (i:Nat) (hi:i<l.length):aDb (cB9 id) (l.drop i) i=if (l.getD i ⟨0,[],0⟩).id=id then (i:Int)else aDb (cB9 id) (l.drop (i+1)) (i+1):=by
 rw[aBx l i ⟨0,[],0⟩ hi]
 simp only[aDb,cB9,decide_eq_true_eq]
theorem bOf (l:List En) (nm:List UInt8) (hl:l.length≤281474976710656):∀ (n i:Nat),i≤l.length→l.length<i+n→aCd l nm=aDb (bXb nm) (l.drop i) i →
  (aBr aWd aAc (sg [pSl 100,pS] [rI]) Tryz.f93 [.r,.l,.r,.b] n (aW6 (l.map eEn) nm i)).eval=some [.int .i64 (aBb l nm)]:=by
 intro n
 induction n with
 |zero=>intro i h1 h2;omega
 |succ n ih =>
  intro i h1 h2 h3
  rw[aAv _ _ _ _ _ _ _ (by kernel_rfl),bG8]
  by_cases hi:i<l.length
  ·have g:=aBc eEn l ⟨[],0⟩ i hi
   have w:IntKind.i64.wrap ((i:Int)+1)=((i+1:Nat):Int):=by rw[aAh]<;>omega
   have hz:(0:Int)≤i:=by omega
   have hi':(i:Int)<l.length:=by omega
   rw[cFh l nm i hi]at h3
   simp only[aA1,aA4,aA3,if_true,decide_eq_true_eq,Bool.and_eq_true,w,hz,hi',Int.toNat_natCast,List.length_map,g,and_self,List.getD_cons_zero,List.getD_cons_succ,C.toStr,C.toInt,C.is,List.length_cons,List.length_nil,Nat.zero_add,Nat.add_zero,Nat.reduceAdd,Nat.reduceLT,decide_true,beq_self_eq_true,beq_iff_eq]
   by_cases hy:(l.getD i ⟨[],0⟩).name=nm
   ·simp only[if_pos hy]at h3 ⊢
    have:¬((i:Int)<0):=by omega
    unfold aBb
    rw[h3,if_neg this,Int.toNat_natCast]
   ·simp only[if_neg hy]at h3 ⊢
    exact ih (i+1) (by omega) (by omega) h3
  ·have e:i=l.length:=by omega
   subst e
   have hi':¬((l.length:Int)<(l.length:Int)):=by omega
   rw[List.drop_length]at h3
   simp only[aA4,aA3,decide_eq_true_eq,hi',if_false,List.length_map]
   unfold aBb
   rw[h3]
   rfl
theorem cAe:aAa Tryz.prog aWd:=aA8 (by simp[])
theorem aHx:aAx Tryz.prog 93 (sg [pSl 100,pS] [rI]) aJb:=aA6 cAe aAb Tryz.func93 (by kernel_rfl) fun cs outs hk h=>by
 unfold aJb at h
 split at h
 ·simp only[Option.some.injEq,Prod.mk.injEq,Bool.and_eq_true,decide_eq_true_eq]at h
  obtain⟨⟨h1,h2⟩,rfl⟩:=h
  rename_i rows nm
  have hr:=aLk h2
  generalize ens rows=l at hr ⊢
  subst hr
  rw[List.length_map]at h1
  rw[aAd,bOe]
  exact bOf l nm h1 9223372036854775808 0 (by omega) (by have:l.length≤281474976710656:=h1;omega) rfl
 ·cases h
theorem bO6 (l:List En) (nm:List UInt8) (hl:l.length≤281474976710656):∀ (n i:Nat),i≤l.length→l.length<i+n→aCd l nm=aDb (bXb nm) (l.drop i) i →
  (aBr aWc aAc (sg [pSl 100,pS] [rB]) Tryz.f94 [.r,.l,.r,.b] n (aW5 (l.map eEn) nm i)).eval=some [.bool (aGz l nm)]:=by
 intro n
 induction n with
 |zero=>intro i h1 h2;omega
 |succ n ih =>
  intro i h1 h2 h3
  rw[aAv _ _ _ _ _ _ _ (by kernel_rfl),bFu]
  by_cases hi:i<l.length
  ·have g:=aBc eEn l ⟨[],0⟩ i hi
   have w:IntKind.i64.wrap ((i:Int)+1)=((i+1:Nat):Int):=by rw[aAh]<;>omega
   have hz:(0:Int)≤i:=by omega
   have hi':(i:Int)<l.length:=by omega
   rw[cFh l nm i hi]at h3
   simp only[aA1,aA4,aA3,if_true,decide_eq_true_eq,Bool.and_eq_true,w,hz,hi',Int.toNat_natCast,List.length_map,g,and_self,List.getD_cons_zero,List.getD_cons_succ,C.toStr,C.toInt,C.is,List.length_cons,List.length_nil,Nat.zero_add,Nat.add_zero,Nat.reduceAdd,Nat.reduceLT,decide_true,beq_self_eq_true,beq_iff_eq]
   by_cases hy:(l.getD i ⟨[],0⟩).name=nm
   ·simp only[if_pos hy]at h3 ⊢
    have:(0:Int)≤i:=by omega
    unfold aGz
    rw[h3,decide_eq_true this]
   ·simp only[if_neg hy]at h3 ⊢
    exact ih (i+1) (by omega) (by omega) h3
  ·have e:i=l.length:=by omega
   subst e
   have hi':¬((l.length:Int)<(l.length:Int)):=by omega
   rw[List.drop_length]at h3
   simp only[aA4,aA3,decide_eq_true_eq,hi',if_false,List.length_map]
   unfold aGz
   rw[h3]
   rfl
theorem cA7:aAa Tryz.prog aWc:=aA8 (by simp[])
theorem aF4:aAx Tryz.prog 94 (sg [pSl 100,pS] [rB]) aGo:=aA6 cA7 aAb Tryz.func94 (by kernel_rfl) fun cs outs hk h=>by
 unfold aGo at h
 split at h
 ·simp only[Option.some.injEq,Prod.mk.injEq,Bool.and_eq_true,decide_eq_true_eq]at h
  obtain⟨⟨h1,h2⟩,rfl⟩:=h
  rename_i rows nm
  have hr:=aLk h2
  generalize ens rows=l at hr ⊢
  subst hr
  rw[List.length_map]at h1
  rw[aAd,bO5]
  exact bO6 l nm h1 9223372036854775808 0 (by omega) (by have:l.length≤281474976710656:=h1;omega) rfl
 ·cases h
theorem bHq (l:List Nd) (es os ss:List (List C)) (r x id:Int) (hl:l.length≤281474976710656):∀ (n i:Nat),i≤l.length→l.length<i+n →
  (aBr aSo aAc (sg [aB0,pI] [rI]) Tryz.f92 [.r,.l,.r,.b] n (aSf (l.map eNd) es os ss r x id i)).eval=some [.int .i64 (aDb (cB9 id) (l.drop i) i)]:=by
 intro n
 induction n with
 |zero=>intro i h1 h2;omega
 |succ n ih =>
  intro i h1 h2
  rw[aAv _ _ _ _ _ _ _ (by kernel_rfl),bAb]
  by_cases hi:i<l.length
  ·have g:=aBc eNd l ⟨0,[],0⟩ i hi
   have w:IntKind.i64.wrap ((i:Int)+1)=((i+1:Nat):Int):=by rw[aAh]<;>omega
   have hz:(0:Int)≤i:=by omega
   have hi':(i:Int)<l.length:=by omega
   rw[cH3 l id i hi]
   simp only[aA1,aA4,aA3,if_true,decide_eq_true_eq,Bool.and_eq_true,w,hz,hi',Int.toNat_natCast,List.length_map,g,and_self,List.getD_cons_zero,List.getD_cons_succ,C.toStr,C.toInt,C.is,List.length_cons,List.length_nil,Nat.zero_add,Nat.add_zero,Nat.reduceAdd,Nat.reduceLT,decide_true,beq_self_eq_true]
   by_cases hy:(l.getD i ⟨0,[],0⟩).id=id
   ·simp only[if_pos hy]
   ·simp only[if_neg hy]
    exact ih (i+1) (by omega) (by omega)
  ·have e:i=l.length:=by omega
   subst e
   have hi':¬((l.length:Int)<(l.length:Int)):=by omega
   simp only[aA4,aA3,decide_eq_true_eq,hi',if_false,List.drop_length,aDb,List.length_map]
theorem bUe:aAa Tryz.prog aSo:=aA8 (by simp[])
theorem aIf:aAx Tryz.prog 92 (sg [aB0,pI] [rI]) aFb:=aA6 bUe aAb Tryz.func92 (by kernel_rfl) fun cs outs hk h=>by
 unfold aFb at h
 split at h
 ·simp only[Option.some.injEq,Prod.mk.injEq,Bool.and_eq_true,decide_eq_true_eq]at h
  obtain⟨⟨h1,h2⟩,rfl⟩:=h
  rename_i ns es os ss r x id
  have hr:=aO0 h2
  generalize nds ns=l at hr ⊢
  subst hr
  rw[List.length_map]at h1
  rw[aAd,bHp]
  exact bHq l es os ss r x id h1 9223372036854775808 0 (by omega) (by have:l.length≤281474976710656:=h1;omega)
 ·cases h
theorem bEs {ns es:List (List C)}:bGu ns es=true↔ns.length≤aMj∧es.length≤aMj∧aAp kNd ns=true∧aAp kEn es=true:=by simp[bGu,and_assoc]
theorem bZq (es:List En) (nm:List UInt8) (h:¬aCd es nm<0):(aCd es nm).toNat<es.length∧0≤aCd es nm∧aCd es nm<es.length:=by
 rcases bN2 es nm with h1 | h1<;>omega
theorem bN8 (ns:List Nd) (id:Int) (h:¬aAz ns id<0):(aAz ns id).toNat<ns.length∧0≤aAz ns id∧aAz ns id<ns.length:=by
 rcases bBw ns id with h1 | h1<;>omega
theorem bVu:aAa Tryz.prog bLb:=aA8 (by simp[bAr,bEp])
theorem bEq:aAx Tryz.prog 146 (sg [aB0,pS] [rI]) aTk:=aA6 bVu aAb Tryz.func146 (by kernel_rfl) fun cs outs hk h=>by
 unfold aTk at h
 split at h
 ·simp only[Option.some.injEq,Prod.mk.injEq,bEs]at h
  obtain⟨⟨h1,h2,h3,h4⟩,rfl⟩:=h
  rename_i ns es os ss r x nm
  have hr:=aLk h4
  rw[aAd,bJ6]
  simp only[kNd]at h3
  simp only[kEn]at h4
  simp only[aA1,aA4,aA3,h1,h2,h3,h4,decide_true,Bool.and_self,if_true]
  generalize ens es=l at hr ⊢
  subst hr
  unfold aEe
  simp only[decide_eq_true_eq,List.length_map]
  by_cases hp:aCd l nm<0
  ·simp only[hp,if_true]
  ·obtain⟨c1,c2,c3⟩:=bZq l nm hp
   have g:=aBc eEn l ⟨[],0⟩ (aCd l nm).toNat c1
   unfold aBb
   simp only[hp,if_false,c2,c3,g,List.getD_cons_zero,List.getD_cons_succ,C.toStr,C.toInt,C.is,List.length_cons,List.length_nil,Nat.zero_add,Nat.add_zero,Nat.reduceAdd,Nat.reduceLT,decide_true,beq_self_eq_true,Bool.and_self,if_true]
 ·cases h
theorem cB8 (l:List Nd) (i:Nat) (hi:i<l.length):(l.map eNd).getD i []=[.int .i64 (l.getD i ⟨0,[],0⟩).id,.str (l.getD i ⟨0,[],0⟩).text,.int .i64 (l.getD i ⟨0,[],0⟩).sure]:=aBc eNd l ⟨0,[],0⟩ i hi
theorem bK3 (es:List En) (nm:List UInt8):aGz es nm=true↔¬aCd es nm<0:=by simp[aGz]
theorem bUf:aAa Tryz.prog bL1:=aA8 (by simp[aHx,aF4,aIf])
theorem bDx:aAx Tryz.prog 68 (sg [aB0,pS] [bSa,rB]) aIo:=aA6 bUf aAb Tryz.func68 (by kernel_rfl) fun cs outs hk h=>by
 unfold aIo at h
 split at h
 ·simp only[Option.some.injEq,Prod.mk.injEq,bEs]at h
  obtain⟨⟨h1,h2,h3,h4⟩,rfl⟩:=h
  rename_i ns es os ss r x nm
  have hr:=aO0 h3
  rw[aAd,bHr]
  simp only[kNd]at h3
  simp only[kEn]at h4
  simp only[aA1,aA4,aA3,h1,h2,h3,h4,decide_true,Bool.and_self,if_true]
  generalize nds ns=l at hr ⊢
  subst hr
  generalize ens es=m
  unfold cGh aJp bVy bK2 cE4 aEe
  simp only[decide_eq_true_eq,List.length_map]
  by_cases hp:aCd m nm<0
  ·have he:aGz m nm=false:=by cases hh:aGz m nm with | false=>rfl | true=>exact absurd hp ((bK3 m nm).1 hh)
   have d1:(-1:Int)<0:=by decide
   have d2:¬(0:Int)≤ -1:=by decide
   simp only[he,hp,if_true,Bool.false_eq_true,if_false,ite_self,d1,d2,decide_false]
  ·have he:aGz m nm=true:=(bK3 m nm).2 hp
   by_cases hn:aAz l (aBb m nm)<0
   ·have:¬(0:Int)≤aAz l (aBb m nm):=by omega
    simp only[hp,hn,if_true,if_false,this,decide_false]
   ·obtain⟨c1,c2,c3⟩:=bN8 l (aBb m nm) hn
    have g:=cB8 l (aAz l (aBb m nm)).toNat c1
    simp only[he,hp,hn,if_false,c2,c3,g,List.getD_cons_zero,List.getD_cons_succ,C.toStr,C.toInt,C.is,List.length_cons,List.length_nil,Nat.zero_add,Nat.add_zero,Nat.reduceAdd,Nat.reduceLT,decide_true,beq_self_eq_true,Bool.and_self,if_true]
 ·cases h
theorem bWj:aAa Tryz.prog bLe:=aA8 (by simp[bEq])
theorem bFi:aAx Tryz.prog 114 (sg [aB0,pS] [bSa,rB]) aIo:=aA6 bWj aAb Tryz.func114 (by kernel_rfl) fun cs outs hk h=>by
 unfold aIo at h
 split at h
 ·simp only[Option.some.injEq,Prod.mk.injEq]at h
  obtain⟨h0,rfl⟩:=h
  obtain⟨h1,h2,h3,h4⟩:=bEs.1 h0
  rename_i ns es os ss r x nm
  have hr:=aO0 h3
  rw[aAd,bJs]
  simp only[aA1,h0,if_true]
  generalize nds ns=l at hr ⊢
  subst hr
  generalize ens es=m
  unfold cGh aJp bVy bK2 cE4
  simp only[aA1,aA4,aA3,decide_eq_true_eq,List.length_map]
  by_cases hn:aEe l m nm<0
  ·have:¬(0:Int)≤aEe l m nm:=by omega
   simp only[hn,if_true,this,decide_false]
  ·have hp:¬aCd m nm<0:=fun hp=>hn (by unfold aEe;rw[if_pos hp];decide)
   have e:aEe l m nm=aAz l (aBb m nm):=if_neg hp
   rw[e]at hn ⊢
   obtain⟨c1,c2,c3⟩:=bN8 l (aBb m nm) hn
   have g:=cB8 l (aAz l (aBb m nm)).toNat c1
   simp only[hn,if_false,c2,c3,g,List.getD_cons_zero,List.getD_cons_succ,C.toStr,C.toInt,C.is,List.length_cons,List.length_nil,Nat.zero_add,Nat.add_zero,Nat.reduceAdd,Nat.reduceLT,decide_true,beq_self_eq_true,Bool.and_self,if_true]
 ·cases h
theorem bMb:aAa Tryz.prog aZj:=aA8 (by simp[bDx])
theorem aX3:aAx Tryz.prog 52 (sg [aB0,pS] [rS,rB]) aG2:=aA6 bMb aAb Tryz.func52 (by kernel_rfl) fun cs outs hk h=>by
 unfold aG2 at h
 split at h
 ·simp only[Option.some.injEq,Prod.mk.injEq]at h
  obtain⟨h0,rfl⟩:=h
  rw[aAd,bA8]
  simp only[aA1,aA4,aA3,h0,if_true]
  split<;>simp_all
 ·cases h
theorem bNv:aAa Tryz.prog aZp:=aA8 (by simp[bFi])
theorem aYd:aAx Tryz.prog 79 (sg [aB0,pS] [rS,rB]) aG2:=aA6 bNv aAb Tryz.func79 (by kernel_rfl) fun cs outs hk h=>by
 unfold aG2 at h
 split at h
 ·simp only[Option.some.injEq,Prod.mk.injEq]at h
  obtain⟨h0,rfl⟩:=h
  rw[aAd,bB2]
  simp only[aA1,aA4,aA3,h0,if_true]
  split<;>simp_all
 ·cases h
theorem bUa:aAa Tryz.prog bKy:=aA8 (by simp[aGe,aX3])
theorem aLh:aAx Tryz.prog 35 (sg [aB0,pI] [rS]) aG1:=aA6 bUa aAb Tryz.func35 (by kernel_rfl) fun cs outs hk h=>by
 unfold aG1 at h
 split at h
 ·simp only[Option.some.injEq,Prod.mk.injEq]at h
  obtain⟨h0,rfl⟩:=h
  rw[aAd,bHe]
  simp only[aA1,aA4,aA3,h0,if_true,aBh,ite_self]
 ·cases h
theorem bWi:aAa Tryz.prog bLd:=aA8 (by simp[aRx,aYd])
theorem bF8:aAx Tryz.prog 60 (sg [aB0,pI] [rS]) aG1:=aA6 bWi aAb Tryz.func60 (by kernel_rfl) fun cs outs hk h=>by
 unfold aG1 at h
 split at h
 ·simp only[Option.some.injEq,Prod.mk.injEq]at h
  obtain⟨h0,rfl⟩:=h
  rw[aAd,bJp]
  simp only[aA1,aA4,aA3,h0,if_true,aBh,ite_self]
 ·cases h
noncomputable section
def aRs (l:Int) (r:List UInt8):Int:=(aB6 (aKp l) (aAl r.length 4++r):Nat)
def aKc (l:Int) (rs:List (List UInt8)):Int:=rs.foldl aRs l
def aNh (b:List UInt8) (base link:Int):Bool:=aA9 b&&decide (rhB b=base)&&decide (rhL b=link)
def aRt (b:List UInt8):Int:=aKc (ifI (aA9 b) (rhL b)) (aAn b)
def aWg (n:Nat) (rows:List (List C)):Bool:=(aCp rows).all fun x=>decide (x.length≤n)
def aF3:aCf:=fun cs=>match cs with
 |[.int .i64 l,.str r]=>some (decide (r.length≤1048576),[.int .i64 (aRs l r)])
 |_=>none
def aQ9:aCf:=fun cs=>match cs with
 |[.int .i64 l,.sl rows]=>some (decide (rows.length≤1048576)&&(aAp [.str] rows&&aWg 1048576 rows),[.int .i64 (aKc l (aCp rows))])
 |_=>none
def aIs:aCf:=fun cs=>match cs with
 |[.str b,.int .i64 base,.int .i64 link]=>some (decide (b.length≤1048576),[.bool (aNh b base link)])
 |_=>none
def aIg:aCf:=fun cs=>match cs with
 |[.str b]=>some (decide (b.length≤1048576),[.sl ((aAn b).map aAt)])
 |_=>none
def aLq:aCf:=fun cs=>match cs with
 |[.str b]=>some (decide (b.length≤1048576),[.int .i64 (aRt b)])
 |_=>none
def aOn (l:Int) (r:List (List C)) (n i:Int):St:=st0 [(0,aBf l),(7,.l (.sl r)),(8,aBf n),(9,aBf i)]
def aK0 (ok mk:Bool) (v s q l e:Int) (n:Nat) (r:List (List C)) (m:Nat) (o:List (List C)) (acc i:Int):St:={slots:=[(3,.l (.ptr 0 0)),(4,aBf acc),(5,aBf i)],heap:=[(0,.box [.b ok,.i .i64 v,.i .i64 s,.i .i64 q,.i .i64 l,.ref 1 0 n,.ref 2 0 m,.i .i64 e,.b mk]),(1,.arr 1 r),(2,.arr 1 o)],next:=3,pins:=[]}
def aZl:Env:=mkE [] [(87,(sg [pI,pS] [rI]),aEx),(88,(sg [pI,pI] [rS]),aGr)]
def aZr:Env:=mkE [] [(121,(sg [pI,pS] [rI]),aEx),(122,(sg [pI,pI] [rS]),aGr)]
def aP1:Env:=mkE [(2,[0,7,8,9])] [(84,(sg [pI,pS] [rI]),aF3)]
def bL6:Env:=mkE [] [(64,(sg [pS] [aN2,rB]),aE3)]
def bLj:Env:=mkE [] [(81,(sg [pS] [aN2,rB]),aE3)]
def aUt:Env:=mkE [] [(51,(sg [pS] [aN1]),aIe)]
def aK2:Env:=mkE [(4,[3,4,5])] [(51,(sg [pS] [aN1]),aIe),(65,(sg [pI,pS] [rI]),aF3)]
abbrev Lk:=Int×List UInt8
def aGv (ns:List Nd) (es:List En):Nat→Int→Int→List Lk
 |0,_,_=>[]
 |f+1,base,sum =>
  if aNh (aBh ns es base) base sum&&decide ((aAn (aBh ns es base)).length≠0)then
   (base,aBh ns es base)::aGv ns es f (base+(aAn (aBh ns es base)).length) (aKc sum (aAn (aBh ns es base)))
  else[]
def aAu (ns:List Nd) (es:List En):List Lk:=aGv ns es 16 0 0
abbrev eLk (x:Lk):List C:=[.int .i64 x.1,.str x.2,.bool (aA9 x.2),.int .i64 (ifI (aA9 x.2) (rhV x.2)),.int .i64 (ifI (aA9 x.2) (rhS x.2)),.int .i64 (ifI (aA9 x.2) (rhB x.2)),.int .i64 (ifI (aA9 x.2) (rhL x.2)),
 .sl ((aAn x.2).map aAt),.sl ((aFn x.2).map aIu),.int .i64 (bHc x.2),.bool (aKk x.2)]
def aGj (l:List Lk):List (List C):=l.map eLk
def aD2 (l:List Lk):List (List C):=l.map fun x=>aIu x.1
def aB5 (l:List Lk):List (List UInt8):=l.flatMap fun x=>aAn x.2
def aJc (ns es:List (List C)):Bool:=bGu ns es&&(nds ns).all fun x=>decide (x.text.length≤1048576)
def aRq:aCf:=fun cs=>match cs with
 |[.sl ns,.sl es,.sl _,.sl _,.int .i64 _,.int .i64 _]=>some (aJc ns es,[.sl (aGj (aAu (nds ns) (ens es)))])
 |_=>none
def aSb:aCf:=fun cs=>match cs with
 |[.sl ns,.sl es,.sl _,.sl _,.int .i64 _,.int .i64 _]=>some (aJc ns es,[.sl (aD2 (aAu (nds ns) (ens es)))])
 |_=>none
def aEz:aCf:=fun cs=>match cs with
 |[.sl ns,.sl es,.sl _,.sl _,.int .i64 _,.int .i64 _]=>some (aJc ns es,[.sl ((aB5 (aAu (nds ns) (ens es))).map aAt)])
 |_=>none
def aHc:aCf:=fun cs=>match cs with
 |[.sl ns,.sl es,.sl _,.sl _,.int .i64 _,.int .i64 _]=>some (aJc ns es,[.int .i64 (aB5 (aAu (nds ns) (ens es))).length])
 |_=>none
abbrev bOh (ns es os ss:List (List C)) (r x:Int):Blk:=.box [.sl ns,.sl es,.sl os,.sl ss,.i .i64 r,.i .i64 x]
def aW2 (ns es os ss:List (List C)) (r x:Int) (n:Nat) (o:List (List C)) (base sum:Int):St:={slots:=[(1,.l (.ptr 0 0)),(3,.l (.ref 1 0 n)),(4,aBf base),(5,aBf sum)],heap:=[(0,bOh ns es os ss r x),(1,.arr 11 o)],next:=2,pins:=[]}
def aW1 (ns es os ss:List (List C)) (r x:Int) (n:Nat) (o:List (List C)) (base sum:Int):St:={slots:=[(1,.l (.ptr 0 0)),(3,.l (.ref 1 0 n)),(4,aBf base),(5,aBf sum)],heap:=[(0,bOh ns es os ss r x),(1,.arr 1 o)],next:=2,pins:=[]}
def aW0 (ns es os ss:List (List C)) (r x:Int) (n:Nat) (o:List (List C)) (m:Nat) (bs:List (List C)) (i:Int):St:={slots:=[(1,.l (.ptr 0 0)),(3,.l (.ref 1 0 n)),(4,.l (.ref 2 0 m)),(5,aBf i)],heap:=[(0,bOh ns es os ss r x),(1,.arr 1 o),(2,.arr 1 bs)],next:=3,pins:=[]}
def aW4 (n:Nat) (o:List (List C)) (m:Nat) (ls:List (List C)) (k i:Int):St:={slots:=[(3,.l (.ref 0 0 n)),(8,.l (.ref 1 0 m)),(9,aBf k),(10,aBf i)],heap:=[(0,.arr 1 o),(1,.arr 11 ls)],next:=2,pins:=[]}
def aW9:Env:=mkE [(3,[1,3,4,5])] [(61,(sg [pS] [aN1]),aIe),(60,(sg [aB0,pI] [rS]),aG1),(63,(sg [pI,pSl 9] [rI]),aQ9),(62,(sg [pS,pI,pI] [rB]),aIs)]
def aW8:Env:=mkE [(4,[1,3,4,5])] [(35,(sg [aB0,pI] [rS]),aG1),(49,(sg [pS,pI,pI] [rB]),aIs),(34,(sg [pS] [rSl 9]),aIg),(50,(sg [pS] [rI]),aLq)]
def aW7:Env:=mkE [(4,[1,3,4,5])] [(35,(sg [aB0,pI] [rS]),aG1),(34,(sg [pS] [rSl 9]),aIg),(33,(sg [aB0] [rSl 3]),aSb)]
def aWb:Env:=mkE [(3,[3,8,9,10])] [(48,(⟨[aB0],[rSl 62],true⟩),aRq)]
def bL3:Env:=mkE [] [(10,(sg [aB0] [rSl 9]),aEz)]
def bLg:Env:=mkE [] [(30,(sg [aB0] [rSl 9]),aEz)]
end
set_option maxRecDepth 100000
theorem bAf (H:List Pt→Nat→St→T (List C)) (l:Int) (r:List UInt8):(aAk aZl aAc (sg [pI,pS] [rI]) Tryz.f65 H [C.int .i64 l,C.str r]).eval=((.must (decide ((-9223372036854775808:Int)≤(↑r.length:Int))&&decide ((↑r.length:Int)≤(9223372036854775807:Int))) (.must (decide ((aAl (↑r.length:Int) 4).length+r.length≤9223372036854775807)) (.must (decide ((aAl (↑r.length:Int) 4++r).length≤281474976710656)) (.ret [C.int .i64 (Int.ofNat (aB6 (aKp l) (aAl (↑r.length:Int) 4++r)))])))):T (List C)).eval:=aAj (by kernel_rfl)
theorem bB7 (H:List Pt→Nat→St→T (List C)) (l:Int) (r:List UInt8):(aAk aZr aAc (sg [pI,pS] [rI]) Tryz.f84 H [C.int .i64 l,C.str r]).eval=((.must (decide ((-9223372036854775808:Int)≤(↑r.length:Int))&&decide ((↑r.length:Int)≤(9223372036854775807:Int))) (.must (decide ((aAl (↑r.length:Int) 4).length+r.length≤9223372036854775807)) (.must (decide ((aAl (↑r.length:Int) 4++r).length≤281474976710656)) (.ret [C.int .i64 (Int.ofNat (aB6 (aKp l) (aAl (↑r.length:Int) 4++r)))])))):T (List C)).eval:=aAj (by kernel_rfl)
theorem bEv (H:List Pt→Nat→St→T (List C)) (l:Int) (r:List (List C)):(aAk aP1 aAc (sg [pI,pSl 9] [rI]) Tryz.f63 H [C.int .i64 l,C.sl r]).eval=((H [Pt.r,Pt.l,Pt.r,Pt.b] 9223372036854775808 (aOn (l) (r) ((↑r.length:Int)) ((0:Int)))):T (List C)).eval:=aAj (by kernel_rfl)
theorem bI1 (H:List Pt→Nat→St→T (List C)) (b:List UInt8) (x:Int) (l:Int):(aAk bL6 aAc (sg [pS,pI,pI] [rB]) Tryz.f49 H [C.str b,C.int .i64 x,C.int .i64 l]).eval=((.must (decide (b.length≤281474976710656)) (.ask (aA9 b) (.ask (decide (ifI (aA9 b) (rhB b)=x)) (.ask (decide (ifI (aA9 b) (rhL b)=l)) (.ret [C.bool true]) (.ret [C.bool false])) (.ret [C.bool false])) (.ret [C.bool false]))):T (List C)).eval:=aAj (by kernel_rfl)
theorem bJy (H:List Pt→Nat→St→T (List C)) (b:List UInt8) (x:Int) (l:Int):(aAk bLj aAc (sg [pS,pI,pI] [rB]) Tryz.f62 H [C.str b,C.int .i64 x,C.int .i64 l]).eval=((.must (decide (b.length≤281474976710656)) (.ask (aA9 b) (.ask (decide (ifI (aA9 b) (rhB b)=x)) (.ask (decide (ifI (aA9 b) (rhL b)=l)) (.ret [C.bool true]) (.ret [C.bool false])) (.ret [C.bool false])) (.ret [C.bool false]))):T (List C)).eval:=aAj (by kernel_rfl)
theorem aWz (H:List Pt→Nat→St→T (List C)) (b:List UInt8):(aAk aUt aAc (sg [pS] [rSl 9]) Tryz.f34 H [C.str b]).eval=((.must (decide (b.length≤1048576)) (.must (decide (0<1)&&true&&(decide (0<1)&&true&&(decide (0<1)&&true&&(decide (0<1)&&true&&(decide (0<1)&&true&&((true&&(List.map aAt (aAn b)).all fun row=>decide (row.length=1))&&((true&&(List.map aIu (aFn b)).all fun row=>decide (row.length=1))&&(decide (0<1)&&true&&(decide (0<1)&&true&&true))))))))&&true&&true) (.must (decide ((List.map aAt (aAn b)).length=(List.map aAt (aAn b)).length)&&(false||(List.map aAt (aAn b)).all fun r=>r.all C.flat)&&true&&true&&true) (.ret [C.sl (List.map aAt (aAn b))])))):T (List C)).eval:=aAj (by kernel_rfl)
theorem aX7 (H:List Pt→Nat→St→T (List C)) (b:List UInt8):(aAk aK2 aAc (sg [pS] [rI]) Tryz.f50 H [C.str b]).eval=((.must (decide (b.length≤1048576)) (.must (decide (0<1)&&true&&(decide (0<1)&&true&&(decide (0<1)&&true&&(decide (0<1)&&true&&(decide (0<1)&&true&&((true&&(List.map aAt (aAn b)).all fun row=>decide (row.length=1))&&((true&&(List.map aIu (aFn b)).all fun row=>decide (row.length=1))&&(decide (0<1)&&true&&(decide (0<1)&&true&&true))))))))&&true&&true) (H [Pt.r,Pt.r,Pt.r,Pt.l,Pt.r,Pt.b] 9223372036854775808 (aK0 (aA9 b) (aKk b) (ifI (aA9 b) (rhV b)) (ifI (aA9 b) (rhS b)) (ifI (aA9 b) (rhB b)) (ifI (aA9 b) (rhL b)) (bHc b) ((List.map aAt (aAn b)).length) (List.map aAt (aAn b)) ((List.map aIu (aFn b)).length) (List.map aIu (aFn b)) (ifI (aA9 b) (rhL b)) ((0:Int)))))):T (List C)).eval:=aAj (by kernel_rfl)
theorem aY2 (H:List Pt→Nat→St→T (List C)) (l:Int) (r:List (List C)) (n:Int) (i:Int) (k:Nat):(aBl aP1 aAc (sg [pI,pSl 9] [rI]) Tryz.f63 H [Pt.r,Pt.l,Pt.r,Pt.b] k (aOn l r n i)).eval=((.ask (decide (i<n)) (.must (decide ((0:Int)≤i)&&decide (i<(↑r.length:Int))&&decide ((r.getD i.toNat []).length=1)) (.must (decide (0<(r.getD i.toNat []).length)&&C.is K.str ((r.getD i.toNat []).getD 0 (C.fn 0 []))&&true) (.must (decide (((r.getD i.toNat []).getD 0 (C.fn 0 [])).toStr.length≤1048576)) (H [Pt.r,Pt.l,Pt.r,Pt.b] k (aOn (aRs l ((r.getD i.toNat []).getD 0 (C.fn 0 [])).toStr) (r) (n) (IntKind.i64.wrap (i+(1:Int)))))))) (.ret [C.int .i64 l])):T (List C)).eval:=aAj (by kernel_rfl)
theorem aTf (H:List Pt→Nat→St→T (List C)) (ok:Bool) (mk:Bool) (v:Int) (s:Int) (q:Int) (l:Int) (e:Int) (n:Nat) (r:List (List C)) (m2:Nat) (o:List (List C)) (acc:Int) (i:Int) (k:Nat):(aBl aK2 aAc (sg [pS] [rI]) Tryz.f50 H [Pt.r,Pt.r,Pt.r,Pt.l,Pt.r,Pt.b] k (aK0 ok mk v s q l e n r m2 o acc i)).eval=((.ask (decide (i<(↑n:Int))) (.must (decide ((0:Int)≤i)&&decide (i<(↑n:Int))) (.must (decide (0+i.toNat<r.length)&&(decide (0<(r.getD (0+i.toNat) []).length)&&C.is K.str ((r.getD (0+i.toNat) []).getD 0 (C.fn 0 []))&&true)) (.must (decide (((r.getD (0+i.toNat) []).getD 0 (C.fn 0 [])).toStr.length≤1048576)) (H [Pt.r,Pt.r,Pt.r,Pt.l,Pt.r,Pt.b] k (aK0 (ok) (mk) (v) (s) (q) (l) (e) (n) (r) (m2) (o) (aRs acc ((r.getD (0+i.toNat) []).getD 0 (C.fn 0 [])).toStr) (IntKind.i64.wrap (i+(1:Int)))))))) (.ret [C.int .i64 acc])):T (List C)).eval:=aAj (by kernel_rfl)
theorem bNb (H:List Pt→Nat→St→T (List C)) (ns:List (List C)) (es:List (List C)) (os:List (List C)) (ss:List (List C)) (r:Int) (x:Int):(aAk aW9 aAc {params:=[aB0],results:=[rSl 62],nested:=true} Tryz.f48 H [C.sl ns,C.sl es,C.sl os,C.sl ss,C.int .i64 r,C.int .i64 x]).eval=((H [Pt.r,Pt.r,Pt.r,Pt.l,Pt.b] 9223372036854775808 (aW2 (ns) (es) (os) (ss) (r) (x) (0) ([]) ((0:Int)) ((0:Int)))):T (List C)).eval:=aAj (by kernel_rfl)
theorem bMq (H:List Pt→Nat→St→T (List C)) (ns:List (List C)) (es:List (List C)) (os:List (List C)) (ss:List (List C)) (r:Int) (x:Int):(aAk aW8 aAc (sg [aB0] [rSl 3]) Tryz.f33 H [C.sl ns,C.sl es,C.sl os,C.sl ss,C.int .i64 r,C.int .i64 x]).eval=((H [Pt.r,Pt.r,Pt.r,Pt.r,Pt.l,Pt.b] 9223372036854775808 (aW1 (ns) (es) (os) (ss) (r) (x) (0) ([]) ((0:Int)) ((0:Int)))):T (List C)).eval:=aAj (by kernel_rfl)
theorem bM7 (H:List Pt→Nat→St→T (List C)) (ns:List (List C)) (es:List (List C)) (os:List (List C)) (ss:List (List C)) (r:Int) (x:Int):(aAk aW7 aAc (sg [aB0] [rSl 9]) Tryz.f10 H [C.sl ns,C.sl es,C.sl os,C.sl ss,C.int .i64 r,C.int .i64 x]).eval=((.must (aJc ns es) (.must ((true&&(aD2 (aAu (nds ns) (ens es))).all fun row=>decide (row.length=1))&&true&&true&&true) (H [Pt.r,Pt.r,Pt.r,Pt.l,Pt.r,Pt.b] 9223372036854775808 (aW0 (ns) (es) (os) (ss) (r) (x) (0) ([]) ((aD2 (aAu (nds ns) (ens es))).length) (aD2 (aAu (nds ns) (ens es))) ((0:Int)))))):T (List C)).eval:=aAj (by kernel_rfl)
theorem bNs (H:List Pt→Nat→St→T (List C)) (ns:List (List C)) (es:List (List C)) (os:List (List C)) (ss:List (List C)) (r:Int) (x:Int):(aAk aWb aAc (sg [aB0] [rSl 9]) Tryz.f30 H [C.sl ns,C.sl es,C.sl os,C.sl ss,C.int .i64 r,C.int .i64 x]).eval=((.must (aJc ns es) (.must ((true&&(aGj (aAu (nds ns) (ens es))).all fun row=>decide (row.length=11))&&true&&true&&true) (H [Pt.r,Pt.r,Pt.l,Pt.r,Pt.b] 9223372036854775808 (aW4 (0) ([]) ((aGj (aAu (nds ns) (ens es))).length) (aGj (aAu (nds ns) (ens es))) ((↑(aGj (aAu (nds ns) (ens es))).length:Int)) ((0:Int)))))):T (List C)).eval:=aAj (by kernel_rfl)
theorem aRr (H:List Pt→Nat→St→T (List C)) (ns:List (List C)) (es:List (List C)) (os:List (List C)) (ss:List (List C)) (r:Int) (x:Int) (n:Nat) (o:List (List C)) (base:Int) (sum:Int) (k:Nat):(aBl aW9 aAc {params:=[aB0],results:=[rSl 62],nested:=true} Tryz.f48 H [Pt.r,Pt.r,Pt.r,Pt.l,Pt.b] k (aW2 ns es os ss r x n o base sum)).eval=((.ask (decide ((↑n:Int)<(16:Int))) (.must (bGu ns es) (.must (decide ((aBh (nds ns) (ens es) base).length≤1048576)) (.must (decide (0<1)&&true&&(decide (0<1)&&true&&(decide (0<1)&&true&&(decide (0<1)&&true&&(decide (0<1)&&true&&((true&&(List.map aAt (aAn (aBh (nds ns) (ens es) base))).all fun row=>decide (row.length=1))&&((true&&(List.map aIu (aFn (aBh (nds ns) (ens es) base))).all fun row=>decide (row.length=1))&&(decide (0<1)&&true&&(decide (0<1)&&true&&true))))))))&&true&&true) (.must (decide ((aBh (nds ns) (ens es) base).length≤1048576)) (.ask (aNh (aBh (nds ns) (ens es) base) base sum) (.ask (decide ((↑(List.map aAt (aAn (aBh (nds ns) (ens es) base))).length:Int)=(0:Int))) (.must (decide (n=o.length)&&(true||o.all fun r=>r.all C.flat)&&true&&true&&true) (.ret [C.sl o])) (.must (decide (n=o.length)&&aBj (o.length+1) 128&&(decide (((((((((((Nat.add 1 0).succ.add 0).succ.add 0).succ.add 0).succ.add 0).succ.add 0).succ.add 0).succ.add 0).succ.add 0).succ.add 0).succ=11)&&true)) (.must (decide ((List.take (List.map aAt (aAn (aBh (nds ns) (ens es) base))).length (List.map aAt (aAn (aBh (nds ns) (ens es) base)))).length≤1048576)&&(aAp [K.str] (List.take (List.map aAt (aAn (aBh (nds ns) (ens es) base))).length (List.map aAt (aAn (aBh (nds ns) (ens es) base))))&&aWg 1048576 (List.take (List.map aAt (aAn (aBh (nds ns) (ens es) base))).length (List.map aAt (aAn (aBh (nds ns) (ens es) base)))))) (H [Pt.r,Pt.r,Pt.r,Pt.l,Pt.b] k (aW2 (ns) (es) (os) (ss) (r) (x) (o.length+1) (o.append [[C.int .i64 base,C.str (aBh (nds ns) (ens es) base),C.bool (aA9 (aBh (nds ns) (ens es) base)),C.int .i64 (ifI (aA9 (aBh (nds ns) (ens es) base)) (rhV (aBh (nds ns) (ens es) base))),C.int .i64 (ifI (aA9 (aBh (nds ns) (ens es) base)) (rhS (aBh (nds ns) (ens es) base))),C.int .i64 (ifI (aA9 (aBh (nds ns) (ens es) base)) (rhB (aBh (nds ns) (ens es) base))),C.int .i64 (ifI (aA9 (aBh (nds ns) (ens es) base)) (rhL (aBh (nds ns) (ens es) base))),C.sl (List.take (List.map aAt (aAn (aBh (nds ns) (ens es) base))).length (List.map aAt (aAn (aBh (nds ns) (ens es) base)))),C.sl (List.take (List.map aIu (aFn (aBh (nds ns) (ens es) base))).length (List.map aIu (aFn (aBh (nds ns) (ens es) base)))),C.int .i64 (bHc (aBh (nds ns) (ens es) base)),C.bool (aKk (aBh (nds ns) (ens es) base))]]) (IntKind.i64.wrap (base+(↑(List.map aAt (aAn (aBh (nds ns) (ens es) base))).length:Int))) (aKc sum (aCp (List.take (List.map aAt (aAn (aBh (nds ns) (ens es) base))).length (List.map aAt (aAn (aBh (nds ns) (ens es) base))))))))))) (.must (decide (n=o.length)&&(true||o.all fun r=>r.all C.flat)&&true&&true&&true) (.ret [C.sl o]))))))) (.must (decide (n=o.length)&&(true||o.all fun r=>r.all C.flat)&&true&&true&&true) (.ret [C.sl o]))):T (List C)).eval:=aAj (by kernel_rfl)
theorem aRa (H:List Pt→Nat→St→T (List C)) (ns:List (List C)) (es:List (List C)) (os:List (List C)) (ss:List (List C)) (r:Int) (x:Int) (n:Nat) (o:List (List C)) (base:Int) (sum:Int) (k:Nat):(aBl aW8 aAc (sg [aB0] [rSl 3]) Tryz.f33 H [Pt.r,Pt.r,Pt.r,Pt.r,Pt.l,Pt.b] k (aW1 ns es os ss r x n o base sum)).eval=((.ask (decide ((↑n:Int)<(16:Int))) (.must (bGu ns es) (.must (decide ((aBh (nds ns) (ens es) base).length≤1048576)) (.must ((true&&(List.map aAt (aAn (aBh (nds ns) (ens es) base))).all fun row=>decide (row.length=1))&&true&&true&&true) (.ask (decide ((↑(List.map aAt (aAn (aBh (nds ns) (ens es) base))).length:Int)=(0:Int))) (.must (decide (n=o.length)&&(false||o.all fun r=>r.all C.flat)&&true&&true&&true) (.ret [C.sl o])) (.must (decide ((aBh (nds ns) (ens es) base).length≤1048576)) (.ask (aNh (aBh (nds ns) (ens es) base) base sum) (.must (decide (n=o.length)&&aBj (o.length+1) 8&&(decide (1=1)&&true)) (.must (decide ((aBh (nds ns) (ens es) base).length≤1048576)) (H [Pt.r,Pt.r,Pt.r,Pt.r,Pt.l,Pt.b] k (aW1 (ns) (es) (os) (ss) (r) (x) (o.length+1) (o.append [[C.int .i64 base]]) (IntKind.i64.wrap (base+(↑(List.map aAt (aAn (aBh (nds ns) (ens es) base))).length:Int))) (aRt (aBh (nds ns) (ens es) base)))))) (.must (decide (n=o.length)&&(false||o.all fun r=>r.all C.flat)&&true&&true&&true) (.ret [C.sl o])))))))) (.must (decide (n=o.length)&&(false||o.all fun r=>r.all C.flat)&&true&&true&&true) (.ret [C.sl o]))):T (List C)).eval:=aAj (by kernel_rfl)
theorem bDn (H:List Pt→Nat→St→T (List C)) (ns:List (List C)) (es:List (List C)) (os:List (List C)) (ss:List (List C)) (r:Int) (x:Int) (n:Nat) (o:List (List C)) (m2:Nat) (bs:List (List C)) (i:Int) (k:Nat):(aBl aW7 aAc (sg [aB0] [rSl 9]) Tryz.f10 H [Pt.r,Pt.r,Pt.r,Pt.l,Pt.r,Pt.b] k (aW0 ns es os ss r x n o m2 bs i)).eval=((.ask (decide (i<(↑m2:Int))) (.must (decide ((0:Int)≤i)&&decide (i<(↑m2:Int))) (.must (decide (0+i.toNat<bs.length)&&(decide (0<(bs.getD (0+i.toNat) []).length)&&C.is (K.int .i64) ((bs.getD (0+i.toNat) []).getD 0 (C.fn 0 []))&&true)) (.must (bGu ns es) (.must (decide ((aBh (nds ns) (ens es) ((bs.getD (0+i.toNat) []).getD 0 (C.fn 0 [])).toInt).length≤1048576)) (.must ((true&&(List.map aAt (aAn (aBh (nds ns) (ens es) ((bs.getD (0+i.toNat) []).getD 0 (C.fn 0 [])).toInt))).all fun row=>decide (row.length=1))&&true&&true&&true) (.must (decide (n=o.length)&&aBj (o.length+(List.take (List.map aAt (aAn (aBh (nds ns) (ens es) ((bs.getD (0+i.toNat) []).getD 0 (C.fn 0 [])).toInt))).length (List.map aAt (aAn (aBh (nds ns) (ens es) ((bs.getD (0+i.toNat) []).getD 0 (C.fn 0 [])).toInt)))).length) 16&&(List.take (List.map aAt (aAn (aBh (nds ns) (ens es) ((bs.getD (0+i.toNat) []).getD 0 (C.fn 0 [])).toInt))).length (List.map aAt (aAn (aBh (nds ns) (ens es) ((bs.getD (0+i.toNat) []).getD 0 (C.fn 0 [])).toInt)))).all fun r=>decide (r.length=1)) (H [Pt.r,Pt.r,Pt.r,Pt.l,Pt.r,Pt.b] k (aW0 (ns) (es) (os) (ss) (r) (x) (o.length+(List.take (List.map aAt (aAn (aBh (nds ns) (ens es) ((bs.getD (0+i.toNat) []).getD 0 (C.fn 0 [])).toInt))).length (List.map aAt (aAn (aBh (nds ns) (ens es) ((bs.getD (0+i.toNat) []).getD 0 (C.fn 0 [])).toInt)))).length) (o.append (List.take (List.map aAt (aAn (aBh (nds ns) (ens es) ((bs.getD (0+i.toNat) []).getD 0 (C.fn 0 [])).toInt))).length (List.map aAt (aAn (aBh (nds ns) (ens es) ((bs.getD (0+i.toNat) []).getD 0 (C.fn 0 [])).toInt))))) (m2) (bs) (IntKind.i64.wrap (i+(1:Int))))))))))) (.must (decide (n=o.length)&&(false||o.all fun r=>r.all C.flat)&&true&&true&&true) (.ret [C.sl o]))):T (List C)).eval:=aAj (by kernel_rfl)
theorem bFb (H:List Pt→Nat→St→T (List C)) (n:Nat) (o:List (List C)) (m2:Nat) (ls:List (List C)) (k2:Int) (i:Int) (k:Nat):(aBl aWb aAc (sg [aB0] [rSl 9]) Tryz.f30 H [Pt.r,Pt.r,Pt.l,Pt.r,Pt.b] k (aW4 n o m2 ls k2 i)).eval=((.ask (decide (i<k2)) (.must (decide ((0:Int)≤i)&&decide (i<(↑m2:Int))) (.must (decide (0+i.toNat<ls.length)&&(decide (0<(ls.getD (0+i.toNat) []).length)&&C.is (K.int .i64) ((ls.getD (0+i.toNat) []).getD 0 (C.fn 0 []))&&(decide (0+1<(ls.getD (0+i.toNat) []).length)&&C.is K.str ((ls.getD (0+i.toNat) []).getD (0+1) (C.fn 0 []))&&(decide (0+1+1<(ls.getD (0+i.toNat) []).length)&&C.is K.bool ((ls.getD (0+i.toNat) []).getD (0+1+1) (C.fn 0 []))&&(decide (0+1+1+1<(ls.getD (0+i.toNat) []).length)&&C.is (K.int .i64) ((ls.getD (0+i.toNat) []).getD (0+1+1+1) (C.fn 0 []))&&(decide (0+1+1+1+1<(ls.getD (0+i.toNat) []).length)&&C.is (K.int .i64) ((ls.getD (0+i.toNat) []).getD (0+1+1+1+1) (C.fn 0 []))&&(decide (0+1+1+1+1+1<(ls.getD (0+i.toNat) []).length)&&C.is (K.int .i64) ((ls.getD (0+i.toNat) []).getD (0+1+1+1+1+1) (C.fn 0 []))&&(decide (0+1+1+1+1+1+1<(ls.getD (0+i.toNat) []).length)&&C.is (K.int .i64) ((ls.getD (0+i.toNat) []).getD (0+1+1+1+1+1+1) (C.fn 0 []))&&(decide (0+1+1+1+1+1+1+1<(ls.getD (0+i.toNat) []).length)&&C.is (K.slice 9) ((ls.getD (0+i.toNat) []).getD (0+1+1+1+1+1+1+1) (C.fn 0 []))&&(decide (0+1+1+1+1+1+1+1+1<(ls.getD (0+i.toNat) []).length)&&C.is (K.slice 3) ((ls.getD (0+i.toNat) []).getD (0+1+1+1+1+1+1+1+1) (C.fn 0 []))&&(decide (0+1+1+1+1+1+1+1+1+1<(ls.getD (0+i.toNat) []).length)&&C.is (K.int .i64) ((ls.getD (0+i.toNat) []).getD (0+1+1+1+1+1+1+1+1+1) (C.fn 0 []))&&(decide (0+1+1+1+1+1+1+1+1+1+1<(ls.getD (0+i.toNat) []).length)&&C.is K.bool ((ls.getD (0+i.toNat) []).getD (0+1+1+1+1+1+1+1+1+1+1) (C.fn 0 []))&&true)))))))))))) (.must (decide (n=o.length)&&aBj (o.length+((ls.getD (0+i.toNat) []).getD (0+1+1+1+1+1+1+1) (C.fn 0 [])).toRows.length) 16&&((ls.getD (0+i.toNat) []).getD (0+1+1+1+1+1+1+1) (C.fn 0 [])).toRows.all fun r=>decide (r.length=1)) (H [Pt.r,Pt.r,Pt.l,Pt.r,Pt.b] k (aW4 (o.length+((ls.getD (0+i.toNat) []).getD (0+1+1+1+1+1+1+1) (C.fn 0 [])).toRows.length) (o.append ((ls.getD (0+i.toNat) []).getD (0+1+1+1+1+1+1+1) (C.fn 0 [])).toRows) (m2) (ls) (k2) (IntKind.i64.wrap (i+(1:Int)))))))) (.must (decide (n=o.length)&&(false||o.all fun r=>r.all C.flat)&&true&&true&&true) (.ret [C.sl o]))):T (List C)).eval:=aAj (by kernel_rfl)
theorem bHv (H:List Pt→Nat→St→T (List C)) (ns:List (List C)) (es:List (List C)) (os:List (List C)) (ss:List (List C)) (r:Int) (x:Int):(aAk bL3 aAc (sg [aB0] [rI]) Tryz.f43 H [C.sl ns,C.sl es,C.sl os,C.sl ss,C.int .i64 r,C.int .i64 x]).eval=((.must (aJc ns es) (.must ((true&&(List.map aAt (aB5 (aAu (nds ns) (ens es)))).all fun row=>decide (row.length=1))&&true&&true&&true) (.ret [C.int .i64 (↑(List.map aAt (aB5 (aAu (nds ns) (ens es)))).length:Int)]))):T (List C)).eval:=aAj (by kernel_rfl)
theorem bJu (H:List Pt→Nat→St→T (List C)) (ns:List (List C)) (es:List (List C)) (os:List (List C)) (ss:List (List C)) (r:Int) (x:Int):(aAk bLg aAc (sg [aB0] [rI]) Tryz.f17 H [C.sl ns,C.sl es,C.sl os,C.sl ss,C.int .i64 r,C.int .i64 x]).eval=((.must (aJc ns es) (.must ((true&&(List.map aAt (aB5 (aAu (nds ns) (ens es)))).all fun row=>decide (row.length=1))&&true&&true&&true) (.ret [C.int .i64 (↑(List.map aAt (aB5 (aAu (nds ns) (ens es)))).length:Int)]))):T (List C)).eval:=aAj (by kernel_rfl)
theorem bHa (v p:Int) (b:List UInt8):∀ (f:Nat) (k e:Int) (rs:List (List UInt8)) (os:List Int),(rs.length:Int)≤e→e≤b.length→rs.length=os.length→(∀ r∈rs,r.length≤60) →
  ((aDc v p b f k e rs os).1.length:Int)≤b.length∧(aDc v p b f k e rs os).1.length=(aDc v p b f k e rs os).2.1.length∧∀ r∈(aDc v p b f k e rs os).1,r.length≤60:=by
 intro f
 induction f with
 |zero=>intro k e rs os h1 h2 h3 h4;exact⟨by simp only[aDc];omega,h3,h4⟩
 |succ f ih =>
  intro k e rs os h1 h2 h3 h4
  simp only[aDc]
  split
  ·exact⟨(show (rs.length:Int)≤b.length by omega),h3,h4⟩
  ·split
   ·rename_i hok
    obtain⟨g1,g2,g3⟩:=aO1 _ _ _ _ hok
    refine ih _ _ _ _ (by simp;omega) g2 (by simp[h3]) fun r hr=>?_
    rcases List.mem_append.1 hr with hr | hr
    ·exact h4 r hr
    ·obtain rfl:=List.mem_singleton.1 hr
     unfold aQ6
     rw[if_pos hok]
     unfold bEg at hok
     simp only[Bool.and_eq_true,decide_eq_true_eq]at hok
     unfold aJ1
     simp
     omega
   ·exact⟨(show (rs.length:Int)≤b.length by omega),h3,h4⟩
theorem aDx (b:List UInt8):(aAn b).length≤b.length∧(aAn b).length=(aFn b).length∧∀ r∈aAn b,r.length≤60:=by
 unfold aAn aFn aIw
 by_cases h:aA9 b=true
 ·rw[if_pos h]
  have h24:24≤b.length:=by
   unfold aA9 at h
   simp only[Bool.and_eq_true,decide_eq_true_eq]at h
   exact h.1.1
  obtain⟨a1,a2,a3⟩:=bHa (rhV b) (rhB b) b (b.length+1) 0 24 [] [] (by simp) (by omega) rfl (fun r hr=>by cases hr)
  exact⟨by omega,a2,a3⟩
 ·rw[if_neg h]
  exact⟨by simp,rfl,fun r hr=>by cases hr⟩
theorem aMi (l:List (List UInt8)):((l.map aAt).all fun row=>decide (row.length=1))=true:=by simp
theorem bIr (l:List Int):((l.map aIu).all fun row=>decide (row.length=1))=true:=by simp
theorem aWf (n:Nat) (l:List (List UInt8)):aWg n (l.map aAt)=true↔∀ x∈l,x.length≤n:=by simp[aWg]
theorem bMg:aAa Tryz.prog aZl:=aA8 (by simp[aPb,aFp])
theorem aMv:aAx Tryz.prog 65 (sg [pI,pS] [rI]) aF3:=aA6 bMg aAb Tryz.func65 (by kernel_rfl) fun cs outs hk h=>by
 unfold aF3 at h
 split at h
 ·simp only[Option.some.injEq,Prod.mk.injEq,decide_eq_true_eq]at h
  obtain⟨h1,rfl⟩:=h
  rename_i l r
  rw[aAd,bAf]
  have l1:=aBn (r.length:Int) 4
  have a1:(-9223372036854775808:Int)≤r.length:=by omega
  have a2:(r.length:Int)≤9223372036854775807:=by omega
  have a3:(aAl (r.length:Int) 4).length+r.length≤9223372036854775807:=by omega
  have a4:(aAl (r.length:Int) 4++r).length≤281474976710656:=by simp;omega
  simp only[aA1,aA3,a1,a2,a3,a4,decide_true,Bool.and_self,if_true]
  rfl
 ·cases h
theorem bNy:aAa Tryz.prog aZr:=aA8 (by simp[aPk,aFs])
theorem aYg:aAx Tryz.prog 84 (sg [pI,pS] [rI]) aF3:=aA6 bNy aAb Tryz.func84 (by kernel_rfl) fun cs outs hk h=>by
 unfold aF3 at h
 split at h
 ·simp only[Option.some.injEq,Prod.mk.injEq,decide_eq_true_eq]at h
  obtain⟨h1,rfl⟩:=h
  rename_i l r
  rw[aAd,bB7]
  have l1:=aBn (r.length:Int) 4
  have a1:(-9223372036854775808:Int)≤r.length:=by omega
  have a2:(r.length:Int)≤9223372036854775807:=by omega
  have a3:(aAl (r.length:Int) 4).length+r.length≤9223372036854775807:=by omega
  have a4:(aAl (r.length:Int) 4++r).length≤281474976710656:=by simp;omega
  simp only[aA1,aA3,a1,a2,a3,a4,decide_true,Bool.and_self,if_true]
  rfl
 ·cases h
theorem bEw (rs:List (List UInt8)) (h60:∀ x∈rs,x.length≤1048576) (hl:rs.length≤1048576):∀ (n i:Nat) (l:Int),i≤rs.length→rs.length<i+n →
  (aBr aP1 aAc (sg [pI,pSl 9] [rI]) Tryz.f63 [.r,.l,.r,.b] n (aOn l (rs.map aAt) rs.length i)).eval=some [.int .i64 (aKc l (rs.drop i))]:=by
 intro n
 induction n with
 |zero=>intro i l h1 h2;omega
 |succ n ih =>
  intro i l h1 h2
  rw[aAv _ _ _ _ _ _ _ (by kernel_rfl),aY2]
  by_cases hi:i<rs.length
  ·have g:=aBc aAt rs [] i hi
   have w:IntKind.i64.wrap ((i:Int)+1)=((i+1:Nat):Int):=by rw[aAh]<;>omega
   have hz:(0:Int)≤i:=by omega
   have hi':(i:Int)<rs.length:=by omega
   have hm:rs.getD i []∈rs:=by rw[List.getD_eq_getElem?_getD,List.getElem?_eq_getElem hi];exact List.getElem_mem hi
   have hx:=h60 _ hm
   rw[aBx rs i [] hi]
   generalize rs.getD i []=y at g hx ⊢
   simp only[aA1,aA4,aA3,if_true,decide_eq_true_eq,Bool.and_eq_true,w,hz,hi',Int.toNat_natCast,List.length_map,g,and_self,List.getD_cons_zero,C.toStr,C.is,List.length_cons,List.length_nil,Nat.zero_add,Nat.zero_lt_succ,hx]
   exact ih (i+1) _ (by omega) (by omega)
  ·have e:i=rs.length:=by omega
   subst e
   have hi':¬((rs.length:Int)<(rs.length:Int)):=by omega
   simp only[aA4,aA3,decide_eq_true_eq,hi',if_false,List.drop_length]
   rfl
theorem bSl:aAa Tryz.prog aP1:=aA8 (by simp[aYg])
theorem bAu:aAx Tryz.prog 63 (sg [pI,pSl 9] [rI]) aQ9:=aA6 bSl aAb Tryz.func63 (by kernel_rfl) fun cs outs hk h=>by
 unfold aQ9 at h
 split at h
 ·simp only[Option.some.injEq,Prod.mk.injEq,Bool.and_eq_true,decide_eq_true_eq]at h
  obtain⟨⟨h1,h2,h3⟩,rfl⟩:=h
  rename_i l rows
  have hr:=aFq h2
  generalize aCp rows=rs at hr ⊢
  subst hr
  rw[List.length_map]at h1
  rw[aWf]at h3
  rw[aAd,bEv]
  have:=bEw rs h3 h1 9223372036854775808 0 l (by omega) (by omega)
  rw[show (rs.length:Int)=((rs.map aAt).length:Int) by rw[List.length_map]]at this
  exact this
 ·cases h
theorem bUn:aAa Tryz.prog bL6:=aA8 (by simp[aMu])
theorem bE1:aAx Tryz.prog 49 (sg [pS,pI,pI] [rB]) aIs:=aA6 bUn aAb Tryz.func49 (by kernel_rfl) fun cs outs hk h=>by
 unfold aIs at h
 split at h
 ·simp only[Option.some.injEq,Prod.mk.injEq,decide_eq_true_eq]at h
  obtain⟨h1,rfl⟩:=h
  rename_i b x l
  rw[aAd,bI1]
  have a1:b.length≤281474976710656:=by omega
  cases hr:aA9 b<;>simp[aA1,aA4,aA3,a1,aNh,hr,ifI]
  repeat' split
  all_goals simp_all
 ·cases h
theorem bWo:aAa Tryz.prog bLj:=aA8 (by simp[aNf])
theorem bFn:aAx Tryz.prog 62 (sg [pS,pI,pI] [rB]) aIs:=aA6 bWo aAb Tryz.func62 (by kernel_rfl) fun cs outs hk h=>by
 unfold aIs at h
 split at h
 ·simp only[Option.some.injEq,Prod.mk.injEq,decide_eq_true_eq]at h
  obtain⟨h1,rfl⟩:=h
  rename_i b x l
  rw[aAd,bJy]
  have a1:b.length≤281474976710656:=by omega
  cases hr:aA9 b<;>simp[aA1,aA4,aA3,a1,aNh,hr,ifI]
  repeat' split
  all_goals simp_all
 ·cases h
theorem bHk:aAa Tryz.prog aUt:=aA8 (by simp[aIy])
theorem aM9:aAx Tryz.prog 34 (sg [pS] [rSl 9]) aIg:=aA6 bHk aAb Tryz.func34 (by kernel_rfl) fun cs outs hk h=>by
 unfold aIg at h
 split at h
 ·simp only[Option.some.injEq,Prod.mk.injEq,decide_eq_true_eq]at h
  obtain⟨h1,rfl⟩:=h
  rename_i b
  rw[aAd,aWz]
  have d1:decide (0<1)=true:=by decide
  simp only[aA1,aA3,h1,d1,aMi,bIr,aHw,decide_true,Bool.and_self,Bool.or_true,if_true]
 ·cases h
theorem aX8 (rs:List (List UInt8)) (h60:∀ x∈rs,x.length≤60) (hl:rs.length≤1048576) (ok mk:Bool) (v s q l e:Int) (m:Nat) (o:List (List C)):∀ (n i:Nat) (acc:Int),i≤rs.length→rs.length<i+n →
  (aBr aK2 aAc (sg [pS] [rI]) Tryz.f50 [.r,.r,.r,.l,.r,.b] n (aK0 ok mk v s q l e rs.length (rs.map aAt) m o acc i)).eval=some [.int .i64 (aKc acc (rs.drop i))]:=by
 intro n
 induction n with
 |zero=>intro i l h1 h2;omega
 |succ n ih =>
  intro i acc h1 h2
  rw[aAv _ _ _ _ _ _ _ (by kernel_rfl),aTf]
  by_cases hi:i<rs.length
  ·have g:=aBc aAt rs [] i hi
   have w:IntKind.i64.wrap ((i:Int)+1)=((i+1:Nat):Int):=by rw[aAh]<;>omega
   have hz:(0:Int)≤i:=by omega
   have hi':(i:Int)<rs.length:=by omega
   have hm:rs.getD i []∈rs:=by rw[List.getD_eq_getElem?_getD,List.getElem?_eq_getElem hi];exact List.getElem_mem hi
   have hx:(rs.getD i []).length≤1048576:=by have:=h60 _ hm;omega
   rw[aBx rs i [] hi]
   generalize rs.getD i []=y at g hx ⊢
   simp only[aA1,aA4,aA3,if_true,decide_eq_true_eq,Bool.and_eq_true,w,hz,hi',hi,Int.toNat_natCast,List.length_map,Nat.zero_add,g,and_self,List.getD_cons_zero,C.toStr,C.is,List.length_cons,List.length_nil,Nat.zero_lt_succ,hx]
   exact ih (i+1) _ (by omega) (by omega)
  ·have e:i=rs.length:=by omega
   subst e
   have hi':¬((rs.length:Int)<(rs.length:Int)):=by omega
   simp only[aA4,aA3,decide_eq_true_eq,hi',if_false,List.drop_length]
   rfl
theorem bHx:aAa Tryz.prog aK2:=aA8 (by simp[aIy,aMv])
theorem aVa:aAx Tryz.prog 50 (sg [pS] [rI]) aLq:=aA6 bHx aAb Tryz.func50 (by kernel_rfl) fun cs outs hk h=>by
 unfold aLq at h
 split at h
 ·simp only[Option.some.injEq,Prod.mk.injEq,decide_eq_true_eq]at h
  obtain⟨h1,rfl⟩:=h
  rename_i b
  obtain⟨f1,f2,f3⟩:=aDx b
  rw[aAd,aX7]
  have d1:decide (0<1)=true:=by decide
  have lp:=aX8 (aAn b) f3 (by omega) (aA9 b) (aKk b) (ifI (aA9 b) (rhV b)) (ifI (aA9 b) (rhS b)) (ifI (aA9 b) (rhB b)) (ifI (aA9 b) (rhL b)) (bHc b) ((aFn b).map aIu).length ((aFn b).map aIu) 9223372036854775808 0 (ifI (aA9 b) (rhL b)) (by omega) (by omega)
  rw[show (aAn b).length=((aAn b).map aAt).length by rw[List.length_map]]at lp
  simp only[aA1,aA3,h1,d1,aMi,bIr,decide_true,Bool.and_self,if_true]
  exact lp
 ·cases h
theorem bEr {ns es:List (List C)} (h:aJc ns es=true):bGu ns es=true:=by unfold aJc at h;simp only[Bool.and_eq_true]at h;exact h.1
theorem aMn {ns es:List (List C)} (h:aJc ns es=true) (base:Int):(aBh (nds ns) (ens es) base).length≤1048576:=by
 unfold aJc at h
 simp only[Bool.and_eq_true,List.all_eq_true,decide_eq_true_eq]at h
 unfold aBh aJp cE4
 split
 ·simp
 ·rename_i hn
  have hp:¬aCd (ens es) (aAo base)<0:=fun hp=>hn (by unfold aEe;rw[if_pos hp];decide)
  have e:aEe (nds ns) (ens es) (aAo base)=aAz (nds ns) (aBb (ens es) (aAo base)):=if_neg hp
  rw[e]at hn ⊢
  obtain⟨c1,c2,c3⟩:=bN8 _ _ hn
  refine h.2 _ ?_
  rw[List.getD_eq_getElem?_getD,List.getElem?_eq_getElem c1]
  exact List.getElem_mem c1
theorem cFu (l:List Lk) (x:Lk):(l.map eLk).append [eLk x]=(l++[x]).map eLk:=by simp
theorem bNc (ns es os ss:List (List C)) (r x:Int) (hd:aJc ns es=true):∀ (k n:Nat) (l:List Lk) (base sum:Int),l.length+k=16→0≤base→base≤(l.length:Int)*1048576→k<n →
  (aBr aW9 aAc (⟨[aB0],[rSl 62],true⟩) Tryz.f48 [.r,.r,.r,.l,.b] n (aW2 ns es os ss r x l.length (l.map eLk) base sum)).eval=some [.sl (aGj (l++aGv (nds ns) (ens es) k base sum))]:=by
 have hne:=bEr hd
 intro k
 induction k with
 |zero =>
  intro n l base sum h1 h2 h3 h4
  obtain⟨n,rfl⟩:∃ g,n=g+1:=⟨n-1,by omega⟩
  rw[aAv _ _ _ _ _ _ _ (by kernel_rfl),aRr]
  have c:¬((l.length:Int)<16):=by omega
  simp only[aA1,aA4,aA3,decide_eq_true_eq,c,if_false,List.length_map,decide_true,Bool.true_or,Bool.and_self,if_true,aGv,List.append_nil]
  rfl
 |succ k ih =>
  intro n l base sum h1 h2 h3 h4
  obtain⟨n,rfl⟩:∃ g,n=g+1:=⟨n-1,by omega⟩
  rw[aAv _ _ _ _ _ _ _ (by kernel_rfl),aRr]
  have c:((l.length:Int)<16):=by omega
  have ht:=aMn hd base
  simp only[aGv]
  generalize aBh (nds ns) (ens es) base=t at ht ⊢
  obtain⟨f1,f2,f3⟩:=aDx t
  have d1:decide (0<1)=true:=by decide
  simp only[aA1,aA4,aA3,decide_eq_true_eq,c,if_true,hne,ht,d1,aMi,bIr,decide_true,Bool.and_self,Bool.true_or,List.length_map]
  cases hg:aNh t base sum with
  |false =>
   simp only[Bool.false_eq_true,if_false,Bool.false_and,List.append_nil]
   rfl
  |true =>
   by_cases h0:(aAn t).length=0
   ·have e0:((aAn t).length:Int)=0:=by omega
    simp only[e0,h0,if_true,ne_eq,not_true_eq_false,decide_false,Bool.and_false,Bool.false_eq_true,if_false,List.append_nil]
    rfl
   ·have e0:¬((aAn t).length:Int)=0:=by omega
    have ro:aBj (l.length+1) 128=true:=by simp only[aBj,decide_eq_true_eq];omega
    have tk:List.take (aAn t).length ((aAn t).map aAt)=(aAn t).map aAt:=by rw[List.take_of_length_le];simp
    have tk2:List.take (aFn t).length ((aFn t).map aIu)=(aFn t).map aIu:=by rw[List.take_of_length_le];simp
    have l1:(aAn t).length≤1048576:=by omega
    have tl:aWg 1048576 ((aAn t).map aAt)=true:=(aWf _ _).2 fun y hy=>by have:=f3 y hy;omega
    have w:IntKind.i64.wrap (base+((aAn t).length:Int))=base+(aAn t).length:=by rw[aAh]<;>omega
    have ap:=cFu l (base,t)
    have e:=ih n (l++[(base,t)]) (base+(aAn t).length) (aKc sum (aAn t)) (by simp;omega) (by omega) (by simp;omega) (by omega)
    simp only[List.length_append,List.length_cons,List.length_nil,Nat.zero_add,List.append_assoc,List.cons_append,List.nil_append]at e
    have e11:decide (((((((((((Nat.add 1 0).succ.add 0).succ.add 0).succ.add 0).succ.add 0).succ.add 0).succ.add 0).succ.add 0).succ.add 0).succ.add 0).succ=11)=true:=by decide
    simp only[e0,h0,if_false,ne_eq,not_false_eq_true,decide_true,Bool.and_self,if_true,ro,tk,tk2,List.length_map,l1,aEy,tl,w,aId,e11]
    rw[←ap]at e
    exact e
theorem bZu:aAa Tryz.prog aW9:=aA8 (by simp[aNc,bF8,bAu,bFn])
theorem aUi:aAx Tryz.prog 48 (⟨[aB0],[rSl 62],true⟩) aRq:=aA6 bZu aAb Tryz.func48 (by kernel_rfl) fun cs outs hk h=>by
 unfold aRq at h
 split at h
 ·simp only[Option.some.injEq,Prod.mk.injEq]at h
  obtain⟨hd,rfl⟩:=h
  rename_i ns es os ss r x
  rw[aAd,bNb]
  exact bNc ns es os ss r x hd 16 9223372036854775808 [] 0 0 rfl (by omega) (by simp) (by omega)
 ·cases h
theorem bO7 {b:List UInt8} {base link:Int} (h:aNh b base link=true):aRt b=aKc link (aAn b):=by
 unfold aNh at h
 simp only[Bool.and_eq_true,decide_eq_true_eq]at h
 unfold aRt ifI
 rw[h.1.1,if_pos rfl,h.2]
theorem cAs (l:List Lk) (x:Lk):(aD2 l).append [[C.int .i64 x.1]]=aD2 (l++[x]):=by simp[aD2]
theorem aJ6 (l:List Lk):(aD2 l).length=l.length:=by simp[aD2]
theorem bC6 (l:List Lk):((aD2 l).all fun r=>r.all C.flat)=true:=by simp[aD2,C.flat]
theorem bMr (ns es os ss:List (List C)) (r x:Int) (hd:aJc ns es=true):∀ (k n:Nat) (l:List Lk) (base sum:Int),l.length+k=16→0≤base→base≤(l.length:Int)*1048576→k<n →
  (aBr aW8 aAc (sg [aB0] [rSl 3]) Tryz.f33 [.r,.r,.r,.r,.l,.b] n (aW1 ns es os ss r x l.length (aD2 l) base sum)).eval=some [.sl (aD2 (l++aGv (nds ns) (ens es) k base sum))]:=by
 have hne:=bEr hd
 intro k
 induction k with
 |zero =>
  intro n l base sum h1 h2 h3 h4
  obtain⟨n,rfl⟩:∃ g,n=g+1:=⟨n-1,by omega⟩
  rw[aAv _ _ _ _ _ _ _ (by kernel_rfl),aRa]
  have c:¬((l.length:Int)<16):=by omega
  simp only[aA1,aA4,aA3,decide_eq_true_eq,c,if_false,aJ6,bC6,decide_true,Bool.or_true,Bool.and_self,if_true,aGv,List.append_nil]
 |succ k ih =>
  intro n l base sum h1 h2 h3 h4
  obtain⟨n,rfl⟩:∃ g,n=g+1:=⟨n-1,by omega⟩
  rw[aAv _ _ _ _ _ _ _ (by kernel_rfl),aRa]
  have c:((l.length:Int)<16):=by omega
  have ht:=aMn hd base
  simp only[aGv]
  generalize aBh (nds ns) (ens es) base=t at ht ⊢
  obtain⟨f1,f2,f3⟩:=aDx t
  simp only[aA1,aA4,aA3,decide_eq_true_eq,c,if_true,hne,ht,aMi,decide_true,Bool.and_self,aJ6,bC6,Bool.or_true,List.length_map]
  by_cases h0:(aAn t).length=0
  ·have e0:((aAn t).length:Int)=0:=by omega
   simp only[e0,if_true]
   simp only[h0,ne_eq,not_true_eq_false,decide_false,Bool.and_false,Bool.false_eq_true,if_false,List.append_nil]
  ·have e0:¬((aAn t).length:Int)=0:=by omega
   cases hg:aNh t base sum with
   |false=>simp only[e0,Bool.false_eq_true,if_false,Bool.false_and,List.append_nil]
   |true =>
    have ro:aBj (l.length+1) 8=true:=by simp only[aBj,decide_eq_true_eq];omega
    have l1:(aAn t).length≤1048576:=by omega
    have w:IntKind.i64.wrap (base+((aAn t).length:Int))=base+(aAn t).length:=by rw[aAh]<;>omega
    have ap:=cAs l (base,t)
    have e:=ih n (l++[(base,t)]) (base+(aAn t).length) (aKc sum (aAn t)) (by simp;omega) (by omega) (by simp;omega) (by omega)
    simp only[List.length_append,List.length_cons,List.length_nil,Nat.zero_add,List.append_assoc,List.cons_append,List.nil_append]at e
    simp only[e0,h0,if_false,ne_eq,not_false_eq_true,decide_true,Bool.and_self,if_true,ro,w,bO7 hg]
    rw[←ap]at e
    exact e
theorem bZ3:aAa Tryz.prog aW8:=aA8 (by simp[aLh,bE1,aM9,aVa])
theorem aUd:aAx Tryz.prog 33 (sg [aB0] [rSl 3]) aSb:=aA6 bZ3 aAb Tryz.func33 (by kernel_rfl) fun cs outs hk h=>by
 unfold aSb at h
 split at h
 ·simp only[Option.some.injEq,Prod.mk.injEq]at h
  obtain⟨hd,rfl⟩:=h
  rename_i ns es os ss r x
  rw[aAd,bMq]
  exact bMr ns es os ss r x hd 16 9223372036854775808 [] 0 0 rfl (by omega) (by simp) (by omega)
 ·cases h
theorem aJx (ns:List Nd) (es:List En):∀ (k:Nat) (base sum:Int) (x:Lk),x∈aGv ns es k base sum→x.2=aBh ns es x.1
 |0,_,_,_,h=>by cases h
 |k+1,base,sum,x,h=>by
  simp only[aGv]at h
  split at h
  ·rcases List.mem_cons.1 h with rfl | h
   ·rfl
   ·exact aJx ns es k _ _ x h
  ·cases h
theorem aDs (ns:List Nd) (es:List En):∀ (k:Nat) (base sum:Int),(aGv ns es k base sum).length≤k
 |0,_,_=>Nat.le_refl _
 |k+1,base,sum=>by
  simp only[aGv]
  split
  ·simp only[List.length_cons];have:=aDs ns es k (base+(aAn (aBh ns es base)).length) (aKc sum (aAn (aBh ns es base)));omega
  ·simp
theorem aOa:∀ (l:List Lk),(∀ x∈l,x.2.length≤1048576)→(aB5 l).length≤l.length*1048576
 |[],_=>by simp[aB5]
 |x::l,h=>by
  have h1:=aOa l fun y hy=>h y (List.mem_cons_of_mem _ hy)
  have h2:=(aDx x.2).1
  have h3:=h x List.mem_cons_self
  unfold aB5 at h1 ⊢
  simp only[List.flatMap_cons,List.length_append,List.length_cons]
  omega
theorem bU1 {A:Type} (l:List A) (i:Nat) (d:A) (hi:i<l.length):l.take (i+1)=l.take i++[l.getD i d]:=by
 rw[List.take_succ_eq_append_getElem hi];simp[List.getD_eq_getElem?_getD,hi]
theorem aY0 (l:List Lk) (i:Nat) (d:Lk) (hi:i<l.length):aB5 (l.take (i+1))=aB5 (l.take i)++aAn (l.getD i d).2:=by
 rw[bU1 l i d hi];simp[aB5]
theorem bPs (l:List Lk) (i:Nat) (hi:i<l.length):(aD2 l).getD i []=aIu (l.getD i (0,[])).1:=aBc (fun x:Lk=>aIu x.1) l (0,[]) i hi
theorem bQ4 (a b:List (List UInt8)):(a.map aAt).append (b.map aAt)=(a++b).map aAt:=by simp
theorem bM8 (ns es os ss:List (List C)) (r x:Int) (hd:aJc ns es=true) (c:List Lk) (hc:∀ y∈c,y.2=aBh (nds ns) (ens es) y.1) (hl:c.length≤16):∀ (n i:Nat),i≤c.length→c.length<i+n →
  (aBr aW7 aAc (sg [aB0] [rSl 9]) Tryz.f10 [.r,.r,.r,.l,.r,.b] n (aW0 ns es os ss r x (aB5 (c.take i)).length ((aB5 (c.take i)).map aAt) c.length (aD2 c) i)).eval=some [.sl ((aB5 c).map aAt)]:=by
 have hne:=bEr hd
 have ht2:∀ y∈c,y.2.length≤1048576:=fun y hy=>by rw[hc y hy];exact aMn hd _
 intro n
 induction n with
 |zero=>intro i h1 h2;omega
 |succ n ih =>
  intro i h1 h2
  rw[aAv _ _ _ _ _ _ _ (by kernel_rfl),bDn]
  by_cases hi:i<c.length
  ·have g:=bPs c i hi
   have w:IntKind.i64.wrap ((i:Int)+1)=((i+1:Nat):Int):=by rw[aAh]<;>omega
   have hz:(0:Int)≤i:=by omega
   have hi':(i:Int)<c.length:=by omega
   have hm:c.getD i (0,[])∈c:=by rw[List.getD_eq_getElem?_getD,List.getElem?_eq_getElem hi];exact List.getElem_mem hi
   have hx:=hc _ hm
   have hx2:=ht2 _ hm
   have e:=ih (i+1) (by omega) (by omega)
   rw[aY0 c i (0,[]) hi]at e
   have hlen:(aB5 (c.take i)).length≤16777216:=by
    have h4:=aOa (c.take i) fun y hy=>ht2 y (List.mem_of_mem_take hy)
    have h3:(c.take i).length≤16:=by rw[List.length_take];omega
    clear e
    omega
   have hne2:(aD2 c).getD (0+i) []=aIu (c.getD i (0,[])).1:=by rw[Nat.zero_add];exact g
   generalize c.getD i (0,[])=y at g hx hx2 e hne2 ⊢
   rw[hx]at e hx2
   obtain⟨f1,f2,f3⟩:=aDx (aBh (nds ns) (ens es) y.1)
   have tk:List.take (aAn (aBh (nds ns) (ens es) y.1)).length ((aAn (aBh (nds ns) (ens es) y.1)).map aAt)=(aAn (aBh (nds ns) (ens es) y.1)).map aAt:=by rw[List.take_of_length_le];simp
   have ro:aBj ((aB5 (c.take i)).length+(aAn (aBh (nds ns) (ens es) y.1)).length) 16=true:=by simp only[aBj,decide_eq_true_eq];omega
   simp only[List.length_append]at e
   have hlb:i<(aD2 c).length:=by rw[aJ6];exact hi
   simp only[aA1,aA4,aA3,if_true,decide_eq_true_eq,w,hz,hi',hi,Int.toNat_natCast,aJ6,Nat.zero_add,g,hne,hx2,aMi,tk,ro,decide_true,Bool.and_self,List.getD_cons_zero,C.toInt,C.is,List.length_cons,List.length_nil,Nat.zero_lt_succ,beq_self_eq_true,List.length_map,bQ4]
   exact e
  ·have e:i=c.length:=by omega
   subst e
   have hi':¬((c.length:Int)<(c.length:Int)):=by omega
   rw[List.take_length]
   simp only[aA1,aA4,aA3,decide_eq_true_eq,hi',if_false,List.length_map,aHw,decide_true,Bool.or_true,Bool.and_self,if_true]
theorem bYx:aAa Tryz.prog aW7:=aA8 (by simp[aLh,aM9,aUd])
theorem aJk:aAx Tryz.prog 10 (sg [aB0] [rSl 9]) aEz:=aA6 bYx aAb Tryz.func10 (by kernel_rfl) fun cs outs hk h=>by
 unfold aEz at h
 split at h
 ·simp only[Option.some.injEq,Prod.mk.injEq]at h
  obtain⟨hd,rfl⟩:=h
  rename_i ns es os ss r x
  rw[aAd,bM7]
  have hb:((aD2 (aAu (nds ns) (ens es))).all fun row=>decide (row.length=1))=true:=by simp[aD2]
  have lp:=bM8 ns es os ss r x hd (aAu (nds ns) (ens es)) (fun y hy=>aJx _ _ _ _ _ y hy) (aDs _ _ _ _ _) 9223372036854775808 0 (by omega) (by have:=aDs (nds ns) (ens es) 16 0 0;unfold aAu;omega)
  rw[←aJ6]at lp
  simp only[aA1,hd,hb,decide_true,Bool.and_self,if_true]
  exact lp
 ·cases h
theorem cBf (l:List Lk) (i:Nat) (hi:i<l.length):(aGj l).getD i []=eLk (l.getD i (0,[])):=aBc eLk l (0,[]) i hi
theorem bPn (l:List Lk):(aGj l).length=l.length:=by simp[aGj]
theorem bNt (c:List Lk) (ht2:∀ y∈c,y.2.length≤1048576) (hl:c.length≤16):∀ (n i:Nat),i≤c.length→c.length<i+n →
  (aBr aWb aAc (sg [aB0] [rSl 9]) Tryz.f30 [.r,.r,.l,.r,.b] n (aW4 (aB5 (c.take i)).length ((aB5 (c.take i)).map aAt) c.length (aGj c) c.length i)).eval=some [.sl ((aB5 c).map aAt)]:=by
 intro n
 induction n with
 |zero=>intro i h1 h2;omega
 |succ n ih =>
  intro i h1 h2
  rw[aAv _ _ _ _ _ _ _ (by kernel_rfl),bFb]
  by_cases hi:i<c.length
  ·have g:=cBf c i hi
   have w:IntKind.i64.wrap ((i:Int)+1)=((i+1:Nat):Int):=by rw[aAh]<;>omega
   have hz:(0:Int)≤i:=by omega
   have hi':(i:Int)<c.length:=by omega
   have hm:c.getD i (0,[])∈c:=by rw[List.getD_eq_getElem?_getD,List.getElem?_eq_getElem hi];exact List.getElem_mem hi
   have hx2:=ht2 _ hm
   have e:=ih (i+1) (by omega) (by omega)
   rw[aY0 c i (0,[]) hi]at e
   have hlen:(aB5 (c.take i)).length≤16777216:=by
    have h4:=aOa (c.take i) fun y hy=>ht2 y (List.mem_of_mem_take hy)
    have h3:(c.take i).length≤16:=by rw[List.length_take];omega
    clear e
    omega
   generalize c.getD i (0,[])=y at g hx2 e ⊢
   obtain⟨f1,f2,f3⟩:=aDx y.2
   have ro:aBj ((aB5 (c.take i)).length+(aAn y.2).length) 16=true:=by simp only[aBj,decide_eq_true_eq];omega
   simp only[List.length_append]at e
   simp only[aA1,aA4,aA3,if_true,decide_eq_true_eq,w,hz,hi',hi,Int.toNat_natCast,bPn,Nat.zero_add,Nat.reduceAdd,Nat.reduceLT,g,aMi,ro,decide_true,Bool.and_self,List.getD_cons_zero,List.getD_cons_succ,C.toInt,C.toRows,C.is,List.length_cons,List.length_nil,Nat.zero_lt_succ,beq_self_eq_true,List.length_map,bQ4]
   exact e
  ·have e:i=c.length:=by omega
   subst e
   have hi':¬((c.length:Int)<(c.length:Int)):=by omega
   rw[List.take_length]
   simp only[aA1,aA4,aA3,decide_eq_true_eq,hi',if_false,List.length_map,aHw,decide_true,Bool.or_true,Bool.and_self,if_true]
theorem aOh {ns es:List (List C)} (h:aJc ns es=true):∀ y∈aAu (nds ns) (ens es),y.2.length≤1048576:=fun y hy=>by
 rw[aJx _ _ _ _ _ y hy];exact aMn h _
theorem cA1:aAa Tryz.prog aWb:=aA8 (by simp[aUi])
theorem aNd:aAx Tryz.prog 30 (sg [aB0] [rSl 9]) aEz:=aA6 cA1 aAb Tryz.func30 (by kernel_rfl) fun cs outs hk h=>by
 unfold aEz at h
 split at h
 ·simp only[Option.some.injEq,Prod.mk.injEq]at h
  obtain⟨hd,rfl⟩:=h
  rename_i ns es os ss r x
  rw[aAd,bNs]
  have hb:((aGj (aAu (nds ns) (ens es))).all fun row=>decide (row.length=11))=true:=by simp[aGj]
  have lp:=bNt (aAu (nds ns) (ens es)) (aOh hd) (aDs _ _ _ _ _) 9223372036854775808 0 (by omega) (by have:=aDs (nds ns) (ens es) 16 0 0;unfold aAu;omega)
  rw[←bPn]at lp
  simp only[aA1,hd,hb,decide_true,Bool.and_self,if_true]
  exact lp
 ·cases h
theorem bUk:aAa Tryz.prog bL3:=aA8 (by simp[aJk])
theorem aR6:aAx Tryz.prog 43 (sg [aB0] [rI]) aHc:=aA6 bUk aAb Tryz.func43 (by kernel_rfl) fun cs outs hk h=>by
 unfold aHc at h
 split at h
 ·simp only[Option.some.injEq,Prod.mk.injEq]at h
  obtain⟨hd,rfl⟩:=h
  rw[aAd,bHv]
  simp only[aA1,aA3,hd,aMi,decide_true,Bool.and_self,if_true,List.length_map]
 ·cases h
theorem bWl:aAa Tryz.prog bLg:=aA8 (by simp[aNd])
theorem bFl:aAx Tryz.prog 17 (sg [aB0] [rI]) aHc:=aA6 bWl aAb Tryz.func17 (by kernel_rfl) fun cs outs hk h=>by
 unfold aHc at h
 split at h
 ·simp only[Option.some.injEq,Prod.mk.injEq]at h
  obtain⟨hd,rfl⟩:=h
  rw[aAd,bJu]
  simp only[aA1,aA3,hd,aMi,decide_true,Bool.and_self,if_true,List.length_map]
 ·cases h
noncomputable section
end
noncomputable section
def aC8 (ns es:List (List C)):List (List UInt8):=aB5 (aAu (nds ns) (ens es))
def aQa (n:Nat) (i:Int):Bool:=decide (0≤i)&&decide (i<n)
def aKq (l:List (List UInt8)) (i:Int):List UInt8:=if aQa l.length i then l.getD i.toNat []else[]
def aI7 (n:Nat) (i:Int):Int:=if aQa n i then 0 else 1
def aIq:aCf:=fun cs=>match cs with
 |[.sl n1,.sl e1,.sl _,.sl _,.int .i64 _,.int .i64 _,.int .i64 i]=>some (aJc n1 e1,[.str (aKq (aC8 n1 e1) i),.int .i64 (aI7 (aC8 n1 e1).length i)])
 |_=>none
def bL4:Env:=mkE [] [(45,(sg [pI,pI,pI] [rB]),aE4),(10,(sg [aB0] [rSl 9]),aEz)]
def bLh:Env:=mkE [] [(37,(sg [pI,pI,pI] [rB]),aE4),(30,(sg [aB0] [rSl 9]),aEz)]
end
theorem bHw (H:List Pt→Nat→St→T (List C)) (ns:List (List C)) (es:List (List C)) (os:List (List C)) (ss:List (List C)) (r:Int) (x:Int) (i:Int):(aAk bL4 aAc (sg [aB0,pI] [rS,rI]) Tryz.f26 H [C.sl ns,C.sl es,C.sl os,C.sl ss,C.int .i64 r,C.int .i64 x,C.int .i64 i]).eval=((.must (aJc ns es) (.must ((true&&(List.map aAt (aB5 (aAu (nds ns) (ens es)))).all fun row=>decide (row.length=1))&&true&&true&&true) (.ask (inB i 0 (IntKind.i64.wrap ((↑(List.map aAt (aB5 (aAu (nds ns) (ens es)))).length:Int)-(1:Int)))) (.must (decide ((0:Int)≤i)&&decide (i<(↑(List.map aAt (aB5 (aAu (nds ns) (ens es)))).length:Int))) (.must (decide (0+i.toNat<(List.map aAt (aB5 (aAu (nds ns) (ens es)))).length)&&(decide (0<((List.map aAt (aB5 (aAu (nds ns) (ens es)))).getD (0+i.toNat) []).length)&&C.is K.str (((List.map aAt (aB5 (aAu (nds ns) (ens es)))).getD (0+i.toNat) []).getD 0 (C.fn 0 []))&&true)) (.ret [C.str (((List.map aAt (aB5 (aAu (nds ns) (ens es)))).getD (0+i.toNat) []).getD 0 (C.fn 0 [])).toStr,C.int .i64 0]))) (.ret [C.str [],C.int .i64 1])))):T (List C)).eval:=aAj (by kernel_rfl)
theorem bJv (H:List Pt→Nat→St→T (List C)) (ns:List (List C)) (es:List (List C)) (os:List (List C)) (ss:List (List C)) (r:Int) (x:Int) (i:Int):(aAk bLh aAc (sg [aB0,pI] [rS,rI]) Tryz.f16 H [C.sl ns,C.sl es,C.sl os,C.sl ss,C.int .i64 r,C.int .i64 x,C.int .i64 i]).eval=((.must (aJc ns es) (.must ((true&&(List.map aAt (aB5 (aAu (nds ns) (ens es)))).all fun row=>decide (row.length=1))&&true&&true&&true) (.ask (inB i 0 (IntKind.i64.wrap ((↑(List.map aAt (aB5 (aAu (nds ns) (ens es)))).length:Int)-(1:Int)))) (.must (decide ((0:Int)≤i)&&decide (i<(↑(List.map aAt (aB5 (aAu (nds ns) (ens es)))).length:Int))) (.must (decide (0+i.toNat<(List.map aAt (aB5 (aAu (nds ns) (ens es)))).length)&&(decide (0<((List.map aAt (aB5 (aAu (nds ns) (ens es)))).getD (0+i.toNat) []).length)&&C.is K.str (((List.map aAt (aB5 (aAu (nds ns) (ens es)))).getD (0+i.toNat) []).getD 0 (C.fn 0 []))&&true)) (.ret [C.str (((List.map aAt (aB5 (aAu (nds ns) (ens es)))).getD (0+i.toNat) []).getD 0 (C.fn 0 [])).toStr,C.int .i64 0]))) (.ret [C.str [],C.int .i64 1])))):T (List C)).eval:=aAj (by kernel_rfl)
theorem aRi {ns es:List (List C)} (h:aJc ns es=true):(aC8 ns es).length≤16777216:=by
 have h1:=aOa (aAu (nds ns) (ens es)) (aOh h)
 have h2:=aDs (nds ns) (ens es) 16 0 0
 unfold aAu at h1
 unfold aC8 aAu
 omega
theorem bWg (n:Nat) (i:Int) (h:n≤16777216):inB i 0 (IntKind.i64.wrap ((n:Int)-1))=aQa n i:=by
 have w:IntKind.i64.wrap ((n:Int)-1)=(n:Int)-1:=by rw[aAh]<;>omega
 rw[w]
 unfold inB aQa
 congr 1
 by_cases hi:i<n
 ·rw[decide_eq_true hi,decide_eq_true (by omega)]
 ·rw[decide_eq_false hi,decide_eq_false (by omega)]
theorem aKr (n:Nat) (i:Int):aQa n i=true↔0≤i∧i<n:=by simp[aQa]
theorem bUl:aAa Tryz.prog bL4:=aA8 (by simp[aDy,aJk])
theorem bE0:aAx Tryz.prog 26 (sg [aB0,pI] [rS,rI]) aIq:=aA6 bUl aAb Tryz.func26 (by kernel_rfl) fun cs outs hk h=>by
 unfold aIq at h
 split at h
 ·simp only[Option.some.injEq,Prod.mk.injEq]at h
  obtain⟨h1,rfl⟩:=h
  rename_i ns es os ss r x i
  have l1:=aRi h1
  rw[aAd,bHw]
  have e1':aB5 (aAu (nds ns) (ens es))=aC8 ns es:=rfl
  rw[e1']
  generalize aC8 ns es=a at l1 ⊢
  unfold aKq aI7
  simp only[aA1,aA4,aA3,h1,aMi,decide_true,Bool.and_self,if_true,List.length_map,bWg a.length i l1]
  by_cases hg:aQa a.length i=true
  ·obtain⟨c1,c2⟩:=(aKr _ _).1 hg
   have hi:i.toNat<a.length:=by omega
   have g:=aBc aAt a [] i.toNat hi
   simp only[hg,c1,c2,hi,if_true,Nat.zero_add,g,List.getD_cons_zero,C.toStr,C.is,List.length_cons,List.length_nil,Nat.zero_lt_succ,decide_true,Bool.and_self]
  ·simp only[hg,Bool.false_eq_true,if_false]
 ·cases h
theorem bWm:aAa Tryz.prog bLh:=aA8 (by simp[aGm,aNd])
theorem bFm:aAx Tryz.prog 16 (sg [aB0,pI] [rS,rI]) aIq:=aA6 bWm aAb Tryz.func16 (by kernel_rfl) fun cs outs hk h=>by
 unfold aIq at h
 split at h
 ·simp only[Option.some.injEq,Prod.mk.injEq]at h
  obtain⟨h1,rfl⟩:=h
  rename_i ns es os ss r x i
  have l1:=aRi h1
  rw[aAd,bJv]
  have e1':aB5 (aAu (nds ns) (ens es))=aC8 ns es:=rfl
  rw[e1']
  generalize aC8 ns es=a at l1 ⊢
  unfold aKq aI7
  simp only[aA1,aA4,aA3,h1,aMi,decide_true,Bool.and_self,if_true,List.length_map,bWg a.length i l1]
  by_cases hg:aQa a.length i=true
  ·obtain⟨c1,c2⟩:=(aKr _ _).1 hg
   have hi:i.toNat<a.length:=by omega
   have g:=aBc aAt a [] i.toNat hi
   simp only[hg,c1,c2,hi,if_true,Nat.zero_add,g,List.getD_cons_zero,C.toStr,C.is,List.length_cons,List.length_nil,Nat.zero_lt_succ,decide_true,Bool.and_self]
  ·simp only[hg,Bool.false_eq_true,if_false]
 ·cases h
noncomputable section
def aH2 (base n i:Int):Int:=if base≤i∧i≤base+n-1 then i-base else -1
def aNz:aCf:=fun cs=>match cs with
 |[.bool _,.int .i64 _,.int .i64 _,.int .i64 base,.int .i64 _,.sl rs,.sl _,.int .i64 _,.bool _,.int .i64 i]=>some (decide (0≤base)&&decide (base≤4294967296)&&decide (rs.length≤16777216),[.int .i64 (aH2 base rs.length i)])
 |_=>none
def aKv:List Lk→Int→Option Lk
 |[],_=>none
 |x::r,i=>if 0≤aH2 (ifI (aA9 x.2) (rhB x.2)) (aAn x.2).length i then some x else aKv r i
def aBw (c:List Lk) (i:Int):Lk:=(aKv c i).getD (0,[])
def aFi (c:List Lk) (i:Int):Bool:=(aKv c i).isSome
def cDe (x:Lk):Int:=x.1
def aDe (x:Lk):List UInt8:=x.2
def bZd:PTy:=.val true [.bool,.int .i64,.int .i64,.int .i64,.int .i64,.slice 9,.slice 3,.int .i64,.bool]
def bSb:RTy:=⟨true,[(.int .i64,false),(.str,false),(.bool,false),(.int .i64,false),(.int .i64,false),(.int .i64,false),(.int .i64,false),(.slice 9,false),(.slice 3,false),(.int .i64,false),(.bool,false)]⟩
abbrev oLk (x:Lk):List C:=[.int .i64 (cDe x),.str (aDe x),.bool (aA9 (aDe x)),.int .i64 (ifI (aA9 (aDe x)) (rhV (aDe x))),.int .i64 (ifI (aA9 (aDe x)) (rhS (aDe x))),.int .i64 (ifI (aA9 (aDe x)) (rhB (aDe x))),.int .i64 (ifI (aA9 (aDe x)) (rhL (aDe x))),
 .sl ((aAn (aDe x)).map aAt),.sl ((aFn (aDe x)).map aIu),.int .i64 (bHc (aDe x)),.bool (aKk (aDe x))]
def aOf:aCf:=fun cs=>match cs with
 |[.sl ns,.sl es,.sl _,.sl _,.int .i64 _,.int .i64 _,.int .i64 i]=>some (aJc ns es,oLk (aBw (aAu (nds ns) (ens es)) i)++[.bool (aFi (aAu (nds ns) (ens es)) i)])
 |_=>none
def aEa (c:List Lk) (i:Int):Int:=if aFi c i then cDe (aBw c i)else -1
def aHd:aCf:=fun cs=>match cs with
 |[.sl ns,.sl es,.sl _,.sl _,.int .i64 _,.int .i64 _,.int .i64 i]=>some (aJc ns es,[.int .i64 (aEa (aAu (nds ns) (ens es)) i)])
 |_=>none
def aSj (i:Int) (n:Nat) (l:List (List C)) (k j:Int):St:={slots:=[(1,aBf i),(4,.l (.ptr 0 0)),(9,.l (.ref 1 0 n)),(10,aBf k),(11,aBf j)],heap:=[(0,.box [.i .i64 0,.s [],.b false,.i .i64 0,.i .i64 0,.i .i64 0,.i .i64 0,.nil,.nil,.i .i64 0,.b false]),(1,.arr 11 l)],next:=2,pins:=[]}
def aNr (i out:Int) (n:Nat) (l:List (List C)) (k:Int):St:=st1 [(1,aBf i),(7,aBf out),(8,.l (.ref 0 0 n)),(9,aBf k)] 1 l
def bKx:Env:=mkE [] [(37,(sg [pI,pI,pI] [rB]),aE4)]
def aSv:Env:=mkE [(2,[1,4,9,10,11])] [(48,(⟨[aB0],[rSl 62],true⟩),aRq),(40,(sg [bZd,pI] [rI]),aNz)]
def aSr:Env:=mkE [(7,[1,7,8,9])] [(33,(sg [aB0] [rSl 3]),aSb),(26,(sg [aB0,pI] [rS,rI]),aIq)]
def bLk:Env:=mkE [] [(38,(⟨[aB0,pI],[bSb,rB],true⟩),aOf)]
end
theorem bHb (H:List Pt→Nat→St→T (List C)) (ok:Bool) (v:Int) (s:Int) (b:Int) (l:Int) (rs:List (List C)) (os:List (List C)) (e:Int) (mk:Bool) (i:Int):(aAk bKx aAc (sg [bZd,pI] [rI]) Tryz.f40 H [C.bool ok,C.int .i64 v,C.int .i64 s,C.int .i64 b,C.int .i64 l,C.sl rs,C.sl os,C.int .i64 e,C.bool mk,C.int .i64 i]).eval=((.ask (inB i b (IntKind.i64.wrap (IntKind.i64.wrap (b+(↑rs.length:Int))-(1:Int)))) (.ret [C.int .i64 (IntKind.i64.wrap (i-b))]) (.ret [C.int .i64 (-1)])):T (List C)).eval:=aAj (by kernel_rfl)
theorem bKe (H:List Pt→Nat→St→T (List C)) (ns:List (List C)) (es:List (List C)) (os:List (List C)) (ss:List (List C)) (r:Int) (x:Int) (i:Int):(aAk aSv aAc {params:=[aB0,pI],results:=[bSb,rB],nested:=true} Tryz.f38 H [C.sl ns,C.sl es,C.sl os,C.sl ss,C.int .i64 r,C.int .i64 x,C.int .i64 i]).eval=((.must (aJc ns es) (.must ((true&&(aGj (aAu (nds ns) (ens es))).all fun row=>decide (row.length=11))&&true&&true&&true) (H [Pt.r,Pt.l,Pt.r,Pt.b] 9223372036854775808 (aSj (i) ((aGj (aAu (nds ns) (ens es))).length) (aGj (aAu (nds ns) (ens es))) ((↑(aGj (aAu (nds ns) (ens es))).length:Int)) ((0:Int)))))):T (List C)).eval:=aAj (by kernel_rfl)
theorem bBa (H:List Pt→Nat→St→T (List C)) (i:Int) (n:Nat) (l:List (List C)) (k2:Int) (j:Int) (k:Nat):(aBl aSv aAc {params:=[aB0,pI],results:=[bSb,rB],nested:=true} Tryz.f38 H [Pt.r,Pt.l,Pt.r,Pt.b] k (aSj i n l k2 j)).eval=((.ask (decide (j<k2)) (.must (decide ((0:Int)≤j)&&decide (j<(↑n:Int))) (.must (decide (0+j.toNat<l.length)&&(decide (0<(l.getD (0+j.toNat) []).length)&&C.is (K.int .i64) ((l.getD (0+j.toNat) []).getD 0 (C.fn 0 []))&&(decide (0+1<(l.getD (0+j.toNat) []).length)&&C.is K.str ((l.getD (0+j.toNat) []).getD (0+1) (C.fn 0 []))&&(decide (0+1+1<(l.getD (0+j.toNat) []).length)&&C.is K.bool ((l.getD (0+j.toNat) []).getD (0+1+1) (C.fn 0 []))&&(decide (0+1+1+1<(l.getD (0+j.toNat) []).length)&&C.is (K.int .i64) ((l.getD (0+j.toNat) []).getD (0+1+1+1) (C.fn 0 []))&&(decide (0+1+1+1+1<(l.getD (0+j.toNat) []).length)&&C.is (K.int .i64) ((l.getD (0+j.toNat) []).getD (0+1+1+1+1) (C.fn 0 []))&&(decide (0+1+1+1+1+1<(l.getD (0+j.toNat) []).length)&&C.is (K.int .i64) ((l.getD (0+j.toNat) []).getD (0+1+1+1+1+1) (C.fn 0 []))&&(decide (0+1+1+1+1+1+1<(l.getD (0+j.toNat) []).length)&&C.is (K.int .i64) ((l.getD (0+j.toNat) []).getD (0+1+1+1+1+1+1) (C.fn 0 []))&&(decide (0+1+1+1+1+1+1+1<(l.getD (0+j.toNat) []).length)&&C.is (K.slice 9) ((l.getD (0+j.toNat) []).getD (0+1+1+1+1+1+1+1) (C.fn 0 []))&&(decide (0+1+1+1+1+1+1+1+1<(l.getD (0+j.toNat) []).length)&&C.is (K.slice 3) ((l.getD (0+j.toNat) []).getD (0+1+1+1+1+1+1+1+1) (C.fn 0 []))&&(decide (0+1+1+1+1+1+1+1+1+1<(l.getD (0+j.toNat) []).length)&&C.is (K.int .i64) ((l.getD (0+j.toNat) []).getD (0+1+1+1+1+1+1+1+1+1) (C.fn 0 []))&&(decide (0+1+1+1+1+1+1+1+1+1+1<(l.getD (0+j.toNat) []).length)&&C.is K.bool ((l.getD (0+j.toNat) []).getD (0+1+1+1+1+1+1+1+1+1+1) (C.fn 0 []))&&true)))))))))))) (.must (decide ((0:Int)≤((l.getD (0+j.toNat) []).getD (0+1+1+1+1+1) (C.fn 0 [])).toInt)&&decide (((l.getD (0+j.toNat) []).getD (0+1+1+1+1+1) (C.fn 0 [])).toInt≤(4294967296:Int))&&decide (((l.getD (0+j.toNat) []).getD (0+1+1+1+1+1+1+1) (C.fn 0 [])).toRows.length≤16777216)) (.ask (decide ((0:Int)≤aH2 ((l.getD (0+j.toNat) []).getD (0+1+1+1+1+1) (C.fn 0 [])).toInt (↑((l.getD (0+j.toNat) []).getD (0+1+1+1+1+1+1+1) (C.fn 0 [])).toRows.length:Int) i)) (.ret [C.int .i64 ((l.getD (0+j.toNat) []).getD 0 (C.fn 0 [])).toInt,C.str ((l.getD (0+j.toNat) []).getD (0+1) (C.fn 0 [])).toStr,C.bool ((l.getD (0+j.toNat) []).getD (0+1+1) (C.fn 0 [])).toBool,C.int .i64 ((l.getD (0+j.toNat) []).getD (0+1+1+1) (C.fn 0 [])).toInt,C.int .i64 ((l.getD (0+j.toNat) []).getD (0+1+1+1+1) (C.fn 0 [])).toInt,C.int .i64 ((l.getD (0+j.toNat) []).getD (0+1+1+1+1+1) (C.fn 0 [])).toInt,C.int .i64 ((l.getD (0+j.toNat) []).getD (0+1+1+1+1+1+1) (C.fn 0 [])).toInt,C.sl ((l.getD (0+j.toNat) []).getD (0+1+1+1+1+1+1+1) (C.fn 0 [])).toRows,C.sl ((l.getD (0+j.toNat) []).getD (0+1+1+1+1+1+1+1+1) (C.fn 0 [])).toRows,C.int .i64 ((l.getD (0+j.toNat) []).getD (0+1+1+1+1+1+1+1+1+1) (C.fn 0 [])).toInt,C.bool ((l.getD (0+j.toNat) []).getD (0+1+1+1+1+1+1+1+1+1+1) (C.fn 0 [])).toBool,C.bool true]) (H [Pt.r,Pt.l,Pt.r,Pt.b] k (aSj (i) (n) (l) (k2) (IntKind.i64.wrap (j+(1:Int))))))))) (.ret [C.int .i64 0,C.str [],C.bool false,C.int .i64 0,C.int .i64 0,C.int .i64 0,C.int .i64 0,C.sl [],C.sl [],C.int .i64 0,C.bool false,C.bool false])):T (List C)).eval:=aAj (by kernel_rfl)
theorem bI5 (H:List Pt→Nat→St→T (List C)) (ns:List (List C)) (es:List (List C)) (os:List (List C)) (ss:List (List C)) (r:Int) (x:Int) (i:Int):(aAk aSr aAc (sg [aB0,pI] [rI]) Tryz.f19 H [C.sl ns,C.sl es,C.sl os,C.sl ss,C.int .i64 r,C.int .i64 x,C.int .i64 i]).eval=((.must (aJc ns es) (.ask (aI7 (aC8 ns es).length i != (0:Int)) (.ret [C.int .i64 (-1)]) (.must (aJc ns es) (.must ((true&&(aD2 (aAu (nds ns) (ens es))).all fun row=>decide (row.length=1))&&true&&true&&true) (H [Pt.r,Pt.r,Pt.r,Pt.r,Pt.l,Pt.r,Pt.b] 9223372036854775808 (aNr (i) ((-1:Int)) ((aD2 (aAu (nds ns) (ens es))).length) (aD2 (aAu (nds ns) (ens es))) ((0:Int)))))))):T (List C)).eval:=aAj (by kernel_rfl)
theorem bAh (H:List Pt→Nat→St→T (List C)) (i:Int) (out:Int) (n:Nat) (l:List (List C)) (k2:Int) (k:Nat):(aBl aSr aAc (sg [aB0,pI] [rI]) Tryz.f19 H [Pt.r,Pt.r,Pt.r,Pt.r,Pt.l,Pt.r,Pt.b] k (aNr i out n l k2)).eval=((.ask (decide (k2<(↑n:Int))) (.must (decide ((0:Int)≤k2)&&decide (k2<(↑n:Int))) (.must (decide (0+k2.toNat<l.length)&&(decide (0<(l.getD (0+k2.toNat) []).length)&&C.is (K.int .i64) ((l.getD (0+k2.toNat) []).getD 0 (C.fn 0 []))&&true)) (.ask (decide (((l.getD (0+k2.toNat) []).getD 0 (C.fn 0 [])).toInt≤i)) (.must (decide ((0:Int)≤k2)&&decide (k2<(↑n:Int))) (.must (decide (0+k2.toNat<l.length)&&(decide (0<(l.getD (0+k2.toNat) []).length)&&C.is (K.int .i64) ((l.getD (0+k2.toNat) []).getD 0 (C.fn 0 []))&&true)) (H [Pt.r,Pt.r,Pt.r,Pt.r,Pt.l,Pt.r,Pt.b] k (aNr (i) (((l.getD (0+k2.toNat) []).getD 0 (C.fn 0 [])).toInt) (n) (l) (IntKind.i64.wrap (k2+(1:Int))))))) (H [Pt.r,Pt.r,Pt.r,Pt.r,Pt.l,Pt.r,Pt.b] k (aNr (i) (out) (n) (l) (IntKind.i64.wrap (k2+(1:Int)))))))) (.ret [C.int .i64 out])):T (List C)).eval:=aAj (by kernel_rfl)
theorem bK0 (H:List Pt→Nat→St→T (List C)) (ns:List (List C)) (es:List (List C)) (os:List (List C)) (ss:List (List C)) (r:Int) (x:Int) (i:Int):(aAk bLk aAc (sg [aB0,pI] [rI]) Tryz.f18 H [C.sl ns,C.sl es,C.sl os,C.sl ss,C.int .i64 r,C.int .i64 x,C.int .i64 i]).eval=((.must (aJc ns es) (.ask (aFi (aAu (nds ns) (ens es)) i) (.ret [C.int .i64 (cDe (aBw (aAu (nds ns) (ens es)) i))]) (.ret [C.int .i64 (-1)]))):T (List C)).eval:=aAj (by kernel_rfl)
theorem bWq {b:List UInt8} (h:aA9 b=true):0≤rhB b∧rhB b≤1000000000:=by
 have h24:24≤b.length∧aDd b 8 8=true∧aBe (rhV b) (rhS b) (rhB b) (rhL b)=b.take 24:=by
  unfold aA9 at h
  simpa[and_assoc]using h
 have ht:=h24.2.2
 cases hk:aD7 (rhV b) (rhS b) (rhB b) (rhL b)with
 |true=>have:=(aDi _ _ _ _).1 hk;exact this.2.2.1
 |false =>
  unfold aBe at ht
  rw[hk]at ht
  have:=congrArg List.length ht
  simp at this
  omega
theorem bPr (b:List UInt8):0≤ifI (aA9 b) (rhB b)∧ifI (aA9 b) (rhB b)≤1000000000:=by
 unfold ifI
 split
 ·exact bWq ‹_›
 ·omega
def aNw:List Lk→Int→Prop
 |[],_=>True
 |x::r,b=>x.1=b∧aA9 x.2=true∧rhB x.2=b∧0<(aAn x.2).length∧aNw r (b+(aAn x.2).length)
theorem aHm (ns:List Nd) (es:List En):∀ (k:Nat) (base sum:Int),aNw (aGv ns es k base sum) base
 |0,_,_=>trivial
 |k+1,base,sum=>by
  simp only[aGv]
  split
  ·rename_i h
   simp only[Bool.and_eq_true,decide_eq_true_eq]at h
   have hg:=h.1
   unfold aNh at hg
   simp only[Bool.and_eq_true,decide_eq_true_eq]at hg
   exact⟨rfl,hg.1.1,hg.1.2,Nat.pos_of_ne_zero h.2,aHm ns es k _ _⟩
  ·trivial
def aUj:List Lk→Int→Int→Int
 |[],_,out=>out
 |x::r,i,out=>aUj r i (if x.1≤i then x.1 else out)
theorem aNy (b n i:Int):0≤aH2 b n i↔b≤i∧i≤b+n-1:=by
 unfold aH2
 split
 ·rename_i h;exact⟨fun _=>h,fun _=>by omega⟩
 ·rename_i h;exact⟨fun hn=>absurd hn (by decide),fun hh=>absurd hh h⟩
theorem bC1:∀ (c:List Lk) (b i out:Int),aNw c b→i<b→aUj c i out=out
 |[],_,_,_,_,_=>rfl
 |x::r,b,i,out,h,hi=>by
  obtain⟨h1,h2,h3,h4,h5⟩:=h
  simp only[aUj]
  rw[if_neg (by omega)]
  exact bC1 r _ i out h5 (by omega)
theorem aY1 (x:Lk) (r:List Lk):(aB5 (x::r)).length=(aAn x.2).length+(aB5 r).length:=by simp[aB5]
theorem bOa:∀ (c:List Lk) (b i out:Int),aNw c b→b≤i→i<b+(aB5 c).length→∃ x,aKv c i=some x∧aUj c i out=x.1
 |[],b,i,_,_,h1,h2=>by simp[aB5]at h2;omega
 |x::r,b,i,out,h,h1,h2=>by
  obtain⟨a1,a2,a3,a4,a5⟩:=h
  rw[aY1]at h2
  simp only[aKv,aUj,a2,ifI,if_true,a3,aNy]
  rw[if_pos (by omega:x.1≤i)]
  by_cases hi:i<b+(aAn x.2).length
  ·rw[if_pos (by omega)]
   exact⟨x,rfl,bC1 r _ i _ a5 hi⟩
  ·rw[if_neg (by omega)]
   exact bOa r _ i _ a5 (by omega) (by omega)
theorem bG5:∀ (c:List Lk) (b i:Int),aNw c b→(i<b∨b+(aB5 c).length≤i)→aKv c i=none
 |[],_,_,_,_=>rfl
 |x::r,b,i,h,hi=>by
  obtain⟨a1,a2,a3,a4,a5⟩:=h
  rw[aY1]at hi
  simp only[aKv,a2,ifI,if_true,a3,aNy]
  rw[if_neg (by omega)]
  exact bG5 r _ i a5 (by omega)
theorem bU9:aAa Tryz.prog bKx:=aA8 (by simp[aGm])
theorem aR4:aAx Tryz.prog 40 (sg [bZd,pI] [rI]) aNz:=aA6 bU9 aAb Tryz.func40 (by kernel_rfl) fun cs outs hk h=>by
 unfold aNz at h
 split at h
 ·simp only[Option.some.injEq,Prod.mk.injEq,Bool.and_eq_true,decide_eq_true_eq]at h
  obtain⟨⟨⟨h1,h2⟩,h3⟩,rfl⟩:=h
  rename_i ok v s b l rs os e mk i
  rw[aAd,bHb]
  have w1:IntKind.i64.wrap (b+(rs.length:Int))=b+rs.length:=by rw[aAh]<;>omega
  have w2:IntKind.i64.wrap (b+(rs.length:Int)-1)=b+rs.length-1:=by rw[aAh]<;>omega
  simp only[aA4,aA3,w1,w2,aBi,aH2]
  by_cases hc:b≤i∧i≤b+(rs.length:Int)-1
  ·have w3:IntKind.i64.wrap (i-b)=i-b:=by rw[aAh]<;>omega
   simp only[hc,and_self,if_true,w3]
  ·simp only[hc,if_false]
 ·cases h
theorem bKf (c:List Lk) (i:Int) (ht:∀ y∈c,y.2.length≤1048576) (hl:c.length≤16):∀ (n j:Nat),j≤c.length→c.length<j+n →
  (aBr aSv aAc (⟨[aB0,pI],[bSb,rB],true⟩) Tryz.f38 [.r,.l,.r,.b] n (aSj i c.length (aGj c) c.length j)).eval=some (oLk (aBw (c.drop j) i)++[.bool (aFi (c.drop j) i)]):=by
 intro n
 induction n with
 |zero=>intro j h1 h2;omega
 |succ n ih =>
  intro j h1 h2
  rw[aAv _ _ _ _ _ _ _ (by kernel_rfl),bBa]
  by_cases hj:j<c.length
  ·have g:=cBf c j hj
   have w:IntKind.i64.wrap ((j:Int)+1)=((j+1:Nat):Int):=by rw[aAh]<;>omega
   have hz:(0:Int)≤j:=by omega
   have hj':(j:Int)<c.length:=by omega
   have hm:c.getD j (0,[])∈c:=by rw[List.getD_eq_getElem?_getD,List.getElem?_eq_getElem hj];exact List.getElem_mem hj
   have hx:=ht _ hm
   rw[aBx c j (0,[]) hj]
   unfold aBw aFi
   simp only[aKv]
   generalize c.getD j (0,[])=y at g hx ⊢
   obtain⟨f1,f2,f3⟩:=aDx y.2
   have b1:=(bPr y.2).1
   have b2:ifI (aA9 y.2) (rhB y.2)≤4294967296:=by have:=(bPr y.2).2;omega
   have b3:(aAn y.2).length≤16777216:=by omega
   simp only[aA1,aA4,aA3,if_true,decide_eq_true_eq,w,hz,hj',hj,Int.toNat_natCast,bPn,Nat.zero_add,Nat.reduceAdd,Nat.reduceLT,g,b1,b2,b3,decide_true,Bool.and_self,List.getD_cons_zero,List.getD_cons_succ,C.toInt,C.toStr,C.toBool,C.toRows,C.is,List.length_cons,List.length_nil,Nat.zero_lt_succ,beq_self_eq_true,List.length_map]
   by_cases hs:0≤aH2 (ifI (aA9 y.2) (rhB y.2)) ((aAn y.2).length:Int) i
   ·simp only[hs,if_true]
    rfl
   ·simp only[hs,if_false]
    exact ih (j+1) (by omega) (by omega)
  ·have e:j=c.length:=by omega
   subst e
   have hi':¬((c.length:Int)<(c.length:Int)):=by omega
   simp only[aA1,aA4,aA3,decide_eq_true_eq,hi',if_false,List.drop_length]
   rfl
theorem bX3:aAa Tryz.prog aSv:=aA8 (by simp[aUi,aR4])
theorem aS1:aAx Tryz.prog 38 (⟨[aB0,pI],[bSb,rB],true⟩) aOf:=aA6 bX3 aAb Tryz.func38 (by kernel_rfl) fun cs outs hk h=>by
 unfold aOf at h
 split at h
 ·simp only[Option.some.injEq,Prod.mk.injEq]at h
  obtain⟨hd,rfl⟩:=h
  rename_i ns es os ss r x i
  rw[aAd,bKe]
  have hb:((aGj (aAu (nds ns) (ens es))).all fun row=>decide (row.length=11))=true:=by simp[aGj]
  have lp:=bKf (aAu (nds ns) (ens es)) i (aOh hd) (aDs _ _ _ _ _) 9223372036854775808 0 (by omega) (by have:=aDs (nds ns) (ens es) 16 0 0;unfold aAu;omega)
  rw[←bPn]at lp
  simp only[aA1,hd,hb,decide_true,Bool.and_self,if_true]
  exact lp
 ·cases h
theorem bI6 (c:List Lk) (i:Int) (hl:c.length≤16):∀ (n j:Nat) (out:Int),j≤c.length→c.length<j+n →
  (aBr aSr aAc (sg [aB0,pI] [rI]) Tryz.f19 [.r,.r,.r,.r,.l,.r,.b] n (aNr i out c.length (aD2 c) j)).eval=some [.int .i64 (aUj (c.drop j) i out)]:=by
 intro n
 induction n with
 |zero=>intro j out h1 h2;omega
 |succ n ih =>
  intro j out h1 h2
  rw[aAv _ _ _ _ _ _ _ (by kernel_rfl),bAh]
  by_cases hj:j<c.length
  ·have g:=bPs c j hj
   have w:IntKind.i64.wrap ((j:Int)+1)=((j+1:Nat):Int):=by rw[aAh]<;>omega
   have hz:(0:Int)≤j:=by omega
   have hj':(j:Int)<c.length:=by omega
   rw[aBx c j (0,[]) hj]
   simp only[aUj]
   generalize c.getD j (0,[])=y at g ⊢
   simp only[aA1,aA4,aA3,if_true,decide_eq_true_eq,w,hz,hj',hj,Int.toNat_natCast,aJ6,Nat.zero_add,g,decide_true,Bool.and_self,List.getD_cons_zero,C.toInt,C.is,List.length_cons,List.length_nil,Nat.zero_lt_succ,beq_self_eq_true]
   by_cases hs:y.1≤i
   ·simp only[hs,if_true]
    exact ih (j+1) _ (by omega) (by omega)
   ·simp only[hs,if_false]
    exact ih (j+1) _ (by omega) (by omega)
  ·have e:j=c.length:=by omega
   subst e
   have hi':¬((c.length:Int)<(c.length:Int)):=by omega
   simp only[aA1,aA4,aA3,decide_eq_true_eq,hi',if_false,List.drop_length]
   rfl
theorem bOb (ns:List Nd) (es:List En) (i:Int):aEa (aAu ns es) i=if aQa (aB5 (aAu ns es)).length i then aUj (aAu ns es) i (-1)else -1:=by
 have hc:=aHm ns es 16 0 0
 unfold aEa aFi aBw
 have hc':aNw (aAu ns es) 0:=hc
 generalize aAu ns es=c at hc' ⊢
 by_cases hg:aQa (aB5 c).length i=true
 ·obtain⟨g1,g2⟩:=(aKr _ _).1 hg
  obtain⟨x,e1,e2⟩:=bOa c 0 i (-1) hc' g1 (by omega)
  rw[hg,e1,if_pos rfl,e2]
  rfl
 ·have:¬(0≤i∧i<((aB5 c).length:Int)):=fun hh=>hg ((aKr _ _).2 hh)
  have e1:=bG5 c 0 i hc' (by omega)
  rw[e1,if_neg hg]
  rfl
theorem bUp:aAa Tryz.prog aSr:=aA8 (by simp[aUd,bE0])
theorem aR8:aAx Tryz.prog 19 (sg [aB0,pI] [rI]) aHd:=aA6 bUp aAb Tryz.func19 (by kernel_rfl) fun cs outs hk h=>by
 unfold aHd at h
 split at h
 ·simp only[Option.some.injEq,Prod.mk.injEq]at h
  obtain⟨hd,rfl⟩:=h
  rename_i ns es os ss r x i
  rw[aAd,bI5]
  have hb:((aD2 (aAu (nds ns) (ens es))).all fun row=>decide (row.length=1))=true:=by simp[aD2]
  have lp:=bI6 (aAu (nds ns) (ens es)) i (aDs _ _ _ _ _) 9223372036854775808 0 (-1) (by omega) (by have:=aDs (nds ns) (ens es) 16 0 0;unfold aAu;omega)
  rw[←aJ6]at lp
  rw[bOb]
  have er:aB5 (aAu (nds ns) (ens es))=aC8 ns es:=rfl
  rw[er]
  unfold aI7
  by_cases hg:aQa (aC8 ns es).length i=true
  ·simp only[aA1,aA4,hd,hb,hg,decide_true,Bool.and_self,if_true,bne_self_eq_false,Bool.false_eq_true,if_false]
   exact lp
  ·have hf:aQa (aC8 ns es).length i=false:=by simpa using hg
   have h10:((1:Int) != 0)=true:=by decide
   simp only[aA1,aA4,aA3,hd,hf,if_true,Bool.false_eq_true,if_false,h10]
 ·cases h
theorem bWp:aAa Tryz.prog bLk:=aA8 (by simp[aS1])
theorem bFq:aAx Tryz.prog 18 (sg [aB0,pI] [rI]) aHd:=aA6 bWp aAb Tryz.func18 (by kernel_rfl) fun cs outs hk h=>by
 unfold aHd at h
 split at h
 ·simp only[Option.some.injEq,Prod.mk.injEq]at h
  obtain⟨hd,rfl⟩:=h
  rw[aAd,bK0]
  simp only[aA1,aA4,aA3,hd,if_true,aEa]
  split<;>rfl
 ·cases h
noncomputable section
def mk (f:Int→List C) (s k:Int) (n:Nat):List (List C):=(List.range n).map fun (i:Nat)=>f (k+s*(i:Int))
def aU2:aCf:=fun cs=>match cs with
 |[.sl rows]=>some (aAp [.str] rows&&decide (rows.length≤1099511627776),[.sl rows])
 |_=>none
def bGt:Env:=mkE [] []
end
theorem bXh (r : List (List C)) : bH1 bGt aAc [false] (sg [pSl (9 : TypeId)] [rSl (9 : TypeId)]) Tryz.f31 [C.sl r] =
 (.must true
 (.ask (false)
  (.must true
   (.ret [C.sl []]))
  (.must (decide ((0 : Nat) = (0 : Nat)) && aBj ((0 : Nat) + r.length) (16 : Nat) &&
  r.all fun r => decide (r.length = (1 : Nat)))
   (.must (decide ((0 : Nat) + r.length = r.length) && (false || r.all fun r => r.all C.flat) && true && true && true)
    (.ret [C.sl r]))))) := by kernel_rfl
theorem bTd (z : Nat) : bH1 bGt aAc [true] (sg [pSl (9 : TypeId)] [rSl (9 : TypeId)]) Tryz.f31 [C.sl []] =
 (.must true
 (.ask true
  (.must true
   (.ret [C.sl []]))
  (.must true
   (.must true
    (.ret [C.sl []]))))) := by kernel_rfl
theorem bS4 {ks:List K} {rows:List (List C)} (h:aAp ks rows=true) (n:Nat) (hn:ks.length=n):(rows.all fun row=>decide (row.length=n))=true:=by
 have kl:∀ (cs:List C) (ks:List K),aBm cs ks=true→cs.length=ks.length:=by
  intro cs
  induction cs with
  |nil=>intro ks h;cases ks<;>simp[aBm]at h ⊢
  |cons c cs ih=>intro ks h;cases ks<;>simp[aBm]at h ⊢;exact ih _ h.2
 simp only[aAp,List.all_eq_true]at h ⊢
 intro r hr
 simp[kl _ _ (h r hr),hn]
theorem cAi:aAa Tryz.prog bGt:=aA8 (by simp)
theorem bKo:aAx Tryz.prog 31 (sg [pSl 9] [rSl 9]) aU2:=bH0 cAi aAb Tryz.func31 (by kernel_rfl) rfl fun cs outs hk h bs hb=>by
 unfold aU2 at h
 split at h
 ·simp only[Option.some.injEq,Prod.mk.injEq,Bool.and_eq_true,decide_eq_true_eq]at h
  obtain⟨⟨h1,h2⟩,rfl⟩:=h
  rename_i rows
  have r1:=bS4 h1 1 rfl
  match bs,hb with
  |[true],hb =>
   have:rows=[]:=by simpa[aRp]using hb
   subst this
   rw[bTd 0]
   rfl
  |[false],_ =>
   rw[bXh]
   have hroom:aBj rows.length 16=true:=by unfold aBj;simp;omega
   have hf:(rows.all fun r=>r.all C.flat)=true:=by
    simp only[aAp,List.all_eq_true]at h1 ⊢
    intro r hr c hc
    have:=bV0 (h1 r hr)
    rw[this]at hc
    obtain rfl:=List.mem_singleton.1 hc
    rfl
   simp only[aA1,aA4,aA3,r1,hroom,hf,Nat.zero_add,decide_true,Bool.and_self,Bool.or_true,Bool.and_true,if_true,Bool.false_eq_true,if_false]
  |[],hb=>simp[aRp]at hb
  |_::_::_,hb=>simp[aRp]at hb
 ·cases h
noncomputable section
def aFz (n:Nat) (a b:Int):Bool:=decide (0≤a)&&decide (a≤b)&&decide (b≤n)
def aD1 (l:List (List UInt8)) (a b:Int):List (List UInt8):=if aFz l.length a b then (l.drop a.toNat).take (b.toNat-a.toNat)else[]
def aEd (n:Nat) (a b:Int):Int:=if aFz n a b then 0 else 1
def aKm:aCf:=fun cs=>match cs with
 |[.sl n1,.sl e1,.sl _,.sl _,.int .i64 _,.int .i64 _,.int .i64 a,.int .i64 b]=>some (aJc n1 e1,[.sl ((aD1 (aC8 n1 e1) a b).map aAt),.int .i64 (aEd (aC8 n1 e1).length a b)])
 |_=>none
def aZk:Env:=mkE [] [(10,(sg [aB0] [rSl 9]),aEz)]
def aZq:Env:=mkE [] [(37,(sg [pI,pI,pI] [rB]),aE4),(30,(sg [aB0] [rSl 9]),aEz),(31,(sg [pSl 9] [rSl 9]),aU2)]
end
theorem bAe (H:List Pt→Nat→St→T (List C)) (ns:List (List C)) (es:List (List C)) (os:List (List C)) (ss:List (List C)) (r:Int) (x:Int) (a:Int) (b:Int):(aAk aZk aAc (sg [aB0,pI,pI] [rSl 9,rI]) Tryz.f24 H [C.sl ns,C.sl es,C.sl os,C.sl ss,C.int .i64 r,C.int .i64 x,C.int .i64 a,C.int .i64 b]).eval=((.must (aJc ns es) (.must ((true&&(List.map aAt (aB5 (aAu (nds ns) (ens es)))).all fun row=>decide (row.length=1))&&true&&true&&true) (.ask (decide (a<(0:Int))) (.ret [C.sl [],C.int .i64 1]) (.ask (decide (b<a)) (.ret [C.sl [],C.int .i64 1]) (.ask (decide ((↑(List.map aAt (aB5 (aAu (nds ns) (ens es)))).length:Int)<b)) (.ret [C.sl [],C.int .i64 1]) (.must (decide ((0:Int)≤b)&&decide (b≤(↑(List.map aAt (aB5 (aAu (nds ns) (ens es)))).length:Int))&&(decide ((0:Int)≤a)&&decide (a≤b))) (.must (decide (0=0)&&aBj (0+(List.take (b.toNat-a.toNat) (List.drop (0+a.toNat) (List.map aAt (aB5 (aAu (nds ns) (ens es)))))).length) 16&&(List.take (b.toNat-a.toNat) (List.drop (0+a.toNat) (List.map aAt (aB5 (aAu (nds ns) (ens es)))))).all fun row=>decide (row.length=1)) (.must (decide (0+(List.take (b.toNat-a.toNat) (List.drop (0+a.toNat) (List.map aAt (aB5 (aAu (nds ns) (ens es)))))).length=(List.take (b.toNat-a.toNat) (List.drop (0+a.toNat) (List.map aAt (aB5 (aAu (nds ns) (ens es)))))).length)&&(false||(List.take (b.toNat-a.toNat) (List.drop (0+a.toNat) (List.map aAt (aB5 (aAu (nds ns) (ens es)))))).all fun r=>r.all C.flat)&&true&&(true&&(false||true)&&true&&true)&&true) (.ret [C.sl (List.take (b.toNat-a.toNat) (List.drop (0+a.toNat) (List.map aAt (aB5 (aAu (nds ns) (ens es)))))),C.int .i64 0]))))))))):T (List C)).eval:=aAj (by kernel_rfl)
theorem bB6 (H:List Pt→Nat→St→T (List C)) (ns:List (List C)) (es:List (List C)) (os:List (List C)) (ss:List (List C)) (r:Int) (x:Int) (a:Int) (b:Int):(aAk aZq aAc (sg [aB0,pI,pI] [rSl 9,rI]) Tryz.f23 H [C.sl ns,C.sl es,C.sl os,C.sl ss,C.int .i64 r,C.int .i64 x,C.int .i64 a,C.int .i64 b]).eval=((.must (aJc ns es) (.must ((true&&(List.map aAt (aB5 (aAu (nds ns) (ens es)))).all fun row=>decide (row.length=1))&&true&&true&&true) (.ask (inB b 0 (↑(List.map aAt (aB5 (aAu (nds ns) (ens es)))).length:Int)) (.ask (inB a 0 b) (.must (decide ((0:Int)≤b)&&decide (b≤(↑(List.map aAt (aB5 (aAu (nds ns) (ens es)))).length:Int))&&(decide ((0:Int)≤a)&&decide (a≤b))) (.must (aAp [K.str] (List.take (b.toNat-a.toNat) (List.drop (0+a.toNat) (List.map aAt (aB5 (aAu (nds ns) (ens es))))))&&decide ((List.take (b.toNat-a.toNat) (List.drop (0+a.toNat) (List.map aAt (aB5 (aAu (nds ns) (ens es)))))).length≤1099511627776)) (.must ((true&&(List.take (b.toNat-a.toNat) (List.drop (0+a.toNat) (List.map aAt (aB5 (aAu (nds ns) (ens es)))))).all fun row=>decide (row.length=1))&&true&&true&&true) (.must (decide ((List.take (b.toNat-a.toNat) (List.drop (0+a.toNat) (List.map aAt (aB5 (aAu (nds ns) (ens es)))))).length=(List.take (b.toNat-a.toNat) (List.drop (0+a.toNat) (List.map aAt (aB5 (aAu (nds ns) (ens es)))))).length)&&(false||(List.take (b.toNat-a.toNat) (List.drop (0+a.toNat) (List.map aAt (aB5 (aAu (nds ns) (ens es)))))).all fun r=>r.all C.flat)&&true&&(true&&(false||true)&&true&&true)&&true) (.ret [C.sl (List.take (b.toNat-a.toNat) (List.drop (0+a.toNat) (List.map aAt (aB5 (aAu (nds ns) (ens es)))))),C.int .i64 0]))))) (.ret [C.sl [],C.int .i64 1])) (.ret [C.sl [],C.int .i64 1])))):T (List C)).eval:=aAj (by kernel_rfl)
theorem aXm (l:List (List UInt8)) (a b:Int):(aD1 l a b).length≤l.length:=by
 unfold aD1
 split
 ·simp;omega
 ·simp
theorem bIt (l:List (List UInt8)) (a b:Int) (h:aFz l.length a b=true):List.take (b.toNat-a.toNat) (List.drop (0+a.toNat) (l.map aAt))=(aD1 l a b).map aAt:=by
 rw[Nat.zero_add]
 simp[aD1,h,List.map_take,List.map_drop]
theorem bS5 (m:List (List UInt8)) (h:m.length≤16777216):aBj (m.map aAt).length 16=true:=by unfold aBj;simp;omega
theorem bMf:aAa Tryz.prog aZk:=aA8 (by simp[aJk])
theorem aX6:aAx Tryz.prog 24 (sg [aB0,pI,pI] [rSl 9,rI]) aKm:=aA6 bMf aAb Tryz.func24 (by kernel_rfl) fun cs outs hk h=>by
 unfold aKm at h
 split at h
 ·simp only[Option.some.injEq,Prod.mk.injEq]at h
  obtain⟨h1,rfl⟩:=h
  rename_i ns es os ss r x a b
  have l1:=aRi h1
  rw[aAd,bAe]
  have e1':aB5 (aAu (nds ns) (ens es))=aC8 ns es:=rfl
  rw[e1']
  generalize aC8 ns es=l at l1 ⊢
  simp only[aA1,aA4,aA3,h1,aMi,decide_true,Bool.and_self,if_true,decide_eq_true_eq,List.length_map]
  by_cases c1:a<0
  ·have:aFz l.length a b=false:=by unfold aFz;simp;omega
   simp[c1,aD1,aEd,this]
  ·by_cases c2:b<a
   ·have:aFz l.length a b=false:=by unfold aFz;simp;omega
    simp[c1,c2,aD1,aEd,this]
   ·by_cases c3:(l.length:Int)<b
    ·have:aFz l.length a b=false:=by unfold aFz;simp;omega
     simp[c1,c2,c3,aD1,aEd,this]
    ·have hok:aFz l.length a b=true:=by unfold aFz;simp;omega
     have p1:0≤b:=by omega
     have p2:b≤(l.length:Int):=by omega
     have p3:0≤a:=by omega
     have p4:a≤b:=by omega
     have l2:=aXm l a b
     rw[bIt l a b hok]
     have hc:aEd l.length a b=0:=by simp[aEd,hok]
     rw[hc]
     generalize aD1 l a b=m at l2 ⊢
     have r2:=bS5 m (by omega)
     simp only[c1,c2,c3,p1,p2,p3,p4,if_false,if_true,decide_true,Bool.and_self,r2,aMi,aHw,Nat.zero_add,Bool.or_true,Bool.and_true]
 ·cases h
theorem bNx:aAa Tryz.prog aZq:=aA8 (by simp[aGm,aNd,bKo])
theorem aYf:aAx Tryz.prog 23 (sg [aB0,pI,pI] [rSl 9,rI]) aKm:=aA6 bNx aAb Tryz.func23 (by kernel_rfl) fun cs outs hk h=>by
 unfold aKm at h
 split at h
 ·simp only[Option.some.injEq,Prod.mk.injEq]at h
  obtain⟨h1,rfl⟩:=h
  rename_i ns es os ss r x a b
  have l1:=aRi h1
  rw[aAd,bB6]
  have e1':aB5 (aAu (nds ns) (ens es))=aC8 ns es:=rfl
  rw[e1']
  generalize aC8 ns es=l at l1 ⊢
  simp only[aA1,aA4,aA3,h1,aMi,decide_true,Bool.and_self,if_true,decide_eq_true_eq,List.length_map,inB,Bool.and_eq_true]
  by_cases hok:aFz l.length a b=true
  ·have hk:=hok
   unfold aFz at hk
   simp only[Bool.and_eq_true,decide_eq_true_eq]at hk
   have p1:0≤b:=by omega
   have p2:b≤(l.length:Int):=by omega
   have p3:0≤a:=by omega
   have p4:a≤b:=by omega
   have l2:=aXm l a b
   rw[bIt l a b hok]
   have hc:aEd l.length a b=0:=by simp[aEd,hok]
   rw[hc]
   generalize aD1 l a b=m at l2 ⊢
   have r2:m.length≤1099511627776:=by omega
   simp only[p1,p2,p3,p4,and_self,if_true,decide_true,Bool.and_self,r2,aMi,aEy,aHw,Bool.or_true,Bool.and_true,List.length_map]
  ·have hb:aFz l.length a b=false:=by simpa using hok
   have e2:aD1 l a b=[]:=by simp[aD1,hb]
   have e3:aEd l.length a b=1:=by simp[aEd,hb]
   rw[e2,e3]
   by_cases c1:0≤b∧b≤(l.length:Int)
   ·have c2:¬(0≤a∧a≤b):=fun c=>by
     apply hok
     unfold aFz
     simp only[Bool.and_eq_true,decide_eq_true_eq]
     omega
    simp only[c1,c2,and_self,if_true,if_false,List.map_nil]
   ·simp only[c1,if_false,List.map_nil]
 ·cases h
noncomputable section
abbrev Pl:=Int×Int
def ePl (p:Pl):List C:=[.int .i64 p.1,.int .i64 p.2]
def cGg (r:List C):Pl:=((r.getD 0 (.fn 0 [])).toInt,(r.getD 1 (.fn 0 [])).toInt)
def pls (rows:List (List C)):List Pl:=rows.map cGg
def aBt (s:Int) (os:List Int):Nat→List Pl
 |0=>[]
 |i+1=>aBt s os i++(if (i:Int) % s=0 then[((i:Int),os.getD i 0)]else[])
def aAy (s:Int) (os:List Int):List Pl:=if s<1 then[]else aBt s os os.length
def aI2 (a b:Int):Int:=if a<b∨IntKind.i64.wrap (a-b)<0 then -1 else IntKind.i64.wrap (a-b)
def bIz:Pl→List Pl→Option (List UInt8)
 |_,[]=>some []
 |q,p::r=>if aB4 (aI2 p.1 q.1)=[]∨aB4 (aI2 p.2 q.2)=[]then none else (bIz p r).map ((aB4 (aI2 p.1 q.1)++aB4 (aI2 p.2 q.2))++ ·)
def aB9 (l:List Pl):List UInt8:=match bIz (0,0) l with
 |some t=>aB4 l.length++t
 |none=>[]
def bQy:List Int→List UInt8→List UInt8
 |[],t=>t++[73,68,88,33]
 |x::r,t=>if aAl x 4=[]then[]else bQy r (t++aAl x 4)
def aBv (a b c d:Int):List UInt8:=bQy [a,b,c,d] []
def aC7 (v s b l:Int) (os:List Int) (e:Int):List UInt8 :=
 if aD7 v s b l=false∨aBa v (b+os.length)=[]∨aB9 (aAy s os)=[]∨aBv e os.length s 0=[]then[]
 else aBa v (b+os.length)++aB9 (aAy s os)++aBv e os.length s (aB6 0 (aBa v (b+os.length)++aB9 (aAy s os)++(aBv e os.length s 0).take 12):Nat)
def aEc (v b:Int):Int→List (List UInt8)→List UInt8→List Int→Option (List UInt8×List Int)
 |_,[],t,os=>some (t,os)
 |i,r::rs,t,os=>if 60<r.length then none else aEc v b (i+1) rs (t++aAf v (b+i) r) (os++[(t.length:Int)])
def aCk (v s b l:Int) (rs:List (List UInt8)):List UInt8 :=
 if aD7 v s b l=false∨1000<rs.length∨1000000000<b+rs.length then[]
 else match aEc v b 0 rs (aBe v s b l) []with
  |some (t,os)=>t++aC7 v s b l os t.length
  |none=>[]
def aG4:aCf:=fun cs=>match cs with
 |[.int .i64 s,.sl os]=>some (aAp [.int .i64] os&&decide (os.length≤1048576),[.sl ((aAy s (aDo os)).map ePl)])
 |_=>none
def bEx:aCf:=fun cs=>match cs with
 |[.int .i64 a,.int .i64 b]=>some (true,[.int .i64 (aI2 a b)])
 |_=>none
def aKb:aCf:=fun cs=>match cs with
 |[.sl r]=>some (aAp [.int .i64,.int .i64] r&&decide (r.length≤1048576),[.str (aB9 (pls r))])
 |_=>none
def aH5:aCf:=fun cs=>match cs with
 |[.int .i64 a,.int .i64 b,.int .i64 c,.int .i64 d]=>some (inB a (-9223372036854775808) 9223372036854775807&&(inB b (-9223372036854775808) 9223372036854775807&&(inB c (-9223372036854775808) 9223372036854775807&&inB d (-9223372036854775808) 9223372036854775807)),[.str (aBv a b c d)])
 |_=>none
def bFy:aCf:=fun cs=>match cs with
 |[.int .i64 v,.int .i64 s,.int .i64 b,.int .i64 l,.sl os,.int .i64 e]=>some (aAp [.int .i64] os&&(decide (os.length≤1048576)&&inB e (-9223372036854775808) 9223372036854775807),[.str (aC7 v s b l (aDo os) e)])
 |_=>none
def aR3:aCf:=fun cs=>match cs with
 |[.int .i64 v,.int .i64 s,.int .i64 b,.int .i64 l,.sl r]=>some (aAp [.str] r&&decide (r.length≤1048576),[.str (aCk v s b l (aCp r))])
 |_=>none
abbrev bLo:PTy:=.val false [.slice 3]
abbrev aUg:PTy:=.val false [.slice 9]
abbrev bYg:PTy:=.val false [.slice 153]
abbrev bYf:RTy:=⟨false,[(.slice 153,true)]⟩
def aJf (s:Int) (o:List (List C)) (n:Nat) (r:List (List C)) (j:Int):St:={slots:=[(0,aBf s),(1,.l (.sl o)),(5,.l (.ref 0 0 n)),(6,aBf j)],heap:=[(0,.arr 2 r)],next:=1,pins:=[]}
def aM6:Env:=mkE [(3,[0,1,5,6])] []
def bXz:Env:=mkE [] []
def aIj (r:List (List C)) (t:List UInt8) (a b j:Int):St:={slots:=[(0,.l (.sl r)),(3,aZu t),(4,.l (.ptr 0 0)),(5,aBf j)],heap:=[(0,.box [.i .i64 a,.i .i64 b])],next:=1,pins:=[]}
def aIl:Env:=mkE [(4,[0,3,4,5])] [(125,(sg [pI] [rS]),aDp),(154,(sg [pI,pI] [rI]),bEx)]
def aOj (t:List UInt8) (a b c d j:Int):St:={slots:=[(9,aZu t),(10,.l (.ref 0 0 4)),(11,aBf j)],heap:=[(0,.arr 1 [[.int .i64 a],[.int .i64 b],[.int .i64 c],[.int .i64 d]])],next:=1,pins:=[]}
def aOu:Env:=mkE [(4,[9,10,11])] [(88,(sg [pI,pI] [rS]),aGr)]
def bY0:Env:=mkE [] [(123,(sg [pS] [rI]),aEb),(105,(sg [aDr] [rB]),aEm),(89,(sg [pI,pI] [rS]),aF6),(136,(⟨[pI,bLo],[bYf],true⟩),aG4),(135,(⟨[bYg],[rS],true⟩),aKb),(137,(sg [pI,pI,pI,pI] [rS]),aH5)]
def bGj (v s b l:Int) (r:List (List C)) (n:Nat) (x:List (List C)) (q:Nat) (o:List (List C)) (j:Int):St:={slots:=[(1,.l (.sl r)),(2,.l (.ptr 0 0)),(5,.l (.ref 1 0 n)),(6,.l (.ref 2 0 q)),(7,aBf j)],heap:=[(0,.box [.i .i64 v,.i .i64 s,.i .i64 b,.i .i64 l]),(1,.arr 1 x),(2,.arr 1 o)],next:=3,pins:=[]}
def bGn:Env:=mkE [(6,[1,2,5,6,7])] [(105,(sg [aDr] [rB]),aEm),(86,(sg [aDr] [rS]),aDm),(91,(sg [pI,pI,pS] [rS]),aGq),(106,(⟨[aDr,bLo,pI],[rS],true⟩),bFy)]
end
theorem bA9 (H:List Pt→Nat→St→T (List C)) (s:Int) (o:List (List C)):(aAk aM6 aAc {params:=[pI,bLo],results:=[bYf],nested:=true} Tryz.f136 H [C.int .i64 s,C.sl o]).eval=((H [Pt.r,Pt.r,Pt.l,Pt.r,Pt.b] 9223372036854775808 (aJf (s) (o) (0) ([]) ((0:Int)))):T (List C)).eval:=aAj (by kernel_rfl)
theorem aI4 (H:List Pt→Nat→St→T (List C)) (s:Int) (o:List (List C)) (n:Nat) (r:List (List C)) (j:Int) (k:Nat):(aBl aM6 aAc {params:=[pI,bLo],results:=[bYf],nested:=true} Tryz.f136 H [Pt.r,Pt.r,Pt.l,Pt.r,Pt.b] k (aJf s o n r j)).eval=((.ask (decide (j<(↑o.length:Int))) (.ask (decide ((1:Int)≤s)) (.must (decide ¬s=(0:Int)) (.ask (decide (j.tmod s=(0:Int))) (.must (decide ((0:Int)≤j)&&decide (j<(↑o.length:Int))&&decide ((o.getD j.toNat []).length=1)) (.must (decide (0<(o.getD j.toNat []).length)&&C.is (K.int .i64) ((o.getD j.toNat []).getD 0 (C.fn 0 []))&&true) (.must (decide (n=r.length)&&aBj (r.length+1) 16&&(decide ((Nat.add 1 0).succ=2)&&true)) (H [Pt.r,Pt.r,Pt.l,Pt.r,Pt.b] k (aJf (s) (o) (r.length+1) (r.append [[C.int .i64 j,C.int .i64 ((o.getD j.toNat []).getD 0 (C.fn 0 [])).toInt]]) (IntKind.i64.wrap (j+(1:Int)))))))) (H [Pt.r,Pt.r,Pt.l,Pt.r,Pt.b] k (aJf (s) (o) (n) (r) (IntKind.i64.wrap (j+(1:Int))))))) (.must (decide (n=r.length)&&(true||r.all fun r=>r.all C.flat)&&true&&true&&true) (.ret [C.sl r]))) (.must (decide (n=r.length)&&(true||r.all fun r=>r.all C.flat)&&true&&true&&true) (.ret [C.sl r]))):T (List C)).eval:=aAj (by kernel_rfl)
theorem bRo (H:List Pt→Nat→St→T (List C)) (a:Int) (b:Int):(aAk bXz aAc (sg [pI,pI] [rI]) Tryz.f154 H [C.int .i64 a,C.int .i64 b]).eval=((.ask (decide (a<b)) (.ret [C.int .i64 (-1)]) (.ask (decide (IntKind.i64.wrap (a-b)<(0:Int))) (.ret [C.int .i64 (-1)]) (.ret [C.int .i64 (IntKind.i64.wrap (a-b))]))):T (List C)).eval:=aAj (by kernel_rfl)
theorem aV8 (H:List Pt→Nat→St→T (List C)) (r:List (List C)):(aAk aIl aAc {params:=[bYg],results:=[rS],nested:=true} Tryz.f135 H [C.sl r]).eval=((H [Pt.r,Pt.r,Pt.r,Pt.l,Pt.r,Pt.b] 9223372036854775808 (aIj (r) (aB4 (↑r.length:Int)) ((0:Int)) ((0:Int)) ((0:Int)))):T (List C)).eval:=aAj (by kernel_rfl)
theorem aJl (H:List Pt→Nat→St→T (List C)) (r:List (List C)) (t:List UInt8) (a:Int) (b:Int) (j:Int) (k:Nat):(aBl aIl aAc {params:=[bYg],results:=[rS],nested:=true} Tryz.f135 H [Pt.r,Pt.r,Pt.r,Pt.l,Pt.r,Pt.b] k (aIj r t a b j)).eval=((.ask (decide (j<(↑r.length:Int))) (.must (decide ((0:Int)≤j)&&decide (j<(↑r.length:Int))&&decide ((r.getD j.toNat []).length=2)) (.must (decide (0<(r.getD j.toNat []).length)&&C.is (K.int .i64) ((r.getD j.toNat []).getD 0 (C.fn 0 []))&&(decide (0+1<(r.getD j.toNat []).length)&&C.is (K.int .i64) ((r.getD j.toNat []).getD (0+1) (C.fn 0 []))&&true)) (.ask (aB4 (aI2 ((r.getD j.toNat []).getD 0 (C.fn 0 [])).toInt a)==[]) (.ret [C.str []]) (.ask (aB4 (aI2 ((r.getD j.toNat []).getD (0+1) (C.fn 0 [])).toInt b)==[]) (.ret [C.str []]) (.must (decide (t.length+(aB4 (aI2 ((r.getD j.toNat []).getD 0 (C.fn 0 [])).toInt a)).length≤9223372036854775807)) (.must (decide ((t++aB4 (aI2 ((r.getD j.toNat []).getD 0 (C.fn 0 [])).toInt a)).length+(aB4 (aI2 ((r.getD j.toNat []).getD (0+1) (C.fn 0 [])).toInt b)).length≤9223372036854775807)) (H [Pt.r,Pt.r,Pt.r,Pt.l,Pt.r,Pt.b] k (aIj (r) (t++aB4 (aI2 ((r.getD j.toNat []).getD 0 (C.fn 0 [])).toInt a)++aB4 (aI2 ((r.getD j.toNat []).getD (0+1) (C.fn 0 [])).toInt b)) (((r.getD j.toNat []).getD 0 (C.fn 0 [])).toInt) (((r.getD j.toNat []).getD (0+1) (C.fn 0 [])).toInt) (IntKind.i64.wrap (j+(1:Int))))))))))) (.ret [C.str t])):T (List C)).eval:=aAj (by kernel_rfl)
theorem bDf (H:List Pt→Nat→St→T (List C)) (a:Int) (b:Int) (c:Int) (d:Int):(aAk aOu aAc (sg [pI,pI,pI,pI] [rS]) Tryz.f137 H [C.int .i64 a,C.int .i64 b,C.int .i64 c,C.int .i64 d]).eval=((H [Pt.r,Pt.r,Pt.r,Pt.l,Pt.r,Pt.b] 9223372036854775808 (aOj ([]) (a) (b) (c) (d) ((0:Int)))):T (List C)).eval:=aAj (by kernel_rfl)
theorem aMr (H:List Pt→Nat→St→T (List C)) (t:List UInt8) (a:Int) (b:Int) (c:Int) (d:Int) (j:Int) (k:Nat):(aBl aOu aAc (sg [pI,pI,pI,pI] [rS]) Tryz.f137 H [Pt.r,Pt.r,Pt.r,Pt.l,Pt.r,Pt.b] k (aOj t a b c d j)).eval=((.ask (decide (j<(4:Int))) (.must (decide ((0:Int)≤j)&&decide (j<(↑(4:Nat):Int))) (.must (decide (0+j.toNat<(((Nat.add 1 0).succ.add 0).succ.add 0).succ)&&(decide (0<([[C.int .i64 a],[C.int .i64 b],[C.int .i64 c],[C.int .i64 d]].getD (0+j.toNat) []).length)&&C.is (K.int .i64) (([[C.int .i64 a],[C.int .i64 b],[C.int .i64 c],[C.int .i64 d]].getD (0+j.toNat) []).getD 0 (C.fn 0 []))&&true)) (.must (decide ((-9223372036854775808:Int)≤(([[C.int .i64 a],[C.int .i64 b],[C.int .i64 c],[C.int .i64 d]].getD (0+j.toNat) []).getD 0 (C.fn 0 [])).toInt)&&decide ((([[C.int .i64 a],[C.int .i64 b],[C.int .i64 c],[C.int .i64 d]].getD (0+j.toNat) []).getD 0 (C.fn 0 [])).toInt≤(9223372036854775807:Int))) (.ask (aAl (([[C.int .i64 a],[C.int .i64 b],[C.int .i64 c],[C.int .i64 d]].getD (0+j.toNat) []).getD 0 (C.fn 0 [])).toInt 4==[]) (.ret [C.str []]) (.must (decide (t.length+(aAl (([[C.int .i64 a],[C.int .i64 b],[C.int .i64 c],[C.int .i64 d]].getD (0+j.toNat) []).getD 0 (C.fn 0 [])).toInt 4).length≤9223372036854775807)) (H [Pt.r,Pt.r,Pt.r,Pt.l,Pt.r,Pt.b] k (aOj (t++aAl (([[C.int .i64 a],[C.int .i64 b],[C.int .i64 c],[C.int .i64 d]].getD (0+j.toNat) []).getD 0 (C.fn 0 [])).toInt 4) (a) (b) (c) (d) (IntKind.i64.wrap (j+(1:Int)))))))))) (.must (decide (t.length+4≤9223372036854775807)) (.ret [C.str (t++[(73:UInt8),68,88,33])]))):T (List C)).eval:=aAj (by kernel_rfl)
theorem bRp (H:List Pt→Nat→St→T (List C)) (v:Int) (s:Int) (b:Int) (l:Int) (o:List (List C)) (e:Int):(aAk bY0 aAc {params:=[aDr,bLo,pI],results:=[rS],nested:=true} Tryz.f106 H [C.int .i64 v,C.int .i64 s,C.int .i64 b,C.int .i64 l,C.sl o,C.int .i64 e]).eval=((.ask (aD7 v s b l) (.must (aAp [K.int .i64] o&&decide (o.length≤1048576)) (.must ((true&&(List.map ePl (aAy s (aDo o))).all fun row=>decide (row.length=2))&&true&&true&&true) (.must (aAp [K.int .i64,K.int .i64] (List.take (List.map ePl (aAy s (aDo o))).length (List.map ePl (aAy s (aDo o))))&&decide ((List.take (List.map ePl (aAy s (aDo o))).length (List.map ePl (aAy s (aDo o)))).length≤1048576)) (.must (inB e (-9223372036854775808) 9223372036854775807&&(inB (↑o.length:Int) (-9223372036854775808) 9223372036854775807&&(inB s (-9223372036854775808) 9223372036854775807&&inB 0 (-9223372036854775808) 9223372036854775807))) (.ask (aBa v (IntKind.i64.wrap (b+(↑o.length:Int)))==[]) (.ret [C.str []]) (.ask (aB9 (pls (List.take (List.map ePl (aAy s (aDo o))).length (List.map ePl (aAy s (aDo o)))))==[]) (.ret [C.str []]) (.ask (aBv e (↑o.length:Int) s 0==[]) (.ret [C.str []]) (.must (decide ((aBa v (IntKind.i64.wrap (b+(↑o.length:Int)))).length+(aB9 (pls (List.take (List.map ePl (aAy s (aDo o))).length (List.map ePl (aAy s (aDo o)))))).length≤9223372036854775807)) (.must (decide ((0:Int)≤(12:Int))&&decide ((12:Int)≤(↑(aBv e (↑o.length:Int) s 0).length:Int))) (.must (decide ((aBa v (IntKind.i64.wrap (b+(↑o.length:Int)))++aB9 (pls (List.take (List.map ePl (aAy s (aDo o))).length (List.map ePl (aAy s (aDo o)))))).length+(List.drop 0 (List.take (Int.toNat 12) (aBv e (↑o.length:Int) s 0))).length≤9223372036854775807)) (.must (decide ((aBa v (IntKind.i64.wrap (b+(↑o.length:Int)))++aB9 (pls (List.take (List.map ePl (aAy s (aDo o))).length (List.map ePl (aAy s (aDo o)))))++List.drop 0 (List.take (Int.toNat 12) (aBv e (↑o.length:Int) s 0))).length≤281474976710656)) (.must (decide ((aBa v (IntKind.i64.wrap (b+(↑o.length:Int)))).length+(aB9 (pls (List.take (List.map ePl (aAy s (aDo o))).length (List.map ePl (aAy s (aDo o)))))).length≤9223372036854775807)) (.must (inB e (-9223372036854775808) 9223372036854775807&&(inB (↑o.length:Int) (-9223372036854775808) 9223372036854775807&&(inB s (-9223372036854775808) 9223372036854775807&&inB (Int.ofNat (aB6 0 (aBa v (IntKind.i64.wrap (b+(↑o.length:Int)))++aB9 (pls (List.take (List.map ePl (aAy s (aDo o))).length (List.map ePl (aAy s (aDo o)))))++List.drop 0 (List.take (Int.toNat 12) (aBv e (↑o.length:Int) s 0))))) (-9223372036854775808:Int) (9223372036854775807:Int)))) (.must (decide ((aBa v (IntKind.i64.wrap (b+(↑o.length:Int)))++aB9 (pls (List.take (List.map ePl (aAy s (aDo o))).length (List.map ePl (aAy s (aDo o)))))).length+(aBv e (↑o.length:Int) s (Int.ofNat (aB6 0 (aBa v (IntKind.i64.wrap (b+(↑o.length:Int)))++aB9 (pls (List.take (List.map ePl (aAy s (aDo o))).length (List.map ePl (aAy s (aDo o)))))++List.drop 0 (List.take (Int.toNat 12) (aBv e (↑o.length:Int) s 0)))))).length≤9223372036854775807)) (.ret [C.str (aBa v (IntKind.i64.wrap (b+(↑o.length:Int)))++aB9 (pls (List.take (List.map ePl (aAy s (aDo o))).length (List.map ePl (aAy s (aDo o)))))++aBv e (↑o.length:Int) s (Int.ofNat (aB6 0 (aBa v (IntKind.i64.wrap (b+(↑o.length:Int)))++aB9 (pls (List.take (List.map ePl (aAy s (aDo o))).length (List.map ePl (aAy s (aDo o)))))++List.drop 0 (List.take (Int.toNat 12) (aBv e (↑o.length:Int) s 0))))))]))))))))))))))) (.ret [C.str []])):T (List C)).eval:=aAj (by kernel_rfl)
theorem bRb (H:List Pt→Nat→St→T (List C)) (v:Int) (s:Int) (b:Int) (l:Int) (r:List (List C)):(aAk bGn aAc {params:=[aDr,aUg],results:=[rS],nested:=true} Tryz.f70 H [C.int .i64 v,C.int .i64 s,C.int .i64 b,C.int .i64 l,C.sl r]).eval=((.ask (aD7 v s b l) (.ask (decide ((1000:Int)<(↑r.length:Int))) (.ret [C.str []]) (.ask (decide ((1000000000:Int)<IntKind.i64.wrap (b+(↑r.length:Int)))) (.ret [C.str []]) (H [Pt.r,Pt.r,Pt.r,Pt.r,Pt.l,Pt.r,Pt.b] 9223372036854775808 (bGj (v) (s) (b) (l) (r) ((aBe v s b l).length) (aAe (aBe v s b l)) (0) ([]) ((0:Int)))))) (.ret [C.str []])):T (List C)).eval:=aAj (by kernel_rfl)
theorem aUc (H:List Pt→Nat→St→T (List C)) (v:Int) (s:Int) (b:Int) (l:Int) (r:List (List C)) (n:Nat) (x:List (List C)) (q:Nat) (o:List (List C)) (j:Int) (k:Nat):(aBl bGn aAc {params:=[aDr,aUg],results:=[rS],nested:=true} Tryz.f70 H [Pt.r,Pt.r,Pt.r,Pt.r,Pt.l,Pt.r,Pt.b] k (bGj v s b l r n x q o j)).eval=((.ask (decide (j<(↑r.length:Int))) (.must (decide ((0:Int)≤j)&&decide (j<(↑r.length:Int))&&decide ((r.getD j.toNat []).length=1)) (.must (decide (0<(r.getD j.toNat []).length)&&C.is K.str ((r.getD j.toNat []).getD 0 (C.fn 0 []))&&true) (.ask (decide ((60:Int)<(↑((r.getD j.toNat []).getD 0 (C.fn 0 [])).toStr.length:Int))) (.ret [C.str []]) (.must (decide (q=o.length)&&aBj (o.length+1) 8&&(decide (1=1)&&true)) (.must (decide ((0:Int)≤j)&&decide (j<(↑r.length:Int))&&decide ((r.getD j.toNat []).length=1)) (.must (decide (0<(r.getD j.toNat []).length)&&C.is K.str ((r.getD j.toNat []).getD 0 (C.fn 0 []))&&true) (.must (decide (((r.getD j.toNat []).getD 0 (C.fn 0 [])).toStr.length≤281474976710656)) (.must (decide (n=x.length)&&aBj (x.length+(aAe (aAf v (IntKind.i64.wrap (b+j)) ((r.getD j.toNat []).getD 0 (C.fn 0 [])).toStr)).length) 1&&(aAe (aAf v (IntKind.i64.wrap (b+j)) ((r.getD j.toNat []).getD 0 (C.fn 0 [])).toStr)).all fun r=>decide (r.length=1)) (H [Pt.r,Pt.r,Pt.r,Pt.r,Pt.l,Pt.r,Pt.b] k (bGj (v) (s) (b) (l) (r) (x.length+(aAe (aAf v (IntKind.i64.wrap (b+j)) ((r.getD j.toNat []).getD 0 (C.fn 0 [])).toStr)).length) (x.append (aAe (aAf v (IntKind.i64.wrap (b+j)) ((r.getD j.toNat []).getD 0 (C.fn 0 [])).toStr))) (o.length+1) (o.append [[C.int .i64 (↑n:Int)]]) (IntKind.i64.wrap (j+(1:Int))))))))))))) (.must (aAp [K.int .i64] (List.take q o)&&(decide ((List.take q o).length≤1048576)&&inB (↑n:Int) (-9223372036854775808) 9223372036854775807)) (.must (decide (n=x.length)&&aBj (x.length+(aAe (aC7 v s b l (aDo (List.take q o)) (↑n:Int))).length) 1&&(aAe (aC7 v s b l (aDo (List.take q o)) (↑n:Int))).all fun r=>decide (r.length=1)) (.must ((List.take (x.length+(aAe (aC7 v s b l (aDo (List.take q o)) (↑n:Int))).length) (x.append (aAe (aC7 v s b l (aDo (List.take q o)) (↑n:Int))))).all aGw) (.ret [C.str (aC0 (List.take (x.length+(aAe (aC7 v s b l (aDo (List.take q o)) (↑n:Int))).length) (x.append (aAe (aC7 v s b l (aDo (List.take q o)) (↑n:Int))))))]))))):T (List C)).eval:=aAj (by kernel_rfl)
theorem cEl {r:List C} (h:aBm r [.int .i64,.int .i64]=true):r=ePl (cGg r):=by
 cases r with
 |nil=>simp[aBm]at h
 |cons c r =>
  cases r with
  |nil=>simp[aBm]at h
  |cons d r =>
   cases r with
   |cons e r=>simp[aBm]at h
   |nil=>cases c<;>simp[aBm,C.is]at h<;>cases d<;>simp[aBm,C.is]at h<;>(obtain⟨rfl,rfl⟩:=h;rfl)
theorem bPc {rows:List (List C)} (h:aAp [.int .i64,.int .i64] rows=true):rows=(pls rows).map ePl:=by
 simp only[aAp,List.all_eq_true]at h
 simp only[pls,List.map_map]
 rw[List.map_congr_left (g:=id)]
 ·simp
 ·intro r hr;exact (cEl (h r hr)).symm
@[simp] theorem bVj (l:List Pl):pls (l.map ePl)=l:=by simp[pls,cGg,ePl,Function.comp_def,C.toInt]
@[simp] theorem bBt (l:List Pl):aAp [.int .i64,.int .i64] (l.map ePl)=true:=by simp[aAp,aBm,C.is,ePl]
theorem bW4 (l:List Pl):((l.map ePl).all fun row=>decide (row.length=2))=true:=by simp[ePl]
theorem aJo (s:Int) (os:List Int):∀ i,(aBt s os i).length≤i
 |0=>Nat.le_refl _
 |i+1=>by
  have:=aJo s os i
  simp only[aBt,List.length_append]
  split<;>simp<;>omega
theorem aO3 (s:Int) (os:List Int):(aAy s os).length≤os.length:=by
 unfold aAy
 split
 ·simp
 ·exact aJo _ _ _
theorem bPj:∀ (l:List Pl) (q:Pl) (t:List UInt8),bIz q l=some t→t.length≤10*l.length
 |[],q,t,h=>by simp[bIz]at h;subst h;simp
 |p::r,q,t,h=>by
  unfold bIz at h
  split at h
  ·cases h
  ·cases hr:bIz p r with
   |none=>rw[hr]at h;cases h
   |some u =>
    rw[hr]at h
    simp only[Option.map_some,Option.some.injEq]at h
    subst h
    have:=bPj r p u hr
    have h1:=aD0 (aI2 p.1 q.1)
    have h2:=aD0 (aI2 p.2 q.2)
    simp only[List.length_append,List.length_cons]
    omega
theorem aKa (l:List Pl):(aB9 l).length≤5+10*l.length:=by
 unfold aB9
 cases h:bIz (0,0) l with
 |none=>simp
 |some t =>
  have:=bPj l _ t h
  have h1:=aD0 (l.length:Int)
  simp only[List.length_append]
  omega
theorem bOy:∀ (l:List Int) (t:List UInt8),bQy l t=[]∨(bQy l t).length=t.length+4*l.length+4
 |[],t=>.inr (by simp[bQy])
 |x::r,t=>by
  unfold bQy
  split
  ·exact .inl rfl
  ·rename_i hx
   have hf:(aAl x 4).length=4:=by
    unfold aAl at hx ⊢
    split at hx
    ·rename_i hc;rw[if_pos hc,aCe];rfl
    ·exact absurd rfl hx
   rcases bOy r (t++aAl x 4)with h | h
   ·exact .inl h
   ·right;rw[h];simp[hf];omega
theorem aPt (a b c d:Int):aBv a b c d=[]∨(aBv a b c d).length=20:=bOy [a,b,c,d] []
theorem aT1 (a b c d:Int):(aBv a b c d).length≤20:=by
 rcases aPt a b c d with h | h<;>rw[h]<;>simp
theorem aJ8 (v s b l:Int):(aBe v s b l).length≤60:=by
 unfold aBe aGn
 have h1:=aBn v 1
 have h2:=aBn s 1
 have h3:=aBn b 8
 have h4:=aBn l 4
 have h5:=fun x:Int=>aBn x 4
 split
 ·simp only[List.length_append,List.length_cons,List.length_nil]
  have:=h5 ((aB6 0 ([83,69,71,77]++aAl v 1++aAl s 1++[0,0]++aAl b 8++aAl l 4):Nat):Int)
  omega
 ·simp
theorem aQb (v s b l:Int) (os:List Int) (e:Int):(aC7 v s b l os e).length≤41+10*os.length:=by
 unfold aC7
 split
 ·simp
 ·have h1:=aLx v (b+os.length)
  have h2:=aKa (aAy s os)
  have h3:=aO3 s os
  simp only[List.length_append]
  have h4:=aT1 e os.length s (aB6 0 (aBa v (b+os.length)++aB9 (aAy s os)++(aBv e os.length s 0).take 12):Nat)
  omega
theorem aT6 (v b:Int):∀ (rs:List (List UInt8)) (i:Int) (t:List UInt8) (os:List Int) (x:List UInt8×List Int),aEc v b i rs t os=some x→x.1.length≤t.length+90*rs.length∧x.2.length=os.length+rs.length
 |[],i,t,os,x,h=>by simp[aEc]at h;subst h;simp
 |r::rs,i,t,os,x,h=>by
  unfold aEc at h
  split at h
  ·cases h
  ·have:=aT6 v b rs _ _ _ x h
   have h1:=aE9 v (b+i) r
   simp only[List.length_append,List.length_cons,List.length_nil]at this ⊢
   omega
theorem aQ0 (v s b l:Int) (rs:List (List UInt8)):(aCk v s b l rs).length≤120000:=by
 unfold aCk
 split
 ·simp
 ·rename_i hc
  have hl:rs.length≤1000:=by
   have:¬1000<rs.length:=fun h=>hc (.inr (.inl h))
   omega
  cases h:aEc v b 0 rs (aBe v s b l) []with
  |none=>simp
  |some x =>
   obtain⟨t,os⟩:=x
   have h1:=aT6 v b rs 0 _ _ _ h
   have h2:=aJ8 v s b l
   have h3:=aQb v s b l os t.length
   simp only[List.length_append,List.length_nil]at h1 ⊢
   omega
theorem bAa (s:Int) (os:List Int) (hs:1≤s) (hl:os.length≤1048576):∀ (f n i:Nat),i+f=os.length→f<n →
  (aBr aM6 aAc (⟨[pI,bLo],[bYf],true⟩) Tryz.f136 [.r,.r,.l,.r,.b] n (aJf s (os.map aIu) (aBt s os i).length ((aBt s os i).map ePl) i)).eval=some [.sl ((aBt s os os.length).map ePl)]:=by
 intro f
 induction f with
 |zero =>
  intro n i h1 h2
  obtain⟨n,rfl⟩:∃ q,n=q+1:=⟨n-1,by omega⟩
  rw[aAv _ _ _ _ _ _ _ (by kernel_rfl),aI4]
  have c:¬((i:Int)<(os.length:Int)):=by omega
  have ei:i=os.length:=by omega
  simp only[List.length_map,aA4,aA1,aA3,decide_eq_true_eq,c,if_false,decide_true,Bool.true_or,Bool.and_self,if_true]
  rw[ei]
 |succ f ih =>
  intro n i h1 h2
  obtain⟨n,rfl⟩:∃ q,n=q+1:=⟨n-1,by omega⟩
  rw[aAv _ _ _ _ _ _ _ (by kernel_rfl),aI4]
  have hi:i<os.length:=by omega
  have c:(i:Int)<(os.length:Int):=by omega
  have z:(0:Int)≤(i:Int):=by omega
  have ns:¬s=0:=by omega
  have tm:(i:Int).tmod s=(i:Int) % s:=Int.tmod_eq_emod_of_nonneg z
  have g:=aBc aIu os 0 i hi
  have w:IntKind.i64.wrap ((i:Int)+1)=((i+1:Nat):Int):=by rw[aAh]<;>omega
  have pl:=aJo s os i
  have ro:aBj ((aBt s os i).length+1) 16=true:=by simp only[aBj,decide_eq_true_eq];omega
  have e:=ih n (i+1) (by omega) (by omega)
  simp only[List.length_map,aA4,aA1,decide_eq_true_eq,c,hs,ns,tm,z,Int.toNat_natCast,g,w,ro,not_false_eq_true,if_true,decide_true,Bool.and_true,Bool.true_and,List.length_cons,List.length_nil,Nat.zero_add,Nat.zero_lt_one,C.is,beq_self_eq_true,List.getD_cons_zero,C.toInt]
  by_cases hm:(i:Int) % s=0
  ·have ep:aBt s os (i+1)=aBt s os i++[((i:Int),os.getD i 0)]:=by simp only[aBt,hm,if_true]
   rw[ep,List.map_append,List.length_append]at e
   simp only[hm,if_true]
   exact e
  ·have ep:aBt s os (i+1)=aBt s os i:=by simp only[aBt,hm,if_false,List.append_nil]
   rw[ep]at e
   simp only[hm,if_false]
   exact e
theorem bMd:aAa Tryz.prog aM6:=aA8 (by simp[])
theorem aX4:aAx Tryz.prog 136 (⟨[pI,bLo],[bYf],true⟩) aG4:=aA6 bMd aAb Tryz.func136 (by kernel_rfl) fun cs outs hk h=>by
 unfold aG4 at h
 split at h
 ·simp only[Option.some.injEq,Prod.mk.injEq,Bool.and_eq_true,decide_eq_true_eq]at h
  obtain⟨⟨h1,h2⟩,rfl⟩:=h
  rename_i s o
  have hr:=aMx h1
  generalize aDo o=os at hr ⊢
  subst hr
  rw[List.length_map]at h2
  rw[aAd,bA9]
  by_cases hs:1≤s
  ·have e:=bAa s os hs h2 os.length 9223372036854775808 0 (by omega) (by omega)
   have ep:aAy s os=aBt s os os.length:=by unfold aAy;rw[if_neg (by omega)]
   rw[ep]
   exact e
  ·have ep:aAy s os=[]:=by unfold aAy;rw[if_pos (by omega)]
   rw[ep,aAv _ _ _ _ _ 9223372036854775807 _ (by kernel_rfl),aI4]
   by_cases c:(0:Int)<(os.length:Int)
   ·simp only[List.length_map,aA4,aA1,aA3,decide_eq_true_eq,c,hs,if_true,if_false];rfl
   ·simp only[List.length_map,aA4,aA1,aA3,decide_eq_true_eq,c,if_false];rfl
 ·cases h
theorem cCd:aAa Tryz.prog bXz:=aA8 (by simp[])
theorem bMh:aAx Tryz.prog 154 (sg [pI,pI] [rI]) bEx:=aA6 cCd aAb Tryz.func154 (by kernel_rfl) fun cs outs hk h=>by
 unfold bEx at h
 split at h
 ·simp only[Option.some.injEq,Prod.mk.injEq,true_and]at h
  rename_i a b
  rw[←h,aAd,bRo]
  unfold aI2
  by_cases c:a<b
  ·simp[aA4,aA3,c]
  ·by_cases d:IntKind.i64.wrap (a-b)<0<;>simp[aA4,aA3,c,d]
 ·cases h
theorem aV9 (l:List Pl) (hl:l.length≤1048576):∀ (f n i:Nat) (q:Pl) (t:List UInt8),i+f=l.length→f<n→t.length≤5+10*i →
  (aBr aIl aAc (⟨[bYg],[rS],true⟩) Tryz.f135 [.r,.r,.r,.l,.r,.b] n (aIj (l.map ePl) t q.1 q.2 i)).eval=some [.str (match bIz q (l.drop i)with | some x=>t++x | none=>[])]:=by
 intro f
 induction f with
 |zero =>
  intro n i q t h1 h2 h3
  obtain⟨n,rfl⟩:∃ q,n=q+1:=⟨n-1,by omega⟩
  rw[aAv _ _ _ _ _ _ _ (by kernel_rfl),aJl]
  have c:¬((i:Int)<(l.length:Int)):=by omega
  have hd:l.drop i=[]:=List.drop_eq_nil_of_le (by omega)
  simp only[List.length_map,aA4,aA3,decide_eq_true_eq,c,if_false,hd,bIz,List.append_nil]
 |succ f ih =>
  intro n i q t h1 h2 h3
  obtain⟨n,rfl⟩:∃ q,n=q+1:=⟨n-1,by omega⟩
  rw[aAv _ _ _ _ _ _ _ (by kernel_rfl),aJl]
  have hi:i<l.length:=by omega
  have c:(i:Int)<(l.length:Int):=by omega
  have z:(0:Int)≤(i:Int):=by omega
  have g:=aBc ePl l (0,0) i hi
  have hd:=aBx l i (0,0) hi
  generalize l.getD i (0,0)=p at g hd
  have w:IntKind.i64.wrap ((i:Int)+1)=((i+1:Nat):Int):=by rw[aAh]<;>omega
  have v1:=aD0 (aI2 p.1 q.1)
  have v2:=aD0 (aI2 p.2 q.2)
  have m1:t.length+(aB4 (aI2 p.1 q.1)).length≤9223372036854775807:=by omega
  have m2:t.length+(aB4 (aI2 p.1 q.1)).length+(aB4 (aI2 p.2 q.2)).length≤9223372036854775807:=by omega
  have e:=ih n (i+1) p (t++aB4 (aI2 p.1 q.1)++aB4 (aI2 p.2 q.2)) (by omega) (by omega) (by simp only[List.length_append];omega)
  rw[hd]
  simp only[List.length_map,aA4,aA1,aA3,decide_eq_true_eq,c,z,Int.toNat_natCast,g,w,if_true,decide_true,Bool.and_true,Bool.true_and,ePl,List.length_cons,List.length_nil,C.is,beq_self_eq_true,List.getD_cons_zero,List.getD_cons_succ,C.toInt,Nat.zero_add,Nat.reduceAdd,Nat.reduceLT,beq_iff_eq,List.length_append,m1,m2,bIz]
  by_cases a1:aB4 (aI2 p.1 q.1)=[]
  ·simp only[a1,true_or,if_true]
  ·by_cases a2:aB4 (aI2 p.2 q.2)=[]
   ·simp only[a1,a2,or_true,if_true,if_false]
   ·simp only[a1,a2,or_self,if_false]
    refine e.trans ?_
    cases bIz p (l.drop (i+1))with
    |none=>rfl
    |some x=>simp only[Option.map_some,List.append_assoc]
theorem bDv:aAa Tryz.prog aIl:=aA8 (by simp[aK6,bMh])
theorem aTe:aAx Tryz.prog 135 (⟨[bYg],[rS],true⟩) aKb:=aA6 bDv aAb Tryz.func135 (by kernel_rfl) fun cs outs hk h=>by
 unfold aKb at h
 split at h
 ·simp only[Option.some.injEq,Prod.mk.injEq,Bool.and_eq_true,decide_eq_true_eq]at h
  obtain⟨⟨h1,h2⟩,rfl⟩:=h
  rename_i r
  have hr:=bPc h1
  generalize pls r=l at hr ⊢
  subst hr
  rw[List.length_map]at h2
  rw[aAd,aV8,List.length_map]
  have e:=aV9 l h2 l.length 9223372036854775808 0 (0,0) (aB4 (l.length:Int)) (by omega) (by omega) (by have:=aD0 (l.length:Int);omega)
  exact e
 ·cases h
theorem bWx (a b c d:Int) (i:Nat) (hi:i<4):([[C.int .i64 a],[C.int .i64 b],[C.int .i64 c],[C.int .i64 d]]:List (List C)).getD i []=aIu (([a,b,c,d]:List Int).getD i 0):=by
 exact aBc aIu [a,b,c,d] 0 i hi
theorem bDg (a b c d:Int) (hx:∀ i,i<4→ -9223372036854775808≤([a,b,c,d]:List Int).getD i 0∧([a,b,c,d]:List Int).getD i 0≤9223372036854775807):∀ (f n i:Nat) (t:List UInt8),i+f=4→f<n→t.length≤8*i →
  (aBr aOu aAc (sg [pI,pI,pI,pI] [rS]) Tryz.f137 [.r,.r,.r,.l,.r,.b] n (aOj t a b c d i)).eval=some [.str (bQy (([a,b,c,d]:List Int).drop i) t)]:=by
 intro f
 induction f with
 |zero =>
  intro n i t h1 h2 h3
  obtain⟨n,rfl⟩:∃ q,n=q+1:=⟨n-1,by omega⟩
  rw[aAv _ _ _ _ _ _ _ (by kernel_rfl),aMr]
  have c4:¬((i:Int)<4):=by omega
  have hd:([a,b,c,d]:List Int).drop i=[]:=List.drop_eq_nil_of_le (by simp;omega)
  have m:t.length+4≤9223372036854775807:=by omega
  simp only[aA4,aA1,aA3,decide_eq_true_eq,c4,if_false,hd,bQy,m,if_true]
 |succ f ih =>
  intro n i t h1 h2 h3
  obtain⟨n,rfl⟩:∃ q,n=q+1:=⟨n-1,by omega⟩
  rw[aAv _ _ _ _ _ _ _ (by kernel_rfl),aMr]
  have hi:i<4:=by omega
  have c4:(i:Int)<4:=by omega
  have z:(0:Int)≤(i:Int):=by omega
  have g:=bWx a b c d i hi
  have hd:=aBx ([a,b,c,d]:List Int) i 0 hi
  have hx1:=hx i hi
  generalize ([a,b,c,d]:List Int).getD i 0=x at g hd hx1
  have w:IntKind.i64.wrap ((i:Int)+1)=((i+1:Nat):Int):=by rw[aAh]<;>omega
  have v1:=aBn x 4
  have m1:t.length+(aAl x 4).length≤9223372036854775807:=by omega
  have e:=ih n (i+1) (t++aAl x 4) (by omega) (by omega) (by simp only[List.length_append];omega)
  have k1:i<(((Nat.add 1 0).succ.add 0).succ.add 0).succ:=by show i<4;omega
  rw[hd]
  have c4':(i:Int)<((4:Nat):Int):=by omega
  simp only[aA4,aA1,aA3,decide_eq_true_eq,c4,c4',z,Int.toNat_natCast,k1,g,w,if_true,decide_true,Bool.and_true,Bool.true_and,Bool.and_self,List.length_cons,List.length_nil,C.is,beq_self_eq_true,List.getD_cons_zero,C.toInt,Nat.zero_add,Nat.zero_lt_one,hx1.1,hx1.2,beq_iff_eq,m1,bQy]
  by_cases a1:aAl x 4=[]
  ·simp only[a1,if_true]
  ·simp only[a1,if_false]
   exact e
theorem bR3:aAa Tryz.prog aOu:=aA8 (by simp[aFp])
theorem aZz:aAx Tryz.prog 137 (sg [pI,pI,pI,pI] [rS]) aH5:=aA6 bR3 aAb Tryz.func137 (by kernel_rfl) fun cs outs hk h=>by
 unfold aH5 at h
 split at h
 ·simp only[Option.some.injEq,Prod.mk.injEq,Bool.and_eq_true,aBi]at h
  obtain⟨⟨ha,hb,hc,hd⟩,rfl⟩:=h
  rename_i a b c d
  rw[aAd,bDf]
  exact bDg a b c d (fun i hi=>by
   match i,hi with
   |0,_=>exact ha
   |1,_=>exact hb
   |2,_=>exact hc
   |3,_=>exact hd) 4 9223372036854775808 0 [] (by omega) (by omega) (by simp)
 ·cases h
theorem cCe:aAa Tryz.prog bY0:=aA8 (by simp[aJj,aLi,aPf,aX4,aTe,aZz])
theorem bMk:aAx Tryz.prog 106 (⟨[aDr,bLo,pI],[rS],true⟩) bFy:=aA6 cCe aAb Tryz.func106 (by kernel_rfl) fun cs outs hk h=>by
 unfold bFy at h
 split at h
 ·simp only[Option.some.injEq,Prod.mk.injEq,Bool.and_eq_true,decide_eq_true_eq,aBi]at h
  obtain⟨⟨h1,h2,h3⟩,rfl⟩:=h
  rename_i v s b l o e
  have hr:=aMx h1
  rw[aAd,bRp]
  generalize aDo o=os at hr ⊢
  subst hr
  simp only[List.length_map]at h1 h2 ⊢
  by_cases hh:aD7 v s b l=true
  ·obtain⟨hv,hs,hb,hl⟩:=(aDi v s b l).1 hh
   have w:IntKind.i64.wrap (b+(os.length:Int))=b+os.length:=by rw[aAh]<;>omega
   have pl:=aO3 s os
   have tk:List.take (aAy s os).length (List.map ePl (aAy s os))=List.map ePl (aAy s os):=List.take_of_length_le (by simp)
   have i1:inB e (-9223372036854775808) 9223372036854775807=true:=(aBi _ _ _).2 h3
   have i2:inB (os.length:Int) (-9223372036854775808) 9223372036854775807=true:=(aBi _ _ _).2 ⟨by omega,by omega⟩
   have i3:inB s (-9223372036854775808) 9223372036854775807=true:=(aBi _ _ _).2 ⟨by omega,by omega⟩
   have i4:inB 0 (-9223372036854775808) 9223372036854775807=true:=rfl
   have l1:=aLx v (b+os.length)
   have l2:=aKa (aAy s os)
   have p1:(aAy s os).length≤1048576:=by omega
   simp only[aA4,aA1,aA3,hh,if_true,w,tk,bVj,bW4,bBt,h1,h2,i1,i2,i3,i4,List.length_map,p1,decide_true,Bool.and_self,Bool.true_and,beq_iff_eq,List.drop_zero]
   unfold aC7
   by_cases c1:aBa v (b+os.length)=[]
   ·rw[if_pos c1,if_pos (.inr (.inl c1))]
   ·by_cases c2:aB9 (aAy s os)=[]
    ·rw[if_neg c1,if_pos c2,if_pos (.inr (.inr (.inl c2)))]
    ·by_cases c3:aBv e os.length s 0=[]
     ·rw[if_neg c1,if_neg c2,if_pos c3,if_pos (.inr (.inr (.inr c3)))]
     ·have t20:(aBv e os.length s 0).length=20:=by
       rcases aPt e os.length s 0 with h | h
       ·exact absurd h c3
       ·exact h
      have hn:¬(aD7 v s b l=false∨aBa v (b+os.length)=[]∨aB9 (aAy s os)=[]∨aBv e os.length s 0=[]):=by
       intro h
       rcases h with h | h | h | h
       ·rw[hh]at h;cases h
       ·exact c1 h
       ·exact c2 h
       ·exact c3 h
      rw[if_neg c1,if_neg c2,if_neg c3,if_neg hn]
      have t12:Int.toNat 12=12:=rfl
      have d0:List.drop 0 (List.take 12 (aBv e os.length s 0))=List.take 12 (aBv e os.length s 0):=rfl
      have cl:=aEn 0 (aBa v (b+os.length)++aB9 (aAy s os)++(aBv e os.length s 0).take 12) (by omega)
      have i5:∀ z:Nat,z<4294967296→inB (Int.ofNat z) (-9223372036854775808) 9223372036854775807=true:=fun z hz=>(aBi _ _ _).2 ⟨by show _≤(z:Int);omega,by show (z:Int)≤_;omega⟩
      have l3:=aT1 e os.length s (Int.ofNat (aB6 0 (aBa v (b+os.length)++aB9 (aAy s os)++(aBv e os.length s 0).take 12)))
      rw[t12]
      rw[if_pos (decide_eq_true (by omega)),if_pos (by rw[t20];rfl),if_pos (decide_eq_true (by simp only[List.length_append,List.length_take];omega)),if_pos (decide_eq_true (by simp only[List.length_append,List.length_take];omega)),if_pos (decide_eq_true (by omega)),if_pos (i5 _ cl),if_pos (decide_eq_true (by simp only[List.length_append];omega))]
      rfl
  ·have hh':aD7 v s b l=false:=by simpa using hh
   simp only[aA4,aA3,hh,Bool.false_eq_true,if_false]
   unfold aC7
   rw[if_pos (.inl hh')]
 ·cases h
theorem bRc (v s b l:Int) (rs:List (List UInt8)) (hb:0≤b∧b≤1000000000) (hl:rs.length≤1000):∀ (f n i:Nat) (t:List UInt8) (os:List Int),i+f=rs.length→f<n→os.length=i→t.length≤60+90*i →
  (aBr bGn aAc (⟨[aDr,aUg],[rS],true⟩) Tryz.f70 [.r,.r,.r,.r,.l,.r,.b] n (bGj v s b l (rs.map aAt) t.length (aAe t) os.length (os.map aIu) i)).eval=some [.str (match aEc v b i (rs.drop i) t os with | some (t',os')=>t'++aC7 v s b l os' t'.length | none=>[])]:=by
 intro f
 induction f with
 |zero =>
  intro n i t os h1 h2 h3 h4
  obtain⟨n,rfl⟩:∃ q,n=q+1:=⟨n-1,by omega⟩
  rw[aAv _ _ _ _ _ _ _ (by kernel_rfl),aUc]
  have c:¬((i:Int)<(rs.length:Int)):=by omega
  have hd:rs.drop i=[]:=List.drop_eq_nil_of_le (by omega)
  have tk:List.take os.length (os.map aIu)=os.map aIu:=List.take_of_length_le (by simp)
  have i1:inB (t.length:Int) (-9223372036854775808) 9223372036854775807=true:=(aBi _ _ _).2 ⟨by omega,by omega⟩
  have fl:=aQb v s b l os t.length
  have ro:aBj (t.length+(aC7 v s b l os t.length).length) 1=true:=by simp only[aBj,decide_eq_true_eq];omega
  have ap:(aAe t).append (aAe (aC7 v s b l os t.length))=aAe (t++aC7 v s b l os t.length):=by rw[List.append_eq,aFr]
  have tk2:List.take (t.length+(aC7 v s b l os t.length).length) (aAe (t++aC7 v s b l os t.length))=aAe (t++aC7 v s b l os t.length):=List.take_of_length_le (by rw[aBp,List.length_append];exact Nat.le_refl _)
  have o1:os.length≤1048576:=by omega
  have al:((aAe (aC7 v s b l os t.length)).all fun r=>decide (r.length=1))=true:=by simp[aAe]
  simp only[List.length_map,aA4,aA1,aA3,decide_eq_true_eq,c,if_false,hd,aEc,tk,bPp,aXk,i1,aBp,ro,ap,tk2,aEj,aHi,o1,al,decide_true,Bool.and_self,if_true]
 |succ f ih =>
  intro n i t os h1 h2 h3 h4
  obtain⟨n,rfl⟩:∃ q,n=q+1:=⟨n-1,by omega⟩
  rw[aAv _ _ _ _ _ _ _ (by kernel_rfl),aUc]
  have hi:i<rs.length:=by omega
  have c:(i:Int)<(rs.length:Int):=by omega
  have z:(0:Int)≤(i:Int):=by omega
  have g:=aBc aAt rs [] i hi
  have hd:=aBx rs i [] hi
  generalize rs.getD i []=r at g hd
  have w:IntKind.i64.wrap ((i:Int)+1)=((i+1:Nat):Int):=by rw[aAh]<;>omega
  have w2:IntKind.i64.wrap (b+(i:Int))=b+i:=by rw[aAh]<;>omega
  have fl:=aE9 v (b+i) r
  have ro1:aBj (os.length+1) 8=true:=by simp only[aBj,decide_eq_true_eq];omega
  have ro2:aBj (t.length+(aAf v (b+i) r).length) 1=true:=by simp only[aBj,decide_eq_true_eq];omega
  have ap:(aAe t).append (aAe (aAf v (b+i) r))=aAe (t++aAf v (b+i) r):=by rw[List.append_eq,aFr]
  have ap2:(os.map aIu).append [[C.int .i64 (t.length:Int)]]=(os++[(t.length:Int)]).map aIu:=by simp
  have al:((aAe (aAf v (b+i) r)).all fun r=>decide (r.length=1))=true:=by simp[aAe]
  have e:=ih n (i+1) (t++aAf v (b+i) r) (os++[(t.length:Int)]) (by omega) (by omega) (by simp;omega) (by simp only[List.length_append];omega)
  rw[List.length_append,List.length_append]at e
  rw[hd]
  simp only[List.length_map,aA4,aA1,aA3,decide_eq_true_eq,c,z,Int.toNat_natCast,g,w,w2,if_true,decide_true,Bool.and_true,Bool.true_and,Bool.and_self,List.length_cons,List.length_nil,C.is,List.getD_cons_zero,C.toStr,Nat.zero_add,Nat.zero_lt_one,aBp,ro1,ro2,ap,ap2,al,aEc]
  by_cases h60:(60:Int)<(r.length:Int)
  ·have h60':60<r.length:=by omega
   simp only[h60,h60',if_true]
  ·have h60':¬60<r.length:=by omega
   have hm:r.length≤281474976710656:=by omega
   simp only[h60,h60',hm,if_false,if_true]
   exact e
theorem cC9:aAa Tryz.prog bGn:=aA8 (by simp[aLi,aJ0,aI5,bMk])
theorem aQ2:aAx Tryz.prog 70 (⟨[aDr,aUg],[rS],true⟩) aR3:=aA6 cC9 aAb Tryz.func70 (by kernel_rfl) fun cs outs hk h=>by
 unfold aR3 at h
 split at h
 ·simp only[Option.some.injEq,Prod.mk.injEq,Bool.and_eq_true,decide_eq_true_eq]at h
  obtain⟨⟨h1,h2⟩,rfl⟩:=h
  rename_i v s b l r
  rw[aAd,bRb]
  have hr:=aFq h1
  generalize aCp r=rs at hr ⊢
  subst hr
  rw[List.length_map]at h2 ⊢
  unfold aCk
  by_cases hh:aD7 v s b l=true
  ·obtain⟨hv,hs,hb,hl⟩:=(aDi v s b l).1 hh
   have w:IntKind.i64.wrap (b+(rs.length:Int))=b+rs.length:=by rw[aAh]<;>omega
   have hh':¬aD7 v s b l=false:=by rw[hh];decide
   simp only[aA4,aA3,hh,if_true,w,decide_eq_true_eq]
   by_cases c1:(1000:Int)<(rs.length:Int)
   ·rw[if_pos c1,if_pos (.inr (.inl (by omega)))]
   ·by_cases c2:(1000000000:Int)<b+(rs.length:Int)
    ·rw[if_neg c1,if_pos c2,if_pos (.inr (.inr c2))]
    ·have hn:¬(true=false∨1000<rs.length∨1000000000<b+(rs.length:Int)):=by
      intro h
      rcases h with h | h | h
      ·cases h
      ·omega
      ·omega
     rw[if_neg c1,if_neg c2,if_neg hn]
     have e:=bRc v s b l rs hb (by omega) rs.length 9223372036854775808 0 (aBe v s b l) [] (by omega) (by omega) rfl (by have:=aJ8 v s b l;omega)
     exact e
  ·have hh':aD7 v s b l=false:=by simpa using hh
   simp only[aA4,aA3,hh',Bool.false_eq_true,if_false]
   rw[if_pos (.inl trivial)]
 ·cases h
noncomputable section
def hdV (rows:List (List C)) (i h:Int):Int:=1+aAm rows i h 2
def hdS (rows:List (List C)) (i h:Int):Int:=1+aAm rows (aA0 rows i 2) (aA2 h 2) 4
def hdB (rows:List (List C)) (i h:Int):Int:=aAm rows (aA0 rows (aA0 rows i 2) 4) (aA2 (aA2 h 2) 4) 9
def hdL (rows:List (List C)) (i h:Int):Int:=aAm rows (aA0 rows (aA0 rows (aA0 rows i 2) 4) 9) (aA2 (aA2 (aA2 h 2) 4) 9) 1000000
def hdI (rows:List (List C)) (i:Int):Int:=aA0 rows (aA0 rows (aA0 rows (aA0 rows i 2) 4) 9) 1000000
def hdH (h:Int):Int:=aA2 (aA2 (aA2 (aA2 h 2) 4) 9) 1000000
def bWr:aCf:=fun cs=>match cs with
 |[.sl rows,.int .i64 i,.int .i64 h]=>some (aAs rows i,[.int .i64 (hdV rows i h),.int .i64 (hdS rows i h),.int .i64 (hdB rows i h),.int .i64 (hdL rows i h),.sl rows,.int .i64 (hdI rows i),.int .i64 (hdH h)])
 |_=>none
def bQg:Env:=mkE [] [(46,(⟨[aDa,pI],[rI],true⟩),aEh)]
def rcT (rows:List (List C)) (i h:Int):List UInt8 :=
 if aAm rows i h 6=0 then[]else if aAm rows i h 6=1 then aE1 rows (aEw (20+aAm rows (aA0 rows i 6) (aA2 h 6) 41)) (aA0 rows (aA0 rows i 6) 41) (aA2 (aA2 h 6) 41)else dtT rows 12 (aA0 rows i 6) (aA2 h 6)
def rcI (rows:List (List C)) (i h:Int):Int :=
 if aAm rows i h 6=0 then aA0 rows i 6 else if aAm rows i h 6=1 then aQy rows (aEw (20+aAm rows (aA0 rows i 6) (aA2 h 6) 41)) (aA0 rows (aA0 rows i 6) 41)else dtI rows 12 (aA0 rows i 6) (aA2 h 6)
def rcH (rows:List (List C)) (i h:Int):Int :=
 if aAm rows i h 6=0 then aA2 h 6 else if aAm rows i h 6=1 then aT2 (aEw (20+aAm rows (aA0 rows i 6) (aA2 h 6) 41)) (aA2 (aA2 h 6) 41)else dtH rows 12 (aA0 rows i 6) (aA2 h 6)
def bPh:aCf:=fun cs=>match cs with
 |[.sl rows,.int .i64 i,.int .i64 h]=>some (aAs rows i,[.str (rcT rows i h),.sl rows,.int .i64 (rcI rows i h),.int .i64 (rcH rows i h)])
 |_=>none
def bCm:Env:=mkE [] [(46,(⟨[aDa,pI],[rI],true⟩),aEh),(47,(⟨[aDa,pI],[rS],true⟩),aQw)]
def bS3 (rows:List (List C)) (m:Int):Nat→Int→Int→Int→List (List UInt8)→List (List UInt8)×Int×Int
 |0,_,i,h,l=>(l,i,h)
 |f+1,x,i,h,l=>if x<aAm rows i h (m+1)then bS3 rows m f (x+1) (rcI rows (aA0 rows i (m+1)) (aA2 h (m+1))) (rcH rows (aA0 rows i (m+1)) (aA2 h (m+1))) (l++[rcT rows (aA0 rows i (m+1)) (aA2 h (m+1))])else (l,aA0 rows i (m+1),aA2 h (m+1))
def rsL (rows:List (List C)) (i h m:Int):List (List UInt8):=(bS3 rows m (m+2).toNat 0 i h []).1
def rsI (rows:List (List C)) (i h m:Int):Int:=(bS3 rows m (m+2).toNat 0 i h []).2.1
def rsH (rows:List (List C)) (i h m:Int):Int:=(bS3 rows m (m+2).toNat 0 i h []).2.2
def bPa:aCf:=fun cs=>match cs with
 |[.sl rows,.int .i64 i,.int .i64 h,.int .i64 m]=>some (aAs rows i&&decide (0≤m∧m≤100),[.sl ((rsL rows i h m).map aAt),.sl rows,.int .i64 (rsI rows i h m),.int .i64 (rsH rows i h m)])
 |_=>none
def aM3 (r:List (List C)) (i h m:Int) (n:Nat) (o:List (List C)) (j:Int):St:={slots:=[(0,.l (.ptr 0 0)),(1,aBf m),(5,.l (.ref 1 0 n)),(6,aBf j)],heap:=[(0,.box [.sl r,.i .i64 i,.i .i64 h]),(1,.arr 1 o)],next:=2,pins:=[0]}
def aM5:Env:=mkE [(3,[0,1,5,6])] [(46,(⟨[aDa,pI],[rI],true⟩),aEh),(27,(⟨[aDa],[rS],true⟩),bPh)]
def bnK (rows:List (List C)) (i h:Int) (t:List UInt8):Int:=aAm rows (aA0 rows i 2) (aA2 h 2) t.length
def bGv (rows:List (List C)) (i:Int) (t:List UInt8):Int:=aA0 rows (aA0 rows (aA0 rows i 2) t.length) 4
def bKs (h:Int) (t:List UInt8):Int:=aA2 (aA2 (aA2 h 2) t.length) 4
def bnC (rows:List (List C)) (i h:Int) (t:List UInt8):Int:=aAm rows (aA0 rows (aA0 rows i 2) t.length) (aA2 (aA2 h 2) t.length) 4
def bnN (rows:List (List C)) (i h:Int) (t:List UInt8):Nat:=aEw (1+aAm rows (bGv rows i t) (bKs h t) 4)
def bnB (rows:List (List C)) (i h:Int) (t:List UInt8):List UInt8:=aC0 [[C.int .u8 (aQn .u8 ((t.getD (bnK rows i h t).toNat 0).toNat:Int) (aUk .u8 1 (IntKind.u64.wrap (aAm rows (bGv rows i t) (bKs h t) 8))))]]
def bnT (rows:List (List C)) (i h:Int) (t:List UInt8):List UInt8 :=
 if t=[]then t else if aAm rows i h 2=0 then t
 else if bnC rows i h t=0 then t.take (bnK rows i h t).toNat
 else if bnC rows i h t=1 then t.take (bnK rows i h t).toNat++t.drop (bnK rows i h t+1).toNat
 else if bnC rows i h t=2 then t++aE1 rows (bnN rows i h t) (aA0 rows (bGv rows i t) 4) (aA2 (bKs h t) 4)
 else t.take (bnK rows i h t).toNat++bnB rows i h t++t.drop (bnK rows i h t+1).toNat
def bnI (rows:List (List C)) (i h:Int) (t:List UInt8):Int :=
 if t=[]then i else if aAm rows i h 2=0 then aA0 rows i 2
 else if bnC rows i h t=0 then bGv rows i t
 else if bnC rows i h t=1 then bGv rows i t
 else if bnC rows i h t=2 then aQy rows (bnN rows i h t) (aA0 rows (bGv rows i t) 4)
 else aA0 rows (bGv rows i t) 8
def bnH (rows:List (List C)) (i h:Int) (t:List UInt8):Int :=
 if t=[]then h else if aAm rows i h 2=0 then aA2 h 2
 else if bnC rows i h t=0 then bKs h t
 else if bnC rows i h t=1 then bKs h t
 else if bnC rows i h t=2 then aT2 (bnN rows i h t) (aA2 (bKs h t) 4)
 else aA2 (bKs h t) 8
def bQ2:aCf:=fun cs=>match cs with
 |[.sl rows,.int .i64 i,.int .i64 h,.str t]=>some (aAs rows i&&decide (t.length≤1048576),[.str (bnT rows i h t),.sl rows,.int .i64 (bnI rows i h t),.int .i64 (bnH rows i h t)])
 |_=>none
def bQh:Env:=mkE [] [(46,(⟨[aDa,pI],[rI],true⟩),aEh),(56,(⟨[aDa,pI],[rB],true⟩),aLn),(47,(⟨[aDa,pI],[rS],true⟩),aQw)]
def aJv (v b:Int):Int→List (List UInt8)→List UInt8→List UInt8
 |_,[],t=>t
 |i,r::rs,t=>aJv v b (i+1) rs (t++aAf v (b+i) r)
def aCw (v s b l:Int) (rs:List (List UInt8)):List UInt8:=aJv v b 0 rs (aBe v s b l)
def aK5 (rows:List (List C)):Bool:=(aCp rows).all fun x=>decide (x.length≤281474976710656)
def aOe:aCf:=fun cs=>match cs with
 |[.int .i64 v,.int .i64 s,.int .i64 b,.int .i64 l,.sl r]=>some (aAp [.str] r&&(decide (r.length≤1048576)&&(inB b 0 1000000000&&aK5 r)),[.str (aCw v s b l (aCp r))])
 |_=>none
def aSg (v s b l:Int) (r:List (List C)) (t:List UInt8) (j:Int):St:={slots:=[(1,.l (.sl r)),(2,.l (.ptr 0 0)),(5,aZu t),(6,aBf j)],heap:=[(0,.box [.i .i64 v,.i .i64 s,.i .i64 b,.i .i64 l])],next:=1,pins:=[]}
def aSq:Env:=mkE [(3,[1,2,5,6])] [(86,(sg [aDr] [rS]),aDm),(91,(sg [pI,pI,pS] [rS]),aGq)]
def flR (rows:List (List C)) (i h:Int):List (List UInt8):=rsL rows (hdI rows i) (hdH h) 6
def flI (rows:List (List C)) (i h:Int):Int:=rsI rows (hdI rows i) (hdH h) 6
def flH (rows:List (List C)) (i h:Int):Int:=rsH rows (hdI rows i) (hdH h) 6
def flX (rows:List (List C)) (i h:Int):List UInt8:=if aAm rows (flI rows i h) (flH rows i h) 2=0 then aCk (hdV rows i h) (hdS rows i h) (hdB rows i h) (hdL rows i h) (flR rows i h)else aCw (hdV rows i h) (hdS rows i h) (hdB rows i h) (hdL rows i h) (flR rows i h)
def bT8 (rows:List (List C)) (i h:Int):List UInt8:=bnT rows (aA0 rows (flI rows i h) 2) (aA2 (flH rows i h) 2) (flX rows i h)
def cAc (rows:List (List C)) (i h:Int):Int:=bnI rows (aA0 rows (flI rows i h) 2) (aA2 (flH rows i h) 2) (flX rows i h)
def cAd (rows:List (List C)) (i h:Int):Int:=bnH rows (aA0 rows (flI rows i h) 2) (aA2 (flH rows i h) 2) (flX rows i h)
def bG6:aCf:=fun cs=>match cs with
 |[.sl rows,.int .i64 i,.int .i64 h]=>some (aAs rows i,[.str (bT8 rows i h),.sl rows,.int .i64 (cAc rows i h),.int .i64 (cAd rows i h)])
 |_=>none
def bY1:Env:=mkE [] [(56,(⟨[aDa,pI],[rB],true⟩),aLn),(70,(⟨[aDr,aUg],[rS],true⟩),aR3),(113,(⟨[aDa],[aN2],true⟩),bWr),(73,(⟨[aDa,pI],[rSl 9],true⟩),bPa),(75,(⟨[aDa,pS],[rS],true⟩),bQ2),(74,(⟨[aDr,aUg],[rS],true⟩),aOe)]
end
theorem bMj (H:List Pt→Nat→St→T (List C)) (r:List (List C)) (i:Int) (h:Int):(aAk bQg aAc {params:=[aDa],results:=[aN2],nested:=true} Tryz.f113 H [C.sl r,C.int .i64 i,C.int .i64 h]).eval=((.must (aAs r i) (.must (aAs r (aA0 r i 2)) (.must (aAs r (aA0 r (aA0 r i 2) 4)) (.must (aAs r (aA0 r (aA0 r (aA0 r i 2) 4) (9:Int))) (.ret [C.int .i64 (IntKind.i64.wrap ((1:Int)+aAm r i h 2)),C.int .i64 (IntKind.i64.wrap ((1:Int)+aAm r (aA0 r i 2) (aA2 h 2) 4)),C.int .i64 (aAm r (aA0 r (aA0 r i 2) 4) (aA2 (aA2 h 2) 4) (9:Int)),C.int .i64 (aAm r (aA0 r (aA0 r (aA0 r i 2) 4) (9:Int)) (aA2 (aA2 (aA2 h 2) 4) (9:Int)) (1000000:Int)),C.sl r,C.int .i64 (aA0 r (aA0 r (aA0 r (aA0 r i 2) 4) (9:Int)) (1000000:Int)),C.int .i64 (aA2 (aA2 (aA2 (aA2 h 2) 4) (9:Int)) (1000000:Int))]))))):T (List C)).eval:=aAj (by kernel_rfl)
theorem bDp (H:List Pt→Nat→St→T (List C)) (r:List (List C)) (i:Int) (h:Int):(aAk bCm aAc {params:=[aDa],results:=[rS],nested:=true} Tryz.f27 H [C.sl r,C.int .i64 i,C.int .i64 h]).eval=((.must (aAs r i) (.ask (decide (aAm r i h 6=(0:Int))) (.ret [C.str [],C.sl r,C.int .i64 (aA0 r i 6),C.int .i64 (aA2 h 6)]) (.ask (decide (aAm r i h 6=(1:Int))) (.must (aAs r (aA0 r i 6)) (.must (aAs r (aA0 r (aA0 r i 6) 41)) (.ret [C.str (aE1 r (aEw (IntKind.i64.wrap ((20:Int)+aAm r (aA0 r i 6) (aA2 h 6) 41))) (aA0 r (aA0 r i 6) 41) (aA2 (aA2 h 6) 41)),C.sl r,C.int .i64 (aQy r (aEw (IntKind.i64.wrap ((20:Int)+aAm r (aA0 r i 6) (aA2 h 6) 41))) (aA0 r (aA0 r i 6) 41)),C.int .i64 (aT2 (aEw (IntKind.i64.wrap ((20:Int)+aAm r (aA0 r i 6) (aA2 h 6) 41))) (aA2 (aA2 h 6) 41))]))) (.must (aAs r (aA0 r i 6)) (.must (aAs r (aA0 r (aA0 r i 6) 12)) (.ret [C.str (aE1 r (aEw (aAm r (aA0 r i 6) (aA2 h 6) 12)) (aA0 r (aA0 r i 6) 12) (aA2 (aA2 h 6) 12)),C.sl r,C.int .i64 (aQy r (aEw (aAm r (aA0 r i 6) (aA2 h 6) 12)) (aA0 r (aA0 r i 6) 12)),C.int .i64 (aT2 (aEw (aAm r (aA0 r i 6) (aA2 h 6) 12)) (aA2 (aA2 h 6) 12))])))))):T (List C)).eval:=aAj (by kernel_rfl)
theorem bA4 (H:List Pt→Nat→St→T (List C)) (r:List (List C)) (i:Int) (h:Int) (m:Int):(aAk aM5 aAc {params:=[aDa,pI],results:=[rSl 9],nested:=true} Tryz.f73 H [C.sl r,C.int .i64 i,C.int .i64 h,C.int .i64 m]).eval=((H [Pt.r,Pt.r,Pt.l,Pt.r,Pt.b] 9223372036854775808 (aM3 (r) (i) (h) (m) (0) ([]) ((0:Int)))):T (List C)).eval:=aAj (by kernel_rfl)
theorem aV5 (H:List Pt→Nat→St→T (List C)) (r:List (List C)) (i:Int) (h:Int) (m:Int) (n:Nat) (o:List (List C)) (j:Int) (k:Nat):(aBl aM5 aAc {params:=[aDa,pI],results:=[rSl 9],nested:=true} Tryz.f73 H [Pt.r,Pt.r,Pt.l,Pt.r,Pt.b] k (aM3 r i h m n o j)).eval=((.must (aAs r i) (.ask (decide (j<aAm r i h (IntKind.i64.wrap (m+(1:Int))))) (.must (aAs r (aA0 r i (IntKind.i64.wrap (m+(1:Int))))) (.must (decide (n=o.length)&&aBj (o.length+1) 16&&(decide (1=1)&&true)) (H [Pt.r,Pt.r,Pt.l,Pt.r,Pt.b] k (aM3 (r) (rcI r (aA0 r i (IntKind.i64.wrap (m+(1:Int)))) (aA2 h (IntKind.i64.wrap (m+(1:Int))))) (rcH r (aA0 r i (IntKind.i64.wrap (m+(1:Int)))) (aA2 h (IntKind.i64.wrap (m+(1:Int))))) (m) (o.length+1) (o.append [[C.str (rcT r (aA0 r i (IntKind.i64.wrap (m+(1:Int)))) (aA2 h (IntKind.i64.wrap (m+(1:Int)))))]]) (IntKind.i64.wrap (j+(1:Int))))))) (.must (decide (n=o.length)&&(true||o.all fun r=>r.all C.flat)&&true&&true&&(true&&(true||(C.sl r).flat)&&(true&&(true||true)&&(true&&(true||true)&&true))&&true)) (.ret [C.sl o,C.sl r,C.int .i64 (aA0 r i (IntKind.i64.wrap (m+(1:Int)))),C.int .i64 (aA2 h (IntKind.i64.wrap (m+(1:Int))))])))):T (List C)).eval:=aAj (by kernel_rfl)
theorem bMs (H:List Pt→Nat→St→T (List C)) (r:List (List C)) (i:Int) (h:Int) (t:List UInt8):(aAk bQh aAc {params:=[aDa,pS],results:=[rS],nested:=true} Tryz.f75 H [C.sl r,C.int .i64 i,C.int .i64 h,C.str t]).eval=((.ask (t==[]) (.ret [C.str t,C.sl r,C.int .i64 i,C.int .i64 h]) (.must (aAs r i) (.ask (decide (aAm r i h 2=(0:Int))) (.ret [C.str t,C.sl r,C.int .i64 (aA0 r i 2),C.int .i64 (aA2 h 2)]) (.must (aAs r (aA0 r i 2)) (.must (aAs r (aA0 r (aA0 r i 2) (↑t.length:Int))) (.ask (decide (aAm r (aA0 r (aA0 r i 2) (↑t.length:Int)) (aA2 (aA2 h 2) (↑t.length:Int)) (4:Int)=(0:Int))) (.must (decide ((0:Int)≤aAm r (aA0 r i 2) (aA2 h 2) (↑t.length:Int))&&decide (aAm r (aA0 r i 2) (aA2 h 2) (↑t.length:Int)≤(↑t.length:Int))) (.ret [C.str (List.drop 0 (List.take (aAm r (aA0 r i 2) (aA2 h 2) (↑t.length:Int)).toNat t)),C.sl r,C.int .i64 (aA0 r (aA0 r (aA0 r i 2) (↑t.length:Int)) (4:Int)),C.int .i64 (aA2 (aA2 (aA2 h 2) (↑t.length:Int)) (4:Int))])) (.ask (decide (aAm r (aA0 r (aA0 r i 2) (↑t.length:Int)) (aA2 (aA2 h 2) (↑t.length:Int)) (4:Int)=(1:Int))) (.must (decide ((0:Int)≤aAm r (aA0 r i 2) (aA2 h 2) (↑t.length:Int))&&decide (aAm r (aA0 r i 2) (aA2 h 2) (↑t.length:Int)≤(↑t.length:Int))) (.must (decide ((0:Int)≤IntKind.i64.wrap (aAm r (aA0 r i 2) (aA2 h 2) (↑t.length:Int)+(1:Int)))&&decide (IntKind.i64.wrap (aAm r (aA0 r i 2) (aA2 h 2) (↑t.length:Int)+(1:Int))≤(↑t.length:Int))) (.must (decide ((List.drop 0 (List.take (aAm r (aA0 r i 2) (aA2 h 2) (↑t.length:Int)).toNat t)).length+(List.drop (IntKind.i64.wrap (aAm r (aA0 r i 2) (aA2 h 2) (↑t.length:Int)+(1:Int))).toNat (List.take t.length t)).length≤9223372036854775807)) (.ret [C.str (List.drop 0 (List.take (aAm r (aA0 r i 2) (aA2 h 2) (↑t.length:Int)).toNat t)++List.drop (IntKind.i64.wrap (aAm r (aA0 r i 2) (aA2 h 2) (↑t.length:Int)+(1:Int))).toNat (List.take t.length t)),C.sl r,C.int .i64 (aA0 r (aA0 r (aA0 r i 2) (↑t.length:Int)) (4:Int)),C.int .i64 (aA2 (aA2 (aA2 h 2) (↑t.length:Int)) (4:Int))])))) (.ask (decide (aAm r (aA0 r (aA0 r i 2) (↑t.length:Int)) (aA2 (aA2 h 2) (↑t.length:Int)) (4:Int)=(2:Int))) (.must (aAs r (aA0 r (aA0 r (aA0 r i 2) (↑t.length:Int)) (4:Int))) (.must (aAs r (aA0 r (aA0 r (aA0 r (aA0 r i 2) (↑t.length:Int)) (4:Int)) (4:Int))) (.must (decide (t.length+(aE1 r (aEw (IntKind.i64.wrap ((1:Int)+aAm r (aA0 r (aA0 r (aA0 r i 2) (↑t.length:Int)) (4:Int)) (aA2 (aA2 (aA2 h 2) (↑t.length:Int)) (4:Int)) (4:Int)))) (aA0 r (aA0 r (aA0 r (aA0 r i 2) (↑t.length:Int)) (4:Int)) (4:Int)) (aA2 (aA2 (aA2 (aA2 h 2) (↑t.length:Int)) (4:Int)) (4:Int))).length≤9223372036854775807)) (.ret [C.str (t++aE1 r (aEw (IntKind.i64.wrap ((1:Int)+aAm r (aA0 r (aA0 r (aA0 r i 2) (↑t.length:Int)) (4:Int)) (aA2 (aA2 (aA2 h 2) (↑t.length:Int)) (4:Int)) (4:Int)))) (aA0 r (aA0 r (aA0 r (aA0 r i 2) (↑t.length:Int)) (4:Int)) (4:Int)) (aA2 (aA2 (aA2 (aA2 h 2) (↑t.length:Int)) (4:Int)) (4:Int))),C.sl r,C.int .i64 (aQy r (aEw (IntKind.i64.wrap ((1:Int)+aAm r (aA0 r (aA0 r (aA0 r i 2) (↑t.length:Int)) (4:Int)) (aA2 (aA2 (aA2 h 2) (↑t.length:Int)) (4:Int)) (4:Int)))) (aA0 r (aA0 r (aA0 r (aA0 r i 2) (↑t.length:Int)) (4:Int)) (4:Int))),C.int .i64 (aT2 (aEw (IntKind.i64.wrap ((1:Int)+aAm r (aA0 r (aA0 r (aA0 r i 2) (↑t.length:Int)) (4:Int)) (aA2 (aA2 (aA2 h 2) (↑t.length:Int)) (4:Int)) (4:Int)))) (aA2 (aA2 (aA2 (aA2 h 2) (↑t.length:Int)) (4:Int)) (4:Int)))])))) (.must (decide ((0:Int)≤aAm r (aA0 r i 2) (aA2 h 2) (↑t.length:Int))&&decide (aAm r (aA0 r i 2) (aA2 h 2) (↑t.length:Int)≤(↑t.length:Int))) (.must (decide ((0:Int)≤aAm r (aA0 r i 2) (aA2 h 2) (↑t.length:Int))&&decide (aAm r (aA0 r i 2) (aA2 h 2) (↑t.length:Int)<(↑t.length:Int))) (.must (aAs r (aA0 r (aA0 r (aA0 r i 2) (↑t.length:Int)) (4:Int))) (.must (decide ((0:Int)≤IntKind.u64.wrap (aAm r (aA0 r (aA0 r (aA0 r i 2) (↑t.length:Int)) (4:Int)) (aA2 (aA2 (aA2 h 2) (↑t.length:Int)) (4:Int)) (8:Int)))) (.must (decide ((List.drop 0 (List.take (aAm r (aA0 r i 2) (aA2 h 2) (↑t.length:Int)).toNat t)).length+(aC0 [[C.int .u8 (aQn .u8 (↑(t.getD (aAm r (aA0 r i 2) (aA2 h 2) (↑t.length:Int)).toNat (0:UInt8)).toNat:Int) (aUk .u8 1 (IntKind.u64.wrap (aAm r (aA0 r (aA0 r (aA0 r i 2) (↑t.length:Int)) (4:Int)) (aA2 (aA2 (aA2 h 2) (↑t.length:Int)) (4:Int)) (8:Int)))))]]).length≤9223372036854775807)) (.must (decide ((0:Int)≤IntKind.i64.wrap (aAm r (aA0 r i 2) (aA2 h 2) (↑t.length:Int)+(1:Int)))&&decide (IntKind.i64.wrap (aAm r (aA0 r i 2) (aA2 h 2) (↑t.length:Int)+(1:Int))≤(↑t.length:Int))) (.must (decide ((List.drop 0 (List.take (aAm r (aA0 r i 2) (aA2 h 2) (↑t.length:Int)).toNat t)++aC0 [[C.int .u8 (aQn .u8 (↑(t.getD (aAm r (aA0 r i 2) (aA2 h 2) (↑t.length:Int)).toNat (0:UInt8)).toNat:Int) (aUk .u8 1 (IntKind.u64.wrap (aAm r (aA0 r (aA0 r (aA0 r i 2) (↑t.length:Int)) (4:Int)) (aA2 (aA2 (aA2 h 2) (↑t.length:Int)) (4:Int)) (8:Int)))))]]).length+(List.drop (IntKind.i64.wrap (aAm r (aA0 r i 2) (aA2 h 2) (↑t.length:Int)+(1:Int))).toNat (List.take t.length t)).length≤9223372036854775807)) (.ret [C.str (List.drop 0 (List.take (aAm r (aA0 r i 2) (aA2 h 2) (↑t.length:Int)).toNat t)++aC0 [[C.int .u8 (aQn .u8 (↑(t.getD (aAm r (aA0 r i 2) (aA2 h 2) (↑t.length:Int)).toNat (0:UInt8)).toNat:Int) (aUk .u8 1 (IntKind.u64.wrap (aAm r (aA0 r (aA0 r (aA0 r i 2) (↑t.length:Int)) (4:Int)) (aA2 (aA2 (aA2 h 2) (↑t.length:Int)) (4:Int)) (8:Int)))))]]++List.drop (IntKind.i64.wrap (aAm r (aA0 r i 2) (aA2 h 2) (↑t.length:Int)+(1:Int))).toNat (List.take t.length t)),C.sl r,C.int .i64 (aA0 r (aA0 r (aA0 r (aA0 r i 2) (↑t.length:Int)) (4:Int)) (8:Int)),C.int .i64 (aA2 (aA2 (aA2 (aA2 h 2) (↑t.length:Int)) (4:Int)) (8:Int))])))))))))))))))):T (List C)).eval:=aAj (by kernel_rfl)
theorem bI2 (H:List Pt→Nat→St→T (List C)) (v:Int) (s:Int) (b:Int) (l:Int) (r:List (List C)):(aAk aSq aAc {params:=[aDr,aUg],results:=[rS],nested:=true} Tryz.f74 H [C.int .i64 v,C.int .i64 s,C.int .i64 b,C.int .i64 l,C.sl r]).eval=((H [Pt.r,Pt.r,Pt.l,Pt.r,Pt.b] 9223372036854775808 (aSg (v) (s) (b) (l) (r) (aBe v s b l) ((0:Int)))):T (List C)).eval:=aAj (by kernel_rfl)
theorem aPe (H:List Pt→Nat→St→T (List C)) (v:Int) (s:Int) (b:Int) (l:Int) (r:List (List C)) (t:List UInt8) (j:Int) (k:Nat):(aBl aSq aAc {params:=[aDr,aUg],results:=[rS],nested:=true} Tryz.f74 H [Pt.r,Pt.r,Pt.l,Pt.r,Pt.b] k (aSg v s b l r t j)).eval=((.ask (decide (j<(↑r.length:Int))) (.must (decide ((0:Int)≤j)&&decide (j<(↑r.length:Int))&&decide ((r.getD j.toNat []).length=1)) (.must (decide (0<(r.getD j.toNat []).length)&&C.is K.str ((r.getD j.toNat []).getD 0 (C.fn 0 []))&&true) (.must (decide (((r.getD j.toNat []).getD 0 (C.fn 0 [])).toStr.length≤281474976710656)) (.must (decide (t.length+(aAf v (IntKind.i64.wrap (b+j)) ((r.getD j.toNat []).getD 0 (C.fn 0 [])).toStr).length≤9223372036854775807)) (H [Pt.r,Pt.r,Pt.l,Pt.r,Pt.b] k (aSg (v) (s) (b) (l) (r) (t++aAf v (IntKind.i64.wrap (b+j)) ((r.getD j.toNat []).getD 0 (C.fn 0 [])).toStr) (IntKind.i64.wrap (j+(1:Int))))))))) (.ret [C.str t])):T (List C)).eval:=aAj (by kernel_rfl)
theorem bRr (H:List Pt→Nat→St→T (List C)) (r:List (List C)) (i:Int) (h:Int):(aAk bY1 aAc {params:=[aDa],results:=[rS],nested:=true} Tryz.f78 H [C.sl r,C.int .i64 i,C.int .i64 h]).eval=((.must (aAs r i) (.must (aAs r (hdI r i)&&decide ((0:Int)≤(6:Int)∧(6:Int)≤(100:Int))) (.must ((true&&(List.map aAt (rsL r (hdI r i) (hdH h) 6)).all fun row=>decide (row.length=1))&&true&&true&&(decide (0<((Nat.add 1 0).succ.add 0).succ)&&true&&(decide (0+1<((Nat.add 1 0).succ.add 0).succ)&&true&&(decide (0+1+1<((Nat.add 1 0).succ.add 0).succ)&&true&&true))&&true)) (.must (aAs r (rsI r (hdI r i) (hdH h) 6)) (.ask (decide (aAm r (rsI r (hdI r i) (hdH h) 6) (rsH r (hdI r i) (hdH h) 6) (2:Int)=(0:Int))) (.must (aAp [K.str] (List.take (List.map aAt (rsL r (hdI r i) (hdH h) 6)).length (List.map aAt (rsL r (hdI r i) (hdH h) 6)))&&decide ((List.take (List.map aAt (rsL r (hdI r i) (hdH h) 6)).length (List.map aAt (rsL r (hdI r i) (hdH h) 6))).length≤1048576)) (.must (aAs r (aA0 r (rsI r (hdI r i) (hdH h) 6) (2:Int))&&decide ((aCk (hdV r i h) (hdS r i h) (hdB r i h) (hdL r i h) (aCp (List.take (List.map aAt (rsL r (hdI r i) (hdH h) 6)).length (List.map aAt (rsL r (hdI r i) (hdH h) 6))))).length≤1048576)) (.ret [C.str (bnT r (aA0 r (rsI r (hdI r i) (hdH h) 6) (2:Int)) (aA2 (rsH r (hdI r i) (hdH h) 6) (2:Int)) (aCk (hdV r i h) (hdS r i h) (hdB r i h) (hdL r i h) (aCp (List.take (List.map aAt (rsL r (hdI r i) (hdH h) 6)).length (List.map aAt (rsL r (hdI r i) (hdH h) 6)))))),C.sl r,C.int .i64 (bnI r (aA0 r (rsI r (hdI r i) (hdH h) 6) (2:Int)) (aA2 (rsH r (hdI r i) (hdH h) 6) (2:Int)) (aCk (hdV r i h) (hdS r i h) (hdB r i h) (hdL r i h) (aCp (List.take (List.map aAt (rsL r (hdI r i) (hdH h) 6)).length (List.map aAt (rsL r (hdI r i) (hdH h) 6)))))),C.int .i64 (bnH r (aA0 r (rsI r (hdI r i) (hdH h) 6) (2:Int)) (aA2 (rsH r (hdI r i) (hdH h) 6) (2:Int)) (aCk (hdV r i h) (hdS r i h) (hdB r i h) (hdL r i h) (aCp (List.take (List.map aAt (rsL r (hdI r i) (hdH h) 6)).length (List.map aAt (rsL r (hdI r i) (hdH h) 6))))))]))) (.must (aAp [K.str] (List.take (List.map aAt (rsL r (hdI r i) (hdH h) 6)).length (List.map aAt (rsL r (hdI r i) (hdH h) 6)))&&(decide ((List.take (List.map aAt (rsL r (hdI r i) (hdH h) 6)).length (List.map aAt (rsL r (hdI r i) (hdH h) 6))).length≤1048576)&&(inB (hdB r i h) 0 1000000000&&aK5 (List.take (List.map aAt (rsL r (hdI r i) (hdH h) 6)).length (List.map aAt (rsL r (hdI r i) (hdH h) 6)))))) (.must (aAs r (aA0 r (rsI r (hdI r i) (hdH h) 6) (2:Int))&&decide ((aCw (hdV r i h) (hdS r i h) (hdB r i h) (hdL r i h) (aCp (List.take (List.map aAt (rsL r (hdI r i) (hdH h) 6)).length (List.map aAt (rsL r (hdI r i) (hdH h) 6))))).length≤1048576)) (.ret [C.str (bnT r (aA0 r (rsI r (hdI r i) (hdH h) 6) (2:Int)) (aA2 (rsH r (hdI r i) (hdH h) 6) (2:Int)) (aCw (hdV r i h) (hdS r i h) (hdB r i h) (hdL r i h) (aCp (List.take (List.map aAt (rsL r (hdI r i) (hdH h) 6)).length (List.map aAt (rsL r (hdI r i) (hdH h) 6)))))),C.sl r,C.int .i64 (bnI r (aA0 r (rsI r (hdI r i) (hdH h) 6) (2:Int)) (aA2 (rsH r (hdI r i) (hdH h) 6) (2:Int)) (aCw (hdV r i h) (hdS r i h) (hdB r i h) (hdL r i h) (aCp (List.take (List.map aAt (rsL r (hdI r i) (hdH h) 6)).length (List.map aAt (rsL r (hdI r i) (hdH h) 6)))))),C.int .i64 (bnH r (aA0 r (rsI r (hdI r i) (hdH h) 6) (2:Int)) (aA2 (rsH r (hdI r i) (hdH h) 6) (2:Int)) (aCw (hdV r i h) (hdS r i h) (hdB r i h) (hdL r i h) (aCp (List.take (List.map aAt (rsL r (hdI r i) (hdH h) 6)).length (List.map aAt (rsL r (hdI r i) (hdH h) 6))))))])))))))):T (List C)).eval:=aAj (by kernel_rfl)
theorem cBe (rows:List (List C)) (i:Int) (h:aAs rows i=true):aAs rows (hdI rows i)=true :=
 aAr _ _ _ (aAr _ _ _ (aAr _ _ _ (aAr _ _ _ h)))
theorem cA5 (rows:List (List C)) (i h:Int):(1≤hdV rows i h∧hdV rows i h≤2)∧(1≤hdS rows i h∧hdS rows i h≤4)∧(0≤hdB rows i h∧hdB rows i h≤8)∧(0≤hdL rows i h∧hdL rows i h≤999999):=by
 have b1:=aBs rows i h 2 (by omega)
 have b2:=aBs rows (aA0 rows i 2) (aA2 h 2) 4 (by omega)
 have b3:=aBs rows (aA0 rows (aA0 rows i 2) 4) (aA2 (aA2 h 2) 4) 9 (by omega)
 have b4:=aBs rows (aA0 rows (aA0 rows (aA0 rows i 2) 4) 9) (aA2 (aA2 (aA2 h 2) 4) 9) 1000000 (by omega)
 unfold hdV hdS hdB hdL
 omega
theorem bZ0:aAa Tryz.prog bQg:=aA8 (by simp[aD6])
theorem bHz:aAx Tryz.prog 113 (⟨[aDa],[aN2],true⟩) bWr:=aA6 bZ0 aAb Tryz.func113 (by kernel_rfl) fun cs outs hk h=>by
 unfold bWr at h
 split at h
 ·simp only[Option.some.injEq,Prod.mk.injEq]at h
  obtain⟨h1,rfl⟩:=h
  rename_i rows i hh
  rw[aAd,bMj]
  have o1:=aAr rows i 2 h1
  have o2:=aAr rows _ 4 o1
  have o3:=aAr rows _ 9 o2
  have b1:=aBs rows i hh 2 (by omega)
  have b2:=aBs rows (aA0 rows i 2) (aA2 hh 2) 4 (by omega)
  have w1:IntKind.i64.wrap (1+aAm rows i hh 2)=1+aAm rows i hh 2:=by rw[aAh]<;>omega
  have w2:IntKind.i64.wrap (1+aAm rows (aA0 rows i 2) (aA2 hh 2) 4)=1+aAm rows (aA0 rows i 2) (aA2 hh 2) 4:=by rw[aAh]<;>omega
  simp only[aA1,aA3,h1,o1,o2,o3,w1,w2,if_true]
  rfl
 ·cases h
theorem bVd (rows:List (List C)) (i h:Int) (ho:aAs rows i=true):aAs rows (rcI rows i h)=true:=by
 unfold rcI
 split
 ·exact aAr _ _ _ ho
 ·split
  ·exact aQx _ _ _ (aAr _ _ _ (aAr _ _ _ ho))
  ·exact cFj _ _ _ _ (aAr _ _ _ ho)
theorem bVc (rows:List (List C)) (i h:Int):(rcT rows i h).length≤60:=by
 unfold rcT
 split
 ·simp
 ·split
  ·rw[aHe]
   have:=aBs rows (aA0 rows i 6) (aA2 h 6) 41 (by omega)
   unfold aEw;split<;>omega
  ·have:=cDg rows 12 (aA0 rows i 6) (aA2 h 6) (by omega) (by omega)
   omega
theorem bRf:aAa Tryz.prog bCm:=aA8 (by simp[aD6,aQ1])
theorem aPc:aAx Tryz.prog 27 (⟨[aDa],[rS],true⟩) bPh:=aA6 bRf aAb Tryz.func27 (by kernel_rfl) fun cs outs hk h=>by
 unfold bPh at h
 split at h
 ·simp only[Option.some.injEq,Prod.mk.injEq]at h
  obtain⟨h1,rfl⟩:=h
  rename_i rows i hh
  rw[aAd,bDp]
  have o1:=aAr rows i 6 h1
  have o2:=aAr rows _ 41 o1
  have o3:=aAr rows _ 12 o1
  have b2:=aBs rows (aA0 rows i 6) (aA2 hh 6) 41 (by omega)
  have w2:IntKind.i64.wrap (20+aAm rows (aA0 rows i 6) (aA2 hh 6) 41)=20+aAm rows (aA0 rows i 6) (aA2 hh 6) 41:=by rw[aAh]<;>omega
  unfold rcT rcI rcH dtT dtI dtH
  by_cases p0:aAm rows i hh 6=0
  ·simp only[aA1,aA4,aA3,h1,p0,decide_true,if_true]
  ·by_cases p1:aAm rows i hh 6=1
   ·have p2:¬((1:Int)=0):=by decide
    simp only[aA1,aA4,aA3,h1,o1,o2,p1,p2,w2,decide_true,decide_false,Bool.false_eq_true,if_true,if_false]
   ·simp only[aA1,aA4,aA3,h1,o1,o3,p0,p1,decide_false,Bool.false_eq_true,if_true,if_false]
 ·cases h
theorem bUx (rows:List (List C)) (m:Int):∀ (f:Nat) (j i h:Int) (l:List (List UInt8)),aAs rows i=true→aAs rows (bS3 rows m f j i h l).2.1=true
 |0,_,_,_,_,ho=>ho
 |f+1,j,i,h,l,ho=>by
  unfold bS3
  split
  ·exact bUx rows m f _ _ _ _ (bVd _ _ _ (aAr _ _ _ ho))
  ·exact aAr _ _ _ ho
theorem aTg (rows:List (List C)) (m:Int):∀ (f:Nat) (j i h:Int) (l:List (List UInt8)),(∀ r,r∈l→r.length≤60)→(l.length:Int)≤j→j≤m+1→(∀ r,r∈(bS3 rows m f j i h l).1→r.length≤60)∧((bS3 rows m f j i h l).1.length:Int)≤m+1
 |0,_,_,_,l,h1,h2,h3=>⟨h1,by show (l.length:Int)≤m+1;omega⟩
 |f+1,j,i,h,l,h1,h2,h3=>by
  unfold bS3
  split
  ·rename_i hj
   by_cases hm:0<m+1
   ·have b:=aBs rows i h (m+1) hm
    refine aTg rows m f _ _ _ _ (fun r hr=>?_) (by simp;omega) (by omega)
    rcases List.mem_append.1 hr with hr | hr
    ·exact h1 r hr
    ·have:r=rcT rows (aA0 rows i (m+1)) (aA2 h (m+1)):=by simpa using hr
     rw[this];exact bVc _ _ _
   ·have:aAm rows i h (m+1)=0:=by unfold aAm;rw[if_pos (by omega)]
    omega
  ·exact⟨h1,by show (l.length:Int)≤_;omega⟩
theorem bUw (rows:List (List C)) (i h m:Int) (ho:aAs rows i=true):aAs rows (rsI rows i h m)=true:=bUx rows m _ _ _ _ _ ho
theorem bMy (rows:List (List C)) (i h m:Int) (hm:0≤m):((rsL rows i h m).length:Int)≤m+1:=(aTg rows m _ 0 i h [] (by simp) (by simp) (by omega)).2
theorem bIn (rows:List (List C)) (i h m:Int) (hm:0≤m):∀ r,r∈rsL rows i h m→r.length≤60:=(aTg rows m _ 0 i h [] (by simp) (by simp) (by omega)).1
theorem bA5 (rows:List (List C)) (m:Int) (hm:0≤m∧m≤100):∀ (f n:Nat) (j i h:Int) (l:List (List UInt8)),aAs rows i=true→j+f=m+2→j≤m+1→f≤n→(l.length:Int)≤j →
  (aBr aM5 aAc (⟨[aDa,pI],[rSl 9],true⟩) Tryz.f73 [.r,.r,.l,.r,.b] n (aM3 rows i h m l.length (l.map aAt) j)).eval=some [.sl ((bS3 rows m f j i h l).1.map aAt),.sl rows,.int .i64 (bS3 rows m f j i h l).2.1,.int .i64 (bS3 rows m f j i h l).2.2]:=by
 intro f
 induction f with
 |zero=>intro n j i h l ho h1 h2 h3 h4;omega
 |succ f ih =>
  intro n j i h l ho h1 h2 h3 h4
  obtain⟨n,rfl⟩:∃ q,n=q+1:=⟨n-1,by omega⟩
  rw[aAv _ _ _ _ _ _ _ (by kernel_rfl),aV5]
  have w:IntKind.i64.wrap (m+1)=m+1:=by rw[aAh]<;>omega
  have w2:IntKind.i64.wrap (j+1)=j+1:=by rw[aAh]<;>omega
  have o1:=aAr rows i (m+1) ho
  have b:=aBs rows i h (m+1) (by omega)
  have ro:aBj (l.length+1) 16=true:=by simp only[aBj,decide_eq_true_eq];omega
  have ap:∀ x:List UInt8,(l.map aAt).append [[C.str x]]=(l++[x]).map aAt:=fun x=>by simp
  simp only[aA1,aA4,aA3,ho,o1,w,w2,ro,ap,List.length_map,decide_eq_true_eq,decide_true,Bool.true_or,Bool.and_true,Bool.true_and,Bool.and_self,if_true]
  unfold bS3
  by_cases c:j<aAm rows i h (m+1)
  ·have e:=ih n (j+1) (rcI rows (aA0 rows i (m+1)) (aA2 h (m+1))) (rcH rows (aA0 rows i (m+1)) (aA2 h (m+1))) (l++[rcT rows (aA0 rows i (m+1)) (aA2 h (m+1))]) (bVd _ _ _ o1) (by omega) (by omega) (by omega) (by simp;omega)
   rw[List.length_append]at e
   rw[if_pos c,if_pos c]
   exact e
  ·rw[if_neg c,if_neg c]
theorem bM9:aAa Tryz.prog aM5:=aA8 (by simp[aD6,aPc])
theorem aMt:aAx Tryz.prog 73 (⟨[aDa,pI],[rSl 9],true⟩) bPa:=aA6 bM9 aAb Tryz.func73 (by kernel_rfl) fun cs outs hk h=>by
 unfold bPa at h
 split at h
 ·simp only[Option.some.injEq,Prod.mk.injEq,Bool.and_eq_true,decide_eq_true_eq]at h
  obtain⟨⟨h1,h2⟩,rfl⟩:=h
  rename_i rows i hh m
  rw[aAd,bA4]
  exact bA5 rows m h2 (m+2).toNat 9223372036854775808 0 i hh [] h1 (by omega) (by omega) (by omega) (by simp)
 ·cases h
theorem bKr (rows:List (List C)) (i h:Int) (t:List UInt8) (ho:aAs rows i=true):aAs rows (bnI rows i h t)=true:=by
 have o3:aAs rows (bGv rows i t)=true:=aAr _ _ _ (aAr _ _ _ (aAr _ _ _ ho))
 unfold bnI
 repeat' split
 ·exact ho
 ·exact aAr _ _ _ ho
 ·exact o3
 ·exact o3
 ·exact aQx _ _ _ (aAr _ _ _ o3)
 ·exact aAr _ _ _ o3
theorem bXl (rows:List (List C)) (i h:Int) (t:List UInt8):(bnT rows i h t).length≤t.length+5:=by
 unfold bnT
 repeat' split
 ·omega
 ·omega
 ·simp only[List.length_take];omega
 ·rename_i ht _ _ _
  have bk:=aBs rows (aA0 rows i 2) (aA2 h 2) t.length (by have:=List.length_pos_iff.2 ht;omega)
  simp only[List.length_append,List.length_take,List.length_drop,bnK];omega
 ·have b:=aBs rows (bGv rows i t) (bKs h t) 4 (by omega)
  rw[List.length_append,aHe]
  unfold bnN aEw
  split<;>omega
 ·rename_i ht _ _ _ _
  have bk:=aBs rows (aA0 rows i 2) (aA2 h 2) t.length (by have:=List.length_pos_iff.2 ht;omega)
  have e:(bnB rows i h t).length=1:=rfl
  simp only[List.length_append,List.length_take,List.length_drop,e,bnK];omega
theorem cC1 (x:Int) (h1:0≤x) (h2:x<256):0≤IntKind.u64.wrap x:=by
 simp only[IntKind.wrap,IntKind.bits,IntKind.signed]
 simp
 omega
theorem bZ4:aAa Tryz.prog bQh:=aA8 (by simp[aD6,aIz,aQ1])
theorem aUe:aAx Tryz.prog 75 (⟨[aDa,pS],[rS],true⟩) bQ2:=aA6 bZ4 aAb Tryz.func75 (by kernel_rfl) fun cs outs hk h=>by
 unfold bQ2 at h
 split at h
 ·simp only[Option.some.injEq,Prod.mk.injEq,Bool.and_eq_true,decide_eq_true_eq]at h
  obtain⟨⟨h1,h2⟩,rfl⟩:=h
  rename_i rows i hh t
  rw[aAd,bMs]
  have o1:=aAr rows i 2 h1
  have o2:=aAr rows _ t.length o1
  have o3:=aAr rows _ 4 o2
  have o4:=aAr rows _ 4 o3
  by_cases ht:t=[]
  ·subst ht;simp[aA4,aA3,bnT,bnI,bnH]
  ·have hl:0<t.length:=List.length_pos_iff.2 ht
   have bk:=aBs rows (aA0 rows i 2) (aA2 hh 2) t.length (by omega)
   have b4:=aBs rows (bGv rows i t) (bKs hh t) 4 (by omega)
   have b8:=aBs rows (bGv rows i t) (bKs hh t) 8 (by omega)
   by_cases p:aAm rows i hh 2=0
   ·simp[aA4,aA1,aA3,ht,p,h1,bnT,bnI,bnH]
   ·have w1:IntKind.i64.wrap (bnK rows i hh t+1)=bnK rows i hh t+1:=by unfold bnK;rw[aAh]<;>omega
    have w4:IntKind.i64.wrap (1+aAm rows (bGv rows i t) (bKs hh t) 4)=1+aAm rows (bGv rows i t) (bKs hh t) 4:=by rw[aAh]<;>omega
    have u8:=cC1 _ b8.1 (by omega)
    have ek:aAm rows (aA0 rows i 2) (aA2 hh 2) (t.length:Int)=bnK rows i hh t:=rfl
    have ei:aA0 rows (aA0 rows (aA0 rows i 2) (t.length:Int)) 4=bGv rows i t:=rfl
    have eh:aA2 (aA2 (aA2 hh 2) (t.length:Int)) 4=bKs hh t:=rfl
    have ec:aAm rows (aA0 rows (aA0 rows i 2) (t.length:Int)) (aA2 (aA2 hh 2) (t.length:Int)) 4=bnC rows i hh t:=rfl
    rw[ei]at o3 o4
    rw[ek]at bk
    have en:aEw (1+aAm rows (bGv rows i t) (bKs hh t) 4)=bnN rows i hh t:=rfl
    have eb:aC0 [[C.int .u8 (aQn .u8 ((t.getD (bnK rows i hh t).toNat 0).toNat:Int) (aUk .u8 1 (IntKind.u64.wrap (aAm rows (bGv rows i t) (bKs hh t) 8))))]]=bnB rows i hh t:=rfl
    have lb:(bnB rows i hh t).length=1:=rfl
    have lc:(aE1 rows (bnN rows i hh t) (aA0 rows (bGv rows i t) 4) (aA2 (bKs hh t) 4)).length≤5000:=by rw[aHe];unfold bnN aEw;split<;>omega
    have tb:(t==[])=false:=by simpa using ht
    have q1:bnK rows i hh t≤(t.length:Int):=by omega
    have q2:0≤bnK rows i hh t+1:=by omega
    have q3:bnK rows i hh t+1≤(t.length:Int):=by omega
    have l1:(t.take (bnK rows i hh t).toNat).length+(t.drop (bnK rows i hh t+1).toNat).length≤9223372036854775807:=by simp only[List.length_take,List.length_drop];omega
    have l2:(t.take (bnK rows i hh t).toNat).length+(bnB rows i hh t).length≤9223372036854775807:=by simp only[List.length_take,lb];omega
    have l3:(t.take (bnK rows i hh t).toNat).length+(bnB rows i hh t).length+(t.drop (bnK rows i hh t+1).toNat).length≤9223372036854775807:=by simp only[List.length_take,List.length_drop,lb];omega
    have l4:t.length+(aE1 rows (bnN rows i hh t) (aA0 rows (bGv rows i t) 4) (aA2 (bKs hh t) 4)).length≤9223372036854775807:=by omega
    simp only[aA4,aA1,aA3,tb,ek,ei,eh,ec,w1,w4,en,eb,h1,o1,o2,o3,o4,p,u8,bk.1,bk.2,q1,q2,q3,l1,l2,l3,l4,List.take_length,List.drop_zero,List.length_append,decide_true,decide_false,Bool.and_self,Bool.false_eq_true,if_true,if_false,decide_eq_true_eq]
    unfold bnT bnI bnH
    rw[if_neg ht,if_neg ht,if_neg ht,if_neg p,if_neg p,if_neg p]
    by_cases c0:bnC rows i hh t=0
    ·simp only[c0,if_true]
    ·by_cases c1:bnC rows i hh t=1
     ·rw[if_neg c0,if_neg c0,if_neg c0,if_neg c0,if_pos c1,if_pos c1,if_pos c1,if_pos c1]
     ·by_cases c2:bnC rows i hh t=2
      ·rw[if_neg c0,if_neg c0,if_neg c0,if_neg c0,if_neg c1,if_neg c1,if_neg c1,if_neg c1,if_pos c2,if_pos c2,if_pos c2,if_pos c2]
      ·rw[if_neg c0,if_neg c0,if_neg c0,if_neg c0,if_neg c1,if_neg c1,if_neg c1,if_neg c1,if_neg c2,if_neg c2,if_neg c2,if_neg c2]
 ·cases h
theorem aPy (l:List (List UInt8)):aK5 (l.map aAt)=true↔∀ x,x∈l→x.length≤281474976710656:=by
 simp only[aK5,aId,List.all_eq_true,decide_eq_true_eq]
theorem aUo (v b:Int):∀ (rs:List (List UInt8)) (i:Int) (t:List UInt8),(aJv v b i rs t).length≤t.length+90*rs.length
 |[],i,t=>by simp[aJv]
 |r::rs,i,t=>by
  unfold aJv
  have:=aUo v b rs (i+1) (t++aAf v (b+i) r)
  have h1:=aE9 v (b+i) r
  simp only[List.length_append,List.length_cons]at this ⊢
  omega
theorem aLt (v s b l:Int) (rs:List (List UInt8)):(aCw v s b l rs).length≤60+90*rs.length:=by
 unfold aCw
 have:=aUo v b rs 0 (aBe v s b l)
 have:=aJ8 v s b l
 omega
theorem bI3 (v s b l:Int) (rs:List (List UInt8)) (hb:0≤b∧b≤1000000000) (hl:rs.length≤1048576) (hr:∀ r,r∈rs→r.length≤281474976710656):∀ (f n i:Nat) (t:List UInt8),i+f=rs.length→f<n→t.length≤60+90*i →
  (aBr aSq aAc (⟨[aDr,aUg],[rS],true⟩) Tryz.f74 [.r,.r,.l,.r,.b] n (aSg v s b l (rs.map aAt) t i)).eval=some [.str (aJv v b i (rs.drop i) t)]:=by
 intro f
 induction f with
 |zero =>
  intro n i t h1 h2 h3
  obtain⟨n,rfl⟩:∃ q,n=q+1:=⟨n-1,by omega⟩
  rw[aAv _ _ _ _ _ _ _ (by kernel_rfl),aPe]
  have c:¬((i:Int)<(rs.length:Int)):=by omega
  have hd:rs.drop i=[]:=List.drop_eq_nil_of_le (by omega)
  simp only[List.length_map,aA4,aA3,decide_eq_true_eq,c,if_false,hd,aJv]
 |succ f ih =>
  intro n i t h1 h2 h3
  obtain⟨n,rfl⟩:∃ q,n=q+1:=⟨n-1,by omega⟩
  rw[aAv _ _ _ _ _ _ _ (by kernel_rfl),aPe]
  have hi:i<rs.length:=by omega
  have c:(i:Int)<(rs.length:Int):=by omega
  have z:(0:Int)≤(i:Int):=by omega
  have g:=aBc aAt rs [] i hi
  have hd:=aBx rs i [] hi
  have hm:(rs.getD i []).length≤281474976710656:=hr _ (by simp[List.getD_eq_getElem?_getD,hi])
  generalize rs.getD i []=r at g hd hm
  have w:IntKind.i64.wrap ((i:Int)+1)=((i+1:Nat):Int):=by rw[aAh]<;>omega
  have w2:IntKind.i64.wrap (b+(i:Int))=b+i:=by rw[aAh]<;>omega
  have fl:=aE9 v (b+i) r
  have m1:t.length+(aAf v (b+i) r).length≤9223372036854775807:=by omega
  have e:=ih n (i+1) (t++aAf v (b+i) r) (by omega) (by omega) (by simp only[List.length_append];omega)
  rw[hd]
  simp only[List.length_map,aA4,aA1,aA3,decide_eq_true_eq,c,z,Int.toNat_natCast,g,w,w2,if_true,decide_true,Bool.and_true,Bool.true_and,Bool.and_self,List.length_cons,List.length_nil,C.is,List.getD_cons_zero,C.toStr,Nat.zero_add,Nat.zero_lt_one,hm,m1,aJv]
  exact e
theorem bUo:aAa Tryz.prog aSq:=aA8 (by simp[aJ0,aI5])
theorem aR7:aAx Tryz.prog 74 (⟨[aDr,aUg],[rS],true⟩) aOe:=aA6 bUo aAb Tryz.func74 (by kernel_rfl) fun cs outs hk h=>by
 unfold aOe at h
 split at h
 ·simp only[Option.some.injEq,Prod.mk.injEq,Bool.and_eq_true,decide_eq_true_eq,aBi]at h
  obtain⟨⟨h1,h2,h3⟩,rfl⟩:=h
  rename_i v s b l r
  rw[aAd,bI2]
  have hr:=aFq h1
  generalize aCp r=rs at hr ⊢
  subst hr
  rw[List.length_map]at h2
  have h4:=(aPy rs).1 h3.2
  exact bI3 v s b l rs h3.1 h2 h4 rs.length 9223372036854775808 0 (aBe v s b l) (by omega) (by omega) (by have:=aJ8 v s b l;omega)
 ·cases h
theorem cFd (rows:List (List C)) (i h:Int):(flX rows i h).length≤120000:=by
 unfold flX
 split
 ·exact aQ0 _ _ _ _ _
 ·have h1:=aLt (hdV rows i h) (hdS rows i h) (hdB rows i h) (hdL rows i h) (flR rows i h)
  have h2:=bMy rows (hdI rows i) (hdH h) 6 (by omega)
  unfold flR at h1
  unfold flR
  omega
theorem cAa (rows:List (List C)) (i h:Int):(bT8 rows i h).length≤120005:=by
 have h1:=bXl rows (aA0 rows (flI rows i h) 2) (aA2 (flH rows i h) 2) (flX rows i h)
 have h2:=cFd rows i h
 unfold bT8
 omega
theorem cAb (rows:List (List C)) (i h:Int) (ho:aAs rows i=true):aAs rows (cAc rows i h)=true :=
 bKr _ _ _ _ (aAr _ _ _ (bUw _ _ _ _ (cBe _ _ ho)))
theorem cCf:aAa Tryz.prog bY1:=aA8 (by simp[aIz,aQ2,bHz,aMt,aUe,aR7])
theorem bMl:aAx Tryz.prog 78 (⟨[aDa],[rS],true⟩) bG6:=aA6 cCf aAb Tryz.func78 (by kernel_rfl) fun cs outs hk h=>by
 unfold bG6 at h
 split at h
 ·simp only[Option.some.injEq,Prod.mk.injEq]at h
  obtain⟨h1,rfl⟩:=h
  rename_i rows i hh
  rw[aAd,bRr]
  have o1:=cBe rows i h1
  have o2:=bUw rows (hdI rows i) (hdH hh) 6 o1
  have o3:=aAr rows _ 2 o2
  have ll:=bMy rows (hdI rows i) (hdH hh) 6 (by omega)
  have l1:(rsL rows (hdI rows i) (hdH hh) 6).length≤1048576:=by omega
  have tk:List.take (rsL rows (hdI rows i) (hdH hh) 6).length (List.map aAt (rsL rows (hdI rows i) (hdH hh) 6))=List.map aAt (rsL rows (hdI rows i) (hdH hh) 6):=List.take_of_length_le (by simp)
  have so:aK5 (List.map aAt (rsL rows (hdI rows i) (hdH hh) 6))=true:=(aPy _).2 fun x hx=>by have:=bIn rows (hdI rows i) (hdH hh) 6 (by omega) x hx;omega
  have hr:=cA5 rows i hh
  have ib:inB (hdB rows i hh) 0 1000000000=true:=(aBi _ _ _).2 ⟨by omega,by omega⟩
  have s1:=aQ0 (hdV rows i hh) (hdS rows i hh) (hdB rows i hh) (hdL rows i hh) (rsL rows (hdI rows i) (hdH hh) 6)
  have s2:=aLt (hdV rows i hh) (hdS rows i hh) (hdB rows i hh) (hdL rows i hh) (rsL rows (hdI rows i) (hdH hh) 6)
  have s3:(aCk (hdV rows i hh) (hdS rows i hh) (hdB rows i hh) (hdL rows i hh) (rsL rows (hdI rows i) (hdH hh) 6)).length≤1048576:=by omega
  have s4:(aCw (hdV rows i hh) (hdS rows i hh) (hdB rows i hh) (hdL rows i hh) (rsL rows (hdI rows i) (hdH hh) 6)).length≤1048576:=by omega
  have al:((List.map aAt (rsL rows (hdI rows i) (hdH hh) 6)).all fun row=>decide (row.length=1))=true:=by simp
  have d6:decide ((0:Int)≤6∧(6:Int)≤100)=true:=by decide
  unfold bT8 cAc cAd flX flR flI flH
  simp only[aA4,aA1,aA3,h1,o1,o2,o3,List.length_map,l1,tk,so,ib,s3,s4,al,d6,aEy,aId,decide_true,Bool.and_self,Bool.true_and,Bool.and_true,if_true,Nat.zero_add,decide_eq_true_eq]
  by_cases c:aAm rows (rsI rows (hdI rows i) (hdH hh) 6) (rsH rows (hdI rows i) (hdH hh) 6) 2=0
  ·simp only[c,if_true];rfl
  ·simp only[c,if_false];rfl
 ·cases h
noncomputable section
end
noncomputable section
def aJh (n:Int):List UInt8:=if inB n 0 1000000000 then aAo n++[46,116,109,112]else[]
def bD6:aCf:=fun cs=>match cs with
 |[.int .i64 n]=>some (true,[.str (aJh n)])
 |_=>none
def aZg:Env:=mkE [] [(53,(sg [pI] [rS]),aMo)]
end
theorem bA0 (H:List Pt→Nat→St→T (List C)) (n:Int):(aAk aZg aAc (sg [pI] [rS]) Tryz.f77 H [C.int .i64 n]).eval=((.ask (aAo n==[]) (.ret [C.str []]) (.must (decide ((aAo n).length+4≤9223372036854775807)) (.ret [C.str (aAo n++[(46:UInt8),116,109,112])]))):T (List C)).eval:=aAj (by kernel_rfl)
theorem bLy (n:Int):(aAo n).length≤100:=by
 unfold aAo
 split
 ·simp[aLz]
 ·simp
theorem bM0:aAa Tryz.prog aZg:=aA8 (by simp[aGe])
theorem aWs:aAx Tryz.prog 77 (sg [pI] [rS]) bD6:=aA6 bM0 aAb Tryz.func77 (by kernel_rfl) fun cs outs hk h=>by
 unfold bD6 at h
 split at h
 ·simp only[Option.some.injEq,Prod.mk.injEq,true_and]at h
  subst h
  rename_i n
  rw[aAd,bA0]
  have hl:=bLy n
  have h4:(aAo n).length+4≤9223372036854775807:=by omega
  by_cases hb:inB n 0 1000000000=true
  ·have hne:(aAo n==[])=false:=by unfold aAo;rw[if_pos hb];rfl
   simp only[aA4,aA1,aA3,hne,h4,hb,Bool.false_eq_true,if_false,if_true,decide_true,aJh]
  ·have hs:aAo n=[]:=by unfold aAo;rw[if_neg hb]
   simp only[aA4,aA1,aA3,hs,hb,beq_self_eq_true,if_true,if_false,aJh,Bool.false_eq_true]
 ·cases h
noncomputable section
def cBg (x:Int):Int:=if x<10 then 48+x else 87+x
def cFg (d:Nat):UInt8:=UInt8.ofNat (48+d)
def bOj:Nat→Nat→List UInt8→List UInt8
 |0,_,s=>s
 |f+1,n,s=>if n=0 then s else bOj f (n / 10) (cFg (n % 10)::s)
def aGt (n:Int):List UInt8:=if n=0 then[48]else bOj 20 n.toNat []
def cB5:List UInt8→Int→Option Int
 |[],n=>some n
 |c::r,n=>if (c.toNat:Int)<48 then none else if (c.toNat:Int)>57 then none else cB5 r (10*n+c.toNat-48)
def bLn (t:List UInt8):Bool:=decide (t.length≤10)&&match cB5 t 0 with | some n=>decide (n≤1000000000)&&decide (aGt n=t) | none=>false
def aP8 (t:List UInt8):Int:=if bLn t then (cB5 t 0).getD 0 else 0
def bOd:aCf:=fun cs=>match cs with
 |[.int .i64 x]=>some (inB x 0 15,[.int .u8 (cBg x)])
 |_=>none
def bGb:aCf:=fun cs=>match cs with
 |[.int .i64 x]=>some (inB x 0 9223372036854775807,[.str (aGt x)])
 |_=>none
def bVa:aCf:=fun cs=>match cs with
 |[.str t]=>some (decide (t.length≤281474976710656),[.int .i64 (aP8 t),.bool (bLn t)])
 |_=>none
def cBs:Env:=mkE [] []
def cDs (n:Int) (s:List UInt8):St:=st0 [(0,aBf n),(3,.l (.b true)),(4,aZu s)]
def bKw (n:Int) (s:List UInt8):St:=st0 [(0,aBf n),(3,.l (.b false)),(4,aZu s)]
def bQr:Env:=mkE [(5,[0,3,4])] [(158,(sg [pI] [rU8]),bOd)]
def cAv (t:List UInt8) (n i:Int):St:=st0 [(0,aZu t),(4,aBf n),(5,aBf i)]
def cAw:Env:=mkE [(5,[0,4,5])] [(144,(sg [pI] [rS]),bGb)]
def bVv (c:UInt8):Bool:=inB (c.toNat:Int) 97 122||inB (c.toNat:Int) 48 57||decide ((c.toNat:Int)=46)||decide ((c.toNat:Int)=45)
def aEf (t:List UInt8):Bool:=t.all bVv&&inB t.length 1 20
def aLp:aCf:=fun cs=>match cs with
 |[.str t]=>some (decide (t.length≤281474976710656),[.bool (aEf t)])
 |_=>none
def aJg (t:List UInt8) (i:Int):St:=st0 [(0,aZu t),(3,aBf i)]
def aSp:Env:=mkE [(2,[0,3])] [(45,(sg [pI,pI,pI] [rB]),aE4)]
abbrev dN:Nat:=16777216
def bBy (ns:List (List C)):Bool:=aAp kNd ns&&decide (ns.length≤dN)&&(nds ns).all fun x=>decide (x.text.length≤dN)
def aKh (es:List (List C)):Bool:=aAp kEn es&&decide (es.length≤dN)&&(ens es).all fun x=>decide (x.name.length≤dN)
def bYs (ss:List (List C)):Bool:=aAp [.str] ss&&decide (ss.length≤dN)&&(aCp ss).all fun x=>decide (x.length≤dN)
def aEv (ns:List Nd):Nat:=(ns.map fun x=>x.text.length).sum
def aVn:aCf:=fun cs=>match cs with
 |[.sl ns,.sl _,.sl _,.sl _,.int .i64 _,.int .i64 _]=>some (bBy ns,[.int .i64 (aEv (nds ns))])
 |_=>none
def aZb (ns es os ss:List (List C)) (r x n i:Int):St:={slots:=[(1,.l (.ptr 0 0)),(3,aBf n),(4,aBf i)],heap:=[(0,bOh ns es os ss r x)],next:=1,pins:=[]}
def aZf:Env:=mkE [(3,[1,3,4])] []
def aYr (ns:List Nd):List En→Option (List UInt8)→Bool
 |[],_=>true
 |e::r,p=>aEf e.name&&decide (0≤aAz ns e.id)&&(match p with | none=>true | some q=>Op.bytesLess q e.name)&&aYr ns r (some e.name)
def aKx (ns:List Nd) (l:List En):Bool:=aYr ns l none&&decide (l.length≤16)
def aQd:aCf:=fun cs=>match cs with
 |[.sl ns,.sl _,.sl _,.sl _,.int .i64 _,.int .i64 _,.sl l]=>some (bBy ns&&aKh l,[.bool (aKx (nds ns) (ens l))])
 |_=>none
def aL6 (ns es os ss:List (List C)) (r x:Int) (l:List (List C)) (i:Int):St:={slots:=[(1,.l (.sl l)),(2,.l (.ptr 0 0)),(5,aBf i)],heap:=[(0,bOh ns es os ss r x)],next:=1,pins:=[]}
def aP0:Env:=mkE [(2,[1,2,5])] [(92,(sg [aB0,pI] [rI]),aFb),(142,(sg [pS] [rB]),aLp)]
def bDc:aCf:=fun cs=>match cs with
 |[.sl a,.sl b]=>some (aKh a&&aKh b,[.bool (decide (ens a=ens b))])
 |_=>none
def bGk (a b:List (List C)) (i:Int):St:=st0 [(0,.l (.sl a)),(1,.l (.sl b)),(5,aBf i)]
def bGo:Env:=mkE [(4,[0,1,5])] []
def geB (a b:List UInt8):Bool:= !Op.bytesLess a b
def aIh (e:En):List En→Bool→List En
 |[],done=>if done then[]else[e]
 |x::r,done=>(if done then[]else if geB x.name e.name then[e]else[])++(if x.name=e.name then[]else[x])++aIh e r (done||geB x.name e.name)
def bIx (l:List En) (e:En):List En:=aIh e l false
def aGs (l:List En) (nm:List UInt8):List En:=l.filter fun x=> !decide (x.name=nm)
def aG3 (l:List (List C)) (nm:List UInt8) (id:Int):List (List C):=(bIx (ens l) ⟨nm,id⟩).map eEn
def aBo (l:List (List C)) (nm:List UInt8):List (List C):=(aGs (ens l) nm).map eEn
def aXn:aCf:=fun cs=>match cs with
 |[.sl l,.str nm,.int .i64 id]=>some (aKh l,[.sl (aG3 l nm id)])
 |_=>none
def aS5:aCf:=fun cs=>match cs with
 |[.sl l,.str nm]=>some (aKh l,[.sl (aBo l nm)])
 |_=>none
def aZd (l:List (List C)) (nm:List UInt8) (id:Int) (n:Nat) (o:List (List C)) (i:Int):St:={slots:=[(0,.l (.sl l)),(3,.l (.ptr 0 0)),(5,.l (.ref 1 0 n)),(6,.l (.b false)),(7,aBf i)],heap:=[(0,.box [.s nm,.i .i64 id]),(1,.arr 2 o)],next:=2,pins:=[]}
def aU5 (l:List (List C)) (nm:List UInt8) (id:Int) (n:Nat) (o:List (List C)) (i:Int):St:={slots:=[(0,.l (.sl l)),(3,.l (.ptr 0 0)),(5,.l (.ref 1 0 n)),(6,.l (.b true)),(7,aBf i)],heap:=[(0,.box [.s nm,.i .i64 id]),(1,.arr 2 o)],next:=2,pins:=[]}
def bCn:Env:=mkE [(4,[0,3,5,6,7])] []
def aZe (l:List (List C)) (nm:List UInt8) (n:Nat) (o:List (List C)) (i:Int):St:=st1 [(0,.l (.sl l)),(1,aZu nm),(5,.l (.ref 0 0 n)),(6,aBf i)] 2 o
def bGq:Env:=mkE [(3,[0,1,5,6])] []
def aBu (s:List UInt8):Int:=((s.getD 0 0).toNat:Int)
def aY3 (c:UInt8):Bool:=decide (c.toNat=58)
def aU1 (s:List UInt8):Int:=aDb aY3 (s.drop 1) 1
def aIc (s:List UInt8):Bool:=decide (2≤s.length)&&(decide (aBu s=43)||decide (aBu s=45)||decide (aBu s=62))
def bBn (s:List UInt8):List UInt8:=(s.take (aU1 s).toNat).drop 1
def aUa (s:List UInt8):List UInt8:=s.drop ((aU1 s).toNat+1)
def aB1 (s:List UInt8):List UInt8:=if aIc s then (if aBu s=45 then s.drop 1 else if aU1 s<0 then[]else bBn s)else[]
def aPw (s:List UInt8):List UInt8:=if aIc s&&decide (aBu s=62)&&decide (0≤aU1 s)then aUa s else[]
def aSw (s:List UInt8):Int:=if aIc s&&decide (aBu s=43)&&decide (0≤aU1 s)then aP8 (aUa s)else 0
def aH1 (s:List UInt8):Bool:=aIc s&&(decide (aBu s=45)||decide (0≤aU1 s)&&(if aBu s=62 then aEf (aUa s)&& !decide (bBn s=aUa s)else bLn (aUa s)&&aEf (bBn s)))
def bD7:aCf:=fun cs=>match cs with
 |[.str s]=>some (decide (s.length≤281474976710656),[.str (aB1 s),.str (aPw s),.int .i64 (aSw s),.bool (aH1 s)])
 |_=>none
def aNp (s:List UInt8) (i:Int):St:=st0 [(0,aZu s),(6,aBf i)]
def aZh:Env:=mkE [(6,[0,6])] [(180,(sg [pS] [rI,rB]),bVa),(142,(sg [pS] [rB]),aLp)]
end
theorem bX4 (H:List Pt→Nat→St→T (List C)) (x:Int):(aAk cBs aAc (sg [pI] [rU8]) Tryz.f158 H [C.int .i64 x]).eval=((.ask (decide (x<(10:Int))) (.ret [C.int .u8 (IntKind.u8.wrap (IntKind.i64.wrap ((48:Int)+x)))]) (.ret [C.int .u8 (IntKind.u8.wrap (IntKind.i64.wrap (IntKind.i64.wrap ((97:Int)+x)-(10:Int))))])):T (List C)).eval:=aAj (by kernel_rfl)
theorem bXf (H:List Pt→Nat→St→T (List C)) (x:Int):(aAk bQr aAc (sg [pI] [rS]) Tryz.f144 H [C.int .i64 x]).eval=((.ask (decide (x=(0:Int))) (.ret [C.str [(48:UInt8)]]) (.ask (decide (x<(0:Int))) (H [Pt.r,Pt.r,Pt.r,Pt.r,Pt.l,Pt.b] 9223372036854775808 (cDs (x) ([]))) (H [Pt.r,Pt.r,Pt.r,Pt.r,Pt.l,Pt.b] 9223372036854775808 (bKw (x) ([]))))):T (List C)).eval:=aAj (by kernel_rfl)
theorem aYx (H:List Pt→Nat→St→T (List C)) (n:Int) (s:List UInt8) (k:Nat):(aBl bQr aAc (sg [pI] [rS]) Tryz.f144 H [Pt.r,Pt.r,Pt.r,Pt.r,Pt.l,Pt.b] k (bKw n s)).eval=((.ask (n != (0:Int)) (.ask (decide (n.tmod 10<(0:Int))) (.must (inB (IntKind.i64.wrap ((0:Int)-n.tmod 10)) (0:Int) (15:Int)) (.must (decide ((aC0 [[C.int .u8 (cBg (IntKind.i64.wrap ((0:Int)-n.tmod 10)))]]).length+s.length≤9223372036854775807)) (H [Pt.r,Pt.r,Pt.r,Pt.r,Pt.l,Pt.b] k (bKw (IntKind.i64.wrap (n.tdiv 10)) (aC0 [[C.int .u8 (cBg (IntKind.i64.wrap ((0:Int)-n.tmod 10)))]]++s))))) (.must (inB (n.tmod 10) 0 15) (.must (decide ((aC0 [[C.int .u8 (cBg (n.tmod 10))]]).length+s.length≤9223372036854775807)) (H [Pt.r,Pt.r,Pt.r,Pt.r,Pt.l,Pt.b] k (bKw (IntKind.i64.wrap (n.tdiv 10)) (aC0 [[C.int .u8 (cBg (n.tmod 10))]]++s)))))) (.ret [C.str s])):T (List C)).eval:=aAj (by kernel_rfl)
theorem bZb (H:List Pt→Nat→St→T (List C)) (t:List UInt8):(aAk cAw aAc (sg [pS] [rI,rB]) Tryz.f180 H [C.str t]).eval=((.ask (decide ((10:Int)<(↑t.length:Int))) (.ret [C.int .i64 0,C.bool false]) (H [Pt.r,Pt.r,Pt.r,Pt.l,Pt.r,Pt.b] 9223372036854775808 (cAv (t) ((0:Int)) ((0:Int))))):T (List C)).eval:=aAj (by kernel_rfl)
theorem bS9 (H:List Pt→Nat→St→T (List C)) (t:List UInt8) (n:Int) (i:Int) (k:Nat):(aBl cAw aAc (sg [pS] [rI,rB]) Tryz.f180 H [Pt.r,Pt.r,Pt.r,Pt.l,Pt.r,Pt.b] k (cAv t n i)).eval=((.ask (decide (i<(↑t.length:Int))) (.must (decide ((0:Int)≤i)&&decide (i<(↑t.length:Int))) (.ask (decide ((↑(t.getD i.toNat (0:UInt8)).toNat:Int)<(48:Int))) (.ret [C.int .i64 0,C.bool false]) (.must (decide ((0:Int)≤i)&&decide (i<(↑t.length:Int))) (.ask (decide ((57:Int)<(↑(t.getD i.toNat (0:UInt8)).toNat:Int))) (.ret [C.int .i64 0,C.bool false]) (.must (decide ((0:Int)≤i)&&decide (i<(↑t.length:Int))) (H [Pt.r,Pt.r,Pt.r,Pt.l,Pt.r,Pt.b] k (cAv (t) (IntKind.i64.wrap (IntKind.i64.wrap (IntKind.i64.wrap ((10:Int)*n)+IntKind.i64.wrap (↑(t.getD i.toNat (0:UInt8)).toNat:Int))-(48:Int))) (IntKind.i64.wrap (i+(1:Int)))))))))) (.ask (decide ((1000000000:Int)<n)) (.ret [C.int .i64 0,C.bool false]) (.must (inB n 0 9223372036854775807) (.ask (!aGt n==t) (.ret [C.int .i64 0,C.bool false]) (.ret [C.int .i64 n,C.bool true]))))):T (List C)).eval:=aAj (by kernel_rfl)
theorem bHs (H:List Pt→Nat→St→T (List C)) (t:List UInt8):(aAk aSp aAc (sg [pS] [rB]) Tryz.f142 H [C.str t]).eval=((H [Pt.r,Pt.l,Pt.r,Pt.b] 9223372036854775808 (aJg (t) ((0:Int)))):T (List C)).eval:=aAj (by kernel_rfl)
theorem bAc (H:List Pt→Nat→St→T (List C)) (t:List UInt8) (i:Int) (k:Nat):(aBl aSp aAc (sg [pS] [rB]) Tryz.f142 H [Pt.r,Pt.l,Pt.r,Pt.b] k (aJg t i)).eval=((.ask (decide (i<(↑t.length:Int))) (.must (decide ((0:Int)≤i)&&decide (i<(↑t.length:Int))) (.ask (inB (IntKind.i64.wrap (↑(t.getD i.toNat (0:UInt8)).toNat:Int)) (97:Int) (122:Int)) (H [Pt.r,Pt.l,Pt.r,Pt.b] k (aJg (t) (IntKind.i64.wrap (i+(1:Int))))) (.ask (inB (IntKind.i64.wrap (↑(t.getD i.toNat (0:UInt8)).toNat:Int)) (48:Int) (57:Int)) (H [Pt.r,Pt.l,Pt.r,Pt.b] k (aJg (t) (IntKind.i64.wrap (i+(1:Int))))) (.ask (IntKind.i64.wrap (↑(t.getD i.toNat (0:UInt8)).toNat:Int) != (46:Int)) (.ask (IntKind.i64.wrap (↑(t.getD i.toNat (0:UInt8)).toNat:Int) != (45:Int)) (.ret [C.bool false]) (H [Pt.r,Pt.l,Pt.r,Pt.b] k (aJg (t) (IntKind.i64.wrap (i+(1:Int)))))) (H [Pt.r,Pt.l,Pt.r,Pt.b] k (aJg (t) (IntKind.i64.wrap (i+(1:Int))))))))) (.ask (inB (↑t.length:Int) 1 20) (.ret [C.bool true]) (.ret [C.bool false]))):T (List C)).eval:=aAj (by kernel_rfl)
theorem bR1 (H:List Pt→Nat→St→T (List C)) (ns:List (List C)) (es:List (List C)) (os:List (List C)) (ss:List (List C)) (r:Int) (x:Int):(aAk aZf aAc (sg [aB0] [rI]) Tryz.f145 H [C.sl ns,C.sl es,C.sl os,C.sl ss,C.int .i64 r,C.int .i64 x]).eval=((H [Pt.r,Pt.r,Pt.l,Pt.r,Pt.b] 9223372036854775808 (aZb (ns) (es) (os) (ss) (r) (x) ((0:Int)) ((0:Int)))):T (List C)).eval:=aAj (by kernel_rfl)
theorem bHd (H:List Pt→Nat→St→T (List C)) (ns:List (List C)) (es:List (List C)) (os:List (List C)) (ss:List (List C)) (r:Int) (x:Int) (n:Int) (i:Int) (k:Nat):(aBl aZf aAc (sg [aB0] [rI]) Tryz.f145 H [Pt.r,Pt.r,Pt.l,Pt.r,Pt.b] k (aZb ns es os ss r x n i)).eval=((.ask (decide (i<(↑ns.length:Int))) (.must (decide ((0:Int)≤i)&&decide (i<(↑ns.length:Int))&&decide ((ns.getD i.toNat []).length=3)) (.must (decide (0+1<(ns.getD i.toNat []).length)&&C.is K.str ((ns.getD i.toNat []).getD (0+1) (C.fn 0 []))&&true) (H [Pt.r,Pt.r,Pt.l,Pt.r,Pt.b] k (aZb (ns) (es) (os) (ss) (r) (x) (IntKind.i64.wrap (n+(↑((ns.getD i.toNat []).getD (0+1) (C.fn 0 [])).toStr.length:Int))) (IntKind.i64.wrap (i+(1:Int))))))) (.ret [C.int .i64 n])):T (List C)).eval:=aAj (by kernel_rfl)
theorem bE4 (H:List Pt→Nat→St→T (List C)) (ns:List (List C)) (es:List (List C)) (os:List (List C)) (ss:List (List C)) (r:Int) (x:Int) (l:List (List C)):(aAk aP0 aAc (sg [aB0,pSl 100] [rB]) Tryz.f156 H [C.sl ns,C.sl es,C.sl os,C.sl ss,C.int .i64 r,C.int .i64 x,C.sl l]).eval=((H [Pt.r,Pt.l,Pt.r,Pt.b] 9223372036854775808 (aL6 (ns) (es) (os) (ss) (r) (x) (l) ((0:Int)))):T (List C)).eval:=aAj (by kernel_rfl)
theorem aXc (H:List Pt→Nat→St→T (List C)) (ns:List (List C)) (es:List (List C)) (os:List (List C)) (ss:List (List C)) (r:Int) (x:Int) (l:List (List C)) (i:Int) (k:Nat):(aBl aP0 aAc (sg [aB0,pSl 100] [rB]) Tryz.f156 H [Pt.r,Pt.l,Pt.r,Pt.b] k (aL6 ns es os ss r x l i)).eval=((.ask (decide (i<(↑l.length:Int))) (.must (decide ((0:Int)≤i)&&decide (i<(↑l.length:Int))&&decide ((l.getD i.toNat []).length=2)) (.must (decide (0+0<(l.getD i.toNat []).length)&&C.is K.str ((l.getD i.toNat []).getD (0+0) (C.fn 0 []))&&true) (.must (decide (((l.getD i.toNat []).getD (0+0) (C.fn 0 [])).toStr.length≤281474976710656)) (.ask (aEf ((l.getD i.toNat []).getD (0+0) (C.fn 0 [])).toStr) (.must (decide ((0:Int)≤i)&&decide (i<(↑l.length:Int))&&decide ((l.getD i.toNat []).length=2)) (.must (decide (0+1<(l.getD i.toNat []).length)&&C.is (K.int .i64) ((l.getD i.toNat []).getD (0+1) (C.fn 0 []))&&true) (.must (decide (ns.length≤aMj)&&aAp [K.int .i64,K.str,K.int .i64] ns) (.ask (decide (aAz (nds ns) ((l.getD i.toNat []).getD (0+1) (C.fn 0 [])).toInt<(0:Int))) (.ret [C.bool false]) (.ask (decide ((0:Int)<i)) (.must (decide ((0:Int)≤IntKind.i64.wrap (i-(1:Int)))&&decide (IntKind.i64.wrap (i-(1:Int))<(↑l.length:Int))&&decide ((l.getD (IntKind.i64.wrap (i-(1:Int))).toNat []).length=2)) (.must (decide (0+0<(l.getD (IntKind.i64.wrap (i-(1:Int))).toNat []).length)&&C.is K.str ((l.getD (IntKind.i64.wrap (i-(1:Int))).toNat []).getD (0+0) (C.fn 0 []))&&true) (.must (decide ((0:Int)≤i)&&decide (i<(↑l.length:Int))&&decide ((l.getD i.toNat []).length=2)) (.must (decide (0+0<(l.getD i.toNat []).length)&&C.is K.str ((l.getD i.toNat []).getD (0+0) (C.fn 0 []))&&true) (.ask (!Op.bytesLess ((l.getD (IntKind.i64.wrap (i-(1:Int))).toNat []).getD (0+0) (C.fn 0 [])).toStr ((l.getD i.toNat []).getD (0+0) (C.fn 0 [])).toStr) (.ret [C.bool false]) (H [Pt.r,Pt.l,Pt.r,Pt.b] k (aL6 (ns) (es) (os) (ss) (r) (x) (l) (IntKind.i64.wrap (i+(1:Int)))))))))) (H [Pt.r,Pt.l,Pt.r,Pt.b] k (aL6 (ns) (es) (os) (ss) (r) (x) (l) (IntKind.i64.wrap (i+(1:Int)))))))))) (.ret [C.bool false]))))) (.ask (decide ((↑l.length:Int)≤(16:Int))) (.ret [C.bool true]) (.ret [C.bool false]))):T (List C)).eval:=aAj (by kernel_rfl)
theorem bRd (H:List Pt→Nat→St→T (List C)) (a:List (List C)) (b:List (List C)):(aAk bGo aAc (sg [pSl 100,pSl 100] [rB]) Tryz.f157 H [C.sl a,C.sl b]).eval=((.ask ((↑a.length:Int) != (↑b.length:Int)) (.ret [C.bool false]) (H [Pt.r,Pt.r,Pt.l,Pt.r,Pt.b] 9223372036854775808 (bGk (a) (b) ((0:Int))))):T (List C)).eval:=aAj (by kernel_rfl)
theorem bHh (H:List Pt→Nat→St→T (List C)) (a:List (List C)) (b:List (List C)) (i:Int) (k:Nat):(aBl bGo aAc (sg [pSl 100,pSl 100] [rB]) Tryz.f157 H [Pt.r,Pt.r,Pt.l,Pt.r,Pt.b] k (bGk a b i)).eval=((.ask (decide (i<(↑a.length:Int))) (.must (decide ((0:Int)≤i)&&decide (i<(↑a.length:Int))&&decide ((a.getD i.toNat []).length=2)) (.must (decide (0<(a.getD i.toNat []).length)&&C.is K.str ((a.getD i.toNat []).getD 0 (C.fn 0 []))&&(decide (0+1<(a.getD i.toNat []).length)&&C.is (K.int .i64) ((a.getD i.toNat []).getD (0+1) (C.fn 0 []))&&true)) (.must (decide ((0:Int)≤i)&&decide (i<(↑b.length:Int))&&decide ((b.getD i.toNat []).length=2)) (.must (decide (0<(b.getD i.toNat []).length)&&C.is K.str ((b.getD i.toNat []).getD 0 (C.fn 0 []))&&(decide (0+1<(b.getD i.toNat []).length)&&C.is (K.int .i64) ((b.getD i.toNat []).getD (0+1) (C.fn 0 []))&&true)) (.ask (!(((a.getD i.toNat []).getD 0 (C.fn 0 [])).toStr==((b.getD i.toNat []).getD 0 (C.fn 0 [])).toStr&&(decide (((a.getD i.toNat []).getD (0+1) (C.fn 0 [])).toInt=((b.getD i.toNat []).getD (0+1) (C.fn 0 [])).toInt)&&true))) (.ret [C.bool false]) (H [Pt.r,Pt.r,Pt.l,Pt.r,Pt.b] k (bGk (a) (b) (IntKind.i64.wrap (i+(1:Int)))))))))) (.ret [C.bool true])):T (List C)).eval:=aAj (by kernel_rfl)
theorem bUd (H:List Pt→Nat→St→T (List C)) (l:List (List C)) (nm:List UInt8) (id:Int):(aAk bCn aAc (sg [pSl 100,aKo] [rSl 100]) Tryz.f143 H [C.sl l,C.str nm,C.int .i64 id]).eval=((H [Pt.r,Pt.r,Pt.r,Pt.l,Pt.r,Pt.b] 9223372036854775808 (aZd (l) (nm) (id) (0) ([]) ((0:Int)))):T (List C)).eval:=aAj (by kernel_rfl)
theorem bHn (H:List Pt→Nat→St→T (List C)) (l:List (List C)) (nm:List UInt8) (id:Int) (n:Nat) (o:List (List C)) (i:Int) (k:Nat):(aBl bCn aAc (sg [pSl 100,aKo] [rSl 100]) Tryz.f143 H [Pt.r,Pt.r,Pt.r,Pt.l,Pt.r,Pt.b] k (aZd l nm id n o i)).eval=((.ask (decide (i<(↑l.length:Int))) (.must (decide ((0:Int)≤i)&&decide (i<(↑l.length:Int))&&decide ((l.getD i.toNat []).length=2)) (.must (decide (0+0<(l.getD i.toNat []).length)&&C.is K.str ((l.getD i.toNat []).getD (0+0) (C.fn 0 []))&&true) (.ask (!Op.bytesLess ((l.getD i.toNat []).getD (0+0) (C.fn 0 [])).toStr nm) (.must (decide (n=o.length)&&aBj (o.length+1) 24&&(decide ((Nat.add 1 0).succ=2)&&true)) (.must (decide ((0:Int)≤i)&&decide (i<(↑l.length:Int))&&decide ((l.getD i.toNat []).length=2)) (.must (decide (0+0<(l.getD i.toNat []).length)&&C.is K.str ((l.getD i.toNat []).getD (0+0) (C.fn 0 []))&&true) (.ask (!((l.getD i.toNat []).getD (0+0) (C.fn 0 [])).toStr==nm) (.must (decide ((0:Int)≤i)&&decide (i<(↑l.length:Int))&&decide ((l.getD i.toNat []).length=2)) (.must (decide (0<(l.getD i.toNat []).length)&&C.is K.str ((l.getD i.toNat []).getD 0 (C.fn 0 []))&&(decide (0+1<(l.getD i.toNat []).length)&&C.is (K.int .i64) ((l.getD i.toNat []).getD (0+1) (C.fn 0 []))&&true)) (.must (decide (o.length+1=(o.append [[C.str nm,C.int .i64 id]]).length)&&aBj ((o.append [[C.str nm,C.int .i64 id]]).length+1) 24&&(decide ((Nat.add 1 0).succ=2)&&true)) (H [Pt.r,Pt.r,Pt.r,Pt.l,Pt.r,Pt.b] k (aU5 (l) (nm) (id) ((o.append [[C.str nm,C.int .i64 id]]).length+1) ((o.append [[C.str nm,C.int .i64 id]]).append [[C.str ((l.getD i.toNat []).getD 0 (C.fn 0 [])).toStr,C.int .i64 ((l.getD i.toNat []).getD (0+1) (C.fn 0 [])).toInt]]) (IntKind.i64.wrap (i+(1:Int)))))))) (H [Pt.r,Pt.r,Pt.r,Pt.l,Pt.r,Pt.b] k (aU5 (l) (nm) (id) (o.length+1) (o.append [[C.str nm,C.int .i64 id]]) (IntKind.i64.wrap (i+(1:Int))))))))) (.must (decide ((0:Int)≤i)&&decide (i<(↑l.length:Int))&&decide ((l.getD i.toNat []).length=2)) (.must (decide (0+0<(l.getD i.toNat []).length)&&C.is K.str ((l.getD i.toNat []).getD (0+0) (C.fn 0 []))&&true) (.ask (!((l.getD i.toNat []).getD (0+0) (C.fn 0 [])).toStr==nm) (.must (decide ((0:Int)≤i)&&decide (i<(↑l.length:Int))&&decide ((l.getD i.toNat []).length=2)) (.must (decide (0<(l.getD i.toNat []).length)&&C.is K.str ((l.getD i.toNat []).getD 0 (C.fn 0 []))&&(decide (0+1<(l.getD i.toNat []).length)&&C.is (K.int .i64) ((l.getD i.toNat []).getD (0+1) (C.fn 0 []))&&true)) (.must (decide (n=o.length)&&aBj (o.length+1) 24&&(decide ((Nat.add 1 0).succ=2)&&true)) (H [Pt.r,Pt.r,Pt.r,Pt.l,Pt.r,Pt.b] k (aZd (l) (nm) (id) (o.length+1) (o.append [[C.str ((l.getD i.toNat []).getD 0 (C.fn 0 [])).toStr,C.int .i64 ((l.getD i.toNat []).getD (0+1) (C.fn 0 [])).toInt]]) (IntKind.i64.wrap (i+(1:Int)))))))) (H [Pt.r,Pt.r,Pt.r,Pt.l,Pt.r,Pt.b] k (aZd (l) (nm) (id) (n) (o) (IntKind.i64.wrap (i+(1:Int))))))))))) (.must (decide (n=o.length)&&aBj (o.length+1) 24&&(decide ((Nat.add 1 0).succ=2)&&true)) (.must (decide (o.length+1=(o.append [[C.str nm,C.int .i64 id]]).length)&&(false||(o.append [[C.str nm,C.int .i64 id]]).all fun r=>r.all C.flat)&&true&&true&&true) (.ret [C.sl (o.append [[C.str nm,C.int .i64 id]])])))):T (List C)).eval:=aAj (by kernel_rfl)
theorem bHm (H:List Pt→Nat→St→T (List C)) (l:List (List C)) (nm:List UInt8) (id:Int) (n:Nat) (o:List (List C)) (i:Int) (k:Nat):(aBl bCn aAc (sg [pSl 100,aKo] [rSl 100]) Tryz.f143 H [Pt.r,Pt.r,Pt.r,Pt.l,Pt.r,Pt.b] k (aU5 l nm id n o i)).eval=((.ask (decide (i<(↑l.length:Int))) (.must (decide ((0:Int)≤i)&&decide (i<(↑l.length:Int))&&decide ((l.getD i.toNat []).length=2)) (.must (decide (0+0<(l.getD i.toNat []).length)&&C.is K.str ((l.getD i.toNat []).getD (0+0) (C.fn 0 []))&&true) (.ask (!((l.getD i.toNat []).getD (0+0) (C.fn 0 [])).toStr==nm) (.must (decide ((0:Int)≤i)&&decide (i<(↑l.length:Int))&&decide ((l.getD i.toNat []).length=2)) (.must (decide (0<(l.getD i.toNat []).length)&&C.is K.str ((l.getD i.toNat []).getD 0 (C.fn 0 []))&&(decide (0+1<(l.getD i.toNat []).length)&&C.is (K.int .i64) ((l.getD i.toNat []).getD (0+1) (C.fn 0 []))&&true)) (.must (decide (n=o.length)&&aBj (o.length+1) 24&&(decide ((Nat.add 1 0).succ=2)&&true)) (H [Pt.r,Pt.r,Pt.r,Pt.l,Pt.r,Pt.b] k (aU5 (l) (nm) (id) (o.length+1) (o.append [[C.str ((l.getD i.toNat []).getD 0 (C.fn 0 [])).toStr,C.int .i64 ((l.getD i.toNat []).getD (0+1) (C.fn 0 [])).toInt]]) (IntKind.i64.wrap (i+(1:Int)))))))) (H [Pt.r,Pt.r,Pt.r,Pt.l,Pt.r,Pt.b] k (aU5 (l) (nm) (id) (n) (o) (IntKind.i64.wrap (i+(1:Int)))))))) (.must (decide (n=o.length)&&(false||o.all fun r=>r.all C.flat)&&true&&true&&true) (.ret [C.sl o]))):T (List C)).eval:=aAj (by kernel_rfl)
theorem bRu (H:List Pt→Nat→St→T (List C)) (l:List (List C)) (nm:List UInt8):(aAk bGq aAc (sg [pSl 100,pS] [rSl 100]) Tryz.f140 H [C.sl l,C.str nm]).eval=((H [Pt.r,Pt.r,Pt.l,Pt.r,Pt.b] 9223372036854775808 (aZe (l) (nm) (0) ([]) ((0:Int)))):T (List C)).eval:=aAj (by kernel_rfl)
theorem bI7 (H:List Pt→Nat→St→T (List C)) (l:List (List C)) (nm:List UInt8) (n:Nat) (o:List (List C)) (i:Int) (k:Nat):(aBl bGq aAc (sg [pSl 100,pS] [rSl 100]) Tryz.f140 H [Pt.r,Pt.r,Pt.l,Pt.r,Pt.b] k (aZe l nm n o i)).eval=((.ask (decide (i<(↑l.length:Int))) (.must (decide ((0:Int)≤i)&&decide (i<(↑l.length:Int))&&decide ((l.getD i.toNat []).length=2)) (.must (decide (0+0<(l.getD i.toNat []).length)&&C.is K.str ((l.getD i.toNat []).getD (0+0) (C.fn 0 []))&&true) (.ask (!((l.getD i.toNat []).getD (0+0) (C.fn 0 [])).toStr==nm) (.must (decide ((0:Int)≤i)&&decide (i<(↑l.length:Int))&&decide ((l.getD i.toNat []).length=2)) (.must (decide (0<(l.getD i.toNat []).length)&&C.is K.str ((l.getD i.toNat []).getD 0 (C.fn 0 []))&&(decide (0+1<(l.getD i.toNat []).length)&&C.is (K.int .i64) ((l.getD i.toNat []).getD (0+1) (C.fn 0 []))&&true)) (.must (decide (n=o.length)&&aBj (o.length+1) 24&&(decide ((Nat.add 1 0).succ=2)&&true)) (H [Pt.r,Pt.r,Pt.l,Pt.r,Pt.b] k (aZe (l) (nm) (o.length+1) (o.append [[C.str ((l.getD i.toNat []).getD 0 (C.fn 0 [])).toStr,C.int .i64 ((l.getD i.toNat []).getD (0+1) (C.fn 0 [])).toInt]]) (IntKind.i64.wrap (i+(1:Int)))))))) (H [Pt.r,Pt.r,Pt.l,Pt.r,Pt.b] k (aZe (l) (nm) (n) (o) (IntKind.i64.wrap (i+(1:Int)))))))) (.must (decide (n=o.length)&&(false||o.all fun r=>r.all C.flat)&&true&&true&&true) (.ret [C.sl o]))):T (List C)).eval:=aAj (by kernel_rfl)
theorem bR9 (H:List Pt→Nat→St→T (List C)) (s:List UInt8):(aAk aZh aAc (sg [pS] [rS,rS,rI,rB]) Tryz.f169 H [C.str s]).eval=((.ask (decide ((↑s.length:Int)<(2:Int))) (.ret [C.str [],C.str [],C.int .i64 0,C.bool false]) (.must (decide ((0:Int)≤(0:Int))&&decide ((0:Int)<(↑s.length:Int))) (.ask ((↑(s.getD (Int.toNat 0) (0:UInt8)).toNat:Int) != (43:Int)) (.must (decide ((0:Int)≤(0:Int))&&decide ((0:Int)<(↑s.length:Int))) (.ask ((↑(s.getD (Int.toNat 0) (0:UInt8)).toNat:Int) != (45:Int)) (.must (decide ((0:Int)≤(0:Int))&&decide ((0:Int)<(↑s.length:Int))) (.ask ((↑(s.getD (Int.toNat 0) (0:UInt8)).toNat:Int) != (62:Int)) (.ret [C.str [],C.str [],C.int .i64 0,C.bool false]) (.must (decide ((0:Int)≤(0:Int))&&decide ((0:Int)<(↑s.length:Int))) (.ask (decide ((↑(s.getD (Int.toNat 0) (0:UInt8)).toNat:Int)=(45:Int))) (.must (decide ((0:Int)≤(1:Int))&&decide ((1:Int)≤(↑s.length:Int))) (.ret [C.str (List.drop (Int.toNat 1) (List.take s.length s)),C.str [],C.int .i64 0,C.bool true])) (H [Pt.r,Pt.r,Pt.r,Pt.l,Pt.r,Pt.b] 9223372036854775808 (aNp (s) ((1:Int)))))))) (.must (decide ((0:Int)≤(0:Int))&&decide ((0:Int)<(↑s.length:Int))) (.ask (decide ((↑(s.getD (Int.toNat 0) (0:UInt8)).toNat:Int)=(45:Int))) (.must (decide ((0:Int)≤(1:Int))&&decide ((1:Int)≤(↑s.length:Int))) (.ret [C.str (List.drop (Int.toNat 1) (List.take s.length s)),C.str [],C.int .i64 0,C.bool true])) (H [Pt.r,Pt.r,Pt.r,Pt.l,Pt.r,Pt.b] 9223372036854775808 (aNp (s) ((1:Int)))))))) (.must (decide ((0:Int)≤(0:Int))&&decide ((0:Int)<(↑s.length:Int))) (.ask (decide ((↑(s.getD (Int.toNat 0) (0:UInt8)).toNat:Int)=(45:Int))) (.must (decide ((0:Int)≤(1:Int))&&decide ((1:Int)≤(↑s.length:Int))) (.ret [C.str (List.drop (Int.toNat 1) (List.take s.length s)),C.str [],C.int .i64 0,C.bool true])) (H [Pt.r,Pt.r,Pt.r,Pt.l,Pt.r,Pt.b] 9223372036854775808 (aNp (s) ((1:Int))))))))):T (List C)).eval:=aAj (by kernel_rfl)
theorem bHg (H:List Pt→Nat→St→T (List C)) (s:List UInt8) (i:Int) (k:Nat):(aBl aZh aAc (sg [pS] [rS,rS,rI,rB]) Tryz.f169 H [Pt.r,Pt.r,Pt.r,Pt.l,Pt.r,Pt.b] k (aNp s i)).eval=((.ask (decide (i<(↑s.length:Int))) (.must (decide ((0:Int)≤i)&&decide (i<(↑s.length:Int))) (.ask (decide ((↑(s.getD i.toNat (0:UInt8)).toNat:Int)=(58:Int))) (.must (decide ((0:Int)≤(0:Int))&&decide ((0:Int)<(↑s.length:Int))) (.ask (decide ((↑(s.getD (Int.toNat 0) (0:UInt8)).toNat:Int)=(62:Int))) (.must (decide ((0:Int)≤i)&&decide (i≤(↑s.length:Int))&&(decide ((0:Int)≤(1:Int))&&decide ((1:Int)≤i))) (.must (decide ((0:Int)≤IntKind.i64.wrap (i+(1:Int)))&&decide (IntKind.i64.wrap (i+(1:Int))≤(↑s.length:Int))) (.must (decide ((0:Int)≤IntKind.i64.wrap (i+(1:Int)))&&decide (IntKind.i64.wrap (i+(1:Int))≤(↑s.length:Int))) (.must (decide ((List.drop (IntKind.i64.wrap (i+(1:Int))).toNat (List.take s.length s)).length≤281474976710656)) (.ask (aEf (List.drop (IntKind.i64.wrap (i+(1:Int))).toNat (List.take s.length s))) (.must (decide ((0:Int)≤i)&&decide (i≤(↑s.length:Int))&&(decide ((0:Int)≤(1:Int))&&decide ((1:Int)≤i))) (.must (decide ((0:Int)≤IntKind.i64.wrap (i+(1:Int)))&&decide (IntKind.i64.wrap (i+(1:Int))≤(↑s.length:Int))) (.ask (!List.drop (Int.toNat 1) (List.take i.toNat s)==List.drop (IntKind.i64.wrap (i+(1:Int))).toNat (List.take s.length s)) (.ret [C.str (List.drop (Int.toNat 1) (List.take i.toNat s)),C.str (List.drop (IntKind.i64.wrap (i+(1:Int))).toNat (List.take s.length s)),C.int .i64 0,C.bool true]) (.ret [C.str (List.drop (Int.toNat 1) (List.take i.toNat s)),C.str (List.drop (IntKind.i64.wrap (i+(1:Int))).toNat (List.take s.length s)),C.int .i64 0,C.bool false])))) (.ret [C.str (List.drop (Int.toNat 1) (List.take i.toNat s)),C.str (List.drop (IntKind.i64.wrap (i+(1:Int))).toNat (List.take s.length s)),C.int .i64 0,C.bool false])))))) (.must (decide ((0:Int)≤i)&&decide (i<(↑s.length:Int))) (.ask (decide ((↑(s.getD i.toNat (0:UInt8)).toNat:Int)=(58:Int))) (.must (decide ((0:Int)≤IntKind.i64.wrap (i+(1:Int)))&&decide (IntKind.i64.wrap (i+(1:Int))≤(↑s.length:Int))) (.must (decide ((List.drop (IntKind.i64.wrap (i+(1:Int))).toNat (List.take s.length s)).length≤281474976710656)) (.ask (bLn (List.drop (IntKind.i64.wrap (i+(1:Int))).toNat (List.take s.length s))) (.must (decide ((0:Int)≤i)&&decide (i≤(↑s.length:Int))&&(decide ((0:Int)≤(1:Int))&&decide ((1:Int)≤i))) (.must (decide ((0:Int)≤i)&&decide (i≤(↑s.length:Int))&&(decide ((0:Int)≤(1:Int))&&decide ((1:Int)≤i))) (.must (decide ((List.drop (Int.toNat 1) (List.take i.toNat s)).length≤281474976710656)) (.ask (aEf (List.drop (Int.toNat 1) (List.take i.toNat s))) (.ret [C.str (List.drop (Int.toNat 1) (List.take i.toNat s)),C.str [],C.int .i64 (aP8 (List.drop (IntKind.i64.wrap (i+(1:Int))).toNat (List.take s.length s))),C.bool true]) (.ret [C.str (List.drop (Int.toNat 1) (List.take i.toNat s)),C.str [],C.int .i64 (aP8 (List.drop (IntKind.i64.wrap (i+(1:Int))).toNat (List.take s.length s))),C.bool false]))))) (.must (decide ((0:Int)≤i)&&decide (i≤(↑s.length:Int))&&(decide ((0:Int)≤(1:Int))&&decide ((1:Int)≤i))) (.ret [C.str (List.drop (Int.toNat 1) (List.take i.toNat s)),C.str [],C.int .i64 (aP8 (List.drop (IntKind.i64.wrap (i+(1:Int))).toNat (List.take s.length s))),C.bool false]))))) (H [Pt.r,Pt.r,Pt.r,Pt.l,Pt.r,Pt.b] k (aNp (s) (IntKind.i64.wrap (i+(1:Int))))))))) (.must (decide ((0:Int)≤i)&&decide (i<(↑s.length:Int))) (.ask (decide ((↑(s.getD i.toNat (0:UInt8)).toNat:Int)=(58:Int))) (.must (decide ((0:Int)≤IntKind.i64.wrap (i+(1:Int)))&&decide (IntKind.i64.wrap (i+(1:Int))≤(↑s.length:Int))) (.must (decide ((List.drop (IntKind.i64.wrap (i+(1:Int))).toNat (List.take s.length s)).length≤281474976710656)) (.ask (bLn (List.drop (IntKind.i64.wrap (i+(1:Int))).toNat (List.take s.length s))) (.must (decide ((0:Int)≤i)&&decide (i≤(↑s.length:Int))&&(decide ((0:Int)≤(1:Int))&&decide ((1:Int)≤i))) (.must (decide ((0:Int)≤i)&&decide (i≤(↑s.length:Int))&&(decide ((0:Int)≤(1:Int))&&decide ((1:Int)≤i))) (.must (decide ((List.drop (Int.toNat 1) (List.take i.toNat s)).length≤281474976710656)) (.ask (aEf (List.drop (Int.toNat 1) (List.take i.toNat s))) (.ret [C.str (List.drop (Int.toNat 1) (List.take i.toNat s)),C.str [],C.int .i64 (aP8 (List.drop (IntKind.i64.wrap (i+(1:Int))).toNat (List.take s.length s))),C.bool true]) (.ret [C.str (List.drop (Int.toNat 1) (List.take i.toNat s)),C.str [],C.int .i64 (aP8 (List.drop (IntKind.i64.wrap (i+(1:Int))).toNat (List.take s.length s))),C.bool false]))))) (.must (decide ((0:Int)≤i)&&decide (i≤(↑s.length:Int))&&(decide ((0:Int)≤(1:Int))&&decide ((1:Int)≤i))) (.ret [C.str (List.drop (Int.toNat 1) (List.take i.toNat s)),C.str [],C.int .i64 (aP8 (List.drop (IntKind.i64.wrap (i+(1:Int))).toNat (List.take s.length s))),C.bool false]))))) (H [Pt.r,Pt.r,Pt.r,Pt.l,Pt.r,Pt.b] k (aNp (s) (IntKind.i64.wrap (i+(1:Int))))))))) (.ret [C.str [],C.str [],C.int .i64 0,C.bool false])):T (List C)).eval:=aAj (by kernel_rfl)
theorem cFf:aAa Tryz.prog cBs:=aA8 (by simp[])
theorem bT9:aAx Tryz.prog 158 (sg [pI] [rU8]) bOd:=aA6 cFf aAb Tryz.func158 (by kernel_rfl) fun cs outs hk h=>by
 unfold bOd at h
 split at h
 ·simp only[Option.some.injEq,Prod.mk.injEq,aBi]at h
  obtain⟨h1,rfl⟩:=h
  rename_i x
  rw[aAd,bX4]
  unfold cBg
  by_cases c:x<10
  ·have w:IntKind.u8.wrap (IntKind.i64.wrap (48+x))=48+x:=by rw[aAh,aQp]<;>omega
   rw[if_pos c,w]
   exact aAg (decide_eq_true c) rfl
  ·have w:IntKind.u8.wrap (IntKind.i64.wrap (IntKind.i64.wrap (97+x)-10))=87+x:=by
    have a:IntKind.i64.wrap (97+x)=97+x:=by rw[aAh]<;>omega
    rw[a,aAh,aQp]<;>omega
   rw[if_neg c,w]
   exact aAi (decide_eq_false c) rfl
 ·cases h
theorem cDi (n:Nat):aC0 [[C.int .u8 (cBg ((n % 10:Nat):Int))]]=[cFg (n % 10)]:=by
 have h:((n % 10:Nat):Int)<10:=by omega
 unfold cBg cFg
 rw[if_pos h]
 show[UInt8.ofNat (48+((n % 10:Nat):Int)).toNat]=_
 have e:(48+((n % 10:Nat):Int)).toNat=48+n % 10:=by omega
 rw[e]
theorem bXg:∀ (f N n:Nat) (s:List UInt8),n<10^f→n≤9223372036854775807→f<N→s.length+f≤100 →
  (aBr bQr aAc (sg [pI] [rS]) Tryz.f144 [.r,.r,.r,.r,.l,.b] N (bKw n s)).eval=some [.str (bOj f n s)]:=by
 intro f
 induction f with
 |zero =>
  intro N n s h1 h0 h2 h3
  obtain⟨N,rfl⟩:∃ q,N=q+1:=⟨N-1,by omega⟩
  have:n=0:=by simpa using h1
  subst this
  rw[aAv _ _ _ _ _ _ _ (by kernel_rfl),aYx]
  exact aAi rfl rfl
 |succ f ih =>
  intro N n s h1 h0 h2 h3
  obtain⟨N,rfl⟩:∃ q,N=q+1:=⟨N-1,by omega⟩
  rw[aAv _ _ _ _ _ _ _ (by kernel_rfl),aYx]
  by_cases hn:n=0
  ·subst hn
   exact aAi rfl rfl
  ·have m1:(n:Int).tmod 10=((n % 10:Nat):Int):=by rw[Int.tmod_eq_emod_of_nonneg (by omega)];omega
   have m2:(n:Int).tdiv 10=((n / 10:Nat):Int):=by rw[Int.tdiv_eq_ediv_of_nonneg (by omega)];omega
   have w:IntKind.i64.wrap ((n / 10:Nat):Int)=((n / 10:Nat):Int):=by rw[aAh]<;>omega
   have hi:inB ((n % 10:Nat):Int) 0 15=true:=by rw[aBi];omega
   have hd:n / 10<10^f:=by rw[Nat.div_lt_iff_lt_mul (by omega)];rw[Nat.pow_succ]at h1;exact h1
   have e:=ih N (n / 10) (cFg (n % 10)::s) hd (by omega) (by omega) (by simp;omega)
   rw[m1,m2,w,cDi]
   unfold bOj
   rw[if_neg hn]
   exact aAg (by simp;omega) (aAi (decide_eq_false (by omega)) (aA5 hi (aA5 (decide_eq_true (by simp;omega)) e)))
theorem cFm:aAa Tryz.prog bQr:=aA8 (by simp[bT9])
theorem bCb:aAx Tryz.prog 144 (sg [pI] [rS]) bGb:=aA6 cFm aAb Tryz.func144 (by kernel_rfl) fun cs outs hk h=>by
 unfold bGb at h
 split at h
 ·simp only[Option.some.injEq,Prod.mk.injEq,aBi]at h
  obtain⟨h1,rfl⟩:=h
  rename_i x
  obtain⟨n,rfl⟩:=Int.eq_ofNat_of_zero_le h1.1
  rw[aAd,bXf]
  unfold aGt
  by_cases c:(n:Int)=0
  ·rw[if_pos c]
   exact aAg (decide_eq_true c) rfl
  ·rw[if_neg c]
   refine aAi (decide_eq_false c) (aAi (decide_eq_false (by omega)) ?_)
   exact bXg 20 9223372036854775808 n [] (by omega) (by omega) (by omega) (by simp)
 ·cases h
theorem bKn:∀ (f n:Nat) (s:List UInt8),(bOj f n s).length≤f+s.length
 |0,_,s=>by simp[bOj]
 |f+1,n,s=>by
  unfold bOj
  split
  ·omega
  ·have:=bKn f (n / 10) (cFg (n % 10)::s)
   simp only[List.length_cons]at this
   omega
theorem bKm (n:Int):(aGt n).length≤20:=by
 unfold aGt
 split
 ·simp
 ·have:=bKn 20 n.toNat []
  simpa using this
theorem bV9 {t:List UInt8} (h:cB5 t 0=none):bLn t=false∧aP8 t=0:=by
 have:bLn t=false:=by unfold bLn;rw[h];simp
 exact⟨this,by unfold aP8;rw[this];rfl⟩
theorem bZc (t:List UInt8) (ht:t.length≤10):∀ (N i n:Nat),i≤t.length→t.length<i+N→n<10^i→cB5 t 0=cB5 (t.drop i) n →
  (aBr cAw aAc (sg [pS] [rI,rB]) Tryz.f180 [.r,.r,.r,.l,.r,.b] N (cAv t n i)).eval=some [.int .i64 (aP8 t),.bool (bLn t)]:=by
 intro N
 induction N with
 |zero=>intro i n h1 h2;omega
 |succ N ih =>
  intro i n h1 h2 h3 h4
  have p:10^i≤10^10:=Nat.pow_le_pow_right (by omega) (by omega)
  rw[aAv _ _ _ _ _ _ _ (by kernel_rfl),bS9]
  by_cases hi:i<t.length
  ·have hb:=aI9 t i
   rw[aBx t i 0 hi]at h4
   have m:(decide ((0:Int)≤i)&&decide ((i:Int)<t.length))=true:=by rw[decide_eq_true (by omega),decide_eq_true (by omega)];rfl
   rw[Int.toNat_natCast]
   simp only[cB5]at h4
   refine aAg (decide_eq_true (by omega)) (aA5 m ?_)
   by_cases c1:((t.getD i 0).toNat:Int)<48
   ·rw[if_pos c1]at h4
    obtain⟨e1,e2⟩:=bV9 h4
    rw[e1,e2]
    exact aAg (decide_eq_true c1) rfl
   ·rw[if_neg c1]at h4
    refine aAi (decide_eq_false c1) (aA5 m ?_)
    by_cases c2:((t.getD i 0).toNat:Int)>57
    ·rw[if_pos c2]at h4
     obtain⟨e1,e2⟩:=bV9 h4
     rw[e1,e2]
     exact aAg (decide_eq_true c2) rfl
    ·rw[if_neg c2]at h4
     refine aAi (decide_eq_false c2) (aA5 m ?_)
     have w:IntKind.i64.wrap (IntKind.i64.wrap (IntKind.i64.wrap (10*(n:Int))+IntKind.i64.wrap ((t.getD i 0).toNat:Int))-48)=((10*n+(t.getD i 0).toNat-48:Nat):Int):=by
      have a1:IntKind.i64.wrap (10*(n:Int))=10*(n:Int):=by rw[aAh]<;>omega
      have a2:IntKind.i64.wrap ((t.getD i 0).toNat:Int)=((t.getD i 0).toNat:Int):=by rw[aAh]<;>omega
      have a3:IntKind.i64.wrap (10*(n:Int)+((t.getD i 0).toNat:Int))=10*(n:Int)+((t.getD i 0).toNat:Int):=by rw[aAh]<;>omega
      rw[a1,a2,a3,aAh]<;>omega
     have w2:IntKind.i64.wrap ((i:Int)+1)=((i+1:Nat):Int):=by rw[aAh]<;>omega
     rw[w,w2]
     refine ih (i+1) _ (by omega) (by omega) (by rw[Nat.pow_succ];omega) ?_
     rw[h4]
     congr 1
     omega
  ·have e:i=t.length:=by omega
   subst e
   rw[List.drop_length]at h4
   simp only[cB5]at h4
   have hi':¬((t.length:Int)<(t.length:Int)):=by omega
   refine aAi (decide_eq_false hi') ?_
   have ok:bLn t=(decide ((n:Int)≤1000000000)&&decide (aGt n=t)):=by unfold bLn;rw[h4,decide_eq_true ht];rfl
   have vl:aP8 t=if bLn t then (n:Int)else 0:=by unfold aP8;rw[h4];rfl
   rw[vl,ok]
   by_cases c1:(1000000000:Int)<n
   ·rw[decide_eq_false (show ¬(n:Int)≤1000000000 by omega)]
    exact aAg (decide_eq_true c1) rfl
   ·rw[decide_eq_true (show (n:Int)≤1000000000 by omega)]
    refine aAi (decide_eq_false c1) (aA5 (by rw[aBi];omega) ?_)
    by_cases c2:aGt n=t
    ·rw[decide_eq_true c2]
     exact aAi (by rw[c2];simp) rfl
    ·rw[decide_eq_false c2]
     exact aAg (by simpa using c2) rfl
theorem cGf:aAa Tryz.prog cAw:=aA8 (by simp[bCb])
theorem bVb:aAx Tryz.prog 180 (sg [pS] [rI,rB]) bVa:=aA6 cGf aAb Tryz.func180 (by kernel_rfl) fun cs outs hk h=>by
 unfold bVa at h
 split at h
 ·simp only[Option.some.injEq,Prod.mk.injEq,decide_eq_true_eq]at h
  obtain⟨h1,rfl⟩:=h
  rename_i t
  rw[aAd,bZb]
  by_cases c:(10:Int)<t.length
  ·have e:bLn t=false:=by unfold bLn;rw[decide_eq_false (by omega)];rfl
   have e2:aP8 t=0:=by unfold aP8;rw[e];rfl
   rw[e,e2]
   exact aAg (decide_eq_true c) rfl
  ·exact aAi (decide_eq_false c) (bZc t (by omega) 9223372036854775808 0 0 (by omega) (by omega) (by omega) rfl)
 ·cases h
theorem bHt (t:List UInt8) (ht:t.length≤281474976710656):∀ (N i:Nat),i≤t.length→t.length<i+N →
  (aBr aSp aAc (sg [pS] [rB]) Tryz.f142 [.r,.l,.r,.b] N (aJg t i)).eval=some [.bool ((t.drop i).all bVv&&inB t.length 1 20)]:=by
 intro N
 induction N with
 |zero=>intro i h1 h2;omega
 |succ N ih =>
  intro i h1 h2
  rw[aAv _ _ _ _ _ _ _ (by kernel_rfl),bAc]
  by_cases hi:i<t.length
  ·have hb:=aI9 t i
   have m:(decide ((0:Int)≤i)&&decide ((i:Int)<t.length))=true:=by rw[decide_eq_true (by omega),decide_eq_true (by omega)];rfl
   have e:=ih (i+1) (by omega) (by omega)
   have w2:IntKind.i64.wrap ((i:Int)+1)=((i+1:Nat):Int):=by rw[aAh]<;>omega
   rw[Int.toNat_natCast,aBx t i 0 hi,List.all_cons]
   generalize t.getD i 0=x at hb ⊢
   have w:IntKind.i64.wrap (x.toNat:Int)=x.toNat:=by rw[aAh]<;>omega
   rw[w,w2]
   refine aAg (decide_eq_true (by omega)) (aA5 m ?_)
   have nb:bVv x=(inB (x.toNat:Int) 97 122||inB (x.toNat:Int) 48 57||decide ((x.toNat:Int)=46)||decide ((x.toNat:Int)=45)):=rfl
   rw[nb]
   cases c1:inB (x.toNat:Int) 97 122
   ·refine aAi rfl ?_
    cases c2:inB (x.toNat:Int) 48 57
    ·refine aAi rfl ?_
     by_cases c3:(x.toNat:Int)=46
     ·rw[decide_eq_true c3]
      refine aAi (by simp[c3]) ?_
      simpa using e
     ·rw[decide_eq_false c3]
      refine aAg (by simpa using c3) ?_
      by_cases c4:(x.toNat:Int)=45
      ·rw[decide_eq_true c4]
       refine aAi (by simp[c4]) ?_
       simpa using e
      ·rw[decide_eq_false c4]
       exact aAg (by simpa using c4) rfl
    ·refine aAg rfl ?_
     simpa using e
   ·refine aAg rfl ?_
    simpa using e
  ·have e:i=t.length:=by omega
   subst e
   have hi':¬((t.length:Int)<(t.length:Int)):=by omega
   rw[List.drop_length]
   refine aAi (decide_eq_false hi') ?_
   cases c:inB (t.length:Int) 1 20
   ·exact aAi rfl rfl
   ·exact aAg rfl rfl
theorem bUi:aAa Tryz.prog aSp:=aA8 (by simp[aDy])
theorem aGf:aAx Tryz.prog 142 (sg [pS] [rB]) aLp:=aA6 bUi aAb Tryz.func142 (by kernel_rfl) fun cs outs hk h=>by
 unfold aLp at h
 split at h
 ·simp only[Option.some.injEq,Prod.mk.injEq,decide_eq_true_eq]at h
  obtain⟨h1,rfl⟩:=h
  rename_i t
  rw[aAd,bHs]
  exact bHt t h1 9223372036854775808 0 (by omega) (by omega)
 ·cases h
theorem aO6 {ns:List (List C)}:bBy ns=true↔aAp kNd ns=true∧ns.length≤16777216∧∀ x∈nds ns,x.text.length≤16777216:=by simp only[bBy,dN,Bool.and_eq_true,decide_eq_true_eq,List.all_eq_true,and_assoc]
theorem aS3 {es:List (List C)}:aKh es=true↔aAp kEn es=true∧es.length≤16777216∧∀ x∈ens es,x.name.length≤16777216:=by simp only[aKh,dN,Bool.and_eq_true,decide_eq_true_eq,List.all_eq_true,and_assoc]
theorem aJi {ss:List (List C)}:bYs ss=true↔aAp [.str] ss=true∧ss.length≤16777216∧∀ x∈aCp ss,x.length≤16777216:=by simp only[bYs,dN,Bool.and_eq_true,decide_eq_true_eq,List.all_eq_true,and_assoc]
theorem aO5 {l:List Nd}:bBy (l.map eNd)=true↔l.length≤16777216∧∀ x∈l,x.text.length≤16777216:=by rw[aO6,aTh,aGh,List.length_map];simp
theorem aLw {l:List En}:aKh (l.map eEn)=true↔l.length≤16777216∧∀ x∈l,x.name.length≤16777216:=by rw[aS3,aKl,aQe,List.length_map];simp
theorem bP2 {l:List (List UInt8)}:bYs (l.map aAt)=true↔l.length≤16777216∧∀ x∈l,x.length≤16777216:=by rw[aJi,aEy,aId,List.length_map];simp
theorem aLo {ns:List (List C)} (h:bBy ns=true):∃ l:List Nd,ns=l.map eNd∧nds ns=l∧l.length≤16777216∧∀ x∈l,x.text.length≤16777216:=by
 have hr:=aO0 (aO6.1 h).1
 refine⟨nds ns,hr,rfl,?_,(aO6.1 h).2.2⟩
 have:=(aO6.1 h).2.1
 rw[hr,List.length_map]at this
 exact this
theorem aI8 {es:List (List C)} (h:aKh es=true):∃ l:List En,es=l.map eEn∧ens es=l∧l.length≤16777216∧∀ x∈l,x.name.length≤16777216:=by
 have hr:=aLk (aS3.1 h).1
 refine⟨ens es,hr,rfl,?_,(aS3.1 h).2.2⟩
 have:=(aS3.1 h).2.1
 rw[hr,List.length_map]at this
 exact this
theorem aWh {ss:List (List C)} (h:bYs ss=true):∃ l:List (List UInt8),ss=l.map aAt∧aCp ss=l∧l.length≤16777216∧∀ x∈l,x.length≤16777216:=by
 have hr:=aFq (aJi.1 h).1
 refine⟨aCp ss,hr,rfl,?_,(aJi.1 h).2.2⟩
 have:=(aJi.1 h).2.1
 rw[hr,List.length_map]at this
 exact this
theorem aJt {A:Type} {l:List A} {i:Nat} {d:A} (h:i<l.length):l.getD i d∈l:=by rw[List.getD_eq_getElem?_getD,List.getElem?_eq_getElem h];exact List.getElem_mem h
theorem at2 (n:Nat) (i:Nat) (h:i<n) (k m:Nat) (hk:k=m):(decide ((0:Int)≤i)&&decide ((i:Int)<n)&&decide (k=m))=true:=by
 rw[decide_eq_true (by omega),decide_eq_true (by omega),decide_eq_true hk];rfl
theorem bYo (l:List Nd) (h:∀ x∈l,x.text.length≤16777216):aEv l≤l.length*16777216:=by
 unfold aEv
 induction l with
 |nil=>simp
 |cons x l ih =>
  have h1:=h x List.mem_cons_self
  have h2:=ih fun y hy=>h y (List.mem_cons_of_mem _ hy)
  simp only[List.map_cons,List.sum_cons,List.length_cons]
  omega
theorem bBi (l:List Nd) (i:Nat) (hi:i<l.length):aEv (l.take (i+1))=aEv (l.take i)+(l.getD i ⟨0,[],0⟩).text.length:=by
 unfold aEv
 rw[List.take_add_one,List.map_append,List.sum_append]
 simp[List.getD_eq_getElem?_getD,hi]
theorem bBh (l:List Nd) (i:Nat):aEv (l.take i)≤aEv l:=by
 unfold aEv
 have:l.map (fun x=>x.text.length)=(l.take i).map (fun x=>x.text.length)++(l.drop i).map (fun x=>x.text.length):=by rw[←List.map_append,List.take_append_drop]
 rw[this,List.sum_append]
 omega
theorem bR2 (l:List Nd) (es os ss:List (List C)) (r x:Int) (hl:l.length≤16777216) (ht:∀ x∈l,x.text.length≤16777216):∀ (N i:Nat),i≤l.length→l.length<i+N →
  (aBr aZf aAc (sg [aB0] [rI]) Tryz.f145 [.r,.r,.l,.r,.b] N (aZb (l.map eNd) es os ss r x (aEv (l.take i)) i)).eval=some [.int .i64 (aEv l)]:=by
 intro N
 induction N with
 |zero=>intro i h1 h2;omega
 |succ N ih =>
  intro i h1 h2
  rw[aAv _ _ _ _ _ _ _ (by kernel_rfl),bHd]
  by_cases hi:i<l.length
  ·have g:=aBc eNd l ⟨0,[],0⟩ i hi
   have e:=ih (i+1) (by omega) (by omega)
   have u:=bBi l i hi
   have u2:=bBh l (i+1)
   have u3:=bYo l ht
   have w2:IntKind.i64.wrap ((i:Int)+1)=((i+1:Nat):Int):=by rw[aAh]<;>omega
   have w:IntKind.i64.wrap ((aEv (l.take i):Int)+((l.getD i ⟨0,[],0⟩).text.length:Int))=((aEv (l.take (i+1)):Nat):Int):=by rw[aAh]<;>omega
   rw[List.length_map,Int.toNat_natCast,g,w2]
   refine aAg (decide_eq_true (by omega)) (aA5 (at2 _ _ hi _ _ rfl) (aA5 rfl ?_))
   show (aBr aZf aAc (sg [aB0] [rI]) Tryz.f145 [.r,.r,.l,.r,.b] N (aZb (l.map eNd) es os ss r x (IntKind.i64.wrap ((aEv (l.take i):Int)+((l.getD i ⟨0,[],0⟩).text.length:Int))) ((i+1:Nat):Int))).eval=_
   rw[w]
   exact e
  ·have e:i=l.length:=by omega
   subst e
   have hi':¬((l.length:Int)<(l.length:Int)):=by omega
   rw[List.take_length,List.length_map]
   exact aAi (decide_eq_false hi') rfl
theorem cC5:aAa Tryz.prog aZf:=aA8 (by simp[])
theorem aWr:aAx Tryz.prog 145 (sg [aB0] [rI]) aVn:=aA6 cC5 aAb Tryz.func145 (by kernel_rfl) fun cs outs hk h=>by
 unfold aVn at h
 split at h
 ·simp only[Option.some.injEq,Prod.mk.injEq]at h
  obtain⟨h1,rfl⟩:=h
  rename_i ns es os ss r x
  obtain⟨l,rfl,e,hl,ht⟩:=aLo h1
  rw[e,aAd,bR1]
  exact bR2 l es os ss r x hl ht 9223372036854775808 0 (by omega) (by omega)
 ·cases h
def bSc (l:List En) (i:Nat):Option (List UInt8):=if i=0 then none else some (l.getD (i-1) ⟨[],0⟩).name
theorem cB7 {ns:List (List C)} (h:bBy ns=true):(decide (ns.length≤aMj)&&aAp [K.int .i64,K.str,K.int .i64] ns)=true:=by
 obtain⟨h1,h2,_⟩:=aO6.1 h
 rw[decide_eq_true (show ns.length≤aMj from Nat.le_trans h2 (by decide))]
 exact h1
theorem bE5 (ns es os ss:List (List C)) (r x:Int) (l:List En) (hn:bBy ns=true) (hl:l.length≤16777216) (ht:∀ x∈l,x.name.length≤16777216):∀ (N i:Nat),i≤l.length→l.length<i+N →
  (aBr aP0 aAc (sg [aB0,pSl 100] [rB]) Tryz.f156 [.r,.l,.r,.b] N (aL6 ns es os ss r x (l.map eEn) i)).eval=some [.bool (aYr (nds ns) (l.drop i) (bSc l i)&&decide (l.length≤16))]:=by
 intro N
 induction N with
 |zero=>intro i h1 h2;omega
 |succ N ih =>
  intro i h1 h2
  rw[aAv _ _ _ _ _ _ _ (by kernel_rfl),aXc]
  by_cases hi:i<l.length
  ·have g:=aBc eEn l ⟨[],0⟩ i hi
   have e:=ih (i+1) (by omega) (by omega)
   have w2:IntKind.i64.wrap ((i:Int)+1)=((i+1:Nat):Int):=by rw[aAh]<;>omega
   have hm:=ht _ (aJt (d:=⟨[],0⟩) hi)
   have pv:bSc l (i+1)=some (l.getD i ⟨[],0⟩).name:=by unfold bSc;rw[if_neg (by omega),Nat.add_sub_cancel]
   rw[pv]at e
   rw[List.length_map,Int.toNat_natCast,g,w2,aBx l i ⟨[],0⟩ hi]
   have sp:∀ y q,aYr (nds ns) (y::l.drop (i+1)) q=(aEf y.name&&decide (0≤aAz (nds ns) y.id)&&(match q with | none=>true | some q=>Op.bytesLess q y.name)&&aYr (nds ns) (l.drop (i+1)) (some y.name)):=fun _ _=>rfl
   rw[sp]
   generalize l.getD i ⟨[],0⟩=y at hm e ⊢
   refine aAg (decide_eq_true (by omega)) (aA5 (at2 _ _ hi _ _ rfl) (aA5 rfl (aA5 (decide_eq_true (show y.name.length≤281474976710656 by omega)) ?_)))
   show (T.ask (aEf y.name) _ _).eval=_
   cases c1:aEf y.name
   ·exact aAi rfl rfl
   ·refine aAg rfl (aA5 (at2 _ _ hi _ _ rfl) (aA5 rfl (aA5 (cB7 hn) ?_)))
    show (T.ask (decide (aAz (nds ns) y.id<0)) _ _).eval=_
    by_cases c2:aAz (nds ns) y.id<0
    ·rw[decide_eq_false (show ¬0≤aAz (nds ns) y.id by omega)]
     exact aAg (decide_eq_true c2) rfl
    ·rw[decide_eq_true (show 0≤aAz (nds ns) y.id by omega)]
     refine aAi (decide_eq_false c2) ?_
     by_cases c3:i=0
     ·subst c3
      refine aAi rfl ?_
      simpa[bSc]using e
     ·have hj:i-1<l.length:=by omega
      have w3:IntKind.i64.wrap ((i:Int)-1)=((i-1:Nat):Int):=by rw[aAh]<;>omega
      have g2:=aBc eEn l ⟨[],0⟩ (i-1) hj
      rw[w3,Int.toNat_natCast,g2]
      have pv2:bSc l i=some (l.getD (i-1) ⟨[],0⟩).name:=by unfold bSc;rw[if_neg c3]
      rw[pv2]
      generalize l.getD (i-1) ⟨[],0⟩=z
      refine aAg (decide_eq_true (by omega)) (aA5 (at2 _ _ hj _ _ rfl) (aA5 rfl (aA5 (at2 _ _ hi _ _ rfl) (aA5 rfl ?_))))
      show (T.ask (!Op.bytesLess z.name y.name) _ _).eval=some [C.bool (true&&true&&Op.bytesLess z.name y.name&&_&&_)]
      cases c4:Op.bytesLess z.name y.name
      ·exact aAg rfl rfl
      ·refine aAi rfl ?_
       simpa using e
  ·have e:i=l.length:=by omega
   subst e
   have hi':¬((l.length:Int)<(l.length:Int)):=by omega
   rw[List.drop_length,List.length_map]
   refine aAi (decide_eq_false hi') ?_
   by_cases c:(l.length:Int)≤16
   ·rw[decide_eq_true (show l.length≤16 by omega)]
    exact aAg (decide_eq_true c) rfl
   ·rw[decide_eq_false (show ¬l.length≤16 by omega)]
    exact aAi (decide_eq_false c) rfl
theorem bRs:aAa Tryz.prog aP0:=aA8 (by simp[aIf,aGf])
theorem bAi:aAx Tryz.prog 156 (sg [aB0,pSl 100] [rB]) aQd:=aA6 bRs aAb Tryz.func156 (by kernel_rfl) fun cs outs hk h=>by
 unfold aQd at h
 split at h
 ·simp only[Option.some.injEq,Prod.mk.injEq,Bool.and_eq_true]at h
  obtain⟨⟨h1,h2⟩,rfl⟩:=h
  rename_i ns es os ss r x l0
  obtain⟨l,rfl,e,hl,ht⟩:=aI8 h2
  rw[e,aAd,bE4]
  exact bE5 ns es os ss r x l h1 hl ht 9223372036854775808 0 (by omega) (by omega)
 ·cases h
theorem cGo {u v:En} (h:¬u=v):(!(u.name==v.name&&(decide (u.id=v.id)&&true)))=true:=by
 cases u;cases v
 simp at h ⊢
 exact Decidable.or_iff_not_imp_left.2 (fun c=>h (Decidable.not_not.1 c))
theorem bRe (x y:List En) (hx:x.length≤16777216) (hl:x.length=y.length):∀ (n i:Nat),i≤x.length→x.length<i+n→x.take i=y.take i →
  (aBr bGo aAc (sg [pSl 100,pSl 100] [rB]) Tryz.f157 [.r,.r,.l,.r,.b] n (bGk (x.map eEn) (y.map eEn) i)).eval=some [.bool (decide (x=y))]:=by
 intro n
 induction n with
 |zero=>intro i h1 h2;omega
 |succ n ih =>
  intro i h1 h2 h3
  rw[aAv _ _ _ _ _ _ _ (by kernel_rfl),bHh]
  by_cases hi:i<x.length
  ·have hi2:i<y.length:=by omega
   have w:IntKind.i64.wrap ((i:Int)+1)=((i+1:Nat):Int):=by rw[aAh]<;>omega
   have g:=aBc eEn x ⟨[],0⟩ i hi
   have g2:=aBc eEn y ⟨[],0⟩ i hi2
   rw[List.length_map,List.length_map,Int.toNat_natCast,g,g2,w]
   refine aAg (decide_eq_true (by omega)) (aA5 (at2 _ _ hi _ _ rfl) (aA5 rfl (aA5 (at2 _ _ hi2 _ _ rfl) (aA5 rfl ?_))))
   show (T.ask (!((x.getD i ⟨[],0⟩).name==(y.getD i ⟨[],0⟩).name&&(decide ((x.getD i ⟨[],0⟩).id=(y.getD i ⟨[],0⟩).id)&&true))) _ _).eval=_
   by_cases hxy:x.getD i ⟨[],0⟩=y.getD i ⟨[],0⟩
   ·have e:=ih (i+1) (by omega) (by omega) (aU9 ⟨[],0⟩ hi hi2 h3 hxy)
    exact aAi (by rw[hxy];simp) e
   ·have:x≠y:=fun h=>hxy (by rw[h])
    rw[decide_eq_false this]
    exact aAg (cGo hxy) rfl
  ·have e1:i=x.length:=by omega
   have:x=y:=by
    rw[e1,List.take_length,hl,List.take_length]at h3
    exact h3
   rw[decide_eq_true this,List.length_map]
   exact aAi (decide_eq_false (by omega)) rfl
theorem cCa:aAa Tryz.prog bGo:=aA8 (by simp[])
theorem bM6:aAx Tryz.prog 157 (sg [pSl 100,pSl 100] [rB]) bDc:=aA6 cCa aAb Tryz.func157 (by kernel_rfl) fun cs outs hk h=>by
 unfold bDc at h
 split at h
 ·simp only[Option.some.injEq,Prod.mk.injEq,Bool.and_eq_true]at h
  obtain⟨⟨h1,h2⟩,rfl⟩:=h
  rename_i x0 y0
  obtain⟨x,rfl,e,hl,ht⟩:=aI8 h1
  obtain⟨y,rfl,e2,hl2,ht2⟩:=aI8 h2
  rw[e,e2,aAd,bRd,List.length_map,List.length_map]
  by_cases c:x.length=y.length
  ·exact aAi (by simp[c]) (bRe x y hl c _ 0 (by omega) (by omega) rfl)
  ·have:x≠y:=fun h=>c (by rw[h])
   rw[decide_eq_false this]
   exact aAg (by simp;omega) rfl
 ·cases h
theorem bIw (e:En):∀ (l:List En) (d:Bool),(aIh e l d).length≤l.length+(if d then 0 else 1)
 |[],d=>by cases d<;>simp[aIh]
 |x::r,d=>by
  have h:=bIw e r (d||geB x.name e.name)
  unfold aIh
  simp only[List.length_append,List.length_cons]
  cases d
  ·cases c:geB x.name e.name
   ·rw[c]at h
    simp only[Bool.or_false,Bool.false_eq_true,if_false,List.length_nil]at h ⊢
    split<;>simp<;>omega
   ·rw[c]at h
    simp only[Bool.or_true,if_true,Bool.false_eq_true,if_false,List.length_cons,List.length_nil]at h ⊢
    split<;>simp<;>omega
  ·simp only[Bool.true_or,if_true,List.length_nil]at h ⊢
   split<;>simp<;>omega
theorem bIv (e:En):∀ (l:List En) (d:Bool) (y:En),y∈aIh e l d→y=e∨y∈l
 |[],d,y,h=>by cases d<;>simp[aIh]at h;exact .inl h
 |x::r,d,y,h=>by
  unfold aIh at h
  simp only[List.mem_append]at h
  rcases h with (h | h) | h
  ·left
   split at h
   ·cases h
   ·split at h
    ·simpa using h
    ·cases h
  ·right
   split at h
   ·cases h
   ·simp at h;rw[h];exact List.mem_cons_self
  ·rcases bIv e r _ y h with h | h
   ·exact .inl h
   ·exact .inr (List.mem_cons_of_mem _ h)
theorem aRm (l:List En) (e:En):(bIx l e).length≤l.length+1:=bIw e l false
theorem aRl {l:List En} {e y:En} (h:y∈bIx l e):y=e∨y∈l:=bIv e l false y h
theorem aKz (l:List En) (nm:List UInt8):(aGs l nm).length≤l.length:=List.length_filter_le _ _
theorem aKy {l:List En} {nm:List UInt8} {y:En} (h:y∈aGs l nm):y∈l:=(List.mem_filter.1 h).1
theorem cFw (o:List En) (nm:List UInt8) (id:Int):(o.map eEn).append [[C.str nm,C.int .i64 id]]=(o++[(⟨nm,id⟩:En)]).map eEn:=by simp
theorem bBu (o:List En) (h:o.length≤100000000):(decide (o.length=(o.map eEn).length)&&aBj ((o.map eEn).length+1) 24&&(decide ((Nat.add 1 0).succ=2)&&true))=true:=by
 have r:aBj ((o.map eEn).length+1) 24=true:=by rw[List.length_map];simp only[aBj,decide_eq_true_eq];omega
 rw[r,decide_eq_true (List.length_map _).symm];rfl
theorem cCq (o:List En):(decide (o.length=(o.map eEn).length)&&(false||(o.map eEn).all fun r=>r.all C.flat)&&true&&true&&true)=true:=by
 rw[bG3,decide_eq_true (List.length_map _).symm];rfl
theorem bRi (l:List En) (nm:List UInt8) (id:Int) (hl:l.length≤16777216):∀ (N i:Nat) (o:List En),i≤l.length→l.length<i+N→o.length≤i+1 →
  (aBr bCn aAc (sg [pSl 100,aKo] [rSl 100]) Tryz.f143 [.r,.r,.r,.l,.r,.b] N (aU5 (l.map eEn) nm id o.length (o.map eEn) i)).eval=some [.sl ((o++aIh ⟨nm,id⟩ (l.drop i) true).map eEn)]:=by
 intro N
 induction N with
 |zero=>intro i o h1 h2;omega
 |succ N ih =>
  intro i o h1 h2 h3
  rw[aAv _ _ _ _ _ _ _ (by kernel_rfl),bHm]
  by_cases hi:i<l.length
  ·have g:=aBc eEn l ⟨[],0⟩ i hi
   have w2:IntKind.i64.wrap ((i:Int)+1)=((i+1:Nat):Int):=by rw[aAh]<;>omega
   have e:=fun q:List En=>ih (i+1) q (by omega) (by omega)
   have sp:∀ x,aIh ⟨nm,id⟩ (x::l.drop (i+1)) true=[]++(if x.name=nm then[]else[x])++aIh ⟨nm,id⟩ (l.drop (i+1)) true:=fun x=>rfl
   rw[List.length_map,Int.toNat_natCast,g,w2,aBx l i ⟨[],0⟩ hi,sp]
   generalize l.getD i ⟨[],0⟩=y
   refine aAg (decide_eq_true (by omega)) (aA5 (at2 _ _ hi _ _ rfl) (aA5 rfl ?_))
   show (T.ask (!y.name==nm) _ _).eval=_
   by_cases c:y.name=nm
   ·rw[if_pos c]
    exact aAi (by simp[c]) (e o (by omega))
   ·rw[if_neg c]
    refine aAg (by simpa using c) (aA5 (at2 _ _ hi _ _ rfl) (aA5 rfl (aA5 (bBu o (by omega)) ?_)))
    have e2:=e (o++[y]) (by simp;omega)
    have ap:=cFw o y.name y.id
    rw[←List.length_map (f:=eEn),←ap]at e2
    rw[show (o++([]++[y]++aIh ⟨nm,id⟩ (l.drop (i+1)) true))=o++[y]++aIh ⟨nm,id⟩ (l.drop (i+1)) true by simp]
    rw[←e2]
    simp[C.toStr,C.toInt]
  ·have e:i=l.length:=by omega
   subst e
   rw[List.drop_length,List.length_map]
   refine aAi (decide_eq_false (by omega)) (aA5 (cCq o) ?_)
   simp[aIh]
   rfl
theorem bRj (l:List En) (nm:List UInt8) (id:Int) (hl:l.length≤16777216):∀ (N i:Nat) (o:List En),i≤l.length→l.length<i+N→o.length≤i →
  (aBr bCn aAc (sg [pSl 100,aKo] [rSl 100]) Tryz.f143 [.r,.r,.r,.l,.r,.b] N (aZd (l.map eEn) nm id o.length (o.map eEn) i)).eval=some [.sl ((o++aIh ⟨nm,id⟩ (l.drop i) false).map eEn)]:=by
 intro N
 induction N with
 |zero=>intro i o h1 h2;omega
 |succ N ih =>
  intro i o h1 h2 h3
  have ap:=cFw o nm id
  have al:(o++[(⟨nm,id⟩:En)]).length=o.length+1:=by simp
  rw[aAv _ _ _ _ _ _ _ (by kernel_rfl),bHn]
  by_cases hi:i<l.length
  ·have g:=aBc eEn l ⟨[],0⟩ i hi
   have w2:IntKind.i64.wrap ((i:Int)+1)=((i+1:Nat):Int):=by rw[aAh]<;>omega
   have e:=fun q:List En=>ih (i+1) q (by omega) (by omega)
   have eb:=fun q:List En=>bRi l nm id hl N (i+1) q (by omega) (by omega)
   have sp:∀ x,aIh ⟨nm,id⟩ (x::l.drop (i+1)) false=(if geB x.name nm then[⟨nm,id⟩]else[])++(if x.name=nm then[]else[x])++aIh ⟨nm,id⟩ (l.drop (i+1)) (geB x.name nm):=fun x=>rfl
   rw[List.length_map,Int.toNat_natCast,g,w2,aBx l i ⟨[],0⟩ hi,sp,ap]
   generalize l.getD i ⟨[],0⟩=y
   refine aAg (decide_eq_true (by omega)) (aA5 (at2 _ _ hi _ _ rfl) (aA5 rfl ?_))
   show (T.ask (geB y.name nm) _ _).eval=_
   cases c1:geB y.name nm
   ·refine aAi rfl (aA5 (at2 _ _ hi _ _ rfl) (aA5 rfl ?_))
    show (T.ask (!y.name==nm) _ _).eval=_
    by_cases c:y.name=nm
    ·rw[if_pos c]
     exact aAi (by simp[c]) (e o (by omega))
    ·rw[if_neg c]
     refine aAg (by simpa using c) (aA5 (at2 _ _ hi _ _ rfl) (aA5 rfl (aA5 (bBu o (by omega)) ?_)))
     have e2:=e (o++[y]) (by simp;omega)
     have ap:=cFw o y.name y.id
     rw[←List.length_map (f:=eEn),←ap]at e2
     simp only[Bool.false_eq_true,if_false]
     rw[show (o++([]++[y]++aIh ⟨nm,id⟩ (l.drop (i+1)) false))=o++[y]++aIh ⟨nm,id⟩ (l.drop (i+1)) false by simp]
     rw[←e2]
     simp[C.toStr,C.toInt]
   ·refine aAg rfl (aA5 (bBu o (by omega)) (aA5 (at2 _ _ hi _ _ rfl) (aA5 rfl ?_)))
    show (T.ask (!y.name==nm) _ _).eval=_
    rw[if_pos rfl]
    by_cases c:y.name=nm
    ·rw[if_pos c]
     refine aAi (by simp[c]) ?_
     have e2:=eb (o++[⟨nm,id⟩]) (by simp;omega)
     rw[List.length_append]at e2
     simp only[List.append_nil]
     rw[show (o++([⟨nm,id⟩]++aIh ⟨nm,id⟩ (l.drop (i+1)) true))=o++[⟨nm,id⟩]++aIh ⟨nm,id⟩ (l.drop (i+1)) true by simp]
     rw[←e2,List.length_map]
     rfl
    ·rw[if_neg c]
     have r2:=bBu (o++[⟨nm,id⟩]) (by simp;omega)
     have r3:(decide ((o.map eEn).length+1=((o++[(⟨nm,id⟩:En)]).map eEn).length)&&aBj (((o++[(⟨nm,id⟩:En)]).map eEn).length+1) 24&&(decide ((Nat.add 1 0).succ=2)&&true))=true:=by
      rw[al]at r2;rw[List.length_map];exact r2
     refine aAg (by simpa using c) (aA5 (at2 _ _ hi _ _ rfl) (aA5 rfl (aA5 r3 ?_)))
     have e2:=eb (o++[⟨nm,id⟩]++[y]) (by simp;omega)
     have ap:=cFw (o++[⟨nm,id⟩]) y.name y.id
     rw[←List.length_map (f:=eEn),←ap]at e2
     rw[show (o++([⟨nm,id⟩]++[y]++aIh ⟨nm,id⟩ (l.drop (i+1)) true))=o++[⟨nm,id⟩]++[y]++aIh ⟨nm,id⟩ (l.drop (i+1)) true by simp]
     rw[←e2]
     simp[C.toStr,C.toInt]
  ·have e:i=l.length:=by omega
   subst e
   rw[List.drop_length,List.length_map,ap]
   refine aAi (decide_eq_false (by omega)) (aA5 (bBu o (by omega)) (aA5 ?_ ?_))
   ·have r2:=cCq (o++[⟨nm,id⟩])
    rw[al]at r2
    rw[List.length_map]
    exact r2
   ·simp[aIh]
    rfl
theorem cEk:aAa Tryz.prog bCn:=aA8 (by simp[])
theorem aTd:aAx Tryz.prog 143 (sg [pSl 100,aKo] [rSl 100]) aXn:=aA6 cEk aAb Tryz.func143 (by kernel_rfl) fun cs outs hk h=>by
 unfold aXn at h
 split at h
 ·simp only[Option.some.injEq,Prod.mk.injEq]at h
  obtain⟨h1,rfl⟩:=h
  rename_i l0 nm id
  obtain⟨l,rfl,e,hl,ht⟩:=aI8 h1
  unfold aG3 bIx
  rw[e,aAd,bUd]
  exact bRj l nm id hl 9223372036854775808 0 [] (by omega) (by omega) (by simp)
 ·cases h
theorem bRv (l:List En) (nm:List UInt8) (hl:l.length≤16777216):∀ (N i:Nat) (o:List En),i≤l.length→l.length<i+N→o.length≤i →
  (aBr bGq aAc (sg [pSl 100,pS] [rSl 100]) Tryz.f140 [.r,.r,.l,.r,.b] N (aZe (l.map eEn) nm o.length (o.map eEn) i)).eval=some [.sl ((o++aGs (l.drop i) nm).map eEn)]:=by
 intro N
 induction N with
 |zero=>intro i o h1 h2;omega
 |succ N ih =>
  intro i o h1 h2 h3
  rw[aAv _ _ _ _ _ _ _ (by kernel_rfl),bI7]
  by_cases hi:i<l.length
  ·have g:=aBc eEn l ⟨[],0⟩ i hi
   have w2:IntKind.i64.wrap ((i:Int)+1)=((i+1:Nat):Int):=by rw[aAh]<;>omega
   have e:=fun q:List En=>ih (i+1) q (by omega) (by omega)
   have sp:∀ x,aGs (x::l.drop (i+1)) nm=(if x.name=nm then[]else[x])++aGs (l.drop (i+1)) nm:=fun x=>by
    unfold aGs
    rw[List.filter_cons]
    by_cases c:x.name=nm<;>simp[c]
   rw[List.length_map,Int.toNat_natCast,g,w2,aBx l i ⟨[],0⟩ hi,sp]
   generalize l.getD i ⟨[],0⟩=y
   refine aAg (decide_eq_true (by omega)) (aA5 (at2 _ _ hi _ _ rfl) (aA5 rfl ?_))
   show (T.ask (!y.name==nm) _ _).eval=_
   by_cases c:y.name=nm
   ·rw[if_pos c]
    exact aAi (by simp[c]) (e o (by omega))
   ·rw[if_neg c]
    refine aAg (by simpa using c) (aA5 (at2 _ _ hi _ _ rfl) (aA5 rfl (aA5 (bBu o (by omega)) ?_)))
    have e2:=e (o++[y]) (by simp;omega)
    have ap:=cFw o y.name y.id
    rw[←List.length_map (f:=eEn),←ap]at e2
    rw[show (o++([y]++aGs (l.drop (i+1)) nm))=o++[y]++aGs (l.drop (i+1)) nm by simp]
    rw[←e2]
    simp[C.toStr,C.toInt]
  ·have e:i=l.length:=by omega
   subst e
   rw[List.drop_length,List.length_map]
   refine aAi (decide_eq_false (by omega)) (aA5 (cCq o) ?_)
   simp[aGs]
   rfl
theorem cCg:aAa Tryz.prog bGq:=aA8 (by simp[])
theorem aQ3:aAx Tryz.prog 140 (sg [pSl 100,pS] [rSl 100]) aS5:=aA6 cCg aAb Tryz.func140 (by kernel_rfl) fun cs outs hk h=>by
 unfold aS5 at h
 split at h
 ·simp only[Option.some.injEq,Prod.mk.injEq]at h
  obtain⟨h1,rfl⟩:=h
  rename_i l0 nm
  obtain⟨l,rfl,e,hl,ht⟩:=aI8 h1
  unfold aBo
  rw[e,aAd,bRu]
  exact bRv l nm hl 9223372036854775808 0 [] (by omega) (by omega) (by simp)
 ·cases h
theorem bRa (s:List UInt8) (hs:aIc s=true) (h45:¬aBu s=45) (hl:s.length≤281474976710656):∀ (N i:Nat),1≤i→i≤s.length→s.length<i+N→aU1 s=aDb aY3 (s.drop i) i →
  (aBr aZh aAc (sg [pS] [rS,rS,rI,rB]) Tryz.f169 [.r,.r,.r,.l,.r,.b] N (aNp s i)).eval=some [.str (aB1 s),.str (aPw s),.int .i64 (aSw s),.bool (aH1 s)]:=by
 have h2:2≤s.length:=by
  unfold aIc at hs
  simp only[Bool.and_eq_true,decide_eq_true_eq]at hs
  exact hs.1
 intro N
 induction N with
 |zero=>intro i h1 h2;omega
 |succ N ih =>
  intro i h0 h1 h3 hc
  rw[aAv _ _ _ _ _ _ _ (by kernel_rfl),bHg]
  by_cases hi:i<s.length
  ·have w2:IntKind.i64.wrap ((i:Int)+1)=((i+1:Nat):Int):=by rw[aAh]<;>omega
   have m:(decide ((0:Int)≤i)&&decide ((i:Int)<s.length))=true:=by rw[decide_eq_true (by omega),decide_eq_true (by omega)];rfl
   have m0:(decide ((0:Int)≤0)&&decide ((0:Int)<s.length))=true:=by rw[decide_eq_true (by omega),decide_eq_true (by omega)];rfl
   have m1:(decide ((0:Int)≤i)&&decide ((i:Int)≤s.length)&&(decide ((0:Int)≤1)&&decide ((1:Int)≤i)))=true:=by
    rw[decide_eq_true (by omega),decide_eq_true (by omega),decide_eq_true (by omega),decide_eq_true (by omega)];rfl
   have m2:(decide ((0:Int)≤((i+1:Nat):Int))&&decide (((i+1:Nat):Int)≤s.length))=true:=by rw[decide_eq_true (by omega),decide_eq_true (by omega)];rfl
   have d1:(s.drop (i+1)).length≤281474976710656:=by rw[List.length_drop];omega
   have d2:((s.take i).drop 1).length≤281474976710656:=by rw[List.length_drop,List.length_take];omega
   rw[aBx s i 0 hi]at hc
   simp only[aDb]at hc
   rw[w2,Int.toNat_natCast,Int.toNat_natCast,List.take_length]
   refine aAg (decide_eq_true (by omega)) (aA5 m ?_)
   by_cases c:((s.getD i 0).toNat:Int)=58
   ·have c':(s.getD i 0).toNat=58:=by omega
    rw[if_pos (show aY3 (s.getD i 0)=true from decide_eq_true c')]at hc
    have cn:¬aU1 s<0:=by omega
    have cp:0≤aU1 s:=by omega
    have fr:bBn s=(s.take i).drop 1:=by unfold bBn;rw[hc,Int.toNat_natCast]
    have re:aUa s=s.drop (i+1):=by unfold aUa;rw[hc,Int.toNat_natCast]
    have nm:aB1 s=(s.take i).drop 1:=by unfold aB1;rw[if_pos hs,if_neg h45,if_neg cn,fr]
    refine aAg (decide_eq_true c) (aA5 m0 ?_)
    show (T.ask (decide (aBu s=62)) _ _).eval=_
    by_cases c2:aBu s=62
    ·have to:aPw s=s.drop (i+1):=by unfold aPw;rw[hs,decide_eq_true c2,decide_eq_true cp,re];rfl
     have id0:aSw s=0:=by unfold aSw;rw[hs,decide_eq_false (show ¬aBu s=43 by omega)];rfl
     have gd:aH1 s=(aEf (s.drop (i+1))&& !decide ((s.take i).drop 1=s.drop (i+1))):=by
      unfold aH1;rw[hs,decide_eq_false h45,decide_eq_true cp,if_pos c2,fr,re];rfl
     rw[nm,to,id0,gd]
     refine aAg (decide_eq_true c2) (aA5 m1 (aA5 m2 (aA5 m2 (aA5 (decide_eq_true d1) ?_))))
     cases c3:aEf (s.drop (i+1))
     ·exact aAi rfl rfl
     ·refine aAg rfl (aA5 m1 (aA5 m2 ?_))
      by_cases c4:(s.take i).drop 1=s.drop (i+1)
      ·rw[decide_eq_true c4]
       refine aAi ?_ rfl
       show (!(List.drop 1 (List.take i s)==List.drop (i+1) s))=false
       rw[c4];simp
      ·rw[decide_eq_false c4]
       refine aAg ?_ rfl
       show (!(List.drop 1 (List.take i s)==List.drop (i+1) s))=true
       simpa using c4
    ·have c43:aBu s=43:=by
      unfold aIc at hs
      simp only[Bool.and_eq_true,Bool.or_eq_true,decide_eq_true_eq]at hs
      omega
     have to:aPw s=[]:=by unfold aPw;rw[hs,decide_eq_false c2];rfl
     have id0:aSw s=aP8 (s.drop (i+1)):=by unfold aSw;rw[hs,decide_eq_true c43,decide_eq_true cp,re];rfl
     have gd:aH1 s=(bLn (s.drop (i+1))&&aEf ((s.take i).drop 1)):=by
      unfold aH1;rw[hs,decide_eq_false h45,decide_eq_true cp,if_neg c2,fr,re];rfl
     rw[nm,to,id0,gd]
     refine aAi (decide_eq_false c2) (aA5 m (aAg (decide_eq_true c) (aA5 m2 (aA5 (decide_eq_true d1) ?_))))
     cases c3:bLn (s.drop (i+1))
     ·exact aAi rfl (aA5 m1 rfl)
     ·refine aAg rfl (aA5 m1 (aA5 m1 (aA5 (decide_eq_true d2) ?_)))
      show (T.ask (aEf ((s.take i).drop 1)) _ _).eval=_
      cases c4:aEf ((s.take i).drop 1)
      ·exact aAi rfl rfl
      ·exact aAg rfl rfl
   ·have c':¬(s.getD i 0).toNat=58:=by omega
    rw[if_neg (show ¬aY3 (s.getD i 0)=true by unfold aY3;simpa using c')]at hc
    exact aAi (decide_eq_false c) (aA5 m (aAi (decide_eq_false c) (ih (i+1) (by omega) (by omega) (by omega) hc)))
  ·have e:i=s.length:=by omega
   subst e
   rw[List.drop_length]at hc
   have cn:aU1 s= -1:=hc
   have nm:aB1 s=[]:=by unfold aB1;rw[if_pos hs,if_neg h45,if_pos (by omega)]
   have to:aPw s=[]:=by unfold aPw;rw[decide_eq_false (show ¬0≤aU1 s by omega)];simp
   have id0:aSw s=0:=by unfold aSw;rw[decide_eq_false (show ¬0≤aU1 s by omega)];simp
   have gd:aH1 s=false:=by unfold aH1;rw[decide_eq_false h45,decide_eq_false (show ¬0≤aU1 s by omega)];simp
   rw[nm,to,id0,gd]
   exact aAi (decide_eq_false (by omega)) rfl
theorem bP3 {s:List UInt8} (h:aIc s=false):aB1 s=[]∧aPw s=[]∧aSw s=0∧aH1 s=false:=by
 refine⟨?_,?_,?_,?_⟩
 ·unfold aB1;rw[h];rfl
 ·unfold aPw;rw[h];rfl
 ·unfold aSw;rw[h];rfl
 ·unfold aH1;rw[h];rfl
theorem cC8:aAa Tryz.prog aZh:=aA8 (by simp[bVb,aGf])
theorem bM4:aAx Tryz.prog 169 (sg [pS] [rS,rS,rI,rB]) bD7:=aA6 cC8 aAb Tryz.func169 (by kernel_rfl) fun cs outs hk h=>by
 unfold bD7 at h
 split at h
 ·simp only[Option.some.injEq,Prod.mk.injEq,decide_eq_true_eq]at h
  obtain⟨h1,rfl⟩:=h
  rename_i s
  rw[aAd,bR9,List.take_length]
  by_cases c:(s.length:Int)<2
  ·have hn:aIc s=false:=by unfold aIc;rw[decide_eq_false (by omega)];rfl
   obtain⟨e1,e2,e3,e4⟩:=bP3 hn
   rw[e1,e2,e3,e4]
   exact aAg (decide_eq_true c) rfl
  ·have m0:(decide ((0:Int)≤0)&&decide ((0:Int)<s.length))=true:=by rw[decide_eq_true (by omega),decide_eq_true (by omega)];rfl
   have m1:(decide ((0:Int)≤1)&&decide ((1:Int)≤s.length))=true:=by rw[decide_eq_true (by omega),decide_eq_true (by omega)];rfl
   have go:¬aBu s=45→aIc s=true→(aBr aZh aAc (sg [pS] [rS,rS,rI,rB]) Tryz.f169 [.r,.r,.r,.l,.r,.b] 9223372036854775808 (aNp s 1)).eval=some [.str (aB1 s),.str (aPw s),.int .i64 (aSw s),.bool (aH1 s)]:=fun a b=>bRa s b a h1 9223372036854775808 1 (by omega) (by omega) (by omega) rfl
   have is:aIc s=(decide (aBu s=43)||decide (aBu s=45)||decide (aBu s=62)):=by unfold aIc;rw[decide_eq_true (by omega)];rfl
   have minus:aBu s=45→aB1 s=s.drop 1∧aPw s=[]∧aSw s=0∧aH1 s=true:=fun h45=>by
    have hi:aIc s=true:=by rw[is,decide_eq_true h45];simp
    refine⟨?_,?_,?_,?_⟩
    ·unfold aB1;rw[if_pos hi,if_pos h45]
    ·unfold aPw;rw[decide_eq_false (show ¬aBu s=62 by omega)];simp
    ·unfold aSw;rw[decide_eq_false (show ¬aBu s=43 by omega)];simp
    ·unfold aH1;rw[hi,decide_eq_true h45];rfl
   refine aAi (decide_eq_false c) (aA5 m0 ?_)
   show (T.ask (aBu s != 43) _ _).eval=_
   by_cases c43:aBu s=43
   ·refine aAi (by rw[c43];rfl) (aA5 m0 ?_)
    show (T.ask (decide (aBu s=45)) _ _).eval=_
    exact aAi (decide_eq_false (by omega)) (go (by omega) (by rw[is,decide_eq_true c43];rfl))
   ·refine aAg (by simpa using c43) (aA5 m0 ?_)
    show (T.ask (aBu s != 45) _ _).eval=_
    by_cases c45:aBu s=45
    ·refine aAi (by rw[c45];rfl) (aA5 m0 ?_)
     show (T.ask (decide (aBu s=45)) _ _).eval=_
     obtain⟨e1,e2,e3,e4⟩:=minus c45
     rw[e1,e2,e3,e4]
     exact aAg (decide_eq_true c45) (aA5 m1 rfl)
    ·refine aAg (by simpa using c45) (aA5 m0 ?_)
     show (T.ask (aBu s != 62) _ _).eval=_
     by_cases c62:aBu s=62
     ·refine aAi (by rw[c62];rfl) (aA5 m0 ?_)
      show (T.ask (decide (aBu s=45)) _ _).eval=_
      exact aAi (decide_eq_false c45) (go c45 (by rw[is,decide_eq_true c62];simp))
     ·have hn:aIc s=false:=by rw[is,decide_eq_false c43,decide_eq_false c45,decide_eq_false c62];rfl
      obtain⟨e1,e2,e3,e4⟩:=bP3 hn
      rw[e1,e2,e3,e4]
      exact aAg (by simpa using c62) rfl
 ·cases h
noncomputable section
def aNl (l:List En) (s:List UInt8):List En :=
 let l1:=if aBu s=43 then l else aGs l (aB1 s)
 let nm:=if aBu s=43 then aB1 s else aPw s
 let id:=if aBu s=62 then aBb l (aB1 s)else aSw s
 if aBu s=45 then l1 else bIx l1 ⟨nm,id⟩
def aE6 (l:List En) (s:List UInt8):Bool:=aH1 s&&aEf (aB1 s)&&(decide (aBu s=43)||aGz l (aB1 s))
def aFx:List (List UInt8)→List En→Option (List En)
 |[],l=>some l
 |s::r,l=>if aE6 l s then aFx r (aNl l s)else none
def aWj (ss:List (List UInt8)) (n:Int):Nat:=(aL2 n 0 ss.length).toNat
def cB2 (os:List En) (ss:List (List UInt8)) (n:Int):Bool:=(aFx (ss.take (aWj ss n)) os).isSome
def sdL (os:List En) (ss:List (List UInt8)) (n:Int):List En:=(aFx (ss.take (aWj ss n)) os).getD []
def sdR (os ss:List (List C)) (n:Int):List (List C):=(sdL (ens os) (aCp ss) n).map eEn
def stB (os ss:List (List C)):Bool:=aKh os&&bYs ss&&decide (os.length+ss.length≤dN)
def aR0:aCf:=fun cs=>match cs with
 |[.sl os,.sl ss,.int .i64 n]=>some (stB os ss,[.sl (sdR os ss n),.bool (cB2 (ens os) (aCp ss) n)])
 |_=>none
def aCz (ss:List (List C)) (n:Int) (m:Nat) (l:List (List C)) (i:Int):St:=st1 [(1,.l (.sl ss)),(2,aBf n),(8,.l (.ref 0 0 m)),(9,aBf i)] 2 l
def aSl:Env:=mkE [(4,[1,2,8,9])] [(36,(sg [pI,pI,pI] [rI]),aQj),(93,(sg [pSl 100,pS] [rI]),aJb),(94,(sg [pSl 100,pS] [rB]),aGo),(142,(sg [pS] [rB]),aLp),(143,(sg [pSl 100,aKo] [rSl 100]),aXn),(140,(sg [pSl 100,pS] [rSl 100]),aS5),(169,(sg [pS] [rS,rS,rI,rB]),bD7)]
def aXv (next:Int):List Nd→Option Int→Bool
 |[],_=>true
 |x::r,p=>inB x.id 1 (next-1)&&(match p with | none=>true | some q=>decide (q<x.id))&&inB x.sure 0 x.text.length&&aXv next r (some x.id)
def aWi (ns:List Nd) (es os:List En) (ss:List (List UInt8)) (k:Nat):Bool :=
 cB2 os ss k&&aKx ns (sdL os ss k)&&(!decide (k=ss.length)||decide (sdL os ss k=es))
def bOi (ns:List Nd) (es os:List En) (ss:List (List UInt8)) (room next:Int):Bool :=
 decide (ns.length≤64)&&inB room 0 1000000000&&inB next 1 1000000000&&decide ((aEv ns:Int)≤room)&&aXv next ns none&&(List.range (ss.length+1)).all (aWi ns es os ss)
def aFg (ns es os ss:List (List C)) (room next:Int):Bool:=bOi (nds ns) (ens es) (ens os) (aCp ss) room next
def aFj (ns es os ss:List (List C)):Bool:=bBy ns&&aKh es&&stB os ss
def aG8:aCf:=fun cs=>match cs with
 |[.sl ns,.sl es,.sl os,.sl ss,.int .i64 r,.int .i64 x]=>some (aFj ns es os ss,[.bool (aFg ns es os ss r x)])
 |_=>none
def aNs (ns es os ss:List (List C)) (r x i:Int):St:={slots:=[(1,.l (.ptr 0 0)),(3,aBf i)],heap:=[(0,bOh ns es os ss r x)],next:=1,pins:=[]}
def aL7 (ns es os ss:List (List C)) (r x i:Int):St:={slots:=[(1,.l (.ptr 0 0)),(5,aBf i)],heap:=[(0,bOh ns es os ss r x)],next:=1,pins:=[]}
def aLb:Env:=mkE [(4,[1,3]),(10,[1,5])] [(45,(sg [pI,pI,pI] [rB]),aE4),(145,(sg [aB0] [rI]),aVn),(156,(sg [aB0,pSl 100] [rB]),aQd),(157,(sg [pSl 100,pSl 100] [rB]),bDc),(155,(sg [pSl 100,pSl 9,pI] [rSl 100,rB]),aR0)]
def bOw (os:List En) (ss:List (List UInt8)) (id:Int):Bool:=(List.range (ss.length+1)).any fun k=>(sdL os ss k).any fun e=>decide (e.id=id)
def aCx (ns os ss:List (List C)):List (List C):=((nds ns).filter fun x=>bOw (ens os) (aCp ss) x.id).map eNd
def aL1:aCf:=fun cs=>match cs with
 |[.sl ns,.sl es,.sl os,.sl ss,.int .i64 r,.int .i64 x]=>some (aFj ns es os ss,[.sl (aCx ns os ss),.sl es,.sl os,.sl ss,.int .i64 r,.int .i64 x,.sl es,.sl os,.sl ss])
 |_=>none
def aE0:PTy:=.wr true [(.slice 94,false),(.slice 100,true),(.slice 100,true),(.slice 9,true),(.int .i64,false),(.int .i64,false)]
def aDz:RTy:=⟨true,[(.slice 94,true),(.back 100 0,true),(.back 100 1,true),(.back 9 2,true),(.int .i64,false),(.int .i64,false)]⟩
abbrev aYz (ns es os ss:List (List C)) (r x:Int) (o:List (List C)):List (Nat×Blk):=[(0,.box [.sl ns,.ref 3 0 es.length,.ref 4 0 os.length,.ref 5 0 ss.length,.i .i64 r,.i .i64 x]),(1,.box [.nil,.nil,.nil,.nil,.i .i64 0,.i .i64 0]),(2,.arr 3 o),(3,.arr 2 es),(4,.arr 2 os),(5,.arr 1 ss)]
def aFe (ns es os ss:List (List C)) (r x:Int) (n:Nat) (o:List (List C)) (i:Int):St:={slots:=[(1,.l (.ptr 0 0)),(2,.l (.ptr 1 0)),(3,.l (.ref 2 0 n)),(4,aBf i)],heap:=aYz ns es os ss r x o,next:=6,pins:=[3,4,5]}
def aNu (ns es os ss:List (List C)) (r x:Int) (n:Nat) (o:List (List C)) (i j:Int):St:={slots:=[(1,.l (.ptr 0 0)),(2,.l (.ptr 1 0)),(3,.l (.ref 2 0 n)),(4,aBf i),(5,.l (.b false)),(6,aBf j)],heap:=aYz ns es os ss r x o,next:=6,pins:=[3,4,5]}
def aNt (ns es os ss:List (List C)) (r x:Int) (n:Nat) (o:List (List C)) (i j:Int):St:={slots:=[(1,.l (.ptr 0 0)),(2,.l (.ptr 1 0)),(3,.l (.ref 2 0 n)),(4,aBf i),(5,.l (.b true)),(6,aBf j)],heap:=aYz ns es os ss r x o,next:=6,pins:=[3,4,5]}
abbrev bCh (ns es os ss:List (List C)) (r x:Int) (o l:List (List C)):List (Nat×Blk):=[(0,.box [.sl ns,.ref 4 0 es.length,.ref 5 0 os.length,.ref 6 0 ss.length,.i .i64 r,.i .i64 x]),(1,.box [.nil,.nil,.nil,.nil,.i .i64 0,.i .i64 0]),(2,.arr 3 o),(3,.arr 2 l),(4,.arr 2 es),(5,.arr 2 os),(6,.arr 1 ss)]
def aL8 (ns es os ss:List (List C)) (r x:Int) (n:Nat) (o:List (List C)) (i j:Int) (q:Nat) (l:List (List C)) (y:Int):St:={slots:=[(1,.l (.ptr 0 0)),(2,.l (.ptr 1 0)),(3,.l (.ref 2 0 n)),(4,aBf i),(5,.l (.b false)),(6,aBf j),(7,.l (.ref 3 0 q)),(9,aBf y)],heap:=bCh ns es os ss r x o l,next:=7,pins:=[4,5,6]}
def aSh (ns es os ss:List (List C)) (r x:Int) (n:Nat) (o:List (List C)) (i j:Int) (q:Nat) (l:List (List C)) (y:Int):St:={slots:=[(1,.l (.ptr 0 0)),(2,.l (.ptr 1 0)),(3,.l (.ref 2 0 n)),(4,aBf i),(5,.l (.b true)),(6,aBf j),(7,.l (.ref 3 0 q)),(9,aBf y)],heap:=bCh ns es os ss r x o l,next:=7,pins:=[4,5,6]}
def aCo:Env:=mkE [(3,[1,2,3,4]),(7,[1,2,3,4,5,6]),(11,[1,2,3,4,5,6,7,9])] [(155,(sg [pSl 100,pSl 9,pI] [rSl 100,rB]),aR0)]
end
theorem bM2 (H:List Pt→Nat→St→T (List C)) (os:List (List C)) (ss:List (List C)) (n:Int):(aAk aSl aAc (sg [pSl 100,pSl 9,pI] [rSl 100,rB]) Tryz.f155 H [C.sl os,C.sl ss,C.int .i64 n]).eval=((.must (decide (0=0)&&aBj (0+os.length) 24&&os.all fun r=>decide (r.length=2)) (H [Pt.r,Pt.r,Pt.r,Pt.l,Pt.r,Pt.b] 9223372036854775808 (aCz (ss) (aL2 n 0 (↑ss.length:Int)) (0+os.length) (os) ((0:Int))))):T (List C)).eval:=aAj (by kernel_rfl)
theorem bDl (H:List Pt→Nat→St→T (List C)) (ss:List (List C)) (n:Int) (m2:Nat) (l:List (List C)) (i:Int) (k:Nat):(aBl aSl aAc (sg [pSl 100,pSl 9,pI] [rSl 100,rB]) Tryz.f155 H [Pt.r,Pt.r,Pt.r,Pt.l,Pt.r,Pt.b] k (aCz ss n m2 l i)).eval=((.ask (decide (i<n)) (.must (decide ((0:Int)≤i)&&decide (i<(↑ss.length:Int))&&decide ((ss.getD i.toNat []).length=1)) (.must (decide (0<(ss.getD i.toNat []).length)&&C.is K.str ((ss.getD i.toNat []).getD 0 (C.fn 0 []))&&true) (.must (decide (((ss.getD i.toNat []).getD 0 (C.fn 0 [])).toStr.length≤281474976710656)) (.ask (aH1 ((ss.getD i.toNat []).getD 0 (C.fn 0 [])).toStr) (.must (decide ((aB1 ((ss.getD i.toNat []).getD 0 (C.fn 0 [])).toStr).length≤281474976710656)) (.ask (aEf (aB1 ((ss.getD i.toNat []).getD 0 (C.fn 0 [])).toStr)) (.must (decide ((0:Int)≤i)&&decide (i<(↑ss.length:Int))&&decide ((ss.getD i.toNat []).length=1)) (.must (decide (0<(ss.getD i.toNat []).length)&&C.is K.str ((ss.getD i.toNat []).getD 0 (C.fn 0 []))&&true) (.must (decide ((0:Int)≤(0:Int))&&decide ((0:Int)<(↑((ss.getD i.toNat []).getD 0 (C.fn 0 [])).toStr.length:Int))) (.ask ((↑(((ss.getD i.toNat []).getD 0 (C.fn 0 [])).toStr.getD (Int.toNat 0) (0:UInt8)).toNat:Int) != (43:Int)) (.must (decide ((List.take m2 l).length≤aMj)&&aAp [K.str,K.int .i64] (List.take m2 l)) (.ask (aGz (ens (List.take m2 l)) (aB1 ((ss.getD i.toNat []).getD 0 (C.fn 0 [])).toStr)) (.must (decide ((0:Int)≤i)&&decide (i<(↑ss.length:Int))&&decide ((ss.getD i.toNat []).length=1)) (.must (decide (0<(ss.getD i.toNat []).length)&&C.is K.str ((ss.getD i.toNat []).getD 0 (C.fn 0 []))&&true) (.must (decide ((0:Int)≤(0:Int))&&decide ((0:Int)<(↑((ss.getD i.toNat []).getD 0 (C.fn 0 [])).toStr.length:Int))) (.ask (decide ((↑(((ss.getD i.toNat []).getD 0 (C.fn 0 [])).toStr.getD (Int.toNat 0) (0:UInt8)).toNat:Int)=(62:Int))) (.must (decide ((List.take m2 l).length≤aMj)&&aAp [K.str,K.int .i64] (List.take m2 l)) (.must (decide ((0:Int)≤i)&&decide (i<(↑ss.length:Int))&&decide ((ss.getD i.toNat []).length=1)) (.must (decide (0<(ss.getD i.toNat []).length)&&C.is K.str ((ss.getD i.toNat []).getD 0 (C.fn 0 []))&&true) (.must (decide ((0:Int)≤(0:Int))&&decide ((0:Int)<(↑((ss.getD i.toNat []).getD 0 (C.fn 0 [])).toStr.length:Int))) (.ask ((↑(((ss.getD i.toNat []).getD 0 (C.fn 0 [])).toStr.getD (Int.toNat 0) (0:UInt8)).toNat:Int) != (43:Int)) (.must (aKh (List.take m2 l)) (.must ((true&&(aBo (List.take m2 l) (aB1 ((ss.getD i.toNat []).getD 0 (C.fn 0 [])).toStr)).all fun row=>decide (row.length=2))&&true&&true&&true) (.must (decide ((0:Int)≤i)&&decide (i<(↑ss.length:Int))&&decide ((ss.getD i.toNat []).length=1)) (.must (decide (0<(ss.getD i.toNat []).length)&&C.is K.str ((ss.getD i.toNat []).getD 0 (C.fn 0 []))&&true) (.must (decide ((0:Int)≤(0:Int))&&decide ((0:Int)<(↑((ss.getD i.toNat []).getD 0 (C.fn 0 [])).toStr.length:Int))) (.ask ((↑(((ss.getD i.toNat []).getD 0 (C.fn 0 [])).toStr.getD (Int.toNat 0) (0:UInt8)).toNat:Int) != (45:Int)) (.must (aKh (List.take (aBo (List.take m2 l) (aB1 ((ss.getD i.toNat []).getD 0 (C.fn 0 [])).toStr)).length (aBo (List.take m2 l) (aB1 ((ss.getD i.toNat []).getD 0 (C.fn 0 [])).toStr)))) (.must ((true&&(aG3 (List.take (aBo (List.take m2 l) (aB1 ((ss.getD i.toNat []).getD 0 (C.fn 0 [])).toStr)).length (aBo (List.take m2 l) (aB1 ((ss.getD i.toNat []).getD 0 (C.fn 0 [])).toStr))) (aPw ((ss.getD i.toNat []).getD 0 (C.fn 0 [])).toStr) (aBb (ens (List.take m2 l)) (aB1 ((ss.getD i.toNat []).getD 0 (C.fn 0 [])).toStr))).all fun row=>decide (row.length=2))&&true&&true&&true) (H [Pt.r,Pt.r,Pt.r,Pt.l,Pt.r,Pt.b] k (aCz (ss) (n) ((aG3 (List.take (aBo (List.take m2 l) (aB1 ((ss.getD i.toNat []).getD 0 (C.fn 0 [])).toStr)).length (aBo (List.take m2 l) (aB1 ((ss.getD i.toNat []).getD 0 (C.fn 0 [])).toStr))) (aPw ((ss.getD i.toNat []).getD 0 (C.fn 0 [])).toStr) (aBb (ens (List.take m2 l)) (aB1 ((ss.getD i.toNat []).getD 0 (C.fn 0 [])).toStr))).length) (aG3 (List.take (aBo (List.take m2 l) (aB1 ((ss.getD i.toNat []).getD 0 (C.fn 0 [])).toStr)).length (aBo (List.take m2 l) (aB1 ((ss.getD i.toNat []).getD 0 (C.fn 0 [])).toStr))) (aPw ((ss.getD i.toNat []).getD 0 (C.fn 0 [])).toStr) (aBb (ens (List.take m2 l)) (aB1 ((ss.getD i.toNat []).getD 0 (C.fn 0 [])).toStr))) (IntKind.i64.wrap (i+(1:Int))))))) (H [Pt.r,Pt.r,Pt.r,Pt.l,Pt.r,Pt.b] k (aCz (ss) (n) ((aBo (List.take m2 l) (aB1 ((ss.getD i.toNat []).getD 0 (C.fn 0 [])).toStr)).length) (aBo (List.take m2 l) (aB1 ((ss.getD i.toNat []).getD 0 (C.fn 0 [])).toStr)) (IntKind.i64.wrap (i+(1:Int))))))))))) (.must (decide ((0:Int)≤i)&&decide (i<(↑ss.length:Int))&&decide ((ss.getD i.toNat []).length=1)) (.must (decide (0<(ss.getD i.toNat []).length)&&C.is K.str ((ss.getD i.toNat []).getD 0 (C.fn 0 []))&&true) (.must (decide ((0:Int)≤(0:Int))&&decide ((0:Int)<(↑((ss.getD i.toNat []).getD 0 (C.fn 0 [])).toStr.length:Int))) (.ask ((↑(((ss.getD i.toNat []).getD 0 (C.fn 0 [])).toStr.getD (Int.toNat 0) (0:UInt8)).toNat:Int) != (45:Int)) (.must (aKh (List.take m2 l)) (.must ((true&&(aG3 (List.take m2 l) (aB1 ((ss.getD i.toNat []).getD 0 (C.fn 0 [])).toStr) (aBb (ens (List.take m2 l)) (aB1 ((ss.getD i.toNat []).getD 0 (C.fn 0 [])).toStr))).all fun row=>decide (row.length=2))&&true&&true&&true) (H [Pt.r,Pt.r,Pt.r,Pt.l,Pt.r,Pt.b] k (aCz (ss) (n) ((aG3 (List.take m2 l) (aB1 ((ss.getD i.toNat []).getD 0 (C.fn 0 [])).toStr) (aBb (ens (List.take m2 l)) (aB1 ((ss.getD i.toNat []).getD 0 (C.fn 0 [])).toStr))).length) (aG3 (List.take m2 l) (aB1 ((ss.getD i.toNat []).getD 0 (C.fn 0 [])).toStr) (aBb (ens (List.take m2 l)) (aB1 ((ss.getD i.toNat []).getD 0 (C.fn 0 [])).toStr))) (IntKind.i64.wrap (i+(1:Int))))))) (H [Pt.r,Pt.r,Pt.r,Pt.l,Pt.r,Pt.b] k (aCz (ss) (n) (m2) (l) (IntKind.i64.wrap (i+(1:Int)))))))))))))) (.must (decide ((0:Int)≤i)&&decide (i<(↑ss.length:Int))&&decide ((ss.getD i.toNat []).length=1)) (.must (decide (0<(ss.getD i.toNat []).length)&&C.is K.str ((ss.getD i.toNat []).getD 0 (C.fn 0 []))&&true) (.must (decide ((0:Int)≤(0:Int))&&decide ((0:Int)<(↑((ss.getD i.toNat []).getD 0 (C.fn 0 [])).toStr.length:Int))) (.ask ((↑(((ss.getD i.toNat []).getD 0 (C.fn 0 [])).toStr.getD (Int.toNat 0) (0:UInt8)).toNat:Int) != (43:Int)) (.must (aKh (List.take m2 l)) (.must ((true&&(aBo (List.take m2 l) (aB1 ((ss.getD i.toNat []).getD 0 (C.fn 0 [])).toStr)).all fun row=>decide (row.length=2))&&true&&true&&true) (.must (decide ((0:Int)≤i)&&decide (i<(↑ss.length:Int))&&decide ((ss.getD i.toNat []).length=1)) (.must (decide (0<(ss.getD i.toNat []).length)&&C.is K.str ((ss.getD i.toNat []).getD 0 (C.fn 0 []))&&true) (.must (decide ((0:Int)≤(0:Int))&&decide ((0:Int)<(↑((ss.getD i.toNat []).getD 0 (C.fn 0 [])).toStr.length:Int))) (.ask ((↑(((ss.getD i.toNat []).getD 0 (C.fn 0 [])).toStr.getD (Int.toNat 0) (0:UInt8)).toNat:Int) != (45:Int)) (.must (aKh (List.take (aBo (List.take m2 l) (aB1 ((ss.getD i.toNat []).getD 0 (C.fn 0 [])).toStr)).length (aBo (List.take m2 l) (aB1 ((ss.getD i.toNat []).getD 0 (C.fn 0 [])).toStr)))) (.must ((true&&(aG3 (List.take (aBo (List.take m2 l) (aB1 ((ss.getD i.toNat []).getD 0 (C.fn 0 [])).toStr)).length (aBo (List.take m2 l) (aB1 ((ss.getD i.toNat []).getD 0 (C.fn 0 [])).toStr))) (aPw ((ss.getD i.toNat []).getD 0 (C.fn 0 [])).toStr) (aSw ((ss.getD i.toNat []).getD 0 (C.fn 0 [])).toStr)).all fun row=>decide (row.length=2))&&true&&true&&true) (H [Pt.r,Pt.r,Pt.r,Pt.l,Pt.r,Pt.b] k (aCz (ss) (n) ((aG3 (List.take (aBo (List.take m2 l) (aB1 ((ss.getD i.toNat []).getD 0 (C.fn 0 [])).toStr)).length (aBo (List.take m2 l) (aB1 ((ss.getD i.toNat []).getD 0 (C.fn 0 [])).toStr))) (aPw ((ss.getD i.toNat []).getD 0 (C.fn 0 [])).toStr) (aSw ((ss.getD i.toNat []).getD 0 (C.fn 0 [])).toStr)).length) (aG3 (List.take (aBo (List.take m2 l) (aB1 ((ss.getD i.toNat []).getD 0 (C.fn 0 [])).toStr)).length (aBo (List.take m2 l) (aB1 ((ss.getD i.toNat []).getD 0 (C.fn 0 [])).toStr))) (aPw ((ss.getD i.toNat []).getD 0 (C.fn 0 [])).toStr) (aSw ((ss.getD i.toNat []).getD 0 (C.fn 0 [])).toStr)) (IntKind.i64.wrap (i+(1:Int))))))) (H [Pt.r,Pt.r,Pt.r,Pt.l,Pt.r,Pt.b] k (aCz (ss) (n) ((aBo (List.take m2 l) (aB1 ((ss.getD i.toNat []).getD 0 (C.fn 0 [])).toStr)).length) (aBo (List.take m2 l) (aB1 ((ss.getD i.toNat []).getD 0 (C.fn 0 [])).toStr)) (IntKind.i64.wrap (i+(1:Int))))))))))) (.must (decide ((0:Int)≤i)&&decide (i<(↑ss.length:Int))&&decide ((ss.getD i.toNat []).length=1)) (.must (decide (0<(ss.getD i.toNat []).length)&&C.is K.str ((ss.getD i.toNat []).getD 0 (C.fn 0 []))&&true) (.must (decide ((0:Int)≤(0:Int))&&decide ((0:Int)<(↑((ss.getD i.toNat []).getD 0 (C.fn 0 [])).toStr.length:Int))) (.ask ((↑(((ss.getD i.toNat []).getD 0 (C.fn 0 [])).toStr.getD (Int.toNat 0) (0:UInt8)).toNat:Int) != (45:Int)) (.must (aKh (List.take m2 l)) (.must ((true&&(aG3 (List.take m2 l) (aB1 ((ss.getD i.toNat []).getD 0 (C.fn 0 [])).toStr) (aSw ((ss.getD i.toNat []).getD 0 (C.fn 0 [])).toStr)).all fun row=>decide (row.length=2))&&true&&true&&true) (H [Pt.r,Pt.r,Pt.r,Pt.l,Pt.r,Pt.b] k (aCz (ss) (n) ((aG3 (List.take m2 l) (aB1 ((ss.getD i.toNat []).getD 0 (C.fn 0 [])).toStr) (aSw ((ss.getD i.toNat []).getD 0 (C.fn 0 [])).toStr)).length) (aG3 (List.take m2 l) (aB1 ((ss.getD i.toNat []).getD 0 (C.fn 0 [])).toStr) (aSw ((ss.getD i.toNat []).getD 0 (C.fn 0 [])).toStr)) (IntKind.i64.wrap (i+(1:Int))))))) (H [Pt.r,Pt.r,Pt.r,Pt.l,Pt.r,Pt.b] k (aCz (ss) (n) (m2) (l) (IntKind.i64.wrap (i+(1:Int))))))))))))))))) (.ret [C.sl [],C.bool false]))) (.must (decide ((0:Int)≤i)&&decide (i<(↑ss.length:Int))&&decide ((ss.getD i.toNat []).length=1)) (.must (decide (0<(ss.getD i.toNat []).length)&&C.is K.str ((ss.getD i.toNat []).getD 0 (C.fn 0 []))&&true) (.must (decide ((0:Int)≤(0:Int))&&decide ((0:Int)<(↑((ss.getD i.toNat []).getD 0 (C.fn 0 [])).toStr.length:Int))) (.ask (decide ((↑(((ss.getD i.toNat []).getD 0 (C.fn 0 [])).toStr.getD (Int.toNat 0) (0:UInt8)).toNat:Int)=(62:Int))) (.must (decide ((List.take m2 l).length≤aMj)&&aAp [K.str,K.int .i64] (List.take m2 l)) (.must (decide ((0:Int)≤i)&&decide (i<(↑ss.length:Int))&&decide ((ss.getD i.toNat []).length=1)) (.must (decide (0<(ss.getD i.toNat []).length)&&C.is K.str ((ss.getD i.toNat []).getD 0 (C.fn 0 []))&&true) (.must (decide ((0:Int)≤(0:Int))&&decide ((0:Int)<(↑((ss.getD i.toNat []).getD 0 (C.fn 0 [])).toStr.length:Int))) (.ask ((↑(((ss.getD i.toNat []).getD 0 (C.fn 0 [])).toStr.getD (Int.toNat 0) (0:UInt8)).toNat:Int) != (43:Int)) (.must (aKh (List.take m2 l)) (.must ((true&&(aBo (List.take m2 l) (aB1 ((ss.getD i.toNat []).getD 0 (C.fn 0 [])).toStr)).all fun row=>decide (row.length=2))&&true&&true&&true) (.must (decide ((0:Int)≤i)&&decide (i<(↑ss.length:Int))&&decide ((ss.getD i.toNat []).length=1)) (.must (decide (0<(ss.getD i.toNat []).length)&&C.is K.str ((ss.getD i.toNat []).getD 0 (C.fn 0 []))&&true) (.must (decide ((0:Int)≤(0:Int))&&decide ((0:Int)<(↑((ss.getD i.toNat []).getD 0 (C.fn 0 [])).toStr.length:Int))) (.ask ((↑(((ss.getD i.toNat []).getD 0 (C.fn 0 [])).toStr.getD (Int.toNat 0) (0:UInt8)).toNat:Int) != (45:Int)) (.must (aKh (List.take (aBo (List.take m2 l) (aB1 ((ss.getD i.toNat []).getD 0 (C.fn 0 [])).toStr)).length (aBo (List.take m2 l) (aB1 ((ss.getD i.toNat []).getD 0 (C.fn 0 [])).toStr)))) (.must ((true&&(aG3 (List.take (aBo (List.take m2 l) (aB1 ((ss.getD i.toNat []).getD 0 (C.fn 0 [])).toStr)).length (aBo (List.take m2 l) (aB1 ((ss.getD i.toNat []).getD 0 (C.fn 0 [])).toStr))) (aPw ((ss.getD i.toNat []).getD 0 (C.fn 0 [])).toStr) (aBb (ens (List.take m2 l)) (aB1 ((ss.getD i.toNat []).getD 0 (C.fn 0 [])).toStr))).all fun row=>decide (row.length=2))&&true&&true&&true) (H [Pt.r,Pt.r,Pt.r,Pt.l,Pt.r,Pt.b] k (aCz (ss) (n) ((aG3 (List.take (aBo (List.take m2 l) (aB1 ((ss.getD i.toNat []).getD 0 (C.fn 0 [])).toStr)).length (aBo (List.take m2 l) (aB1 ((ss.getD i.toNat []).getD 0 (C.fn 0 [])).toStr))) (aPw ((ss.getD i.toNat []).getD 0 (C.fn 0 [])).toStr) (aBb (ens (List.take m2 l)) (aB1 ((ss.getD i.toNat []).getD 0 (C.fn 0 [])).toStr))).length) (aG3 (List.take (aBo (List.take m2 l) (aB1 ((ss.getD i.toNat []).getD 0 (C.fn 0 [])).toStr)).length (aBo (List.take m2 l) (aB1 ((ss.getD i.toNat []).getD 0 (C.fn 0 [])).toStr))) (aPw ((ss.getD i.toNat []).getD 0 (C.fn 0 [])).toStr) (aBb (ens (List.take m2 l)) (aB1 ((ss.getD i.toNat []).getD 0 (C.fn 0 [])).toStr))) (IntKind.i64.wrap (i+(1:Int))))))) (H [Pt.r,Pt.r,Pt.r,Pt.l,Pt.r,Pt.b] k (aCz (ss) (n) ((aBo (List.take m2 l) (aB1 ((ss.getD i.toNat []).getD 0 (C.fn 0 [])).toStr)).length) (aBo (List.take m2 l) (aB1 ((ss.getD i.toNat []).getD 0 (C.fn 0 [])).toStr)) (IntKind.i64.wrap (i+(1:Int))))))))))) (.must (decide ((0:Int)≤i)&&decide (i<(↑ss.length:Int))&&decide ((ss.getD i.toNat []).length=1)) (.must (decide (0<(ss.getD i.toNat []).length)&&C.is K.str ((ss.getD i.toNat []).getD 0 (C.fn 0 []))&&true) (.must (decide ((0:Int)≤(0:Int))&&decide ((0:Int)<(↑((ss.getD i.toNat []).getD 0 (C.fn 0 [])).toStr.length:Int))) (.ask ((↑(((ss.getD i.toNat []).getD 0 (C.fn 0 [])).toStr.getD (Int.toNat 0) (0:UInt8)).toNat:Int) != (45:Int)) (.must (aKh (List.take m2 l)) (.must ((true&&(aG3 (List.take m2 l) (aB1 ((ss.getD i.toNat []).getD 0 (C.fn 0 [])).toStr) (aBb (ens (List.take m2 l)) (aB1 ((ss.getD i.toNat []).getD 0 (C.fn 0 [])).toStr))).all fun row=>decide (row.length=2))&&true&&true&&true) (H [Pt.r,Pt.r,Pt.r,Pt.l,Pt.r,Pt.b] k (aCz (ss) (n) ((aG3 (List.take m2 l) (aB1 ((ss.getD i.toNat []).getD 0 (C.fn 0 [])).toStr) (aBb (ens (List.take m2 l)) (aB1 ((ss.getD i.toNat []).getD 0 (C.fn 0 [])).toStr))).length) (aG3 (List.take m2 l) (aB1 ((ss.getD i.toNat []).getD 0 (C.fn 0 [])).toStr) (aBb (ens (List.take m2 l)) (aB1 ((ss.getD i.toNat []).getD 0 (C.fn 0 [])).toStr))) (IntKind.i64.wrap (i+(1:Int))))))) (H [Pt.r,Pt.r,Pt.r,Pt.l,Pt.r,Pt.b] k (aCz (ss) (n) (m2) (l) (IntKind.i64.wrap (i+(1:Int)))))))))))))) (.must (decide ((0:Int)≤i)&&decide (i<(↑ss.length:Int))&&decide ((ss.getD i.toNat []).length=1)) (.must (decide (0<(ss.getD i.toNat []).length)&&C.is K.str ((ss.getD i.toNat []).getD 0 (C.fn 0 []))&&true) (.must (decide ((0:Int)≤(0:Int))&&decide ((0:Int)<(↑((ss.getD i.toNat []).getD 0 (C.fn 0 [])).toStr.length:Int))) (.ask ((↑(((ss.getD i.toNat []).getD 0 (C.fn 0 [])).toStr.getD (Int.toNat 0) (0:UInt8)).toNat:Int) != (43:Int)) (.must (aKh (List.take m2 l)) (.must ((true&&(aBo (List.take m2 l) (aB1 ((ss.getD i.toNat []).getD 0 (C.fn 0 [])).toStr)).all fun row=>decide (row.length=2))&&true&&true&&true) (.must (decide ((0:Int)≤i)&&decide (i<(↑ss.length:Int))&&decide ((ss.getD i.toNat []).length=1)) (.must (decide (0<(ss.getD i.toNat []).length)&&C.is K.str ((ss.getD i.toNat []).getD 0 (C.fn 0 []))&&true) (.must (decide ((0:Int)≤(0:Int))&&decide ((0:Int)<(↑((ss.getD i.toNat []).getD 0 (C.fn 0 [])).toStr.length:Int))) (.ask ((↑(((ss.getD i.toNat []).getD 0 (C.fn 0 [])).toStr.getD (Int.toNat 0) (0:UInt8)).toNat:Int) != (45:Int)) (.must (aKh (List.take (aBo (List.take m2 l) (aB1 ((ss.getD i.toNat []).getD 0 (C.fn 0 [])).toStr)).length (aBo (List.take m2 l) (aB1 ((ss.getD i.toNat []).getD 0 (C.fn 0 [])).toStr)))) (.must ((true&&(aG3 (List.take (aBo (List.take m2 l) (aB1 ((ss.getD i.toNat []).getD 0 (C.fn 0 [])).toStr)).length (aBo (List.take m2 l) (aB1 ((ss.getD i.toNat []).getD 0 (C.fn 0 [])).toStr))) (aPw ((ss.getD i.toNat []).getD 0 (C.fn 0 [])).toStr) (aSw ((ss.getD i.toNat []).getD 0 (C.fn 0 [])).toStr)).all fun row=>decide (row.length=2))&&true&&true&&true) (H [Pt.r,Pt.r,Pt.r,Pt.l,Pt.r,Pt.b] k (aCz (ss) (n) ((aG3 (List.take (aBo (List.take m2 l) (aB1 ((ss.getD i.toNat []).getD 0 (C.fn 0 [])).toStr)).length (aBo (List.take m2 l) (aB1 ((ss.getD i.toNat []).getD 0 (C.fn 0 [])).toStr))) (aPw ((ss.getD i.toNat []).getD 0 (C.fn 0 [])).toStr) (aSw ((ss.getD i.toNat []).getD 0 (C.fn 0 [])).toStr)).length) (aG3 (List.take (aBo (List.take m2 l) (aB1 ((ss.getD i.toNat []).getD 0 (C.fn 0 [])).toStr)).length (aBo (List.take m2 l) (aB1 ((ss.getD i.toNat []).getD 0 (C.fn 0 [])).toStr))) (aPw ((ss.getD i.toNat []).getD 0 (C.fn 0 [])).toStr) (aSw ((ss.getD i.toNat []).getD 0 (C.fn 0 [])).toStr)) (IntKind.i64.wrap (i+(1:Int))))))) (H [Pt.r,Pt.r,Pt.r,Pt.l,Pt.r,Pt.b] k (aCz (ss) (n) ((aBo (List.take m2 l) (aB1 ((ss.getD i.toNat []).getD 0 (C.fn 0 [])).toStr)).length) (aBo (List.take m2 l) (aB1 ((ss.getD i.toNat []).getD 0 (C.fn 0 [])).toStr)) (IntKind.i64.wrap (i+(1:Int))))))))))) (.must (decide ((0:Int)≤i)&&decide (i<(↑ss.length:Int))&&decide ((ss.getD i.toNat []).length=1)) (.must (decide (0<(ss.getD i.toNat []).length)&&C.is K.str ((ss.getD i.toNat []).getD 0 (C.fn 0 []))&&true) (.must (decide ((0:Int)≤(0:Int))&&decide ((0:Int)<(↑((ss.getD i.toNat []).getD 0 (C.fn 0 [])).toStr.length:Int))) (.ask ((↑(((ss.getD i.toNat []).getD 0 (C.fn 0 [])).toStr.getD (Int.toNat 0) (0:UInt8)).toNat:Int) != (45:Int)) (.must (aKh (List.take m2 l)) (.must ((true&&(aG3 (List.take m2 l) (aB1 ((ss.getD i.toNat []).getD 0 (C.fn 0 [])).toStr) (aSw ((ss.getD i.toNat []).getD 0 (C.fn 0 [])).toStr)).all fun row=>decide (row.length=2))&&true&&true&&true) (H [Pt.r,Pt.r,Pt.r,Pt.l,Pt.r,Pt.b] k (aCz (ss) (n) ((aG3 (List.take m2 l) (aB1 ((ss.getD i.toNat []).getD 0 (C.fn 0 [])).toStr) (aSw ((ss.getD i.toNat []).getD 0 (C.fn 0 [])).toStr)).length) (aG3 (List.take m2 l) (aB1 ((ss.getD i.toNat []).getD 0 (C.fn 0 [])).toStr) (aSw ((ss.getD i.toNat []).getD 0 (C.fn 0 [])).toStr)) (IntKind.i64.wrap (i+(1:Int))))))) (H [Pt.r,Pt.r,Pt.r,Pt.l,Pt.r,Pt.b] k (aCz (ss) (n) (m2) (l) (IntKind.i64.wrap (i+(1:Int))))))))))))))))))))) (.ret [C.sl [],C.bool false]))) (.ret [C.sl [],C.bool false]))))) (.must (decide (m2=l.length)&&(false||l.all fun r=>r.all C.flat)&&true&&(true&&(false||true)&&true&&true)&&true) (.ret [C.sl l,C.bool true]))):T (List C)).eval:=aAj (by kernel_rfl)
theorem bI9 (H:List Pt→Nat→St→T (List C)) (ns:List (List C)) (es:List (List C)) (os:List (List C)) (ss:List (List C)) (r:Int) (x:Int):(aAk aLb aAc (sg [aB0] [rB]) Tryz.f139 H [C.sl ns,C.sl es,C.sl os,C.sl ss,C.int .i64 r,C.int .i64 x]).eval=((.ask (decide ((64:Int)<(↑ns.length:Int))) (.ret [C.bool false]) (.ask (inB r 0 1000000000) (.ask (inB x 1 1000000000) (.must (bBy ns) (.ask (decide (r<Int.ofNat (aEv (nds ns)))) (.ret [C.bool false]) (H [Pt.r,Pt.r,Pt.l,Pt.r,Pt.b] 9223372036854775808 (aNs (ns) (es) (os) (ss) (r) (x) ((0:Int)))))) (.ret [C.bool false])) (.ret [C.bool false]))):T (List C)).eval:=aAj (by kernel_rfl)
theorem bAk (H:List Pt→Nat→St→T (List C)) (ns:List (List C)) (es:List (List C)) (os:List (List C)) (ss:List (List C)) (r:Int) (x:Int) (i:Int) (k:Nat):(aBl aLb aAc (sg [aB0] [rB]) Tryz.f139 H [Pt.r,Pt.r,Pt.l,Pt.r,Pt.b] k (aNs ns es os ss r x i)).eval=((.ask (decide (i<(↑ns.length:Int))) (.must (decide ((0:Int)≤i)&&decide (i<(↑ns.length:Int))&&decide ((ns.getD i.toNat []).length=3)) (.must (decide (0<(ns.getD i.toNat []).length)&&C.is (K.int .i64) ((ns.getD i.toNat []).getD 0 (C.fn 0 []))&&(decide (0+1<(ns.getD i.toNat []).length)&&C.is K.str ((ns.getD i.toNat []).getD (0+1) (C.fn 0 []))&&(decide (0+1+1<(ns.getD i.toNat []).length)&&C.is (K.int .i64) ((ns.getD i.toNat []).getD (0+1+1) (C.fn 0 []))&&true))) (.ask (inB ((ns.getD i.toNat []).getD 0 (C.fn 0 [])).toInt 1 (IntKind.i64.wrap (x-(1:Int)))) (.ask (decide ((0:Int)<i)) (.must (decide ((0:Int)≤IntKind.i64.wrap (i-(1:Int)))&&decide (IntKind.i64.wrap (i-(1:Int))<(↑ns.length:Int))&&decide ((ns.getD (IntKind.i64.wrap (i-(1:Int))).toNat []).length=3)) (.must (decide (0+0<(ns.getD (IntKind.i64.wrap (i-(1:Int))).toNat []).length)&&C.is (K.int .i64) ((ns.getD (IntKind.i64.wrap (i-(1:Int))).toNat []).getD (0+0) (C.fn 0 []))&&true) (.ask (decide (((ns.getD i.toNat []).getD 0 (C.fn 0 [])).toInt≤((ns.getD (IntKind.i64.wrap (i-(1:Int))).toNat []).getD (0+0) (C.fn 0 [])).toInt)) (.ret [C.bool false]) (.ask (inB ((ns.getD i.toNat []).getD (0+1+1) (C.fn 0 [])).toInt 0 (↑((ns.getD i.toNat []).getD (0+1) (C.fn 0 [])).toStr.length:Int)) (H [Pt.r,Pt.r,Pt.l,Pt.r,Pt.b] k (aNs (ns) (es) (os) (ss) (r) (x) (IntKind.i64.wrap (i+(1:Int))))) (.ret [C.bool false]))))) (.ask (inB ((ns.getD i.toNat []).getD (0+1+1) (C.fn 0 [])).toInt 0 (↑((ns.getD i.toNat []).getD (0+1) (C.fn 0 [])).toStr.length:Int)) (H [Pt.r,Pt.r,Pt.l,Pt.r,Pt.b] k (aNs (ns) (es) (os) (ss) (r) (x) (IntKind.i64.wrap (i+(1:Int))))) (.ret [C.bool false]))) (.ret [C.bool false])))) (H [Pt.r,Pt.r,Pt.r,Pt.l,Pt.r,Pt.b] 9223372036854775808 (aL7 (ns) (es) (os) (ss) (r) (x) ((0:Int))))):T (List C)).eval:=aAj (by kernel_rfl)
theorem aXe (H:List Pt→Nat→St→T (List C)) (ns:List (List C)) (es:List (List C)) (os:List (List C)) (ss:List (List C)) (r:Int) (x:Int) (i:Int) (k:Nat):(aBl aLb aAc (sg [aB0] [rB]) Tryz.f139 H [Pt.r,Pt.r,Pt.r,Pt.l,Pt.r,Pt.b] k (aL7 ns es os ss r x i)).eval=((.ask (decide (i≤(↑ss.length:Int))) (.must (stB os ss) (.must ((true&&(sdR os ss i).all fun row=>decide (row.length=2))&&true&&(decide (0<1)&&true&&true&&true)&&true) (.ask (cB2 (ens os) (aCp ss) i) (.must (bBy ns&&aKh (List.take (sdR os ss i).length (sdR os ss i))) (.ask (aKx (nds ns) (ens (List.take (sdR os ss i).length (sdR os ss i)))) (.ask (decide (i=(↑ss.length:Int))) (.must (aKh (List.take (sdR os ss i).length (sdR os ss i))&&aKh es) (.ask (decide (ens (List.take (sdR os ss i).length (sdR os ss i))=ens es)) (H [Pt.r,Pt.r,Pt.r,Pt.l,Pt.r,Pt.b] k (aL7 (ns) (es) (os) (ss) (r) (x) (IntKind.i64.wrap (i+(1:Int))))) (.ret [C.bool false]))) (H [Pt.r,Pt.r,Pt.r,Pt.l,Pt.r,Pt.b] k (aL7 (ns) (es) (os) (ss) (r) (x) (IntKind.i64.wrap (i+(1:Int)))))) (.ret [C.bool false]))) (.ret [C.bool false])))) (.ret [C.bool true])):T (List C)).eval:=aAj (by kernel_rfl)
theorem bMo (H:List Pt→Nat→St→T (List C)) (ns:List (List C)) (es:List (List C)) (os:List (List C)) (ss:List (List C)) (r:Int) (x:Int):(aAk aCo aAc (sg [aE0] [aDz]) Tryz.f141 H [C.sl ns,C.sl es,C.sl os,C.sl ss,C.int .i64 r,C.int .i64 x]).eval=((.must (decide (0<1)&&true&&((true&&es.all fun row=>decide (row.length=2))&&((true&&os.all fun row=>decide (row.length=2))&&((true&&ss.all fun row=>decide (row.length=1))&&(decide (0<1)&&true&&(decide (0<1)&&true&&true)))))&&true) (H [Pt.r,Pt.r,Pt.l,Pt.r,Pt.b] 9223372036854775808 (aFe (ns) (es) (os) (ss) (r) (x) (0) ([]) ((0:Int))))):T (List C)).eval:=aAj (by kernel_rfl)
theorem bEc (H:List Pt→Nat→St→T (List C)) (ns:List (List C)) (es:List (List C)) (os:List (List C)) (ss:List (List C)) (r:Int) (x:Int) (n:Nat) (o:List (List C)) (i:Int) (k:Nat):(aBl aCo aAc (sg [aE0] [aDz]) Tryz.f141 H [Pt.r,Pt.r,Pt.l,Pt.r,Pt.b] k (aFe ns es os ss r x n o i)).eval=((.ask (decide (i<(↑ns.length:Int))) (H [Pt.r,Pt.r,Pt.l,Pt.r,Pt.b,Pt.lp k,Pt.r,Pt.l,Pt.b,Pt.r,Pt.l,Pt.r,Pt.b] 9223372036854775808 (aNu (ns) (es) (os) (ss) (r) (x) (n) (o) (i) ((0:Int)))) (.must (decide (n=o.length)&&(false||o.all fun r=>r.all C.flat)&&(decide (es.length≤es.length)&&(decide (os.length≤os.length)&&(decide (ss.length≤ss.length)&&(true&&(false||true)&&(true&&(false||true)&&true)))))&&true&&((false||es.all fun r=>r.all C.flat)&&((false||os.all fun r=>r.all C.flat)&&((false||ss.all fun r=>r.all C.flat)&&true))&&true)) (.ret [C.sl o,C.sl (List.take es.length es),C.sl (List.take os.length os),C.sl (List.take ss.length ss),C.int .i64 r,C.int .i64 x,C.sl es,C.sl os,C.sl ss]))):T (List C)).eval:=aAj (by kernel_rfl)
theorem bAp (H:List Pt→Nat→St→T (List C)) (ns:List (List C)) (es:List (List C)) (os:List (List C)) (ss:List (List C)) (r:Int) (x:Int) (n:Nat) (o:List (List C)) (i:Int) (j:Int) (m:Nat) (k:Nat):(aBl aCo aAc (sg [aE0] [aDz]) Tryz.f141 H [Pt.r,Pt.r,Pt.l,Pt.r,Pt.b,Pt.lp m,Pt.r,Pt.l,Pt.b,Pt.r,Pt.l,Pt.r,Pt.b] k (aNu ns es os ss r x n o i j)).eval=((.ask (decide (j≤(↑ss.length:Int))) (.must (stB (List.take os.length os) (List.take ss.length ss)) (.must ((true&&(sdR (List.take os.length os) (List.take ss.length ss) j).all fun row=>decide (row.length=2))&&true&&(decide (0<1)&&true&&true&&true)&&true) (.ask (cB2 (ens (List.take os.length os)) (aCp (List.take ss.length ss)) j) (H [Pt.r,Pt.r,Pt.l,Pt.r,Pt.b,Pt.lp m,Pt.r,Pt.l,Pt.b,Pt.r,Pt.l,Pt.r,Pt.b,Pt.lp k,Pt.r,Pt.l,Pt.b,Pt.r,Pt.r,Pt.b] 9223372036854775808 (aL8 (ns) (es) (os) (ss) (r) (x) (n) (o) (i) (j) ((sdR (List.take os.length os) (List.take ss.length ss) j).length) (sdR (List.take os.length os) (List.take ss.length ss) j) ((0:Int)))) (H [Pt.r,Pt.r,Pt.l,Pt.r,Pt.b,Pt.lp m,Pt.r,Pt.l,Pt.b,Pt.r,Pt.l,Pt.r,Pt.b,Pt.lp k,Pt.r,Pt.l,Pt.b,Pt.r,Pt.r,Pt.b] 9223372036854775808 (aL8 (ns) (es) (os) (ss) (r) (x) (n) (o) (i) (j) ((sdR (List.take os.length os) (List.take ss.length ss) j).length) (sdR (List.take os.length os) (List.take ss.length ss) j) ((0:Int))))))) (H [Pt.r,Pt.r,Pt.l,Pt.r,Pt.b] m (aFe (ns) (es) (os) (ss) (r) (x) (n) (o) (IntKind.i64.wrap (i+(1:Int)))))):T (List C)).eval:=aAj (by kernel_rfl)
theorem bAo (H:List Pt→Nat→St→T (List C)) (ns:List (List C)) (es:List (List C)) (os:List (List C)) (ss:List (List C)) (r:Int) (x:Int) (n:Nat) (o:List (List C)) (i:Int) (j:Int) (m:Nat) (k:Nat):(aBl aCo aAc (sg [aE0] [aDz]) Tryz.f141 H [Pt.r,Pt.r,Pt.l,Pt.r,Pt.b,Pt.lp m,Pt.r,Pt.l,Pt.b,Pt.r,Pt.l,Pt.r,Pt.b] k (aNt ns es os ss r x n o i j)).eval=((.ask (decide (j≤(↑ss.length:Int))) (.must (decide ((0:Int)≤i)&&decide (i<(↑ns.length:Int))&&decide ((ns.getD i.toNat []).length=3)) (.must (decide (0<(ns.getD i.toNat []).length)&&C.is (K.int .i64) ((ns.getD i.toNat []).getD 0 (C.fn 0 []))&&(decide (0+1<(ns.getD i.toNat []).length)&&C.is K.str ((ns.getD i.toNat []).getD (0+1) (C.fn 0 []))&&(decide (0+1+1<(ns.getD i.toNat []).length)&&C.is (K.int .i64) ((ns.getD i.toNat []).getD (0+1+1) (C.fn 0 []))&&true))) (.must (decide (n=o.length)&&aBj (o.length+1) 32&&(decide (((Nat.add 1 0).succ.add 0).succ=3)&&true)) (H [Pt.r,Pt.r,Pt.l,Pt.r,Pt.b] m (aFe (ns) (es) (os) (ss) (r) (x) (o.length+1) (o.append [[C.int .i64 ((ns.getD i.toNat []).getD 0 (C.fn 0 [])).toInt,C.str ((ns.getD i.toNat []).getD (0+1) (C.fn 0 [])).toStr,C.int .i64 ((ns.getD i.toNat []).getD (0+1+1) (C.fn 0 [])).toInt]]) (IntKind.i64.wrap (i+(1:Int)))))))) (.must (decide ((0:Int)≤i)&&decide (i<(↑ns.length:Int))&&decide ((ns.getD i.toNat []).length=3)) (.must (decide (0<(ns.getD i.toNat []).length)&&C.is (K.int .i64) ((ns.getD i.toNat []).getD 0 (C.fn 0 []))&&(decide (0+1<(ns.getD i.toNat []).length)&&C.is K.str ((ns.getD i.toNat []).getD (0+1) (C.fn 0 []))&&(decide (0+1+1<(ns.getD i.toNat []).length)&&C.is (K.int .i64) ((ns.getD i.toNat []).getD (0+1+1) (C.fn 0 []))&&true))) (.must (decide (n=o.length)&&aBj (o.length+1) 32&&(decide (((Nat.add 1 0).succ.add 0).succ=3)&&true)) (H [Pt.r,Pt.r,Pt.l,Pt.r,Pt.b] m (aFe (ns) (es) (os) (ss) (r) (x) (o.length+1) (o.append [[C.int .i64 ((ns.getD i.toNat []).getD 0 (C.fn 0 [])).toInt,C.str ((ns.getD i.toNat []).getD (0+1) (C.fn 0 [])).toStr,C.int .i64 ((ns.getD i.toNat []).getD (0+1+1) (C.fn 0 [])).toInt]]) (IntKind.i64.wrap (i+(1:Int))))))))):T (List C)).eval:=aAj (by kernel_rfl)
theorem bAn (H:List Pt→Nat→St→T (List C)) (ns:List (List C)) (es:List (List C)) (os:List (List C)) (ss:List (List C)) (r:Int) (x:Int) (n:Nat) (o:List (List C)) (i:Int) (j:Int) (q:Nat) (l:List (List C)) (y:Int) (m:Nat) (m2:Nat) (k:Nat):(aBl aCo aAc (sg [aE0] [aDz]) Tryz.f141 H [Pt.r,Pt.r,Pt.l,Pt.r,Pt.b,Pt.lp m,Pt.r,Pt.l,Pt.b,Pt.r,Pt.l,Pt.r,Pt.b,Pt.lp m2,Pt.r,Pt.l,Pt.b,Pt.r,Pt.r,Pt.b] k (aL8 ns es os ss r x n o i j q l y)).eval=((.ask (decide (y<(↑q:Int))) (.must (decide ((0:Int)≤y)&&decide (y<(↑q:Int))) (.must (decide (0+y.toNat<l.length)&&(decide (0+1<(l.getD (0+y.toNat) []).length)&&C.is (K.int .i64) ((l.getD (0+y.toNat) []).getD (0+1) (C.fn 0 []))&&true)) (.must (decide ((0:Int)≤i)&&decide (i<(↑ns.length:Int))&&decide ((ns.getD i.toNat []).length=3)) (.must (decide (0+0<(ns.getD i.toNat []).length)&&C.is (K.int .i64) ((ns.getD i.toNat []).getD (0+0) (C.fn 0 []))&&true) (.ask (decide (((l.getD (0+y.toNat) []).getD (0+1) (C.fn 0 [])).toInt=((ns.getD i.toNat []).getD (0+0) (C.fn 0 [])).toInt)) (H [Pt.r,Pt.r,Pt.l,Pt.r,Pt.b,Pt.lp m,Pt.r,Pt.l,Pt.b,Pt.r,Pt.l,Pt.r,Pt.b,Pt.lp m2,Pt.r,Pt.l,Pt.b,Pt.r,Pt.r,Pt.b] k (aSh (ns) (es) (os) (ss) (r) (x) (n) (o) (i) (j) (q) (l) (IntKind.i64.wrap (y+(1:Int))))) (H [Pt.r,Pt.r,Pt.l,Pt.r,Pt.b,Pt.lp m,Pt.r,Pt.l,Pt.b,Pt.r,Pt.l,Pt.r,Pt.b,Pt.lp m2,Pt.r,Pt.l,Pt.b,Pt.r,Pt.r,Pt.b] k (aL8 (ns) (es) (os) (ss) (r) (x) (n) (o) (i) (j) (q) (l) (IntKind.i64.wrap (y+(1:Int)))))))))) (H [Pt.r,Pt.r,Pt.l,Pt.r,Pt.b,Pt.lp m,Pt.r,Pt.l,Pt.b,Pt.r,Pt.l,Pt.r,Pt.b] m2 (aNu (ns) (es) (os) (ss) (r) (x) (n) (o) (i) (IntKind.i64.wrap (j+(1:Int)))))):T (List C)).eval:=aAj (by kernel_rfl)
theorem bAm (H:List Pt→Nat→St→T (List C)) (ns:List (List C)) (es:List (List C)) (os:List (List C)) (ss:List (List C)) (r:Int) (x:Int) (n:Nat) (o:List (List C)) (i:Int) (j:Int) (q:Nat) (l:List (List C)) (y:Int) (m:Nat) (m2:Nat) (k:Nat):(aBl aCo aAc (sg [aE0] [aDz]) Tryz.f141 H [Pt.r,Pt.r,Pt.l,Pt.r,Pt.b,Pt.lp m,Pt.r,Pt.l,Pt.b,Pt.r,Pt.l,Pt.r,Pt.b,Pt.lp m2,Pt.r,Pt.l,Pt.b,Pt.r,Pt.r,Pt.b] k (aSh ns es os ss r x n o i j q l y)).eval=((.ask (decide (y<(↑q:Int))) (H [Pt.r,Pt.r,Pt.l,Pt.r,Pt.b,Pt.lp m,Pt.r,Pt.l,Pt.b,Pt.r,Pt.l,Pt.r,Pt.b,Pt.lp m2,Pt.r,Pt.l,Pt.b,Pt.r,Pt.r,Pt.b] k (aSh (ns) (es) (os) (ss) (r) (x) (n) (o) (i) (j) (q) (l) (IntKind.i64.wrap (y+(1:Int))))) (H [Pt.r,Pt.r,Pt.l,Pt.r,Pt.b,Pt.lp m,Pt.r,Pt.l,Pt.b,Pt.r,Pt.l,Pt.r,Pt.b] m2 (aNt (ns) (es) (os) (ss) (r) (x) (n) (o) (i) (IntKind.i64.wrap (j+(1:Int)))))):T (List C)).eval:=aAj (by kernel_rfl)
end Go.Proofs.YtajoeindkdhofaaGreatDoor.V
