/- Functions of the given program and of its reference: what each returns, as an equation over data; by the interpreter. -/
import Derived.Test.YtfljomghcbaepaaGreatDoorS
import Derived.Test.YtfljomghcbaepaaGreatDoorProg
import Derived.KernelRfl
import Derived.Lib.Builder
import Derived.Lib.AppendStr
import Derived.Lib.UnsafeStr
import Derived.Lib.Walk
import Derived.WalkKit
import Derived.RegionTactic
import Derived.Lib.Strings
import Derived.Lib.BufferWrite
import Derived.Laws.MakeOwn
set_option linter.unusedVariables false
set_option linter.unusedSimpArgs false
set_option linter.unusedSectionVars false
set_option linter.deprecated false
namespace Go.Proofs.YtfljomghcbaepaaGreatDoor.V
theorem bUm:aA6 Tryz.prog bNc:=aA5 (by simp[])
theorem bEt:aAm Tryz.prog 69 (sg [aN8,pI] [rI]) aQ6:=aA3 bUm aA7 Tryz.func69 (by kernel_rfl) fun cs outs hk h=>by
 unfold aQ6 at h
 split at h
 ·simp only[Option.some.injEq,Prod.mk.injEq,Bool.and_eq_true,decide_eq_true_eq]at h
  obtain⟨⟨⟨h1,h2⟩,h3⟩,rfl⟩:=h
  rename_i i1 t1 s1 left
  rw[aA9,bJ1]
  have w:IntKind.i64.wrap (left-(t1.length:Int))=left-t1.length:=by rw[aAh]<;>omega
  simp only[aA2,aA0,aA1,decide_eq_true_eq,w,aSa]
  split<;>rfl
 ·cases h
theorem bEv (l:List Nd) (hl:l.length≤281474976710656) (ht:∀ x∈l,x.text.length≤281474976710656):∀ (n i:Nat) (left:Int),i≤l.length→l.length<i+n→0≤left→left≤1048576 →
  (aBl aPp aAb (sg [pSl 92,pI] [rI]) Tryz.f25 [.r,.r,.r,.l,.r,.b] n (aPj (l.map eNd) left i)).eval=some [.int .i64 (aF3 ((l.drop i).map fun x=>x.text.length) left)]:=by
 intro n
 induction n with
 |zero=>intro i left h1 h2;omega
 |succ n ih =>
  intro i left h1 h2 h3 h4
  rw[aAo _ _ _ _ _ _ _ (by kernel_rfl),aXn]
  by_cases hi:i<l.length
  ·have g:=aB1 eNd l ⟨0,[],0⟩ i hi
   have hd:l.drop i=l.getD i ⟨0,[],0⟩::l.drop (i+1):=by rw[List.drop_eq_getElem_cons hi];simp[List.getD_eq_getElem?_getD,hi]
   have hm:l.getD i ⟨0,[],0⟩∈l:=by rw[List.getD_eq_getElem?_getD,List.getElem?_eq_getElem hi];exact List.getElem_mem hi
   have hx:=ht _ hm
   have w:IntKind.i64.wrap ((i:Int)+1)=((i+1:Nat):Int):=by rw[aAh]<;>omega
   have hz:(0:Int)≤i:=by omega
   have hi':(i:Int)<l.length:=by omega
   rw[hd,List.map_cons]
   generalize l.getD i ⟨0,[],0⟩=y at g hx ⊢
   simp only[aA0,aA2,aA1,if_true,decide_eq_true_eq,Bool.and_eq_true,w,hz,hi',Int.toNat_natCast,List.length_map,g,and_self,List.getD_cons_zero,List.getD_cons_succ,C.toStr,C.toInt,C.is,List.length_cons,List.length_nil,Nat.zero_add,Nat.reduceAdd,Nat.reduceLT,decide_true,beq_self_eq_true,aF3,h3,h4,hx]
   by_cases hn:left-(y.text.length:Int)<0
   ·have hs:aSa y.text.length left= -1:=if_pos hn
    simp[hs,hn]
   ·have hs:aSa y.text.length left=left-y.text.length:=if_neg hn
    simp only[hs,hn,if_false]
    exact ih (i+1) _ (by omega) (by omega) (by omega) (by omega)
  ·have e:i=l.length:=by omega
   subst e
   have hi':¬((l.length:Int)<(l.length:Int)):=by omega
   simp only[aA2,aA1,decide_eq_true_eq,List.length_map,hi',if_false,List.drop_length,List.map_nil,aF3]
theorem bQy:aA6 Tryz.prog aPp:=aA5 (by simp[bEt])
theorem bAu:aAm Tryz.prog 25 (sg [pSl 92,pI] [rI]) aNv:=aA3 bQy aA7 Tryz.func25 (by kernel_rfl) fun cs outs hk h=>by
 unfold aNv at h
 split at h
 ·simp only[Option.some.injEq,Prod.mk.injEq,Bool.and_eq_true,decide_eq_true_eq]at h
  obtain⟨⟨⟨h1,h2⟩,h3,h4,h5⟩,rfl⟩:=h
  rename_i rows left
  have hr:=aGs h4
  generalize nds rows=l at hr ⊢
  subst hr
  rw[List.length_map]at h3
  rw[aA9,bEu]
  have w:IntKind.i64.wrap (left-(l.length:Int))=left-l.length:=by rw[aAh]<;>omega
  simp only[aA2,aA1,decide_eq_true_eq,List.length_map,w,aBj]
  split
  ·rfl
  ·exact bEv l h3 ((bQs l).1 h5) _ 0 _ (by omega) (by omega) (by omega) (by omega)
 ·cases h
theorem bUk:aA6 Tryz.prog bNa:=aA5 (by simp[])
theorem bEm:aAm Tryz.prog 71 (sg [aN8] [bBv]) aQ3:=aA3 bUk aA7 Tryz.func71 (by kernel_rfl) fun cs outs hk h=>by
 unfold aQ3 at h
 split at h
 ·simp only[Option.some.injEq,Prod.mk.injEq,true_and]at h
  subst h
  rw[aA9,bIt]
  rfl
 ·cases h
theorem bEo (l:List Nd) (hl:l.length≤1048576):∀ (n i:Nat),i≤l.length→l.length<i+n →
  (aBl aPo aAb (sg [pSl 92] [rSl 70]) Tryz.f28 [.r,.r,.l,.r,.b] n (aPi (l.map eNd) l.length ((l.take i++List.replicate (l.length-i) (⟨0,[],0⟩:Nd)).map eNd) i)).eval=some [.sl (l.map eNd)]:=by
 intro n
 induction n with
 |zero=>intro i h1 h2;omega
 |succ n ih =>
  intro i h1 h2
  rw[aAo _ _ _ _ _ _ _ (by kernel_rfl),aXh]
  by_cases hi:i<l.length
  ·have e:=ih (i+1) (by omega) (by omega)
   rw[←bE0 l ⟨0,[],0⟩ ⟨0,[],0⟩ i hi,List.map_set]at e
   have w:IntKind.i64.wrap ((i:Int)+1)=((i+1:Nat):Int):=by rw[aAh]<;>omega
   have hz:(0:Int)≤i:=by omega
   have hi':(i:Int)<l.length:=by omega
   have g:=aB1 eNd l ⟨0,[],0⟩ i hi
   have hlen:(l.take i++List.replicate (l.length-i) (⟨0,[],0⟩:Nd)).length=l.length:=by simp;omega
   have g2:=aB1 eNd (l.take i++List.replicate (l.length-i) (⟨0,[],0⟩:Nd)) (⟨0,[],0⟩:Nd) i (by omega)
   simp only[aA0,aA2,aA1,if_true,decide_eq_true_eq,Bool.and_eq_true,w,hz,hi',Int.toNat_natCast,List.length_map,Nat.zero_add,g,g2,hlen,hi,and_self,List.getD_cons_zero,List.getD_cons_succ,C.toStr,C.toInt,C.is,List.length_cons,List.length_nil,Nat.reduceAdd,Nat.reduceLT,decide_true,beq_self_eq_true,List.drop_succ_cons,List.drop_nil,List.drop_zero]
   exact e
  ·have:i=l.length:=by omega
   subst this
   have f:=bMu l
   simp[aA0,aA2,aA1,C.flat]
theorem bQp:aA6 Tryz.prog aPo:=aA5 (by simp[bEm])
theorem bAq:aAm Tryz.prog 28 (sg [pSl 92] [rSl 70]) aNt:=aA3 bQp aA7 Tryz.func28 (by kernel_rfl) fun cs outs hk h=>by
 unfold aNt at h
 split at h
 ·simp only[Option.some.injEq,Prod.mk.injEq,Bool.and_eq_true,decide_eq_true_eq]at h
  obtain⟨⟨h1,h2⟩,rfl⟩:=h
  rename_i rows
  have hr:=aGs h2
  generalize nds rows=l at hr
  subst hr
  rw[List.length_map]at h1
  rw[aA9,bEn]
  have c2:(0:Int)≤l.length:=by omega
  have:=bEo l h1 9223372036854775808 0 (by omega) (by omega)
  simp only[List.take_zero,List.nil_append,Nat.sub_zero,List.map_replicate]at this
  simp only[aA0,if_true,decide_eq_true_eq,Bool.and_eq_true,List.length_map,Int.toNat_natCast,c2,Int.le_refl,and_self,true_and]
  rw[if_pos (by omega)]
  exact this
 ·cases h
theorem bWd:aA6 Tryz.prog bNt:=aA5 (by simp[])
theorem bHp:aAm Tryz.prog 73 (sg [aN8,aN8] [rB]) aR4:=aA3 bWd aA7 Tryz.func73 (by kernel_rfl) fun cs outs hk h=>by
 unfold aR4 at h
 split at h
 ·simp only[Option.some.injEq,Prod.mk.injEq,true_and]at h
  subst h
  rw[aA9,bLp]
  simp only[aA2,aA0,aA1,bne_iff_ne,ne_eq,Bool.not_eq_true',beq_eq_false_iff_ne,cAa,Nd.mk.injEq]
  repeat' split
  all_goals first | rfl | (simp_all;done)
 ·cases h
theorem bHr (x y:List Nd) (hx:x.length≤1048576) (hl:x.length=y.length):∀ (n i:Nat),i≤x.length→x.length<i+n→x.take i=y.take i →
  (aBl aPy aAb (sg [pSl 70,pSl 70] [rB]) Tryz.f31 [.r,.r,.l,.r,.b] n (aPn (x.map eNd) (y.map eNd) i)).eval=some [.bool (decide (x=y))]:=by
 intro n
 induction n with
 |zero=>intro i h1 h2;omega
 |succ n ih =>
  intro i h1 h2 h3
  rw[aAo _ _ _ _ _ _ _ (by kernel_rfl),aZ1]
  by_cases hi:i<x.length
  ·have hi2:i<y.length:=by omega
   have w:IntKind.i64.wrap ((i:Int)+1)=((i+1:Nat):Int):=by rw[aAh]<;>omega
   have hz:(0:Int)≤i:=by omega
   have g:=aB1 eNd x ⟨0,[],0⟩ i hi
   have g2:=aB1 eNd y ⟨0,[],0⟩ i hi2
   simp only[aA0,aA2,aA1,if_true,decide_eq_true_eq,Bool.and_eq_true,w,hz,Int.toNat_natCast,Int.ofNat_lt,List.length_map,g,g2,hi,hi2,and_self,List.getD_cons_zero,List.getD_cons_succ,C.toStr,C.toInt,C.is,List.length_cons,List.length_nil,Nat.zero_add,Nat.reduceAdd,Nat.reduceLT,decide_true,beq_self_eq_true]
   by_cases hxy:x.getD i ⟨0,[],0⟩=y.getD i ⟨0,[],0⟩
   ·have e:=ih (i+1) (by omega) (by omega) (aHs ⟨0,[],0⟩ hi hi2 h3 hxy)
    have he:cAa (x.getD i ⟨0,[],0⟩).id (x.getD i ⟨0,[],0⟩).text (x.getD i ⟨0,[],0⟩).sure (y.getD i ⟨0,[],0⟩).id (y.getD i ⟨0,[],0⟩).text (y.getD i ⟨0,[],0⟩).sure=true:=decide_eq_true hxy
    simp only[he,if_true]
    exact e
   ·have:x≠y:=fun h=>hxy (by rw[h])
    have hne:cAa (x.getD i ⟨0,[],0⟩).id (x.getD i ⟨0,[],0⟩).text (x.getD i ⟨0,[],0⟩).sure (y.getD i ⟨0,[],0⟩).id (y.getD i ⟨0,[],0⟩).text (y.getD i ⟨0,[],0⟩).sure=false:=decide_eq_false hxy
    simp only[hne,decide_false,Bool.false_eq_true,if_false,this]
  ·have e1:i=x.length:=by omega
   have:x=y:=by
    rw[e1,List.take_length,hl,List.take_length]at h3
    exact h3
   have e2:decide (x=y)=true:=by simp[this]
   simp only[aA0,aA2,aA1,decide_eq_true_eq,List.length_map,Int.ofNat_lt,hi,if_false,if_true,e2]
theorem bTc:aA6 Tryz.prog aPy:=aA5 (by simp[bHp])
theorem bDq:aAm Tryz.prog 31 (sg [pSl 70,pSl 70] [rB]) aO7:=aA3 bTc aA7 Tryz.func31 (by kernel_rfl) fun cs outs hk h=>by
 unfold aO7 at h
 split at h
 ·simp only[Option.some.injEq,Prod.mk.injEq,Bool.and_eq_true,decide_eq_true_eq]at h
  obtain⟨⟨h1,h2,h3⟩,rfl⟩:=h
  rename_i x y
  have hx:=aGs h2
  have hy:=aGs h3
  generalize nds x=l at hx ⊢
  generalize nds y=m at hy ⊢
  subst hx;subst hy
  rw[List.length_map]at h1
  rw[aA9,bHq]
  simp only[aA0,aA2,aA1,if_true,bne_iff_ne,ne_eq,List.length_map,Int.ofNat_inj]
  by_cases hl:l.length=m.length
  ·simp only[hl,not_true_eq_false,if_false]
   exact bHr l m h1 hl _ 0 (by omega) (by omega) rfl
  ·have:l≠m:=fun h=>hl (by rw[h])
   simp[hl,this]
 ·cases h
theorem bQz:aA6 Tryz.prog bI3:=aA5 (by simp[])
theorem bAv:aAm Tryz.prog 70 (sg [aGp,pI] [rI]) aNw:=aA3 bQz aA7 Tryz.func70 (by kernel_rfl) fun cs outs hk h=>by
 unfold aNw at h
 split at h
 ·simp only[Option.some.injEq,Prod.mk.injEq,Bool.and_eq_true,decide_eq_true_eq]at h
  obtain⟨⟨⟨h1,h2⟩,h3⟩,rfl⟩:=h
  rename_i t1 i1 left
  rw[aA9,bEw]
  have w:IntKind.i64.wrap (left-(t1.length:Int))=left-t1.length:=by rw[aAh]<;>omega
  simp only[aA2,aA0,aA1,decide_eq_true_eq,w,aSa]
  split<;>rfl
 ·cases h
theorem bAx (l:List En) (hl:l.length≤281474976710656) (ht:∀ x∈l,x.name.length≤281474976710656):∀ (n i:Nat) (left:Int),i≤l.length→l.length<i+n→0≤left→left≤1048576 →
  (aBl aMq aAb (sg [pSl 95,pI] [rI]) Tryz.f26 [.r,.r,.r,.l,.r,.b] n (aMc (l.map eEn) left i)).eval=some [.int .i64 (aF3 ((l.drop i).map fun x=>x.name.length) left)]:=by
 intro n
 induction n with
 |zero=>intro i left h1 h2;omega
 |succ n ih =>
  intro i left h1 h2 h3 h4
  rw[aAo _ _ _ _ _ _ _ (by kernel_rfl),aU6]
  by_cases hi:i<l.length
  ·have g:=aB1 eEn l ⟨[],0⟩ i hi
   have hd:l.drop i=l.getD i ⟨[],0⟩::l.drop (i+1):=by rw[List.drop_eq_getElem_cons hi];simp[List.getD_eq_getElem?_getD,hi]
   have hm:l.getD i ⟨[],0⟩∈l:=by rw[List.getD_eq_getElem?_getD,List.getElem?_eq_getElem hi];exact List.getElem_mem hi
   have hx:=ht _ hm
   have w:IntKind.i64.wrap ((i:Int)+1)=((i+1:Nat):Int):=by rw[aAh]<;>omega
   have hz:(0:Int)≤i:=by omega
   have hi':(i:Int)<l.length:=by omega
   rw[hd,List.map_cons]
   generalize l.getD i ⟨[],0⟩=y at g hx ⊢
   simp only[aA0,aA2,aA1,if_true,decide_eq_true_eq,Bool.and_eq_true,w,hz,hi',Int.toNat_natCast,List.length_map,g,and_self,List.getD_cons_zero,List.getD_cons_succ,C.toStr,C.toInt,C.is,List.length_cons,List.length_nil,Nat.zero_add,Nat.reduceAdd,Nat.reduceLT,decide_true,beq_self_eq_true,aF3,h3,h4,hx]
   by_cases hn:left-(y.name.length:Int)<0
   ·have hs:aSa y.name.length left= -1:=if_pos hn
    simp[hs,hn]
   ·have hs:aSa y.name.length left=left-y.name.length:=if_neg hn
    simp only[hs,hn,if_false]
    exact ih (i+1) _ (by omega) (by omega) (by omega) (by omega)
  ·have e:i=l.length:=by omega
   subst e
   have hi':¬((l.length:Int)<(l.length:Int)):=by omega
   simp only[aA2,aA1,decide_eq_true_eq,List.length_map,hi',if_false,List.drop_length,List.map_nil,aF3]
theorem bOa:aA6 Tryz.prog aMq:=aA5 (by simp[bAv])
theorem aXo:aAm Tryz.prog 26 (sg [pSl 95,pI] [rI]) aKq:=aA3 bOa aA7 Tryz.func26 (by kernel_rfl) fun cs outs hk h=>by
 unfold aKq at h
 split at h
 ·simp only[Option.some.injEq,Prod.mk.injEq,Bool.and_eq_true,decide_eq_true_eq]at h
  obtain⟨⟨⟨h1,h2⟩,h3,h4,h5⟩,rfl⟩:=h
  rename_i rows left
  have hr:=aF7 h4
  generalize ens rows=l at hr ⊢
  subst hr
  rw[List.length_map]at h3
  rw[aA9,bAw]
  have w:IntKind.i64.wrap (left-(l.length:Int))=left-l.length:=by rw[aAh]<;>omega
  simp only[aA2,aA1,decide_eq_true_eq,List.length_map,w,aBj]
  split
  ·rfl
  ·exact bAx l h3 ((bQt l).1 h5) _ 0 _ (by omega) (by omega) (by omega) (by omega)
 ·cases h
theorem bQr:aA6 Tryz.prog bI2:=aA5 (by simp[])
theorem bAr:aAm Tryz.prog 72 (sg [aGp] [bRn]) aNu:=aA3 bQr aA7 Tryz.func72 (by kernel_rfl) fun cs outs hk h=>by
 unfold aNu at h
 split at h
 ·simp only[Option.some.injEq,Prod.mk.injEq,true_and]at h
  subst h
  rw[aA9,bEp]
  rfl
 ·cases h
theorem bAt (l:List En) (hl:l.length≤1048576):∀ (n i:Nat),i≤l.length→l.length<i+n →
  (aBl aMp aAb (sg [pSl 95] [rSl 97]) Tryz.f29 [.r,.r,.l,.r,.b] n (aMb (l.map eEn) l.length ((l.take i++List.replicate (l.length-i) (⟨[],0⟩:En)).map eEn) i)).eval=some [.sl (l.map eEn)]:=by
 intro n
 induction n with
 |zero=>intro i h1 h2;omega
 |succ n ih =>
  intro i h1 h2
  rw[aAo _ _ _ _ _ _ _ (by kernel_rfl),aU2]
  by_cases hi:i<l.length
  ·have e:=ih (i+1) (by omega) (by omega)
   rw[←bE0 l ⟨[],0⟩ ⟨[],0⟩ i hi,List.map_set]at e
   have w:IntKind.i64.wrap ((i:Int)+1)=((i+1:Nat):Int):=by rw[aAh]<;>omega
   have hz:(0:Int)≤i:=by omega
   have hi':(i:Int)<l.length:=by omega
   have g:=aB1 eEn l ⟨[],0⟩ i hi
   have hlen:(l.take i++List.replicate (l.length-i) (⟨[],0⟩:En)).length=l.length:=by simp;omega
   have g2:=aB1 eEn (l.take i++List.replicate (l.length-i) (⟨[],0⟩:En)) (⟨[],0⟩:En) i (by omega)
   simp only[aA0,aA2,aA1,if_true,decide_eq_true_eq,Bool.and_eq_true,w,hz,hi',Int.toNat_natCast,List.length_map,Nat.zero_add,g,g2,hlen,hi,and_self,List.getD_cons_zero,List.getD_cons_succ,C.toStr,C.toInt,C.is,List.length_cons,List.length_nil,Nat.reduceAdd,Nat.reduceLT,decide_true,beq_self_eq_true,List.drop_succ_cons,List.drop_nil,List.drop_zero]
   exact e
  ·have:i=l.length:=by omega
   subst this
   have f:=bMx l
   simp[aA0,aA2,aA1,C.flat]
theorem bO6:aA6 Tryz.prog aMp:=aA5 (by simp[bAr])
theorem aXi:aAm Tryz.prog 29 (sg [pSl 95] [rSl 97]) aKp:=aA3 bO6 aA7 Tryz.func29 (by kernel_rfl) fun cs outs hk h=>by
 unfold aKp at h
 split at h
 ·simp only[Option.some.injEq,Prod.mk.injEq,Bool.and_eq_true,decide_eq_true_eq]at h
  obtain⟨⟨h1,h2⟩,rfl⟩:=h
  rename_i rows
  have hr:=aF7 h2
  generalize ens rows=l at hr
  subst hr
  rw[List.length_map]at h1
  rw[aA9,bAs]
  have c2:(0:Int)≤l.length:=by omega
  have:=bAt l h1 9223372036854775808 0 (by omega) (by omega)
  simp only[List.take_zero,List.nil_append,Nat.sub_zero,List.map_replicate]at this
  simp only[aA0,if_true,decide_eq_true_eq,Bool.and_eq_true,List.length_map,Int.toNat_natCast,c2,Int.le_refl,and_self,true_and]
  rw[if_pos (by omega)]
  exact this
 ·cases h
theorem bTd:aA6 Tryz.prog bIl:=aA5 (by simp[])
theorem bDs:aAm Tryz.prog 74 (sg [aGp,aGp] [rB]) aO8:=aA3 bTd aA7 Tryz.func74 (by kernel_rfl) fun cs outs hk h=>by
 unfold aO8 at h
 split at h
 ·simp only[Option.some.injEq,Prod.mk.injEq,true_and]at h
  subst h
  rw[aA9,bHt]
  simp only[aA2,aA0,aA1,bne_iff_ne,ne_eq,Bool.not_eq_true',beq_eq_false_iff_ne,cAb,En.mk.injEq]
  repeat' split
  all_goals first | rfl | (simp_all;done)
 ·cases h
theorem bDu (x y:List En) (hx:x.length≤1048576) (hl:x.length=y.length):∀ (n i:Nat),i≤x.length→x.length<i+n→x.take i=y.take i →
  (aBl aN5 aAb (sg [pSl 97,pSl 97] [rB]) Tryz.f32 [.r,.r,.l,.r,.b] n (aMo (x.map eEn) (y.map eEn) i)).eval=some [.bool (decide (x=y))]:=by
 intro n
 induction n with
 |zero=>intro i h1 h2;omega
 |succ n ih =>
  intro i h1 h2 h3
  rw[aAo _ _ _ _ _ _ _ (by kernel_rfl),aWg]
  by_cases hi:i<x.length
  ·have hi2:i<y.length:=by omega
   have w:IntKind.i64.wrap ((i:Int)+1)=((i+1:Nat):Int):=by rw[aAh]<;>omega
   have hz:(0:Int)≤i:=by omega
   have g:=aB1 eEn x ⟨[],0⟩ i hi
   have g2:=aB1 eEn y ⟨[],0⟩ i hi2
   simp only[aA0,aA2,aA1,if_true,decide_eq_true_eq,Bool.and_eq_true,w,hz,Int.toNat_natCast,Int.ofNat_lt,List.length_map,g,g2,hi,hi2,and_self,List.getD_cons_zero,List.getD_cons_succ,C.toStr,C.toInt,C.is,List.length_cons,List.length_nil,Nat.zero_add,Nat.reduceAdd,Nat.reduceLT,decide_true,beq_self_eq_true]
   by_cases hxy:x.getD i ⟨[],0⟩=y.getD i ⟨[],0⟩
   ·have e:=ih (i+1) (by omega) (by omega) (aHs ⟨[],0⟩ hi hi2 h3 hxy)
    have he:cAb (x.getD i ⟨[],0⟩).name (x.getD i ⟨[],0⟩).id (y.getD i ⟨[],0⟩).name (y.getD i ⟨[],0⟩).id=true:=decide_eq_true hxy
    simp only[he,if_true]
    exact e
   ·have:x≠y:=fun h=>hxy (by rw[h])
    have hne:cAb (x.getD i ⟨[],0⟩).name (x.getD i ⟨[],0⟩).id (y.getD i ⟨[],0⟩).name (y.getD i ⟨[],0⟩).id=false:=decide_eq_false hxy
    simp only[hne,decide_false,Bool.false_eq_true,if_false,this]
  ·have e1:i=x.length:=by omega
   have:x=y:=by
    rw[e1,List.take_length,hl,List.take_length]at h3
    exact h3
   have e2:decide (x=y)=true:=by simp[this]
   simp only[aA0,aA2,aA1,decide_eq_true_eq,List.length_map,Int.ofNat_lt,hi,if_false,if_true,e2]
theorem bPw:aA6 Tryz.prog aN5:=aA5 (by simp[bDs])
theorem aZ2:aAm Tryz.prog 32 (sg [pSl 97,pSl 97] [rB]) aLk:=aA3 bPw aA7 Tryz.func32 (by kernel_rfl) fun cs outs hk h=>by
 unfold aLk at h
 split at h
 ·simp only[Option.some.injEq,Prod.mk.injEq,Bool.and_eq_true,decide_eq_true_eq]at h
  obtain⟨⟨h1,h2,h3⟩,rfl⟩:=h
  rename_i x y
  have hx:=aF7 h2
  have hy:=aF7 h3
  generalize ens x=l at hx ⊢
  generalize ens y=m at hy ⊢
  subst hx;subst hy
  rw[List.length_map]at h1
  rw[aA9,bDt]
  simp only[aA0,aA2,aA1,if_true,bne_iff_ne,ne_eq,List.length_map,Int.ofNat_inj]
  by_cases hl:l.length=m.length
  ·simp only[hl,not_true_eq_false,if_false]
   exact bDu l m h1 hl _ 0 (by omega) (by omega) rfl
  ·have:l≠m:=fun h=>hl (by rw[h])
   simp[hl,this]
 ·cases h
noncomputable section
def aB2:PTy:=.val true [.slice 70,.slice 97,.slice 97,.slice 9,.int .i64,.int .i64]
def bYc:RTy:=⟨true,[(.slice 70,true),(.slice 97,true),(.slice 97,true),(.slice 9,true),(.int .i64,false),(.int .i64,false)]⟩
def aBt (ns es os ss:List (List C)):Bool:=aAi kNd ns&&aAi kEn es&&aAi kEn os&&aAi [.str] ss
def aHl (ns es os ss:List (List C)):Bool:=aCo ns&&aCo es&&aCo os&&aCo ss
def aC8 (n:Nat) (ns es os ss:List (List C)):Bool:=decide (ns.length≤n)&&decide (es.length≤n)&&decide (os.length≤n)&&decide (ss.length≤n)
def aIl (l:List Nat) (left:Int):Int:=if left<0 then -1 else aBj l left
def aRh (ns:List Nd) (es os:List En) (ss:List (List UInt8)) (left:Int):Int :=
 aIl (ss.map List.length) (aIl (os.map fun x=>x.name.length) (aIl (es.map fun x=>x.name.length) (aBj (ns.map fun x=>x.text.length) left)))
abbrev cA3:List K:=[.slice 92,.slice 95,.slice 95,.slice 9,.int .i64,.int .i64]
def aRn:PTy:=.val true cA3
def aQ7:aC0:=fun cs=>match cs with
 |[.sl ns,.sl es,.sl os,.sl ss,.int .i64 _,.int .i64 _,.int .i64 left]=>some (decide (0≤left)&&decide (left≤1048576)&&(aC8 281474976710656 ns es os ss&&aBt ns es os ss&&aHl ns es os ss),[.int .i64 (aRh (nds ns) (ens es) (ens os) (aGh ss) left)])
 |_=>none
def bI4:Env:=mkE [] [(27,(sg [pSl 9,pI] [rI]),aU5),(25,(sg [pSl 92,pI] [rI]),aNv),(26,(sg [pSl 95,pI] [rI]),aKq)]
def aQ4:aC0:=fun cs=>match cs with
 |[.sl ns,.sl es,.sl os,.sl ss,.int .i64 r,.int .i64 x]=>some (aC8 1048576 ns es os ss&&aBt ns es os ss,[.sl ns,.sl es,.sl os,.sl ss,.int .i64 r,.int .i64 x])
 |_=>none
def bNb:Env:=mkE [] [(30,(sg [pSl 9] [rSl 9]),aU0),(28,(sg [pSl 92] [rSl 70]),aNt),(29,(sg [pSl 95] [rSl 97]),aKp)]
def bZe (ns1 es1 os1 ss1:List (List C)) (r1 x1:Int) (ns2 es2 os2 ss2:List (List C)) (r2 x2:Int):Bool :=
 decide (nds ns1=nds ns2)&&decide (ens es1=ens es2)&&decide (ens os1=ens os2)&&decide (aGh ss1=aGh ss2)&&decide (r1=r2)&&decide (x1=x2)
def aR5:aC0:=fun cs=>match cs with
 |[.sl ns1,.sl es1,.sl os1,.sl ss1,.int .i64 r1,.int .i64 x1,.sl ns2,.sl es2,.sl os2,.sl ss2,.int .i64 r2,.int .i64 x2] =>
  some (aC8 1048576 ns1 es1 os1 ss1&&aBt ns1 es1 os1 ss1&&aBt ns2 es2 os2 ss2,[.bool (bZe ns1 es1 os1 ss1 r1 x1 ns2 es2 os2 ss2 r2 x2)])
 |_=>none
def bNu:Env:=mkE [] [(33,(sg [pSl 9,pSl 9] [rB]),aWd),(31,(sg [pSl 70,pSl 70] [rB]),aO7),(32,(sg [pSl 97,pSl 97] [rB]),aLk)]
end
set_option maxRecDepth 100000
theorem bEx (H:List Pt→Nat→St→T (List C)) (ns:List (List C)) (es:List (List C)) (os:List (List C)) (ss:List (List C)) (r:Int) (x:Int) (left:Int):(aAe bI4 aAb (sg [aRn,pI] [rI]) Tryz.f7 H [C.sl ns,C.sl es,C.sl os,C.sl ss,C.int .i64 r,C.int .i64 x,C.int .i64 left]).eval=((.must (decide ((0:Int)≤left)&&decide (left≤(1048576:Int))&&(decide (ns.length≤281474976710656)&&(aAi [K.int .i64,K.str,K.int .i64] ns&&aCo ns))) (.ask (decide (aBj (List.map (fun x=>x.2.length) (nds ns)) left<(0:Int))) (.ret [C.int .i64 (-1)]) (.must (decide ((0:Int)≤aBj (List.map (fun x=>x.2.length) (nds ns)) left)&&decide (aBj (List.map (fun x=>x.2.length) (nds ns)) left≤(1048576:Int))&&(decide (es.length≤281474976710656)&&(aAi [K.str,K.int .i64] es&&aCo es))) (.ask (decide (aBj (List.map (fun x=>x.1.length) (ens es)) (aBj (List.map (fun x=>x.2.length) (nds ns)) left)<(0:Int))) (.ret [C.int .i64 (-1)]) (.must (decide ((0:Int)≤aBj (List.map (fun x=>x.1.length) (ens es)) (aBj (List.map (fun x=>x.2.length) (nds ns)) left))&&decide (aBj (List.map (fun x=>x.1.length) (ens es)) (aBj (List.map (fun x=>x.2.length) (nds ns)) left)≤(1048576:Int))&&(decide (os.length≤281474976710656)&&(aAi [K.str,K.int .i64] os&&aCo os))) (.ask (decide (aBj (List.map (fun x=>x.1.length) (ens os)) (aBj (List.map (fun x=>x.1.length) (ens es)) (aBj (List.map (fun x=>x.2.length) (nds ns)) left))<(0:Int))) (.ret [C.int .i64 (-1)]) (.must (decide ((0:Int)≤aBj (List.map (fun x=>x.1.length) (ens os)) (aBj (List.map (fun x=>x.1.length) (ens es)) (aBj (List.map (fun x=>x.2.length) (nds ns)) left)))&&decide (aBj (List.map (fun x=>x.1.length) (ens os)) (aBj (List.map (fun x=>x.1.length) (ens es)) (aBj (List.map (fun x=>x.2.length) (nds ns)) left))≤(1048576:Int))&&(decide (ss.length≤281474976710656)&&(aAi [K.str] ss&&aCo ss))) (.ask (decide (aBj (List.map List.length (aGh ss)) (aBj (List.map (fun x=>x.1.length) (ens os)) (aBj (List.map (fun x=>x.1.length) (ens es)) (aBj (List.map (fun x=>x.2.length) (nds ns)) left)))<(0:Int))) (.ret [C.int .i64 (-1)]) (.ret [C.int .i64 (aBj (List.map List.length (aGh ss)) (aBj (List.map (fun x=>x.1.length) (ens os)) (aBj (List.map (fun x=>x.1.length) (ens es)) (aBj (List.map (fun x=>x.2.length) (nds ns)) left))))]))))))))):T (List C)).eval:=aAd (by kernel_rfl)
theorem bIx (H:List Pt→Nat→St→T (List C)) (ns:List (List C)) (es:List (List C)) (os:List (List C)) (ss:List (List C)) (r:Int) (x:Int):(aAe bNb aAb (sg [aRn] [bYc]) Tryz.f9 H [C.sl ns,C.sl es,C.sl os,C.sl ss,C.int .i64 r,C.int .i64 x]).eval=((.must (decide (ns.length≤1048576)&&aAi [K.int .i64,K.str,K.int .i64] ns) (.must ((true&&ns.all fun row=>decide (row.length=3))&&true&&true&&true) (.must (decide (es.length≤1048576)&&aAi [K.str,K.int .i64] es) (.must ((true&&es.all fun row=>decide (row.length=2))&&true&&true&&true) (.must (decide (os.length≤1048576)&&aAi [K.str,K.int .i64] os) (.must ((true&&os.all fun row=>decide (row.length=2))&&true&&true&&true) (.must (decide (ss.length≤1048576)&&aAi [K.str] ss) (.must ((true&&ss.all fun row=>decide (row.length=1))&&true&&true&&true) (.must (decide (ns.length=ns.length)&&(false||ns.all fun r=>r.all C.flat)&&(decide (es.length=es.length)&&(false||es.all fun r=>r.all C.flat)&&(decide (os.length=os.length)&&(false||os.all fun r=>r.all C.flat)&&(decide (ss.length=ss.length)&&(false||ss.all fun r=>r.all C.flat)&&(true&&(false||true)&&(true&&(false||true)&&true)))))&&true&&true) (.ret [C.sl ns,C.sl es,C.sl os,C.sl ss,C.int .i64 r,C.int .i64 x])))))))))):T (List C)).eval:=aAd (by kernel_rfl)
theorem bLs (H:List Pt→Nat→St→T (List C)) (ns1:List (List C)) (es1:List (List C)) (os1:List (List C)) (ss1:List (List C)) (r1:Int) (x1:Int) (ns2:List (List C)) (es2:List (List C)) (os2:List (List C)) (ss2:List (List C)) (r2:Int) (x2:Int):(aAe bNu aAb (sg [aB2,aB2] [rB]) Tryz.f11 H [C.sl ns1,C.sl es1,C.sl os1,C.sl ss1,C.int .i64 r1,C.int .i64 x1,C.sl ns2,C.sl es2,C.sl os2,C.sl ss2,C.int .i64 r2,C.int .i64 x2]).eval=((.must (decide (ns1.length≤1048576)&&(aAi [K.int .i64,K.str,K.int .i64] ns1&&aAi [K.int .i64,K.str,K.int .i64] ns2)) (.ask (decide (nds ns1=nds ns2)) (.must (decide (es1.length≤1048576)&&(aAi [K.str,K.int .i64] es1&&aAi [K.str,K.int .i64] es2)) (.ask (decide (ens es1=ens es2)) (.must (decide (os1.length≤1048576)&&(aAi [K.str,K.int .i64] os1&&aAi [K.str,K.int .i64] os2)) (.ask (decide (ens os1=ens os2)) (.must (decide (ss1.length≤1073741824)&&(aAi [K.str] ss1&&aAi [K.str] ss2)) (.ask (decide (aGh ss1=aGh ss2)) (.ask (r1 != r2) (.ret [C.bool false]) (.ask (x1 != x2) (.ret [C.bool false]) (.ret [C.bool true]))) (.ret [C.bool false]))) (.ret [C.bool false]))) (.ret [C.bool false]))) (.ret [C.bool false]))):T (List C)).eval:=aAd (by kernel_rfl)
theorem bOc (l:List Nat) (left:Int) (h:0≤left):aF3 l left= -1∨(0≤aF3 l left∧aF3 l left≤left):=by
 induction l generalizing left with
 |nil=>exact .inr ⟨h,Int.le_refl _⟩
 |cons n r ih =>
  simp only[aF3]
  split
  ·exact .inl rfl
  ·rcases ih (left-n) (by omega)with h | h
   ·exact .inl h
   ·exact .inr (by omega)
theorem aLv (l:List Nat) (left:Int):aBj l left= -1∨(0≤aBj l left∧aBj l left≤left):=by
 unfold aBj
 split
 ·exact .inl rfl
 ·rcases bOc l (left-l.length) (by omega)with h | h
  ·exact .inl h
  ·exact .inr (by omega)
theorem aEx {ns es os ss:List (List C)}:aBt ns es os ss=true↔aAi kNd ns=true∧aAi kEn es=true∧aAi kEn os=true∧aAi [.str] ss=true:=by simp[aBt,and_assoc]
theorem bDx {ns es os ss:List (List C)}:aHl ns es os ss=true↔aCo ns=true∧aCo es=true∧aCo os=true∧aCo ss=true:=by simp[aHl,and_assoc]
theorem aEy {n:Nat} {ns es os ss:List (List C)}:aC8 n ns es os ss=true↔ns.length≤n∧es.length≤n∧os.length≤n∧ss.length≤n:=by simp[aC8,and_assoc]
theorem aG8 {ks:List K} {rows:List (List C)} (h:aAi ks rows=true):(rows.all fun row=>decide (row.length=ks.length))=true:=by
 have key:∀ (ks:List K) (r:List C),aB7 r ks=true→r.length=ks.length:=by
  intro ks
  induction ks with
  |nil=>intro r h;cases r<;>simp[aB7]at h;rfl
  |cons k ks ih =>
   intro r h
   cases r with
   |nil=>simp[aB7]at h
   |cons c r=>simp only[aB7,Bool.and_eq_true]at h;simp[ih r h.2]
 simp only[aAi,List.all_eq_true,decide_eq_true_eq]at h ⊢
 exact fun r hr=>key ks r (h r hr)
theorem bPt {rows:List (List C)} (h:aAi kNd rows=true):(rows.all fun r=>r.all C.flat)=true:=by rw[aGs h];exact bMu _
theorem aZs {rows:List (List C)} (h:aAi kEn rows=true):(rows.all fun r=>r.all C.flat)=true:=by rw[aF7 h];exact bMx _
theorem bLl {rows:List (List C)} (h:aAi [.str] rows=true):(rows.all fun r=>r.all C.flat)=true:=by rw[aDs h];exact aGf _
theorem bR0:aA6 Tryz.prog bI4:=aA5 (by simp[aU4,bAu,aXo])
theorem bAy:aAm Tryz.prog 7 (sg [aRn,pI] [rI]) aQ7:=aA3 bR0 aA7 Tryz.func7 (by kernel_rfl) fun cs outs hk h=>by
 unfold aQ7 at h
 split at h
 ·simp only[Option.some.injEq,Prod.mk.injEq,Bool.and_eq_true,decide_eq_true_eq]at h
  obtain⟨⟨⟨h1,h2⟩,⟨h3,h4⟩,h5⟩,rfl⟩:=h
  rename_i ns es os ss r x left
  rw[aEy]at h3
  rw[aEx]at h4
  rw[bDx]at h5
  obtain⟨l1,l2,l3,l4⟩:=h3
  obtain⟨k1,k2,k3,k4⟩:=h4
  obtain⟨t1,t2,t3,t4⟩:=h5
  rw[aA9,bEx]
  simp only[kNd]at k1
  simp only[kEn]at k2 k3
  unfold aRh
  have e1:(fun (x:Nd)=>x.2.length)=fun x=>x.text.length:=rfl
  have e2:(fun (x:En)=>x.1.length)=fun x=>x.name.length:=rfl
  rw[e1,e2]
  generalize hA:aBj ((nds ns).map fun x=>x.text.length) left=A
  have rA:=aLv ((nds ns).map fun x=>x.text.length) left
  rw[hA]at rA
  simp only[aA0,aA2,aA1,h1,h2,l1,k1,t1,decide_true,Bool.and_self,if_true,decide_eq_true_eq]
  by_cases nA:A<0
  ·simp[nA,aIl]
  ·have cA:0≤A∧A≤1048576:=by omega
   simp only[nA,if_false,cA.1,cA.2,l2,k2,t2,decide_true,Bool.and_self,if_true,aIl]
   generalize hB:aBj ((ens es).map fun x=>x.name.length) A=B
   have rB:=aLv ((ens es).map fun x=>x.name.length) A
   rw[hB]at rB
   by_cases nB:B<0
   ·simp[nB]
   ·have cB:0≤B∧B≤1048576:=by omega
    simp only[nB,if_false,cB.1,cB.2,l3,k3,t3,decide_true,Bool.and_self,if_true]
    generalize hC:aBj ((ens os).map fun x=>x.name.length) B=C'
    have rC:=aLv ((ens os).map fun x=>x.name.length) B
    rw[hC]at rC
    by_cases nC:C'<0
    ·simp[nC]
    ·have cC:0≤C'∧C'≤1048576:=by omega
     simp only[nC,if_false,cC.1,cC.2,l4,k4,t4,decide_true,Bool.and_self,if_true]
     have rD:=aLv ((aGh ss).map List.length) C'
     split
     ·have:aBj ((aGh ss).map List.length) C'= -1:=by omega
      rw[this]
     ·rfl
 ·cases h
theorem bUl:aA6 Tryz.prog bNb:=aA5 (by simp[aTz,bAq,aXi])
theorem bEq:aAm Tryz.prog 9 (sg [aRn] [bYc]) aQ4:=aA3 bUl aA7 Tryz.func9 (by kernel_rfl) fun cs outs hk h=>by
 unfold aQ4 at h
 split at h
 ·simp only[Option.some.injEq,Prod.mk.injEq,Bool.and_eq_true,decide_eq_true_eq]at h
  obtain⟨⟨h3,h4⟩,rfl⟩:=h
  rename_i ns es os ss r x
  rw[aEy]at h3
  rw[aEx]at h4
  obtain⟨l1,l2,l3,l4⟩:=h3
  obtain⟨k1,k2,k3,k4⟩:=h4
  rw[aA9,bIx]
  have a1:=aG8 k1
  have a2:=aG8 k2
  have a3:=aG8 k3
  have a4:=aG8 k4
  have f1:=bPt k1
  have f2:=aZs k2
  have f3:=aZs k3
  have f4:=bLl k4
  simp only[kNd]at k1
  simp only[kEn]at k2 k3
  simp only[kNd,kEn,List.length_cons,List.length_nil,Nat.zero_add,Nat.reduceAdd]at a1 a2 a3 a4
  simp only[aA0,aA1,l1,l2,l3,l4,k1,k2,k3,k4,a1,a2,a3,a4,f1,f2,f3,f4,decide_true,Bool.and_self,Bool.or_true,if_true]
 ·cases h
theorem bWf:aA6 Tryz.prog bNu:=aA5 (by simp[aWc,bDq,aZ2])
theorem bHu:aAm Tryz.prog 11 (sg [aB2,aB2] [rB]) aR5:=aA3 bWf aA7 Tryz.func11 (by kernel_rfl) fun cs outs hk h=>by
 unfold aR5 at h
 split at h
 ·simp only[Option.some.injEq,Prod.mk.injEq,Bool.and_eq_true,decide_eq_true_eq]at h
  obtain⟨⟨⟨h3,h4⟩,h5⟩,rfl⟩:=h
  rename_i ns es os ss r x ns2 es2 os2 ss2 r2 x2
  rw[aEy]at h3
  rw[aEx]at h4 h5
  obtain⟨l1,l2,l3,l4⟩:=h3
  obtain⟨k1,k2,k3,k4⟩:=h4
  obtain⟨q1,q2,q3,q4⟩:=h5
  rw[aA9,bLs]
  simp only[kNd]at k1 q1
  simp only[kEn]at k2 k3 q2 q3
  have l5:ss.length≤1073741824:=by omega
  simp only[aA0,aA2,aA1,l1,l2,l3,l4,l5,k1,k2,k3,k4,q1,q2,q3,q4,decide_true,Bool.and_self,if_true,bZe,bne_iff_ne,ne_eq,decide_eq_true_eq]
  repeat' split
  all_goals first | rfl | (simp_all;done)
 ·cases h
noncomputable section
def aCs {A:Type} (p:A→Bool):List A→Nat→Int
 |[],_=> -1
 |x::r,i=>if p x then (i:Int)else aCs p r (i+1)
def bWh (nm:List UInt8) (e:En):Bool:=decide (e.name=nm)
def bX8 (id:Int) (n:Nd):Bool:=decide (n.id=id)
def aC3 (es:List En) (nm:List UInt8):Int:=aCs (bWh nm) es 0
def aCn (ns:List Nd) (id:Int):Int:=aCs (bX8 id) ns 0
def aFu (es:List En) (nm:List UInt8):Int:=if aC3 es nm<0 then 0 else (es.getD (aC3 es nm).toNat ⟨[],0⟩).id
def aYx (es:List En) (nm:List UInt8):Bool:=decide (0≤aC3 es nm)
def aDe (ns:List Nd) (es:List En) (nm:List UInt8):Int:=if aC3 es nm<0 then -1 else aCn ns (aFu es nm)
def bZd (ns:List Nd) (es:List En) (nm:List UInt8):Nd:=if aDe ns es nm<0 then⟨0,[],0⟩else ns.getD (aDe ns es nm).toNat ⟨0,[],0⟩
def bHa (ns:List Nd) (es:List En) (nm:List UInt8):Bool:=decide (0≤aDe ns es nm)
def cB3 (ns:List Nd) (es:List En) (nm:List UInt8):Int:=(bZd ns es nm).id
def aHw (ns:List Nd) (es:List En) (nm:List UInt8):List UInt8:=(bZd ns es nm).text
def bS5 (ns:List Nd) (es:List En) (nm:List UInt8):Int:=(bZd ns es nm).sure
def bI0:Nat:=281474976710656
def aT4:aC0:=fun cs=>match cs with
 |[.str n,.int .i64 _,.pt [.str nm]]=>some (true,[.bool (decide (n=nm))])
 |_=>none
def aSy:aC0:=fun cs=>match cs with
 |[.int .i64 i,.str _,.int .i64 _,.pt [.int .i64 id]]=>some (true,[.bool (decide (i=id))])
 |_=>none
def bCi:aC0:=fun cs=>match cs with
 |[.sl rows,.fn f [.pt [.str nm]]]=>some (decide (f=163)&&(decide (rows.length≤bI0)&&aAi kEn rows),[.int .i64 (aC3 (ens rows) nm)])
 |_=>none
def bCg:aC0:=fun cs=>match cs with
 |[.sl rows,.fn f [.pt [.int .i64 id]]]=>some (decide (f=165)&&(decide (rows.length≤bI0)&&aAi kNd rows),[.int .i64 (aCn (nds rows) id)])
 |_=>none
def aV5:aC0:=fun cs=>match cs with
 |[.sl rows,.str nm]=>some (decide (rows.length≤bI0)&&aAi kEn rows,[.int .i64 (aC3 (ens rows) nm)])
 |_=>none
def aWh:aC0:=fun cs=>match cs with
 |[.sl rows,.str nm]=>some (decide (rows.length≤bI0)&&aAi kEn rows,[.int .i64 (aFu (ens rows) nm)])
 |_=>none
def aW4:aC0:=fun cs=>match cs with
 |[.sl rows,.str nm]=>some (decide (rows.length≤bI0)&&aAi kEn rows,[.bool (aYx (ens rows) nm)])
 |_=>none
def aGz:aC0:=fun cs=>match cs with
 |[.sl ns,.sl _,.sl _,.sl _,.int .i64 _,.int .i64 _,.int .i64 id]=>some (decide (ns.length≤bI0)&&aAi kNd ns,[.int .i64 (aCn (nds ns) id)])
 |_=>none
def bEg (ns es:List (List C)):Bool:=decide (ns.length≤bI0)&&decide (es.length≤bI0)&&aAi kNd ns&&aAi kEn es
def aQm:aC0:=fun cs=>match cs with
 |[.sl ns,.sl es,.sl _,.sl _,.int .i64 _,.int .i64 _,.str nm]=>some (bEg ns es,[.int .i64 (aDe (nds ns) (ens es) nm)])
 |_=>none
def aH0:aC0:=fun cs=>match cs with
 |[.sl ns,.sl es,.sl _,.sl _,.int .i64 _,.int .i64 _,.str nm]=>some (bEg ns es,[.int .i64 (cB3 (nds ns) (ens es) nm),.str (aHw (nds ns) (ens es) nm),.int .i64 (bS5 (nds ns) (ens es) nm),.bool (bHa (nds ns) (ens es) nm)])
 |_=>none
def aEt:aC0:=fun cs=>match cs with
 |[.sl ns,.sl es,.sl _,.sl _,.int .i64 _,.int .i64 _,.str nm]=>some (bEg ns es,[.str (aHw (nds ns) (ens es) nm),.bool (bHa (nds ns) (ens es) nm)])
 |_=>none
def aAv (ns:List Nd) (es:List En) (base:Int):List UInt8:=aHw ns es (aB8 base)
def aE5:aC0:=fun cs=>match cs with
 |[.sl ns,.sl es,.sl _,.sl _,.int .i64 _,.int .i64 _,.int .i64 base]=>some (bEg ns es,[.str (aAv (nds ns) (ens es) base)])
 |_=>none
abbrev pF:PTy:=.val false [.func]
abbrev pP:PTy:=.val false [.ptr]
def bN9 (r:List (List C)) (nm:List UInt8) (n i:Int):St:=st0 [(0,.l (.sl r)),(1,.l (.fn 163 [.pt [.str nm]])),(7,aB0 n),(8,aB0 i)]
def bN8 (r:List (List C)) (id:Int) (n i:Int):St:=st0 [(0,.l (.sl r)),(1,.l (.fn 165 [.pt [.int .i64 id]])),(7,aB0 n),(8,aB0 i)]
def aTh (r:List (List C)) (nm:List UInt8) (i:Int):St:=st0 [(0,.l (.sl r)),(1,bEe nm),(5,aB0 i)]
def aTf (r:List (List C)) (nm:List UInt8) (i:Int):St:=st0 [(0,.l (.sl r)),(1,bEe nm),(5,aB0 i)]
def aPk (ns es os ss:List (List C)) (r x id i:Int):St:={slots:=[(1,aB0 id),(2,.l (.ptr 0 0)),(5,aB0 i)],heap:=[(0,.box [.sl ns,.sl es,.sl os,.sl ss,.i .i64 r,.i .i64 x])],next:=1,pins:=[]}
def bXn:Env:=mkE [] []
def bXl:Env:=mkE [] []
def bNm:Env:=mkE [(2,[0,1,7,8])] [(163,(sg [aGp,pP] [rB]),aT4)]
def bNl:Env:=mkE [(2,[0,1,7,8])] [(165,(sg [aN8,pP] [rB]),aSy)]
def bAb:Env:=mkE [] [(163,(sg [aGp,pP] [rB]),aT4),(162,(sg [pSl 97,pF] [rI]),bCi)]
def bIa:Env:=mkE [] [(165,(sg [aN8,pP] [rB]),aSy),(164,(sg [pSl 70,pF] [rI]),bCg)]
def aTu:Env:=mkE [(2,[0,1,5])] []
def aTs:Env:=mkE [(2,[0,1,5])] []
def aPs:Env:=mkE [(2,[1,2,5])] []
def bIb:Env:=mkE [] [(124,(sg [pSl 97,pS] [rI]),aV5),(125,(sg [aB2,pI] [rI]),aGz)]
def bI6:Env:=mkE [] [(85,(sg [pSl 97,pS] [rI]),aWh),(86,(sg [pSl 97,pS] [rB]),aW4),(84,(sg [aB2,pI] [rI]),aGz)]
def bIe:Env:=mkE [] [(96,(sg [aB2,pS] [rI]),aQm)]
def aWx:Env:=mkE [] [(50,(sg [aB2,pS] [bBv,rB]),aH0)]
def aX5:Env:=mkE [] [(58,(sg [aB2,pS] [bBv,rB]),aH0)]
def bI5:Env:=mkE [] [(49,(sg [pI] [rS]),aI8),(89,(sg [aB2,pS] [rS,rB]),aEt)]
def bId:Env:=mkE [] [(59,(sg [pI] [rS]),aI8),(119,(sg [aB2,pS] [rS,rB]),aEt)]
end
theorem bTg (H:List Pt→Nat→St→T (List C)) (n:List UInt8) (i:Int) (nm:List UInt8):(aAe bXn aAb (sg [aGp,pP] [rB]) Tryz.f163 H [C.str n,C.int .i64 i,C.pt [C.str nm]]).eval=((.ask (n==nm) (.ret [C.bool true]) (.ret [C.bool false])):T (List C)).eval:=aAd (by kernel_rfl)
theorem bS6 (H:List Pt→Nat→St→T (List C)) (i:Int) (t:List UInt8) (s:Int) (id:Int):(aAe bXl aAb (sg [aN8,pP] [rB]) Tryz.f165 H [C.int .i64 i,C.str t,C.int .i64 s,C.pt [C.int .i64 id]]).eval=((.ask (decide (i=id)) (.ret [C.bool true]) (.ret [C.bool false])):T (List C)).eval:=aAd (by kernel_rfl)
theorem bSj (H:List Pt→Nat→St→T (List C)) (r:List (List C)) (nm:List UInt8):(aAe bNm aAb (sg [pSl 97,pF] [rI]) Tryz.f162 H [C.sl r,C.fn 163 [C.pt [C.str nm]]]).eval=((H [Pt.r,Pt.l,Pt.r,Pt.b] 9223372036854775808 (bN9 (r) (nm) ((↑r.length:Int)) ((0:Int)))):T (List C)).eval:=aAd (by kernel_rfl)
theorem bSf (H:List Pt→Nat→St→T (List C)) (r:List (List C)) (id:Int):(aAe bNl aAb (sg [pSl 70,pF] [rI]) Tryz.f164 H [C.sl r,C.fn 165 [C.pt [C.int .i64 id]]]).eval=((H [Pt.r,Pt.l,Pt.r,Pt.b] 9223372036854775808 (bN8 (r) (id) ((↑r.length:Int)) ((0:Int)))):T (List C)).eval:=aAd (by kernel_rfl)
theorem bBy (H:List Pt→Nat→St→T (List C)) (r:List (List C)) (nm:List UInt8):(aAe bAb aAb (sg [pSl 97,pS] [rI]) Tryz.f124 H [C.sl r,C.str nm]).eval=((.must (decide (163=163)&&(decide (r.length≤bI0)&&aAi [K.str,K.int .i64] r)) (.ret [C.int .i64 (aC3 (ens r) nm)])):T (List C)).eval:=aAd (by kernel_rfl)
theorem bG3 (H:List Pt→Nat→St→T (List C)) (ns:List (List C)) (es:List (List C)) (os:List (List C)) (ss:List (List C)) (r:Int) (x:Int) (id:Int):(aAe bIa aAb (sg [aB2,pI] [rI]) Tryz.f125 H [C.sl ns,C.sl es,C.sl os,C.sl ss,C.int .i64 r,C.int .i64 x,C.int .i64 id]).eval=((.must (decide (165=165)&&(decide (ns.length≤bI0)&&aAi [K.int .i64,K.str,K.int .i64] ns)) (.ret [C.int .i64 (aCn (nds ns) id)])):T (List C)).eval:=aAd (by kernel_rfl)
theorem bLt (H:List Pt→Nat→St→T (List C)) (r:List (List C)) (nm:List UInt8):(aAe aTu aAb (sg [pSl 97,pS] [rI]) Tryz.f85 H [C.sl r,C.str nm]).eval=((H [Pt.r,Pt.l,Pt.r,Pt.b] 9223372036854775808 (aTh (r) (nm) ((0:Int)))):T (List C)).eval:=aAd (by kernel_rfl)
theorem bLg (H:List Pt→Nat→St→T (List C)) (r:List (List C)) (nm:List UInt8):(aAe aTs aAb (sg [pSl 97,pS] [rB]) Tryz.f86 H [C.sl r,C.str nm]).eval=((H [Pt.r,Pt.l,Pt.r,Pt.b] 9223372036854775808 (aTf (r) (nm) ((0:Int)))):T (List C)).eval:=aAd (by kernel_rfl)
theorem bF7 (H:List Pt→Nat→St→T (List C)) (ns:List (List C)) (es:List (List C)) (os:List (List C)) (ss:List (List C)) (r:Int) (x:Int) (id:Int):(aAe aPs aAb (sg [aB2,pI] [rI]) Tryz.f84 H [C.sl ns,C.sl es,C.sl os,C.sl ss,C.int .i64 r,C.int .i64 x,C.int .i64 id]).eval=((H [Pt.r,Pt.l,Pt.r,Pt.b] 9223372036854775808 (aPk (ns) (es) (os) (ss) (r) (x) (id) ((0:Int)))):T (List C)).eval:=aAd (by kernel_rfl)
theorem bG4 (H:List Pt→Nat→St→T (List C)) (ns:List (List C)) (es:List (List C)) (os:List (List C)) (ss:List (List C)) (r:Int) (x:Int) (nm:List UInt8):(aAe bIb aAb (sg [aB2,pS] [rI]) Tryz.f96 H [C.sl ns,C.sl es,C.sl os,C.sl ss,C.int .i64 r,C.int .i64 x,C.str nm]).eval=((.must (decide (es.length≤bI0)&&aAi [K.str,K.int .i64] es) (.ask (decide (aC3 (ens es) nm<(0:Int))) (.ret [C.int .i64 (-1)]) (.must (decide ((0:Int)≤aC3 (ens es) nm)&&decide (aC3 (ens es) nm<(↑es.length:Int))&&decide ((es.getD (aC3 (ens es) nm).toNat []).length=2)) (.must (decide (0+1<(es.getD (aC3 (ens es) nm).toNat []).length)&&C.is (K.int .i64) ((es.getD (aC3 (ens es) nm).toNat []).getD (0+1) (C.fn 0 []))&&true) (.must (decide (ns.length≤bI0)&&aAi [K.int .i64,K.str,K.int .i64] ns) (.ret [C.int .i64 (aCn (nds ns) ((es.getD (aC3 (ens es) nm).toNat []).getD (0+1) (C.fn 0 [])).toInt)])))))):T (List C)).eval:=aAd (by kernel_rfl)
theorem bF9 (H:List Pt→Nat→St→T (List C)) (ns:List (List C)) (es:List (List C)) (os:List (List C)) (ss:List (List C)) (r:Int) (x:Int) (nm:List UInt8):(aAe bI6 aAb (sg [aB2,pS] [bBv,rB]) Tryz.f50 H [C.sl ns,C.sl es,C.sl os,C.sl ss,C.int .i64 r,C.int .i64 x,C.str nm]).eval=((.must (decide (es.length≤bI0)&&aAi [K.str,K.int .i64] es) (.must (decide (ns.length≤bI0)&&aAi [K.int .i64,K.str,K.int .i64] ns) (.ask (decide (aCn (nds ns) (aFu (ens es) nm)<(0:Int))) (.ret [C.int .i64 0,C.str [],C.int .i64 0,C.bool false]) (.must (decide (es.length≤bI0)&&aAi [K.str,K.int .i64] es) (.ask (aYx (ens es) nm) (.must (decide ((0:Int)≤aCn (nds ns) (aFu (ens es) nm))&&decide (aCn (nds ns) (aFu (ens es) nm)<(↑ns.length:Int))&&decide ((ns.getD (aCn (nds ns) (aFu (ens es) nm)).toNat []).length=3)) (.must (decide (0<(ns.getD (aCn (nds ns) (aFu (ens es) nm)).toNat []).length)&&C.is (K.int .i64) ((ns.getD (aCn (nds ns) (aFu (ens es) nm)).toNat []).getD 0 (C.fn 0 []))&&(decide (0+1<(ns.getD (aCn (nds ns) (aFu (ens es) nm)).toNat []).length)&&C.is K.str ((ns.getD (aCn (nds ns) (aFu (ens es) nm)).toNat []).getD (0+1) (C.fn 0 []))&&(decide (0+1+1<(ns.getD (aCn (nds ns) (aFu (ens es) nm)).toNat []).length)&&C.is (K.int .i64) ((ns.getD (aCn (nds ns) (aFu (ens es) nm)).toNat []).getD (0+1+1) (C.fn 0 []))&&true))) (.ret [C.int .i64 ((ns.getD (aCn (nds ns) (aFu (ens es) nm)).toNat []).getD 0 (C.fn 0 [])).toInt,C.str ((ns.getD (aCn (nds ns) (aFu (ens es) nm)).toNat []).getD (0+1) (C.fn 0 [])).toStr,C.int .i64 ((ns.getD (aCn (nds ns) (aFu (ens es) nm)).toNat []).getD (0+1+1) (C.fn 0 [])).toInt,C.bool true]))) (.ret [C.int .i64 0,C.str [],C.int .i64 0,C.bool false])))))):T (List C)).eval:=aAd (by kernel_rfl)
theorem bGv (H:List Pt→Nat→St→T (List C)) (ns:List (List C)) (es:List (List C)) (os:List (List C)) (ss:List (List C)) (r:Int) (x:Int) (nm:List UInt8):(aAe bIe aAb (sg [aB2,pS] [bBv,rB]) Tryz.f58 H [C.sl ns,C.sl es,C.sl os,C.sl ss,C.int .i64 r,C.int .i64 x,C.str nm]).eval=((.must (bEg ns es) (.ask (decide (aDe (nds ns) (ens es) nm<(0:Int))) (.ret [C.int .i64 0,C.str [],C.int .i64 0,C.bool false]) (.must (decide ((0:Int)≤aDe (nds ns) (ens es) nm)&&decide (aDe (nds ns) (ens es) nm<(↑ns.length:Int))&&decide ((ns.getD (aDe (nds ns) (ens es) nm).toNat []).length=3)) (.must (decide (0<(ns.getD (aDe (nds ns) (ens es) nm).toNat []).length)&&C.is (K.int .i64) ((ns.getD (aDe (nds ns) (ens es) nm).toNat []).getD 0 (C.fn 0 []))&&(decide (0+1<(ns.getD (aDe (nds ns) (ens es) nm).toNat []).length)&&C.is K.str ((ns.getD (aDe (nds ns) (ens es) nm).toNat []).getD (0+1) (C.fn 0 []))&&(decide (0+1+1<(ns.getD (aDe (nds ns) (ens es) nm).toNat []).length)&&C.is (K.int .i64) ((ns.getD (aDe (nds ns) (ens es) nm).toNat []).getD (0+1+1) (C.fn 0 []))&&true))) (.ret [C.int .i64 ((ns.getD (aDe (nds ns) (ens es) nm).toNat []).getD 0 (C.fn 0 [])).toInt,C.str ((ns.getD (aDe (nds ns) (ens es) nm).toNat []).getD (0+1) (C.fn 0 [])).toStr,C.int .i64 ((ns.getD (aDe (nds ns) (ens es) nm).toNat []).getD (0+1+1) (C.fn 0 [])).toInt,C.bool true]))))):T (List C)).eval:=aAd (by kernel_rfl)
theorem aY0 (H:List Pt→Nat→St→T (List C)) (ns:List (List C)) (es:List (List C)) (os:List (List C)) (ss:List (List C)) (r:Int) (x:Int) (nm:List UInt8):(aAe aWx aAb (sg [aB2,pS] [rS,rB]) Tryz.f89 H [C.sl ns,C.sl es,C.sl os,C.sl ss,C.int .i64 r,C.int .i64 x,C.str nm]).eval=((.must (bEg ns es) (.ask (bHa (nds ns) (ens es) nm) (.ret [C.str (aHw (nds ns) (ens es) nm),C.bool true]) (.ret [C.str (aHw (nds ns) (ens es) nm),C.bool false]))):T (List C)).eval:=aAd (by kernel_rfl)
theorem aYp (H:List Pt→Nat→St→T (List C)) (ns:List (List C)) (es:List (List C)) (os:List (List C)) (ss:List (List C)) (r:Int) (x:Int) (nm:List UInt8):(aAe aX5 aAb (sg [aB2,pS] [rS,rB]) Tryz.f119 H [C.sl ns,C.sl es,C.sl os,C.sl ss,C.int .i64 r,C.int .i64 x,C.str nm]).eval=((.must (bEg ns es) (.ask (bHa (nds ns) (ens es) nm) (.ret [C.str (aHw (nds ns) (ens es) nm),C.bool true]) (.ret [C.str (aHw (nds ns) (ens es) nm),C.bool false]))):T (List C)).eval:=aAd (by kernel_rfl)
theorem bF4 (H:List Pt→Nat→St→T (List C)) (ns:List (List C)) (es:List (List C)) (os:List (List C)) (ss:List (List C)) (r:Int) (x:Int) (b:Int):(aAe bI5 aAb (sg [aB2,pI] [rS]) Tryz.f54 H [C.sl ns,C.sl es,C.sl os,C.sl ss,C.int .i64 r,C.int .i64 x,C.int .i64 b]).eval=((.must (bEg ns es) (.ask (bHa (nds ns) (ens es) (aB8 b)) (.ret [C.str (aHw (nds ns) (ens es) (aB8 b))]) (.ret [C.str (aHw (nds ns) (ens es) (aB8 b))]))):T (List C)).eval:=aAd (by kernel_rfl)
theorem bGs (H:List Pt→Nat→St→T (List C)) (ns:List (List C)) (es:List (List C)) (os:List (List C)) (ss:List (List C)) (r:Int) (x:Int) (b:Int):(aAe bId aAb (sg [aB2,pI] [rS]) Tryz.f92 H [C.sl ns,C.sl es,C.sl os,C.sl ss,C.int .i64 r,C.int .i64 x,C.int .i64 b]).eval=((.must (bEg ns es) (.ask (bHa (nds ns) (ens es) (aB8 b)) (.ret [C.str (aHw (nds ns) (ens es) (aB8 b))]) (.ret [C.str (aHw (nds ns) (ens es) (aB8 b))]))):T (List C)).eval:=aAd (by kernel_rfl)
theorem bKl (H:List Pt→Nat→St→T (List C)) (r:List (List C)) (nm:List UInt8) (n:Int) (i:Int) (k:Nat):(aB3 bNm aAb (sg [pSl 97,pF] [rI]) Tryz.f162 H [Pt.r,Pt.l,Pt.r,Pt.b] k (bN9 r nm n i)).eval=((.ask (decide (i<n)) (.must (decide ((0:Int)≤i)&&decide (i<(↑r.length:Int))&&decide ((r.getD i.toNat []).length=2)) (.must (decide (0<(r.getD i.toNat []).length)&&C.is K.str ((r.getD i.toNat []).getD 0 (C.fn 0 []))&&(decide (0+1<(r.getD i.toNat []).length)&&C.is (K.int .i64) ((r.getD i.toNat []).getD (0+1) (C.fn 0 []))&&true)) (.ask (decide (((r.getD i.toNat []).getD 0 (C.fn 0 [])).toStr=nm)) (.ret [C.int .i64 i]) (H [Pt.r,Pt.l,Pt.r,Pt.b] k (bN9 (r) (nm) (n) (IntKind.i64.wrap (i+(1:Int)))))))) (.ret [C.int .i64 (-1)])):T (List C)).eval:=aAd (by kernel_rfl)
theorem bKk (H:List Pt→Nat→St→T (List C)) (r:List (List C)) (id:Int) (n:Int) (i:Int) (k:Nat):(aB3 bNl aAb (sg [pSl 70,pF] [rI]) Tryz.f164 H [Pt.r,Pt.l,Pt.r,Pt.b] k (bN8 r id n i)).eval=((.ask (decide (i<n)) (.must (decide ((0:Int)≤i)&&decide (i<(↑r.length:Int))&&decide ((r.getD i.toNat []).length=3)) (.must (decide (0<(r.getD i.toNat []).length)&&C.is (K.int .i64) ((r.getD i.toNat []).getD 0 (C.fn 0 []))&&(decide (0+1<(r.getD i.toNat []).length)&&C.is K.str ((r.getD i.toNat []).getD (0+1) (C.fn 0 []))&&(decide (0+1+1<(r.getD i.toNat []).length)&&C.is (K.int .i64) ((r.getD i.toNat []).getD (0+1+1) (C.fn 0 []))&&true))) (.ask (decide (((r.getD i.toNat []).getD 0 (C.fn 0 [])).toInt=id)) (.ret [C.int .i64 i]) (H [Pt.r,Pt.l,Pt.r,Pt.b] k (bN8 (r) (id) (n) (IntKind.i64.wrap (i+(1:Int)))))))) (.ret [C.int .i64 (-1)])):T (List C)).eval:=aAd (by kernel_rfl)
theorem bDv (H:List Pt→Nat→St→T (List C)) (r:List (List C)) (nm:List UInt8) (i:Int) (k:Nat):(aB3 aTu aAb (sg [pSl 97,pS] [rI]) Tryz.f85 H [Pt.r,Pt.l,Pt.r,Pt.b] k (aTh r nm i)).eval=((.ask (decide (i<(↑r.length:Int))) (.must (decide ((0:Int)≤i)&&decide (i<(↑r.length:Int))&&decide ((r.getD i.toNat []).length=2)) (.must (decide (0+0<(r.getD i.toNat []).length)&&C.is K.str ((r.getD i.toNat []).getD (0+0) (C.fn 0 []))&&true) (.ask (((r.getD i.toNat []).getD (0+0) (C.fn 0 [])).toStr==nm) (.must (decide ((0:Int)≤i)&&decide (i<(↑r.length:Int))&&decide ((r.getD i.toNat []).length=2)) (.must (decide (0+1<(r.getD i.toNat []).length)&&C.is (K.int .i64) ((r.getD i.toNat []).getD (0+1) (C.fn 0 []))&&true) (.ret [C.int .i64 ((r.getD i.toNat []).getD (0+1) (C.fn 0 [])).toInt]))) (H [Pt.r,Pt.l,Pt.r,Pt.b] k (aTh (r) (nm) (IntKind.i64.wrap (i+(1:Int)))))))) (.ret [C.int .i64 0])):T (List C)).eval:=aAd (by kernel_rfl)
theorem bDc (H:List Pt→Nat→St→T (List C)) (r:List (List C)) (nm:List UInt8) (i:Int) (k:Nat):(aB3 aTs aAb (sg [pSl 97,pS] [rB]) Tryz.f86 H [Pt.r,Pt.l,Pt.r,Pt.b] k (aTf r nm i)).eval=((.ask (decide (i<(↑r.length:Int))) (.must (decide ((0:Int)≤i)&&decide (i<(↑r.length:Int))&&decide ((r.getD i.toNat []).length=2)) (.must (decide (0+0<(r.getD i.toNat []).length)&&C.is K.str ((r.getD i.toNat []).getD (0+0) (C.fn 0 []))&&true) (.ask (((r.getD i.toNat []).getD (0+0) (C.fn 0 [])).toStr==nm) (.ret [C.bool true]) (H [Pt.r,Pt.l,Pt.r,Pt.b] k (aTf (r) (nm) (IntKind.i64.wrap (i+(1:Int)))))))) (.ret [C.bool false])):T (List C)).eval:=aAd (by kernel_rfl)
theorem aY3 (H:List Pt→Nat→St→T (List C)) (ns:List (List C)) (es:List (List C)) (os:List (List C)) (ss:List (List C)) (r:Int) (x:Int) (id:Int) (i:Int) (k:Nat):(aB3 aPs aAb (sg [aB2,pI] [rI]) Tryz.f84 H [Pt.r,Pt.l,Pt.r,Pt.b] k (aPk ns es os ss r x id i)).eval=((.ask (decide (i<(↑ns.length:Int))) (.must (decide ((0:Int)≤i)&&decide (i<(↑ns.length:Int))&&decide ((ns.getD i.toNat []).length=3)) (.must (decide (0+0<(ns.getD i.toNat []).length)&&C.is (K.int .i64) ((ns.getD i.toNat []).getD (0+0) (C.fn 0 []))&&true) (.ask (decide (((ns.getD i.toNat []).getD (0+0) (C.fn 0 [])).toInt=id)) (.ret [C.int .i64 i]) (H [Pt.r,Pt.l,Pt.r,Pt.b] k (aPk (ns) (es) (os) (ss) (r) (x) (id) (IntKind.i64.wrap (i+(1:Int)))))))) (.ret [C.int .i64 (-1)])):T (List C)).eval:=aAd (by kernel_rfl)
theorem aJj {A:Type} (p:A→Bool):∀ (l:List A) (i:Nat),aCs p l i= -1∨((i:Int)≤aCs p l i∧aCs p l i<i+l.length)
 |[],i=>.inl rfl
 |x::r,i=>by
  simp only[aCs]
  split
  ·exact .inr ⟨Int.le_refl _,by simp;omega⟩
  ·rcases aJj p r (i+1)with h | h
   ·exact .inl h
   ·exact .inr ⟨by omega,by simp;omega⟩
theorem bJt (es:List En) (nm:List UInt8):aC3 es nm= -1∨(0≤aC3 es nm∧aC3 es nm<es.length):=by
 rcases aJj (bWh nm) es 0 with h | h
 ·exact .inl h
 ·refine .inr ?_
  unfold aC3
  omega
theorem bP4 (ns:List Nd) (id:Int):aCn ns id= -1∨(0≤aCn ns id∧aCn ns id<ns.length):=by
 rcases aJj (bX8 id) ns 0 with h | h
 ·exact .inl h
 ·refine .inr ?_
  unfold aCn
  omega
theorem cAd:aA6 Tryz.prog bXn:=aA5 (by simp[])
theorem aZu:aAm Tryz.prog 163 (sg [aGp,pP] [rB]) aT4:=aA3 cAd aA7 Tryz.func163 (by kernel_rfl) fun cs outs hk h=>by
 unfold aT4 at h
 split at h
 ·simp only[Option.some.injEq,Prod.mk.injEq,true_and]at h
  subst h
  rename_i n i nm
  rw[aA9,bTg]
  simp only[aA2,aA1,beq_iff_eq]
  split<;>simp_all
 ·cases h
theorem bZz:aA6 Tryz.prog bXl:=aA5 (by simp[])
theorem aZl:aAm Tryz.prog 165 (sg [aN8,pP] [rB]) aSy:=aA3 bZz aA7 Tryz.func165 (by kernel_rfl) fun cs outs hk h=>by
 unfold aSy at h
 split at h
 ·simp only[Option.some.injEq,Prod.mk.injEq,true_and]at h
  subst h
  rw[aA9,bS6]
  simp only[aA2,aA1,decide_eq_true_eq]
  split<;>simp_all
 ·cases h
theorem bSk (l:List En) (nm:List UInt8) (hl:l.length≤281474976710656):∀ (n i:Nat),i≤l.length→l.length<i+n →
  (aBl bNm aAb (sg [pSl 97,pF] [rI]) Tryz.f162 [.r,.l,.r,.b] n (bN9 (l.map eEn) nm l.length i)).eval=some [.int .i64 (aCs (bWh nm) (l.drop i) i)]:=by
 intro n
 induction n with
 |zero=>intro i h1 h2;omega
 |succ n ih =>
  intro i h1 h2
  rw[aAo _ _ _ _ _ _ _ (by kernel_rfl),bKl]
  by_cases hi:i<l.length
  ·have g:=aB1 eEn l ⟨[],0⟩ i hi
   have w:IntKind.i64.wrap ((i:Int)+1)=((i+1:Nat):Int):=by rw[aAh]<;>omega
   have hz:(0:Int)≤i:=by omega
   have hi':(i:Int)<l.length:=by omega
   rw[aBq l i ⟨[],0⟩ hi]
   generalize l.getD i ⟨[],0⟩=y at g ⊢
   simp only[aA0,aA2,aA1,if_true,decide_eq_true_eq,Bool.and_eq_true,w,hz,hi',Int.toNat_natCast,List.length_map,g,and_self,List.getD_cons_zero,List.getD_cons_succ,C.toStr,C.toInt,C.is,List.length_cons,List.length_nil,Nat.zero_add,Nat.reduceAdd,Nat.reduceLT,decide_true,beq_self_eq_true,aCs,bWh]
   by_cases hy:y.name=nm
   ·simp only[hy,if_true]
   ·simp only[hy,if_false]
    exact ih (i+1) (by omega) (by omega)
  ·have e:i=l.length:=by omega
   subst e
   have hi':¬((l.length:Int)<(l.length:Int)):=by omega
   simp only[aA2,aA1,decide_eq_true_eq,hi',if_false,List.drop_length,aCs]
theorem cA5:aA6 Tryz.prog bNm:=aA5 (by simp[aZu])
theorem bPb:aAm Tryz.prog 162 (sg [pSl 97,pF] [rI]) bCi:=aA3 cA5 aA7 Tryz.func162 (by kernel_rfl) fun cs outs hk h=>by
 unfold bCi at h
 split at h
 ·simp only[Option.some.injEq,Prod.mk.injEq,Bool.and_eq_true,decide_eq_true_eq]at h
  obtain⟨⟨rfl,h1,h2⟩,rfl⟩:=h
  rename_i rows nm
  have hr:=aF7 h2
  generalize ens rows=l at hr ⊢
  subst hr
  rw[List.length_map]at h1
  rw[aA9,bSj]
  have:=bSk l nm h1 9223372036854775808 0 (by omega) (by have:l.length≤281474976710656:=h1;omega)
  rw[show (l.length:Int)=((l.map eEn).length:Int) by rw[List.length_map]]at this
  exact this
 ·cases h
theorem bSg (l:List Nd) (id:Int) (hl:l.length≤281474976710656):∀ (n i:Nat),i≤l.length→l.length<i+n →
  (aBl bNl aAb (sg [pSl 70,pF] [rI]) Tryz.f164 [.r,.l,.r,.b] n (bN8 (l.map eNd) id l.length i)).eval=some [.int .i64 (aCs (bX8 id) (l.drop i) i)]:=by
 intro n
 induction n with
 |zero=>intro i h1 h2;omega
 |succ n ih =>
  intro i h1 h2
  rw[aAo _ _ _ _ _ _ _ (by kernel_rfl),bKk]
  by_cases hi:i<l.length
  ·have g:=aB1 eNd l ⟨0,[],0⟩ i hi
   have w:IntKind.i64.wrap ((i:Int)+1)=((i+1:Nat):Int):=by rw[aAh]<;>omega
   have hz:(0:Int)≤i:=by omega
   have hi':(i:Int)<l.length:=by omega
   rw[aBq l i ⟨0,[],0⟩ hi]
   generalize l.getD i ⟨0,[],0⟩=y at g ⊢
   simp only[aA0,aA2,aA1,if_true,decide_eq_true_eq,Bool.and_eq_true,w,hz,hi',Int.toNat_natCast,List.length_map,g,and_self,List.getD_cons_zero,List.getD_cons_succ,C.toStr,C.toInt,C.is,List.length_cons,List.length_nil,Nat.zero_add,Nat.reduceAdd,Nat.reduceLT,decide_true,beq_self_eq_true,aCs,bX8]
   by_cases hy:y.id=id
   ·simp only[hy,if_true]
   ·simp only[hy,if_false]
    exact ih (i+1) (by omega) (by omega)
  ·have e:i=l.length:=by omega
   subst e
   have hi':¬((l.length:Int)<(l.length:Int)):=by omega
   simp only[aA2,aA1,decide_eq_true_eq,hi',if_false,List.drop_length,aCs]
theorem cA4:aA6 Tryz.prog bNl:=aA5 (by simp[aZl])
theorem bP9:aAm Tryz.prog 164 (sg [pSl 70,pF] [rI]) bCg:=aA3 cA4 aA7 Tryz.func164 (by kernel_rfl) fun cs outs hk h=>by
 unfold bCg at h
 split at h
 ·simp only[Option.some.injEq,Prod.mk.injEq,Bool.and_eq_true,decide_eq_true_eq]at h
  obtain⟨⟨rfl,h1,h2⟩,rfl⟩:=h
  rename_i rows id
  have hr:=aGs h2
  generalize nds rows=l at hr ⊢
  subst hr
  rw[List.length_map]at h1
  rw[aA9,bSf]
  have:=bSg l id h1 9223372036854775808 0 (by omega) (by have:l.length≤281474976710656:=h1;omega)
  rw[show (l.length:Int)=((l.map eNd).length:Int) by rw[List.length_map]]at this
  exact this
 ·cases h
theorem bOz:aA6 Tryz.prog bAb:=aA5 (by simp[aZu,bPb])
theorem aY8:aAm Tryz.prog 124 (sg [pSl 97,pS] [rI]) aV5:=aA3 bOz aA7 Tryz.func124 (by kernel_rfl) fun cs outs hk h=>by
 unfold aV5 at h
 split at h
 ·simp only[Option.some.injEq,Prod.mk.injEq,Bool.and_eq_true,decide_eq_true_eq]at h
  obtain⟨⟨h1,h2⟩,rfl⟩:=h
  rw[aA9,bBy]
  simp only[kEn]at h2
  simp only[aA0,aA1,h1,h2,decide_true,Bool.and_self,if_true]
 ·cases h
theorem bS2:aA6 Tryz.prog bIa:=aA5 (by simp[aZl,bP9])
theorem bC4:aAm Tryz.prog 125 (sg [aB2,pI] [rI]) aGz:=aA3 bS2 aA7 Tryz.func125 (by kernel_rfl) fun cs outs hk h=>by
 unfold aGz at h
 split at h
 ·simp only[Option.some.injEq,Prod.mk.injEq,Bool.and_eq_true,decide_eq_true_eq]at h
  obtain⟨⟨h1,h2⟩,rfl⟩:=h
  rw[aA9,bG3]
  simp only[kNd]at h2
  simp only[aA0,aA1,h1,h2,decide_true,Bool.and_self,if_true]
 ·cases h
theorem cAc (l:List En) (nm:List UInt8) (i:Nat) (hi:i<l.length):aCs (bWh nm) (l.drop i) i=if (l.getD i ⟨[],0⟩).name=nm then (i:Int)else aCs (bWh nm) (l.drop (i+1)) (i+1):=by
 rw[aBq l i ⟨[],0⟩ hi]
 simp only[aCs,bWh,decide_eq_true_eq]
theorem cBp (l:List Nd) (id:Int) (i:Nat) (hi:i<l.length):aCs (bX8 id) (l.drop i) i=if (l.getD i ⟨0,[],0⟩).id=id then (i:Int)else aCs (bX8 id) (l.drop (i+1)) (i+1):=by
 rw[aBq l i ⟨0,[],0⟩ hi]
 simp only[aCs,bX8,decide_eq_true_eq]
theorem bLu (l:List En) (nm:List UInt8) (hl:l.length≤281474976710656):∀ (n i:Nat),i≤l.length→l.length<i+n→aC3 l nm=aCs (bWh nm) (l.drop i) i →
  (aBl aTu aAb (sg [pSl 97,pS] [rI]) Tryz.f85 [.r,.l,.r,.b] n (aTh (l.map eEn) nm i)).eval=some [.int .i64 (aFu l nm)]:=by
 intro n
 induction n with
 |zero=>intro i h1 h2;omega
 |succ n ih =>
  intro i h1 h2 h3
  rw[aAo _ _ _ _ _ _ _ (by kernel_rfl),bDv]
  by_cases hi:i<l.length
  ·have g:=aB1 eEn l ⟨[],0⟩ i hi
   have w:IntKind.i64.wrap ((i:Int)+1)=((i+1:Nat):Int):=by rw[aAh]<;>omega
   have hz:(0:Int)≤i:=by omega
   have hi':(i:Int)<l.length:=by omega
   rw[cAc l nm i hi]at h3
   simp only[aA0,aA2,aA1,if_true,decide_eq_true_eq,Bool.and_eq_true,w,hz,hi',Int.toNat_natCast,List.length_map,g,and_self,List.getD_cons_zero,List.getD_cons_succ,C.toStr,C.toInt,C.is,List.length_cons,List.length_nil,Nat.zero_add,Nat.add_zero,Nat.reduceAdd,Nat.reduceLT,decide_true,beq_self_eq_true,beq_iff_eq]
   by_cases hy:(l.getD i ⟨[],0⟩).name=nm
   ·simp only[if_pos hy]at h3 ⊢
    have:¬((i:Int)<0):=by omega
    unfold aFu
    rw[h3,if_neg this,Int.toNat_natCast]
   ·simp only[if_neg hy]at h3 ⊢
    exact ih (i+1) (by omega) (by omega) h3
  ·have e:i=l.length:=by omega
   subst e
   have hi':¬((l.length:Int)<(l.length:Int)):=by omega
   rw[List.drop_length]at h3
   simp only[aA2,aA1,decide_eq_true_eq,hi',if_false,List.length_map]
   unfold aFu
   rw[h3]
   rfl
theorem bWg:aA6 Tryz.prog aTu:=aA5 (by simp[])
theorem bHv:aAm Tryz.prog 85 (sg [pSl 97,pS] [rI]) aWh:=aA3 bWg aA7 Tryz.func85 (by kernel_rfl) fun cs outs hk h=>by
 unfold aWh at h
 split at h
 ·simp only[Option.some.injEq,Prod.mk.injEq,Bool.and_eq_true,decide_eq_true_eq]at h
  obtain⟨⟨h1,h2⟩,rfl⟩:=h
  rename_i rows nm
  have hr:=aF7 h2
  generalize ens rows=l at hr ⊢
  subst hr
  rw[List.length_map]at h1
  rw[aA9,bLt]
  exact bLu l nm h1 9223372036854775808 0 (by omega) (by have:l.length≤281474976710656:=h1;omega) rfl
 ·cases h
theorem bLh (l:List En) (nm:List UInt8) (hl:l.length≤281474976710656):∀ (n i:Nat),i≤l.length→l.length<i+n→aC3 l nm=aCs (bWh nm) (l.drop i) i →
  (aBl aTs aAb (sg [pSl 97,pS] [rB]) Tryz.f86 [.r,.l,.r,.b] n (aTf (l.map eEn) nm i)).eval=some [.bool (aYx l nm)]:=by
 intro n
 induction n with
 |zero=>intro i h1 h2;omega
 |succ n ih =>
  intro i h1 h2 h3
  rw[aAo _ _ _ _ _ _ _ (by kernel_rfl),bDc]
  by_cases hi:i<l.length
  ·have g:=aB1 eEn l ⟨[],0⟩ i hi
   have w:IntKind.i64.wrap ((i:Int)+1)=((i+1:Nat):Int):=by rw[aAh]<;>omega
   have hz:(0:Int)≤i:=by omega
   have hi':(i:Int)<l.length:=by omega
   rw[cAc l nm i hi]at h3
   simp only[aA0,aA2,aA1,if_true,decide_eq_true_eq,Bool.and_eq_true,w,hz,hi',Int.toNat_natCast,List.length_map,g,and_self,List.getD_cons_zero,List.getD_cons_succ,C.toStr,C.toInt,C.is,List.length_cons,List.length_nil,Nat.zero_add,Nat.add_zero,Nat.reduceAdd,Nat.reduceLT,decide_true,beq_self_eq_true,beq_iff_eq]
   by_cases hy:(l.getD i ⟨[],0⟩).name=nm
   ·simp only[if_pos hy]at h3 ⊢
    have:(0:Int)≤i:=by omega
    unfold aYx
    rw[h3,decide_eq_true this]
   ·simp only[if_neg hy]at h3 ⊢
    exact ih (i+1) (by omega) (by omega) h3
  ·have e:i=l.length:=by omega
   subst e
   have hi':¬((l.length:Int)<(l.length:Int)):=by omega
   rw[List.drop_length]at h3
   simp only[aA2,aA1,decide_eq_true_eq,hi',if_false,List.length_map]
   unfold aYx
   rw[h3]
   rfl
theorem bW7:aA6 Tryz.prog aTs:=aA5 (by simp[])
theorem bHc:aAm Tryz.prog 86 (sg [pSl 97,pS] [rB]) aW4:=aA3 bW7 aA7 Tryz.func86 (by kernel_rfl) fun cs outs hk h=>by
 unfold aW4 at h
 split at h
 ·simp only[Option.some.injEq,Prod.mk.injEq,Bool.and_eq_true,decide_eq_true_eq]at h
  obtain⟨⟨h1,h2⟩,rfl⟩:=h
  rename_i rows nm
  have hr:=aF7 h2
  generalize ens rows=l at hr ⊢
  subst hr
  rw[List.length_map]at h1
  rw[aA9,bLg]
  exact bLh l nm h1 9223372036854775808 0 (by omega) (by have:l.length≤281474976710656:=h1;omega) rfl
 ·cases h
theorem bF8 (l:List Nd) (es os ss:List (List C)) (r x id:Int) (hl:l.length≤281474976710656):∀ (n i:Nat),i≤l.length→l.length<i+n →
  (aBl aPs aAb (sg [aB2,pI] [rI]) Tryz.f84 [.r,.l,.r,.b] n (aPk (l.map eNd) es os ss r x id i)).eval=some [.int .i64 (aCs (bX8 id) (l.drop i) i)]:=by
 intro n
 induction n with
 |zero=>intro i h1 h2;omega
 |succ n ih =>
  intro i h1 h2
  rw[aAo _ _ _ _ _ _ _ (by kernel_rfl),aY3]
  by_cases hi:i<l.length
  ·have g:=aB1 eNd l ⟨0,[],0⟩ i hi
   have w:IntKind.i64.wrap ((i:Int)+1)=((i+1:Nat):Int):=by rw[aAh]<;>omega
   have hz:(0:Int)≤i:=by omega
   have hi':(i:Int)<l.length:=by omega
   rw[cBp l id i hi]
   simp only[aA0,aA2,aA1,if_true,decide_eq_true_eq,Bool.and_eq_true,w,hz,hi',Int.toNat_natCast,List.length_map,g,and_self,List.getD_cons_zero,List.getD_cons_succ,C.toStr,C.toInt,C.is,List.length_cons,List.length_nil,Nat.zero_add,Nat.add_zero,Nat.reduceAdd,Nat.reduceLT,decide_true,beq_self_eq_true]
   by_cases hy:(l.getD i ⟨0,[],0⟩).id=id
   ·simp only[if_pos hy]
   ·simp only[if_neg hy]
    exact ih (i+1) (by omega) (by omega)
  ·have e:i=l.length:=by omega
   subst e
   have hi':¬((l.length:Int)<(l.length:Int)):=by omega
   simp only[aA2,aA1,decide_eq_true_eq,hi',if_false,List.drop_length,aCs,List.length_map]
theorem bR6:aA6 Tryz.prog aPs:=aA5 (by simp[])
theorem bBi:aAm Tryz.prog 84 (sg [aB2,pI] [rI]) aGz:=aA3 bR6 aA7 Tryz.func84 (by kernel_rfl) fun cs outs hk h=>by
 unfold aGz at h
 split at h
 ·simp only[Option.some.injEq,Prod.mk.injEq,Bool.and_eq_true,decide_eq_true_eq]at h
  obtain⟨⟨h1,h2⟩,rfl⟩:=h
  rename_i ns es os ss r x id
  have hr:=aGs h2
  generalize nds ns=l at hr ⊢
  subst hr
  rw[List.length_map]at h1
  rw[aA9,bF7]
  exact bF8 l es os ss r x id h1 9223372036854775808 0 (by omega) (by have:l.length≤281474976710656:=h1;omega)
 ·cases h
theorem aSx {ns es:List (List C)}:bEg ns es=true↔ns.length≤bI0∧es.length≤bI0∧aAi kNd ns=true∧aAi kEn es=true:=by simp[bEg,and_assoc]
theorem bVe (es:List En) (nm:List UInt8) (h:¬aC3 es nm<0):(aC3 es nm).toNat<es.length∧0≤aC3 es nm∧aC3 es nm<es.length:=by
 rcases bJt es nm with h1 | h1<;>omega
theorem bK1 (ns:List Nd) (id:Int) (h:¬aCn ns id<0):(aCn ns id).toNat<ns.length∧0≤aCn ns id∧aCn ns id<ns.length:=by
 rcases bP4 ns id with h1 | h1<;>omega
theorem bS3:aA6 Tryz.prog bIb:=aA5 (by simp[aY8,bC4])
theorem bC5:aAm Tryz.prog 96 (sg [aB2,pS] [rI]) aQm:=aA3 bS3 aA7 Tryz.func96 (by kernel_rfl) fun cs outs hk h=>by
 unfold aQm at h
 split at h
 ·simp only[Option.some.injEq,Prod.mk.injEq,aSx]at h
  obtain⟨⟨h1,h2,h3,h4⟩,rfl⟩:=h
  rename_i ns es os ss r x nm
  have hr:=aF7 h4
  rw[aA9,bG4]
  simp only[kNd]at h3
  simp only[kEn]at h4
  simp only[aA0,aA2,aA1,h1,h2,h3,h4,decide_true,Bool.and_self,if_true]
  generalize ens es=l at hr ⊢
  subst hr
  unfold aDe
  simp only[decide_eq_true_eq,List.length_map]
  by_cases hp:aC3 l nm<0
  ·simp only[hp,if_true]
  ·obtain⟨c1,c2,c3⟩:=bVe l nm hp
   have g:=aB1 eEn l ⟨[],0⟩ (aC3 l nm).toNat c1
   unfold aFu
   simp only[hp,if_false,c2,c3,g,List.getD_cons_zero,List.getD_cons_succ,C.toStr,C.toInt,C.is,List.length_cons,List.length_nil,Nat.zero_add,Nat.add_zero,Nat.reduceAdd,Nat.reduceLT,decide_true,beq_self_eq_true,Bool.and_self,if_true]
 ·cases h
theorem bX7 (l:List Nd) (i:Nat) (hi:i<l.length):(l.map eNd).getD i []=[.int .i64 (l.getD i ⟨0,[],0⟩).id,.str (l.getD i ⟨0,[],0⟩).text,.int .i64 (l.getD i ⟨0,[],0⟩).sure]:=aB1 eNd l ⟨0,[],0⟩ i hi
theorem bHb (es:List En) (nm:List UInt8):aYx es nm=true↔¬aC3 es nm<0:=by simp[aYx]
theorem bR7:aA6 Tryz.prog bI6:=aA5 (by simp[bHv,bHc,bBi])
theorem bBj:aAm Tryz.prog 50 (sg [aB2,pS] [bBv,rB]) aH0:=aA3 bR7 aA7 Tryz.func50 (by kernel_rfl) fun cs outs hk h=>by
 unfold aH0 at h
 split at h
 ·simp only[Option.some.injEq,Prod.mk.injEq,aSx]at h
  obtain⟨⟨h1,h2,h3,h4⟩,rfl⟩:=h
  rename_i ns es os ss r x nm
  have hr:=aGs h3
  rw[aA9,bF9]
  simp only[kNd]at h3
  simp only[kEn]at h4
  simp only[aA0,aA2,aA1,h1,h2,h3,h4,decide_true,Bool.and_self,if_true]
  generalize nds ns=l at hr ⊢
  subst hr
  generalize ens es=m
  unfold cB3 aHw bS5 bHa bZd aDe
  simp only[decide_eq_true_eq,List.length_map]
  by_cases hp:aC3 m nm<0
  ·have he:aYx m nm=false:=by cases hh:aYx m nm with | false=>rfl | true=>exact absurd hp ((bHb m nm).1 hh)
   have d1:(-1:Int)<0:=by decide
   have d2:¬(0:Int)≤ -1:=by decide
   simp only[he,hp,if_true,Bool.false_eq_true,if_false,ite_self,d1,d2,decide_false]
  ·have he:aYx m nm=true:=(bHb m nm).2 hp
   by_cases hn:aCn l (aFu m nm)<0
   ·have:¬(0:Int)≤aCn l (aFu m nm):=by omega
    simp only[hp,hn,if_true,if_false,this,decide_false]
   ·obtain⟨c1,c2,c3⟩:=bK1 l (aFu m nm) hn
    have g:=bX7 l (aCn l (aFu m nm)).toNat c1
    simp only[he,hp,hn,if_false,c2,c3,g,List.getD_cons_zero,List.getD_cons_succ,C.toStr,C.toInt,C.is,List.length_cons,List.length_nil,Nat.zero_add,Nat.add_zero,Nat.reduceAdd,Nat.reduceLT,decide_true,beq_self_eq_true,Bool.and_self,if_true]
 ·cases h
theorem bSq:aA6 Tryz.prog bIe:=aA5 (by simp[bC5])
theorem bCz:aAm Tryz.prog 58 (sg [aB2,pS] [bBv,rB]) aH0:=aA3 bSq aA7 Tryz.func58 (by kernel_rfl) fun cs outs hk h=>by
 unfold aH0 at h
 split at h
 ·simp only[Option.some.injEq,Prod.mk.injEq]at h
  obtain⟨h0,rfl⟩:=h
  obtain⟨h1,h2,h3,h4⟩:=aSx.1 h0
  rename_i ns es os ss r x nm
  have hr:=aGs h3
  rw[aA9,bGv]
  simp only[aA0,h0,if_true]
  generalize nds ns=l at hr ⊢
  subst hr
  generalize ens es=m
  unfold cB3 aHw bS5 bHa bZd
  simp only[aA0,aA2,aA1,decide_eq_true_eq,List.length_map]
  by_cases hn:aDe l m nm<0
  ·have:¬(0:Int)≤aDe l m nm:=by omega
   simp only[hn,if_true,this,decide_false]
  ·have hp:¬aC3 m nm<0:=fun hp=>hn (by unfold aDe;rw[if_pos hp];decide)
   have e:aDe l m nm=aCn l (aFu m nm):=if_neg hp
   rw[e]at hn ⊢
   obtain⟨c1,c2,c3⟩:=bK1 l (aFu m nm) hn
   have g:=bX7 l (aCn l (aFu m nm)).toNat c1
   simp only[hn,if_false,c2,c3,g,List.getD_cons_zero,List.getD_cons_succ,C.toStr,C.toInt,C.is,List.length_cons,List.length_nil,Nat.zero_add,Nat.add_zero,Nat.reduceAdd,Nat.reduceLT,decide_true,beq_self_eq_true,Bool.and_self,if_true]
 ·cases h
theorem bJe:aA6 Tryz.prog aWx:=aA5 (by simp[bBj])
theorem aUr:aAm Tryz.prog 89 (sg [aB2,pS] [rS,rB]) aEt:=aA3 bJe aA7 Tryz.func89 (by kernel_rfl) fun cs outs hk h=>by
 unfold aEt at h
 split at h
 ·simp only[Option.some.injEq,Prod.mk.injEq]at h
  obtain⟨h0,rfl⟩:=h
  rw[aA9,aY0]
  simp only[aA0,aA2,aA1,h0,if_true]
  split<;>simp_all
 ·cases h
theorem bL2:aA6 Tryz.prog aX5:=aA5 (by simp[bCz])
theorem aVv:aAm Tryz.prog 119 (sg [aB2,pS] [rS,rB]) aEt:=aA3 bL2 aA7 Tryz.func119 (by kernel_rfl) fun cs outs hk h=>by
 unfold aEt at h
 split at h
 ·simp only[Option.some.injEq,Prod.mk.injEq]at h
  obtain⟨h0,rfl⟩:=h
  rw[aA9,aYp]
  simp only[aA0,aA2,aA1,h0,if_true]
  split<;>simp_all
 ·cases h
theorem bR5:aA6 Tryz.prog bI5:=aA5 (by simp[aF5,aUr])
theorem aJ7:aAm Tryz.prog 54 (sg [aB2,pI] [rS]) aE5:=aA3 bR5 aA7 Tryz.func54 (by kernel_rfl) fun cs outs hk h=>by
 unfold aE5 at h
 split at h
 ·simp only[Option.some.injEq,Prod.mk.injEq]at h
  obtain⟨h0,rfl⟩:=h
  rw[aA9,bF4]
  simp only[aA0,aA2,aA1,h0,if_true,aAv,ite_self]
 ·cases h
theorem bSp:aA6 Tryz.prog bId:=aA5 (by simp[aFc,aVv])
theorem aP4:aAm Tryz.prog 92 (sg [aB2,pI] [rS]) aE5:=aA3 bSp aA7 Tryz.func92 (by kernel_rfl) fun cs outs hk h=>by
 unfold aE5 at h
 split at h
 ·simp only[Option.some.injEq,Prod.mk.injEq]at h
  obtain⟨h0,rfl⟩:=h
  rw[aA9,bGs]
  simp only[aA0,aA2,aA1,h0,if_true,aAv,ite_self]
 ·cases h
noncomputable section
def aOz (l:Int) (r:List UInt8):Int:=(aAs (aIn l) (aAg r.length 4++r):Nat)
def aDj (l:Int) (rs:List (List UInt8)):Int:=rs.foldl aOz l
def aLg (b:List UInt8) (base link:Int):Bool:=aA8 b&&decide (rhB b=base)&&decide (rhL b=link)
def aP0 (b:List UInt8):Int:=aDj (ifI (aA8 b) (rhL b)) (aAn b)
def aGk (n:Nat) (rows:List (List C)):Bool:=(aGh rows).all fun x=>decide (x.length≤n)
def aDy:aC0:=fun cs=>match cs with
 |[.int .i64 l,.str r]=>some (decide (r.length≤1048576),[.int .i64 (aOz l r)])
 |_=>none
def aJh:aC0:=fun cs=>match cs with
 |[.int .i64 l,.sl rows]=>some (decide (rows.length≤16777216)&&(aAi [.str] rows&&aGk 1048576 rows),[.int .i64 (aDj l (aGh rows))])
 |_=>none
def aH5:aC0:=fun cs=>match cs with
 |[.str b,.int .i64 base,.int .i64 link]=>some (decide (b.length≤1048576),[.bool (aLg b base link)])
 |_=>none
def aGt:aC0:=fun cs=>match cs with
 |[.str b]=>some (decide (b.length≤1048576),[.sl ((aAn b).map aBf)])
 |_=>none
def aJi:aC0:=fun cs=>match cs with
 |[.str b]=>some (decide (b.length≤1048576),[.int .i64 (aP0 b)])
 |_=>none
def aMi (l:Int) (r:List (List C)) (n i:Int):St:=st0 [(0,aB0 l),(7,.l (.sl r)),(8,aB0 n),(9,aB0 i)]
def aI3 (ok mk:Bool) (v s q l e:Int) (n:Nat) (r:List (List C)) (m:Nat) (o:List (List C)) (acc i:Int):St:={slots:=[(3,.l (.ptr 0 0)),(4,aB0 acc),(5,aB0 i)],heap:=[(0,.box [.b ok,.i .i64 v,.i .i64 s,.i .i64 q,.i .i64 l,.ref 1 0 n,.ref 2 0 m,.i .i64 e,.b mk]),(1,.arr 1 r),(2,.arr 1 o)],next:=3,pins:=[]}
def aWy:Env:=mkE [] [(144,(sg [pI,pS] [rI]),aDr),(145,(sg [pI,pI] [rS]),aFh)]
def aX6:Env:=mkE [] [(160,(sg [pI,pS] [rI]),aDr),(161,(sg [pI,pI] [rS]),aFh)]
def aMy:Env:=mkE [(2,[0,7,8,9])] [(123,(sg [pI,pS] [rI]),aDy)]
def bI9:Env:=mkE [] [(112,(sg [pS] [aOw,rB]),aD8)]
def bIj:Env:=mkE [] [(120,(sg [pS] [aOw,rB]),aD8)]
def aRy:Env:=mkE [] [(90,(sg [pS] [aJd]),aF4)]
def aI5:Env:=mkE [(4,[3,4,5])] [(90,(sg [pS] [aJd]),aF4),(110,(sg [pI,pS] [rI]),aDy)]
abbrev Lk:=Int×List UInt8
def aEq (ns:List Nd) (es:List En):Nat→Int→Int→List Lk
 |0,_,_=>[]
 |f+1,base,sum =>
  if aLg (aAv ns es base) base sum&&decide ((aAn (aAv ns es base)).length≠0)then
   (base,aAv ns es base)::aEq ns es f (base+(aAn (aAv ns es base)).length) (aDj sum (aAn (aAv ns es base)))
  else[]
def aBn (ns:List Nd) (es:List En):List Lk:=aEq ns es 16 0 0
abbrev eLk (x:Lk):List C:=[.int .i64 x.1,.str x.2,.bool (aA8 x.2),.int .i64 (ifI (aA8 x.2) (rhV x.2)),.int .i64 (ifI (aA8 x.2) (rhS x.2)),.int .i64 (ifI (aA8 x.2) (rhB x.2)),.int .i64 (ifI (aA8 x.2) (rhL x.2)),
 .sl ((aAn x.2).map aBf),.sl ((aEg x.2).map aEf),.int .i64 (aKr x.2),.bool (aK6 x.2)]
def aF9 (l:List Lk):List (List C):=l.map eLk
def aBw (l:List Lk):List (List C):=l.map fun x=>aEf x.1
def aBh (l:List Lk):List (List UInt8):=l.flatMap fun x=>aAn x.2
def aHk (ns es:List (List C)):Bool:=bEg ns es&&(nds ns).all fun x=>decide (x.text.length≤1048576)
def aOx:aC0:=fun cs=>match cs with
 |[.sl ns,.sl es,.sl _,.sl _,.int .i64 _,.int .i64 _]=>some (aHk ns es,[.sl (aF9 (aBn (nds ns) (ens es)))])
 |_=>none
def aHm:aC0:=fun cs=>match cs with
 |[.sl ns,.sl es,.sl _,.sl _,.int .i64 _,.int .i64 _]=>some (aHk ns es,[.sl (aBw (aBn (nds ns) (ens es)))])
 |_=>none
def aGa:aC0:=fun cs=>match cs with
 |[.sl ns,.sl es,.sl _,.sl _,.int .i64 _,.int .i64 _]=>some (aHk ns es,[.sl ((aBh (aBn (nds ns) (ens es))).map aBf)])
 |_=>none
def aQp:aC0:=fun cs=>match cs with
 |[.sl ns,.sl es,.sl _,.sl _,.int .i64 _,.int .i64 _]=>some (aHk ns es,[.int .i64 (aBh (aBn (nds ns) (ens es))).length])
 |_=>none
abbrev bTj (ns es os ss:List (List C)) (r x:Int):Blk:=.box [.sl ns,.sl es,.sl os,.sl ss,.i .i64 r,.i .i64 x]
def aT7 (ns es os ss:List (List C)) (r x:Int) (n:Nat) (o:List (List C)) (base sum:Int):St:={slots:=[(1,.l (.ptr 0 0)),(3,.l (.ref 1 0 n)),(4,aB0 base),(5,aB0 sum)],heap:=[(0,bTj ns es os ss r x),(1,.arr 11 o)],next:=2,pins:=[]}
def aT6 (ns es os ss:List (List C)) (r x:Int) (n:Nat) (o:List (List C)) (base sum:Int):St:={slots:=[(1,.l (.ptr 0 0)),(3,.l (.ref 1 0 n)),(4,aB0 base),(5,aB0 sum)],heap:=[(0,bTj ns es os ss r x),(1,.arr 1 o)],next:=2,pins:=[]}
def aT5 (ns es os ss:List (List C)) (r x:Int) (n:Nat) (o:List (List C)) (m:Nat) (bs:List (List C)) (i:Int):St:={slots:=[(1,.l (.ptr 0 0)),(3,.l (.ref 1 0 n)),(4,.l (.ref 2 0 m)),(5,aB0 i)],heap:=[(0,bTj ns es os ss r x),(1,.arr 1 o),(2,.arr 1 bs)],next:=3,pins:=[]}
def aTc (n:Nat) (o:List (List C)) (m:Nat) (ls:List (List C)) (k i:Int):St:={slots:=[(3,.l (.ref 0 0 n)),(8,.l (.ref 1 0 m)),(9,aB0 k),(10,aB0 i)],heap:=[(0,.arr 1 o),(1,.arr 11 ls)],next:=2,pins:=[]}
def aTk:Env:=mkE [(3,[1,3,4,5])] [(93,(sg [pS] [aJd]),aF4),(92,(sg [aB2,pI] [rS]),aE5),(95,(sg [pI,pSl 9] [rI]),aJh),(94,(sg [pS,pI,pI] [rB]),aH5)]
def aTj:Env:=mkE [(4,[1,3,4,5])] [(54,(sg [aB2,pI] [rS]),aE5),(82,(sg [pS,pI,pI] [rB]),aH5),(76,(sg [pS] [rSl 9]),aGt),(83,(sg [pS] [rI]),aJi)]
def aTi:Env:=mkE [(4,[1,3,4,5])] [(54,(sg [aB2,pI] [rS]),aE5),(76,(sg [pS] [rSl 9]),aGt),(48,(sg [aB2] [rSl 3]),aHm)]
def aTp:Env:=mkE [(3,[3,8,9,10])] [(57,(⟨[aB2],[rSl 86],true⟩),aOx)]
def bIg:Env:=mkE [] [(80,(sg [aB2] [rSl 9]),aGa)]
end
theorem aY6 (H:List Pt→Nat→St→T (List C)) (l:Int) (r:List UInt8):(aAe aWy aAb (sg [pI,pS] [rI]) Tryz.f110 H [C.int .i64 l,C.str r]).eval=((.must (decide ((-9223372036854775808:Int)≤(↑r.length:Int))&&decide ((↑r.length:Int)≤(9223372036854775807:Int))) (.must (decide ((aAg (↑r.length:Int) 4).length+r.length≤9223372036854775807)) (.must (decide ((aAg (↑r.length:Int) 4++r).length≤281474976710656)) (.ret [C.int .i64 (Int.ofNat (aAs (aIn l) (aAg (↑r.length:Int) 4++r)))])))):T (List C)).eval:=aAd (by kernel_rfl)
theorem aYt (H:List Pt→Nat→St→T (List C)) (l:Int) (r:List UInt8):(aAe aX6 aAb (sg [pI,pS] [rI]) Tryz.f123 H [C.int .i64 l,C.str r]).eval=((.must (decide ((-9223372036854775808:Int)≤(↑r.length:Int))&&decide ((↑r.length:Int)≤(9223372036854775807:Int))) (.must (decide ((aAg (↑r.length:Int) 4).length+r.length≤9223372036854775807)) (.must (decide ((aAg (↑r.length:Int) 4++r).length≤281474976710656)) (.ret [C.int .i64 (Int.ofNat (aAs (aIn l) (aAg (↑r.length:Int) 4++r)))])))):T (List C)).eval:=aAd (by kernel_rfl)
theorem bC9 (H:List Pt→Nat→St→T (List C)) (l:Int) (r:List (List C)):(aAe aMy aAb (sg [pI,pSl 9] [rI]) Tryz.f95 H [C.int .i64 l,C.sl r]).eval=((H [Pt.r,Pt.l,Pt.r,Pt.b] 9223372036854775808 (aMi (l) (r) ((↑r.length:Int)) ((0:Int)))):T (List C)).eval:=aAd (by kernel_rfl)
theorem bFj (H:List Pt→Nat→St→T (List C)) (b:List UInt8) (x:Int) (l:Int):(aAe bI9 aAb (sg [pS,pI,pI] [rB]) Tryz.f82 H [C.str b,C.int .i64 x,C.int .i64 l]).eval=((.must (decide (b.length≤281474976710656)) (.ask (aA8 b) (.ask (decide (ifI (aA8 b) (rhB b)=x)) (.ask (decide (ifI (aA8 b) (rhL b)=l)) (.ret [C.bool true]) (.ret [C.bool false])) (.ret [C.bool false])) (.ret [C.bool false]))):T (List C)).eval:=aAd (by kernel_rfl)
theorem bH4 (H:List Pt→Nat→St→T (List C)) (b:List UInt8) (x:Int) (l:Int):(aAe bIj aAb (sg [pS,pI,pI] [rB]) Tryz.f94 H [C.str b,C.int .i64 x,C.int .i64 l]).eval=((.must (decide (b.length≤281474976710656)) (.ask (aA8 b) (.ask (decide (ifI (aA8 b) (rhB b)=x)) (.ask (decide (ifI (aA8 b) (rhL b)=l)) (.ret [C.bool true]) (.ret [C.bool false])) (.ret [C.bool false])) (.ret [C.bool false]))):T (List C)).eval:=aAd (by kernel_rfl)
theorem aUm (H:List Pt→Nat→St→T (List C)) (b:List UInt8):(aAe aRy aAb (sg [pS] [rSl 9]) Tryz.f76 H [C.str b]).eval=((.must (decide (b.length≤1048576)) (.must (decide (0<1)&&true&&(decide (0<1)&&true&&(decide (0<1)&&true&&(decide (0<1)&&true&&(decide (0<1)&&true&&((true&&(List.map aBf (aAn b)).all fun row=>decide (row.length=1))&&((true&&(List.map aEf (aEg b)).all fun row=>decide (row.length=1))&&(decide (0<1)&&true&&(decide (0<1)&&true&&true))))))))&&true&&true) (.must (decide ((List.map aBf (aAn b)).length=(List.map aBf (aAn b)).length)&&(false||(List.map aBf (aAn b)).all fun r=>r.all C.flat)&&true&&true&&true) (.ret [C.sl (List.map aBf (aAn b))])))):T (List C)).eval:=aAd (by kernel_rfl)
theorem aUt (H:List Pt→Nat→St→T (List C)) (b:List UInt8):(aAe aI5 aAb (sg [pS] [rI]) Tryz.f83 H [C.str b]).eval=((.must (decide (b.length≤1048576)) (.must (decide (0<1)&&true&&(decide (0<1)&&true&&(decide (0<1)&&true&&(decide (0<1)&&true&&(decide (0<1)&&true&&((true&&(List.map aBf (aAn b)).all fun row=>decide (row.length=1))&&((true&&(List.map aEf (aEg b)).all fun row=>decide (row.length=1))&&(decide (0<1)&&true&&(decide (0<1)&&true&&true))))))))&&true&&true) (H [Pt.r,Pt.r,Pt.r,Pt.l,Pt.r,Pt.b] 9223372036854775808 (aI3 (aA8 b) (aK6 b) (ifI (aA8 b) (rhV b)) (ifI (aA8 b) (rhS b)) (ifI (aA8 b) (rhB b)) (ifI (aA8 b) (rhL b)) (aKr b) ((List.map aBf (aAn b)).length) (List.map aBf (aAn b)) ((List.map aEf (aEg b)).length) (List.map aEf (aEg b)) (ifI (aA8 b) (rhL b)) ((0:Int)))))):T (List C)).eval:=aAd (by kernel_rfl)
theorem aVi (H:List Pt→Nat→St→T (List C)) (l:Int) (r:List (List C)) (n:Int) (i:Int) (k:Nat):(aB3 aMy aAb (sg [pI,pSl 9] [rI]) Tryz.f95 H [Pt.r,Pt.l,Pt.r,Pt.b] k (aMi l r n i)).eval=((.ask (decide (i<n)) (.must (decide ((0:Int)≤i)&&decide (i<(↑r.length:Int))&&decide ((r.getD i.toNat []).length=1)) (.must (decide (0<(r.getD i.toNat []).length)&&C.is K.str ((r.getD i.toNat []).getD 0 (C.fn 0 []))&&true) (.must (decide (((r.getD i.toNat []).getD 0 (C.fn 0 [])).toStr.length≤1048576)) (H [Pt.r,Pt.l,Pt.r,Pt.b] k (aMi (aOz l ((r.getD i.toNat []).getD 0 (C.fn 0 [])).toStr) (r) (n) (IntKind.i64.wrap (i+(1:Int)))))))) (.ret [C.int .i64 l])):T (List C)).eval:=aAd (by kernel_rfl)
theorem aQh (H:List Pt→Nat→St→T (List C)) (ok:Bool) (mk:Bool) (v:Int) (s:Int) (q:Int) (l:Int) (e:Int) (n:Nat) (r:List (List C)) (m2:Nat) (o:List (List C)) (acc:Int) (i:Int) (k:Nat):(aB3 aI5 aAb (sg [pS] [rI]) Tryz.f83 H [Pt.r,Pt.r,Pt.r,Pt.l,Pt.r,Pt.b] k (aI3 ok mk v s q l e n r m2 o acc i)).eval=((.ask (decide (i<(↑n:Int))) (.must (decide ((0:Int)≤i)&&decide (i<(↑n:Int))) (.must (decide (0+i.toNat<r.length)&&(decide (0<(r.getD (0+i.toNat) []).length)&&C.is K.str ((r.getD (0+i.toNat) []).getD 0 (C.fn 0 []))&&true)) (.must (decide (((r.getD (0+i.toNat) []).getD 0 (C.fn 0 [])).toStr.length≤1048576)) (H [Pt.r,Pt.r,Pt.r,Pt.l,Pt.r,Pt.b] k (aI3 (ok) (mk) (v) (s) (q) (l) (e) (n) (r) (m2) (o) (aOz acc ((r.getD (0+i.toNat) []).getD 0 (C.fn 0 [])).toStr) (IntKind.i64.wrap (i+(1:Int)))))))) (.ret [C.int .i64 acc])):T (List C)).eval:=aAd (by kernel_rfl)
theorem bK9 (H:List Pt→Nat→St→T (List C)) (ns:List (List C)) (es:List (List C)) (os:List (List C)) (ss:List (List C)) (r:Int) (x:Int):(aAe aTk aAb {params:=[aB2],results:=[rSl 86],nested:=true} Tryz.f57 H [C.sl ns,C.sl es,C.sl os,C.sl ss,C.int .i64 r,C.int .i64 x]).eval=((H [Pt.r,Pt.r,Pt.r,Pt.l,Pt.b] 9223372036854775808 (aT7 (ns) (es) (os) (ss) (r) (x) (0) ([]) ((0:Int)) ((0:Int)))):T (List C)).eval:=aAd (by kernel_rfl)
theorem bJm (H:List Pt→Nat→St→T (List C)) (ns:List (List C)) (es:List (List C)) (os:List (List C)) (ss:List (List C)) (r:Int) (x:Int):(aAe aTj aAb (sg [aB2] [rSl 3]) Tryz.f48 H [C.sl ns,C.sl es,C.sl os,C.sl ss,C.int .i64 r,C.int .i64 x]).eval=((H [Pt.r,Pt.r,Pt.r,Pt.r,Pt.l,Pt.b] 9223372036854775808 (aT6 (ns) (es) (os) (ss) (r) (x) (0) ([]) ((0:Int)) ((0:Int)))):T (List C)).eval:=aAd (by kernel_rfl)
theorem bJa (H:List Pt→Nat→St→T (List C)) (ns:List (List C)) (es:List (List C)) (os:List (List C)) (ss:List (List C)) (r:Int) (x:Int):(aAe aTi aAb (sg [aB2] [rSl 9]) Tryz.f36 H [C.sl ns,C.sl es,C.sl os,C.sl ss,C.int .i64 r,C.int .i64 x]).eval=((.must (aHk ns es) (.must ((true&&(aBw (aBn (nds ns) (ens es))).all fun row=>decide (row.length=1))&&true&&true&&true) (H [Pt.r,Pt.r,Pt.r,Pt.l,Pt.r,Pt.b] 9223372036854775808 (aT5 (ns) (es) (os) (ss) (r) (x) (0) ([]) ((aBw (aBn (nds ns) (ens es))).length) (aBw (aBn (nds ns) (ens es))) ((0:Int)))))):T (List C)).eval:=aAd (by kernel_rfl)
theorem bKy (H:List Pt→Nat→St→T (List C)) (ns:List (List C)) (es:List (List C)) (os:List (List C)) (ss:List (List C)) (r:Int) (x:Int):(aAe aTp aAb (sg [aB2] [rSl 9]) Tryz.f80 H [C.sl ns,C.sl es,C.sl os,C.sl ss,C.int .i64 r,C.int .i64 x]).eval=((.must (aHk ns es) (.must ((true&&(aF9 (aBn (nds ns) (ens es))).all fun row=>decide (row.length=11))&&true&&true&&true) (H [Pt.r,Pt.r,Pt.l,Pt.r,Pt.b] 9223372036854775808 (aTc (0) ([]) ((aF9 (aBn (nds ns) (ens es))).length) (aF9 (aBn (nds ns) (ens es))) ((↑(aF9 (aBn (nds ns) (ens es))).length:Int)) ((0:Int)))))):T (List C)).eval:=aAd (by kernel_rfl)
theorem aOy (H:List Pt→Nat→St→T (List C)) (ns:List (List C)) (es:List (List C)) (os:List (List C)) (ss:List (List C)) (r:Int) (x:Int) (n:Nat) (o:List (List C)) (base:Int) (sum:Int) (k:Nat):(aB3 aTk aAb {params:=[aB2],results:=[rSl 86],nested:=true} Tryz.f57 H [Pt.r,Pt.r,Pt.r,Pt.l,Pt.b] k (aT7 ns es os ss r x n o base sum)).eval=((.ask (decide ((↑n:Int)<(16:Int))) (.must (bEg ns es) (.must (decide ((aAv (nds ns) (ens es) base).length≤1048576)) (.must (decide (0<1)&&true&&(decide (0<1)&&true&&(decide (0<1)&&true&&(decide (0<1)&&true&&(decide (0<1)&&true&&((true&&(List.map aBf (aAn (aAv (nds ns) (ens es) base))).all fun row=>decide (row.length=1))&&((true&&(List.map aEf (aEg (aAv (nds ns) (ens es) base))).all fun row=>decide (row.length=1))&&(decide (0<1)&&true&&(decide (0<1)&&true&&true))))))))&&true&&true) (.must (decide ((aAv (nds ns) (ens es) base).length≤1048576)) (.ask (aLg (aAv (nds ns) (ens es) base) base sum) (.ask (decide ((↑(List.map aBf (aAn (aAv (nds ns) (ens es) base))).length:Int)=(0:Int))) (.must (decide (n=o.length)&&(true||o.all fun r=>r.all C.flat)&&true&&true&&true) (.ret [C.sl o])) (.must (decide (n=o.length)&&aBg (o.length+1) 128&&(decide (((((((((((Nat.add 1 0).succ.add 0).succ.add 0).succ.add 0).succ.add 0).succ.add 0).succ.add 0).succ.add 0).succ.add 0).succ.add 0).succ=11)&&true)) (.must (decide ((List.take (List.map aBf (aAn (aAv (nds ns) (ens es) base))).length (List.map aBf (aAn (aAv (nds ns) (ens es) base)))).length≤16777216)&&(aAi [K.str] (List.take (List.map aBf (aAn (aAv (nds ns) (ens es) base))).length (List.map aBf (aAn (aAv (nds ns) (ens es) base))))&&aGk 1048576 (List.take (List.map aBf (aAn (aAv (nds ns) (ens es) base))).length (List.map aBf (aAn (aAv (nds ns) (ens es) base)))))) (H [Pt.r,Pt.r,Pt.r,Pt.l,Pt.b] k (aT7 (ns) (es) (os) (ss) (r) (x) (o.length+1) (o.append [[C.int .i64 base,C.str (aAv (nds ns) (ens es) base),C.bool (aA8 (aAv (nds ns) (ens es) base)),C.int .i64 (ifI (aA8 (aAv (nds ns) (ens es) base)) (rhV (aAv (nds ns) (ens es) base))),C.int .i64 (ifI (aA8 (aAv (nds ns) (ens es) base)) (rhS (aAv (nds ns) (ens es) base))),C.int .i64 (ifI (aA8 (aAv (nds ns) (ens es) base)) (rhB (aAv (nds ns) (ens es) base))),C.int .i64 (ifI (aA8 (aAv (nds ns) (ens es) base)) (rhL (aAv (nds ns) (ens es) base))),C.sl (List.take (List.map aBf (aAn (aAv (nds ns) (ens es) base))).length (List.map aBf (aAn (aAv (nds ns) (ens es) base)))),C.sl (List.take (List.map aEf (aEg (aAv (nds ns) (ens es) base))).length (List.map aEf (aEg (aAv (nds ns) (ens es) base)))),C.int .i64 (aKr (aAv (nds ns) (ens es) base)),C.bool (aK6 (aAv (nds ns) (ens es) base))]]) (IntKind.i64.wrap (base+(↑(List.map aBf (aAn (aAv (nds ns) (ens es) base))).length:Int))) (aDj sum (aGh (List.take (List.map aBf (aAn (aAv (nds ns) (ens es) base))).length (List.map aBf (aAn (aAv (nds ns) (ens es) base))))))))))) (.must (decide (n=o.length)&&(true||o.all fun r=>r.all C.flat)&&true&&true&&true) (.ret [C.sl o]))))))) (.must (decide (n=o.length)&&(true||o.all fun r=>r.all C.flat)&&true&&true&&true) (.ret [C.sl o]))):T (List C)).eval:=aAd (by kernel_rfl)
theorem aOq (H:List Pt→Nat→St→T (List C)) (ns:List (List C)) (es:List (List C)) (os:List (List C)) (ss:List (List C)) (r:Int) (x:Int) (n:Nat) (o:List (List C)) (base:Int) (sum:Int) (k:Nat):(aB3 aTj aAb (sg [aB2] [rSl 3]) Tryz.f48 H [Pt.r,Pt.r,Pt.r,Pt.r,Pt.l,Pt.b] k (aT6 ns es os ss r x n o base sum)).eval=((.ask (decide ((↑n:Int)<(16:Int))) (.must (bEg ns es) (.must (decide ((aAv (nds ns) (ens es) base).length≤1048576)) (.must ((true&&(List.map aBf (aAn (aAv (nds ns) (ens es) base))).all fun row=>decide (row.length=1))&&true&&true&&true) (.ask (decide ((↑(List.map aBf (aAn (aAv (nds ns) (ens es) base))).length:Int)=(0:Int))) (.must (decide (n=o.length)&&(false||o.all fun r=>r.all C.flat)&&true&&true&&true) (.ret [C.sl o])) (.must (decide ((aAv (nds ns) (ens es) base).length≤1048576)) (.ask (aLg (aAv (nds ns) (ens es) base) base sum) (.must (decide (n=o.length)&&aBg (o.length+1) 8&&(decide (1=1)&&true)) (.must (decide ((aAv (nds ns) (ens es) base).length≤1048576)) (H [Pt.r,Pt.r,Pt.r,Pt.r,Pt.l,Pt.b] k (aT6 (ns) (es) (os) (ss) (r) (x) (o.length+1) (o.append [[C.int .i64 base]]) (IntKind.i64.wrap (base+(↑(List.map aBf (aAn (aAv (nds ns) (ens es) base))).length:Int))) (aP0 (aAv (nds ns) (ens es) base)))))) (.must (decide (n=o.length)&&(false||o.all fun r=>r.all C.flat)&&true&&true&&true) (.ret [C.sl o])))))))) (.must (decide (n=o.length)&&(false||o.all fun r=>r.all C.flat)&&true&&true&&true) (.ret [C.sl o]))):T (List C)).eval:=aAd (by kernel_rfl)
theorem bBa (H:List Pt→Nat→St→T (List C)) (ns:List (List C)) (es:List (List C)) (os:List (List C)) (ss:List (List C)) (r:Int) (x:Int) (n:Nat) (o:List (List C)) (m2:Nat) (bs:List (List C)) (i:Int) (k:Nat):(aB3 aTi aAb (sg [aB2] [rSl 9]) Tryz.f36 H [Pt.r,Pt.r,Pt.r,Pt.l,Pt.r,Pt.b] k (aT5 ns es os ss r x n o m2 bs i)).eval=((.ask (decide (i<(↑m2:Int))) (.must (decide ((0:Int)≤i)&&decide (i<(↑m2:Int))) (.must (decide (0+i.toNat<bs.length)&&(decide (0<(bs.getD (0+i.toNat) []).length)&&C.is (K.int .i64) ((bs.getD (0+i.toNat) []).getD 0 (C.fn 0 []))&&true)) (.must (bEg ns es) (.must (decide ((aAv (nds ns) (ens es) ((bs.getD (0+i.toNat) []).getD 0 (C.fn 0 [])).toInt).length≤1048576)) (.must ((true&&(List.map aBf (aAn (aAv (nds ns) (ens es) ((bs.getD (0+i.toNat) []).getD 0 (C.fn 0 [])).toInt))).all fun row=>decide (row.length=1))&&true&&true&&true) (.must (decide (n=o.length)&&aBg (o.length+(List.take (List.map aBf (aAn (aAv (nds ns) (ens es) ((bs.getD (0+i.toNat) []).getD 0 (C.fn 0 [])).toInt))).length (List.map aBf (aAn (aAv (nds ns) (ens es) ((bs.getD (0+i.toNat) []).getD 0 (C.fn 0 [])).toInt)))).length) 16&&(List.take (List.map aBf (aAn (aAv (nds ns) (ens es) ((bs.getD (0+i.toNat) []).getD 0 (C.fn 0 [])).toInt))).length (List.map aBf (aAn (aAv (nds ns) (ens es) ((bs.getD (0+i.toNat) []).getD 0 (C.fn 0 [])).toInt)))).all fun r=>decide (r.length=1)) (H [Pt.r,Pt.r,Pt.r,Pt.l,Pt.r,Pt.b] k (aT5 (ns) (es) (os) (ss) (r) (x) (o.length+(List.take (List.map aBf (aAn (aAv (nds ns) (ens es) ((bs.getD (0+i.toNat) []).getD 0 (C.fn 0 [])).toInt))).length (List.map aBf (aAn (aAv (nds ns) (ens es) ((bs.getD (0+i.toNat) []).getD 0 (C.fn 0 [])).toInt)))).length) (o.append (List.take (List.map aBf (aAn (aAv (nds ns) (ens es) ((bs.getD (0+i.toNat) []).getD 0 (C.fn 0 [])).toInt))).length (List.map aBf (aAn (aAv (nds ns) (ens es) ((bs.getD (0+i.toNat) []).getD 0 (C.fn 0 [])).toInt))))) (m2) (bs) (IntKind.i64.wrap (i+(1:Int))))))))))) (.must (decide (n=o.length)&&(false||o.all fun r=>r.all C.flat)&&true&&true&&true) (.ret [C.sl o]))):T (List C)).eval:=aAd (by kernel_rfl)
theorem bCr (H:List Pt→Nat→St→T (List C)) (n:Nat) (o:List (List C)) (m2:Nat) (ls:List (List C)) (k2:Int) (i:Int) (k:Nat):(aB3 aTp aAb (sg [aB2] [rSl 9]) Tryz.f80 H [Pt.r,Pt.r,Pt.l,Pt.r,Pt.b] k (aTc n o m2 ls k2 i)).eval=((.ask (decide (i<k2)) (.must (decide ((0:Int)≤i)&&decide (i<(↑m2:Int))) (.must (decide (0+i.toNat<ls.length)&&(decide (0<(ls.getD (0+i.toNat) []).length)&&C.is (K.int .i64) ((ls.getD (0+i.toNat) []).getD 0 (C.fn 0 []))&&(decide (0+1<(ls.getD (0+i.toNat) []).length)&&C.is K.str ((ls.getD (0+i.toNat) []).getD (0+1) (C.fn 0 []))&&(decide (0+1+1<(ls.getD (0+i.toNat) []).length)&&C.is K.bool ((ls.getD (0+i.toNat) []).getD (0+1+1) (C.fn 0 []))&&(decide (0+1+1+1<(ls.getD (0+i.toNat) []).length)&&C.is (K.int .i64) ((ls.getD (0+i.toNat) []).getD (0+1+1+1) (C.fn 0 []))&&(decide (0+1+1+1+1<(ls.getD (0+i.toNat) []).length)&&C.is (K.int .i64) ((ls.getD (0+i.toNat) []).getD (0+1+1+1+1) (C.fn 0 []))&&(decide (0+1+1+1+1+1<(ls.getD (0+i.toNat) []).length)&&C.is (K.int .i64) ((ls.getD (0+i.toNat) []).getD (0+1+1+1+1+1) (C.fn 0 []))&&(decide (0+1+1+1+1+1+1<(ls.getD (0+i.toNat) []).length)&&C.is (K.int .i64) ((ls.getD (0+i.toNat) []).getD (0+1+1+1+1+1+1) (C.fn 0 []))&&(decide (0+1+1+1+1+1+1+1<(ls.getD (0+i.toNat) []).length)&&C.is (K.slice 9) ((ls.getD (0+i.toNat) []).getD (0+1+1+1+1+1+1+1) (C.fn 0 []))&&(decide (0+1+1+1+1+1+1+1+1<(ls.getD (0+i.toNat) []).length)&&C.is (K.slice 3) ((ls.getD (0+i.toNat) []).getD (0+1+1+1+1+1+1+1+1) (C.fn 0 []))&&(decide (0+1+1+1+1+1+1+1+1+1<(ls.getD (0+i.toNat) []).length)&&C.is (K.int .i64) ((ls.getD (0+i.toNat) []).getD (0+1+1+1+1+1+1+1+1+1) (C.fn 0 []))&&(decide (0+1+1+1+1+1+1+1+1+1+1<(ls.getD (0+i.toNat) []).length)&&C.is K.bool ((ls.getD (0+i.toNat) []).getD (0+1+1+1+1+1+1+1+1+1+1) (C.fn 0 []))&&true)))))))))))) (.must (decide (n=o.length)&&aBg (o.length+((ls.getD (0+i.toNat) []).getD (0+1+1+1+1+1+1+1) (C.fn 0 [])).toRows.length) 16&&((ls.getD (0+i.toNat) []).getD (0+1+1+1+1+1+1+1) (C.fn 0 [])).toRows.all fun r=>decide (r.length=1)) (H [Pt.r,Pt.r,Pt.l,Pt.r,Pt.b] k (aTc (o.length+((ls.getD (0+i.toNat) []).getD (0+1+1+1+1+1+1+1) (C.fn 0 [])).toRows.length) (o.append ((ls.getD (0+i.toNat) []).getD (0+1+1+1+1+1+1+1) (C.fn 0 [])).toRows) (m2) (ls) (k2) (IntKind.i64.wrap (i+(1:Int)))))))) (.must (decide (n=o.length)&&(false||o.all fun r=>r.all C.flat)&&true&&true&&true) (.ret [C.sl o]))):T (List C)).eval:=aAd (by kernel_rfl)
theorem bH0 (H:List Pt→Nat→St→T (List C)) (ns:List (List C)) (es:List (List C)) (os:List (List C)) (ss:List (List C)) (r:Int) (x:Int):(aAe bIg aAb (sg [aB2] [rI]) Tryz.f40 H [C.sl ns,C.sl es,C.sl os,C.sl ss,C.int .i64 r,C.int .i64 x]).eval=((.must (aHk ns es) (.must ((true&&(List.map aBf (aBh (aBn (nds ns) (ens es)))).all fun row=>decide (row.length=1))&&true&&true&&true) (.ret [C.int .i64 (↑(List.map aBf (aBh (aBn (nds ns) (ens es)))).length:Int)]))):T (List C)).eval:=aAd (by kernel_rfl)
theorem bF2 (v p:Int) (b:List UInt8):∀ (f:Nat) (k e:Int) (rs:List (List UInt8)) (os:List Int),(rs.length:Int)≤e→e≤b.length→rs.length=os.length→(∀ r∈rs,r.length≤60) →
  ((aCr v p b f k e rs os).1.length:Int)≤b.length∧(aCr v p b f k e rs os).1.length=(aCr v p b f k e rs os).2.1.length∧∀ r∈(aCr v p b f k e rs os).1,r.length≤60:=by
 intro f
 induction f with
 |zero=>intro k e rs os h1 h2 h3 h4;exact⟨by simp only[aCr];omega,h3,h4⟩
 |succ f ih =>
  intro k e rs os h1 h2 h3 h4
  simp only[aCr]
  split
  ·exact⟨(show (rs.length:Int)≤b.length by omega),h3,h4⟩
  ·split
   ·rename_i hok
    obtain⟨g1,g2,g3⟩:=aLx _ _ _ _ hok
    refine ih _ _ _ _ (by simp;omega) g2 (by simp[h3]) fun r hr=>?_
    rcases List.mem_append.1 hr with hr | hr
    ·exact h4 r hr
    ·obtain rfl:=List.mem_singleton.1 hr
     unfold aO1
     rw[if_pos hok]
     unfold bBs at hok
     simp only[Bool.and_eq_true,decide_eq_true_eq]at hok
     unfold aHa
     simp
     omega
   ·exact⟨(show (rs.length:Int)≤b.length by omega),h3,h4⟩
theorem aE7 (b:List UInt8):(aAn b).length≤b.length∧(aAn b).length=(aEg b).length∧∀ r∈aAn b,r.length≤60:=by
 unfold aAn aEg aH8
 by_cases h:aA8 b=true
 ·rw[if_pos h]
  have h24:24≤b.length:=by
   unfold aA8 at h
   simp only[Bool.and_eq_true,decide_eq_true_eq]at h
   exact h.1.1
  obtain⟨a1,a2,a3⟩:=bF2 (rhV b) (rhB b) b (b.length+1) 0 24 [] [] (by simp) (by omega) rfl (fun r hr=>by cases hr)
  exact⟨by omega,a2,a3⟩
 ·rw[if_neg h]
  exact⟨by simp,rfl,fun r hr=>by cases hr⟩
theorem aN7 (l:List (List UInt8)):((l.map aBf).all fun row=>decide (row.length=1))=true:=by simp
theorem aRl (l:List Int):((l.map aEf).all fun row=>decide (row.length=1))=true:=by simp
theorem aJ5 (n:Nat) (l:List (List UInt8)):aGk n (l.map aBf)=true↔∀ x∈l,x.length≤n:=by simp[aGk]
theorem bJg:aA6 Tryz.prog aWy:=aA5 (by simp[aNa,aEj])
theorem aKv:aAm Tryz.prog 110 (sg [pI,pS] [rI]) aDy:=aA3 bJg aA7 Tryz.func110 (by kernel_rfl) fun cs outs hk h=>by
 unfold aDy at h
 split at h
 ·simp only[Option.some.injEq,Prod.mk.injEq,decide_eq_true_eq]at h
  obtain⟨h1,rfl⟩:=h
  rename_i l r
  rw[aA9,aY6]
  have l1:=aB5 (r.length:Int) 4
  have a1:(-9223372036854775808:Int)≤r.length:=by omega
  have a2:(r.length:Int)≤9223372036854775807:=by omega
  have a3:(aAg (r.length:Int) 4).length+r.length≤9223372036854775807:=by omega
  have a4:(aAg (r.length:Int) 4++r).length≤281474976710656:=by simp;omega
  simp only[aA0,aA1,a1,a2,a3,a4,decide_true,Bool.and_self,if_true]
  rfl
 ·cases h
theorem bL6:aA6 Tryz.prog aX6:=aA5 (by simp[aNh,aEk])
theorem aVx:aAm Tryz.prog 123 (sg [pI,pS] [rI]) aDy:=aA3 bL6 aA7 Tryz.func123 (by kernel_rfl) fun cs outs hk h=>by
 unfold aDy at h
 split at h
 ·simp only[Option.some.injEq,Prod.mk.injEq,decide_eq_true_eq]at h
  obtain⟨h1,rfl⟩:=h
  rename_i l r
  rw[aA9,aYt]
  have l1:=aB5 (r.length:Int) 4
  have a1:(-9223372036854775808:Int)≤r.length:=by omega
  have a2:(r.length:Int)≤9223372036854775807:=by omega
  have a3:(aAg (r.length:Int) 4).length+r.length≤9223372036854775807:=by omega
  have a4:(aAg (r.length:Int) 4++r).length≤281474976710656:=by simp;omega
  simp only[aA0,aA1,a1,a2,a3,a4,decide_true,Bool.and_self,if_true]
  rfl
 ·cases h
theorem bCa (rs:List (List UInt8)) (h60:∀ x∈rs,x.length≤1048576) (hl:rs.length≤16777216):∀ (n i:Nat) (l:Int),i≤rs.length→rs.length<i+n →
  (aBl aMy aAb (sg [pI,pSl 9] [rI]) Tryz.f95 [.r,.l,.r,.b] n (aMi l (rs.map aBf) rs.length i)).eval=some [.int .i64 (aDj l (rs.drop i))]:=by
 intro n
 induction n with
 |zero=>intro i l h1 h2;omega
 |succ n ih =>
  intro i l h1 h2
  rw[aAo _ _ _ _ _ _ _ (by kernel_rfl),aVi]
  by_cases hi:i<rs.length
  ·have g:=aB1 aBf rs [] i hi
   have w:IntKind.i64.wrap ((i:Int)+1)=((i+1:Nat):Int):=by rw[aAh]<;>omega
   have hz:(0:Int)≤i:=by omega
   have hi':(i:Int)<rs.length:=by omega
   have hm:rs.getD i []∈rs:=by rw[List.getD_eq_getElem?_getD,List.getElem?_eq_getElem hi];exact List.getElem_mem hi
   have hx:=h60 _ hm
   rw[aBq rs i [] hi]
   generalize rs.getD i []=y at g hx ⊢
   simp only[aA0,aA2,aA1,if_true,decide_eq_true_eq,Bool.and_eq_true,w,hz,hi',Int.toNat_natCast,List.length_map,g,and_self,List.getD_cons_zero,C.toStr,C.is,List.length_cons,List.length_nil,Nat.zero_add,Nat.zero_lt_succ,hx]
   exact ih (i+1) _ (by omega) (by omega)
  ·have e:i=rs.length:=by omega
   subst e
   have hi':¬((rs.length:Int)<(rs.length:Int)):=by omega
   simp only[aA2,aA1,decide_eq_true_eq,hi',if_false,List.drop_length]
   rfl
theorem bP8:aA6 Tryz.prog aMy:=aA5 (by simp[aVx])
theorem aNf:aAm Tryz.prog 95 (sg [pI,pSl 9] [rI]) aJh:=aA3 bP8 aA7 Tryz.func95 (by kernel_rfl) fun cs outs hk h=>by
 unfold aJh at h
 split at h
 ·simp only[Option.some.injEq,Prod.mk.injEq,Bool.and_eq_true,decide_eq_true_eq]at h
  obtain⟨⟨h1,h2,h3⟩,rfl⟩:=h
  rename_i l rows
  have hr:=aDs h2
  generalize aGh rows=rs at hr ⊢
  subst hr
  rw[List.length_map]at h1
  rw[aJ5]at h3
  rw[aA9,bC9]
  have:=bCa rs h3 h1 9223372036854775808 0 l (by omega) (by omega)
  rw[show (rs.length:Int)=((rs.map aBf).length:Int) by rw[List.length_map]]at this
  exact this
 ·cases h
theorem bRc:aA6 Tryz.prog bI9:=aA5 (by simp[aKu])
theorem bBn:aAm Tryz.prog 82 (sg [pS,pI,pI] [rB]) aH5:=aA3 bRc aA7 Tryz.func82 (by kernel_rfl) fun cs outs hk h=>by
 unfold aH5 at h
 split at h
 ·simp only[Option.some.injEq,Prod.mk.injEq,decide_eq_true_eq]at h
  obtain⟨h1,rfl⟩:=h
  rename_i b x l
  rw[aA9,bFj]
  have a1:b.length≤281474976710656:=by omega
  cases hr:aA8 b<;>simp[aA0,aA2,aA1,a1,aLg,hr,ifI]
  repeat' split
  all_goals simp_all
 ·cases h
theorem bSw:aA6 Tryz.prog bIj:=aA5 (by simp[aLe])
theorem bD5:aAm Tryz.prog 94 (sg [pS,pI,pI] [rB]) aH5:=aA3 bSw aA7 Tryz.func94 (by kernel_rfl) fun cs outs hk h=>by
 unfold aH5 at h
 split at h
 ·simp only[Option.some.injEq,Prod.mk.injEq,decide_eq_true_eq]at h
  obtain⟨h1,rfl⟩:=h
  rename_i b x l
  rw[aA9,bH4]
  have a1:b.length≤281474976710656:=by omega
  cases hr:aA8 b<;>simp[aA0,aA2,aA1,a1,aLg,hr,ifI]
  repeat' split
  all_goals simp_all
 ·cases h
theorem bF5:aA6 Tryz.prog aRy:=aA5 (by simp[aF6])
theorem aK7:aAm Tryz.prog 76 (sg [pS] [rSl 9]) aGt:=aA3 bF5 aA7 Tryz.func76 (by kernel_rfl) fun cs outs hk h=>by
 unfold aGt at h
 split at h
 ·simp only[Option.some.injEq,Prod.mk.injEq,decide_eq_true_eq]at h
  obtain⟨h1,rfl⟩:=h
  rename_i b
  rw[aA9,aUm]
  have d1:decide (0<1)=true:=by decide
  simp only[aA0,aA1,h1,d1,aN7,aRl,aGf,decide_true,Bool.and_self,Bool.or_true,if_true]
 ·cases h
theorem aUu (rs:List (List UInt8)) (h60:∀ x∈rs,x.length≤60) (hl:rs.length≤1048576) (ok mk:Bool) (v s q l e:Int) (m:Nat) (o:List (List C)):∀ (n i:Nat) (acc:Int),i≤rs.length→rs.length<i+n →
  (aBl aI5 aAb (sg [pS] [rI]) Tryz.f83 [.r,.r,.r,.l,.r,.b] n (aI3 ok mk v s q l e rs.length (rs.map aBf) m o acc i)).eval=some [.int .i64 (aDj acc (rs.drop i))]:=by
 intro n
 induction n with
 |zero=>intro i l h1 h2;omega
 |succ n ih =>
  intro i acc h1 h2
  rw[aAo _ _ _ _ _ _ _ (by kernel_rfl),aQh]
  by_cases hi:i<rs.length
  ·have g:=aB1 aBf rs [] i hi
   have w:IntKind.i64.wrap ((i:Int)+1)=((i+1:Nat):Int):=by rw[aAh]<;>omega
   have hz:(0:Int)≤i:=by omega
   have hi':(i:Int)<rs.length:=by omega
   have hm:rs.getD i []∈rs:=by rw[List.getD_eq_getElem?_getD,List.getElem?_eq_getElem hi];exact List.getElem_mem hi
   have hx:(rs.getD i []).length≤1048576:=by have:=h60 _ hm;omega
   rw[aBq rs i [] hi]
   generalize rs.getD i []=y at g hx ⊢
   simp only[aA0,aA2,aA1,if_true,decide_eq_true_eq,Bool.and_eq_true,w,hz,hi',hi,Int.toNat_natCast,List.length_map,Nat.zero_add,g,and_self,List.getD_cons_zero,C.toStr,C.is,List.length_cons,List.length_nil,Nat.zero_lt_succ,hx]
   exact ih (i+1) _ (by omega) (by omega)
  ·have e:i=rs.length:=by omega
   subst e
   have hi':¬((rs.length:Int)<(rs.length:Int)):=by omega
   simp only[aA2,aA1,decide_eq_true_eq,hi',if_false,List.drop_length]
   rfl
theorem bFf:aA6 Tryz.prog aI5:=aA5 (by simp[aF6,aKv])
theorem aSi:aAm Tryz.prog 83 (sg [pS] [rI]) aJi:=aA3 bFf aA7 Tryz.func83 (by kernel_rfl) fun cs outs hk h=>by
 unfold aJi at h
 split at h
 ·simp only[Option.some.injEq,Prod.mk.injEq,decide_eq_true_eq]at h
  obtain⟨h1,rfl⟩:=h
  rename_i b
  obtain⟨f1,f2,f3⟩:=aE7 b
  rw[aA9,aUt]
  have d1:decide (0<1)=true:=by decide
  have lp:=aUu (aAn b) f3 (by omega) (aA8 b) (aK6 b) (ifI (aA8 b) (rhV b)) (ifI (aA8 b) (rhS b)) (ifI (aA8 b) (rhB b)) (ifI (aA8 b) (rhL b)) (aKr b) ((aEg b).map aEf).length ((aEg b).map aEf) 9223372036854775808 0 (ifI (aA8 b) (rhL b)) (by omega) (by omega)
  rw[show (aAn b).length=((aAn b).map aBf).length by rw[List.length_map]]at lp
  simp only[aA0,aA1,h1,d1,aN7,aRl,decide_true,Bool.and_self,if_true]
  exact lp
 ·cases h
theorem aV6 {ns es:List (List C)} (h:aHk ns es=true):bEg ns es=true:=by unfold aHk at h;simp only[Bool.and_eq_true]at h;exact h.1
theorem aIk {ns es:List (List C)} (h:aHk ns es=true) (base:Int):(aAv (nds ns) (ens es) base).length≤1048576:=by
 unfold aHk at h
 simp only[Bool.and_eq_true,List.all_eq_true,decide_eq_true_eq]at h
 unfold aAv aHw bZd
 split
 ·simp
 ·rename_i hn
  have hp:¬aC3 (ens es) (aB8 base)<0:=fun hp=>hn (by unfold aDe;rw[if_pos hp];decide)
  have e:aDe (nds ns) (ens es) (aB8 base)=aCn (nds ns) (aFu (ens es) (aB8 base)):=if_neg hp
  rw[e]at hn ⊢
  obtain⟨c1,c2,c3⟩:=bK1 _ _ hn
  refine h.2 _ ?_
  rw[List.getD_eq_getElem?_getD,List.getElem?_eq_getElem c1]
  exact List.getElem_mem c1
theorem cAl (l:List Lk) (x:Lk):(l.map eLk).append [eLk x]=(l++[x]).map eLk:=by simp
theorem bKa (ns es os ss:List (List C)) (r x:Int) (hd:aHk ns es=true):∀ (k n:Nat) (l:List Lk) (base sum:Int),l.length+k=16→0≤base→base≤(l.length:Int)*1048576→k<n →
  (aBl aTk aAb (⟨[aB2],[rSl 86],true⟩) Tryz.f57 [.r,.r,.r,.l,.b] n (aT7 ns es os ss r x l.length (l.map eLk) base sum)).eval=some [.sl (aF9 (l++aEq (nds ns) (ens es) k base sum))]:=by
 have hne:=aV6 hd
 intro k
 induction k with
 |zero =>
  intro n l base sum h1 h2 h3 h4
  obtain⟨n,rfl⟩:∃ g,n=g+1:=⟨n-1,by omega⟩
  rw[aAo _ _ _ _ _ _ _ (by kernel_rfl),aOy]
  have c:¬((l.length:Int)<16):=by omega
  simp only[aA0,aA2,aA1,decide_eq_true_eq,c,if_false,List.length_map,decide_true,Bool.true_or,Bool.and_self,if_true,aEq,List.append_nil]
  rfl
 |succ k ih =>
  intro n l base sum h1 h2 h3 h4
  obtain⟨n,rfl⟩:∃ g,n=g+1:=⟨n-1,by omega⟩
  rw[aAo _ _ _ _ _ _ _ (by kernel_rfl),aOy]
  have c:((l.length:Int)<16):=by omega
  have ht:=aIk hd base
  simp only[aEq]
  generalize aAv (nds ns) (ens es) base=t at ht ⊢
  obtain⟨f1,f2,f3⟩:=aE7 t
  have d1:decide (0<1)=true:=by decide
  simp only[aA0,aA2,aA1,decide_eq_true_eq,c,if_true,hne,ht,d1,aN7,aRl,decide_true,Bool.and_self,Bool.true_or,List.length_map]
  cases hg:aLg t base sum with
  |false =>
   simp only[Bool.false_eq_true,if_false,Bool.false_and,List.append_nil]
   rfl
  |true =>
   by_cases h0:(aAn t).length=0
   ·have e0:((aAn t).length:Int)=0:=by omega
    simp only[e0,h0,if_true,ne_eq,not_true_eq_false,decide_false,Bool.and_false,Bool.false_eq_true,if_false,List.append_nil]
    rfl
   ·have e0:¬((aAn t).length:Int)=0:=by omega
    have ro:aBg (l.length+1) 128=true:=by simp only[aBg,decide_eq_true_eq];omega
    have tk:List.take (aAn t).length ((aAn t).map aBf)=(aAn t).map aBf:=by rw[List.take_of_length_le];simp
    have tk2:List.take (aEg t).length ((aEg t).map aEf)=(aEg t).map aEf:=by rw[List.take_of_length_le];simp
    have l1:(aAn t).length≤16777216:=by omega
    have tl:aGk 1048576 ((aAn t).map aBf)=true:=(aJ5 _ _).2 fun y hy=>by have:=f3 y hy;omega
    have w:IntKind.i64.wrap (base+((aAn t).length:Int))=base+(aAn t).length:=by rw[aAh]<;>omega
    have ap:=cAl l (base,t)
    have e:=ih n (l++[(base,t)]) (base+(aAn t).length) (aDj sum (aAn t)) (by simp;omega) (by omega) (by simp;omega) (by omega)
    simp only[List.length_append,List.length_cons,List.length_nil,Nat.zero_add,List.append_assoc,List.cons_append,List.nil_append]at e
    have e11:decide (((((((((((Nat.add 1 0).succ.add 0).succ.add 0).succ.add 0).succ.add 0).succ.add 0).succ.add 0).succ.add 0).succ.add 0).succ.add 0).succ=11)=true:=by decide
    simp only[e0,h0,if_false,ne_eq,not_false_eq_true,decide_true,Bool.and_self,if_true,ro,tk,tk2,List.length_map,l1,aJb,tl,w,aLw,e11]
    rw[←ap]at e
    exact e
theorem bVm:aA6 Tryz.prog aTk:=aA5 (by simp[aHf,aP4,aNf,bD5])
theorem aRr:aAm Tryz.prog 57 (⟨[aB2],[rSl 86],true⟩) aOx:=aA3 bVm aA7 Tryz.func57 (by kernel_rfl) fun cs outs hk h=>by
 unfold aOx at h
 split at h
 ·simp only[Option.some.injEq,Prod.mk.injEq]at h
  obtain⟨hd,rfl⟩:=h
  rename_i ns es os ss r x
  rw[aA9,bK9]
  exact bKa ns es os ss r x hd 16 9223372036854775808 [] 0 0 rfl (by omega) (by simp) (by omega)
 ·cases h
theorem bLi {b:List UInt8} {base link:Int} (h:aLg b base link=true):aP0 b=aDj link (aAn b):=by
 unfold aLg at h
 simp only[Bool.and_eq_true,decide_eq_true_eq]at h
 unfold aP0 ifI
 rw[h.1.1,if_pos rfl,h.2]
theorem bWt (l:List Lk) (x:Lk):(aBw l).append [[C.int .i64 x.1]]=aBw (l++[x]):=by simp[aBw]
theorem aL7 (l:List Lk):(aBw l).length=l.length:=by simp[aBw]
theorem aZt (l:List Lk):((aBw l).all fun r=>r.all C.flat)=true:=by simp[aBw,C.flat]
theorem bJn (ns es os ss:List (List C)) (r x:Int) (hd:aHk ns es=true):∀ (k n:Nat) (l:List Lk) (base sum:Int),l.length+k=16→0≤base→base≤(l.length:Int)*1048576→k<n →
  (aBl aTj aAb (sg [aB2] [rSl 3]) Tryz.f48 [.r,.r,.r,.r,.l,.b] n (aT6 ns es os ss r x l.length (aBw l) base sum)).eval=some [.sl (aBw (l++aEq (nds ns) (ens es) k base sum))]:=by
 have hne:=aV6 hd
 intro k
 induction k with
 |zero =>
  intro n l base sum h1 h2 h3 h4
  obtain⟨n,rfl⟩:∃ g,n=g+1:=⟨n-1,by omega⟩
  rw[aAo _ _ _ _ _ _ _ (by kernel_rfl),aOq]
  have c:¬((l.length:Int)<16):=by omega
  simp only[aA0,aA2,aA1,decide_eq_true_eq,c,if_false,aL7,aZt,decide_true,Bool.or_true,Bool.and_self,if_true,aEq,List.append_nil]
 |succ k ih =>
  intro n l base sum h1 h2 h3 h4
  obtain⟨n,rfl⟩:∃ g,n=g+1:=⟨n-1,by omega⟩
  rw[aAo _ _ _ _ _ _ _ (by kernel_rfl),aOq]
  have c:((l.length:Int)<16):=by omega
  have ht:=aIk hd base
  simp only[aEq]
  generalize aAv (nds ns) (ens es) base=t at ht ⊢
  obtain⟨f1,f2,f3⟩:=aE7 t
  simp only[aA0,aA2,aA1,decide_eq_true_eq,c,if_true,hne,ht,aN7,decide_true,Bool.and_self,aL7,aZt,Bool.or_true,List.length_map]
  by_cases h0:(aAn t).length=0
  ·have e0:((aAn t).length:Int)=0:=by omega
   simp only[e0,if_true]
   simp only[h0,ne_eq,not_true_eq_false,decide_false,Bool.and_false,Bool.false_eq_true,if_false,List.append_nil]
  ·have e0:¬((aAn t).length:Int)=0:=by omega
   cases hg:aLg t base sum with
   |false=>simp only[e0,Bool.false_eq_true,if_false,Bool.false_and,List.append_nil]
   |true =>
    have ro:aBg (l.length+1) 8=true:=by simp only[aBg,decide_eq_true_eq];omega
    have l1:(aAn t).length≤1048576:=by omega
    have w:IntKind.i64.wrap (base+((aAn t).length:Int))=base+(aAn t).length:=by rw[aAh]<;>omega
    have ap:=bWt l (base,t)
    have e:=ih n (l++[(base,t)]) (base+(aAn t).length) (aDj sum (aAn t)) (by simp;omega) (by omega) (by simp;omega) (by omega)
    simp only[List.length_append,List.length_cons,List.length_nil,Nat.zero_add,List.append_assoc,List.cons_append,List.nil_append]at e
    simp only[e0,h0,if_false,ne_eq,not_false_eq_true,decide_true,Bool.and_self,if_true,ro,w,bLi hg]
    rw[←ap]at e
    exact e
theorem bUu:aA6 Tryz.prog aTj:=aA5 (by simp[aJ7,bBn,aK7,aSi])
theorem aRk:aAm Tryz.prog 48 (sg [aB2] [rSl 3]) aHm:=aA3 bUu aA7 Tryz.func48 (by kernel_rfl) fun cs outs hk h=>by
 unfold aHm at h
 split at h
 ·simp only[Option.some.injEq,Prod.mk.injEq]at h
  obtain⟨hd,rfl⟩:=h
  rename_i ns es os ss r x
  rw[aA9,bJm]
  exact bJn ns es os ss r x hd 16 9223372036854775808 [] 0 0 rfl (by omega) (by simp) (by omega)
 ·cases h
theorem aLn (ns:List Nd) (es:List En):∀ (k:Nat) (base sum:Int) (x:Lk),x∈aEq ns es k base sum→x.2=aAv ns es x.1
 |0,_,_,_,h=>by cases h
 |k+1,base,sum,x,h=>by
  simp only[aEq]at h
  split at h
  ·rcases List.mem_cons.1 h with rfl | h
   ·rfl
   ·exact aLn ns es k _ _ x h
  ·cases h
theorem aDb (ns:List Nd) (es:List En):∀ (k:Nat) (base sum:Int),(aEq ns es k base sum).length≤k
 |0,_,_=>Nat.le_refl _
 |k+1,base,sum=>by
  simp only[aEq]
  split
  ·simp only[List.length_cons];have:=aDb ns es k (base+(aAn (aAv ns es base)).length) (aDj sum (aAn (aAv ns es base)));omega
  ·simp
theorem aM6:∀ (l:List Lk),(∀ x∈l,x.2.length≤1048576)→(aBh l).length≤l.length*1048576
 |[],_=>by simp[aBh]
 |x::l,h=>by
  have h1:=aM6 l fun y hy=>h y (List.mem_cons_of_mem _ hy)
  have h2:=(aE7 x.2).1
  have h3:=h x List.mem_cons_self
  unfold aBh at h1 ⊢
  simp only[List.flatMap_cons,List.length_append,List.length_cons]
  omega
theorem bQu {A:Type} (l:List A) (i:Nat) (d:A) (hi:i<l.length):l.take (i+1)=l.take i++[l.getD i d]:=by
 rw[List.take_succ_eq_append_getElem hi];simp[List.getD_eq_getElem?_getD,hi]
theorem aVh (l:List Lk) (i:Nat) (d:Lk) (hi:i<l.length):aBh (l.take (i+1))=aBh (l.take i)++aAn (l.getD i d).2:=by
 rw[bQu l i d hi];simp[aBh]
theorem bW8 (l:List Lk) (i:Nat) (hi:i<l.length):(aBw l).getD i []=aEf (l.getD i (0,[])).1:=aB1 (fun x:Lk=>aEf x.1) l (0,[]) i hi
theorem bN5 (a b:List (List UInt8)):(a.map aBf).append (b.map aBf)=(a++b).map aBf:=by simp
theorem bJb (ns es os ss:List (List C)) (r x:Int) (hd:aHk ns es=true) (c:List Lk) (hc:∀ y∈c,y.2=aAv (nds ns) (ens es) y.1) (hl:c.length≤16):∀ (n i:Nat),i≤c.length→c.length<i+n →
  (aBl aTi aAb (sg [aB2] [rSl 9]) Tryz.f36 [.r,.r,.r,.l,.r,.b] n (aT5 ns es os ss r x (aBh (c.take i)).length ((aBh (c.take i)).map aBf) c.length (aBw c) i)).eval=some [.sl ((aBh c).map aBf)]:=by
 have hne:=aV6 hd
 have ht2:∀ y∈c,y.2.length≤1048576:=fun y hy=>by rw[hc y hy];exact aIk hd _
 intro n
 induction n with
 |zero=>intro i h1 h2;omega
 |succ n ih =>
  intro i h1 h2
  rw[aAo _ _ _ _ _ _ _ (by kernel_rfl),bBa]
  by_cases hi:i<c.length
  ·have g:=bW8 c i hi
   have w:IntKind.i64.wrap ((i:Int)+1)=((i+1:Nat):Int):=by rw[aAh]<;>omega
   have hz:(0:Int)≤i:=by omega
   have hi':(i:Int)<c.length:=by omega
   have hm:c.getD i (0,[])∈c:=by rw[List.getD_eq_getElem?_getD,List.getElem?_eq_getElem hi];exact List.getElem_mem hi
   have hx:=hc _ hm
   have hx2:=ht2 _ hm
   have e:=ih (i+1) (by omega) (by omega)
   rw[aVh c i (0,[]) hi]at e
   have hlen:(aBh (c.take i)).length≤16777216:=by
    have h4:=aM6 (c.take i) fun y hy=>ht2 y (List.mem_of_mem_take hy)
    have h3:(c.take i).length≤16:=by rw[List.length_take];omega
    clear e
    omega
   have hne2:(aBw c).getD (0+i) []=aEf (c.getD i (0,[])).1:=by rw[Nat.zero_add];exact g
   generalize c.getD i (0,[])=y at g hx hx2 e hne2 ⊢
   rw[hx]at e hx2
   obtain⟨f1,f2,f3⟩:=aE7 (aAv (nds ns) (ens es) y.1)
   have tk:List.take (aAn (aAv (nds ns) (ens es) y.1)).length ((aAn (aAv (nds ns) (ens es) y.1)).map aBf)=(aAn (aAv (nds ns) (ens es) y.1)).map aBf:=by rw[List.take_of_length_le];simp
   have ro:aBg ((aBh (c.take i)).length+(aAn (aAv (nds ns) (ens es) y.1)).length) 16=true:=by simp only[aBg,decide_eq_true_eq];omega
   simp only[List.length_append]at e
   have hlb:i<(aBw c).length:=by rw[aL7];exact hi
   simp only[aA0,aA2,aA1,if_true,decide_eq_true_eq,w,hz,hi',hi,Int.toNat_natCast,aL7,Nat.zero_add,g,hne,hx2,aN7,tk,ro,decide_true,Bool.and_self,List.getD_cons_zero,C.toInt,C.is,List.length_cons,List.length_nil,Nat.zero_lt_succ,beq_self_eq_true,List.length_map,bN5]
   exact e
  ·have e:i=c.length:=by omega
   subst e
   have hi':¬((c.length:Int)<(c.length:Int)):=by omega
   rw[List.take_length]
   simp only[aA0,aA2,aA1,decide_eq_true_eq,hi',if_false,List.length_map,aGf,decide_true,Bool.or_true,Bool.and_self,if_true]
theorem bUr:aA6 Tryz.prog aTi:=aA5 (by simp[aJ7,aK7,aRk])
theorem aRj:aAm Tryz.prog 36 (sg [aB2] [rSl 9]) aGa:=aA3 bUr aA7 Tryz.func36 (by kernel_rfl) fun cs outs hk h=>by
 unfold aGa at h
 split at h
 ·simp only[Option.some.injEq,Prod.mk.injEq]at h
  obtain⟨hd,rfl⟩:=h
  rename_i ns es os ss r x
  rw[aA9,bJa]
  have hb:((aBw (aBn (nds ns) (ens es))).all fun row=>decide (row.length=1))=true:=by simp[aBw]
  have lp:=bJb ns es os ss r x hd (aBn (nds ns) (ens es)) (fun y hy=>aLn _ _ _ _ _ y hy) (aDb _ _ _ _ _) 9223372036854775808 0 (by omega) (by have:=aDb (nds ns) (ens es) 16 0 0;unfold aBn;omega)
  rw[←aL7]at lp
  simp only[aA0,hd,hb,decide_true,Bool.and_self,if_true]
  exact lp
 ·cases h
theorem bXc (l:List Lk) (i:Nat) (hi:i<l.length):(aF9 l).getD i []=eLk (l.getD i (0,[])):=aB1 eLk l (0,[]) i hi
theorem bMq (l:List Lk):(aF9 l).length=l.length:=by simp[aF9]
theorem bKz (c:List Lk) (ht2:∀ y∈c,y.2.length≤1048576) (hl:c.length≤16):∀ (n i:Nat),i≤c.length→c.length<i+n →
  (aBl aTp aAb (sg [aB2] [rSl 9]) Tryz.f80 [.r,.r,.l,.r,.b] n (aTc (aBh (c.take i)).length ((aBh (c.take i)).map aBf) c.length (aF9 c) c.length i)).eval=some [.sl ((aBh c).map aBf)]:=by
 intro n
 induction n with
 |zero=>intro i h1 h2;omega
 |succ n ih =>
  intro i h1 h2
  rw[aAo _ _ _ _ _ _ _ (by kernel_rfl),bCr]
  by_cases hi:i<c.length
  ·have g:=bXc c i hi
   have w:IntKind.i64.wrap ((i:Int)+1)=((i+1:Nat):Int):=by rw[aAh]<;>omega
   have hz:(0:Int)≤i:=by omega
   have hi':(i:Int)<c.length:=by omega
   have hm:c.getD i (0,[])∈c:=by rw[List.getD_eq_getElem?_getD,List.getElem?_eq_getElem hi];exact List.getElem_mem hi
   have hx2:=ht2 _ hm
   have e:=ih (i+1) (by omega) (by omega)
   rw[aVh c i (0,[]) hi]at e
   have hlen:(aBh (c.take i)).length≤16777216:=by
    have h4:=aM6 (c.take i) fun y hy=>ht2 y (List.mem_of_mem_take hy)
    have h3:(c.take i).length≤16:=by rw[List.length_take];omega
    clear e
    omega
   generalize c.getD i (0,[])=y at g hx2 e ⊢
   obtain⟨f1,f2,f3⟩:=aE7 y.2
   have ro:aBg ((aBh (c.take i)).length+(aAn y.2).length) 16=true:=by simp only[aBg,decide_eq_true_eq];omega
   simp only[List.length_append]at e
   simp only[aA0,aA2,aA1,if_true,decide_eq_true_eq,w,hz,hi',hi,Int.toNat_natCast,bMq,Nat.zero_add,Nat.reduceAdd,Nat.reduceLT,g,aN7,ro,decide_true,Bool.and_self,List.getD_cons_zero,List.getD_cons_succ,C.toInt,C.toRows,C.is,List.length_cons,List.length_nil,Nat.zero_lt_succ,beq_self_eq_true,List.length_map,bN5]
   exact e
  ·have e:i=c.length:=by omega
   subst e
   have hi':¬((c.length:Int)<(c.length:Int)):=by omega
   rw[List.take_length]
   simp only[aA0,aA2,aA1,decide_eq_true_eq,hi',if_false,List.length_map,aGf,decide_true,Bool.or_true,Bool.and_self,if_true]
theorem bA1 {ns es:List (List C)} (h:aHk ns es=true):∀ y∈aBn (nds ns) (ens es),y.2.length≤1048576:=fun y hy=>by
 rw[aLn _ _ _ _ _ y hy];exact aIk h _
theorem bVz:aA6 Tryz.prog aTp:=aA5 (by simp[aRr])
theorem aRu:aAm Tryz.prog 80 (sg [aB2] [rSl 9]) aGa:=aA3 bVz aA7 Tryz.func80 (by kernel_rfl) fun cs outs hk h=>by
 unfold aGa at h
 split at h
 ·simp only[Option.some.injEq,Prod.mk.injEq]at h
  obtain⟨hd,rfl⟩:=h
  rename_i ns es os ss r x
  rw[aA9,bKy]
  have hb:((aF9 (aBn (nds ns) (ens es))).all fun row=>decide (row.length=11))=true:=by simp[aF9]
  have lp:=bKz (aBn (nds ns) (ens es)) (bA1 hd) (aDb _ _ _ _ _) 9223372036854775808 0 (by omega) (by have:=aDb (nds ns) (ens es) 16 0 0;unfold aBn;omega)
  rw[←bMq]at lp
  simp only[aA0,hd,hb,decide_true,Bool.and_self,if_true]
  exact lp
 ·cases h
theorem bSt:aA6 Tryz.prog bIg:=aA5 (by simp[aRu])
theorem bD3:aAm Tryz.prog 40 (sg [aB2] [rI]) aQp:=aA3 bSt aA7 Tryz.func40 (by kernel_rfl) fun cs outs hk h=>by
 unfold aQp at h
 split at h
 ·simp only[Option.some.injEq,Prod.mk.injEq]at h
  obtain⟨hd,rfl⟩:=h
  rw[aA9,bH0]
  simp only[aA0,aA1,hd,aN7,decide_true,Bool.and_self,if_true,List.length_map]
 ·cases h
noncomputable section
def aQq (ns es os ss:List (List C)):Bool:=aC8 281474976710656 ns es os ss&&aBt ns es os ss&&aHl ns es os ss
end
theorem aV8:∀ (l:List Nat) (x:Nat),x∈l→x≤l.sum
 |[],_,h=>by cases h
 |y::l,x,h=>by
  simp only[List.sum_cons]
  rcases List.mem_cons.1 h with rfl | h
  ·omega
  ·have:=aV8 l x h;omega
theorem aRg (ns:List Nd) (es os:List En) (ss:List (List UInt8)) (h:¬aRh ns es os ss 1048576<0) :
  ns.length≤1048576∧es.length≤1048576∧os.length≤1048576∧ss.length≤1048576∧(∀ x∈ns,x.text.length≤1048576)∧(∀ x∈es,x.name.length≤1048576)∧(∀ x∈os,x.name.length≤1048576)∧(∀ x∈ss,x.length≤1048576) ∧
  (ns.length:Int)+(((ns.map fun x=>x.text.length).sum:Nat):Int)≤1048576:=by
 unfold aRh at h
 generalize hA:aBj (ns.map fun x=>x.text.length) 1048576=A at h
 generalize hB:aIl (es.map fun x=>x.name.length) A=B at h
 generalize hC:aIl (os.map fun x=>x.name.length) B=D at h
 have hC0:¬D<0:=fun hn=>h (by unfold aIl;rw[if_pos hn];decide)
 have hB0:¬B<0:=fun hn=>hC0 (by rw[←hC];unfold aIl;rw[if_pos hn];decide)
 have hA0:¬A<0:=fun hn=>hB0 (by rw[←hB];unfold aIl;rw[if_pos hn];decide)
 have e4:aIl (ss.map List.length) D=aBj (ss.map List.length) D:=if_neg hC0
 have e3:aIl (os.map fun x=>x.name.length) B=aBj (os.map fun x=>x.name.length) B:=if_neg hB0
 have e2:aIl (es.map fun x=>x.name.length) A=aBj (es.map fun x=>x.name.length) A:=if_neg hA0
 rw[e4]at h
 rw[e3]at hC
 rw[e2]at hB
 have s1:=aLu (ns.map fun x=>x.text.length) 1048576 (by omega)
 have s2:=aLu (es.map fun x=>x.name.length) A (by omega)
 have s3:=aLu (os.map fun x=>x.name.length) B (by omega)
 have s4:=aLu (ss.map List.length) D (by omega)
 rw[hA]at s1
 rw[hB]at s2
 rw[hC]at s3
 simp only[List.length_map]at s1 s2 s3 s4
 have m1:∀ x∈ns,x.text.length≤(ns.map fun x=>x.text.length).sum:=fun x hx=>aV8 _ _ (List.mem_map.2 ⟨x,hx,rfl⟩)
 have m2:∀ x∈es,x.name.length≤(es.map fun x=>x.name.length).sum:=fun x hx=>aV8 _ _ (List.mem_map.2 ⟨x,hx,rfl⟩)
 have m3:∀ x∈os,x.name.length≤(os.map fun x=>x.name.length).sum:=fun x hx=>aV8 _ _ (List.mem_map.2 ⟨x,hx,rfl⟩)
 have m4:∀ x∈ss,x.length≤(ss.map List.length).sum:=fun x hx=>aV8 _ _ (List.mem_map.2 ⟨x,hx,rfl⟩)
 generalize (ns.map fun x=>x.text.length).sum=S1 at s1 m1 ⊢
 generalize (es.map fun x=>x.name.length).sum=S2 at s2 m2
 generalize (os.map fun x=>x.name.length).sum=S3 at s3 m3
 generalize (ss.map List.length).sum=S4 at s4 m4
 generalize aBj (ss.map List.length) D=Z at s4 h
 refine⟨by omega,by omega,by omega,by omega,fun x hx=>?_,fun x hx=>?_,fun x hx=>?_,fun x hx=>?_,by omega⟩
 ·have:=m1 x hx;omega
 ·have:=m2 x hx;omega
 ·have:=m3 x hx;omega
 ·have:=m4 x hx;omega
theorem bYh (ns:List (List C)):(nds ns).length=ns.length:=by simp[nds]
theorem bDw (ns:List (List C)):(ens ns).length=ns.length:=by simp[ens]
theorem bUn (ns:List (List C)):(aGh ns).length=ns.length:=by simp[aGh]
theorem aZe {ns es os ss:List (List C)} (hl:aQq ns es os ss=true) (h:¬aRh (nds ns) (ens es) (ens os) (aGh ss) 1048576<0) :
  aC8 281474976710656 ns es os ss=true∧aBt ns es os ss=true∧aHl ns es os ss=true∧aC8 1048576 ns es os ss=true∧aHk ns es=true:=by
 unfold aQq at hl
 simp only[Bool.and_eq_true]at hl
 obtain⟨⟨h1,h2⟩,h3⟩:=hl
 obtain⟨a1,a2,a3,a4,a5,_⟩:=aRg _ _ _ _ h
 rw[bYh]at a1
 rw[bDw]at a2 a3
 rw[bUn]at a4
 refine⟨h1,h2,h3,aEy.2 ⟨a1,a2,a3,a4⟩,?_⟩
 obtain⟨k1,k2,k3,k4⟩:=aEx.1 h2
 obtain⟨l1,l2,_,_⟩:=aEy.1 h1
 unfold aHk
 simp only[Bool.and_eq_true,List.all_eq_true,decide_eq_true_eq]
 exact⟨aSx.2 ⟨l1,l2,k1,k2⟩,a5⟩
theorem bTk {ns es os ss:List (List C)} (h:aBt ns es os ss=true) :
  (ns.all fun row=>decide (row.length=3))=true∧(es.all fun row=>decide (row.length=2))=true∧(os.all fun row=>decide (row.length=2))=true∧(ss.all fun row=>decide (row.length=1))=true:=by
 obtain⟨k1,k2,k3,k4⟩:=aEx.1 h
 exact⟨aG8 k1,aG8 k2,aG8 k3,aG8 k4⟩
theorem bTe (ns es os ss:List (List C)) (r x:Int):bZe ns es os ss r x ns es os ss r x=true:=by simp[bZe]
noncomputable section
def bXe:bZ5:=⟨144,5,130,131,132⟩
def bTt (g:FuncId):Option Func:=if g=130 then some Tryz.f130 else if g=131 then some Tryz.f131 else if g=132 then some Tryz.f132 else none
def cBh (t:TypeId):Option TypeId:=if t=144 then some 5 else none
def cAj:TI:=⟨true,[.ptr,.slice 5],[(0,142),(1,107)],32,false⟩
def mkB (lv:List (Nat×List Nat)) (gs:Laws):Env:={mkE lv gs with inl:=bTt,bt:=cBh}
end
theorem bWn:tyB Tryz.prog 144 cAj=true:=by kernel_rfl
theorem bYy:∀ t e,cBh t=some e→cAq Tryz.prog t:=by
 intro t e h
 unfold cBh at h
 split at h
 ·rename_i ht
  subst ht
  exact⟨cAj,_,(bQn bWn).1,rfl,rfl⟩
 ·cases h
theorem bN4:Tryz.prog.follows .mixedOrders=true:=by kernel_rfl
theorem bWq : (Tryz.f130.name == "runtime.NumGoroutine") = false := by kernel_rfl
theorem bWp : (Tryz.f131.name == "runtime.NumGoroutine") = false := by kernel_rfl
theorem bWo : (Tryz.f132.name == "runtime.NumGoroutine") = false := by kernel_rfl
theorem bHz {g : FuncId} {fn : Func} (h : bTt g = some fn) : Tryz.prog.funcs[g]? = some fn ∧ (fn.name == "runtime.NumGoroutine") = false := by
 unfold bTt at h
 split at h
 ·rename_i hg;subst hg;obtain rfl:=Option.some.inj h;exact⟨Tryz.func130,bWq⟩
 ·split at h
  ·rename_i hg;subst hg;obtain rfl:=Option.some.inj h;exact⟨Tryz.func131,bWp⟩
  ·split at h
   ·rename_i hg;subst hg;obtain rfl:=Option.some.inj h;exact⟨Tryz.func132,bWo⟩
   ·cases h
theorem bG7 {lv:List (Nat×List Nat)} {gs:Laws} (h:∀ p,p∈gs→aAm Tryz.prog p.1 p.2.1 p.2.2):aA6 Tryz.prog (mkB lv gs) :=
 ⟨⟨(bMa aSw).1,fun g fn hh=>(bHz hh).1,fun t m e te h1 h2=>bM1 aWn t m e te h1 h2,bSy bDe,bYy⟩,fun g sig spec hl=>h (g,sig,spec) (aEv hl),fun g fn hh=>(bHz hh).2,bN4⟩
theorem bJp {P:Program} {w:World} (t u ty e:TypeId) (i:TypeInfo) (ht:P.underlying t=some (.slice e)) (hu:P.underlying u=some .string) (hi:P.info? e=some i) (hz:i.zero=some (.int .u8 0)) (hsize:i.size=1) (hby:i.bytes=1)
  (v:Value) (bs:List UInt8) (hv:(v=.slice none 0 0∧bs=[])∨∃ g cur,v=.slice (some ⟨g,0,none⟩) bs.length cur.size∧w.heap[g]? =some (.cells cur e (0,0))∧bs.length≤cur.size∧cur.size≤maxLen∧cur.toList.take bs.length=aBu bs)
  (s:ByteArray) (hl:bs.length+s.size≤140737488355328) (h0:0<bs.length+s.size) :
  ∃ g' cur' w',(Builtin.append_ #[t,u] ty #[v,.string s]).run P w=.ok (.slice (some ⟨g',0,none⟩) (bs++s.data.toList).length cur'.size) w'∧w'.heap[g']? =some (.cells cur' e (0,0))∧(bs++s.data.toList).length≤cur'.size∧cur'.size≤maxLen ∧
   cur'.toList.take (bs++s.data.toList).length=aBu (bs++s.data.toList)∧(w.heap.size≤g'∨∃ n c,v=.slice (some ⟨g',0,none⟩) n c)∧w.heap.size≤w'.heap.size∧w'.os=w.os∧w'.output=w.output ∧
   ∀ k,k<w.heap.size→(∀ n c,v≠.slice (some ⟨k,0,none⟩) n c)→w'.heap[k]? =w.heap[k]? :=by
 have hsl:s.data.toList.length=s.size:=Array.length_toList
 have hll:(bs++s.data.toList).length=bs.length+s.size:=by rw[List.length_append,hsl]
 have hbv:aBu bs++Lib.strCells s=aBu (bs++s.data.toList):=by simp[aBu,Lib.strCells]
 have h63:bs.length+s.size≤maxLen:=by unfold maxLen;omega
 have fin:∀ base v' w',(Builtin.append_ #[t,u] ty #[v,.string s]).run P w=.ok v' w'→w'.ownsRow base e 1 v' (bs.length+s.size) (aBu bs++Lib.strCells s)→∃ g' cur',base≤g'∧v'=.slice (some ⟨g',0,none⟩) (bs++s.data.toList).length cur'.size∧w'.heap[g']? =some (.cells cur' e (0,0))∧(bs++s.data.toList).length≤cur'.size∧cur'.size≤maxLen ∧
   cur'.toList.take (bs++s.data.toList).length=aBu (bs++s.data.toList):=by
  rintro base v' w' hr ⟨_,hown⟩
  rcases hown with⟨_,hz0⟩ | ⟨g',cap,cur',rfl,hb,hg,h1,h2,h3,h4⟩
  ·omega
  ·obtain rfl:cur'.size=cap:=by omega
   rw[hbv]at h4
   exact⟨g',cur',hb,by rw[hll],hg,by rw[hll];exact h1,h2,by rw[hll];simpa using h4⟩
 rcases hv with⟨rfl,rfl⟩ | ⟨g,cur,rfl,hg,h1,h2,h3⟩
 ·obtain⟨v',w',hr,hown,hgr,_⟩:=Lib.run_append_own_string (P:=P) w w.heap.size t u ty e i ht hu hi hz hsize hby (.slice none 0 0) 0 [] (World.ownsRow_nil _ _ _ _) s (by simpa using h63) (by simpa using hl) (Nat.le_refl _)
  obtain⟨g',cur',hb,rfl,q1,q2,q3,q4⟩:=fin w.heap.size v' w' hr (by simpa[aBu]using hown)
  exact⟨g',cur',w',hr,q1,q2,q3,q4,.inl hb,hgr.size,hgr.os,hgr.output,fun k hk _=>hgr.block k hk (by simp[Value.ownBlock])⟩
 ·have hown0:w.ownsRow 0 e 1 (.slice (some ⟨g,0,none⟩) bs.length cur.size) bs.length (aBu bs):=⟨by simp[aBu],.inr ⟨g,cur.size,cur,rfl,Nat.zero_le _,hg,h1,h2,by simp,by simpa using h3⟩⟩
  obtain⟨v',w',hr,hown,hgr,_⟩:=Lib.run_append_own_string (P:=P) w 0 t u ty e i ht hu hi hz hsize hby _ _ _ hown0 s h63 hl (Nat.zero_le _)
  obtain⟨g',cur',hb,rfl,q1,q2,q3,q4⟩:=fin 0 v' w' hr hown
  refine⟨g',cur',w',hr,q1,q2,q3,q4,?_,hgr.size,hgr.os,hgr.output,fun k hk hne=>hgr.block k hk (fun he=>?_)⟩
  ·by_cases hroom:bs.length+s.size≤cur.size
   ·have hr2:=Lib.run_append_room_string (P:=P) w t u ty e i ht hu hi hsize g bs.length cur.size cur hg s hroom hroom
    rw[hr]at hr2
    injection hr2 with hr2 _
    injection hr2 with hr2 _ _
    exact .inr ⟨bs.length,cur.size,by rw[hr2]⟩
   ·have hr2:=Lib.run_append_grow_string (P:=P) w t u ty e i (.int .u8 0) ht hu hi hz ⟨g,0,none⟩ bs.length cur.size (aBu bs) (by simp[aBu,hsize]) (hown0.cells (g:=g) rfl) s (by omega) (by omega) (by rw[hby];exact growslice_fits (by omega) (by omega))
    rw[hr]at hr2
    injection hr2 with hr2 _
    injection hr2 with hr2 _ _
    injection hr2 with hr2
    injection hr2 with hr2 _ _
    exact .inl (by omega)
  ·simp only[Value.ownBlock,Option.some.injEq]at he
   exact hne bs.length cur.size (by rw[he])
theorem aXb {P:Program} {w:World} {ops:Array Oper} {rest:List Oper} {o:Oper} {a:Act} {Q:Exit→Act→World→Prop} (hgd:o.guard=none) (sl x:Operand) (t u:TypeId)
  (ho:o.op=.call {callee:=.builtin .append,args:=#[sl,x],argTypes:=#[t,u]})
  (e:TypeId) (i:TypeInfo) (ht:P.underlying t=some (.slice e)) (hu:P.underlying u=some .string) (hi:P.info? e=some i) (hz:i.zero=some (.int .u8 0)) (hsize:i.size=1) (hby:i.bytes=1)
  (v:Value) (bs:List UInt8) (hs:a.eval sl=v) (hv:(v=.slice none 0 0∧bs=[])∨∃ g cur,v=.slice (some ⟨g,0,none⟩) bs.length cur.size∧w.heap[g]? =some (.cells cur e (0,0))∧bs.length≤cur.size∧cur.size≤maxLen∧cur.toList.take bs.length=aBu bs)
  (s:ByteArray) (hx:a.eval x=.string s) (hl:bs.length+s.size≤140737488355328) (h0:0<bs.length+s.size)
  (h:∀ g' cur' w',w'.heap[g']? =some (.cells cur' e (0,0))→(bs++s.data.toList).length≤cur'.size→cur'.size≤maxLen →
   cur'.toList.take (bs++s.data.toList).length=aBu (bs++s.data.toList)→(w.heap.size≤g'∨∃ n c,v=.slice (some ⟨g',0,none⟩) n c)→w.heap.size≤w'.heap.size→w'.os=w.os→w'.output=w.output →
   (∀ k,k<w.heap.size→(∀ n c,v≠.slice (some ⟨k,0,none⟩) n c)→w'.heap[k]? =w.heap[k]?)→wpList P ops Q rest (a.put o.dst (.slice (some ⟨g',0,none⟩) (bs++s.data.toList).length cur'.size)) w'):wpList P ops Q (o::rest) a w:=by
 refine wpList_plain hgd fun K hK=>?_
 obtain⟨g',cur',w',hr,q1,q2,q3,q4,q5,q6,q7,q8,q9⟩:=bJp (P:=P) (w:=w) t u o.type e i ht hu hi hz hsize hby v bs hv s hl h0
 unfold Oper.wp execOp
 simp only[ho,resolve,invoke,builtin,Sem.run_bind,Sem.run_pure,Result.andThen_ok,List.map_toArray,List.map_cons,List.map_nil,hs,hx,hr]
 exact hK _ _ (h g' cur' w' q1 q2 q3 q4 q5 q6 q7 q8 q9)
theorem bTr:∃ j,Tryz.prog.info? 144=some j∧j.size=2:=Option.map_eq_some_iff.1 (by kernel_rfl:(Tryz.prog.info? 144).map (·.size)=some 2)
theorem bYz:liesAt Tryz.prog Tryz.prog.depth 144 (2 / Tryz.prog.cellsOf 144) 0 144 1=true:=by kernel_rfl
theorem bN3:∃ i,Tryz.prog.info? 5=some i∧i.zero=some (.int .u8 0)∧i.size=1∧i.bytes=1:=by
 obtain⟨i,h1,h2⟩:=Option.map_eq_some_iff.1 (by kernel_rfl:(Tryz.prog.info? 5).map (fun i=>(i.zero,i.size,i.bytes))=some (some (.int .u8 0),1,1))
 simp only[Prod.mk.injEq]at h2
 exact⟨i,h1,h2⟩
set_option maxHeartbeats 1000000 in
set_option maxRecDepth 100000 in
theorem bQ0 (b:Nat) (w:World) (h0:w.cell? ⟨b,0,none⟩=some (.pointer (some ⟨b,0,none⟩))) :
  Calls Tryz.prog 173 #[.pointer (some ⟨b,0,none⟩)] w fun e w'=>e=.returned (.tuple #[])∧w'=w:=by
 obtain⟨j,hj,_⟩:=bTr
 go_enter Tryz.func173,Tryz.ntmps173
 go_wp2
 rw[Lib.run_neq_ptr_same w _ Tryz.underlying142 hj]
 go_wp2
 go_end0
 exact⟨rfl,rfl⟩
set_option maxHeartbeats 1000000 in
set_option maxRecDepth 100000 in
theorem bLx (b:Nat) (w:World) (h0:w.cell? ⟨b,0,none⟩=some (.pointer none)) (hsh:w.shape? b=some (144,2)) (hfz:w.frozen? ⟨b,0,none⟩=false) :
  Calls Tryz.prog 173 #[.pointer (some ⟨b,0,none⟩)] w fun e w'=>e=.returned (.tuple #[])∧w'=w.setCell ⟨b,0,none⟩ (.pointer (some ⟨b,0,none⟩)):=by
 obtain⟨j,hj,hjs⟩:=bTr
 go_enter Tryz.func173,Tryz.ntmps173
 go_wp2
 rw[Lib.run_to_unsafe w ⟨b,0,none⟩ Tryz.underlying142 Tryz.underlying193 hj (by rw[hjs];decide) hsh (Nat.zero_lt_succ 1)]
 simp only[Result.andThen]
 rw[Oper.upon_value]
 go_wp2
 rw[run_callFunc_extern Tryz.func196 (by kernel_rfl) (by kernel_rfl) (by kernel_rfl) (e:=Extern.AbiNoEscape.same) (by kernel_rfl)]
 rw[Lib.run_noEscape]
 simp only[Result.andThen]
 rw[Oper.upon_value]
 go_wp2
 rw[Lib.run_from_unsafe w ⟨b,0,none⟩ Tryz.underlying193 Tryz.underlying142 hj hsh bYz]
 simp only[Result.andThen]
 rw[Oper.upon_value]
 go_wp2
 go_end0
 exact⟨rfl,rfl⟩
theorem bTp (b:Nat) (p u:Value) (w:World) (hb:w.heap[b]? =some (.cells #[p,u] 144 (0,0))) (hp:p=.pointer none∨p=.pointer (some ⟨b,0,none⟩)) :
  Calls Tryz.prog 173 #[.pointer (some ⟨b,0,none⟩)] w fun e w'=>e=.returned (.tuple #[])∧w'.heap[b]? =some (.cells #[.pointer (some ⟨b,0,none⟩),u] 144 (0,0))∧w'.heap.size=w.heap.size∧w'.os=w.os∧w'.output=w.output ∧
   ∀ k,k≠b→w'.heap[k]? =w.heap[k]? :=by
 have c0:w.cell? ⟨b,0,none⟩=some p:=by rw[Lib.cell_of_heap hb];rfl
 rcases hp with rfl | rfl
 ·refine (bLx b w c0 (by simp[World.shape?,hb]) (Lib.frozen_of_heap hb 0)).mono ?_
  rintro e w' ⟨rfl,rfl⟩
  refine⟨rfl,?_,by simp[World.setCell],rfl,rfl,fun k hk=>RowKit.Below.heap_setCell _ _ _ _ (fun e=>hk (by simp[e]))⟩
  simp[World.setCell,Array.getElem?_modify,hb]
 ·refine (bQ0 b w c0).mono ?_
  rintro e w' ⟨rfl,rfl⟩
  exact⟨rfl,hb,rfl,rfl,rfl,fun _ _=>rfl⟩
set_option maxHeartbeats 1000000 in
set_option maxRecDepth 100000 in
theorem bYx (b:Nat) (p:Value) (a:Option Addr) (n m:Nat) (w:World) (hb:w.heap[b]? =some (.cells #[p,.slice a n m] 144 (0,0))) :
  Calls Tryz.prog 131 #[.pointer (some ⟨b,0,none⟩)] w fun e w'=>e=.returned (.int .i64 n)∧w'=w:=by
 have c1:w.cell? ⟨b,1,none⟩=some (.slice a n m):=by rw[Lib.cell_of_heap hb];rfl
 go_enter Tryz.func131,Tryz.ntmps131
 go_wp2
 go_ret
 exact⟨rfl,rfl⟩
theorem bLj (w:World) (g n:Nat) (cur:Array Value) (t:TypeId) (h:w.heap[g]? =some (.cells cur t (0,0))):(w.freeze ⟨g,0,none⟩ n).heap.size=w.heap.size∧(w.freeze ⟨g,0,none⟩ n).os=w.os∧(w.freeze ⟨g,0,none⟩ n).output=w.output ∧
  (∃ fr,(w.freeze ⟨g,0,none⟩ n).heap[g]? =some (.cells cur t fr))∧∀ k,k≠g→(w.freeze ⟨g,0,none⟩ n).heap[k]? =w.heap[k]? :=by
 unfold World.freeze
 split
 ·exact⟨rfl,rfl,rfl,⟨_,h⟩,fun _ _=>rfl⟩
 ·refine⟨by simp,rfl,rfl,?_,fun k hk=>?_⟩
  ·simp only[Array.getElem?_modify,if_true,h,Option.map_some]
   exact⟨_,rfl⟩
  ·simp only[Array.getElem?_modify]
   rw[if_neg (fun e=>hk e.symm)]
set_option maxHeartbeats 2000000 in
set_option maxRecDepth 100000 in
theorem cAi (b:Nat) (p u:Value) (bs:List UInt8) (s:ByteArray) (w:World) (hb:w.heap[b]? =some (.cells #[p,u] 144 (0,0))) (hp:p=.pointer none∨p=.pointer (some ⟨b,0,none⟩)) (hu:bZ4 bXe w b u bs)
  (hl:bs.length+s.size≤140737488355328) (h0:0<bs.length+s.size) :
  Calls Tryz.prog 130 #[.pointer (some ⟨b,0,none⟩),.string s] w fun e w'=>∃ y,e=.returned (.tuple #[.int .i64 s.size,y])∧w.heap.size≤w'.heap.size∧w'.os=w.os∧w'.output=w.output ∧
   ∃ g' cur',w'.heap[b]? =some (.cells #[.pointer (some ⟨b,0,none⟩),.slice (some ⟨g',0,none⟩) (bs++s.data.toList).length cur'.size] 144 (0,0))∧g'≠b∧w'.heap[g']? =some (.cells cur' 5 (0,0)) ∧
    (bs++s.data.toList).length≤cur'.size∧cur'.size≤maxLen∧cur'.toList.take (bs++s.data.toList).length=aBu (bs++s.data.toList)∧(w.heap.size≤g'∨∃ n c,u=.slice (some ⟨g',0,none⟩) n c) ∧
    ∀ k,k<w.heap.size→k≠b→(∀ n c,u≠.slice (some ⟨k,0,none⟩) n c)→w'.heap[k]? =w.heap[k]? :=by
 obtain⟨i0,hi,hz0,hz1,hz2⟩:=bN3
 have hlt:b<w.heap.size:=by
  rcases Nat.lt_or_ge b w.heap.size with h' | h'
  ·exact h'
  ·simp[Array.getElem?_eq_none h']at hb
 go_enter Tryz.func130,Tryz.ntmps130
 go_wp2_with (go_at_call 173;refine (bTp b p u _ hb hp).mono ?_)
 rintro e w1 ⟨rfl,hb1,hs1,ho1,hout1,hk1⟩
 have c0:w1.cell? ⟨b,0,none⟩=some (.pointer (some ⟨b,0,none⟩)):=by rw[Lib.cell_of_heap hb1];rfl
 have c1:w1.cell? ⟨b,1,none⟩=some u:=by rw[Lib.cell_of_heap hb1];rfl
 have hu1:(u=.slice none 0 0∧bs=[])∨∃ g cur,u=.slice (some ⟨g,0,none⟩) bs.length cur.size∧w1.heap[g]? =some (.cells cur 5 (0,0))∧bs.length≤cur.size∧cur.size≤maxLen∧cur.toList.take bs.length=aBu bs:=by
  rcases hu with h | ⟨g,cur,h1,h2,h3,h4,h5,h6⟩
  ·exact .inl h
  ·exact .inr ⟨g,cur,h1,by rw[hk1 g h2];exact h3,h4,h5,h6⟩
 have hub:∀ n c,u≠.slice (some ⟨b,0,none⟩) n c:=by
  intro n c he
  rcases hu with⟨h,_⟩ | ⟨g,cur,h1,h2,_⟩
  ·rw[h]at he;cases he
  ·rw[h1]at he
   injection he with he _ _
   injection he with he
   injection he with he _ _
   exact h2 he
 go_wp2_with (at_builtin;refine aXb rfl _ _ 107 9 rfl 5 i0 Tryz.underlying107 Tryz.underlying9 hi hz0 hz1 hz2 _ bs rfl hu1 s rfl hl h0 ?_)
 intro g' cur' w2 q1 q2 q3 q4 q5 q6 q7 q8 q9
 have hb2:w2.heap[b]? =some (.cells #[.pointer (some ⟨b,0,none⟩),u] 144 (0,0)):=by
  rw[q9 b (by omega) hub]
  exact hb1
 have d0:w2.cell? ⟨b,0,none⟩=some (.pointer (some ⟨b,0,none⟩)):=by rw[Lib.cell_of_heap hb2];rfl
 have d1:w2.cell? ⟨b,1,none⟩=some u:=by rw[Lib.cell_of_heap hb2];rfl
 have f1:w2.frozen? ⟨b,1,none⟩=false:=Lib.frozen_of_heap hb2 1
 have hgb:g'≠b:=fun e=>by
  subst e
  rw[hb2]at q1
  simp only[Option.some.injEq,Obj.cells.injEq]at q1
  exact absurd q1.2.1 (by decide)
 have hbl:(bs++s.data.toList).length=bs.length+s.size:=by rw[List.length_append];rfl
 go_wp2
 go_ret2
 refine⟨_,rfl,by simp[World.setCell];omega,q7,q8,g',cur',?_,hgb,?_,by rw[hbl];exact q2,q3,by rw[hbl];exact q4,?_,?_⟩
 ·simp[World.setCell,Array.getElem?_modify,hb2]
 ·rw[RowKit.Below.heap_setCell _ _ _ _ hgb]
  exact q1
 ·exact q5
 ·intro k hk hkb hku
  rw[RowKit.Below.heap_setCell _ _ _ _ hkb,q9 k (by omega) hku,hk1 k hkb]
set_option maxHeartbeats 1000000 in
set_option maxRecDepth 100000 in
theorem bYw (b:Nat) (p:Value) (g:Nat) (cur:Array Value) (bs:List UInt8) (w:World) (hb:w.heap[b]? =some (.cells #[p,.slice (some ⟨g,0,none⟩) bs.length cur.size] 144 (0,0))) (hgb:g≠b) (hg:w.heap[g]? =some (.cells cur 5 (0,0)))
  (h1:bs.length≤cur.size) (h2:cur.size≤maxLen) (h3:cur.toList.take bs.length=aBu bs) (h0:0<bs.length) :
  Calls Tryz.prog 132 #[.pointer (some ⟨b,0,none⟩)] w fun e w'=>e=.returned (.string ⟨bs.toArray⟩)∧w'.heap.size=w.heap.size∧w'.os=w.os∧w'.output=w.output∧(∃ fr,w'.heap[g]? =some (.cells cur 5 fr))∧∀ k,k≠g→w'.heap[k]? =w.heap[k]? :=by
 have hbn:bs≠[]:=fun h=>by rw[h]at h0;simp at h0
 have hown:w.drew.ownsRow 0 5 1 (.slice (some ⟨g,0,none⟩) bs.length cur.size) bs.length (aBu bs):=⟨by simp[aBu],.inr ⟨g,cur.size,cur,rfl,Nat.zero_le _,hg,h1,h2,by simp,by simpa using h3⟩⟩
 have c1:w.drew.cell? ⟨b,1,none⟩=some (.slice (some ⟨g,0,none⟩) bs.length cur.size):=by
  have:w.drew.heap[b]? =some (.cells #[p,.slice (some ⟨g,0,none⟩) bs.length cur.size] 144 (0,0)):=hb
  rw[Lib.cell_of_heap this];rfl
 have hSD:(Builtin.unsafeSliceData_ #[107] 179 #[.slice (some ⟨g,0,none⟩) bs.length cur.size]).run Tryz.prog w.drew=.ok (.pointer (some ⟨g,0,none⟩)) w.drew :=
  Lib.run_unsafeSliceData_row _ _ _ _ _ _ (by omega)
 have hUS:(Builtin.unsafeString_ #[179,3] 9 #[.pointer (some ⟨g,0,none⟩),.int .i64 bs.length]).run Tryz.prog w.drew=.ok (.string ⟨bs.toArray⟩) (w.drew.freeze ⟨g,0,none⟩ bs.length):=by
  refine Lib.run_unsafeString_row w.drew 179 3 9 5 Tryz.underlying179 (by kernel_rfl) g cur.size (by have hg':w.drew.heap[g]? =some (.cells cur 5 (0,0)):=hg;simp[World.shape?,hg']) bs hbn (by omega) (by unfold maxLen at h2;omega) ?_
  intro j x hx
  exact hown.cells (g:=g) rfl j (.int .u8 x.toNat) (by simp[aBu,hx])
 go_enter Tryz.func132,Tryz.ntmps132
 go_wp2
 go_region
 all_goals (go_wp2;go_ret;exact⟨rfl,bLj w.drew g _ cur _ hg⟩)
theorem bTs:bU7 Tryz.prog bXe:=⟨fun b p u bs s w h1 h2 h3 h4 h5=>cAi b p u bs s w h1 h2 h3 h4 h5,fun b p a n m w h=>bYx b p a n m w h,fun b p g cur bs w h1 h2 h3 h4 h5 h6 h7=>bYw b p g cur bs w h1 h2 h3 h4 h5 h6 h7⟩
noncomputable section
abbrev pE:PTy:=.val false [.err]
abbrev rE:RTy:=⟨false,[(.err,false)]⟩
def aWl:aC0:=fun cs=>match cs with
 |[.str s]=>some (decide (s.length≤281474976710656),[.str s])
 |_=>none
def bTb (g:FuncId):Option Func:=if g=177 then some Tryz.f177 else if g=178 then some Tryz.f178 else none
def cA1 (lv:List (Nat×List Nat)) (gs:Laws):Env:={mkE lv gs with inl:=bTb}
def aU1:aC0:=fun cs=>match cs with
 |[.str _,.str s,.int .i64 _,.int .i64 _,.err x]=>some (decide (x=.int 180 .i64 1∨x=.int 180 .i64 2)&&decide (s.length≤281474976710656),[.err .any])
 |_=>none
def aWt:Env:=cA1 [] [(198,(sg [pS] [rS]),aWl)]
def aM3 (c:Nat):Nat:=c|||32
def aV1 (c:Nat):Nat:=if 48≤c∧c≤57 then c-48 else if 97≤aM3 c∧aM3 c≤102 then aM3 c-87 else 16
def bFt:List UInt8→Nat→Nat×Int
 |[],n=>(n,0)
 |c::r,n=>if aV1 c.toNat<16 then (if 4294967295<n*16+aV1 c.toNat then (4294967295,1)else bFt r (n*16+aV1 c.toNat))else (0,2)
def pu (l:List UInt8):Nat×Int:=if l=[]then (0,2)else bFt l 0
def aSj (l:List UInt8):Int:=(pu l).1
def aQk (l:List UInt8):Int:=(pu l).2
def bUc (n:Int):Er:=if n=0 then .nil else .int 180 .i64 n
def bLn (n:Int):Er:=if n=0 then .nil else .any
def aVg:aC0:=fun cs=>match cs with
 |[.int .u8 c]=>some (decide (0≤c)&&decide (c<256),[.int .u8 (aM3 c.toNat:Nat)])
 |_=>none
def bJs:aC0:=fun cs=>match cs with
 |[.str s,.int .i64 b,.int .i64 z]=>some (decide (b=16)&&(decide (z=32)&&decide (s.length≤1048576)),[.int .u64 (aSj s),.err (bUc (aQk s))])
 |_=>none
def bRp:aC0:=fun cs=>match cs with
 |[.str s,.int .i64 b,.int .i64 z]=>some (decide (b=16)&&(decide (z=32)&&decide (s.length≤1048576)),[.int .u64 (aSj s),.err (bLn (aQk s))])
 |_=>none
abbrev bBu:RTy:=⟨false,[(.int .u64,false)]⟩
def bE9 (s:List UInt8) (mx n:Int) (ln:Nat) (l:Int) (r:List (List C)) (i:Int):St:=st1 [(1,aB0 16),(8,.l (.b false)),(9,bEe s),(10,.l (.i .u64 1152921504606846976)),(11,.l (.i .u64 mx)),(12,.l (.b false)),(13,.l (.i .u64 n)),(99,.l (.ref 0 0 ln)),(100,aB0 l),(101,aB0 i)] 1 r
def bNh:Env:=mkE [] []
def bU1:Env:=mkE [(36,[1,8,9,10,11,12,13,99,100,101])] [(175,(sg [pU8] [rU8]),aVg)]
def cAo:Env:=mkE [] [(136,(sg [pS,pS,pI,pI,pE] [rE]),aU1),(135,(sg [pS,pI,pI] [bBu,rE]),bJs)]
end
theorem bIv (H : List Pt → Nat → St → T (List C)) (a : List UInt8) (s : List UInt8) (b : Int) (c : Int) : (aAe aWt (bSn aWt (2 : Nat)) (sg [pS, pS, pI, pI, pE] [rE]) Tryz.f136 H
  [C.str a, C.str s, C.int IntKind.i64 b, C.int IntKind.i64 c, C.err (Er.int (180 : TypeId) IntKind.i64 (1 : Int))]).eval =
 ((.must (decide (s.length ≤ (281474976710656 : Nat)))
 (.ret [C.err Er.any])) : T (List C)).eval := aAd (by kernel_rfl)
theorem bIu (H : List Pt → Nat → St → T (List C)) (a : List UInt8) (s : List UInt8) (b : Int) (c : Int) : (aAe aWt (bSn aWt (2 : Nat)) (sg [pS, pS, pI, pI, pE] [rE]) Tryz.f136 H
  [C.str a, C.str s, C.int IntKind.i64 b, C.int IntKind.i64 c, C.err (Er.int (180 : TypeId) IntKind.i64 (2 : Int))]).eval =
 ((.must (decide (s.length ≤ (281474976710656 : Nat)))
 (.ret [C.err Er.any])) : T (List C)).eval := aAd (by kernel_rfl)
theorem bK5 (H:List Pt→Nat→St→T (List C)) (c:Int):(aAe bNh aAb (sg [pU8] [rU8]) Tryz.f175 H [C.int .u8 c]).eval=((.ret [C.int .u8 (ior .u8 c 32)]):T (List C)).eval:=aAd (by kernel_rfl)
theorem bV1 (H:List Pt→Nat→St→T (List C)) (s:List UInt8):(aAe bU1 aAb (sg [pS,pI,pI] [bBu,rE]) Tryz.f135 H [C.str s,C.int .i64 16,C.int .i64 32]).eval=((.ask (s==[]) (.ret [C.int .u64 0,C.err (Er.int 180 .i64 2)]) (H [Pt.r,Pt.r,Pt.r,Pt.r,Pt.r,Pt.r,Pt.r,Pt.r,Pt.r,Pt.r,Pt.r,Pt.l,Pt.r,Pt.b] 9223372036854775808 ({slots:=[(1,W.l (L.i .i64 ((16:Int)))),(8,W.l (L.b false)),(9,W.l (L.s s)),(10,W.l (L.i .u64 1152921504606846976)),(11,W.l (L.i .u64 (IntKind.u64.wrap (aX9 .u64 1 (IntKind.u64.wrap ((32:Int)))-(1:Int))))),(12,W.l (L.b false)),(13,W.l (L.i .u64 0)),(99,W.l (L.ref 0 0 s.length)),(100,W.l (L.i .i64 (↑s.length:Int))),(101,W.l (L.i .i64 0))],heap:=[(0,Blk.arr 1 (aAa s))],next:=1,pins:=[]}))):T (List C)).eval:=aAd (by kernel_rfl)
theorem bOv (H:List Pt→Nat→St→T (List C)) (s:List UInt8) (mx:Int) (n:Int) (ln:Nat) (l:Int) (r:List (List C)) (i:Int) (k:Nat):(aB3 bU1 aAb (sg [pS,pI,pI] [bBu,rE]) Tryz.f135 H [Pt.r,Pt.r,Pt.r,Pt.r,Pt.r,Pt.r,Pt.r,Pt.r,Pt.r,Pt.r,Pt.r,Pt.l,Pt.r,Pt.b] k (bE9 s mx n ln l r i)).eval=((.ask (decide (i<l)) (.must (decide ((0:Int)≤i)&&decide (i<(↑ln:Int))) (.must (decide (0+i.toNat<r.length)&&(decide (0<(r.getD (0+i.toNat) []).length)&&C.is (K.int .u8) ((r.getD (0+i.toNat) []).getD 0 (C.fn 0 []))&&true)) (.ask (decide (((r.getD (0+i.toNat) []).getD 0 (C.fn 0 [])).toInt=(95:Int))) (.ask (decide ((48:Int)≤((r.getD (0+i.toNat) []).getD 0 (C.fn 0 [])).toInt)) (.ask (decide (((r.getD (0+i.toNat) []).getD 0 (C.fn 0 [])).toInt≤(57:Int))) (.ask (decide (IntKind.u8.wrap 16≤IntKind.u8.wrap (((r.getD (0+i.toNat) []).getD 0 (C.fn 0 [])).toInt-(48:Int)))) (.ret [C.int .u64 0,C.err (Er.int 180 .i64 2)]) (.ask (decide ((1152921504606846976:Int)≤n)) (.ret [C.int .u64 mx,C.err (Er.int 180 .i64 1)]) (.ask (decide (IntKind.u64.wrap (IntKind.u64.wrap (n*IntKind.u64.wrap 16)+IntKind.u64.wrap (IntKind.u8.wrap (((r.getD (0+i.toNat) []).getD 0 (C.fn 0 [])).toInt-(48:Int))))<IntKind.u64.wrap (n*IntKind.u64.wrap 16))) (.ret [C.int .u64 mx,C.err (Er.int 180 .i64 1)]) (.ask (decide (mx<IntKind.u64.wrap (IntKind.u64.wrap (n*IntKind.u64.wrap 16)+IntKind.u64.wrap (IntKind.u8.wrap (((r.getD (0+i.toNat) []).getD 0 (C.fn 0 [])).toInt-(48:Int)))))) (.ret [C.int .u64 mx,C.err (Er.int 180 .i64 1)]) (H [Pt.r,Pt.r,Pt.r,Pt.r,Pt.r,Pt.r,Pt.r,Pt.r,Pt.r,Pt.r,Pt.r,Pt.l,Pt.r,Pt.b] k (bE9 (s) (mx) (IntKind.u64.wrap (IntKind.u64.wrap (n*IntKind.u64.wrap 16)+IntKind.u64.wrap (IntKind.u8.wrap (((r.getD (0+i.toNat) []).getD 0 (C.fn 0 [])).toInt-(48:Int))))) (ln) (l) (r) (IntKind.i64.wrap (i+(1:Int))))))))) (.must (decide ((0:Int)≤((r.getD (0+i.toNat) []).getD 0 (C.fn 0 [])).toInt)&&decide (((r.getD (0+i.toNat) []).getD 0 (C.fn 0 [])).toInt<(256:Int))) (.ask (decide ((97:Int)≤Int.ofNat (aM3 ((r.getD (0+i.toNat) []).getD 0 (C.fn 0 [])).toInt.toNat))) (.must (decide ((0:Int)≤((r.getD (0+i.toNat) []).getD 0 (C.fn 0 [])).toInt)&&decide (((r.getD (0+i.toNat) []).getD 0 (C.fn 0 [])).toInt<(256:Int))) (.ask (decide (Int.ofNat (aM3 ((r.getD (0+i.toNat) []).getD 0 (C.fn 0 [])).toInt.toNat)≤(122:Int))) (.must (decide ((0:Int)≤((r.getD (0+i.toNat) []).getD 0 (C.fn 0 [])).toInt)&&decide (((r.getD (0+i.toNat) []).getD 0 (C.fn 0 [])).toInt<(256:Int))) (.ask (decide (IntKind.u8.wrap 16≤IntKind.u8.wrap (IntKind.u8.wrap (Int.ofNat (aM3 ((r.getD (0+i.toNat) []).getD 0 (C.fn 0 [])).toInt.toNat)-(97:Int))+(10:Int)))) (.ret [C.int .u64 0,C.err (Er.int 180 .i64 2)]) (.ask (decide ((1152921504606846976:Int)≤n)) (.ret [C.int .u64 mx,C.err (Er.int 180 .i64 1)]) (.ask (decide (IntKind.u64.wrap (IntKind.u64.wrap (n*IntKind.u64.wrap 16)+IntKind.u64.wrap (IntKind.u8.wrap (IntKind.u8.wrap (Int.ofNat (aM3 ((r.getD (0+i.toNat) []).getD 0 (C.fn 0 [])).toInt.toNat)-(97:Int))+(10:Int))))<IntKind.u64.wrap (n*IntKind.u64.wrap 16))) (.ret [C.int .u64 mx,C.err (Er.int 180 .i64 1)]) (.ask (decide (mx<IntKind.u64.wrap (IntKind.u64.wrap (n*IntKind.u64.wrap 16)+IntKind.u64.wrap (IntKind.u8.wrap (IntKind.u8.wrap (Int.ofNat (aM3 ((r.getD (0+i.toNat) []).getD 0 (C.fn 0 [])).toInt.toNat)-(97:Int))+(10:Int)))))) (.ret [C.int .u64 mx,C.err (Er.int 180 .i64 1)]) (H [Pt.r,Pt.r,Pt.r,Pt.r,Pt.r,Pt.r,Pt.r,Pt.r,Pt.r,Pt.r,Pt.r,Pt.l,Pt.r,Pt.b] k (bE9 (s) (mx) (IntKind.u64.wrap (IntKind.u64.wrap (n*IntKind.u64.wrap 16)+IntKind.u64.wrap (IntKind.u8.wrap (IntKind.u8.wrap (Int.ofNat (aM3 ((r.getD (0+i.toNat) []).getD 0 (C.fn 0 [])).toInt.toNat)-(97:Int))+(10:Int))))) (ln) (l) (r) (IntKind.i64.wrap (i+(1:Int)))))))))) (.ret [C.int .u64 0,C.err (Er.int 180 .i64 2)]))) (.ret [C.int .u64 0,C.err (Er.int 180 .i64 2)])))) (.must (decide ((0:Int)≤((r.getD (0+i.toNat) []).getD 0 (C.fn 0 [])).toInt)&&decide (((r.getD (0+i.toNat) []).getD 0 (C.fn 0 [])).toInt<(256:Int))) (.ask (decide ((97:Int)≤Int.ofNat (aM3 ((r.getD (0+i.toNat) []).getD 0 (C.fn 0 [])).toInt.toNat))) (.must (decide ((0:Int)≤((r.getD (0+i.toNat) []).getD 0 (C.fn 0 [])).toInt)&&decide (((r.getD (0+i.toNat) []).getD 0 (C.fn 0 [])).toInt<(256:Int))) (.ask (decide (Int.ofNat (aM3 ((r.getD (0+i.toNat) []).getD 0 (C.fn 0 [])).toInt.toNat)≤(122:Int))) (.must (decide ((0:Int)≤((r.getD (0+i.toNat) []).getD 0 (C.fn 0 [])).toInt)&&decide (((r.getD (0+i.toNat) []).getD 0 (C.fn 0 [])).toInt<(256:Int))) (.ask (decide (IntKind.u8.wrap 16≤IntKind.u8.wrap (IntKind.u8.wrap (Int.ofNat (aM3 ((r.getD (0+i.toNat) []).getD 0 (C.fn 0 [])).toInt.toNat)-(97:Int))+(10:Int)))) (.ret [C.int .u64 0,C.err (Er.int 180 .i64 2)]) (.ask (decide ((1152921504606846976:Int)≤n)) (.ret [C.int .u64 mx,C.err (Er.int 180 .i64 1)]) (.ask (decide (IntKind.u64.wrap (IntKind.u64.wrap (n*IntKind.u64.wrap 16)+IntKind.u64.wrap (IntKind.u8.wrap (IntKind.u8.wrap (Int.ofNat (aM3 ((r.getD (0+i.toNat) []).getD 0 (C.fn 0 [])).toInt.toNat)-(97:Int))+(10:Int))))<IntKind.u64.wrap (n*IntKind.u64.wrap 16))) (.ret [C.int .u64 mx,C.err (Er.int 180 .i64 1)]) (.ask (decide (mx<IntKind.u64.wrap (IntKind.u64.wrap (n*IntKind.u64.wrap 16)+IntKind.u64.wrap (IntKind.u8.wrap (IntKind.u8.wrap (Int.ofNat (aM3 ((r.getD (0+i.toNat) []).getD 0 (C.fn 0 [])).toInt.toNat)-(97:Int))+(10:Int)))))) (.ret [C.int .u64 mx,C.err (Er.int 180 .i64 1)]) (H [Pt.r,Pt.r,Pt.r,Pt.r,Pt.r,Pt.r,Pt.r,Pt.r,Pt.r,Pt.r,Pt.r,Pt.l,Pt.r,Pt.b] k (bE9 (s) (mx) (IntKind.u64.wrap (IntKind.u64.wrap (n*IntKind.u64.wrap 16)+IntKind.u64.wrap (IntKind.u8.wrap (IntKind.u8.wrap (Int.ofNat (aM3 ((r.getD (0+i.toNat) []).getD 0 (C.fn 0 [])).toInt.toNat)-(97:Int))+(10:Int))))) (ln) (l) (r) (IntKind.i64.wrap (i+(1:Int)))))))))) (.ret [C.int .u64 0,C.err (Er.int 180 .i64 2)]))) (.ret [C.int .u64 0,C.err (Er.int 180 .i64 2)])))) (.ask (decide ((48:Int)≤((r.getD (0+i.toNat) []).getD 0 (C.fn 0 [])).toInt)) (.ask (decide (((r.getD (0+i.toNat) []).getD 0 (C.fn 0 [])).toInt≤(57:Int))) (.ask (decide (IntKind.u8.wrap 16≤IntKind.u8.wrap (((r.getD (0+i.toNat) []).getD 0 (C.fn 0 [])).toInt-(48:Int)))) (.ret [C.int .u64 0,C.err (Er.int 180 .i64 2)]) (.ask (decide ((1152921504606846976:Int)≤n)) (.ret [C.int .u64 mx,C.err (Er.int 180 .i64 1)]) (.ask (decide (IntKind.u64.wrap (IntKind.u64.wrap (n*IntKind.u64.wrap 16)+IntKind.u64.wrap (IntKind.u8.wrap (((r.getD (0+i.toNat) []).getD 0 (C.fn 0 [])).toInt-(48:Int))))<IntKind.u64.wrap (n*IntKind.u64.wrap 16))) (.ret [C.int .u64 mx,C.err (Er.int 180 .i64 1)]) (.ask (decide (mx<IntKind.u64.wrap (IntKind.u64.wrap (n*IntKind.u64.wrap 16)+IntKind.u64.wrap (IntKind.u8.wrap (((r.getD (0+i.toNat) []).getD 0 (C.fn 0 [])).toInt-(48:Int)))))) (.ret [C.int .u64 mx,C.err (Er.int 180 .i64 1)]) (H [Pt.r,Pt.r,Pt.r,Pt.r,Pt.r,Pt.r,Pt.r,Pt.r,Pt.r,Pt.r,Pt.r,Pt.l,Pt.r,Pt.b] k (bE9 (s) (mx) (IntKind.u64.wrap (IntKind.u64.wrap (n*IntKind.u64.wrap 16)+IntKind.u64.wrap (IntKind.u8.wrap (((r.getD (0+i.toNat) []).getD 0 (C.fn 0 [])).toInt-(48:Int))))) (ln) (l) (r) (IntKind.i64.wrap (i+(1:Int))))))))) (.must (decide ((0:Int)≤((r.getD (0+i.toNat) []).getD 0 (C.fn 0 [])).toInt)&&decide (((r.getD (0+i.toNat) []).getD 0 (C.fn 0 [])).toInt<(256:Int))) (.ask (decide ((97:Int)≤Int.ofNat (aM3 ((r.getD (0+i.toNat) []).getD 0 (C.fn 0 [])).toInt.toNat))) (.must (decide ((0:Int)≤((r.getD (0+i.toNat) []).getD 0 (C.fn 0 [])).toInt)&&decide (((r.getD (0+i.toNat) []).getD 0 (C.fn 0 [])).toInt<(256:Int))) (.ask (decide (Int.ofNat (aM3 ((r.getD (0+i.toNat) []).getD 0 (C.fn 0 [])).toInt.toNat)≤(122:Int))) (.must (decide ((0:Int)≤((r.getD (0+i.toNat) []).getD 0 (C.fn 0 [])).toInt)&&decide (((r.getD (0+i.toNat) []).getD 0 (C.fn 0 [])).toInt<(256:Int))) (.ask (decide (IntKind.u8.wrap 16≤IntKind.u8.wrap (IntKind.u8.wrap (Int.ofNat (aM3 ((r.getD (0+i.toNat) []).getD 0 (C.fn 0 [])).toInt.toNat)-(97:Int))+(10:Int)))) (.ret [C.int .u64 0,C.err (Er.int 180 .i64 2)]) (.ask (decide ((1152921504606846976:Int)≤n)) (.ret [C.int .u64 mx,C.err (Er.int 180 .i64 1)]) (.ask (decide (IntKind.u64.wrap (IntKind.u64.wrap (n*IntKind.u64.wrap 16)+IntKind.u64.wrap (IntKind.u8.wrap (IntKind.u8.wrap (Int.ofNat (aM3 ((r.getD (0+i.toNat) []).getD 0 (C.fn 0 [])).toInt.toNat)-(97:Int))+(10:Int))))<IntKind.u64.wrap (n*IntKind.u64.wrap 16))) (.ret [C.int .u64 mx,C.err (Er.int 180 .i64 1)]) (.ask (decide (mx<IntKind.u64.wrap (IntKind.u64.wrap (n*IntKind.u64.wrap 16)+IntKind.u64.wrap (IntKind.u8.wrap (IntKind.u8.wrap (Int.ofNat (aM3 ((r.getD (0+i.toNat) []).getD 0 (C.fn 0 [])).toInt.toNat)-(97:Int))+(10:Int)))))) (.ret [C.int .u64 mx,C.err (Er.int 180 .i64 1)]) (H [Pt.r,Pt.r,Pt.r,Pt.r,Pt.r,Pt.r,Pt.r,Pt.r,Pt.r,Pt.r,Pt.r,Pt.l,Pt.r,Pt.b] k (bE9 (s) (mx) (IntKind.u64.wrap (IntKind.u64.wrap (n*IntKind.u64.wrap 16)+IntKind.u64.wrap (IntKind.u8.wrap (IntKind.u8.wrap (Int.ofNat (aM3 ((r.getD (0+i.toNat) []).getD 0 (C.fn 0 [])).toInt.toNat)-(97:Int))+(10:Int))))) (ln) (l) (r) (IntKind.i64.wrap (i+(1:Int)))))))))) (.ret [C.int .u64 0,C.err (Er.int 180 .i64 2)]))) (.ret [C.int .u64 0,C.err (Er.int 180 .i64 2)])))) (.must (decide ((0:Int)≤((r.getD (0+i.toNat) []).getD 0 (C.fn 0 [])).toInt)&&decide (((r.getD (0+i.toNat) []).getD 0 (C.fn 0 [])).toInt<(256:Int))) (.ask (decide ((97:Int)≤Int.ofNat (aM3 ((r.getD (0+i.toNat) []).getD 0 (C.fn 0 [])).toInt.toNat))) (.must (decide ((0:Int)≤((r.getD (0+i.toNat) []).getD 0 (C.fn 0 [])).toInt)&&decide (((r.getD (0+i.toNat) []).getD 0 (C.fn 0 [])).toInt<(256:Int))) (.ask (decide (Int.ofNat (aM3 ((r.getD (0+i.toNat) []).getD 0 (C.fn 0 [])).toInt.toNat)≤(122:Int))) (.must (decide ((0:Int)≤((r.getD (0+i.toNat) []).getD 0 (C.fn 0 [])).toInt)&&decide (((r.getD (0+i.toNat) []).getD 0 (C.fn 0 [])).toInt<(256:Int))) (.ask (decide (IntKind.u8.wrap 16≤IntKind.u8.wrap (IntKind.u8.wrap (Int.ofNat (aM3 ((r.getD (0+i.toNat) []).getD 0 (C.fn 0 [])).toInt.toNat)-(97:Int))+(10:Int)))) (.ret [C.int .u64 0,C.err (Er.int 180 .i64 2)]) (.ask (decide ((1152921504606846976:Int)≤n)) (.ret [C.int .u64 mx,C.err (Er.int 180 .i64 1)]) (.ask (decide (IntKind.u64.wrap (IntKind.u64.wrap (n*IntKind.u64.wrap 16)+IntKind.u64.wrap (IntKind.u8.wrap (IntKind.u8.wrap (Int.ofNat (aM3 ((r.getD (0+i.toNat) []).getD 0 (C.fn 0 [])).toInt.toNat)-(97:Int))+(10:Int))))<IntKind.u64.wrap (n*IntKind.u64.wrap 16))) (.ret [C.int .u64 mx,C.err (Er.int 180 .i64 1)]) (.ask (decide (mx<IntKind.u64.wrap (IntKind.u64.wrap (n*IntKind.u64.wrap 16)+IntKind.u64.wrap (IntKind.u8.wrap (IntKind.u8.wrap (Int.ofNat (aM3 ((r.getD (0+i.toNat) []).getD 0 (C.fn 0 [])).toInt.toNat)-(97:Int))+(10:Int)))))) (.ret [C.int .u64 mx,C.err (Er.int 180 .i64 1)]) (H [Pt.r,Pt.r,Pt.r,Pt.r,Pt.r,Pt.r,Pt.r,Pt.r,Pt.r,Pt.r,Pt.r,Pt.l,Pt.r,Pt.b] k (bE9 (s) (mx) (IntKind.u64.wrap (IntKind.u64.wrap (n*IntKind.u64.wrap 16)+IntKind.u64.wrap (IntKind.u8.wrap (IntKind.u8.wrap (Int.ofNat (aM3 ((r.getD (0+i.toNat) []).getD 0 (C.fn 0 [])).toInt.toNat)-(97:Int))+(10:Int))))) (ln) (l) (r) (IntKind.i64.wrap (i+(1:Int)))))))))) (.ret [C.int .u64 0,C.err (Er.int 180 .i64 2)]))) (.ret [C.int .u64 0,C.err (Er.int 180 .i64 2)]))))))) (.ret [C.int .u64 n,C.err Er.nil])):T (List C)).eval:=aAd (by kernel_rfl)
theorem bV0 (H:List Pt→Nat→St→T (List C)) (s:List UInt8):(aAe cAo aAb (sg [pS,pI,pI] [bBu,rE]) Tryz.f105 H [C.str s,C.int .i64 16,C.int .i64 32]).eval=((.must (decide ((16:Int)=(16:Int))&&(decide ((32:Int)=(32:Int))&&decide (s.length≤1048576))) (.ask (!match bUc (aQk s)with | Er.nil=>true | x=>false) (.must (decide (bUc (aQk s)=Er.int 180 .i64 1∨bUc (aQk s)=Er.int 180 .i64 2)&&decide (s.length≤281474976710656)) (.ret [C.int .u64 (aSj s),C.err Er.any])) (.ret [C.int .u64 (aSj s),C.err Er.nil]))):T (List C)).eval:=aAd (by kernel_rfl)
set_option maxHeartbeats 4000000 in
set_option maxRecDepth 100000 in
theorem bLw (s:ByteArray) (w:World) (hlim:s.size≤281474976710656) :
  Calls Tryz.prog 198 #[.string s] w fun e w'=>e=.returned (.string s)∧RowKit.Below w.heap.size w w':=by
 have mixed:=bN4
 by_cases h0:s.size=0
 ·have hs:s=⟨#[]⟩:=by
   apply ByteArray.ext
   exact Array.eq_empty_of_size_eq_zero h0
  subst hs
  go_enter Tryz.func198,Tryz.ntmps198
  go_wp2
  go_ret
  exact⟨rfl,RowKit.Below.refl _ _⟩
 ·obtain⟨i0,hi,hz0,hz1,hz2⟩:=bN3
  have hinfo:(Tryz.prog.info? 5).map (·.size)=some 1:=by rw[hi];simp[hz1]
  have hco:Tryz.prog.cellsOf 5=1:=by simp[Program.cellsOf,hi,hz1]
  obtain⟨M,hM⟩:∃ M,M=madeCells (Value.int .u8 0).cells (((s.size:Nat):Int).toNat*i0.size):=⟨_,rfl⟩
  have hMs:M.size=s.size:=by rw[hM,size_madeCells,hz1];simp
  have hmk:∀ W:World,(Instr.makeSlice 107 (.int .i64 (s.size:Int)) (.int .i64 (s.size:Int))).run Tryz.prog W=.ok (.slice (some ⟨W.heap.size,0,none⟩) s.size s.size) (W.alloc (.cells M 5)):=fun W=>by
   have h:=run_make (P:=Tryz.prog) W 107 5 i0 (.int .u8 0) Tryz.underlying107 hi hz0 .i64 .i64 (s.size:Int) (s.size:Int) (by omega) (by omega) (by rw[hz2];omega) (by omega)
   rw[←hM]at h
   simpa using h
  clear hM
  have hcp:=Lib.run_copy_row_string (P:=Tryz.prog) (w.alloc (.cells M 5)) 107 9 3 5 w.heap.size 0 s.size s.size s M 5 Tryz.underlying107 hinfo (heap_alloc_new w _) (Nat.le_refl _) (by omega)
  obtain⟨Y,hY⟩:∃ Y,Y=(M.toList.take 0++Lib.byteCells s.data.toList++M.toList.drop (0+s.size)).toArray:=⟨_,rfl⟩
  rw[←hY]at hcp
  have hYl:Y.toList=Lib.byteCells s.data.toList:=by
   rw[hY,List.toList_toArray,List.take_zero,List.nil_append,List.drop_of_length_le (by rw[Array.length_toList];omega),List.append_nil]
  have hYs:Y.size=s.size:=by rw[←Array.length_toList,hYl,Lib.byteCells_length,←Lib.size_eq]
  have hgY:((w.alloc (.cells M 5)).setRow w.heap.size Y).heap[w.heap.size]? =some (.cells Y 5 (0,0)):=setRow_heap _ _ M _ 5 (0,0) (heap_alloc_new w _)
  have hne:s.data.toList≠[]:=fun e=>h0 (by rw[Lib.size_eq,e];rfl)
  have hUS:=Lib.run_unsafeString_row (P:=Tryz.prog) ((w.alloc (.cells M 5)).setRow w.heap.size Y) 179 3 9 5 Tryz.underlying179 hco w.heap.size Y.size (by unfold World.shape?;rw[hgY]) s.data.toList hne (by rw[←Lib.size_eq];omega) (by rw[←Lib.size_eq];omega)
   (fun j x hx=>Lib.cells_of_row hgY Y.size j _ (by rw[List.take_of_length_le (by rw[Array.length_toList];exact Nat.le_refl _),hYl];simp[Lib.byteCells,hx]))
  rw[←Lib.size_eq]at hUS
  clear hY
  go_enter Tryz.func198,Tryz.ntmps198
  go_wp2
  go_ret
  have hb1:RowKit.Below w.heap.size w (w.alloc (.cells M 5)):=(RowKit.Below.refl _ w).alloc (Nat.le_refl _) _
  have hb2:RowKit.Below w.heap.size (w.alloc (.cells M 5)) ((w.alloc (.cells M 5)).setRow w.heap.size Y):=⟨rfl,rfl,rfl,by simp,fun k hk=>setRow_other _ _ _ _ (by omega)⟩
  exact⟨rfl,Lib.below_freeze (hb1.trans hb2) (p:=⟨w.heap.size,0,none⟩) (Nat.le_refl _) _⟩
theorem bLv:aAm Tryz.prog 198 (sg [pS] [rS]) aWl:=by
 intro w okR pb vals cs outs hok hg hpb ha hk h
 unfold aWl at h
 split at h
 ·simp only[Option.some.injEq,Prod.mk.injEq,decide_eq_true_eq]at h
  obtain⟨h1,rfl⟩:=h
  rename_i s
  generalize hcs:[C.str s]=cs0 at ha
  cases ha with
  |val l1 r1 a1 =>
   cases a1
   obtain⟨d,rfl,hr⟩:=r1
   simp only[List.append_nil,List.cons.injEq,and_true]at hcs
   subst hcs
   cases hr with
   |str sb =>
    have hlen:sb.size≤281474976710656:=by rw[Lib.size_eq];exact h1
    have hf:=Tryz.func198
    have hn : Tryz.f198.name ≠ "runtime.NumGoroutine" := by
     have : (Tryz.f198.name == "runtime.NumGoroutine") = false := by kernel_rfl
     simpa using this
    obtain⟨cd,hb⟩:∃ cd,Tryz.f198.body=some cd:=⟨_,rfl⟩
    refine .inl ⟨by simp[callFunc,hf,hn,hb,mark],(bLw sb w hlen).mono ?_⟩
    rintro e w' ⟨rfl,hbl⟩
    exact⟨_,rfl,⟨⟨[.string sb],[],[.str sb.data.toList],[],fun _=>False,fun b hb=>hb.elim,rfl,rfl,.one (cs1:=[.str sb.data.toList]) (cs:=[]) (bs1:=[]) (bs:=[]) rfl (.data (.str sb) .nil) .nil,.val .nil,fun i j b hi=>by simp at hi,fun b hb=>by simp at hb⟩,hbl.size,fun b hb _=>hbl.block b hb,hbl.os,hbl.output⟩⟩
 ·cases h
theorem bWb : (Tryz.f177.name == "runtime.NumGoroutine") = false := by kernel_rfl
theorem bWa : (Tryz.f178.name == "runtime.NumGoroutine") = false := by kernel_rfl
theorem bHo {g : FuncId} {fn : Func} (h : bTb g = some fn) : Tryz.prog.funcs[g]? = some fn ∧ (fn.name == "runtime.NumGoroutine") = false := by
 unfold bTb at h
 split at h
 ·rename_i hg;subst hg;obtain rfl:=Option.some.inj h;exact⟨Tryz.func177,bWb⟩
 ·split at h
  ·rename_i hg;subst hg;obtain rfl:=Option.some.inj h;exact⟨Tryz.func178,bWa⟩
  ·cases h
theorem bK4 {lv:List (Nat×List Nat)} {gs:Laws} (h:∀ p,p∈gs→aAm Tryz.prog p.1 p.2.1 p.2.2):aA6 Tryz.prog (cA1 lv gs) :=
 ⟨⟨(bMa aSw).1,fun g fn hh=>(bHo hh).1,fun t m e te h1 h2=>bM1 aWn t m e te h1 h2,bSy bDe,fun t e h=>by cases h⟩,fun g sig spec hl=>h (g,sig,spec) (aEv hl),fun g fn hh=>(bHo hh).2,by kernel_rfl⟩
theorem bQq:aA6 Tryz.prog aWt:=bK4 (by simp[bLv])
theorem bIw:aAm Tryz.prog 136 (sg [pS,pS,pI,pI,pE] [rE]) aU1:=aA3 bQq (fun c hc=>bMs 2 (hc▸bQq)) Tryz.func136 (by kernel_rfl) fun cs outs hk h=>by
 unfold aU1 at h
 split at h
 ·simp only[Option.some.injEq,Prod.mk.injEq,Bool.and_eq_true,decide_eq_true_eq]at h
  obtain⟨⟨h1,h2⟩,rfl⟩:=h
  rename_i a s b c x
  rcases h1 with rfl | rfl
  ·rw[aA9,bIv]
   simp only[aA0,aA1,h2,decide_true,if_true]
  ·rw[aA9,bIu]
   simp only[aA0,aA1,h2,decide_true,if_true]
 ·cases h
theorem cA2 (a:Nat) (ha:a<256):ior .u8 (a:Int) 32=((aM3 a:Nat):Int)∧aM3 a<256:=by
 have h3:a|||32<256:=Nat.or_lt_two_pow (n:=8) ha (by decide)
 refine⟨?_,h3⟩
 show IntKind.u8.wrap (((BitVec.ofInt 8 (a:Int)|||BitVec.ofInt 8 32).toNat:Nat):Int)=_
 rw[BitVec.toNat_or]
 have h1:(BitVec.ofInt 8 (a:Int)).toNat=a:=by simp[BitVec.toNat_ofInt];omega
 have h2:(BitVec.ofInt 8 32).toNat=32:=by decide
 rw[h1,h2,aKl (by omega) (by omega)]
 rfl
theorem bVg:aA6 Tryz.prog bNh:=aA5 (by simp[])
theorem bGa:aAm Tryz.prog 175 (sg [pU8] [rU8]) aVg:=aA3 bVg aA7 Tryz.func175 (by kernel_rfl) fun cs outs hk h=>by
 unfold aVg at h
 split at h
 ·simp only[Option.some.injEq,Prod.mk.injEq,Bool.and_eq_true,decide_eq_true_eq]at h
  obtain⟨⟨h1,h2⟩,rfl⟩:=h
  rename_i c
  obtain⟨n,rfl⟩:=Int.eq_ofNat_of_zero_le h1
  rw[aA9,bK5]
  have:=(cA2 n (by omega)).1
  simp only[aA1,this,Int.toNat_natCast]
 ·cases h
theorem bV2 (s:List UInt8) (hl:s.length≤1048576):∀ (k i n:Nat),i≤s.length→s.length<i+k→n≤4294967295 →
  (aBl bU1 aAb (sg [pS,pI,pI] [bBu,rE]) Tryz.f135 [.r,.r,.r,.r,.r,.r,.r,.r,.r,.r,.r,.l,.r,.b] k (bE9 s 4294967295 n s.length s.length (aAa s) i)).eval=some [.int .u64 ((bFt (s.drop i) n).1:Nat),.err (bUc (bFt (s.drop i) n).2)]:=by
 intro k
 induction k with
 |zero=>intro i n h1 h2;omega
 |succ k ih =>
  intro i n h1 h2 h3
  rw[aAo _ _ _ _ _ _ _ (by kernel_rfl),bOv]
  by_cases hi:i<s.length
  ·have g:=bBr s i hi
   have w:IntKind.i64.wrap ((i:Int)+1)=((i+1:Nat):Int):=by rw[aAh]<;>omega
   have hz:(0:Int)≤i:=by omega
   have hi':(i:Int)<s.length:=by omega
   have hb:=aGn s i
   rw[aBq s i 0 hi]
   generalize s.getD i 0=y at g hb ⊢
   obtain⟨hlo,hlo2⟩:=cA2 y.toNat hb
   have w16:IntKind.u64.wrap 16=16:=by decide
   have w16b:IntKind.u8.wrap 16=16:=by decide
   have wn:IntKind.u64.wrap ((n:Int)*16)=(n:Int)*16:=by rw[aNp]<;>omega
   have hc0:(0:Int)≤(y.toNat:Int):=by omega
   have hc1:((y.toNat:Nat):Int)<256:=by omega
   have hnn:¬(1152921504606846976:Int)≤(n:Int):=by omega
   -- a figure d that is read
   have step:∀ d:Nat,aV1 y.toNat=d→d<256→d<16→∀ D:Int,D=(d:Int) →
     ((T.ask (decide (IntKind.u64.wrap ((n:Int)*16+IntKind.u64.wrap D)<(n:Int)*16)) (.ret [C.int IntKind.u64 4294967295,C.err (Er.int 180 IntKind.i64 1)])
      (.ask (decide ((4294967295:Int)<IntKind.u64.wrap ((n:Int)*16+IntKind.u64.wrap D))) (.ret [C.int IntKind.u64 4294967295,C.err (Er.int 180 IntKind.i64 1)])
       (aBl bU1 aAb (sg [pS,pI,pI] [bBu,rE]) Tryz.f135 [.r,.r,.r,.r,.r,.r,.r,.r,.r,.r,.r,.l,.r,.b] k (bE9 s 4294967295 (IntKind.u64.wrap ((n:Int)*16+IntKind.u64.wrap D)) s.length s.length (aAa s) ((i+1:Nat):Int)))):T (List C))).eval=some [.int .u64 ((bFt (y::s.drop (i+1)) n).1:Nat),.err (bUc (bFt (y::s.drop (i+1)) n).2)]:=by
    intro d hd _ hd16 D hD
    subst hD
    have w1:IntKind.u64.wrap ((d:Nat):Int)=(d:Int):=by rw[aNp]<;>omega
    have w2:IntKind.u64.wrap ((n:Int)*16+(d:Int))=((n*16+d:Nat):Int):=by rw[aNp]<;>omega
    have c1:¬(((n*16+d:Nat):Int)<(n:Int)*16):=by omega
    simp only[w1,w2,aA2,aA1,decide_eq_true_eq,c1,if_false,bFt,hd,hd16,if_true]
    by_cases hm:4294967295<n*16+d
    ·have hm':(4294967295:Int)<((n*16+d:Nat):Int):=by omega
     simp only[hm,hm',if_true]
     rfl
    ·have hm':¬(4294967295:Int)<((n*16+d:Nat):Int):=by omega
     simp only[hm,hm',if_false]
     exact ih (i+1) (n*16+d) (by omega) (by omega) (by omega)
   have none:aV1 y.toNat=16→some [C.int .u64 0,C.err (Er.int 180 .i64 2)]=some [.int .u64 ((bFt (y::s.drop (i+1)) n).1:Nat),.err (bUc (bFt (y::s.drop (i+1)) n).2)]:=fun h=>by
    simp only[bFt,h,Nat.lt_irrefl,if_false]
    rfl
   simp only[aA0,aA2,aA1,decide_eq_true_eq,hi',hz,Int.toNat_natCast,aB9,Nat.zero_add,hi,g,List.getD_cons_zero,List.length_cons,List.length_nil,Nat.zero_lt_one,C.toInt,C.is,beq_self_eq_true,decide_true,Bool.and_self,if_true,w,w16,w16b,wn,hc0,hc1,hnn,if_false,Int.ofNat_eq_natCast,ite_self]at step ⊢
   by_cases hA:48≤y.toNat∧y.toNat≤57
   ·have wA:IntKind.u8.wrap ((y.toNat:Int)-48)=((y.toNat-48:Nat):Int):=by rw[aKl]<;>omega
    have p1:(48:Int)≤(y.toNat:Int):=by omega
    have p2:(y.toNat:Int)≤57:=by omega
    have p3:¬(16:Int)≤((y.toNat-48:Nat):Int):=by omega
    have pd:aV1 y.toNat=y.toNat-48:=by unfold aV1;rw[if_pos hA]
    simp only[p1,p2,if_true,wA,p3,if_false]
    exact step (y.toNat-48) pd (by omega) (by omega) _ rfl
   ·have key:∀ (X Z:Option (List C)),(if (48:Int)≤(y.toNat:Int)then (if (y.toNat:Int)≤57 then X else Z)else Z)=Z:=by
     intro X Z
     by_cases p1:(48:Int)≤(y.toNat:Int)
     ·rw[if_pos p1,if_neg (by omega)]
     ·rw[if_neg p1]
    simp only[key]
    have pd:aV1 y.toNat=if 97≤aM3 y.toNat∧aM3 y.toNat≤102 then aM3 y.toNat-87 else 16:=by unfold aV1;rw[if_neg hA]
    generalize aM3 y.toNat=l at hlo2 pd ⊢
    by_cases hB:97≤l∧l≤122
    ·have q1:(97:Int)≤(l:Int):=by omega
     have q2:(l:Int)≤122:=by omega
     have wB:IntKind.u8.wrap ((l:Int)-97)=((l-97:Nat):Int):=by rw[aKl]<;>omega
     have wB2:IntKind.u8.wrap (((l-97:Nat):Int)+10)=((l-87:Nat):Int):=by rw[aKl]<;>omega
     simp only[q1,q2,if_true,wB,wB2]
     by_cases hC:l≤102
     ·rw[if_pos ⟨hB.1,hC⟩]at pd
      rw[if_neg (by omega)]
      exact step (l-87) pd (by omega) (by omega) _ rfl
     ·rw[if_neg (by omega)]at pd
      rw[if_pos (by omega)]
      exact none pd
    ·rw[if_neg (by omega)]at pd
     by_cases q1:(97:Int)≤(l:Int)
     ·rw[if_pos q1,if_neg (by omega)]
      exact none pd
     ·rw[if_neg q1]
      exact none pd
  ·have e:i=s.length:=by omega
   subst e
   have hi':¬((s.length:Int)<(s.length:Int)):=by omega
   simp only[aA2,aA1,decide_eq_true_eq,hi',if_false,List.drop_length,bFt]
   rfl
theorem bV3:∀ (l:List UInt8) (n:Nat),(bFt l n).2=0∨(bFt l n).2=1∨(bFt l n).2=2:=by
 intro l
 induction l with
 |nil=>intro n;exact .inl rfl
 |cons c r ih =>
  intro n
  simp only[bFt]
  split
  ·split
   ·exact .inr (.inl rfl)
   ·exact ih _
  ·exact .inr (.inr rfl)
theorem bZt (l:List UInt8):aQk l=0∨aQk l=1∨aQk l=2:=by
 unfold aQk pu
 split
 ·exact .inr (.inr rfl)
 ·exact bV3 l 0
theorem cAz:aA6 Tryz.prog bU1:=aA5 (by simp[bGa])
theorem bRr:aAm Tryz.prog 135 (sg [pS,pI,pI] [bBu,rE]) bJs:=aA3 cAz aA7 Tryz.func135 (by kernel_rfl) fun cs outs hk h=>by
 unfold bJs at h
 split at h
 ·simp only[Option.some.injEq,Prod.mk.injEq,Bool.and_eq_true,decide_eq_true_eq]at h
  obtain⟨⟨rfl,rfl,h1⟩,rfl⟩:=h
  rename_i s
  rw[aA9,bV1]
  by_cases hs:s=[]
  ·subst hs
   rfl
  ·have e:(s==[])=false:=by simpa using hs
   have lp:=bV2 s h1 9223372036854775808 0 0 (by omega) (by omega) (by omega)
   simp only[aA2,e,Bool.false_eq_true,if_false,aSj,aQk,pu,if_neg hs]
   exact lp
 ·cases h
theorem cAy:aA6 Tryz.prog cAo:=aA5 (by simp[bIw,bRr])
theorem bRq:aAm Tryz.prog 105 (sg [pS,pI,pI] [bBu,rE]) bRp:=aA3 cAy aA7 Tryz.func105 (by kernel_rfl) fun cs outs hk h=>by
 unfold bRp at h
 split at h
 ·simp only[Option.some.injEq,Prod.mk.injEq,Bool.and_eq_true,decide_eq_true_eq]at h
  obtain⟨⟨rfl,rfl,h1⟩,rfl⟩:=h
  rename_i s
  rw[aA9,bV0]
  have h2:s.length≤281474976710656:=by omega
  have d1:decide (Int.ofNat 16=(16:Int))=true:=by decide
  have d2:decide (Int.ofNat 32=(32:Int))=true:=by decide
  rcases bZt s with e | e | e
  ·simp[aA0,aA2,aA1,h1,e,bUc,bLn]
  ·simp[aA0,aA2,aA1,h1,h2,e,bUc,bLn]
  ·simp[aA0,aA2,aA1,h1,h2,e,bUc,bLn]
 ·cases h
noncomputable section
def aJg (c:Nat):Nat:=if 48≤c∧c≤57 then c-48 else if 97≤c∧c≤102 then c-87 else 16
def bIo:List UInt8→Nat→Option Nat
 |[],n=>some n
 |c::r,n=>if aJg c.toNat<16 then bIo r (n*16+aJg c.toNat)else none
def rn (s:List UInt8):Int×Int :=
 if 13≤s.length∧s.length≤17 then
  match bIo ((s.take 9).drop 1) 0 with
  |some n=>if aB8 n=s then (1,n)else if aC5 n=s then (2,n)else (0,0)
  |none=>(0,0)
 else (0,0)
def aDu (s:List UInt8):Int:=(rn s).1
def aC4 (s:List UInt8):Int:=(rn s).2
def aDv:aC0:=fun cs=>match cs with
 |[.str s]=>some (decide (s.length≤1048576),[.int .i64 (aDu s),.int .i64 (aC4 s)])
 |_=>none
def aHo (s:List UInt8) (n i:Int):St:=st0 [(0,bEe s),(4,aB0 n),(5,aB0 i)]
def aK2:Env:=mkE [(5,[0,4,5])] [(53,(sg [pI,pI,pI] [rB]),aE0),(49,(sg [pI] [rS]),aI8),(88,(sg [pI] [rS]),aLt)]
def aX3:Env:=mkE [] [(97,(sg [pI] [rB]),aCg),(59,(sg [pI] [rS]),aI8),(106,(sg [pI] [rS]),aLt),(105,(sg [pS,pI,pI] [bBu,rE]),bRp)]
end
theorem aXx (H:List Pt→Nat→St→T (List C)) (s:List UInt8):(aAe aK2 aAb (sg [pS] [rI,rI]) Tryz.f52 H [C.str s]).eval=((.ask (inB (↑s.length:Int) 13 17) (H [Pt.r,Pt.r,Pt.r,Pt.l,Pt.r,Pt.b] 9223372036854775808 (aHo (s) ((0:Int)) ((1:Int)))) (.ret [C.int .i64 0,C.int .i64 0])):T (List C)).eval:=aAd (by kernel_rfl)
theorem aYn (H:List Pt→Nat→St→T (List C)) (s:List UInt8):(aAe aX3 aAb (sg [pS] [rI,rI]) Tryz.f61 H [C.str s]).eval=((.ask (decide ((↑s.length:Int)<(9:Int))) (.ret [C.int .i64 0,C.int .i64 0]) (.must (decide ((0:Int)≤(9:Int))&&decide ((9:Int)≤(↑s.length:Int))&&(decide ((0:Int)≤(1:Int))&&decide ((1:Int)≤(9:Int)))) (.must (decide ((16:Int)=(16:Int))&&(decide ((32:Int)=(32:Int))&&decide ((List.drop (Int.toNat 1) (List.take (Int.toNat 9) s)).length≤1048576))) (.ask (!match bLn (aQk (List.drop (Int.toNat 1) (List.take (Int.toNat 9) s)))with | Er.nil=>true | x=>false) (.ret [C.int .i64 0,C.int .i64 0]) (.ask (inB (IntKind.i64.wrap (aSj (List.drop (Int.toNat 1) (List.take (Int.toNat 9) s)))) (0:Int) (1000000000:Int)) (.ask (s==aB8 (IntKind.i64.wrap (aSj (List.drop (Int.toNat 1) (List.take (Int.toNat 9) s))))) (.ret [C.int .i64 1,C.int .i64 (IntKind.i64.wrap (aSj (List.drop (Int.toNat 1) (List.take (Int.toNat 9) s))))]) (.ask (s==aC5 (IntKind.i64.wrap (aSj (List.drop (Int.toNat 1) (List.take (Int.toNat 9) s))))) (.ret [C.int .i64 2,C.int .i64 (IntKind.i64.wrap (aSj (List.drop (Int.toNat 1) (List.take (Int.toNat 9) s))))]) (.ret [C.int .i64 0,C.int .i64 0]))) (.ret [C.int .i64 0,C.int .i64 0])))))):T (List C)).eval:=aAd (by kernel_rfl)
theorem aSe (H:List Pt→Nat→St→T (List C)) (s:List UInt8) (n:Int) (i:Int) (k:Nat):(aB3 aK2 aAb (sg [pS] [rI,rI]) Tryz.f52 H [Pt.r,Pt.r,Pt.r,Pt.l,Pt.r,Pt.b] k (aHo s n i)).eval=((.ask (decide (i<(9:Int))) (.must (decide ((0:Int)≤i)&&decide (i<(↑s.length:Int))) (.ask (inB (IntKind.i64.wrap (↑(s.getD i.toNat (0:UInt8)).toNat:Int)) (48:Int) (57:Int)) (H [Pt.r,Pt.r,Pt.r,Pt.l,Pt.r,Pt.b] k (aHo (s) (IntKind.i64.wrap (IntKind.i64.wrap (IntKind.i64.wrap ((16:Int)*n)+IntKind.i64.wrap (↑(s.getD i.toNat (0:UInt8)).toNat:Int))-(48:Int))) (IntKind.i64.wrap (i+(1:Int))))) (.ask (inB (IntKind.i64.wrap (↑(s.getD i.toNat (0:UInt8)).toNat:Int)) (97:Int) (102:Int)) (H [Pt.r,Pt.r,Pt.r,Pt.l,Pt.r,Pt.b] k (aHo (s) (IntKind.i64.wrap (IntKind.i64.wrap (IntKind.i64.wrap ((16:Int)*n)+IntKind.i64.wrap (↑(s.getD i.toNat (0:UInt8)).toNat:Int))-(87:Int))) (IntKind.i64.wrap (i+(1:Int))))) (.ret [C.int .i64 0,C.int .i64 0])))) (.ask (aB8 n==s) (.ret [C.int .i64 1,C.int .i64 n]) (.ask (aC5 n==s) (.ret [C.int .i64 2,C.int .i64 n]) (.ret [C.int .i64 0,C.int .i64 0])))):T (List C)).eval:=aAd (by kernel_rfl)
theorem aWi (k n:Nat):(aJr k n).length=k:=by
 induction k generalizing n with
 |zero=>rfl
 |succ k ih=>simp[aJr,ih]
theorem bSa:∀ n:Nat,aJg (aJn n).toNat=n % 16:=by
 intro n
 have:∀ m,m<16→aJg (aJn m).toNat=m:=by decide
 have h:=this (n % 16) (Nat.mod_lt _ (by decide))
 rw[bDm]at h
 exact h
theorem bVl:∀ (l:List UInt8) (c:UInt8) (a:Nat),bIo (l++[c]) a=(bIo l a).bind fun m=>if aJg c.toNat<16 then some (m*16+aJg c.toNat)else none:=by
 intro l
 induction l with
 |nil=>intro c a;rfl
 |cons x r ih =>
  intro c a
  simp only[List.cons_append,bIo]
  split
  ·exact ih c _
  ·rfl
theorem bVk:∀ (k n:Nat),bIo (aJr k n) 0=some (n % 16^k):=by
 intro k
 induction k with
 |zero=>intro n;simp[aJr,bIo,Nat.mod_one]
 |succ k ih =>
  intro n
  rw[aJr,bVl,ih,bSa]
  have h:n % 16<16:=Nat.mod_lt _ (by decide)
  simp only[Option.bind_some,h,if_true]
  have e:16^(k+1)=16*16^k:=by rw[Nat.pow_succ,Nat.mul_comm]
  rw[e,Nat.mod_mul]
  congr 1
  omega
set_option maxRecDepth 100000 in
theorem bWj:∀ c:UInt8,aJg c.toNat<16→aV1 c.toNat=aJg c.toNat:=by
 intro c
 have:∀ n,n<256→aJg n<16→aV1 n=aJg n:=by decide
 exact this c.toNat c.toNat_lt
theorem bYj:∀ (l:List UInt8) (a n:Nat),bIo l a=some n→(a+1)*16^l.length≤4294967296→bFt l a=(n,0):=by
 intro l
 induction l with
 |nil=>intro a n h _;simp only[bIo,Option.some.injEq]at h;subst h;rfl
 |cons c r ih =>
  intro a n h hb
  simp only[bIo]at h
  split at h
  ·rename_i hc
   have h1:0<16^r.length:=Nat.pow_pos (by decide)
   have h2:(a*16+aJg c.toNat+1)*16^r.length≤4294967296:=by
    refine Nat.le_trans (Nat.mul_le_mul_right _ (by omega:a*16+aJg c.toNat+1≤(a+1)*16)) ?_
    rw[List.length_cons,Nat.pow_succ]at hb
    rw[Nat.mul_assoc,Nat.mul_comm 16]
    exact hb
   have h3:a*16+aJg c.toNat+1≤4294967296:=Nat.le_trans (Nat.le_mul_of_pos_right _ h1) h2
   simp only[bFt,bWj c hc,hc,if_true]
   rw[if_neg (by omega)]
   exact ih _ _ h h2
  ·cases h
theorem aUa (m:Nat) (hm:m≤1000000000):(aB8 (m:Int)).length=13∧((aB8 (m:Int)).take 9).drop 1=aJr 8 m∧(aC5 (m:Int)).length=17∧((aC5 (m:Int)).take 9).drop 1=aJr 8 m:=by
 have hb:inB (m:Int) 0 1000000000=true:=by simp only[inB,Bool.and_eq_true,decide_eq_true_eq];omega
 have hd:=aWi 8 m
 have e1:aB8 (m:Int)=115::(aJr 8 m++[46,115,101,103]):=by unfold aB8;rw[if_pos hb];simp
 have e2:aC5 (m:Int)=115::(aJr 8 m++[46,115,101,103,46,116,109,112]):=by unfold aC5;rw[if_pos hb,e1];simp
 rw[e1,e2]
 refine⟨by simp[hd],?_,by simp[hd],?_⟩
 ·simp only[List.take_succ_cons,List.drop_succ_cons,List.drop_zero]
  rw[List.take_append_of_le_length (by omega),List.take_of_length_le (by omega)]
 ·simp only[List.take_succ_cons,List.drop_succ_cons,List.drop_zero]
  rw[List.take_append_of_le_length (by omega),List.take_of_length_le (by omega)]
theorem bN0 (m:Nat) (hm:m≤1000000000):bIo (aJr 8 m) 0=some m∧aSj (aJr 8 m)=(m:Int)∧aQk (aJr 8 m)=0:=by
 have h1:bIo (aJr 8 m) 0=some m:=by rw[bVk,Nat.mod_eq_of_lt (by omega)]
 have h2:=bYj _ _ _ h1 (by rw[aWi];decide)
 have hne:aJr 8 m≠[]:=fun h=>by have:=aWi 8 m;rw[h]at this;simp at this
 unfold aSj aQk pu
 rw[if_neg hne,h2]
 exact⟨h1,rfl,rfl⟩
theorem bR3 (n:Int) (h:¬inB n 0 1000000000=true):aB8 n=[]∧aC5 n=[]:=by
 unfold aC5 aB8
 rw[if_neg h,if_neg h]
 exact⟨rfl,rfl⟩
theorem bUv (s:List UInt8):(∃ m:Nat,m≤1000000000∧s=aB8 (m:Int))∨(∃ m:Nat,m≤1000000000∧s=aC5 (m:Int))∨((∀ n:Int,s=aB8 n→s=[])∧∀ n:Int,s=aC5 n→s=[]):=by
 by_cases h1:∃ m:Nat,m≤1000000000∧s=aB8 (m:Int)
 ·exact .inl h1
 ·by_cases h2:∃ m:Nat,m≤1000000000∧s=aC5 (m:Int)
  ·exact .inr (.inl h2)
  ·refine .inr (.inr ⟨fun n hn=>?_,fun n hn=>?_⟩)
   ·by_cases hb:inB n 0 1000000000=true
    ·have hb':=hb
     simp only[inB,Bool.and_eq_true,decide_eq_true_eq]at hb'
     obtain⟨m,rfl⟩:=Int.eq_ofNat_of_zero_le hb'.1
     exact absurd ⟨m,by omega,hn⟩ h1
    ·rw[hn];exact (bR3 n hb).1
   ·by_cases hb:inB n 0 1000000000=true
    ·have hb':=hb
     simp only[inB,Bool.and_eq_true,decide_eq_true_eq]at hb'
     obtain⟨m,rfl⟩:=Int.eq_ofNat_of_zero_le hb'.1
     exact absurd ⟨m,by omega,hn⟩ h2
    ·rw[hn];exact (bR3 n hb).2
theorem bZp (m:Nat) (hm:m≤1000000000):rn (aB8 (m:Int))=(1,(m:Int)):=by
 obtain⟨a1,a2,a3,a4⟩:=aUa m hm
 unfold rn
 rw[if_pos (by omega),a2,(bN0 m hm).1]
 simp
theorem aU9 (m:Nat) (hm:m≤1000000000):aB8 (m:Int)≠aC5 (m:Int):=fun h=>by
 obtain⟨a1,a2,a3,a4⟩:=aUa m hm
 rw[h]at a1
 omega
theorem bY5 (m:Nat) (hm:m≤1000000000):rn (aC5 (m:Int))=(2,(m:Int)):=by
 obtain⟨a1,a2,a3,a4⟩:=aUa m hm
 unfold rn
 rw[if_pos (by omega),a4,(bN0 m hm).1]
 simp[aU9 m hm]
theorem bY6 (s:List UInt8) (h1:∀ n:Int,s=aB8 n→s=[]) (h2:∀ n:Int,s=aC5 n→s=[]):rn s=(0,0):=by
 unfold rn
 split
 ·rename_i hl
  have hne:s≠[]:=fun h=>by rw[h]at hl;simp at hl
  split
  ·rw[if_neg (fun h=>hne (h1 _ h.symm)),if_neg (fun h=>hne (h2 _ h.symm))]
  ·rfl
 ·rfl
theorem bL0:aA6 Tryz.prog aX3:=aA5 (by simp[aC7,aFc,aVn,bRq])
theorem aLd:aAm Tryz.prog 61 (sg [pS] [rI,rI]) aDv:=aA3 bL0 aA7 Tryz.func61 (by kernel_rfl) fun cs outs hk h=>by
 unfold aDv at h
 split at h
 ·simp only[Option.some.injEq,Prod.mk.injEq,decide_eq_true_eq]at h
  obtain⟨h1,rfl⟩:=h
  rename_i s
  rw[aA9,aYn]
  have hmid:(List.drop (Int.toNat 1) (List.take (Int.toNat 9) s))=(s.take 9).drop 1:=rfl
  have hml:((s.take 9).drop 1).length≤1048576:=by simp;omega
  rcases bUv s with⟨m,hm,rfl⟩ | ⟨m,hm,rfl⟩ | ⟨q1,q2⟩
  ·obtain⟨a1,a2,a3,a4⟩:=aUa m hm
   obtain⟨_,b1,b2⟩:=bN0 m hm
   have w:IntKind.i64.wrap (m:Int)=(m:Int):=by rw[aAh]<;>omega
   have hb:inB (m:Int) 0 1000000000=true:=by simp only[inB,Bool.and_eq_true,decide_eq_true_eq];omega
   rw[a2]at hml hmid
   simp only[hmid,b1,b2,w,hb]
   simp[aA0,aA2,aA1,a1,hml,bLn,aDu,aC4,bZp m hm]
  ·obtain⟨a1,a2,a3,a4⟩:=aUa m hm
   obtain⟨_,b1,b2⟩:=bN0 m hm
   have w:IntKind.i64.wrap (m:Int)=(m:Int):=by rw[aAh]<;>omega
   have hb:inB (m:Int) 0 1000000000=true:=by simp only[inB,Bool.and_eq_true,decide_eq_true_eq];omega
   have hst:=(aU9 m hm).symm
   rw[a4]at hml hmid
   simp only[hmid,b1,b2,w,hb]
   simp[aA0,aA2,aA1,a3,hml,bLn,aDu,aC4,bY5 m hm,hst]
  ·have hr:=bY6 s q1 q2
   by_cases h9:s.length<9
   ·have h9':(s.length:Int)<9:=by omega
    simp only[aA2,aA1,decide_eq_true_eq,h9',if_true,aDu,aC4,hr]
   ·have h9':¬(s.length:Int)<9:=by omega
    have h9'':(9:Int)≤(s.length:Int):=by omega
    have hne:s≠[]:=fun h=>by rw[h]at h9;simp at h9
    have n1:∀ n,(s==aB8 n)=false:=fun n=>by simpa using fun h=>hne (q1 n h)
    have n2:∀ n,(s==aC5 n)=false:=fun n=>by simpa using fun h=>hne (q2 n h)
    simp only[hmid,n1,n2]
    simp only[aA0,aA2,aA1,decide_eq_true_eq,h9',h9'',hml,if_false,if_true,decide_true,Bool.and_self,Bool.false_eq_true,ite_self,aDu,aC4,hr]
    rfl
 ·cases h
theorem aXy (s:List UInt8) (hl:13≤s.length∧s.length≤17):∀ (k i n:Nat),1≤i→i≤9→9<i+k→n<16^(i-1) →
  (aBl aK2 aAb (sg [pS] [rI,rI]) Tryz.f52 [.r,.r,.r,.l,.r,.b] k (aHo s n i)).eval=some (match bIo ((s.take 9).drop i) n with
   |some n=>if aB8 n=s then[.int .i64 1,.int .i64 n]else if aC5 n=s then[.int .i64 2,.int .i64 n]else[.int .i64 0,.int .i64 0]
   |none=>[.int .i64 0,.int .i64 0]):=by
 intro k
 induction k with
 |zero=>intro i n h1 h2;omega
 |succ k ih =>
  intro i n h0 h1 h2 h3
  rw[aAo _ _ _ _ _ _ _ (by kernel_rfl),aSe]
  by_cases hi:i<9
  ·have hp:16^(i-1)≤16^7:=Nat.pow_le_pow_right (by decide) (by omega)
   have h16:(16:Nat)^7=268435456:=by decide
   have hp2:16^(i+1-1)=16^(i-1)*16:=by rw[←Nat.pow_succ];congr 1;omega
   have w:IntKind.i64.wrap ((i:Int)+1)=((i+1:Nat):Int):=by rw[aAh]<;>omega
   have hz:(0:Int)≤i:=by omega
   have hi':(i:Int)<9:=by omega
   have hil:(i:Int)<s.length:=by omega
   have hb:=aGn s i
   have hd:(s.take 9).drop i=s.getD i 0::(s.take 9).drop (i+1):=by
    rw[aBq (s.take 9) i 0 (by simp;omega)]
    congr 1
    simp[List.getD_eq_getElem?_getD,hi]
   rw[hd]
   simp only[Int.toNat_natCast]
   generalize s.getD i 0=y at hb ⊢
   have wy:IntKind.i64.wrap ((y.toNat:Nat):Int)=(y.toNat:Int):=by rw[aAh]<;>omega
   have w1:IntKind.i64.wrap (16*(n:Int))=16*(n:Int):=by rw[aAh]<;>omega
   have w2:IntKind.i64.wrap (16*(n:Int)+(y.toNat:Int))=16*(n:Int)+(y.toNat:Int):=by rw[aAh]<;>omega
   simp only[aA0,aA2,aA1,decide_eq_true_eq,hi',hz,hil,Int.toNat_natCast,decide_true,Bool.and_self,if_true,w,wy,w1,w2,inB,Bool.and_eq_true,bIo]
   by_cases hA:48≤y.toNat∧y.toNat≤57
   ·have pd:aJg y.toNat=y.toNat-48:=by unfold aJg;rw[if_pos hA]
    have w3:IntKind.i64.wrap (16*(n:Int)+(y.toNat:Int)-48)=((n*16+(y.toNat-48):Nat):Int):=by rw[aAh]<;>omega
    rw[if_pos (by omega),w3,pd,if_pos (by omega)]
    exact ih (i+1) _ (by omega) (by omega) (by omega) (by omega)
   ·rw[if_neg (by omega)]
    by_cases hB:97≤y.toNat∧y.toNat≤102
    ·have pd:aJg y.toNat=y.toNat-87:=by unfold aJg;rw[if_neg hA,if_pos hB]
     have w3:IntKind.i64.wrap (16*(n:Int)+(y.toNat:Int)-87)=((n*16+(y.toNat-87):Nat):Int):=by rw[aAh]<;>omega
     rw[if_pos (by omega),w3,pd,if_pos (by omega)]
     exact ih (i+1) _ (by omega) (by omega) (by omega) (by omega)
    ·have pd:aJg y.toNat=16:=by unfold aJg;rw[if_neg hA,if_neg hB]
     rw[if_neg (by omega),pd,if_neg (by omega)]
  ·obtain rfl:i=9:=by omega
   have hd:(s.take 9).drop 9=[]:=by rw[List.drop_eq_nil_iff];simp;omega
   have hi':¬(((9:Nat):Int)<9):=by decide
   rw[hd]
   simp only[aA2,aA1,decide_eq_true_eq,hi',if_false,bIo,beq_iff_eq]
   repeat' split
   all_goals first | rfl | (simp_all;done)
theorem bJc:aA6 Tryz.prog aK2:=aA5 (by simp[aDd,aF5,aUh])
theorem aUo:aAm Tryz.prog 52 (sg [pS] [rI,rI]) aDv:=aA3 bJc aA7 Tryz.func52 (by kernel_rfl) fun cs outs hk h=>by
 unfold aDv at h
 split at h
 ·simp only[Option.some.injEq,Prod.mk.injEq,decide_eq_true_eq]at h
  obtain⟨h1,rfl⟩:=h
  rename_i s
  rw[aA9,aXx]
  by_cases hl:13≤s.length∧s.length≤17
  ·have hb:inB (s.length:Int) 13 17=true:=by simp only[inB,Bool.and_eq_true,decide_eq_true_eq];omega
   have lp:=aXy s hl 9223372036854775808 1 0 (by omega) (by omega) (by omega) (by decide)
   simp only[aA2,hb,if_true]
   refine Eq.trans lp ?_
   unfold aDu aC4 rn
   rw[if_pos hl]
   cases hg:bIo ((s.take 9).drop 1) 0 with
   |none=>rfl
   |some n =>
    by_cases g1:aB8 (n:Int)=s
    ·simp only[g1,if_true]
    ·by_cases g2:aC5 (n:Int)=s
     ·simp only[g1,g2,if_true,if_false]
     ·simp only[g1,g2,if_false]
  ·have hb:inB (s.length:Int) 13 17=false:=by simp only[inB,Bool.and_eq_false_imp,decide_eq_true_eq,decide_eq_false_iff_not];omega
   simp only[aA2,aA1,hb,Bool.false_eq_true,if_false,aDu,aC4,rn,if_neg hl]
 ·cases h
noncomputable section
def aXa:List Int→Int→Bool
 |[],_=>false
 |x::r,n=>if x=n then true else aXa r n
def aIu (bs:List Int) (s:List UInt8):Bool:=decide (aDu s=0)||(decide (aDu s=1)&&aXa bs (aC4 s))
def aEi (es:List En):List (List UInt8):=es.map fun e=>e.name
def bHn (es:List (List C)):Bool:=aAi kEn es&&(decide (es.length≤1048576)&&(ens es).all fun e=>decide (e.name.length≤1048576))
def aJt (ns:List Nd) (es:List En):List Int:=(aBn ns es).map fun x=>x.1
def aJl:aC0:=fun cs=>match cs with
 |[.sl rows,.int .i64 n]=>some (aAi [.int .i64] rows&&decide (rows.length≤1048576),[.bool (aXa (aCp rows) n)])
 |_=>none
def bE8 (r:List (List C)) (n i:Int):St:=st0 [(0,.l (.sl r)),(1,aB0 n),(5,aB0 i)]
def bEc:Env:=mkE [(2,[0,1,5])] []
def bCk:aC0:=fun cs=>match cs with
 |[.sl rows,.int .i64 n]=>some (aAi [.int .i64] rows&&decide (rows.length≤1048576),[.int .i64 (aCs (fun x=>decide (x=n)) (aCp rows) 0)])
 |_=>none
def aV7:aC0:=fun cs=>match cs with
 |[.sl _,.sl es,.sl _,.sl _,.int .i64 _,.int .i64 _]=>some (aAi kEn es&&decide (es.length≤1048576),[.sl ((aEi (ens es)).map aBf)])
 |_=>none
def aO4:aC0:=fun cs=>match cs with
 |[.str s,.pt [.sl bs]]=>some (aAi [.int .i64] bs&&(decide (bs.length≤1048576)&&decide (s.length≤1048576)),[.bool (aIu (aCp bs) s)])
 |_=>none
def cBe (r bs:List (List C)):Bool:=aAi [.str] r&&(decide (r.length≤1048576)&&(aGk 1048576 r&&(aAi [.int .i64] bs&&decide (bs.length≤1048576))))
def aQs:aC0:=fun cs=>match cs with
 |[.sl r,.fn f [.pt [.sl bs]]]=>some (decide (f=103)&&cBe r bs,[.int .i64 (aCs (aIu (aCp bs)) (aGh r) 0)])
 |_=>none
def bWw (r:List (List C)) (n m i:Int):St:=st0 [(0,.l (.sl r)),(1,aB0 n),(7,aB0 m),(8,aB0 i)]
def aTd (n:Nat) (o es:List (List C)) (m i:Int):St:=st1 [(3,.l (.ref 0 0 n)),(8,.l (.sl es)),(9,aB0 m),(10,aB0 i)] 1 o
def aTe (n:Nat) (o:List (List C)) (m:Nat) (ls:List (List C)) (k i:Int):St:={slots:=[(3,.l (.ref 0 0 n)),(8,.l (.ref 1 0 m)),(9,aB0 k),(10,aB0 i)],heap:=[(0,.arr 1 o),(1,.arr 11 ls)],next:=2,pins:=[]}
def aTb (r bs:List (List C)) (n i:Int):St:=st0 [(0,.l (.sl r)),(1,.l (.fn 103 [.pt [.sl bs]])),(7,aB0 n),(8,aB0 i)]
def bWx:Env:=mkE [(2,[0,1,7,8])] []
def bXo:Env:=mkE [] [(134,(sg [pSl 3,pI] [rI]),bCk)]
def aTq:Env:=mkE [(3,[3,8,9,10])] []
def aTr:Env:=mkE [(3,[3,8,9,10])] [(57,(⟨[aB2],[rSl 86],true⟩),aOx)]
def bIc:Env:=mkE [] [(61,(sg [pS] [rI,rI]),aDv),(104,(sg [pSl 3,pI] [rB]),aJl)]
def aTo:Env:=mkE [(2,[0,1,7,8])] [(103,(sg [pS,pP] [rB]),aO4)]
end
theorem bOn (H:List Pt→Nat→St→T (List C)) (r:List (List C)) (n:Int):(aAe bEc aAb (sg [pSl 3,pI] [rB]) Tryz.f87 H [C.sl r,C.int .i64 n]).eval=((H [Pt.r,Pt.l,Pt.r,Pt.b] 9223372036854775808 (bE8 (r) (n) ((0:Int)))):T (List C)).eval:=aAd (by kernel_rfl)
theorem bFi (H:List Pt→Nat→St→T (List C)) (r:List (List C)) (n:Int) (i:Int) (k:Nat):(aB3 bEc aAb (sg [pSl 3,pI] [rB]) Tryz.f87 H [Pt.r,Pt.l,Pt.r,Pt.b] k (bE8 r n i)).eval=((.ask (decide (i<(↑r.length:Int))) (.must (decide ((0:Int)≤i)&&decide (i<(↑r.length:Int))&&decide ((r.getD i.toNat []).length=1)) (.must (decide (0<(r.getD i.toNat []).length)&&C.is (K.int .i64) ((r.getD i.toNat []).getD 0 (C.fn 0 []))&&true) (.ask (decide (((r.getD i.toNat []).getD 0 (C.fn 0 [])).toInt=n)) (.ret [C.bool true]) (H [Pt.r,Pt.l,Pt.r,Pt.b] k (bE8 (r) (n) (IntKind.i64.wrap (i+(1:Int)))))))) (.ret [C.bool false])):T (List C)).eval:=aAd (by kernel_rfl)
theorem bVr (H:List Pt→Nat→St→T (List C)) (r:List (List C)) (n:Int):(aAe bWx aAb (sg [pSl 3,pI] [rI]) Tryz.f134 H [C.sl r,C.int .i64 n]).eval=((H [Pt.r,Pt.l,Pt.r,Pt.b] 9223372036854775808 (bWw (r) (n) ((↑r.length:Int)) ((0:Int)))):T (List C)).eval:=aAd (by kernel_rfl)
theorem bTm (H:List Pt→Nat→St→T (List C)) (r:List (List C)) (n:Int):(aAe bXo aAb (sg [pSl 3,pI] [rB]) Tryz.f104 H [C.sl r,C.int .i64 n]).eval=((.must (aAi [K.int .i64] r&&decide (r.length≤1048576)) (.ask (decide ((0:Int)≤(C.int .i64 (aCs (fun x=>decide (x=n)) (aCp r) 0)).toInt)) (.ret [C.bool true]) (.ret [C.bool false]))):T (List C)).eval:=aAd (by kernel_rfl)
theorem bL4 (H:List Pt→Nat→St→T (List C)) (ns:List (List C)) (es:List (List C)) (os:List (List C)) (ss:List (List C)) (r:Int) (x:Int):(aAe aTq aAb (sg [aB2] [rSl 9]) Tryz.f102 H [C.sl ns,C.sl es,C.sl os,C.sl ss,C.int .i64 r,C.int .i64 x]).eval=((H [Pt.r,Pt.r,Pt.l,Pt.r,Pt.b] 9223372036854775808 (aTd (0) ([]) (es) ((↑es.length:Int)) ((0:Int)))):T (List C)).eval:=aAd (by kernel_rfl)
theorem bLc (H:List Pt→Nat→St→T (List C)) (ns:List (List C)) (es:List (List C)) (os:List (List C)) (ss:List (List C)) (r:Int) (x:Int):(aAe aTr aAb (sg [aB2] [rSl 3]) Tryz.f100 H [C.sl ns,C.sl es,C.sl os,C.sl ss,C.int .i64 r,C.int .i64 x]).eval=((.must (aHk ns es) (.must ((true&&(aF9 (aBn (nds ns) (ens es))).all fun row=>decide (row.length=11))&&true&&true&&true) (H [Pt.r,Pt.r,Pt.l,Pt.r,Pt.b] 9223372036854775808 (aTe (0) ([]) ((aF9 (aBn (nds ns) (ens es))).length) (aF9 (aBn (nds ns) (ens es))) ((↑(aF9 (aBn (nds ns) (ens es))).length:Int)) ((0:Int)))))):T (List C)).eval:=aAd (by kernel_rfl)
theorem bGb (H:List Pt→Nat→St→T (List C)) (s:List UInt8) (bs:List (List C)):(aAe bIc aAb (sg [pS,pP] [rB]) Tryz.f103 H [C.str s,C.pt [C.sl bs]]).eval=((.must (decide (s.length≤1048576)) (.ask (decide (aDu s=(0:Int))) (.ret [C.bool true]) (.ask (decide (aDu s=(1:Int))) (.must (aAi [K.int .i64] bs&&decide (bs.length≤1048576)) (.ask (aXa (aCp bs) (aC4 s)) (.ret [C.bool true]) (.ret [C.bool false]))) (.ret [C.bool false])))):T (List C)).eval:=aAd (by kernel_rfl)
theorem bKm (H:List Pt→Nat→St→T (List C)) (r:List (List C)) (bs:List (List C)):(aAe aTo aAb (sg [pSl 9,pF] [rI]) Tryz.f133 H [C.sl r,C.fn 103 [C.pt [C.sl bs]]]).eval=((H [Pt.r,Pt.l,Pt.r,Pt.b] 9223372036854775808 (aTb (r) (bs) ((↑r.length:Int)) ((0:Int)))):T (List C)).eval:=aAd (by kernel_rfl)
theorem bPa (H:List Pt→Nat→St→T (List C)) (r:List (List C)) (n:Int) (mm:Int) (i:Int) (k:Nat):(aB3 bWx aAb (sg [pSl 3,pI] [rI]) Tryz.f134 H [Pt.r,Pt.l,Pt.r,Pt.b] k (bWw r n mm i)).eval=((.ask (decide (i<mm)) (.must (decide ((0:Int)≤i)&&decide (i<(↑r.length:Int))&&decide ((r.getD i.toNat []).length=1)) (.must (decide (0<(r.getD i.toNat []).length)&&C.is (K.int .i64) ((r.getD i.toNat []).getD 0 (C.fn 0 []))&&true) (.ask (decide (n=((r.getD i.toNat []).getD 0 (C.fn 0 [])).toInt)) (.ret [C.int .i64 i]) (H [Pt.r,Pt.l,Pt.r,Pt.b] k (bWw (r) (n) (mm) (IntKind.i64.wrap (i+(1:Int)))))))) (.ret [C.int .i64 (-1)])):T (List C)).eval:=aAd (by kernel_rfl)
theorem bD0 (H:List Pt→Nat→St→T (List C)) (n:Nat) (o:List (List C)) (es:List (List C)) (mm:Int) (i:Int) (k:Nat):(aB3 aTq aAb (sg [aB2] [rSl 9]) Tryz.f102 H [Pt.r,Pt.r,Pt.l,Pt.r,Pt.b] k (aTd n o es mm i)).eval=((.ask (decide (i<mm)) (.must (decide ((0:Int)≤i)&&decide (i<(↑es.length:Int))&&decide ((es.getD i.toNat []).length=2)) (.must (decide (0<(es.getD i.toNat []).length)&&C.is K.str ((es.getD i.toNat []).getD 0 (C.fn 0 []))&&(decide (0+1<(es.getD i.toNat []).length)&&C.is (K.int .i64) ((es.getD i.toNat []).getD (0+1) (C.fn 0 []))&&true)) (.must (decide (n=o.length)&&aBg (o.length+1) 16&&(decide (1=1)&&true)) (H [Pt.r,Pt.r,Pt.l,Pt.r,Pt.b] k (aTd (o.length+1) (o.append [[C.str ((es.getD i.toNat []).getD 0 (C.fn 0 [])).toStr]]) (es) (mm) (IntKind.i64.wrap (i+(1:Int)))))))) (.must (decide (n=o.length)&&(false||o.all fun r=>r.all C.flat)&&true&&true&&true) (.ret [C.sl o]))):T (List C)).eval:=aAd (by kernel_rfl)
theorem bD9 (H:List Pt→Nat→St→T (List C)) (n:Nat) (o:List (List C)) (m2:Nat) (ls:List (List C)) (k2:Int) (i:Int) (k:Nat):(aB3 aTr aAb (sg [aB2] [rSl 3]) Tryz.f100 H [Pt.r,Pt.r,Pt.l,Pt.r,Pt.b] k (aTe n o m2 ls k2 i)).eval=((.ask (decide (i<k2)) (.must (decide ((0:Int)≤i)&&decide (i<(↑m2:Int))) (.must (decide (0+i.toNat<ls.length)&&(decide (0<(ls.getD (0+i.toNat) []).length)&&C.is (K.int .i64) ((ls.getD (0+i.toNat) []).getD 0 (C.fn 0 []))&&(decide (0+1<(ls.getD (0+i.toNat) []).length)&&C.is K.str ((ls.getD (0+i.toNat) []).getD (0+1) (C.fn 0 []))&&(decide (0+1+1<(ls.getD (0+i.toNat) []).length)&&C.is K.bool ((ls.getD (0+i.toNat) []).getD (0+1+1) (C.fn 0 []))&&(decide (0+1+1+1<(ls.getD (0+i.toNat) []).length)&&C.is (K.int .i64) ((ls.getD (0+i.toNat) []).getD (0+1+1+1) (C.fn 0 []))&&(decide (0+1+1+1+1<(ls.getD (0+i.toNat) []).length)&&C.is (K.int .i64) ((ls.getD (0+i.toNat) []).getD (0+1+1+1+1) (C.fn 0 []))&&(decide (0+1+1+1+1+1<(ls.getD (0+i.toNat) []).length)&&C.is (K.int .i64) ((ls.getD (0+i.toNat) []).getD (0+1+1+1+1+1) (C.fn 0 []))&&(decide (0+1+1+1+1+1+1<(ls.getD (0+i.toNat) []).length)&&C.is (K.int .i64) ((ls.getD (0+i.toNat) []).getD (0+1+1+1+1+1+1) (C.fn 0 []))&&(decide (0+1+1+1+1+1+1+1<(ls.getD (0+i.toNat) []).length)&&C.is (K.slice 9) ((ls.getD (0+i.toNat) []).getD (0+1+1+1+1+1+1+1) (C.fn 0 []))&&(decide (0+1+1+1+1+1+1+1+1<(ls.getD (0+i.toNat) []).length)&&C.is (K.slice 3) ((ls.getD (0+i.toNat) []).getD (0+1+1+1+1+1+1+1+1) (C.fn 0 []))&&(decide (0+1+1+1+1+1+1+1+1+1<(ls.getD (0+i.toNat) []).length)&&C.is (K.int .i64) ((ls.getD (0+i.toNat) []).getD (0+1+1+1+1+1+1+1+1+1) (C.fn 0 []))&&(decide (0+1+1+1+1+1+1+1+1+1+1<(ls.getD (0+i.toNat) []).length)&&C.is K.bool ((ls.getD (0+i.toNat) []).getD (0+1+1+1+1+1+1+1+1+1+1) (C.fn 0 []))&&true)))))))))))) (.must (decide (n=o.length)&&aBg (o.length+1) 8&&(decide (1=1)&&true)) (H [Pt.r,Pt.r,Pt.l,Pt.r,Pt.b] k (aTe (o.length+1) (o.append [[C.int .i64 ((ls.getD (0+i.toNat) []).getD 0 (C.fn 0 [])).toInt]]) (m2) (ls) (k2) (IntKind.i64.wrap (i+(1:Int)))))))) (.must (decide (n=o.length)&&(false||o.all fun r=>r.all C.flat)&&true&&true&&true) (.ret [C.sl o]))):T (List C)).eval:=aAd (by kernel_rfl)
theorem bCj (H:List Pt→Nat→St→T (List C)) (r:List (List C)) (bs:List (List C)) (n:Int) (i:Int) (k:Nat):(aB3 aTo aAb (sg [pSl 9,pF] [rI]) Tryz.f133 H [Pt.r,Pt.l,Pt.r,Pt.b] k (aTb r bs n i)).eval=((.ask (decide (i<n)) (.must (decide ((0:Int)≤i)&&decide (i<(↑r.length:Int))&&decide ((r.getD i.toNat []).length=1)) (.must (decide (0<(r.getD i.toNat []).length)&&C.is K.str ((r.getD i.toNat []).getD 0 (C.fn 0 []))&&true) (.must (aAi [K.int .i64] bs&&(decide (bs.length≤1048576)&&decide (((r.getD i.toNat []).getD 0 (C.fn 0 [])).toStr.length≤1048576))) (.ask (aIu (aCp bs) ((r.getD i.toNat []).getD 0 (C.fn 0 [])).toStr) (.ret [C.int .i64 i]) (H [Pt.r,Pt.l,Pt.r,Pt.b] k (aTb (r) (bs) (n) (IntKind.i64.wrap (i+(1:Int))))))))) (.ret [C.int .i64 (-1)])):T (List C)).eval:=aAd (by kernel_rfl)
theorem bSx (l:List Int) (m:Int) (hl:l.length≤1048576):∀ (n i:Nat),i≤l.length→l.length<i+n →
  (aBl bEc aAb (sg [pSl 3,pI] [rB]) Tryz.f87 [.r,.l,.r,.b] n (bE8 (l.map aEf) m i)).eval=some [.bool (aXa (l.drop i) m)]:=by
 intro n
 induction n with
 |zero=>intro i h1 h2;omega
 |succ n ih =>
  intro i h1 h2
  rw[aAo _ _ _ _ _ _ _ (by kernel_rfl),bFi]
  by_cases hi:i<l.length
  ·have g:=aB1 aEf l 0 i hi
   have w:IntKind.i64.wrap ((i:Int)+1)=((i+1:Nat):Int):=by rw[aAh]<;>omega
   have hz:(0:Int)≤i:=by omega
   have hi':(i:Int)<l.length:=by omega
   rw[aBq l i 0 hi]
   generalize l.getD i 0=y at g ⊢
   simp only[aA0,aA2,aA1,if_true,decide_eq_true_eq,Bool.and_eq_true,w,hz,hi',Int.toNat_natCast,List.length_map,g,and_self,List.getD_cons_zero,C.toInt,C.is,List.length_cons,List.length_nil,Nat.zero_add,Nat.zero_lt_succ,decide_true,beq_iff_eq,aXa]
   by_cases hy:y=m
   ·simp only[hy,if_true]
   ·simp only[hy,if_false]
    exact ih (i+1) (by omega) (by omega)
  ·have e:i=l.length:=by omega
   subst e
   have hi':¬((l.length:Int)<(l.length:Int)):=by omega
   simp only[aA2,aA1,decide_eq_true_eq,List.length_map,hi',if_false,List.drop_length,aXa]
theorem bY0:aA6 Tryz.prog bEc:=aA5 (by simp[])
theorem bJj:aAm Tryz.prog 87 (sg [pSl 3,pI] [rB]) aJl:=aA3 bY0 aA7 Tryz.func87 (by kernel_rfl) fun cs outs hk h=>by
 unfold aJl at h
 split at h
 ·simp only[Option.some.injEq,Prod.mk.injEq,Bool.and_eq_true,decide_eq_true_eq]at h
  obtain⟨⟨h1,h2⟩,rfl⟩:=h
  rename_i rows m
  have hr:=aG9 h1
  generalize aCp rows=l at hr ⊢
  subst hr
  rw[List.length_map]at h2
  rw[aA9,bOn]
  exact bSx l m h2 9223372036854775808 0 (by omega) (by omega)
 ·cases h
theorem aZm (e:En) (l:List En):aEi (e::l)=e.name::aEi l:=rfl
theorem bDo (es:List (List C)):bHn es=true↔aAi kEn es=true∧es.length≤1048576∧∀ e∈ens es,e.name.length≤1048576:=by
 simp only[bHn,Bool.and_eq_true,decide_eq_true_eq,List.all_eq_true]
theorem cBr (acc:List (List UInt8)) (y:List UInt8):(acc.map aBf).append [[C.str y]]=(acc++[y]).map aBf:=by simp
theorem bK8 (c:List Lk):aBw c=(c.map fun x=>x.1).map aEf:=by simp[aBw,Function.comp_def]
theorem bCc {A B:Type} (f:A→B) (l:List A):l.length=(l.map f).length:=(List.length_map _).symm
theorem bSo (m:Int):∀ (l:List Int) (i:Nat),(0≤aCs (fun x=>decide (x=m)) l i)=(aXa l m=true):=by
 intro l
 induction l with
 |nil=>intro i;simp[aCs,aXa]
 |cons x r ih =>
  intro i
  simp only[aCs,aXa,decide_eq_true_eq]
  by_cases h:x=m
  ·simp[h]
  ·simp only[h,if_false]
   exact ih (i+1)
theorem bVs (l:List Int) (m:Int) (hl:l.length≤1048576):∀ (n i:Nat),i≤l.length→l.length<i+n →
  (aBl bWx aAb (sg [pSl 3,pI] [rI]) Tryz.f134 [.r,.l,.r,.b] n (bWw (l.map aEf) m l.length i)).eval=some [.int .i64 (aCs (fun x=>decide (x=m)) (l.drop i) i)]:=by
 intro n
 induction n with
 |zero=>intro i h1 h2;omega
 |succ n ih =>
  intro i h1 h2
  rw[aAo _ _ _ _ _ _ _ (by kernel_rfl),bPa]
  by_cases hi:i<l.length
  ·have g:=aB1 aEf l 0 i hi
   have w:IntKind.i64.wrap ((i:Int)+1)=((i+1:Nat):Int):=by rw[aAh]<;>omega
   have hz:(0:Int)≤i:=by omega
   have hi':(i:Int)<l.length:=by omega
   rw[aBq l i 0 hi]
   generalize l.getD i 0=y at g ⊢
   simp only[aA0,aA2,aA1,if_true,decide_eq_true_eq,Bool.and_eq_true,w,hz,hi',Int.toNat_natCast,List.length_map,g,and_self,List.getD_cons_zero,C.toInt,C.is,List.length_cons,List.length_nil,Nat.zero_add,Nat.zero_lt_succ,decide_true,beq_iff_eq,aCs]
   by_cases hy:y=m
   ·simp only[hy,if_true]
   ·have hy':¬m=y:=fun h=>hy h.symm
    simp only[hy,hy',if_false]
    exact ih (i+1) (by omega) (by omega)
  ·have e:i=l.length:=by omega
   subst e
   have hi':¬((l.length:Int)<(l.length:Int)):=by omega
   simp only[aA2,aA1,decide_eq_true_eq,hi',if_false,List.drop_length,aCs]
theorem cB7:aA6 Tryz.prog bWx:=aA5 (by simp[])
theorem bSi:aAm Tryz.prog 134 (sg [pSl 3,pI] [rI]) bCk:=aA3 cB7 aA7 Tryz.func134 (by kernel_rfl) fun cs outs hk h=>by
 unfold bCk at h
 split at h
 ·simp only[Option.some.injEq,Prod.mk.injEq,Bool.and_eq_true,decide_eq_true_eq]at h
  obtain⟨⟨h1,h2⟩,rfl⟩:=h
  rename_i rows m
  have hr:=aG9 h1
  generalize aCp rows=l at hr ⊢
  subst hr
  rw[List.length_map]at h2
  rw[aA9,bVr]
  have lp:=bVs l m h2 9223372036854775808 0 (by omega) (by omega)
  refine Eq.trans ?_ lp
  rw[bCc aEf l]
  rfl
 ·cases h
theorem cAh:aA6 Tryz.prog bXo:=aA5 (by simp[bSi])
theorem aZz:aAm Tryz.prog 104 (sg [pSl 3,pI] [rB]) aJl:=aA3 cAh aA7 Tryz.func104 (by kernel_rfl) fun cs outs hk h=>by
 unfold aJl at h
 split at h
 ·simp only[Option.some.injEq,Prod.mk.injEq,Bool.and_eq_true,decide_eq_true_eq]at h
  obtain⟨⟨h1,h2⟩,rfl⟩:=h
  rename_i rows m
  rw[aA9,bTm]
  simp only[aA0,aA2,aA1,h1,h2,decide_true,Bool.and_self,if_true,C.toInt,decide_eq_true_eq,bSo]
  cases aXa (aCp rows) m<;>rfl
 ·cases h
theorem bL5 (l:List En) (hl:l.length≤1048576):∀ (n i:Nat) (acc:List (List UInt8)),i≤l.length→l.length<i+n→acc.length=i →
  (aBl aTq aAb (sg [aB2] [rSl 9]) Tryz.f102 [.r,.r,.l,.r,.b] n (aTd acc.length (acc.map aBf) (l.map eEn) l.length i)).eval=some [.sl ((acc++aEi (l.drop i)).map aBf)]:=by
 intro n
 induction n with
 |zero=>intro i acc h1 h2;omega
 |succ n ih =>
  intro i acc h1 h2 h3
  rw[aAo _ _ _ _ _ _ _ (by kernel_rfl),bD0]
  by_cases hi:i<l.length
  ·have g:=aB1 eEn l ⟨[],0⟩ i hi
   have w:IntKind.i64.wrap ((i:Int)+1)=((i+1:Nat):Int):=by rw[aAh]<;>omega
   have hz:(0:Int)≤i:=by omega
   have hi':(i:Int)<l.length:=by omega
   rw[aBq l i ⟨[],0⟩ hi,aZm]
   generalize l.getD i ⟨[],0⟩=y at g ⊢
   have ro:aBg (acc.length+1) 16=true:=by simp only[aBg,decide_eq_true_eq];omega
   have e2:=ih (i+1) (acc++[y.name]) (by omega) (by omega) (by simp;omega)
   rw[List.length_append]at e2
   simp only[List.length_cons,List.length_nil,Nat.zero_add,List.append_assoc,List.cons_append,List.nil_append]at e2
   simp only[aA0,aA2,if_true,decide_eq_true_eq,Bool.and_eq_true,w,hz,hi',Int.toNat_natCast,List.length_map,g,and_self,List.getD_cons_zero,List.getD_cons_succ,C.toStr,C.is,List.length_cons,List.length_nil,Nat.zero_add,Nat.reduceAdd,Nat.reduceLT,Nat.zero_lt_succ,decide_true,beq_self_eq_true,ro,Bool.and_self,cBr]
   exact e2
  ·have e:i=l.length:=by omega
   subst e
   have hi':¬((l.length:Int)<(l.length:Int)):=by omega
   simp only[aA0,aA2,aA1,decide_eq_true_eq,List.length_map,hi',if_false,aGf,decide_true,Bool.or_true,Bool.and_self,if_true,List.drop_length,aEi,List.map_nil,List.append_nil]
theorem bW0:aA6 Tryz.prog aTq:=aA5 (by simp[])
theorem bGw:aAm Tryz.prog 102 (sg [aB2] [rSl 9]) aV7:=aA3 bW0 aA7 Tryz.func102 (by kernel_rfl) fun cs outs hk h=>by
 unfold aV7 at h
 split at h
 ·simp only[Option.some.injEq,Prod.mk.injEq,Bool.and_eq_true,decide_eq_true_eq]at h
  obtain⟨⟨h1,h2⟩,rfl⟩:=h
  rename_i ns es os ss r x
  have hr:=aF7 h1
  generalize ens es=l at hr ⊢
  subst hr
  rw[List.length_map]at h2
  rw[aA9,bL4]
  have lp:=bL5 l h2 9223372036854775808 0 [] (by omega) (by omega) rfl
  refine Eq.trans ?_ lp
  rw[bCc eEn l]
  rfl
 ·cases h
theorem cBj (acc:List Int) (y:Int):(acc.map aEf).append [[C.int .i64 y]]=(acc++[y]).map aEf:=by simp
theorem bLd (c:List Lk) (hl:c.length≤16):∀ (n i:Nat) (acc:List Int),i≤c.length→c.length<i+n→acc.length=i →
  (aBl aTr aAb (sg [aB2] [rSl 3]) Tryz.f100 [.r,.r,.l,.r,.b] n (aTe acc.length (acc.map aEf) c.length (aF9 c) c.length i)).eval=some [.sl ((acc++(c.drop i).map fun x=>x.1).map aEf)]:=by
 intro n
 induction n with
 |zero=>intro i acc h1 h2;omega
 |succ n ih =>
  intro i acc h1 h2 h3
  rw[aAo _ _ _ _ _ _ _ (by kernel_rfl),bD9]
  by_cases hi:i<c.length
  ·have g:=bXc c i hi
   have w:IntKind.i64.wrap ((i:Int)+1)=((i+1:Nat):Int):=by rw[aAh]<;>omega
   have hz:(0:Int)≤i:=by omega
   have hi':(i:Int)<c.length:=by omega
   rw[aBq c i (0,[]) hi]
   generalize c.getD i (0,[])=y at g ⊢
   have ro:aBg (acc.length+1) 8=true:=by simp only[aBg,decide_eq_true_eq];omega
   have e2:=ih (i+1) (acc++[y.1]) (by omega) (by omega) (by simp;omega)
   rw[List.length_append]at e2
   simp only[List.length_cons,List.length_nil,Nat.zero_add,List.append_assoc,List.cons_append,List.nil_append]at e2
   simp only[aA0,aA2,if_true,decide_eq_true_eq,Bool.and_eq_true,w,hz,hi',hi,Int.toNat_natCast,bMq,Nat.zero_add,g,and_self,List.getD_cons_zero,List.getD_cons_succ,C.toInt,C.is,List.length_cons,List.length_nil,Nat.reduceAdd,Nat.reduceLT,Nat.zero_lt_succ,decide_true,beq_self_eq_true,ro,Bool.and_self,List.length_map,cBj,List.map_cons]
   exact e2
  ·have e:i=c.length:=by omega
   subst e
   have hi':¬((c.length:Int)<(c.length:Int)):=by omega
   simp only[aA0,aA2,aA1,decide_eq_true_eq,List.length_map,hi',if_false,aW8,decide_true,Bool.or_true,Bool.and_self,if_true,List.drop_length,List.map_nil,List.append_nil]
theorem bW4:aA6 Tryz.prog aTr:=aA5 (by simp[aRr])
theorem bH7:aAm Tryz.prog 100 (sg [aB2] [rSl 3]) aHm:=aA3 bW4 aA7 Tryz.func100 (by kernel_rfl) fun cs outs hk h=>by
 unfold aHm at h
 split at h
 ·simp only[Option.some.injEq,Prod.mk.injEq]at h
  obtain⟨hd,rfl⟩:=h
  rename_i ns es os ss r x
  rw[aA9,bLc]
  have hb:((aF9 (aBn (nds ns) (ens es))).all fun row=>decide (row.length=11))=true:=by simp[aF9]
  have hn':(aBn (nds ns) (ens es)).length≤16:=aDb (nds ns) (ens es) 16 0 0
  have lp:=bLd (aBn (nds ns) (ens es)) hn' 9223372036854775808 0 [] (by omega) (by omega) rfl
  simp only[aA0,hd,hb,Bool.and_self,if_true]
  rw[bK8]
  refine Eq.trans ?_ lp
  rw[←bMq]
  rfl
 ·cases h
theorem bS9:aA6 Tryz.prog bIc:=aA5 (by simp[aLd,aZz])
theorem bC7:aAm Tryz.prog 103 (sg [pS,pP] [rB]) aO4:=aA3 bS9 aA7 Tryz.func103 (by kernel_rfl) fun cs outs hk h=>by
 unfold aO4 at h
 split at h
 ·simp only[Option.some.injEq,Prod.mk.injEq,Bool.and_eq_true,decide_eq_true_eq]at h
  obtain⟨⟨h1,h2,h3⟩,rfl⟩:=h
  rename_i s bs
  rw[aA9,bGb]
  simp only[aA0,aA2,aA1,h1,h2,h3,decide_true,Bool.and_self,if_true,decide_eq_true_eq,aIu]
  by_cases k0:aDu s=0
  ·simp[k0]
  ·by_cases k1:aDu s=1
   ·cases aXa (aCp bs) (aC4 s)<;>simp[k1]
   ·simp[k0,k1]
 ·cases h
theorem bWl (r bs:List (List C)):cBe r bs=true↔aAi [.str] r=true∧r.length≤1048576∧(∀ x∈aGh r,x.length≤1048576)∧aAi [.int .i64] bs=true∧bs.length≤1048576:=by
 simp only[cBe,aGk,Bool.and_eq_true,decide_eq_true_eq,List.all_eq_true]
theorem bKn (l:List (List UInt8)) (bs:List (List C)) (hl:l.length≤1048576) (hr:∀ r∈l,r.length≤1048576) (hb1:aAi [.int .i64] bs=true) (hb2:bs.length≤1048576):∀ (n i:Nat),i≤l.length→l.length<i+n →
  (aBl aTo aAb (sg [pSl 9,pF] [rI]) Tryz.f133 [.r,.l,.r,.b] n (aTb (l.map aBf) bs l.length i)).eval=some [.int .i64 (aCs (aIu (aCp bs)) (l.drop i) i)]:=by
 intro n
 induction n with
 |zero=>intro i h1 h2;omega
 |succ n ih =>
  intro i h1 h2
  rw[aAo _ _ _ _ _ _ _ (by kernel_rfl),bCj]
  by_cases hi:i<l.length
  ·have g:=aB1 aBf l [] i hi
   have w:IntKind.i64.wrap ((i:Int)+1)=((i+1:Nat):Int):=by rw[aAh]<;>omega
   have hz:(0:Int)≤i:=by omega
   have hi':(i:Int)<l.length:=by omega
   have hm:l.getD i []∈l:=by rw[List.getD_eq_getElem?_getD,List.getElem?_eq_getElem hi];exact List.getElem_mem hi
   have hx:=hr _ hm
   rw[aBq l i [] hi]
   generalize l.getD i []=y at g hx ⊢
   simp only[aA0,aA2,aA1,if_true,decide_eq_true_eq,Bool.and_eq_true,w,hz,hi',Int.toNat_natCast,List.length_map,g,and_self,List.getD_cons_zero,C.toStr,C.is,List.length_cons,List.length_nil,Nat.zero_add,Nat.zero_lt_succ,decide_true,hx,hb1,hb2,aCs]
   cases hy:aIu (aCp bs) y with
   |true=>simp only[if_true]
   |false =>
    simp only[Bool.false_eq_true,if_false]
    exact ih (i+1) (by omega) (by omega)
  ·have e:i=l.length:=by omega
   subst e
   have hi':¬((l.length:Int)<(l.length:Int)):=by omega
   simp only[aA2,aA1,decide_eq_true_eq,hi',if_false,List.drop_length,aCs]
theorem bVt:aA6 Tryz.prog aTo:=aA5 (by simp[bC7])
theorem bGp:aAm Tryz.prog 133 (sg [pSl 9,pF] [rI]) aQs:=aA3 bVt aA7 Tryz.func133 (by kernel_rfl) fun cs outs hk h=>by
 unfold aQs at h
 split at h
 ·simp only[Option.some.injEq,Prod.mk.injEq,Bool.and_eq_true,decide_eq_true_eq]at h
  obtain⟨⟨rfl,h1⟩,rfl⟩:=h
  rename_i rows bs
  obtain⟨h1,h2,h3,h4,h5⟩:=(bWl _ _).1 h1
  have hr:=aDs h1
  generalize aGh rows=l at hr h3 ⊢
  subst hr
  rw[List.length_map]at h2
  rw[aA9,bKm]
  have lp:=bKn l bs h2 h3 h4 h5 9223372036854775808 0 (by omega) (by omega)
  refine Eq.trans ?_ lp
  rw[bCc aBf l]
  rfl
 ·cases h
noncomputable section
def bWk:Nat→Nat→List UInt8→List UInt8
 |0,_,out=>out
 |f+1,k,out=>if k=0 then out else bWk f (k / 10) (UInt8.ofNat (48+k % 10)::out)
def aKj (k:Int):List UInt8:=if k≤0 then[109,48]else 109::bWk 20 k.toNat []
def aGb:aC0:=fun cs=>match cs with
 |[.int .i64 k]=>some (decide (k≤4611686018427387904),[.str (aKj k)])
 |_=>none
def aHq (k:Int) (out:List UInt8):St:=st0 [(0,aB0 k),(3,bEe out)]
def aHr:Env:=mkE [(4,[0,3])] []
def mk (f:Int→List C) (s k:Int) (n:Nat):List (List C):=(List.range n).map fun (i:Nat)=>f (k+s*(i:Int))
def mkS (k:Int):List C:=aBf (aKj k)
def aVa:aC0:=fun cs=>match cs with
 |[.sl rows,.int .i64 k]=>some (aAi [.str] rows&&(decide (rows.length≤1073741824)&&(decide (0≤k)&&decide (k≤1099511627776))),[.int .i64 (k+rows.length),.sl (mk mkS 1 k rows.length)])
 |_=>none
def aT8 (n:Nat) (r:List (List C)) (k i:Int):St:={slots:=[(0,.l (.ref 0 0 n)),(1,aB0 k),(5,aB0 i)],heap:=[(0,.arr 1 r)],next:=1,pins:=[0]}
def pWS:PTy:=.wr false [(.slice 9,true)]
def aTl:Env:=mkE [(2,[0,1,5])] [(68,(sg [pI] [rS]),aGb)]
def mkN (k:Int):List C:=[.int .i64 k,.str (aKj (k+1)),.int .i64 (k+2)]
def aOg (k:Int):List C:=[.str (aKj k),.int .i64 (k+1)]
def aVb:aC0:=fun cs=>match cs with
 |[.sl rows,.int .i64 k]=>some (aAi kNd rows&&(decide (rows.length≤1048576)&&(decide (0≤k)&&decide (k≤1099511627776))),[.int .i64 (k+3*rows.length),.sl (mk mkN 3 k rows.length)])
 |_=>none
def aVd:aC0:=fun cs=>match cs with
 |[.sl rows,.int .i64 k]=>some (aAi kEn rows&&(decide (rows.length≤1048576)&&(decide (0≤k)&&decide (k≤1099511627776))),[.int .i64 (k+2*rows.length),.sl (mk aOg 2 k rows.length)])
 |_=>none
def pWN:PTy:=.wr false [(.slice 70,true)]
def pWE:PTy:=.wr false [(.slice 97,true)]
def bRv:PTy:=.wr true [(.slice 70,true),(.slice 97,true),(.slice 97,true),(.slice 9,true),(.int .i64,false),(.int .i64,false)]
def cAf (k:Int) (a b c d:Nat):Int:=k+3*a+2*b+2*c+d
def aVe:aC0:=fun cs=>match cs with
 |[.sl ns,.sl es,.sl os,.sl ss,.int .i64 _,.int .i64 _,.int .i64 k]=>some (aBt ns es os ss&&(aC8 1048576 ns es os ss&&(decide (0≤k)&&decide (k≤1073741824))),[.int .i64 (cAf k ns.length es.length os.length ss.length),
   .sl (mk mkN 3 k ns.length),.sl (mk aOg 2 (k+3*ns.length) es.length),.sl (mk aOg 2 (k+3*ns.length+2*es.length) os.length),.sl (mk mkS 1 (k+3*ns.length+2*es.length+2*os.length) ss.length)])
 |_=>none
def aT9 (n:Nat) (r:List (List C)) (k i:Int):St:={slots:=[(0,.l (.ref 0 0 n)),(1,aB0 k),(5,aB0 i)],heap:=[(0,.arr 3 r)],next:=1,pins:=[0]}
def aTa (n:Nat) (r:List (List C)) (k i:Int):St:={slots:=[(0,.l (.ref 0 0 n)),(1,aB0 k),(5,aB0 i)],heap:=[(0,.arr 2 r)],next:=1,pins:=[0]}
def aTm:Env:=mkE [(2,[0,1,5])] [(68,(sg [pI] [rS]),aGb)]
def aTn:Env:=mkE [(2,[0,1,5])] [(68,(sg [pI] [rS]),aGb)]
def bNk:Env:=mkE [] [(45,(sg [pWS,pI] [rI]),aVa),(43,(sg [pWN,pI] [rI]),aVb),(44,(sg [pWE,pI] [rI]),aVd)]
end
theorem aYd (H:List Pt→Nat→St→T (List C)) (k:Int):(aAe aHr aAb (sg [pI] [rS]) Tryz.f68 H [C.int .i64 k]).eval=((.ask (decide (k≤(0:Int))) (.ret [C.str [(109:UInt8),48]]) (H [Pt.r,Pt.r,Pt.r,Pt.l,Pt.b] 9223372036854775808 (aHq (k) ([])))):T (List C)).eval:=aAd (by kernel_rfl)
theorem aKd (H:List Pt→Nat→St→T (List C)) (kk:Int) (o:List UInt8) (k:Nat):(aB3 aHr aAb (sg [pI] [rS]) Tryz.f68 H [Pt.r,Pt.r,Pt.r,Pt.l,Pt.b] k (aHq kk o)).eval=((.ask (decide ((0:Int)<kk)) (.must (decide ((aCl [[C.int .u8 (IntKind.u8.wrap (IntKind.i64.wrap ((48:Int)+kk.tmod 10)))]]).length+o.length≤9223372036854775807)) (H [Pt.r,Pt.r,Pt.r,Pt.l,Pt.b] k (aHq (IntKind.i64.wrap (kk.tdiv 10)) (aCl [[C.int .u8 (IntKind.u8.wrap (IntKind.i64.wrap ((48:Int)+kk.tmod 10)))]]++o)))) (.must (decide (1+o.length≤9223372036854775807)) (.ret [C.str ([(109:UInt8)]++o)]))):T (List C)).eval:=aAd (by kernel_rfl)
theorem bKd (H:List Pt→Nat→St→T (List C)) (r:List (List C)) (k:Int):(aAe aTl aAb (sg [pWS,pI] [rI]) Tryz.f45 H [C.sl r,C.int .i64 k]).eval=((.must ((true&&r.all fun row=>decide (row.length=1))&&true&&(decide (0<1)&&true&&true&&true)) (H [Pt.r,Pt.l,Pt.r,Pt.b] 9223372036854775808 (aT8 (r.length) (r) (k) ((0:Int))))):T (List C)).eval:=aAd (by kernel_rfl)
theorem bCd (H:List Pt→Nat→St→T (List C)) (n:Nat) (r:List (List C)) (kk:Int) (i:Int) (k:Nat):(aB3 aTl aAb (sg [pWS,pI] [rI]) Tryz.f45 H [Pt.r,Pt.l,Pt.r,Pt.b] k (aT8 n r kk i)).eval=((.ask (decide (i<(↑n:Int))) (.must (decide (kk≤(4611686018427387904:Int))) (.must (decide ((0:Int)≤i)&&decide (i<(↑n:Int))) (.must (decide (0+i.toNat<r.length)) (H [Pt.r,Pt.l,Pt.r,Pt.b] k (aT8 (n) (r.set (0+i.toNat) (C.str (aKj kk)::List.drop (0+1) (r.getD (0+i.toNat) []))) (IntKind.i64.wrap (kk+(1:Int))) (IntKind.i64.wrap (i+(1:Int)))))))) (.must (true&&(false||true)&&true&&true&&((false||r.all fun r=>r.all C.flat)&&true&&true)) (.ret [C.int .i64 kk,C.sl r]))):T (List C)).eval:=aAd (by kernel_rfl)
theorem bKf (H:List Pt→Nat→St→T (List C)) (r:List (List C)) (k:Int):(aAe aTm aAb (sg [pWN,pI] [rI]) Tryz.f43 H [C.sl r,C.int .i64 k]).eval=((.must ((true&&r.all fun row=>decide (row.length=3))&&true&&(decide (0<1)&&true&&true&&true)) (H [Pt.r,Pt.l,Pt.r,Pt.b] 9223372036854775808 (aT9 (r.length) (r) (k) ((0:Int))))):T (List C)).eval:=aAd (by kernel_rfl)
theorem bKh (H:List Pt→Nat→St→T (List C)) (r:List (List C)) (k:Int):(aAe aTn aAb (sg [pWE,pI] [rI]) Tryz.f44 H [C.sl r,C.int .i64 k]).eval=((.must ((true&&r.all fun row=>decide (row.length=2))&&true&&(decide (0<1)&&true&&true&&true)) (H [Pt.r,Pt.l,Pt.r,Pt.b] 9223372036854775808 (aTa (r.length) (r) (k) ((0:Int))))):T (List C)).eval:=aAd (by kernel_rfl)
theorem bCe (H:List Pt→Nat→St→T (List C)) (n:Nat) (r:List (List C)) (kk:Int) (i:Int) (k:Nat):(aB3 aTm aAb (sg [pWN,pI] [rI]) Tryz.f43 H [Pt.r,Pt.l,Pt.r,Pt.b] k (aT9 n r kk i)).eval=((.ask (decide (i<(↑n:Int))) (.must (decide ((0:Int)≤i)&&decide (i<(↑n:Int))) (.must (decide (0+i.toNat<r.length)) (.must (decide (IntKind.i64.wrap (kk+(1:Int))≤(4611686018427387904:Int))) (.must (decide ((0:Int)≤i)&&decide (i<(↑n:Int))) (.must (decide (0+i.toNat<(r.set (0+i.toNat) (C.int .i64 kk::List.drop (0+0+1) (r.getD (0+i.toNat) []))).length)) (.must (decide ((0:Int)≤i)&&decide (i<(↑n:Int))) (.must (decide (0+i.toNat<((r.set (0+i.toNat) (C.int .i64 kk::List.drop (0+0+1) (r.getD (0+i.toNat) []))).set (0+i.toNat) (((List.take (0+1) ((r.set (0+i.toNat) (C.int .i64 kk::List.drop (0+0+1) (r.getD (0+i.toNat) []))).getD (0+i.toNat) [])).append [C.str (aKj (IntKind.i64.wrap (kk+(1:Int))))]).append (List.drop (0+1+1) ((r.set (0+i.toNat) (C.int .i64 kk::List.drop (0+0+1) (r.getD (0+i.toNat) []))).getD (0+i.toNat) [])))).length)) (H [Pt.r,Pt.l,Pt.r,Pt.b] k (aT9 (n) (((r.set (0+i.toNat) (C.int .i64 kk::List.drop (0+0+1) (r.getD (0+i.toNat) []))).set (0+i.toNat) (((List.take (0+1) ((r.set (0+i.toNat) (C.int .i64 kk::List.drop (0+0+1) (r.getD (0+i.toNat) []))).getD (0+i.toNat) [])).append [C.str (aKj (IntKind.i64.wrap (kk+(1:Int))))]).append (List.drop (0+1+1) ((r.set (0+i.toNat) (C.int .i64 kk::List.drop (0+0+1) (r.getD (0+i.toNat) []))).getD (0+i.toNat) [])))).set (0+i.toNat) (((List.take (0+2) (((r.set (0+i.toNat) (C.int .i64 kk::List.drop (0+0+1) (r.getD (0+i.toNat) []))).set (0+i.toNat) (((List.take (0+1) ((r.set (0+i.toNat) (C.int .i64 kk::List.drop (0+0+1) (r.getD (0+i.toNat) []))).getD (0+i.toNat) [])).append [C.str (aKj (IntKind.i64.wrap (kk+(1:Int))))]).append (List.drop (0+1+1) ((r.set (0+i.toNat) (C.int .i64 kk::List.drop (0+0+1) (r.getD (0+i.toNat) []))).getD (0+i.toNat) [])))).getD (0+i.toNat) [])).append [C.int .i64 (IntKind.i64.wrap (IntKind.i64.wrap (kk+(1:Int))+(1:Int)))]).append (List.drop (0+2+1) (((r.set (0+i.toNat) (C.int .i64 kk::List.drop (0+0+1) (r.getD (0+i.toNat) []))).set (0+i.toNat) (((List.take (0+1) ((r.set (0+i.toNat) (C.int .i64 kk::List.drop (0+0+1) (r.getD (0+i.toNat) []))).getD (0+i.toNat) [])).append [C.str (aKj (IntKind.i64.wrap (kk+(1:Int))))]).append (List.drop (0+1+1) ((r.set (0+i.toNat) (C.int .i64 kk::List.drop (0+0+1) (r.getD (0+i.toNat) []))).getD (0+i.toNat) [])))).getD (0+i.toNat) [])))) (IntKind.i64.wrap (IntKind.i64.wrap (IntKind.i64.wrap (kk+(1:Int))+(1:Int))+(1:Int))) (IntKind.i64.wrap (i+(1:Int)))))))))))) (.must (true&&(false||true)&&true&&true&&((false||r.all fun r=>r.all C.flat)&&true&&true)) (.ret [C.int .i64 kk,C.sl r]))):T (List C)).eval:=aAd (by kernel_rfl)
theorem bCf (H:List Pt→Nat→St→T (List C)) (n:Nat) (r:List (List C)) (kk:Int) (i:Int) (k:Nat):(aB3 aTn aAb (sg [pWE,pI] [rI]) Tryz.f44 H [Pt.r,Pt.l,Pt.r,Pt.b] k (aTa n r kk i)).eval=((.ask (decide (i<(↑n:Int))) (.must (decide (kk≤(4611686018427387904:Int))) (.must (decide ((0:Int)≤i)&&decide (i<(↑n:Int))) (.must (decide (0+i.toNat<r.length)) (.must (decide ((0:Int)≤i)&&decide (i<(↑n:Int))) (.must (decide (0+i.toNat<(r.set (0+i.toNat) (C.str (aKj kk)::List.drop (0+0+1) (r.getD (0+i.toNat) []))).length)) (H [Pt.r,Pt.l,Pt.r,Pt.b] k (aTa (n) ((r.set (0+i.toNat) (C.str (aKj kk)::List.drop (0+0+1) (r.getD (0+i.toNat) []))).set (0+i.toNat) (((List.take (0+1) ((r.set (0+i.toNat) (C.str (aKj kk)::List.drop (0+0+1) (r.getD (0+i.toNat) []))).getD (0+i.toNat) [])).append [C.int .i64 (IntKind.i64.wrap (kk+(1:Int)))]).append (List.drop (0+1+1) ((r.set (0+i.toNat) (C.str (aKj kk)::List.drop (0+0+1) (r.getD (0+i.toNat) []))).getD (0+i.toNat) [])))) (IntKind.i64.wrap (IntKind.i64.wrap (kk+(1:Int))+(1:Int))) (IntKind.i64.wrap (i+(1:Int)))))))))) (.must (true&&(false||true)&&true&&true&&((false||r.all fun r=>r.all C.flat)&&true&&true)) (.ret [C.int .i64 kk,C.sl r]))):T (List C)).eval:=aAd (by kernel_rfl)
theorem bKj (H:List Pt→Nat→St→T (List C)) (ns:List (List C)) (es:List (List C)) (os:List (List C)) (ss:List (List C)) (r:Int) (x:Int) (k:Int):(aAe bNk aAb (sg [bRv,pI] [rI]) Tryz.f17 H [C.sl ns,C.sl es,C.sl os,C.sl ss,C.int .i64 r,C.int .i64 x,C.int .i64 k]).eval=((.must ((true&&ns.all fun row=>decide (row.length=3))&&((true&&es.all fun row=>decide (row.length=2))&&((true&&os.all fun row=>decide (row.length=2))&&((true&&ss.all fun row=>decide (row.length=1))&&(decide (0<1)&&true&&(decide (0<1)&&true&&true)))))&&(decide (0<1)&&true&&true&&true)) (.must (true&&(true&&true)&&(decide (ns.length=ns.length)&&true&&true)) (.must (aAi [K.int .i64,K.str,K.int .i64] ns&&(decide (ns.length≤1048576)&&(decide ((0:Int)≤k)&&decide (k≤(1099511627776:Int))))) (.must (decide (0<1)&&true&&true&&true&&((decide ((mk mkN 3 k ns.length).length=ns.length)&&(mk mkN 3 k ns.length).all fun row=>decide (row.length=3))&&true&&true)) (.must (true&&(true&&true)&&(decide (es.length=es.length)&&true&&true)) (.must (aAi [K.str,K.int .i64] es&&(decide (es.length≤1048576)&&(decide ((0:Int)≤k+(3:Int)*(↑ns.length:Int))&&decide (k+(3:Int)*(↑ns.length:Int)≤(1099511627776:Int))))) (.must (decide (0<1)&&true&&true&&true&&((decide ((mk aOg 2 (k+(3:Int)*(↑ns.length:Int)) es.length).length=es.length)&&(mk aOg 2 (k+(3:Int)*(↑ns.length:Int)) es.length).all fun row=>decide (row.length=2))&&true&&true)) (.must (true&&(true&&true)&&(decide (os.length=os.length)&&true&&true)) (.must (aAi [K.str,K.int .i64] os&&(decide (os.length≤1048576)&&(decide ((0:Int)≤k+(3:Int)*(↑ns.length:Int)+(2:Int)*(↑es.length:Int))&&decide (k+(3:Int)*(↑ns.length:Int)+(2:Int)*(↑es.length:Int)≤(1099511627776:Int))))) (.must (decide (0<1)&&true&&true&&true&&((decide ((mk aOg 2 (k+(3:Int)*(↑ns.length:Int)+(2:Int)*(↑es.length:Int)) os.length).length=os.length)&&(mk aOg 2 (k+(3:Int)*(↑ns.length:Int)+(2:Int)*(↑es.length:Int)) os.length).all fun row=>decide (row.length=2))&&true&&true)) (.must (true&&(true&&true)&&(decide (ss.length=ss.length)&&true&&true)) (.must (aAi [K.str] ss&&(decide (ss.length≤1073741824)&&(decide ((0:Int)≤k+(3:Int)*(↑ns.length:Int)+(2:Int)*(↑es.length:Int)+(2:Int)*(↑os.length:Int))&&decide (k+(3:Int)*(↑ns.length:Int)+(2:Int)*(↑es.length:Int)+(2:Int)*(↑os.length:Int)≤(1099511627776:Int))))) (.must (decide (0<1)&&true&&true&&true&&((decide ((mk mkS 1 (k+(3:Int)*(↑ns.length:Int)+(2:Int)*(↑es.length:Int)+(2:Int)*(↑os.length:Int)) ss.length).length=ss.length)&&(mk mkS 1 (k+(3:Int)*(↑ns.length:Int)+(2:Int)*(↑es.length:Int)+(2:Int)*(↑os.length:Int)) ss.length).all fun row=>decide (row.length=1))&&true&&true)) (.must (true&&(false||true)&&true&&true&&((false||(mk mkN 3 k ns.length).all fun r=>r.all C.flat)&&((false||(mk aOg 2 (k+(3:Int)*(↑ns.length:Int)) es.length).all fun r=>r.all C.flat)&&((false||(mk aOg 2 (k+(3:Int)*(↑ns.length:Int)+(2:Int)*(↑es.length:Int)) os.length).all fun r=>r.all C.flat)&&((false||(mk mkS 1 (k+(3:Int)*(↑ns.length:Int)+(2:Int)*(↑es.length:Int)+(2:Int)*(↑os.length:Int)) ss.length).all fun r=>r.all C.flat)&&true)))&&true)) (.ret [C.int .i64 (k+(3:Int)*(↑ns.length:Int)+(2:Int)*(↑es.length:Int)+(2:Int)*(↑os.length:Int)+(↑ss.length:Int)),C.sl (mk mkN 3 k ns.length),C.sl (mk aOg 2 (k+(3:Int)*(↑ns.length:Int)) es.length),C.sl (mk aOg 2 (k+(3:Int)*(↑ns.length:Int)+(2:Int)*(↑es.length:Int)) os.length),C.sl (mk mkS 1 (k+(3:Int)*(↑ns.length:Int)+(2:Int)*(↑es.length:Int)+(2:Int)*(↑os.length:Int)) ss.length)]))))))))))))))):T (List C)).eval:=aAd (by kernel_rfl)
theorem aYe:∀ (f k:Nat) (o:List UInt8) (n:Nat),k<10^f→f<n→o.length+f≤1000→k≤4611686018427387904 →
  (aBl aHr aAb (sg [pI] [rS]) Tryz.f68 [.r,.r,.r,.l,.b] n (aHq k o)).eval=some [.str (109::bWk f k o)]:=by
 have stop:∀ (f:Nat) (o:List UInt8) (n:Nat),0<n→o.length≤1000→(aBl aHr aAb (sg [pI] [rS]) Tryz.f68 [.r,.r,.r,.l,.b] n (aHq (0:Nat) o)).eval=some [.str (109::bWk f 0 o)]:=by
  intro f o n hn ho
  obtain⟨m,rfl⟩:∃ m,n=m+1:=⟨n-1,by omega⟩
  rw[aAo _ _ _ _ _ _ _ (by kernel_rfl),aKd]
  have h1:1+o.length≤9223372036854775807:=by omega
  have h2:bWk f 0 o=o:=by cases f<;>simp[bWk]
  have h3:¬((0:Int)<((0:Nat):Int)):=by omega
  simp only[aA2,aA0,aA1,decide_eq_true_eq,h3,if_false,h1,if_true,h2]
  rfl
 intro f
 induction f with
 |zero =>
  intro k o n hk hn ho _
  have:k=0:=by simpa using hk
  subst this
  exact stop 0 o n (by omega) (by omega)
 |succ f ih =>
  intro k o n hk hn ho hkk
  by_cases h0:k=0
  ·subst h0;exact stop (f+1) o n (by omega) (by omega)
  ·obtain⟨m,rfl⟩:∃ m,n=m+1:=⟨n-1,by omega⟩
   rw[aAo _ _ _ _ _ _ _ (by kernel_rfl),aKd]
   have hpos:(0:Int)<(k:Int):=by omega
   have e1:(k:Int).tmod 10=((k % 10:Nat):Int):=by rw[Int.tmod_eq_emod_of_nonneg (by omega)];omega
   have e2:(k:Int).tdiv 10=((k / 10:Nat):Int):=by rw[Int.tdiv_eq_ediv_of_nonneg (by omega)];omega
   have w1:IntKind.i64.wrap ((48:Int)+((k % 10:Nat):Int))=((48+k % 10:Nat):Int):=by rw[aAh]<;>omega
   have w2:IntKind.u8.wrap (((48+k % 10:Nat):Int))=((48+k % 10:Nat):Int):=by rw[aKl]<;>omega
   have w3:IntKind.i64.wrap (((k / 10:Nat):Int))=((k / 10:Nat):Int):=by rw[aAh]<;>omega
   have e3:aCl [[C.int IntKind.u8 ((48+k % 10:Nat):Int)]]=[UInt8.ofNat (48+k % 10)]:=by show[UInt8.ofNat (((48+k % 10:Nat):Int)).toNat]=_;rw[Int.toNat_natCast]
   have e4:bWk (f+1) k o=bWk f (k / 10) (UInt8.ofNat (48+k % 10)::o):=by simp[bWk,h0]
   rw[e1,w1,w2,e2,w3,e3,e4]
   have h1:1+o.length≤9223372036854775807:=by omega
   simp only[aA2,aA0,decide_eq_true_eq,hpos,if_true,List.length_cons,List.length_nil,Nat.zero_add,h1,List.cons_append,List.nil_append]
   exact ih (k / 10) _ m (by rw[Nat.pow_succ]at hk;omega) (by omega) (by simp;omega) (by omega)
theorem bKc:aA6 Tryz.prog aHr:=aA5 (by simp[])
theorem aHe:aAm Tryz.prog 68 (sg [pI] [rS]) aGb:=aA3 bKc aA7 Tryz.func68 (by kernel_rfl) fun cs outs hk h=>by
 unfold aGb at h
 split at h
 ·simp only[Option.some.injEq,Prod.mk.injEq,decide_eq_true_eq]at h
  obtain⟨h1,rfl⟩:=h
  rename_i k
  rw[aA9,aYd]
  by_cases hk:k≤0
  ·simp only[aA2,aA1,decide_eq_true_eq,hk,if_true,aKj]
  ·obtain⟨m,rfl⟩:∃ m:Nat,k=m:=⟨k.toNat,by omega⟩
   have:=aYe 20 m [] 9223372036854775808 (by omega) (by omega) (by simp) (by omega)
   simp only[aA2,decide_eq_true_eq,hk,if_false,aKj,Int.toNat_natCast]
   exact this
 ·cases h
theorem aL6 (f:Int→List C) (s k:Int) (n:Nat):(mk f s k n).length=n:=by simp[mk]
theorem bK3 (f:Int→List C) (s k:Int) (n:Nat):mk f s k (n+1)=mk f s k n++[f (k+s*n)]:=by simp[mk,List.range_succ]
theorem aKb (f:Int→List C) (s k:Int) (n:Nat) (p:List C→Bool) (h:∀ k,p (f k)=true):(mk f s k n).all p=true:=by simp[mk,h]
theorem bJ3 {A:Type} (a l:List A) (i:Nat) (x:A) (ha:a.length=i) (hi:i<l.length):(a++l.drop i).set i x=(a++[x])++l.drop (i+1):=by
 rw[List.drop_eq_getElem_cons hi,List.set_append_right _ _ (by omega),ha,Nat.sub_self,List.set_cons_zero,List.append_assoc]
 rfl
theorem bDf {A:Type} (a l:List A) (i:Nat) (d:A) (ha:a.length=i):(a++l.drop i).getD i d=l.getD i d:=by
 simp[List.getD_eq_getElem?_getD,List.getElem?_append_right,ha]
theorem aP7 {A:Type} (l:List A) (i:Nat) (x d:A) (hi:i<l.length):(l.set i x).getD i d=x:=by
 simp[List.getD_eq_getElem?_getD,hi]
theorem aO0 {ks:List K} {rows:List (List C)} (h:aAi ks rows=true) (i:Nat) (hi:i<rows.length):aB7 (rows.getD i []) ks=true:=by
 simp only[aAi,List.all_eq_true]at h
 exact h _ (by simp[List.getD_eq_getElem?_getD,hi])
theorem aFp {ks:List K} {rows:List (List C)} (h:aAi ks rows=true) (n:Nat) (hn:ks.length=n):(rows.all fun row=>decide (row.length=n))=true:=by
 have kl:∀ (cs:List C) (ks:List K),aB7 cs ks=true→cs.length=ks.length:=by
  intro cs
  induction cs with
  |nil=>intro ks h;cases ks<;>simp[aB7]at h ⊢
  |cons c cs ih=>intro ks h;cases ks<;>simp[aB7]at h ⊢;exact ih _ h.2
 simp only[aAi,List.all_eq_true]at h ⊢
 intro r hr
 simp[kl _ _ (h r hr),hn]
theorem bKe (rows:List (List C)) (k:Int) (hr:aAi [.str] rows=true) (hl:rows.length≤1073741824) (h0:0≤k) (h1:k≤1099511627776):∀ (n i:Nat),i≤rows.length→rows.length<i+n →
  (aBl aTl aAb (sg [pWS,pI] [rI]) Tryz.f45 [.r,.l,.r,.b] n (aT8 rows.length (mk mkS 1 k i++rows.drop i) (k+1*i) i)).eval=some [.int .i64 (k+rows.length),.sl (mk mkS 1 k rows.length)]:=by
 intro n
 induction n with
 |zero=>intro i a b;omega
 |succ n ih =>
  intro i a b
  rw[aAo _ _ _ _ _ _ _ (by kernel_rfl),bCd]
  by_cases hi:i<rows.length
  ·have w:IntKind.i64.wrap ((i:Int)+1)=((i+1:Nat):Int):=by rw[aAh]<;>omega
   have w2:IntKind.i64.wrap (k+1*(i:Int)+1)=k+1*((i+1:Nat):Int):=by rw[aAh]<;>omega
   have hz:(0:Int)≤i:=by omega
   have hi':(i:Int)<rows.length:=by omega
   have hk:k+1*(i:Int)≤4611686018427387904:=by omega
   have g:=bRg (aO0 hr i hi)
   have hlen:i<(mk mkS 1 k i++rows.drop i).length:=by simp[aL6];omega
   rw[Nat.zero_add,Int.toNat_natCast,bDf _ _ _ _ (aL6 _ _ _ _),g]
   have hd:List.drop (0+1) (aBf (bMj (rows.getD i [])))=[]:=rfl
   rw[hd,bJ3 _ _ _ _ (aL6 _ _ _ _) hi]
   have e:mk mkS 1 k i++[[C.str (aKj (k+1*(i:Int)))]]=mk mkS 1 k (i+1):=(bK3 mkS 1 k i).symm
   rw[e]
   simp only[aA0,aA2,decide_eq_true_eq,Bool.and_eq_true,hz,hi',hk,hlen,and_self,if_true,w,w2]
   exact ih (i+1) (by omega) (by omega)
  ·have e:i=rows.length:=by omega
   subst e
   have hi':¬((rows.length:Int)<(rows.length:Int)):=by omega
   have hf:((mk mkS 1 k rows.length).all fun r=>r.all C.flat)=true:=aKb _ _ _ _ _ fun k=>rfl
   simp only[aA2,aA0,aA1,decide_eq_true_eq,hi',if_false,List.drop_length,List.append_nil,hf,Bool.false_or,Bool.or_true,Bool.and_true,Bool.and_self,if_true,Int.one_mul]
theorem bVn:aA6 Tryz.prog aTl:=aA5 (by simp[aHe])
theorem bGj:aAm Tryz.prog 45 (sg [pWS,pI] [rI]) aVa:=aA3 bVn aA7 Tryz.func45 (by kernel_rfl) fun cs outs hk h=>by
 unfold aVa at h
 split at h
 ·simp only[Option.some.injEq,Prod.mk.injEq,Bool.and_eq_true,decide_eq_true_eq]at h
  obtain⟨⟨h1,h2,h3,h4⟩,rfl⟩:=h
  rename_i rows k
  rw[aA9,bKd]
  have:=bKe rows k h1 h2 h3 h4 9223372036854775808 0 (by omega) (by omega)
  rw[show mk mkS 1 k 0++rows.drop 0=rows by simp[mk],show k+1*((0:Nat):Int)=k by omega]at this
  have r1:=aFp h1 1 rfl
  simp only[aA0,r1,Bool.and_true,Bool.true_and,Nat.zero_lt_one,decide_true,if_true]
  exact this
 ·cases h
theorem bKg (rows:List (List C)) (k:Int) (hr:aAi kNd rows=true) (hl:rows.length≤1048576) (h0:0≤k) (h1:k≤1099511627776):∀ (n i:Nat),i≤rows.length→rows.length<i+n →
  (aBl aTm aAb (sg [pWN,pI] [rI]) Tryz.f43 [.r,.l,.r,.b] n (aT9 rows.length (mk mkN 3 k i++rows.drop i) (k+3*i) i)).eval=some [.int .i64 (k+3*rows.length),.sl (mk mkN 3 k rows.length)]:=by
 intro n
 induction n with
 |zero=>intro i a b;omega
 |succ n ih =>
  intro i a b
  rw[aAo _ _ _ _ _ _ _ (by kernel_rfl),bCe]
  by_cases hi:i<rows.length
  ·have w:IntKind.i64.wrap ((i:Int)+1)=((i+1:Nat):Int):=by rw[aAh]<;>omega
   have w1:IntKind.i64.wrap (k+3*(i:Int)+1)=k+3*(i:Int)+1:=by rw[aAh]<;>omega
   have w2:IntKind.i64.wrap (k+3*(i:Int)+1+1)=k+3*(i:Int)+2:=by rw[aAh]<;>omega
   have w3:IntKind.i64.wrap (k+3*(i:Int)+2+1)=k+3*(i:Int)+3:=by rw[aAh]<;>omega
   have wk:k+3*(i:Int)+3=k+3*((i+1:Nat):Int):=by omega
   have hz:(0:Int)≤i:=by omega
   have hi':(i:Int)<rows.length:=by omega
   have hk:k+3*(i:Int)≤4611686018427387904:=by omega
   have hk1:k+3*(i:Int)+1≤4611686018427387904:=by omega
   have g:=bX3 (aO0 hr i hi)
   have hlen:i<(mk mkN 3 k i++rows.drop i).length:=by simp[aL6];omega
   simp only[Nat.zero_add,Nat.add_zero,Int.toNat_natCast,List.set_set,List.length_set,aP7 _ _ _ _ hlen,w,w1,w2,w3,List.append_eq]
   simp only[bDf _ _ _ _ (aL6 _ _ _ _),bJ3 _ _ _ _ (aL6 _ _ _ _) hi]
   rw[g]
   simp only[List.drop_succ_cons,List.drop_zero,List.take_succ_cons,List.take_zero,List.cons_append,List.nil_append,List.drop_nil,List.append_nil,List.append_assoc]
   have e:mk mkN 3 k i++[[C.int .i64 (k+3*(i:Int)),C.str (aKj (k+3*(i:Int)+1)),C.int .i64 (k+3*(i:Int)+2)]]=mk mkN 3 k (i+1):=(bK3 mkN 3 k i).symm
   simp only[aA0,aA2,decide_eq_true_eq,Bool.and_eq_true,hz,hi',hk,hk1,hlen,and_self,if_true]
   have:=ih (i+1) (by omega) (by omega)
   rw[←e,←wk,List.append_assoc]at this
   exact this
  ·have e:i=rows.length:=by omega
   subst e
   have hi':¬((rows.length:Int)<(rows.length:Int)):=by omega
   have hf:((mk mkN 3 k rows.length).all fun r=>r.all C.flat)=true:=aKb _ _ _ _ _ fun k=>rfl
   simp only[aA2,aA0,aA1,decide_eq_true_eq,hi',if_false,List.drop_length,List.append_nil,hf,Bool.false_or,Bool.or_true,Bool.and_true,Bool.and_self,if_true]
theorem bVo:aA6 Tryz.prog aTm:=aA5 (by simp[aHe])
theorem bGk:aAm Tryz.prog 43 (sg [pWN,pI] [rI]) aVb:=aA3 bVo aA7 Tryz.func43 (by kernel_rfl) fun cs outs hk h=>by
 unfold aVb at h
 split at h
 ·simp only[Option.some.injEq,Prod.mk.injEq,Bool.and_eq_true,decide_eq_true_eq]at h
  obtain⟨⟨h1,h2,h3,h4⟩,rfl⟩:=h
  rename_i rows k
  rw[aA9,bKf]
  have:=bKg rows k h1 h2 h3 h4 9223372036854775808 0 (by omega) (by omega)
  rw[show mk mkN 3 k 0++rows.drop 0=rows by simp[mk],show k+3*((0:Nat):Int)=k by omega]at this
  have r1:=aFp h1 3 rfl
  simp only[aA0,r1,Bool.and_true,Bool.true_and,Nat.zero_lt_one,decide_true,if_true]
  exact this
 ·cases h
theorem bKi (rows:List (List C)) (k:Int) (hr:aAi kEn rows=true) (hl:rows.length≤1048576) (h0:0≤k) (h1:k≤1099511627776):∀ (n i:Nat),i≤rows.length→rows.length<i+n →
  (aBl aTn aAb (sg [pWE,pI] [rI]) Tryz.f44 [.r,.l,.r,.b] n (aTa rows.length (mk aOg 2 k i++rows.drop i) (k+2*i) i)).eval=some [.int .i64 (k+2*rows.length),.sl (mk aOg 2 k rows.length)]:=by
 intro n
 induction n with
 |zero=>intro i a b;omega
 |succ n ih =>
  intro i a b
  rw[aAo _ _ _ _ _ _ _ (by kernel_rfl),bCf]
  by_cases hi:i<rows.length
  ·have w:IntKind.i64.wrap ((i:Int)+1)=((i+1:Nat):Int):=by rw[aAh]<;>omega
   have w1:IntKind.i64.wrap (k+2*(i:Int)+1)=k+2*(i:Int)+1:=by rw[aAh]<;>omega
   have w2:IntKind.i64.wrap (k+2*(i:Int)+1+1)=k+2*(i:Int)+2:=by rw[aAh]<;>omega
   have w3:IntKind.i64.wrap (k+2*(i:Int)+2+1)=k+2*(i:Int)+3:=by rw[aAh]<;>omega
   have wk:k+2*(i:Int)+2=k+2*((i+1:Nat):Int):=by omega
   have hz:(0:Int)≤i:=by omega
   have hi':(i:Int)<rows.length:=by omega
   have hk:k+2*(i:Int)≤4611686018427387904:=by omega
   have hk1:k+2*(i:Int)+1≤4611686018427387904:=by omega
   have g:=bX4 (aO0 hr i hi)
   have hlen:i<(mk aOg 2 k i++rows.drop i).length:=by simp[aL6];omega
   simp only[Nat.zero_add,Nat.add_zero,Int.toNat_natCast,List.set_set,List.length_set,aP7 _ _ _ _ hlen,w,w1,w2,w3,List.append_eq]
   simp only[bDf _ _ _ _ (aL6 _ _ _ _),bJ3 _ _ _ _ (aL6 _ _ _ _) hi]
   rw[g]
   simp only[List.drop_succ_cons,List.drop_zero,List.take_succ_cons,List.take_zero,List.cons_append,List.nil_append,List.drop_nil,List.append_nil,List.append_assoc]
   have e:mk aOg 2 k i++[[C.str (aKj (k+2*(i:Int))),C.int .i64 (k+2*(i:Int)+1)]]=mk aOg 2 k (i+1):=(bK3 aOg 2 k i).symm
   simp only[aA0,aA2,decide_eq_true_eq,Bool.and_eq_true,hz,hi',hk,hk1,hlen,and_self,if_true]
   have:=ih (i+1) (by omega) (by omega)
   rw[←e,←wk,List.append_assoc]at this
   exact this
  ·have e:i=rows.length:=by omega
   subst e
   have hi':¬((rows.length:Int)<(rows.length:Int)):=by omega
   have hf:((mk aOg 2 k rows.length).all fun r=>r.all C.flat)=true:=aKb _ _ _ _ _ fun k=>rfl
   simp only[aA2,aA0,aA1,decide_eq_true_eq,hi',if_false,List.drop_length,List.append_nil,hf,Bool.false_or,Bool.or_true,Bool.and_true,Bool.and_self,if_true]
theorem bVp:aA6 Tryz.prog aTn:=aA5 (by simp[aHe])
theorem bGl:aAm Tryz.prog 44 (sg [pWE,pI] [rI]) aVd:=aA3 bVp aA7 Tryz.func44 (by kernel_rfl) fun cs outs hk h=>by
 unfold aVd at h
 split at h
 ·simp only[Option.some.injEq,Prod.mk.injEq,Bool.and_eq_true,decide_eq_true_eq]at h
  obtain⟨⟨h1,h2,h3,h4⟩,rfl⟩:=h
  rename_i rows k
  rw[aA9,bKh]
  have:=bKi rows k h1 h2 h3 h4 9223372036854775808 0 (by omega) (by omega)
  rw[show mk aOg 2 k 0++rows.drop 0=rows by simp[mk],show k+2*((0:Nat):Int)=k by omega]at this
  have r1:=aFp h1 2 rfl
  simp only[aA0,r1,Bool.and_true,Bool.true_and,Nat.zero_lt_one,decide_true,if_true]
  exact this
 ·cases h
theorem bVq:aA6 Tryz.prog bNk:=aA5 (by simp[bGj,bGk,bGl])
theorem bGm:aAm Tryz.prog 17 (sg [bRv,pI] [rI]) aVe:=aA3 bVq aA7 Tryz.func17 (by kernel_rfl) fun cs outs hk h=>by
 unfold aVe at h
 split at h
 ·simp only[Option.some.injEq,Prod.mk.injEq,Bool.and_eq_true,decide_eq_true_eq]at h
  obtain⟨⟨h1,h2,h3,h4⟩,rfl⟩:=h
  rename_i ns es os ss r x k
  simp only[aBt,Bool.and_eq_true]at h1
  obtain⟨⟨⟨a1,a2⟩,a3⟩,a4⟩:=h1
  simp only[aC8,Bool.and_eq_true,decide_eq_true_eq]at h2
  obtain⟨⟨⟨b1,b2⟩,b3⟩,b4⟩:=h2
  rw[aA9,bKj]
  have c1:=aFp a1 3 rfl
  have c2:=aFp a2 2 rfl
  have c3:=aFp a3 2 rfl
  have c4:=aFp a4 1 rfl
  have l1:∀ k n,((mk mkN 3 k n).all fun r=>decide (r.length=3))=true:=fun k n=>aKb _ _ _ _ _ fun k=>rfl
  have l2:∀ k n,((mk aOg 2 k n).all fun r=>decide (r.length=2))=true:=fun k n=>aKb _ _ _ _ _ fun k=>rfl
  have l3:∀ k n,((mk mkS 1 k n).all fun r=>decide (r.length=1))=true:=fun k n=>aKb _ _ _ _ _ fun k=>rfl
  have f1:∀ k n,((mk mkN 3 k n).all fun r=>r.all C.flat)=true:=fun k n=>aKb _ _ _ _ _ fun k=>rfl
  have f2:∀ k n,((mk aOg 2 k n).all fun r=>r.all C.flat)=true:=fun k n=>aKb _ _ _ _ _ fun k=>rfl
  have f3:∀ k n,((mk mkS 1 k n).all fun r=>r.all C.flat)=true:=fun k n=>aKb _ _ _ _ _ fun k=>rfl
  have b5:ss.length≤1073741824:=by omega
  have k1:k≤1099511627776:=by omega
  have k2:0≤k+3*(ns.length:Int)∧k+3*(ns.length:Int)≤1099511627776:=by omega
  have k3:0≤k+3*(ns.length:Int)+2*(es.length:Int)∧k+3*(ns.length:Int)+2*(es.length:Int)≤1099511627776:=by omega
  have k4:0≤k+3*(ns.length:Int)+2*(es.length:Int)+2*(os.length:Int)∧k+3*(ns.length:Int)+2*(es.length:Int)+2*(os.length:Int)≤1099511627776:=by omega
  simp only[aA0,aA1,a1,a2,a3,a4,b1,b2,b3,b4,b5,c1,c2,c3,c4,l1,l2,l3,f1,f2,f3,h3,k1,k2.1,k2.2,k3.1,k3.2,k4.1,k4.2,aL6,Nat.zero_lt_one,decide_true,Bool.and_self,Bool.false_or,Bool.or_true,Bool.true_and,Bool.and_true,if_true,cAf]
 ·cases h
noncomputable section
abbrev Pl:=Int×Int
def ePl (p:Pl):List C:=[.int .i64 p.1,.int .i64 p.2]
def cB0 (r:List C):Pl:=((r.getD 0 (.fn 0 [])).toInt,(r.getD 1 (.fn 0 [])).toInt)
def pls (rows:List (List C)):List Pl:=rows.map cB0
def aBa (s:Int) (os:List Int):Nat→List Pl
 |0=>[]
 |i+1=>aBa s os i++(if (i:Int) % s=0 then[((i:Int),os.getD i 0)]else[])
def aAp (s:Int) (os:List Int):List Pl:=if s<1 then[]else aBa s os os.length
def aGi (a b:Int):Int:=if a<b∨IntKind.i64.wrap (a-b)<0 then -1 else IntKind.i64.wrap (a-b)
def bFv:Pl→List Pl→Option (List UInt8)
 |_,[]=>some []
 |q,p::r=>if aAr (aGi p.1 q.1)=[]∨aAr (aGi p.2 q.2)=[]then none else (bFv p r).map ((aAr (aGi p.1 q.1)++aAr (aGi p.2 q.2))++ ·)
def aAw (l:List Pl):List UInt8:=match bFv (0,0) l with
 |some t=>aAr l.length++t
 |none=>[]
def bO5:List Int→List UInt8→List UInt8
 |[],t=>t++[73,68,88,33]
 |x::r,t=>if aAg x 4=[]then[]else bO5 r (t++aAg x 4)
def aBc (a b c d:Int):List UInt8:=bO5 [a,b,c,d] []
def aBp (v s b l:Int) (os:List Int) (e:Int):List UInt8 :=
 if aCq v s b l=false∨aAx v (b+os.length)=[]∨aAw (aAp s os)=[]∨aBc e os.length s 0=[]then[]
 else aAx v (b+os.length)++aAw (aAp s os)++aBc e os.length s (aAs 0 (aAx v (b+os.length)++aAw (aAp s os)++(aBc e os.length s 0).take 12):Nat)
def aDo (v b:Int):Int→List (List UInt8)→List UInt8→List Int→Option (List UInt8×List Int)
 |_,[],t,os=>some (t,os)
 |i,r::rs,t,os=>if 60<r.length then none else aDo v b (i+1) rs (t++aAc v (b+i) r) (os++[(t.length:Int)])
def aG0 (v s b l:Int) (rs:List (List UInt8)):List UInt8 :=
 if aCq v s b l=false∨1000<rs.length∨1000000000<b+rs.length then[]
 else match aDo v b 0 rs (aB6 v s b l) []with
  |some (t,os)=>t++aBp v s b l os t.length
  |none=>[]
def aEu:aC0:=fun cs=>match cs with
 |[.int .i64 s,.sl os]=>some (aAi [.int .i64] os&&decide (os.length≤1048576),[.sl ((aAp s (aCp os)).map ePl)])
 |_=>none
def bCb:aC0:=fun cs=>match cs with
 |[.int .i64 a,.int .i64 b]=>some (true,[.int .i64 (aGi a b)])
 |_=>none
def aId:aC0:=fun cs=>match cs with
 |[.sl r]=>some (aAi [.int .i64,.int .i64] r&&decide (r.length≤1048576),[.str (aAw (pls r))])
 |_=>none
def aFo:aC0:=fun cs=>match cs with
 |[.int .i64 a,.int .i64 b,.int .i64 c,.int .i64 d]=>some (inB a (-9223372036854775808) 9223372036854775807&&(inB b (-9223372036854775808) 9223372036854775807&&(inB c (-9223372036854775808) 9223372036854775807&&inB d (-9223372036854775808) 9223372036854775807)),[.str (aBc a b c d)])
 |_=>none
def bDh:aC0:=fun cs=>match cs with
 |[.int .i64 v,.int .i64 s,.int .i64 b,.int .i64 l,.sl os,.int .i64 e]=>some (aAi [.int .i64] os&&(decide (os.length≤1048576)&&inB e (-9223372036854775808) 9223372036854775807),[.str (aBp v s b l (aCp os) e)])
 |_=>none
def bB0:aC0:=fun cs=>match cs with
 |[.int .i64 v,.int .i64 s,.int .i64 b,.int .i64 l,.sl r]=>some (aAi [.str] r&&decide (r.length≤1048576),[.str (aG0 v s b l (aGh r))])
 |_=>none
abbrev bIn:PTy:=.val false [.slice 3]
abbrev bEf:PTy:=.val false [.slice 9]
abbrev bUb:PTy:=.val false [.slice 187]
abbrev bUa:RTy:=⟨false,[(.slice 187,true)]⟩
def aHp (s:Int) (o:List (List C)) (n:Nat) (r:List (List C)) (j:Int):St:={slots:=[(0,aB0 s),(1,.l (.sl o)),(5,.l (.ref 0 0 n)),(6,aB0 j)],heap:=[(0,.arr 2 r)],next:=1,pins:=[]}
def aK3:Env:=mkE [(3,[0,1,5,6])] []
def bTz:Env:=mkE [] []
def aGu (r:List (List C)) (t:List UInt8) (a b j:Int):St:={slots:=[(0,.l (.sl r)),(3,bEe t),(4,.l (.ptr 0 0)),(5,aB0 j)],heap:=[(0,.box [.i .i64 a,.i .i64 b])],next:=1,pins:=[]}
def aGw:Env:=mkE [(4,[0,3,4,5])] [(152,(sg [pI] [rS]),aD3),(189,(sg [pI,pI] [rI]),bCb)]
def aMe (t:List UInt8) (a b c d j:Int):St:={slots:=[(9,bEe t),(10,.l (.ref 0 0 4)),(11,aB0 j)],heap:=[(0,.arr 1 [[.int .i64 a],[.int .i64 b],[.int .i64 c],[.int .i64 d]])],next:=1,pins:=[]}
def aMs:Env:=mkE [(4,[9,10,11])] [(145,(sg [pI,pI] [rS]),aFh)]
def bU0:Env:=mkE [] [(151,(sg [pS] [rI]),aDc),(115,(sg [aEb] [rB]),aDh),(149,(sg [pI,pI] [rS]),aE2),(154,(⟨[pI,bIn],[bUa],true⟩),aEu),(153,(⟨[bUb],[rS],true⟩),aId),(155,(sg [pI,pI,pI,pI] [rS]),aFo)]
def bE7 (v s b l:Int) (r:List (List C)) (n:Nat) (x:List (List C)) (q:Nat) (o:List (List C)) (j:Int):St:={slots:=[(1,.l (.sl r)),(2,.l (.ptr 0 0)),(5,.l (.ref 1 0 n)),(6,.l (.ref 2 0 q)),(7,aB0 j)],heap:=[(0,.box [.i .i64 v,.i .i64 s,.i .i64 b,.i .i64 l]),(1,.arr 1 x),(2,.arr 1 o)],next:=3,pins:=[]}
def bEb:Env:=mkE [(6,[1,2,5,6,7])] [(115,(sg [aEb] [rB]),aDh),(116,(sg [aEb] [rS]),aD9),(117,(sg [pI,pI,pS] [rS]),aGe),(118,(⟨[aEb,bIn,pI],[rS],true⟩),bDh)]
end
theorem aY1 (H:List Pt→Nat→St→T (List C)) (s:Int) (o:List (List C)):(aAe aK3 aAb {params:=[pI,bIn],results:=[bUa],nested:=true} Tryz.f154 H [C.int .i64 s,C.sl o]).eval=((H [Pt.r,Pt.r,Pt.l,Pt.r,Pt.b] 9223372036854775808 (aHp (s) (o) (0) ([]) ((0:Int)))):T (List C)).eval:=aAd (by kernel_rfl)
theorem aGl (H:List Pt→Nat→St→T (List C)) (s:Int) (o:List (List C)) (n:Nat) (r:List (List C)) (j:Int) (k:Nat):(aB3 aK3 aAb {params:=[pI,bIn],results:=[bUa],nested:=true} Tryz.f154 H [Pt.r,Pt.r,Pt.l,Pt.r,Pt.b] k (aHp s o n r j)).eval=((.ask (decide (j<(↑o.length:Int))) (.ask (decide ((1:Int)≤s)) (.must (decide ¬s=(0:Int)) (.ask (decide (j.tmod s=(0:Int))) (.must (decide ((0:Int)≤j)&&decide (j<(↑o.length:Int))&&decide ((o.getD j.toNat []).length=1)) (.must (decide (0<(o.getD j.toNat []).length)&&C.is (K.int .i64) ((o.getD j.toNat []).getD 0 (C.fn 0 []))&&true) (.must (decide (n=r.length)&&aBg (r.length+1) 16&&(decide ((Nat.add 1 0).succ=2)&&true)) (H [Pt.r,Pt.r,Pt.l,Pt.r,Pt.b] k (aHp (s) (o) (r.length+1) (r.append [[C.int .i64 j,C.int .i64 ((o.getD j.toNat []).getD 0 (C.fn 0 [])).toInt]]) (IntKind.i64.wrap (j+(1:Int)))))))) (H [Pt.r,Pt.r,Pt.l,Pt.r,Pt.b] k (aHp (s) (o) (n) (r) (IntKind.i64.wrap (j+(1:Int))))))) (.must (decide (n=r.length)&&(true||r.all fun r=>r.all C.flat)&&true&&true&&true) (.ret [C.sl r]))) (.must (decide (n=r.length)&&(true||r.all fun r=>r.all C.flat)&&true&&true&&true) (.ret [C.sl r]))):T (List C)).eval:=aAd (by kernel_rfl)
theorem bOm (H:List Pt→Nat→St→T (List C)) (a:Int) (b:Int):(aAe bTz aAb (sg [pI,pI] [rI]) Tryz.f189 H [C.int .i64 a,C.int .i64 b]).eval=((.ask (decide (a<b)) (.ret [C.int .i64 (-1)]) (.ask (decide (IntKind.i64.wrap (a-b)<(0:Int))) (.ret [C.int .i64 (-1)]) (.ret [C.int .i64 (IntKind.i64.wrap (a-b))]))):T (List C)).eval:=aAd (by kernel_rfl)
theorem aSg (H:List Pt→Nat→St→T (List C)) (r:List (List C)):(aAe aGw aAb {params:=[bUb],results:=[rS],nested:=true} Tryz.f153 H [C.sl r]).eval=((H [Pt.r,Pt.r,Pt.r,Pt.l,Pt.r,Pt.b] 9223372036854775808 (aGu (r) (aAr (↑r.length:Int)) ((0:Int)) ((0:Int)) ((0:Int)))):T (List C)).eval:=aAd (by kernel_rfl)
theorem aHu (H:List Pt→Nat→St→T (List C)) (r:List (List C)) (t:List UInt8) (a:Int) (b:Int) (j:Int) (k:Nat):(aB3 aGw aAb {params:=[bUb],results:=[rS],nested:=true} Tryz.f153 H [Pt.r,Pt.r,Pt.r,Pt.l,Pt.r,Pt.b] k (aGu r t a b j)).eval=((.ask (decide (j<(↑r.length:Int))) (.must (decide ((0:Int)≤j)&&decide (j<(↑r.length:Int))&&decide ((r.getD j.toNat []).length=2)) (.must (decide (0<(r.getD j.toNat []).length)&&C.is (K.int .i64) ((r.getD j.toNat []).getD 0 (C.fn 0 []))&&(decide (0+1<(r.getD j.toNat []).length)&&C.is (K.int .i64) ((r.getD j.toNat []).getD (0+1) (C.fn 0 []))&&true)) (.ask (aAr (aGi ((r.getD j.toNat []).getD 0 (C.fn 0 [])).toInt a)==[]) (.ret [C.str []]) (.ask (aAr (aGi ((r.getD j.toNat []).getD (0+1) (C.fn 0 [])).toInt b)==[]) (.ret [C.str []]) (.must (decide (t.length+(aAr (aGi ((r.getD j.toNat []).getD 0 (C.fn 0 [])).toInt a)).length≤9223372036854775807)) (.must (decide ((t++aAr (aGi ((r.getD j.toNat []).getD 0 (C.fn 0 [])).toInt a)).length+(aAr (aGi ((r.getD j.toNat []).getD (0+1) (C.fn 0 [])).toInt b)).length≤9223372036854775807)) (H [Pt.r,Pt.r,Pt.r,Pt.l,Pt.r,Pt.b] k (aGu (r) (t++aAr (aGi ((r.getD j.toNat []).getD 0 (C.fn 0 [])).toInt a)++aAr (aGi ((r.getD j.toNat []).getD (0+1) (C.fn 0 [])).toInt b)) (((r.getD j.toNat []).getD 0 (C.fn 0 [])).toInt) (((r.getD j.toNat []).getD (0+1) (C.fn 0 [])).toInt) (IntKind.i64.wrap (j+(1:Int))))))))))) (.ret [C.str t])):T (List C)).eval:=aAd (by kernel_rfl)
theorem bB4 (H:List Pt→Nat→St→T (List C)) (a:Int) (b:Int) (c:Int) (d:Int):(aAe aMs aAb (sg [pI,pI,pI,pI] [rS]) Tryz.f155 H [C.int .i64 a,C.int .i64 b,C.int .i64 c,C.int .i64 d]).eval=((H [Pt.r,Pt.r,Pt.r,Pt.l,Pt.r,Pt.b] 9223372036854775808 (aMe ([]) (a) (b) (c) (d) ((0:Int)))):T (List C)).eval:=aAd (by kernel_rfl)
theorem aKt (H:List Pt→Nat→St→T (List C)) (t:List UInt8) (a:Int) (b:Int) (c:Int) (d:Int) (j:Int) (k:Nat):(aB3 aMs aAb (sg [pI,pI,pI,pI] [rS]) Tryz.f155 H [Pt.r,Pt.r,Pt.r,Pt.l,Pt.r,Pt.b] k (aMe t a b c d j)).eval=((.ask (decide (j<(4:Int))) (.must (decide ((0:Int)≤j)&&decide (j<(↑(4:Nat):Int))) (.must (decide (0+j.toNat<(((Nat.add 1 0).succ.add 0).succ.add 0).succ)&&(decide (0<([[C.int .i64 a],[C.int .i64 b],[C.int .i64 c],[C.int .i64 d]].getD (0+j.toNat) []).length)&&C.is (K.int .i64) (([[C.int .i64 a],[C.int .i64 b],[C.int .i64 c],[C.int .i64 d]].getD (0+j.toNat) []).getD 0 (C.fn 0 []))&&true)) (.must (decide ((-9223372036854775808:Int)≤(([[C.int .i64 a],[C.int .i64 b],[C.int .i64 c],[C.int .i64 d]].getD (0+j.toNat) []).getD 0 (C.fn 0 [])).toInt)&&decide ((([[C.int .i64 a],[C.int .i64 b],[C.int .i64 c],[C.int .i64 d]].getD (0+j.toNat) []).getD 0 (C.fn 0 [])).toInt≤(9223372036854775807:Int))) (.ask (aAg (([[C.int .i64 a],[C.int .i64 b],[C.int .i64 c],[C.int .i64 d]].getD (0+j.toNat) []).getD 0 (C.fn 0 [])).toInt 4==[]) (.ret [C.str []]) (.must (decide (t.length+(aAg (([[C.int .i64 a],[C.int .i64 b],[C.int .i64 c],[C.int .i64 d]].getD (0+j.toNat) []).getD 0 (C.fn 0 [])).toInt 4).length≤9223372036854775807)) (H [Pt.r,Pt.r,Pt.r,Pt.l,Pt.r,Pt.b] k (aMe (t++aAg (([[C.int .i64 a],[C.int .i64 b],[C.int .i64 c],[C.int .i64 d]].getD (0+j.toNat) []).getD 0 (C.fn 0 [])).toInt 4) (a) (b) (c) (d) (IntKind.i64.wrap (j+(1:Int)))))))))) (.must (decide (t.length+4≤9223372036854775807)) (.ret [C.str (t++[(73:UInt8),68,88,33])]))):T (List C)).eval:=aAd (by kernel_rfl)
theorem bOo (H:List Pt→Nat→St→T (List C)) (v:Int) (s:Int) (b:Int) (l:Int) (o:List (List C)) (e:Int):(aAe bU0 aAb {params:=[aEb,bIn,pI],results:=[rS],nested:=true} Tryz.f118 H [C.int .i64 v,C.int .i64 s,C.int .i64 b,C.int .i64 l,C.sl o,C.int .i64 e]).eval=((.ask (aCq v s b l) (.must (aAi [K.int .i64] o&&decide (o.length≤1048576)) (.must ((true&&(List.map ePl (aAp s (aCp o))).all fun row=>decide (row.length=2))&&true&&true&&true) (.must (aAi [K.int .i64,K.int .i64] (List.take (List.map ePl (aAp s (aCp o))).length (List.map ePl (aAp s (aCp o))))&&decide ((List.take (List.map ePl (aAp s (aCp o))).length (List.map ePl (aAp s (aCp o)))).length≤1048576)) (.must (inB e (-9223372036854775808) 9223372036854775807&&(inB (↑o.length:Int) (-9223372036854775808) 9223372036854775807&&(inB s (-9223372036854775808) 9223372036854775807&&inB 0 (-9223372036854775808) 9223372036854775807))) (.ask (aAx v (IntKind.i64.wrap (b+(↑o.length:Int)))==[]) (.ret [C.str []]) (.ask (aAw (pls (List.take (List.map ePl (aAp s (aCp o))).length (List.map ePl (aAp s (aCp o)))))==[]) (.ret [C.str []]) (.ask (aBc e (↑o.length:Int) s 0==[]) (.ret [C.str []]) (.must (decide ((aAx v (IntKind.i64.wrap (b+(↑o.length:Int)))).length+(aAw (pls (List.take (List.map ePl (aAp s (aCp o))).length (List.map ePl (aAp s (aCp o)))))).length≤9223372036854775807)) (.must (decide ((0:Int)≤(12:Int))&&decide ((12:Int)≤(↑(aBc e (↑o.length:Int) s 0).length:Int))) (.must (decide ((aAx v (IntKind.i64.wrap (b+(↑o.length:Int)))++aAw (pls (List.take (List.map ePl (aAp s (aCp o))).length (List.map ePl (aAp s (aCp o)))))).length+(List.drop 0 (List.take (Int.toNat 12) (aBc e (↑o.length:Int) s 0))).length≤9223372036854775807)) (.must (decide ((aAx v (IntKind.i64.wrap (b+(↑o.length:Int)))++aAw (pls (List.take (List.map ePl (aAp s (aCp o))).length (List.map ePl (aAp s (aCp o)))))++List.drop 0 (List.take (Int.toNat 12) (aBc e (↑o.length:Int) s 0))).length≤281474976710656)) (.must (decide ((aAx v (IntKind.i64.wrap (b+(↑o.length:Int)))).length+(aAw (pls (List.take (List.map ePl (aAp s (aCp o))).length (List.map ePl (aAp s (aCp o)))))).length≤9223372036854775807)) (.must (inB e (-9223372036854775808) 9223372036854775807&&(inB (↑o.length:Int) (-9223372036854775808) 9223372036854775807&&(inB s (-9223372036854775808) 9223372036854775807&&inB (Int.ofNat (aAs 0 (aAx v (IntKind.i64.wrap (b+(↑o.length:Int)))++aAw (pls (List.take (List.map ePl (aAp s (aCp o))).length (List.map ePl (aAp s (aCp o)))))++List.drop 0 (List.take (Int.toNat 12) (aBc e (↑o.length:Int) s 0))))) (-9223372036854775808:Int) (9223372036854775807:Int)))) (.must (decide ((aAx v (IntKind.i64.wrap (b+(↑o.length:Int)))++aAw (pls (List.take (List.map ePl (aAp s (aCp o))).length (List.map ePl (aAp s (aCp o)))))).length+(aBc e (↑o.length:Int) s (Int.ofNat (aAs 0 (aAx v (IntKind.i64.wrap (b+(↑o.length:Int)))++aAw (pls (List.take (List.map ePl (aAp s (aCp o))).length (List.map ePl (aAp s (aCp o)))))++List.drop 0 (List.take (Int.toNat 12) (aBc e (↑o.length:Int) s 0)))))).length≤9223372036854775807)) (.ret [C.str (aAx v (IntKind.i64.wrap (b+(↑o.length:Int)))++aAw (pls (List.take (List.map ePl (aAp s (aCp o))).length (List.map ePl (aAp s (aCp o)))))++aBc e (↑o.length:Int) s (Int.ofNat (aAs 0 (aAx v (IntKind.i64.wrap (b+(↑o.length:Int)))++aAw (pls (List.take (List.map ePl (aAp s (aCp o))).length (List.map ePl (aAp s (aCp o)))))++List.drop 0 (List.take (Int.toNat 12) (aBc e (↑o.length:Int) s 0))))))]))))))))))))))) (.ret [C.str []])):T (List C)).eval:=aAd (by kernel_rfl)
theorem bOh (H:List Pt→Nat→St→T (List C)) (v:Int) (s:Int) (b:Int) (l:Int) (r:List (List C)):(aAe bEb aAb {params:=[aEb,bEf],results:=[rS],nested:=true} Tryz.f91 H [C.int .i64 v,C.int .i64 s,C.int .i64 b,C.int .i64 l,C.sl r]).eval=((.ask (aCq v s b l) (.ask (decide ((1000:Int)<(↑r.length:Int))) (.ret [C.str []]) (.ask (decide ((1000000000:Int)<IntKind.i64.wrap (b+(↑r.length:Int)))) (.ret [C.str []]) (H [Pt.r,Pt.r,Pt.r,Pt.r,Pt.l,Pt.r,Pt.b] 9223372036854775808 (bE7 (v) (s) (b) (l) (r) ((aB6 v s b l).length) (aAa (aB6 v s b l)) (0) ([]) ((0:Int)))))) (.ret [C.str []])):T (List C)).eval:=aAd (by kernel_rfl)
theorem aRi (H:List Pt→Nat→St→T (List C)) (v:Int) (s:Int) (b:Int) (l:Int) (r:List (List C)) (n:Nat) (x:List (List C)) (q:Nat) (o:List (List C)) (j:Int) (k:Nat):(aB3 bEb aAb {params:=[aEb,bEf],results:=[rS],nested:=true} Tryz.f91 H [Pt.r,Pt.r,Pt.r,Pt.r,Pt.l,Pt.r,Pt.b] k (bE7 v s b l r n x q o j)).eval=((.ask (decide (j<(↑r.length:Int))) (.must (decide ((0:Int)≤j)&&decide (j<(↑r.length:Int))&&decide ((r.getD j.toNat []).length=1)) (.must (decide (0<(r.getD j.toNat []).length)&&C.is K.str ((r.getD j.toNat []).getD 0 (C.fn 0 []))&&true) (.ask (decide ((60:Int)<(↑((r.getD j.toNat []).getD 0 (C.fn 0 [])).toStr.length:Int))) (.ret [C.str []]) (.must (decide (q=o.length)&&aBg (o.length+1) 8&&(decide (1=1)&&true)) (.must (decide ((0:Int)≤j)&&decide (j<(↑r.length:Int))&&decide ((r.getD j.toNat []).length=1)) (.must (decide (0<(r.getD j.toNat []).length)&&C.is K.str ((r.getD j.toNat []).getD 0 (C.fn 0 []))&&true) (.must (decide (((r.getD j.toNat []).getD 0 (C.fn 0 [])).toStr.length≤281474976710656)) (.must (decide (n=x.length)&&aBg (x.length+(aAa (aAc v (IntKind.i64.wrap (b+j)) ((r.getD j.toNat []).getD 0 (C.fn 0 [])).toStr)).length) 1&&(aAa (aAc v (IntKind.i64.wrap (b+j)) ((r.getD j.toNat []).getD 0 (C.fn 0 [])).toStr)).all fun r=>decide (r.length=1)) (H [Pt.r,Pt.r,Pt.r,Pt.r,Pt.l,Pt.r,Pt.b] k (bE7 (v) (s) (b) (l) (r) (x.length+(aAa (aAc v (IntKind.i64.wrap (b+j)) ((r.getD j.toNat []).getD 0 (C.fn 0 [])).toStr)).length) (x.append (aAa (aAc v (IntKind.i64.wrap (b+j)) ((r.getD j.toNat []).getD 0 (C.fn 0 [])).toStr))) (o.length+1) (o.append [[C.int .i64 (↑n:Int)]]) (IntKind.i64.wrap (j+(1:Int))))))))))))) (.must (aAi [K.int .i64] (List.take q o)&&(decide ((List.take q o).length≤1048576)&&inB (↑n:Int) (-9223372036854775808) 9223372036854775807)) (.must (decide (n=x.length)&&aBg (x.length+(aAa (aBp v s b l (aCp (List.take q o)) (↑n:Int))).length) 1&&(aAa (aBp v s b l (aCp (List.take q o)) (↑n:Int))).all fun r=>decide (r.length=1)) (.must ((List.take (x.length+(aAa (aBp v s b l (aCp (List.take q o)) (↑n:Int))).length) (x.append (aAa (aBp v s b l (aCp (List.take q o)) (↑n:Int))))).all aFv) (.ret [C.str (aCl (List.take (x.length+(aAa (aBp v s b l (aCp (List.take q o)) (↑n:Int))).length) (x.append (aAa (aBp v s b l (aCp (List.take q o)) (↑n:Int))))))]))))):T (List C)).eval:=aAd (by kernel_rfl)
theorem bZm {r:List C} (h:aB7 r [.int .i64,.int .i64]=true):r=ePl (cB0 r):=by
 cases r with
 |nil=>simp[aB7]at h
 |cons c r =>
  cases r with
  |nil=>simp[aB7]at h
  |cons d r =>
   cases r with
   |cons e r=>simp[aB7]at h
   |nil=>cases c<;>simp[aB7,C.is]at h<;>cases d<;>simp[aB7,C.is]at h<;>(obtain⟨rfl,rfl⟩:=h;rfl)
theorem bMh {rows:List (List C)} (h:aAi [.int .i64,.int .i64] rows=true):rows=(pls rows).map ePl:=by
 simp only[aAi,List.all_eq_true]at h
 simp only[pls,List.map_map]
 rw[List.map_congr_left (g:=id)]
 ·simp
 ·intro r hr;exact (bZm (h r hr)).symm
@[simp] theorem bRs (l:List Pl):pls (l.map ePl)=l:=by simp[pls,cB0,ePl,Function.comp_def,C.toInt]
@[simp] theorem aZj (l:List Pl):aAi [.int .i64,.int .i64] (l.map ePl)=true:=by simp[aAi,aB7,C.is,ePl]
theorem bSb (l:List Pl):((l.map ePl).all fun row=>decide (row.length=2))=true:=by simp[ePl]
theorem aHv (s:Int) (os:List Int):∀ i,(aBa s os i).length≤i
 |0=>Nat.le_refl _
 |i+1=>by
  have:=aHv s os i
  simp only[aBa,List.length_append]
  split<;>simp<;>omega
theorem aM0 (s:Int) (os:List Int):(aAp s os).length≤os.length:=by
 unfold aAp
 split
 ·simp
 ·exact aHv _ _ _
theorem bMn:∀ (l:List Pl) (q:Pl) (t:List UInt8),bFv q l=some t→t.length≤10*l.length
 |[],q,t,h=>by simp[bFv]at h;subst h;simp
 |p::r,q,t,h=>by
  unfold bFv at h
  split at h
  ·cases h
  ·cases hr:bFv p r with
   |none=>rw[hr]at h;cases h
   |some u =>
    rw[hr]at h
    simp only[Option.map_some,Option.some.injEq]at h
    subst h
    have:=bMn r p u hr
    have h1:=aCj (aGi p.1 q.1)
    have h2:=aCj (aGi p.2 q.2)
    simp only[List.length_append,List.length_cons]
    omega
theorem aIc (l:List Pl):(aAw l).length≤5+10*l.length:=by
 unfold aAw
 cases h:bFv (0,0) l with
 |none=>simp
 |some t =>
  have:=bMn l _ t h
  have h1:=aCj (l.length:Int)
  simp only[List.length_append]
  omega
theorem bMb:∀ (l:List Int) (t:List UInt8),bO5 l t=[]∨(bO5 l t).length=t.length+4*l.length+4
 |[],t=>.inr (by simp[bO5])
 |x::r,t=>by
  unfold bO5
  split
  ·exact .inl rfl
  ·rename_i hx
   have hf:(aAg x 4).length=4:=by
    unfold aAg at hx ⊢
    split at hx
    ·rename_i hc;rw[if_pos hc,aBx];rfl
    ·exact absurd rfl hx
   rcases bMb r (t++aAg x 4)with h | h
   ·exact .inl h
   ·right;rw[h];simp[hf];omega
theorem aNs (a b c d:Int):aBc a b c d=[]∨(aBc a b c d).length=20:=bMb [a,b,c,d] []
theorem aQ2 (a b c d:Int):(aBc a b c d).length≤20:=by
 rcases aNs a b c d with h | h<;>rw[h]<;>simp
theorem aW3 (v s b l:Int):(aB6 v s b l).length≤60:=by
 unfold aB6 aFd
 have h1:=aB5 v 1
 have h2:=aB5 s 1
 have h3:=aB5 b 8
 have h4:=aB5 l 4
 have h5:=fun x:Int=>aB5 x 4
 split
 ·simp only[List.length_append,List.length_cons,List.length_nil]
  have:=h5 ((aAs 0 ([83,69,71,77]++aAg v 1++aAg s 1++[0,0]++aAg b 8++aAg l 4):Nat):Int)
  omega
 ·simp
theorem aW6 (v s b l:Int) (os:List Int) (e:Int):(aBp v s b l os e).length≤41+10*os.length:=by
 unfold aBp
 split
 ·simp
 ·have h1:=aJp v (b+os.length)
  have h2:=aIc (aAp s os)
  have h3:=aM0 s os
  simp only[List.length_append]
  have h4:=aQ2 e os.length s (aAs 0 (aAx v (b+os.length)++aAw (aAp s os)++(aBc e os.length s 0).take 12):Nat)
  omega
theorem aZf (v b:Int):∀ (rs:List (List UInt8)) (i:Int) (t:List UInt8) (os:List Int) (x:List UInt8×List Int),aDo v b i rs t os=some x→x.1.length≤t.length+90*rs.length∧x.2.length=os.length+rs.length
 |[],i,t,os,x,h=>by simp[aDo]at h;subst h;simp
 |r::rs,i,t,os,x,h=>by
  unfold aDo at h
  split at h
  ·cases h
  ·have:=aZf v b rs _ _ _ x h
   have h1:=aFg v (b+i) r
   simp only[List.length_append,List.length_cons,List.length_nil]at this ⊢
   omega
theorem aY2 (s:Int) (os:List Int) (hs:1≤s) (hl:os.length≤1048576):∀ (f n i:Nat),i+f=os.length→f<n →
  (aBl aK3 aAb (⟨[pI,bIn],[bUa],true⟩) Tryz.f154 [.r,.r,.l,.r,.b] n (aHp s (os.map aEf) (aBa s os i).length ((aBa s os i).map ePl) i)).eval=some [.sl ((aBa s os os.length).map ePl)]:=by
 intro f
 induction f with
 |zero =>
  intro n i h1 h2
  obtain⟨n,rfl⟩:∃ q,n=q+1:=⟨n-1,by omega⟩
  rw[aAo _ _ _ _ _ _ _ (by kernel_rfl),aGl]
  have c:¬((i:Int)<(os.length:Int)):=by omega
  have ei:i=os.length:=by omega
  simp only[List.length_map,aA2,aA0,aA1,decide_eq_true_eq,c,if_false,decide_true,Bool.true_or,Bool.and_self,if_true]
  rw[ei]
 |succ f ih =>
  intro n i h1 h2
  obtain⟨n,rfl⟩:∃ q,n=q+1:=⟨n-1,by omega⟩
  rw[aAo _ _ _ _ _ _ _ (by kernel_rfl),aGl]
  have hi:i<os.length:=by omega
  have c:(i:Int)<(os.length:Int):=by omega
  have z:(0:Int)≤(i:Int):=by omega
  have ns:¬s=0:=by omega
  have tm:(i:Int).tmod s=(i:Int) % s:=Int.tmod_eq_emod_of_nonneg z
  have g:=aB1 aEf os 0 i hi
  have w:IntKind.i64.wrap ((i:Int)+1)=((i+1:Nat):Int):=by rw[aAh]<;>omega
  have pl:=aHv s os i
  have ro:aBg ((aBa s os i).length+1) 16=true:=by simp only[aBg,decide_eq_true_eq];omega
  have e:=ih n (i+1) (by omega) (by omega)
  simp only[List.length_map,aA2,aA0,decide_eq_true_eq,c,hs,ns,tm,z,Int.toNat_natCast,g,w,ro,not_false_eq_true,if_true,decide_true,Bool.and_true,Bool.true_and,List.length_cons,List.length_nil,Nat.zero_add,Nat.zero_lt_one,C.is,beq_self_eq_true,List.getD_cons_zero,C.toInt]
  by_cases hm:(i:Int) % s=0
  ·have ep:aBa s os (i+1)=aBa s os i++[((i:Int),os.getD i 0)]:=by simp only[aBa,hm,if_true]
   rw[ep,List.map_append,List.length_append]at e
   simp only[hm,if_true]
   exact e
  ·have ep:aBa s os (i+1)=aBa s os i:=by simp only[aBa,hm,if_false,List.append_nil]
   rw[ep]at e
   simp only[hm,if_false]
   exact e
theorem bJf:aA6 Tryz.prog aK3:=aA5 (by simp[])
theorem aUs:aAm Tryz.prog 154 (⟨[pI,bIn],[bUa],true⟩) aEu:=aA3 bJf aA7 Tryz.func154 (by kernel_rfl) fun cs outs hk h=>by
 unfold aEu at h
 split at h
 ·simp only[Option.some.injEq,Prod.mk.injEq,Bool.and_eq_true,decide_eq_true_eq]at h
  obtain⟨⟨h1,h2⟩,rfl⟩:=h
  rename_i s o
  have hr:=aG9 h1
  generalize aCp o=os at hr ⊢
  subst hr
  rw[List.length_map]at h2
  rw[aA9,aY1]
  by_cases hs:1≤s
  ·have e:=aY2 s os hs h2 os.length 9223372036854775808 0 (by omega) (by omega)
   have ep:aAp s os=aBa s os os.length:=by unfold aAp;rw[if_neg (by omega)]
   rw[ep]
   exact e
  ·have ep:aAp s os=[]:=by unfold aAp;rw[if_pos (by omega)]
   rw[ep,aAo _ _ _ _ _ 9223372036854775807 _ (by kernel_rfl),aGl]
   by_cases c:(0:Int)<(os.length:Int)
   ·simp only[List.length_map,aA2,aA0,aA1,decide_eq_true_eq,c,hs,if_true,if_false];rfl
   ·simp only[List.length_map,aA2,aA0,aA1,decide_eq_true_eq,c,if_false];rfl
 ·cases h
theorem bXz:aA6 Tryz.prog bTz:=aA5 (by simp[])
theorem bJh:aAm Tryz.prog 189 (sg [pI,pI] [rI]) bCb:=aA3 bXz aA7 Tryz.func189 (by kernel_rfl) fun cs outs hk h=>by
 unfold bCb at h
 split at h
 ·simp only[Option.some.injEq,Prod.mk.injEq,true_and]at h
  rename_i a b
  rw[←h,aA9,bOm]
  unfold aGi
  by_cases c:a<b
  ·simp[aA2,aA1,c]
  ·by_cases d:IntKind.i64.wrap (a-b)<0<;>simp[aA2,aA1,c,d]
 ·cases h
theorem aSh (l:List Pl) (hl:l.length≤1048576):∀ (f n i:Nat) (q:Pl) (t:List UInt8),i+f=l.length→f<n→t.length≤5+10*i →
  (aBl aGw aAb (⟨[bUb],[rS],true⟩) Tryz.f153 [.r,.r,.r,.l,.r,.b] n (aGu (l.map ePl) t q.1 q.2 i)).eval=some [.str (match bFv q (l.drop i)with | some x=>t++x | none=>[])]:=by
 intro f
 induction f with
 |zero =>
  intro n i q t h1 h2 h3
  obtain⟨n,rfl⟩:∃ q,n=q+1:=⟨n-1,by omega⟩
  rw[aAo _ _ _ _ _ _ _ (by kernel_rfl),aHu]
  have c:¬((i:Int)<(l.length:Int)):=by omega
  have hd:l.drop i=[]:=List.drop_eq_nil_of_le (by omega)
  simp only[List.length_map,aA2,aA1,decide_eq_true_eq,c,if_false,hd,bFv,List.append_nil]
 |succ f ih =>
  intro n i q t h1 h2 h3
  obtain⟨n,rfl⟩:∃ q,n=q+1:=⟨n-1,by omega⟩
  rw[aAo _ _ _ _ _ _ _ (by kernel_rfl),aHu]
  have hi:i<l.length:=by omega
  have c:(i:Int)<(l.length:Int):=by omega
  have z:(0:Int)≤(i:Int):=by omega
  have g:=aB1 ePl l (0,0) i hi
  have hd:=aBq l i (0,0) hi
  generalize l.getD i (0,0)=p at g hd
  have w:IntKind.i64.wrap ((i:Int)+1)=((i+1:Nat):Int):=by rw[aAh]<;>omega
  have v1:=aCj (aGi p.1 q.1)
  have v2:=aCj (aGi p.2 q.2)
  have m1:t.length+(aAr (aGi p.1 q.1)).length≤9223372036854775807:=by omega
  have m2:t.length+(aAr (aGi p.1 q.1)).length+(aAr (aGi p.2 q.2)).length≤9223372036854775807:=by omega
  have e:=ih n (i+1) p (t++aAr (aGi p.1 q.1)++aAr (aGi p.2 q.2)) (by omega) (by omega) (by simp only[List.length_append];omega)
  rw[hd]
  simp only[List.length_map,aA2,aA0,aA1,decide_eq_true_eq,c,z,Int.toNat_natCast,g,w,if_true,decide_true,Bool.and_true,Bool.true_and,ePl,List.length_cons,List.length_nil,C.is,beq_self_eq_true,List.getD_cons_zero,List.getD_cons_succ,C.toInt,Nat.zero_add,Nat.reduceAdd,Nat.reduceLT,beq_iff_eq,List.length_append,m1,m2,bFv]
  by_cases a1:aAr (aGi p.1 q.1)=[]
  ·simp only[a1,true_or,if_true]
  ·by_cases a2:aAr (aGi p.2 q.2)=[]
   ·simp only[a1,a2,or_true,if_true,if_false]
   ·simp only[a1,a2,or_self,if_false]
    refine e.trans ?_
    cases bFv p (l.drop (i+1))with
    |none=>rfl
    |some x=>simp only[Option.map_some,List.append_assoc]
theorem bBh:aA6 Tryz.prog aGw:=aA5 (by simp[aI9,bJh])
theorem aQg:aAm Tryz.prog 153 (⟨[bUb],[rS],true⟩) aId:=aA3 bBh aA7 Tryz.func153 (by kernel_rfl) fun cs outs hk h=>by
 unfold aId at h
 split at h
 ·simp only[Option.some.injEq,Prod.mk.injEq,Bool.and_eq_true,decide_eq_true_eq]at h
  obtain⟨⟨h1,h2⟩,rfl⟩:=h
  rename_i r
  have hr:=bMh h1
  generalize pls r=l at hr ⊢
  subst hr
  rw[List.length_map]at h2
  rw[aA9,aSg,List.length_map]
  have e:=aSh l h2 l.length 9223372036854775808 0 (0,0) (aAr (l.length:Int)) (by omega) (by omega) (by have:=aCj (l.length:Int);omega)
  exact e
 ·cases h
theorem bT2 (a b c d:Int) (i:Nat) (hi:i<4):([[C.int .i64 a],[C.int .i64 b],[C.int .i64 c],[C.int .i64 d]]:List (List C)).getD i []=aEf (([a,b,c,d]:List Int).getD i 0):=by
 exact aB1 aEf [a,b,c,d] 0 i hi
theorem bB5 (a b c d:Int) (hx:∀ i,i<4→ -9223372036854775808≤([a,b,c,d]:List Int).getD i 0∧([a,b,c,d]:List Int).getD i 0≤9223372036854775807):∀ (f n i:Nat) (t:List UInt8),i+f=4→f<n→t.length≤8*i →
  (aBl aMs aAb (sg [pI,pI,pI,pI] [rS]) Tryz.f155 [.r,.r,.r,.l,.r,.b] n (aMe t a b c d i)).eval=some [.str (bO5 (([a,b,c,d]:List Int).drop i) t)]:=by
 intro f
 induction f with
 |zero =>
  intro n i t h1 h2 h3
  obtain⟨n,rfl⟩:∃ q,n=q+1:=⟨n-1,by omega⟩
  rw[aAo _ _ _ _ _ _ _ (by kernel_rfl),aKt]
  have c4:¬((i:Int)<4):=by omega
  have hd:([a,b,c,d]:List Int).drop i=[]:=List.drop_eq_nil_of_le (by simp;omega)
  have m:t.length+4≤9223372036854775807:=by omega
  simp only[aA2,aA0,aA1,decide_eq_true_eq,c4,if_false,hd,bO5,m,if_true]
 |succ f ih =>
  intro n i t h1 h2 h3
  obtain⟨n,rfl⟩:∃ q,n=q+1:=⟨n-1,by omega⟩
  rw[aAo _ _ _ _ _ _ _ (by kernel_rfl),aKt]
  have hi:i<4:=by omega
  have c4:(i:Int)<4:=by omega
  have z:(0:Int)≤(i:Int):=by omega
  have g:=bT2 a b c d i hi
  have hd:=aBq ([a,b,c,d]:List Int) i 0 hi
  have hx1:=hx i hi
  generalize ([a,b,c,d]:List Int).getD i 0=x at g hd hx1
  have w:IntKind.i64.wrap ((i:Int)+1)=((i+1:Nat):Int):=by rw[aAh]<;>omega
  have v1:=aB5 x 4
  have m1:t.length+(aAg x 4).length≤9223372036854775807:=by omega
  have e:=ih n (i+1) (t++aAg x 4) (by omega) (by omega) (by simp only[List.length_append];omega)
  have k1:i<(((Nat.add 1 0).succ.add 0).succ.add 0).succ:=by show i<4;omega
  rw[hd]
  have c4':(i:Int)<((4:Nat):Int):=by omega
  simp only[aA2,aA0,aA1,decide_eq_true_eq,c4,c4',z,Int.toNat_natCast,k1,g,w,if_true,decide_true,Bool.and_true,Bool.true_and,Bool.and_self,List.length_cons,List.length_nil,C.is,beq_self_eq_true,List.getD_cons_zero,C.toInt,Nat.zero_add,Nat.zero_lt_one,hx1.1,hx1.2,beq_iff_eq,m1,bO5]
  by_cases a1:aAg x 4=[]
  ·simp only[a1,if_true]
  ·simp only[a1,if_false]
   exact e
theorem bOe:aA6 Tryz.prog aMs:=aA5 (by simp[aEj])
theorem aXq:aAm Tryz.prog 155 (sg [pI,pI,pI,pI] [rS]) aFo:=aA3 bOe aA7 Tryz.func155 (by kernel_rfl) fun cs outs hk h=>by
 unfold aFo at h
 split at h
 ·simp only[Option.some.injEq,Prod.mk.injEq,Bool.and_eq_true,aBb]at h
  obtain⟨⟨ha,hb,hc,hd⟩,rfl⟩:=h
  rename_i a b c d
  rw[aA9,bB4]
  exact bB5 a b c d (fun i hi=>by
   match i,hi with
   |0,_=>exact ha
   |1,_=>exact hb
   |2,_=>exact hc
   |3,_=>exact hd) 4 9223372036854775808 0 [] (by omega) (by omega) (by simp)
 ·cases h
theorem bY1:aA6 Tryz.prog bU0:=aA5 (by simp[aHt,aJ8,aNc,aUs,aQg,aXq])
theorem bJk:aAm Tryz.prog 118 (⟨[aEb,bIn,pI],[rS],true⟩) bDh:=aA3 bY1 aA7 Tryz.func118 (by kernel_rfl) fun cs outs hk h=>by
 unfold bDh at h
 split at h
 ·simp only[Option.some.injEq,Prod.mk.injEq,Bool.and_eq_true,decide_eq_true_eq,aBb]at h
  obtain⟨⟨h1,h2,h3⟩,rfl⟩:=h
  rename_i v s b l o e
  have hr:=aG9 h1
  rw[aA9,bOo]
  generalize aCp o=os at hr ⊢
  subst hr
  simp only[List.length_map]at h1 h2 ⊢
  by_cases hh:aCq v s b l=true
  ·obtain⟨hv,hs,hb,hl⟩:=(aEe v s b l).1 hh
   have w:IntKind.i64.wrap (b+(os.length:Int))=b+os.length:=by rw[aAh]<;>omega
   have pl:=aM0 s os
   have tk:List.take (aAp s os).length (List.map ePl (aAp s os))=List.map ePl (aAp s os):=List.take_of_length_le (by simp)
   have i1:inB e (-9223372036854775808) 9223372036854775807=true:=(aBb _ _ _).2 h3
   have i2:inB (os.length:Int) (-9223372036854775808) 9223372036854775807=true:=(aBb _ _ _).2 ⟨by omega,by omega⟩
   have i3:inB s (-9223372036854775808) 9223372036854775807=true:=(aBb _ _ _).2 ⟨by omega,by omega⟩
   have i4:inB 0 (-9223372036854775808) 9223372036854775807=true:=rfl
   have l1:=aJp v (b+os.length)
   have l2:=aIc (aAp s os)
   have p1:(aAp s os).length≤1048576:=by omega
   simp only[aA2,aA0,aA1,hh,if_true,w,tk,bRs,bSb,aZj,h1,h2,i1,i2,i3,i4,List.length_map,p1,decide_true,Bool.and_self,Bool.true_and,beq_iff_eq,List.drop_zero]
   unfold aBp
   by_cases c1:aAx v (b+os.length)=[]
   ·rw[if_pos c1,if_pos (.inr (.inl c1))]
   ·by_cases c2:aAw (aAp s os)=[]
    ·rw[if_neg c1,if_pos c2,if_pos (.inr (.inr (.inl c2)))]
    ·by_cases c3:aBc e os.length s 0=[]
     ·rw[if_neg c1,if_neg c2,if_pos c3,if_pos (.inr (.inr (.inr c3)))]
     ·have t20:(aBc e os.length s 0).length=20:=by
       rcases aNs e os.length s 0 with h | h
       ·exact absurd h c3
       ·exact h
      have hn:¬(aCq v s b l=false∨aAx v (b+os.length)=[]∨aAw (aAp s os)=[]∨aBc e os.length s 0=[]):=by
       intro h
       rcases h with h | h | h | h
       ·rw[hh]at h;cases h
       ·exact c1 h
       ·exact c2 h
       ·exact c3 h
      rw[if_neg c1,if_neg c2,if_neg c3,if_neg hn]
      have t12:Int.toNat 12=12:=rfl
      have d0:List.drop 0 (List.take 12 (aBc e os.length s 0))=List.take 12 (aBc e os.length s 0):=rfl
      have cl:=aDi 0 (aAx v (b+os.length)++aAw (aAp s os)++(aBc e os.length s 0).take 12) (by omega)
      have i5:∀ z:Nat,z<4294967296→inB (Int.ofNat z) (-9223372036854775808) 9223372036854775807=true:=fun z hz=>(aBb _ _ _).2 ⟨by show _≤(z:Int);omega,by show (z:Int)≤_;omega⟩
      have l3:=aQ2 e os.length s (Int.ofNat (aAs 0 (aAx v (b+os.length)++aAw (aAp s os)++(aBc e os.length s 0).take 12)))
      rw[t12]
      rw[if_pos (decide_eq_true (by omega)),if_pos (by rw[t20];rfl),if_pos (decide_eq_true (by simp only[List.length_append,List.length_take];omega)),if_pos (decide_eq_true (by simp only[List.length_append,List.length_take];omega)),if_pos (decide_eq_true (by omega)),if_pos (i5 _ cl),if_pos (decide_eq_true (by simp only[List.length_append];omega))]
      rfl
  ·have hh':aCq v s b l=false:=by simpa using hh
   simp only[aA2,aA1,hh,Bool.false_eq_true,if_false]
   unfold aBp
   rw[if_pos (.inl hh')]
 ·cases h
theorem bOi (v s b l:Int) (rs:List (List UInt8)) (hb:0≤b∧b≤1000000000) (hl:rs.length≤1000):∀ (f n i:Nat) (t:List UInt8) (os:List Int),i+f=rs.length→f<n→os.length=i→t.length≤60+90*i →
  (aBl bEb aAb (⟨[aEb,bEf],[rS],true⟩) Tryz.f91 [.r,.r,.r,.r,.l,.r,.b] n (bE7 v s b l (rs.map aBf) t.length (aAa t) os.length (os.map aEf) i)).eval=some [.str (match aDo v b i (rs.drop i) t os with | some (t',os')=>t'++aBp v s b l os' t'.length | none=>[])]:=by
 intro f
 induction f with
 |zero =>
  intro n i t os h1 h2 h3 h4
  obtain⟨n,rfl⟩:∃ q,n=q+1:=⟨n-1,by omega⟩
  rw[aAo _ _ _ _ _ _ _ (by kernel_rfl),aRi]
  have c:¬((i:Int)<(rs.length:Int)):=by omega
  have hd:rs.drop i=[]:=List.drop_eq_nil_of_le (by omega)
  have tk:List.take os.length (os.map aEf)=os.map aEf:=List.take_of_length_le (by simp)
  have i1:inB (t.length:Int) (-9223372036854775808) 9223372036854775807=true:=(aBb _ _ _).2 ⟨by omega,by omega⟩
  have fl:=aW6 v s b l os t.length
  have ro:aBg (t.length+(aBp v s b l os t.length).length) 1=true:=by simp only[aBg,decide_eq_true_eq];omega
  have ap:(aAa t).append (aAa (aBp v s b l os t.length))=aAa (t++aBp v s b l os t.length):=by rw[List.append_eq,aG1]
  have tk2:List.take (t.length+(aBp v s b l os t.length).length) (aAa (t++aBp v s b l os t.length))=aAa (t++aBp v s b l os t.length):=List.take_of_length_le (by rw[aB9,List.length_append];exact Nat.le_refl _)
  have o1:os.length≤1048576:=by omega
  have al:((aAa (aBp v s b l os t.length)).all fun r=>decide (r.length=1))=true:=by simp[aAa]
  simp only[List.length_map,aA2,aA0,aA1,decide_eq_true_eq,c,if_false,hd,aDo,tk,aT0,aJc,i1,aB9,ro,ap,tk2,aE8,aGr,o1,al,decide_true,Bool.and_self,if_true]
 |succ f ih =>
  intro n i t os h1 h2 h3 h4
  obtain⟨n,rfl⟩:∃ q,n=q+1:=⟨n-1,by omega⟩
  rw[aAo _ _ _ _ _ _ _ (by kernel_rfl),aRi]
  have hi:i<rs.length:=by omega
  have c:(i:Int)<(rs.length:Int):=by omega
  have z:(0:Int)≤(i:Int):=by omega
  have g:=aB1 aBf rs [] i hi
  have hd:=aBq rs i [] hi
  generalize rs.getD i []=r at g hd
  have w:IntKind.i64.wrap ((i:Int)+1)=((i+1:Nat):Int):=by rw[aAh]<;>omega
  have w2:IntKind.i64.wrap (b+(i:Int))=b+i:=by rw[aAh]<;>omega
  have fl:=aFg v (b+i) r
  have ro1:aBg (os.length+1) 8=true:=by simp only[aBg,decide_eq_true_eq];omega
  have ro2:aBg (t.length+(aAc v (b+i) r).length) 1=true:=by simp only[aBg,decide_eq_true_eq];omega
  have ap:(aAa t).append (aAa (aAc v (b+i) r))=aAa (t++aAc v (b+i) r):=by rw[List.append_eq,aG1]
  have ap2:(os.map aEf).append [[C.int .i64 (t.length:Int)]]=(os++[(t.length:Int)]).map aEf:=by simp
  have al:((aAa (aAc v (b+i) r)).all fun r=>decide (r.length=1))=true:=by simp[aAa]
  have e:=ih n (i+1) (t++aAc v (b+i) r) (os++[(t.length:Int)]) (by omega) (by omega) (by simp;omega) (by simp only[List.length_append];omega)
  rw[List.length_append,List.length_append]at e
  rw[hd]
  simp only[List.length_map,aA2,aA0,aA1,decide_eq_true_eq,c,z,Int.toNat_natCast,g,w,w2,if_true,decide_true,Bool.and_true,Bool.true_and,Bool.and_self,List.length_cons,List.length_nil,C.is,List.getD_cons_zero,C.toStr,Nat.zero_add,Nat.zero_lt_one,aB9,ro1,ro2,ap,ap2,al,aDo]
  by_cases h60:(60:Int)<(r.length:Int)
  ·have h60':60<r.length:=by omega
   simp only[h60,h60',if_true]
  ·have h60':¬60<r.length:=by omega
   have hm:r.length≤281474976710656:=by omega
   simp only[h60,h60',hm,if_false,if_true]
   exact e
theorem bXy:aA6 Tryz.prog bEb:=aA5 (by simp[aJ8,aKw,aK9,bJk])
theorem bJ8:aAm Tryz.prog 91 (⟨[aEb,bEf],[rS],true⟩) bB0:=aA3 bXy aA7 Tryz.func91 (by kernel_rfl) fun cs outs hk h=>by
 unfold bB0 at h
 split at h
 ·simp only[Option.some.injEq,Prod.mk.injEq,Bool.and_eq_true,decide_eq_true_eq]at h
  obtain⟨⟨h1,h2⟩,rfl⟩:=h
  rename_i v s b l r
  rw[aA9,bOh]
  have hr:=aDs h1
  generalize aGh r=rs at hr ⊢
  subst hr
  rw[List.length_map]at h2 ⊢
  unfold aG0
  by_cases hh:aCq v s b l=true
  ·obtain⟨hv,hs,hb,hl⟩:=(aEe v s b l).1 hh
   have w:IntKind.i64.wrap (b+(rs.length:Int))=b+rs.length:=by rw[aAh]<;>omega
   have hh':¬aCq v s b l=false:=by rw[hh];decide
   simp only[aA2,aA1,hh,if_true,w,decide_eq_true_eq]
   by_cases c1:(1000:Int)<(rs.length:Int)
   ·rw[if_pos c1,if_pos (.inr (.inl (by omega)))]
   ·by_cases c2:(1000000000:Int)<b+(rs.length:Int)
    ·rw[if_neg c1,if_pos c2,if_pos (.inr (.inr c2))]
    ·have hn:¬(true=false∨1000<rs.length∨1000000000<b+(rs.length:Int)):=by
      intro h
      rcases h with h | h | h
      ·cases h
      ·omega
      ·omega
     rw[if_neg c1,if_neg c2,if_neg hn]
     have e:=bOi v s b l rs hb (by omega) rs.length 9223372036854775808 0 (aB6 v s b l) [] (by omega) (by omega) rfl (by have:=aW3 v s b l;omega)
     exact e
  ·have hh':aCq v s b l=false:=by simpa using hh
   simp only[aA2,aA1,hh',Bool.false_eq_true,if_false]
   rw[if_pos (.inl trivial)]
 ·cases h
noncomputable section
def aJy (s:Int) (o:List (List C)) (n:Nat) (r:List (List C)) (j:Int):St:={slots:=[(0,aB0 s),(1,.l (.sl o)),(5,.l (.ref 0 0 n)),(6,aB0 j)],heap:=[(0,.arr 2 r)],next:=1,pins:=[]}
def aK4:Env:=mkE [(5,[0,1,5,6])] []
def aWr:aC0:=fun cs=>match cs with
 |[.int .i64 a,.int .i64 b]=>some (inB a (-9223372036854775808) 9223372036854775807&&inB b (-9223372036854775808) 9223372036854775807,[.str (aAr (aGi a b))])
 |_=>none
def bNr:Env:=mkE [] [(182,(sg [pI] [rS]),aD3)]
def aGv (r:List (List C)) (t:List UInt8) (a b j:Int):St:={slots:=[(3,.l (.ptr 0 0)),(4,.l (.ptr 1 0)),(15,.l (.sl r)),(16,aB0 r.length),(17,aB0 j)],heap:=[(0,.bld 144 5 (some 2)),(1,.box [.i .i64 a,.i .i64 b]),(2,.own 5 t)],next:=3,pins:=[]}
def bX6 (p:Pl):Bool:=inB p.1 (-9223372036854775808) 9223372036854775807&&inB p.2 (-9223372036854775808) 9223372036854775807
def aHb:aC0:=fun cs=>match cs with
 |[.sl r]=>some (aAi [.int .i64,.int .i64] r&&(decide (r.length≤1048576)&&(pls r).all bX6),[.str (aAw (pls r))])
 |_=>none
def aGx:Env:=mkB [(5,[3,4,15,16,17])] [(182,(sg [pI] [rS]),aD3),(201,(sg [pI,pI] [rS]),aWr)]
def aMk (t:List UInt8) (a b c d j:Int):St:={slots:=[(9,bEe t),(17,.l (.ref 0 0 4)),(18,aB0 ((4:Nat):Int)),(19,aB0 j)],heap:=[(0,.arr 1 [[.int .i64 a],[.int .i64 b],[.int .i64 c],[.int .i64 d]])],next:=1,pins:=[]}
def aN0:Env:=mkE [(3,[9,17,18,19])] [(161,(sg [pI,pI] [rS]),aFh)]
def okI (x:Int):Bool:=inB x (-9223372036854775808) 9223372036854775807
def aW7:aC0:=fun cs=>match cs with
 |[.int .i64 v,.int .i64 s,.int .i64 b,.int .i64 l,.sl os,.int .i64 e]=>some (aAi [.int .i64] os&&(decide (os.length≤1048576)&&(inB e (-9223372036854775808) 9223372036854775807&&(aCp os).all okI)),[.str (aBp v s b l (aCp os) e)])
 |_=>none
def bU4:Env:=mkE [] [(181,(sg [pS] [rI]),aDc),(137,(sg [aEb] [rB]),aDh),(157,(sg [pI,pI] [rS]),aE2),(185,(⟨[pI,bIn],[bUa],true⟩),aEu),(184,(⟨[bUb],[rS],true⟩),aHb),(186,(sg [pI,pI,pI,pI] [rS]),aFo)]
def aM5:aC0:=fun cs=>match cs with
 |[.str r]=>some (decide (r.length≤281474976710656),[.bool (decide (60<r.length))])
 |_=>none
def aKe (r:List UInt8):Bool:=decide (60<r.length)
def aZo (rs:List (List UInt8)):Int:=aCs aKe rs 0
def aLo (rs:List (List UInt8)):Bool:=decide (0≤aZo rs)
def aOv (rows:List (List C)):Bool:=aAi [.str] rows&&(decide (rows.length≤1048576)&&(aGh rows).all fun r=>decide (r.length≤1048576))
def aQr:aC0:=fun cs=>match cs with
 |[.sl r,.fn f []]=>some (decide (f=139)&&aOv r,[.int .i64 (aZo (aGh r))])
 |_=>none
def aOd:aC0:=fun cs=>match cs with
 |[.sl r,.fn f []]=>some (decide (f=139)&&aOv r,[.bool (aLo (aGh r))])
 |_=>none
def aUb:aC0:=fun cs=>match cs with
 |[.int .i64 v,.int .i64 s,.int .i64 b,.int .i64 l,.sl r]=>some (aOv r,[.str (aG0 v s b l (aGh r))])
 |_=>none
def aPm (r:List (List C)) (n i:Int):St:=st0 [(0,.l (.sl r)),(1,.l (.fn 139 [])),(7,aB0 n),(8,aB0 i)]
def bEa (v s b l:Int) (r:List (List C)) (t:List UInt8) (q:Nat) (o:List (List C)) (j:Int):St:={slots:=[(2,.l (.ptr 0 0)),(5,.l (.ptr 1 0)),(6,.l (.ref 2 0 q)),(35,.l (.sl r)),(36,aB0 r.length),(37,aB0 j)],heap:=[(0,.box [.i .i64 v,.i .i64 s,.i .i64 b,.i .i64 l]),(1,.bld 144 5 (some 3)),(2,.arr 1 o),(3,.own 5 t)],next:=4,pins:=[]}
def bNj:Env:=mkE [] []
def aPv:Env:=mkE [(2,[0,1,7,8])] [(139,(sg [pS] [rB]),aM5)]
def bAf:Env:=mkE [] [(133,(sg [bEf,pF] [rI]),aQr),(133,(sg [pSl 9,pF] [rI]),aQs)]
def bEd:Env:=mkB [(7,[2,5,6,35,36,37])] [(97,(sg [pI] [rB]),aCg),(137,(sg [aEb] [rB]),aDh),(140,(sg [aEb] [rS]),aD9),(141,(sg [pI,pI,pS] [rS]),aGe),(142,(⟨[aEb,bIn,pI],[rS],true⟩),aW7),(139,(sg [pS] [rB]),aM5),(138,(sg [bEf,pF] [rB]),aOd)]
end
theorem aYq (H:List Pt→Nat→St→T (List C)) (s:Int) (o:List (List C)):(aAe aK4 aAb {params:=[pI,bIn],results:=[bUa],nested:=true} Tryz.f185 H [C.int .i64 s,C.sl o]).eval=((.ask (decide (s<(1:Int))) (.ret [C.sl []]) (H [Pt.r,Pt.r,Pt.r,Pt.l,Pt.r,Pt.b] 9223372036854775808 (aJy (s) (o) (0) ([]) ((0:Int))))):T (List C)).eval:=aAd (by kernel_rfl)
theorem aKf (H:List Pt→Nat→St→T (List C)) (s:Int) (o:List (List C)) (n:Nat) (r:List (List C)) (j:Int) (k:Nat):(aB3 aK4 aAb {params:=[pI,bIn],results:=[bUa],nested:=true} Tryz.f185 H [Pt.r,Pt.r,Pt.r,Pt.l,Pt.r,Pt.b] k (aJy s o n r j)).eval=((.ask (decide (j<(↑o.length:Int))) (.must (decide ((0:Int)≤j)&&decide (j<(↑o.length:Int))&&decide ((o.getD j.toNat []).length=1)) (.must (decide (0<(o.getD j.toNat []).length)&&C.is (K.int .i64) ((o.getD j.toNat []).getD 0 (C.fn 0 []))&&true) (.must (decide (n=r.length)&&aBg (r.length+1) 16&&(decide ((Nat.add 1 0).succ=2)&&true)) (.ask (decide (IntKind.i64.wrap ((↑o.length:Int)-j)<s)) (.must (decide (r.length+1=(r.append [[C.int .i64 j,C.int .i64 ((o.getD j.toNat []).getD 0 (C.fn 0 [])).toInt]]).length)&&(true||(r.append [[C.int .i64 j,C.int .i64 ((o.getD j.toNat []).getD 0 (C.fn 0 [])).toInt]]).all fun r=>r.all C.flat)&&true&&true&&true) (.ret [C.sl (r.append [[C.int .i64 j,C.int .i64 ((o.getD j.toNat []).getD 0 (C.fn 0 [])).toInt]])])) (H [Pt.r,Pt.r,Pt.r,Pt.l,Pt.r,Pt.b] k (aJy (s) (o) (r.length+1) (r.append [[C.int .i64 j,C.int .i64 ((o.getD j.toNat []).getD 0 (C.fn 0 [])).toInt]]) (IntKind.i64.wrap (j+s)))))))) (.must (decide (n=r.length)&&(true||r.all fun r=>r.all C.flat)&&true&&true&&true) (.ret [C.sl r]))):T (List C)).eval:=aAd (by kernel_rfl)
theorem bLe (H:List Pt→Nat→St→T (List C)) (a:Int) (b:Int):(aAe bNr aAb (sg [pI,pI] [rS]) Tryz.f201 H [C.int .i64 a,C.int .i64 b]).eval=((.ask (decide (a<b)) (.ret [C.str []]) (.ask (decide ((1000000000:Int)<IntKind.u64.wrap (IntKind.u64.wrap a-IntKind.u64.wrap b))) (.ret [C.str []]) (.ret [C.str (aAr (IntKind.i64.wrap (a-b)))]))):T (List C)).eval:=aAd (by kernel_rfl)
theorem aSr (H:List Pt→Nat→St→T (List C)) (r:List (List C)):(aAe aGx (bX9 bXe) {params:=[bUb],results:=[rS],nested:=true} Tryz.f184 H [C.sl r]).eval=((.must (decide (0+(aAr (↑r.length:Int)).length≤140737488355328)&&decide (0<0+(aAr (↑r.length:Int)).length)) (H [Pt.r,Pt.r,Pt.r,Pt.r,Pt.l,Pt.r,Pt.b] 9223372036854775808 (aGv (r) ([]++aAr (↑r.length:Int)) ((0:Int)) ((0:Int)) ((0:Int))))):T (List C)).eval:=aAd (by kernel_rfl)
theorem aHz (H:List Pt→Nat→St→T (List C)) (r:List (List C)) (t:List UInt8) (a:Int) (b:Int) (j:Int) (k:Nat):(aB3 aGx (bX9 bXe) {params:=[bUb],results:=[rS],nested:=true} Tryz.f184 H [Pt.r,Pt.r,Pt.r,Pt.r,Pt.l,Pt.r,Pt.b] k (aGv r t a b j)).eval=((.ask (decide (j<(↑r.length:Int))) (.must (decide ((0:Int)≤j)&&decide (j<(↑r.length:Int))&&decide ((r.getD j.toNat []).length=2)) (.must (decide (0<(r.getD j.toNat []).length)&&C.is (K.int .i64) ((r.getD j.toNat []).getD 0 (C.fn 0 []))&&(decide (0+1<(r.getD j.toNat []).length)&&C.is (K.int .i64) ((r.getD j.toNat []).getD (0+1) (C.fn 0 []))&&true)) (.must (inB ((r.getD j.toNat []).getD 0 (C.fn 0 [])).toInt (-9223372036854775808) 9223372036854775807&&inB a (-9223372036854775808) 9223372036854775807) (.must (inB ((r.getD j.toNat []).getD (0+1) (C.fn 0 [])).toInt (-9223372036854775808) 9223372036854775807&&inB b (-9223372036854775808) 9223372036854775807) (.ask (aAr (aGi ((r.getD j.toNat []).getD 0 (C.fn 0 [])).toInt a)==[]) (.ret [C.str []]) (.ask (aAr (aGi ((r.getD j.toNat []).getD (0+1) (C.fn 0 [])).toInt b)==[]) (.ret [C.str []]) (.must (decide ((aAr (aGi ((r.getD j.toNat []).getD 0 (C.fn 0 [])).toInt a)).length+(aAr (aGi ((r.getD j.toNat []).getD (0+1) (C.fn 0 [])).toInt b)).length≤9223372036854775807)) (.must (decide (t.length+(aAr (aGi ((r.getD j.toNat []).getD 0 (C.fn 0 [])).toInt a)++aAr (aGi ((r.getD j.toNat []).getD (0+1) (C.fn 0 [])).toInt b)).length≤140737488355328)&&decide (0<t.length+(aAr (aGi ((r.getD j.toNat []).getD 0 (C.fn 0 [])).toInt a)++aAr (aGi ((r.getD j.toNat []).getD (0+1) (C.fn 0 [])).toInt b)).length)) (H [Pt.r,Pt.r,Pt.r,Pt.r,Pt.l,Pt.r,Pt.b] k (aGv (r) (t++(aAr (aGi ((r.getD j.toNat []).getD 0 (C.fn 0 [])).toInt a)++aAr (aGi ((r.getD j.toNat []).getD (0+1) (C.fn 0 [])).toInt b))) (((r.getD j.toNat []).getD 0 (C.fn 0 [])).toInt) (((r.getD j.toNat []).getD (0+1) (C.fn 0 [])).toInt) (IntKind.i64.wrap (j+(1:Int))))))))))))) (.must (decide ¬5=0&&decide (0<t.length)) (.ret [C.str t]))):T (List C)).eval:=aAd (by kernel_rfl)
theorem bCn (H:List Pt→Nat→St→T (List C)) (a:Int) (b:Int) (c:Int) (d:Int):(aAe aN0 aAb (sg [pI,pI,pI,pI] [rS]) Tryz.f186 H [C.int .i64 a,C.int .i64 b,C.int .i64 c,C.int .i64 d]).eval=((H [Pt.r,Pt.r,Pt.l,Pt.r,Pt.b] 9223372036854775808 (aMk ([]) (a) (b) (c) (d) ((0:Int)))):T (List C)).eval:=aAd (by kernel_rfl)
theorem aLb (H:List Pt→Nat→St→T (List C)) (t:List UInt8) (a:Int) (b:Int) (c:Int) (d:Int) (j:Int) (k:Nat):(aB3 aN0 aAb (sg [pI,pI,pI,pI] [rS]) Tryz.f186 H [Pt.r,Pt.r,Pt.l,Pt.r,Pt.b] k (aMk t a b c d j)).eval=((.ask (decide (j<(↑(4:Nat):Int))) (.must (decide ((0:Int)≤j)&&decide (j<(↑(4:Nat):Int))) (.must (decide (0+j.toNat<(((Nat.add 1 0).succ.add 0).succ.add 0).succ)&&(decide (0<([[C.int .i64 a],[C.int .i64 b],[C.int .i64 c],[C.int .i64 d]].getD (0+j.toNat) []).length)&&C.is (K.int .i64) (([[C.int .i64 a],[C.int .i64 b],[C.int .i64 c],[C.int .i64 d]].getD (0+j.toNat) []).getD 0 (C.fn 0 []))&&true)) (.must (decide ((-9223372036854775808:Int)≤(([[C.int .i64 a],[C.int .i64 b],[C.int .i64 c],[C.int .i64 d]].getD (0+j.toNat) []).getD 0 (C.fn 0 [])).toInt)&&decide ((([[C.int .i64 a],[C.int .i64 b],[C.int .i64 c],[C.int .i64 d]].getD (0+j.toNat) []).getD 0 (C.fn 0 [])).toInt≤(9223372036854775807:Int))) (.ask (aAg (([[C.int .i64 a],[C.int .i64 b],[C.int .i64 c],[C.int .i64 d]].getD (0+j.toNat) []).getD 0 (C.fn 0 [])).toInt 4==[]) (.ret [C.str []]) (.must (decide (t.length+(aAg (([[C.int .i64 a],[C.int .i64 b],[C.int .i64 c],[C.int .i64 d]].getD (0+j.toNat) []).getD 0 (C.fn 0 [])).toInt 4).length≤9223372036854775807)) (H [Pt.r,Pt.r,Pt.l,Pt.r,Pt.b] k (aMk (t++aAg (([[C.int .i64 a],[C.int .i64 b],[C.int .i64 c],[C.int .i64 d]].getD (0+j.toNat) []).getD 0 (C.fn 0 [])).toInt 4) (a) (b) (c) (d) (IntKind.i64.wrap (j+(1:Int)))))))))) (.must (decide (t.length+4≤9223372036854775807)) (.ret [C.str (t++[(73:UInt8),68,88,33])]))):T (List C)).eval:=aAd (by kernel_rfl)
theorem bPn (H:List Pt→Nat→St→T (List C)) (v:Int) (s:Int) (b:Int) (l:Int) (o:List (List C)) (e:Int):(aAe bU4 aAb {params:=[aEb,bIn,pI],results:=[rS],nested:=true} Tryz.f142 H [C.int .i64 v,C.int .i64 s,C.int .i64 b,C.int .i64 l,C.sl o,C.int .i64 e]).eval=((.ask (aCq v s b l) (.must (aAi [K.int .i64] o&&decide (o.length≤1048576)) (.must ((true&&(List.map ePl (aAp s (aCp o))).all fun row=>decide (row.length=2))&&true&&true&&true) (.must (aAi [K.int .i64,K.int .i64] (List.take (List.map ePl (aAp s (aCp o))).length (List.map ePl (aAp s (aCp o))))&&(decide ((List.take (List.map ePl (aAp s (aCp o))).length (List.map ePl (aAp s (aCp o)))).length≤1048576)&&(pls (List.take (List.map ePl (aAp s (aCp o))).length (List.map ePl (aAp s (aCp o))))).all bX6)) (.must (inB e (-9223372036854775808) 9223372036854775807&&(inB (↑o.length:Int) (-9223372036854775808) 9223372036854775807&&(inB s (-9223372036854775808) 9223372036854775807&&inB 0 (-9223372036854775808) 9223372036854775807))) (.ask (aAx v (IntKind.i64.wrap (b+(↑o.length:Int)))==[]) (.ret [C.str []]) (.ask (aAw (pls (List.take (List.map ePl (aAp s (aCp o))).length (List.map ePl (aAp s (aCp o)))))==[]) (.ret [C.str []]) (.ask (aBc e (↑o.length:Int) s 0==[]) (.ret [C.str []]) (.must (decide ((aAx v (IntKind.i64.wrap (b+(↑o.length:Int)))).length+(aAw (pls (List.take (List.map ePl (aAp s (aCp o))).length (List.map ePl (aAp s (aCp o)))))).length≤9223372036854775807)) (.must (decide ((0:Int)≤(12:Int))&&decide ((12:Int)≤(↑(aBc e (↑o.length:Int) s 0).length:Int))) (.must (decide ((aAx v (IntKind.i64.wrap (b+(↑o.length:Int)))++aAw (pls (List.take (List.map ePl (aAp s (aCp o))).length (List.map ePl (aAp s (aCp o)))))).length+(List.drop 0 (List.take (Int.toNat 12) (aBc e (↑o.length:Int) s 0))).length≤9223372036854775807)) (.must (decide ((aAx v (IntKind.i64.wrap (b+(↑o.length:Int)))++aAw (pls (List.take (List.map ePl (aAp s (aCp o))).length (List.map ePl (aAp s (aCp o)))))++List.drop 0 (List.take (Int.toNat 12) (aBc e (↑o.length:Int) s 0))).length≤281474976710656)) (.must (decide ((aAx v (IntKind.i64.wrap (b+(↑o.length:Int)))).length+(aAw (pls (List.take (List.map ePl (aAp s (aCp o))).length (List.map ePl (aAp s (aCp o)))))).length≤9223372036854775807)) (.must (inB e (-9223372036854775808) 9223372036854775807&&(inB (↑o.length:Int) (-9223372036854775808) 9223372036854775807&&(inB s (-9223372036854775808) 9223372036854775807&&inB (Int.ofNat (aAs 0 (aAx v (IntKind.i64.wrap (b+(↑o.length:Int)))++aAw (pls (List.take (List.map ePl (aAp s (aCp o))).length (List.map ePl (aAp s (aCp o)))))++List.drop 0 (List.take (Int.toNat 12) (aBc e (↑o.length:Int) s 0))))) (-9223372036854775808:Int) (9223372036854775807:Int)))) (.must (decide ((aAx v (IntKind.i64.wrap (b+(↑o.length:Int)))++aAw (pls (List.take (List.map ePl (aAp s (aCp o))).length (List.map ePl (aAp s (aCp o)))))).length+(aBc e (↑o.length:Int) s (Int.ofNat (aAs 0 (aAx v (IntKind.i64.wrap (b+(↑o.length:Int)))++aAw (pls (List.take (List.map ePl (aAp s (aCp o))).length (List.map ePl (aAp s (aCp o)))))++List.drop 0 (List.take (Int.toNat 12) (aBc e (↑o.length:Int) s 0)))))).length≤9223372036854775807)) (.ret [C.str (aAx v (IntKind.i64.wrap (b+(↑o.length:Int)))++aAw (pls (List.take (List.map ePl (aAp s (aCp o))).length (List.map ePl (aAp s (aCp o)))))++aBc e (↑o.length:Int) s (Int.ofNat (aAs 0 (aAx v (IntKind.i64.wrap (b+(↑o.length:Int)))++aAw (pls (List.take (List.map ePl (aAp s (aCp o))).length (List.map ePl (aAp s (aCp o)))))++List.drop 0 (List.take (Int.toNat 12) (aBc e (↑o.length:Int) s 0))))))]))))))))))))))) (.ret [C.str []])):T (List C)).eval:=aAd (by kernel_rfl)
theorem bK7 (H:List Pt→Nat→St→T (List C)) (r:List UInt8):(aAe bNj aAb (sg [pS] [rB]) Tryz.f139 H [C.str r]).eval=((.ask (decide ((60:Int)<(↑r.length:Int))) (.ret [C.bool true]) (.ret [C.bool false])):T (List C)).eval:=aAd (by kernel_rfl)
theorem bGn (H:List Pt→Nat→St→T (List C)) (r:List (List C)):(aAe aPv aAb (sg [bEf,pF] [rI]) Tryz.f133 H [C.sl r,C.fn 139 []]).eval=((H [Pt.r,Pt.l,Pt.r,Pt.b] 9223372036854775808 (aPm (r) ((↑r.length:Int)) ((0:Int)))):T (List C)).eval:=aAd (by kernel_rfl)
theorem bE5 (H:List Pt→Nat→St→T (List C)) (r:List (List C)):(aAe bAf aAb (sg [bEf,pF] [rB]) Tryz.f138 H [C.sl r,C.fn 139 []]).eval=((.must (decide (139=139)&&aOv r) (.ask (decide ((0:Int)≤aZo (aGh r))) (.ret [C.bool true]) (.ret [C.bool false]))):T (List C)).eval:=aAd (by kernel_rfl)
theorem bPi (H:List Pt→Nat→St→T (List C)) (v:Int) (s:Int) (b:Int) (l:Int) (r:List (List C)):(aAe bEd (bX9 bXe) {params:=[aEb,bEf],results:=[rS],nested:=true} Tryz.f107 H [C.int .i64 v,C.int .i64 s,C.int .i64 b,C.int .i64 l,C.sl r]).eval=((.ask (aCq v s b l) (.ask (decide ((1000:Int)<(↑r.length:Int))) (.ret [C.str []]) (.ask (inB (IntKind.i64.wrap (b+(↑r.length:Int))) (0:Int) (1000000000:Int)) (.must (decide (139=139)&&aOv r) (.ask (aLo (aGh r)) (.ret [C.str []]) (.must (decide (0+(aB6 v s b l).length≤140737488355328)&&decide (0<0+(aB6 v s b l).length)) (H [Pt.r,Pt.r,Pt.r,Pt.r,Pt.r,Pt.l,Pt.r,Pt.b] 9223372036854775808 (bEa (v) (s) (b) (l) (r) ([]++aB6 v s b l) (0) ([]) ((0:Int))))))) (.ret [C.str []]))) (.ret [C.str []])):T (List C)).eval:=aAd (by kernel_rfl)
theorem aYf (H:List Pt→Nat→St→T (List C)) (r:List (List C)) (n:Int) (i:Int) (k:Nat):(aB3 aPv aAb (sg [bEf,pF] [rI]) Tryz.f133 H [Pt.r,Pt.l,Pt.r,Pt.b] k (aPm r n i)).eval=((.ask (decide (i<n)) (.must (decide ((0:Int)≤i)&&decide (i<(↑r.length:Int))&&decide ((r.getD i.toNat []).length=1)) (.must (decide (0<(r.getD i.toNat []).length)&&C.is K.str ((r.getD i.toNat []).getD 0 (C.fn 0 []))&&true) (.must (decide (((r.getD i.toNat []).getD 0 (C.fn 0 [])).toStr.length≤281474976710656)) (.ask (decide (60<((r.getD i.toNat []).getD 0 (C.fn 0 [])).toStr.length)) (.ret [C.int .i64 i]) (H [Pt.r,Pt.l,Pt.r,Pt.b] k (aPm (r) (n) (IntKind.i64.wrap (i+(1:Int))))))))) (.ret [C.int .i64 (-1)])):T (List C)).eval:=aAd (by kernel_rfl)
theorem aRt (H:List Pt→Nat→St→T (List C)) (v:Int) (s:Int) (b:Int) (l:Int) (r:List (List C)) (t:List UInt8) (q:Nat) (o:List (List C)) (j:Int) (k:Nat):(aB3 bEd (bX9 bXe) {params:=[aEb,bEf],results:=[rS],nested:=true} Tryz.f107 H [Pt.r,Pt.r,Pt.r,Pt.r,Pt.r,Pt.l,Pt.r,Pt.b] k (bEa v s b l r t q o j)).eval=((.ask (decide (j<(↑r.length:Int))) (.must (decide ((0:Int)≤j)&&decide (j<(↑r.length:Int))&&decide ((r.getD j.toNat []).length=1)) (.must (decide (0<(r.getD j.toNat []).length)&&C.is K.str ((r.getD j.toNat []).getD 0 (C.fn 0 []))&&true) (.must (decide (q=o.length)&&aBg (o.length+1) 8&&(decide (1=1)&&true)) (.must (decide (((r.getD j.toNat []).getD 0 (C.fn 0 [])).toStr.length≤281474976710656)) (.must (decide (t.length+(aAc v (IntKind.i64.wrap (b+j)) ((r.getD j.toNat []).getD 0 (C.fn 0 [])).toStr).length≤140737488355328)&&decide (0<t.length+(aAc v (IntKind.i64.wrap (b+j)) ((r.getD j.toNat []).getD 0 (C.fn 0 [])).toStr).length)) (H [Pt.r,Pt.r,Pt.r,Pt.r,Pt.r,Pt.l,Pt.r,Pt.b] k (bEa (v) (s) (b) (l) (r) (t++aAc v (IntKind.i64.wrap (b+j)) ((r.getD j.toNat []).getD 0 (C.fn 0 [])).toStr) (o.length+1) (o.append [[C.int .i64 (↑t.length:Int)]]) (IntKind.i64.wrap (j+(1:Int)))))))))) (.must (decide ¬5=0&&decide (0<t.length)) (.must (aAi [K.int .i64] (List.take q o)&&(decide ((List.take q o).length≤1048576)&&(inB (↑t.length:Int) (-9223372036854775808) 9223372036854775807&&(aCp (List.take q o)).all okI))) (.must (decide (t.length+(aBp v s b l (aCp (List.take q o)) (↑t.length:Int)).length≤9223372036854775807)) (.ret [C.str (t++aBp v s b l (aCp (List.take q o)) (↑t.length:Int))]))))):T (List C)).eval:=aAd (by kernel_rfl)
end Go.Proofs.YtfljomghcbaepaaGreatDoor.V
