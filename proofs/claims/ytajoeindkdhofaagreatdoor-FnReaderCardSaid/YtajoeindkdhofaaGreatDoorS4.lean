/- Functions of the given program and of its reference: what each returns, as an equation over data; by the interpreter. -/
import Derived.Test.YtajoeindkdhofaaGreatDoorS3
import Derived.Test.YtajoeindkdhofaaGreatDoorProg
import Derived.KernelRfl
import Derived.Lib.Builder
import Derived.Lib.AppendStr
import Derived.Lib.UnsafeStr
import Derived.Lib.Walk
import Derived.WalkKit
import Derived.RegionTactic
set_option linter.unusedVariables false
set_option linter.unusedSimpArgs false
set_option linter.unusedSectionVars false
set_option linter.deprecated false
namespace Go.Proofs.YtajoeindkdhofaaGreatDoor.V
theorem aN3 (s:Int) (os:List Int) (i:Nat) (hs:1≤s) (hm:(i:Int) % s=0):∀ d:Nat,(d:Int)<s→aBt s os (i+1+d)=aBt s os (i+1)
 |0,_=>rfl
 |d+1,h=>by
  show aBt s os (i+1+d+1)=_
  rw[aBt,aN3 s os i hs hm d (by omega)]
  have:((i+1+d:Nat):Int) % s=(d:Int)+1:=by
   have e:((i+1+d:Nat):Int)=(i:Int)+((d:Int)+1):=by omega
   rw[e,Int.add_emod,hm,Int.zero_add,Int.emod_emod_of_dvd _ (Int.dvd_refl s),Int.emod_eq_of_lt (by omega) (by omega)]
  rw[this,if_neg (by omega),List.append_nil]
theorem bB4 (s:Int) (os:List Int) (hs:1≤s) (hl:os.length≤1048576):∀ (f n i:Nat),os.length-i≤f→i≤os.length→(i:Int) % s=0→f<n →
  (aBr aM7 aAc (⟨[pI,bLo],[bYf],true⟩) Tryz.f133 [.r,.r,.r,.l,.r,.b] n (aM4 s (os.map aIu) (aBt s os i).length ((aBt s os i).map ePl) i)).eval=some [.sl ((aBt s os os.length).map ePl)]:=by
 intro f
 induction f with
 |zero =>
  intro n i h1 h2 h3 h4
  obtain⟨n,rfl⟩:∃ q,n=q+1:=⟨n-1,by omega⟩
  rw[aAv _ _ _ _ _ _ _ (by kernel_rfl),aMe]
  have c:¬((i:Int)<(os.length:Int)):=by omega
  have ei:i=os.length:=by omega
  simp only[List.length_map,aA4,aA1,aA3,decide_eq_true_eq,c,if_false,decide_true,Bool.true_or,Bool.and_self,if_true]
  rw[ei]
 |succ f ih =>
  intro n i h1 h2 h3 h4
  obtain⟨n,rfl⟩:∃ q,n=q+1:=⟨n-1,by omega⟩
  rw[aAv _ _ _ _ _ _ _ (by kernel_rfl),aMe]
  by_cases c:(i:Int)<(os.length:Int)
  ·have hi:i<os.length:=by omega
   have z:(0:Int)≤(i:Int):=by omega
   have g:=aBc aIu os 0 i hi
   have pl:=aJo s os i
   have ro:aBj ((aBt s os i).length+1) 16=true:=by simp only[aBj,decide_eq_true_eq];omega
   have w:IntKind.i64.wrap ((os.length:Int)-(i:Int))=(os.length:Int)-i:=by rw[aAh]<;>omega
   have ep:aBt s os (i+1)=aBt s os i++[((i:Int),os.getD i 0)]:=by simp only[aBt,h3,if_true]
   simp only[List.length_map,aA4,aA1,aA3,decide_eq_true_eq,c,z,Int.toNat_natCast,g,w,ro,hi,if_true,decide_true,Bool.and_true,Bool.true_and,Bool.and_self,List.length_cons,List.length_nil,Nat.zero_add,Nat.zero_lt_one,C.is,beq_self_eq_true,List.getD_cons_zero,C.toInt]
   by_cases hb:(os.length:Int)-i<s
   ·have e1:=aN3 s os i hs h3 (os.length-(i+1)) (by omega)
    rw[show i+1+(os.length-(i+1))=os.length by omega,ep]at e1
    simp only[hb,if_true]
    rw[e1]
    simp[ePl]
   ·obtain⟨k,rfl⟩:∃ k:Nat,s=k:=⟨s.toNat,by omega⟩
    have e1:=aN3 k os i hs h3 (k-1) (by omega)
    rw[show i+1+(k-1)=i+k by omega,ep]at e1
    have w2:IntKind.i64.wrap ((i:Int)+(k:Int))=((i+k:Nat):Int):=by rw[aAh]<;>omega
    have e:=ih n (i+k) (by omega) (by omega) (by rw[show ((i+k:Nat):Int)=(i:Int)+k by omega,Int.add_emod_right];exact h3) (by omega)
    rw[e1,List.map_append,List.length_append]at e
    simp only[hb,if_false,w2]
    exact e
  ·have ei:i=os.length:=by omega
   simp only[List.length_map,aA4,aA1,aA3,decide_eq_true_eq,c,if_false,decide_true,Bool.true_or,Bool.and_self,if_true]
   rw[ei]
theorem bNw:aAa Tryz.prog aM7:=aA8 (by simp[])
theorem aYe:aAx Tryz.prog 133 (⟨[pI,bLo],[bYf],true⟩) aG4:=aA6 bNw aAb Tryz.func133 (by kernel_rfl) fun cs outs hk h=>by
 unfold aG4 at h
 split at h
 ·simp only[Option.some.injEq,Prod.mk.injEq,Bool.and_eq_true,decide_eq_true_eq]at h
  obtain⟨⟨h1,h2⟩,rfl⟩:=h
  rename_i s o
  have hr:=aMx h1
  generalize aDo o=os at hr ⊢
  subst hr
  rw[List.length_map]at h2
  rw[aAd,bB3]
  by_cases hs:s<1
  ·have ep:aAy s os=[]:=by unfold aAy;rw[if_pos hs]
   rw[ep]
   simp only[aA4,aA3,decide_eq_true_eq,hs,if_true]
   rfl
  ·have e:=bB4 s os (by omega) h2 os.length 9223372036854775808 0 (by omega) (by omega) (by simp) (by omega)
   have ep:aAy s os=aBt s os os.length:=by unfold aAy;rw[if_neg hs]
   rw[ep]
   simp only[aA4,decide_eq_true_eq,hs,if_false]
   exact e
 ·cases h
theorem bLt (x:Int):IntKind.u64.wrap x=x % 18446744073709551616:=by
 simp only[IntKind.wrap,IntKind.bits,IntKind.signed]
 first
  |rfl
  |simp
theorem aPr (n:Int) (h:¬(0≤n∧n≤1000000000)):aB4 n=[]:=by
 unfold aB4
 rw[if_neg (fun hh=>h ((aBi _ _ _).1 hh))]
theorem bQs (x:Int) (h1:9223372036854775807<x) (h2:x<18446744073709551616):IntKind.i64.wrap x<0:=by
 simp only[IntKind.wrap,IntKind.bits,IntKind.signed]
 first
  |(split<;>omega)
  |(simp;split<;>omega)
theorem cA4:aAa Tryz.prog bQp:=aA8 (by simp[aKd])
theorem bK1:aAx Tryz.prog 153 (sg [pI,pI] [rS]) aZ8:=aA6 cA4 aAb Tryz.func153 (by kernel_rfl) fun cs outs hk h=>by
 unfold aZ8 at h
 split at h
 ·simp only[Option.some.injEq,Prod.mk.injEq,Bool.and_eq_true,aBi]at h
  obtain⟨⟨h1,h2⟩,rfl⟩:=h
  rename_i a b
  rw[aAd,bO3]
  unfold aI2
  by_cases c:a<b
  ·simp only[aA4,aA3,decide_eq_true_eq,c,if_true,true_or]
   rw[aPr (-1) (by omega)]
  ·have eu:IntKind.u64.wrap (IntKind.u64.wrap a-IntKind.u64.wrap b)=a-b:=by
    rw[bLt,bLt,bLt]
    omega
   simp only[aA4,aA3,decide_eq_true_eq,c,if_false,eu,false_or]
   by_cases d:1000000000<a-b
   ·rw[if_pos d]
    by_cases e:a-b≤9223372036854775807
    ·have w:IntKind.i64.wrap (a-b)=a-b:=by rw[aAh]<;>omega
     rw[w,if_neg (by omega),aPr (a-b) (by omega)]
    ·rw[if_pos (bQs _ (by omega) (by omega)),aPr (-1) (by omega)]
   ·have w:IntKind.i64.wrap (a-b)=a-b:=by rw[aAh]<;>omega
    rw[if_neg d,w,if_neg (by omega)]
 ·cases h
theorem aVi (l:List Pl) (hl:l.length≤1048576) (ho:∀ p∈l,cB6 p=true):∀ (f n i:Nat) (q:Pl) (t:List UInt8),i+f=l.length→f<n→t.length≤5+10*i→0<t.length→cB6 q=true →
  (aBr aIm (cBa cBj) (⟨[bYg],[rS],true⟩) Tryz.f132 [.r,.r,.r,.r,.l,.r,.b] n (aIk (l.map ePl) t q.1 q.2 i)).eval=some [.str (match bIz q (l.drop i)with | some x=>t++x | none=>[])]:=by
 intro f
 induction f with
 |zero =>
  intro n i q t h1 h2 h3 h4 h5
  obtain⟨n,rfl⟩:∃ q,n=q+1:=⟨n-1,by omega⟩
  rw[aAv _ _ _ _ _ _ _ (by kernel_rfl),aJs]
  have c:¬((i:Int)<(l.length:Int)):=by omega
  have hd:l.drop i=[]:=List.drop_eq_nil_of_le (by omega)
  have n0:¬((5:TypeId)=0):=by decide
  simp only[List.length_map,aA4,aA1,aA3,decide_eq_true_eq,c,if_false,hd,bIz,List.append_nil,n0,not_false_eq_true,h4,decide_true,Bool.and_self,if_true]
 |succ f ih =>
  intro n i q t h1 h2 h3 h4 h5
  obtain⟨n,rfl⟩:∃ q,n=q+1:=⟨n-1,by omega⟩
  rw[aAv _ _ _ _ _ _ _ (by kernel_rfl),aJs]
  have hi:i<l.length:=by omega
  have c:(i:Int)<(l.length:Int):=by omega
  have z:(0:Int)≤(i:Int):=by omega
  have g:=aBc ePl l (0,0) i hi
  have hd:=aBx l i (0,0) hi
  have hm:l.getD i (0,0)∈l:=by rw[List.getD_eq_getElem?_getD,List.getElem?_eq_getElem hi];exact List.getElem_mem hi
  have hp:=ho _ hm
  generalize l.getD i (0,0)=p at g hd hp
  have w:IntKind.i64.wrap ((i:Int)+1)=((i+1:Nat):Int):=by rw[aAh]<;>omega
  have v1:=aD0 (aI2 p.1 q.1)
  have v2:=aD0 (aI2 p.2 q.2)
  have hp':=hp
  have h5':=h5
  unfold cB6 at hp' h5'
  simp only[Bool.and_eq_true]at hp' h5'
  have m1:(aB4 (aI2 p.1 q.1)).length+(aB4 (aI2 p.2 q.2)).length≤9223372036854775807:=by omega
  have m2:t.length+((aB4 (aI2 p.1 q.1)).length+(aB4 (aI2 p.2 q.2)).length)≤140737488355328:=by omega
  have m3:0<t.length+((aB4 (aI2 p.1 q.1)).length+(aB4 (aI2 p.2 q.2)).length):=by omega
  have e:=ih n (i+1) p (t++(aB4 (aI2 p.1 q.1)++aB4 (aI2 p.2 q.2))) (by omega) (by omega) (by simp only[List.length_append];omega) (by simp only[List.length_append];omega) hp
  rw[hd]
  simp only[List.length_map,aA4,aA1,aA3,decide_eq_true_eq,c,z,Int.toNat_natCast,g,w,if_true,decide_true,Bool.and_true,Bool.true_and,Bool.and_self,ePl,List.length_cons,List.length_nil,C.is,beq_self_eq_true,List.getD_cons_zero,List.getD_cons_succ,C.toInt,Nat.zero_add,Nat.reduceAdd,Nat.reduceLT,beq_iff_eq,List.length_append,m1,m2,m3,hp'.1,hp'.2,h5'.1,h5'.2,bIz]
  by_cases a1:aB4 (aI2 p.1 q.1)=[]
  ·simp only[a1,true_or,if_true]
  ·by_cases a2:aB4 (aI2 p.2 q.2)=[]
   ·simp only[a1,a2,or_true,if_true,if_false]
   ·simp only[a1,a2,or_self,if_false]
    refine e.trans ?_
    cases bIz p (l.drop (i+1))with
    |none=>rfl
    |some x=>simp only[Option.map_some,List.append_assoc]
theorem bQv (n:Nat) (h:n≤1000000000):0<(aB4 (n:Int)).length:=by
 unfold aB4
 rw[if_pos ((aBi _ _ _).2 ⟨by omega,by omega⟩)]
 unfold aD3
 split<;>simp
theorem bFh:aAa Tryz.prog aIm:=bJb (by simp[aKd,bK1])
theorem aTv:aAx Tryz.prog 132 (⟨[bYg],[rS],true⟩) aJ2:=aA6 bFh (bW1 bXp) Tryz.func132 (by kernel_rfl) fun cs outs hk h=>by
 unfold aJ2 at h
 split at h
 ·simp only[Option.some.injEq,Prod.mk.injEq,Bool.and_eq_true,decide_eq_true_eq,List.all_eq_true]at h
  obtain⟨⟨h1,h2,h3⟩,rfl⟩:=h
  rename_i r
  have hr:=bPc h1
  generalize pls r=l at hr h3 ⊢
  subst hr
  rw[List.length_map]at h2
  rw[aAd,aVh,List.length_map]
  have v1:=aD0 (l.length:Int)
  have v0:=bQv l.length (by omega)
  have e:=aVi l h2 h3 l.length 9223372036854775808 0 (0,0) (aB4 (l.length:Int)) (by omega) (by omega) (by omega) v0 (by decide)
  have m1:0+(aB4 (l.length:Int)).length≤140737488355328:=by omega
  have m2:0<0+(aB4 (l.length:Int)).length:=by omega
  rw[aA1,if_pos (by rw[decide_eq_true m1,decide_eq_true m2];rfl)]
  exact e
 ·cases h
theorem bF7 (a b c d:Int) (hx:∀ i,i<4→ -9223372036854775808≤([a,b,c,d]:List Int).getD i 0∧([a,b,c,d]:List Int).getD i 0≤9223372036854775807):∀ (f n i:Nat) (t:List UInt8),i+f=4→f<n→t.length≤8*i →
  (aBr aP3 aAc (sg [pI,pI,pI,pI] [rS]) Tryz.f134 [.r,.r,.l,.r,.b] n (aOp t a b c d i)).eval=some [.str (bQy (([a,b,c,d]:List Int).drop i) t)]:=by
 intro f
 induction f with
 |zero =>
  intro n i t h1 h2 h3
  obtain⟨n,rfl⟩:∃ q,n=q+1:=⟨n-1,by omega⟩
  rw[aAv _ _ _ _ _ _ _ (by kernel_rfl),aNb]
  have c4:¬((i:Int)<((4:Nat):Int)):=by omega
  have hd:([a,b,c,d]:List Int).drop i=[]:=List.drop_eq_nil_of_le (by simp;omega)
  have m:t.length+4≤9223372036854775807:=by omega
  simp only[aA4,aA1,aA3,decide_eq_true_eq,c4,if_false,hd,bQy,m,if_true]
 |succ f ih =>
  intro n i t h1 h2 h3
  obtain⟨n,rfl⟩:∃ q,n=q+1:=⟨n-1,by omega⟩
  rw[aAv _ _ _ _ _ _ _ (by kernel_rfl),aNb]
  have hi:i<4:=by omega
  have c4:(i:Int)<((4:Nat):Int):=by omega
  have z:(0:Int)≤(i:Int):=by omega
  have g:=bWx a b c d i hi
  have hd:=aBx ([a,b,c,d]:List Int) i 0 hi
  have hx1:=hx i hi
  generalize ([a,b,c,d]:List Int).getD i 0=x at g hd hx1
  have w:IntKind.i64.wrap ((i:Int)+1)=((i+1:Nat):Int):=by rw[aAh]<;>omega
  have v1:=aBn x 4
  have m1:t.length+(aAl x 4).length≤9223372036854775807:=by omega
  have e:=ih n (i+1) (t++aAl x 4) (by omega) (by omega) (by simp only[List.length_append];omega)
  have k1:i<(((Nat.add 1 0).succ.add 0).succ.add 0).succ:=by show i<4;omega
  rw[hd]
  simp only[aA4,aA1,aA3,decide_eq_true_eq,c4,z,Int.toNat_natCast,k1,g,w,if_true,decide_true,Bool.and_true,Bool.true_and,Bool.and_self,List.length_cons,List.length_nil,C.is,beq_self_eq_true,List.getD_cons_zero,C.toInt,Nat.zero_add,Nat.zero_lt_one,hx1.1,hx1.2,beq_iff_eq,m1,bQy]
  by_cases a1:aAl x 4=[]
  ·simp only[a1,if_true]
  ·simp only[a1,if_false]
   exact e
theorem bSv:aAa Tryz.prog aP3:=aA8 (by simp[aFs])
theorem bAw:aAx Tryz.prog 134 (sg [pI,pI,pI,pI] [rS]) aH5:=aA6 bSv aAb Tryz.func134 (by kernel_rfl) fun cs outs hk h=>by
 unfold aH5 at h
 split at h
 ·simp only[Option.some.injEq,Prod.mk.injEq,Bool.and_eq_true,aBi]at h
  obtain⟨⟨ha,hb,hc,hd⟩,rfl⟩:=h
  rename_i a b c d
  rw[aAd,bF6]
  exact bF7 a b c d (fun i hi=>by
   match i,hi with
   |0,_=>exact ha
   |1,_=>exact hb
   |2,_=>exact hc
   |3,_=>exact hd) 4 9223372036854775808 0 [] (by omega) (by omega) (by simp)
 ·cases h
theorem aUf (s:Int) (os:List Int):∀ (i:Nat) (p:Pl),p∈aBt s os i→∃ j,j<i∧p=((j:Int),os.getD j 0)
 |0,p,h=>by simp[aBt]at h
 |i+1,p,h=>by
  simp only[aBt,List.mem_append]at h
  rcases h with h | h
  ·obtain⟨j,h1,h2⟩:=aUf s os i p h
   exact⟨j,by omega,h2⟩
  ·split at h
   ·simp only[List.mem_singleton]at h
    exact⟨i,by omega,h⟩
   ·simp at h
theorem bSd (s:Int) (os:List Int) (p:Pl) (h:p∈aAy s os):∃ j,j<os.length∧p=((j:Int),os.getD j 0):=by
 unfold aAy at h
 split at h
 ·simp at h
 ·exact aUf s os _ p h
theorem bVk (s:Int) (os:List Int) (hl:os.length≤1048576) (h:os.all okI=true):(aAy s os).all cB6=true:=by
 simp only[List.all_eq_true]at h ⊢
 intro p hp
 obtain⟨j,hj,rfl⟩:=bSd s os p hp
 have hm:os.getD j 0∈os:=by rw[List.getD_eq_getElem?_getD,List.getElem?_eq_getElem hj];exact List.getElem_mem hj
 unfold cB6
 simp only[Bool.and_eq_true]
 exact⟨(aBi _ _ _).2 ⟨by omega,by omega⟩,h _ hm⟩
theorem cD9:aAa Tryz.prog bY8:=aA8 (by simp[aJr,aLs,aPm,aYe,aTv,bAw])
theorem bO2:aAx Tryz.prog 104 (⟨[aDr,bLo,pI],[rS],true⟩) aYm:=aA6 cD9 aAb Tryz.func104 (by kernel_rfl) fun cs outs hk h=>by
 unfold aYm at h
 split at h
 ·simp only[Option.some.injEq,Prod.mk.injEq,Bool.and_eq_true,decide_eq_true_eq,aBi]at h
  obtain⟨⟨h1,h2,h3,h4⟩,rfl⟩:=h
  rename_i v s b l o e
  have hr:=aMx h1
  rw[aAd,bT2]
  generalize aDo o=os at hr h4 ⊢
  subst hr
  simp only[List.length_map]at h1 h2 ⊢
  by_cases hh:aD7 v s b l=true
  ·obtain⟨hv,hs,hb,hl⟩:=(aDi v s b l).1 hh
   have w:IntKind.i64.wrap (b+(os.length:Int))=b+os.length:=by rw[aAh]<;>omega
   have pl:=aO3 s os
   have tk:List.take (aAy s os).length (List.map ePl (aAy s os))=List.map ePl (aAy s os):=List.take_of_length_le (by simp)
   have i1:inB e (-9223372036854775808) 9223372036854775807=true:=(aBi _ _ _).2 h3
   have i2:inB (os.length:Int) (-9223372036854775808) 9223372036854775807=true:=(aBi _ _ _).2 ⟨by omega,by omega⟩
   have i3:inB s (-9223372036854775808) 9223372036854775807=true:=(aBi _ _ _).2 ⟨by omega,by omega⟩
   have i4:inB 0 (-9223372036854775808) 9223372036854775807=true:=rfl
   have l1:=aLx v (b+os.length)
   have l2:=aKa (aAy s os)
   have p1:(aAy s os).length≤1048576:=by omega
   have p2:(aAy s os).all cB6=true:=bVk s os (by omega) h4
   simp only[aA4,aA1,aA3,hh,if_true,w,tk,p2,bVj,bW4,bBt,h1,h2,i1,i2,i3,i4,List.length_map,p1,decide_true,Bool.and_self,Bool.true_and,beq_iff_eq,List.drop_zero]
   unfold aC7
   by_cases c1:aBa v (b+os.length)=[]
   ·rw[if_pos c1,if_pos (.inr (.inl c1))]
   ·by_cases c2:aB9 (aAy s os)=[]
    ·rw[if_neg c1,if_pos c2,if_pos (.inr (.inr (.inl c2)))]
    ·by_cases c3:aBv e os.length s 0=[]
     ·rw[if_neg c1,if_neg c2,if_pos c3,if_pos (.inr (.inr (.inr c3)))]
     ·have t20:(aBv e os.length s 0).length=20:=by
       rcases aPt e os.length s 0 with h | h
       ·exact absurd h c3
       ·exact h
      have hn:¬(aD7 v s b l=false∨aBa v (b+os.length)=[]∨aB9 (aAy s os)=[]∨aBv e os.length s 0=[]):=by
       intro h
       rcases h with h | h | h | h
       ·rw[hh]at h;cases h
       ·exact c1 h
       ·exact c2 h
       ·exact c3 h
      rw[if_neg c1,if_neg c2,if_neg c3,if_neg hn]
      have t12:Int.toNat 12=12:=rfl
      have d0:List.drop 0 (List.take 12 (aBv e os.length s 0))=List.take 12 (aBv e os.length s 0):=rfl
      have cl:=aEn 0 (aBa v (b+os.length)++aB9 (aAy s os)++(aBv e os.length s 0).take 12) (by omega)
      have i5:∀ z:Nat,z<4294967296→inB (Int.ofNat z) (-9223372036854775808) 9223372036854775807=true:=fun z hz=>(aBi _ _ _).2 ⟨by show _≤(z:Int);omega,by show (z:Int)≤_;omega⟩
      have l3:=aT1 e os.length s (Int.ofNat (aB6 0 (aBa v (b+os.length)++aB9 (aAy s os)++(aBv e os.length s 0).take 12)))
      rw[t12]
      rw[if_pos (decide_eq_true (by omega)),if_pos (by rw[t20];rfl),if_pos (decide_eq_true (by simp only[List.length_append,List.length_take];omega)),if_pos (decide_eq_true (by simp only[List.length_append,List.length_take];omega)),if_pos (decide_eq_true (by omega)),if_pos (i5 _ cl),if_pos (decide_eq_true (by simp only[List.length_append];omega))]
      rfl
  ·have hh':aD7 v s b l=false:=by simpa using hh
   simp only[aA4,aA3,hh,Bool.false_eq_true,if_false]
   unfold aC7
   rw[if_pos (.inl hh')]
 ·cases h
theorem bZt:aAa Tryz.prog bQj:=aA8 (by simp[])
theorem aUh:aAx Tryz.prog 98 (sg [pS] [rB]) aO9:=aA6 bZt aAb Tryz.func98 (by kernel_rfl) fun cs outs hk h=>by
 unfold aO9 at h
 split at h
 ·simp only[Option.some.injEq,Prod.mk.injEq,decide_eq_true_eq]at h
  obtain⟨h1,rfl⟩:=h
  rename_i r
  rw[aAd,bNa]
  by_cases c:60<r.length
  ·have c':(60:Int)<(r.length:Int):=by omega
   simp only[aA4,aA3,decide_eq_true_eq,c,c',if_true,decide_true]
  ·have c':¬(60:Int)<(r.length:Int):=by omega
   simp only[aA4,aA3,decide_eq_true_eq,c,c',if_false,decide_false,Bool.false_eq_true]
 ·cases h
theorem aTi (rows:List (List C)):aRj rows=true↔aAp [.str] rows=true∧rows.length≤1048576∧∀ r∈aCp rows,r.length≤1048576:=by
 simp only[aRj,Bool.and_eq_true,decide_eq_true_eq,List.all_eq_true]
theorem bJm (l:List (List UInt8)) (hl:l.length≤1048576) (hr:∀ r∈l,r.length≤1048576):∀ (n i:Nat),i≤l.length→l.length<i+n →
  (aBr aSt aAc (sg [aUg,pF] [rI]) Tryz.f127 [.r,.l,.r,.b] n (aSi (l.map aAt) l.length i)).eval=some [.int .i64 (aDb aMd (l.drop i) i)]:=by
 intro n
 induction n with
 |zero=>intro i h1 h2;omega
 |succ n ih =>
  intro i h1 h2
  rw[aAv _ _ _ _ _ _ _ (by kernel_rfl),bAv]
  by_cases hi:i<l.length
  ·have g:=aBc aAt l [] i hi
   have w:IntKind.i64.wrap ((i:Int)+1)=((i+1:Nat):Int):=by rw[aAh]<;>omega
   have hz:(0:Int)≤i:=by omega
   have hi':(i:Int)<l.length:=by omega
   have hm:l.getD i []∈l:=by rw[List.getD_eq_getElem?_getD,List.getElem?_eq_getElem hi];exact List.getElem_mem hi
   have hx:=hr _ hm
   rw[aBx l i [] hi]
   generalize l.getD i []=y at g hx ⊢
   have hx':y.length≤281474976710656:=by omega
   simp only[aA1,aA4,aA3,if_true,decide_eq_true_eq,Bool.and_eq_true,w,hz,hi',Int.toNat_natCast,List.length_map,g,and_self,List.getD_cons_zero,List.getD_cons_succ,C.toStr,C.toInt,C.is,List.length_cons,List.length_nil,Nat.zero_add,Nat.reduceAdd,Nat.reduceLT,decide_true,beq_self_eq_true,hx',aDb,aMd]
   by_cases hy:60<y.length
   ·simp only[hy,if_true]
   ·simp only[hy,if_false]
    exact ih (i+1) (by omega) (by omega)
  ·have e:i=l.length:=by omega
   subst e
   have hi':¬((l.length:Int)<(l.length:Int)):=by omega
   simp only[aA4,aA3,decide_eq_true_eq,hi',if_false,List.drop_length,aDb]
theorem bWb:aAa Tryz.prog aSt:=aA8 (by simp[aUh])
theorem bF1:aAx Tryz.prog 127 (sg [aUg,pF] [rI]) aTm:=aA6 bWb aAb Tryz.func127 (by kernel_rfl) fun cs outs hk h=>by
 unfold aTm at h
 split at h
 ·simp only[Option.some.injEq,Prod.mk.injEq,Bool.and_eq_true,decide_eq_true_eq]at h
  obtain⟨⟨rfl,h1⟩,rfl⟩:=h
  rename_i rows
  obtain⟨h1,h2,h3⟩:=(aTi _).1 h1
  have hr:=aFq h1
  generalize aCp rows=l at hr h3 ⊢
  subst hr
  rw[List.length_map]at h2
  rw[aAd,bJl]
  have:=bJm l h2 h3 9223372036854775808 0 (by omega) (by omega)
  rw[show (l.length:Int)=((l.map aAt).length:Int) by rw[List.length_map]]at this
  exact this
 ·cases h
theorem bTh:aAa Tryz.prog bCx:=aA8 (by simp[bF1])
theorem bBd:aAx Tryz.prog 97 (sg [aUg,pF] [rB]) aQk:=aA6 bTh aAb Tryz.func97 (by kernel_rfl) fun cs outs hk h=>by
 unfold aQk at h
 split at h
 ·simp only[Option.some.injEq,Prod.mk.injEq,Bool.and_eq_true,decide_eq_true_eq]at h
  obtain⟨⟨rfl,h1⟩,rfl⟩:=h
  rename_i rows
  rw[aAd,bGh]
  unfold aNo
  simp only[aA4,aA1,aA3,h1,decide_true,Bool.and_self,if_true]
  by_cases c:0≤bC2 (aCp rows)<;>simp[c]
 ·cases h
theorem aTo:∀ (l:List (List UInt8)) (i:Nat),aDb aMd l i= -1↔∀ r∈l,¬60<r.length
 |[],i=>by simp[aDb]
 |x::l,i=>by
  simp only[aDb,List.mem_cons,forall_eq_or_imp]
  by_cases c:60<x.length
  ·have e:aMd x=true:=by unfold aMd;exact decide_eq_true c
   rw[if_pos e]
   exact⟨fun h=>by omega,fun h=>absurd c h.1⟩
  ·have e:¬aMd x=true:=by unfold aMd;simpa using c
   rw[if_neg e,aTo l (i+1)]
   exact⟨fun h=>⟨c,h⟩,fun h=>h.2⟩
theorem bTg {l:List (List UInt8)} (h:aNo l=false):∀ r∈l,r.length≤60:=by
 unfold aNo bC2 at h
 have h0:¬0≤aDb aMd l 0:=by simpa using h
 rcases aLr aMd l 0 with e | e
 ·intro r hr;have:=(aTo l 0).1 e r hr;omega
 ·omega
theorem bOo {l:List (List UInt8)} (h:aNo l=true):∃ r∈l,60<r.length:=by
 unfold aNo bC2 at h
 have h0:0≤aDb aMd l 0:=by simpa using h
 refine Classical.byContradiction fun hn=>?_
 have:aDb aMd l 0= -1:=(aTo l 0).2 fun r hr hc=>hn ⟨r,hr,hc⟩
 omega
theorem aWn (v b:Int):∀ (l:List (List UInt8)) (i:Int) (t:List UInt8) (os:List Int),(∃ r∈l,60<r.length)→aEc v b i l t os=none
 |[],i,t,os,h=>by obtain⟨r,hr,_⟩:=h;cases hr
 |x::l,i,t,os,h=>by
  simp only[aEc]
  by_cases c:60<x.length
  ·rw[if_pos c]
  ·rw[if_neg c]
   refine aWn v b l _ _ _ ?_
   obtain⟨r,hr,h60⟩:=h
   rcases List.mem_cons.1 hr with rfl | hr
   ·exact absurd h60 c
   ·exact⟨r,hr,h60⟩
theorem bSy (v s b l:Int) (rs:List (List UInt8)) (hb:0≤b∧b≤1000000000) (hl:rs.length≤1000) (h60:∀ r∈rs,r.length≤60):∀ (f n i:Nat) (t:List UInt8) (os:List Int),i+f=rs.length→f<n→os.length=i→t.length≤60+90*i→0<t.length→os.all okI=true →
  (aBr bGs (cBa cBj) (⟨[aDr,aUg],[rS],true⟩) Tryz.f69 [.r,.r,.r,.r,.r,.l,.r,.b] n (bGl v s b l (rs.map aAt) t os.length (os.map aIu) i)).eval=some [.str (match aEc v b i (rs.drop i) t os with | some (t',os')=>t'++aC7 v s b l os' t'.length | none=>[])]:=by
 intro f
 induction f with
 |zero =>
  intro n i t os h1 h2 h3 h4 h5 h6
  obtain⟨n,rfl⟩:∃ q,n=q+1:=⟨n-1,by omega⟩
  rw[aAv _ _ _ _ _ _ _ (by kernel_rfl),aUm]
  have c:¬((i:Int)<(rs.length:Int)):=by omega
  have hd:rs.drop i=[]:=List.drop_eq_nil_of_le (by omega)
  have tk:List.take os.length (os.map aIu)=os.map aIu:=List.take_of_length_le (by simp)
  have i1:inB (t.length:Int) (-9223372036854775808) 9223372036854775807=true:=(aBi _ _ _).2 ⟨by omega,by omega⟩
  have fl:=aQb v s b l os t.length
  have o1:os.length≤1048576:=by omega
  have m1:t.length+(aC7 v s b l os t.length).length≤9223372036854775807:=by omega
  have n0:¬((5:TypeId)=0):=by decide
  simp only[List.length_map,aA4,aA1,aA3,decide_eq_true_eq,c,if_false,hd,aEc,tk,bPp,aXk,i1,o1,m1,h5,h6,n0,not_false_eq_true,decide_true,Bool.and_self,if_true]
 |succ f ih =>
  intro n i t os h1 h2 h3 h4 h5 h6
  obtain⟨n,rfl⟩:∃ q,n=q+1:=⟨n-1,by omega⟩
  rw[aAv _ _ _ _ _ _ _ (by kernel_rfl),aUm]
  have hi:i<rs.length:=by omega
  have c:(i:Int)<(rs.length:Int):=by omega
  have z:(0:Int)≤(i:Int):=by omega
  have g:=aBc aAt rs [] i hi
  have hd:=aBx rs i [] hi
  have hm:rs.getD i []∈rs:=by rw[List.getD_eq_getElem?_getD,List.getElem?_eq_getElem hi];exact List.getElem_mem hi
  have hr:=h60 _ hm
  generalize rs.getD i []=r at g hd hr
  have w:IntKind.i64.wrap ((i:Int)+1)=((i+1:Nat):Int):=by rw[aAh]<;>omega
  have w2:IntKind.i64.wrap (b+(i:Int))=b+i:=by rw[aAh]<;>omega
  have fl:=aE9 v (b+i) r
  have ro1:aBj (os.length+1) 8=true:=by simp only[aBj,decide_eq_true_eq];omega
  have ap2:(os.map aIu).append [[C.int .i64 (t.length:Int)]]=(os++[(t.length:Int)]).map aIu:=by simp
  have m1:t.length+(aAf v (b+i) r).length≤140737488355328:=by omega
  have m2:0<t.length+(aAf v (b+i) r).length:=by omega
  have hr':r.length≤281474976710656:=by omega
  have h60':¬60<r.length:=by omega
  have e:=ih n (i+1) (t++aAf v (b+i) r) (os++[(t.length:Int)]) (by omega) (by omega) (by simp;omega) (by simp only[List.length_append];omega) (by simp only[List.length_append];omega) (by
   rw[List.all_append,h6]
   simp only[List.all_cons,List.all_nil,Bool.and_true,Bool.true_and]
   exact (aBi _ _ _).2 ⟨by omega,by omega⟩)
  rw[List.length_append]at e
  rw[hd]
  simp only[List.length_map,aA4,aA1,aA3,decide_eq_true_eq,c,z,Int.toNat_natCast,g,w,w2,if_true,decide_true,Bool.and_true,Bool.true_and,Bool.and_self,List.length_cons,List.length_nil,C.is,List.getD_cons_zero,C.toStr,Nat.zero_add,Nat.zero_lt_one,ro1,ap2,aEc,m1,m2,hr',h60',if_false]
  exact e
theorem cD8:aAa Tryz.prog bGs:=bJb (by simp[aD9,aLs,aNg,aMf,bO2,aUh,bBd])
theorem bNq:aAx Tryz.prog 69 (⟨[aDr,aUg],[rS],true⟩) aWm:=aA6 cD8 (bW1 bXp) Tryz.func69 (by kernel_rfl) fun cs outs hk h=>by
 unfold aWm at h
 split at h
 ·simp only[Option.some.injEq,Prod.mk.injEq]at h
  obtain⟨h0,rfl⟩:=h
  rename_i v s b l r
  obtain⟨h1,h2,h3⟩:=(aTi _).1 h0
  rw[aAd,bSx]
  have hr:=aFq h1
  generalize aCp r=rs at hr h3 ⊢
  subst hr
  rw[List.length_map]at h2 ⊢
  unfold aCk
  by_cases hh:aD7 v s b l=true
  ·obtain⟨hv,hs,hb,hl⟩:=(aDi v s b l).1 hh
   have w:IntKind.i64.wrap (b+(rs.length:Int))=b+rs.length:=by rw[aAh]<;>omega
   simp only[aA4,aA1,aA3,hh,if_true,w,decide_eq_true_eq,h0,decide_true,Bool.and_self]
   by_cases c1:(1000:Int)<(rs.length:Int)
   ·rw[if_pos c1,if_pos (.inr (.inl (by omega)))]
   ·by_cases c2:(1000000000:Int)<b+(rs.length:Int)
    ·have hi:¬inB (b+(rs.length:Int)) 0 1000000000=true:=fun h=>by have:=(aBi _ _ _).1 h;omega
     rw[if_neg c1,if_neg hi,if_pos (.inr (.inr c2))]
    ·have hi:inB (b+(rs.length:Int)) 0 1000000000=true:=(aBi _ _ _).2 ⟨by omega,by omega⟩
     have hn:¬(true=false∨1000<rs.length∨1000000000<b+(rs.length:Int)):=by
      intro h
      rcases h with h | h | h
      ·cases h
      ·omega
      ·omega
     rw[if_neg c1,if_pos hi,if_neg hn]
     have ht:0<(aBe v s b l).length:=by
      unfold aBe aGn
      rw[hh]
      simp
     have hle:=aJ8 v s b l
     cases ha:aNo rs with
     |true =>
      have:=aWn v b rs 0 (aBe v s b l) [] (bOo ha)
      simp only[if_true,this]
     |false =>
      have e:=bSy v s b l rs hb (by omega) (bTg ha) rs.length 9223372036854775808 0 (aBe v s b l) [] (by omega) (by omega) rfl (by omega) ht rfl
      have m1:0+(aBe v s b l).length≤140737488355328:=by omega
      have m2:0<0+(aBe v s b l).length:=by omega
      simp only[Bool.false_eq_true,if_false]
      rw[if_pos (by rw[decide_eq_true m1,decide_eq_true m2];rfl)]
      exact e
  ·have hh':aD7 v s b l=false:=by simpa using hh
   simp only[aA4,aA3,hh',Bool.false_eq_true,if_false]
   rw[if_pos (.inl trivial)]
 ·cases h
noncomputable section
def aBk (b:List UInt8):Bool:=aA9 b&&decide (aCk (rhV b) (rhS b) (rhB b) (rhL b) (aAn b)=b)
def aHk (b:List UInt8):List (List UInt8):=if aBk b then aAn b else[]
def aEk:aCf:=fun cs=>match cs with
 |[.str b]=>some (decide (b.length≤1048576),[.int .i64 (ifI (aBk b) (rhV b)),.int .i64 (ifI (aBk b) (rhS b)),.int .i64 (ifI (aBk b) (rhB b)),.int .i64 (ifI (aBk b) (rhL b)),.sl ((aHk b).map aAt),.bool (aBk b)])
 |_=>none
def aMp:aCf:=fun cs=>match cs with
 |[.str b]=>some (decide (b.length≤1048576),[.bool (aBk b)])
 |_=>none
abbrev cE0:RTy:=⟨false,[(.slice 9,false)]⟩
def aSn:Env:=mkE [] [(51,(sg [pS] [aN1]),aIe),(70,(⟨[aDr,aUg],[rS],true⟩),aR3)]
def aSu:Env:=mkE [] [(61,(sg [pS] [aN1]),aIe),(69,(⟨[aDr,aUg],[rS],true⟩),aWm)]
def aZn:Env:=mkE [] [(54,(⟨[pS],[aN2,cE0,rB],true⟩),aEk)]
def bH8 (b:List UInt8) (i:Int):Bool:=aBk b&&(decide (rhB b≤i)&&decide (i-rhB b<(aAn b).length))
def bDb (b:List UInt8) (i:Int):List UInt8:=if bH8 b i then (aAn b).getD (i-rhB b).toNat []else[]
def bDa:aCf:=fun cs=>match cs with
 |[.str b,.int .i64 i]=>some (decide (b.length≤1048576)&&inB i (-9223372036854775808) 9223372036854775807,[.str (bDb b i),.bool (bH8 b i)])
 |_=>none
def aSm:Env:=mkE [] [(55,(⟨[pS],[aN2,cE0,rB],true⟩),aEk)]
def cG6 (c:List Lk) (i:Int):Bool:=aFi c i&&aBk (aBw c i).2
def aJ5 (c:List Lk) (i:Int):Int:=if aFi c i then (if aBk (aBw c i).2 then 0 else 2)else 1
def aXy (c:List Lk) (i:Int):List UInt8:=if cG6 c i then (aAn (aBw c i).2).getD (i-rhB (aBw c i).2).toNat []else[]
def aHb:aCf:=fun cs=>match cs with
 |[.sl ns,.sl es,.sl _,.sl _,.int .i64 _,.int .i64 _,.int .i64 i]=>some (aJc ns es&&inB i (-9223372036854775808) 9223372036854775807,[.str (aXy (aAu (nds ns) (ens es)) i),.int .i64 (aJ5 (aAu (nds ns) (ens es)) i)])
 |_=>none
def bCq:Env:=mkE [] [(35,(sg [aB0,pI] [rS]),aG1),(19,(sg [aB0,pI] [rI]),aHd),(41,(sg [pS,pI] [rS,rB]),bDa)]
def bCv:Env:=mkE [] [(40,(sg [bZd,pI] [rI]),aNz),(38,(⟨[aB0,pI],[bSb,rB],true⟩),aOf),(39,(sg [pS] [rB]),aMp)]
end
set_option maxRecDepth 100000
theorem aV6 (H:List Pt→Nat→St→T (List C)) (b:List UInt8):(aAk aSn aAc {params:=[pS],results:=[aN2,cE0,rB],nested:=true} Tryz.f55 H [C.str b]).eval=(let s1:List UInt8:=(aCk (ifI (aA9 b) (rhV b)) (ifI (aA9 b) (rhS b)) (ifI (aA9 b) (rhB b)) (ifI (aA9 b) (rhL b)) (aCp (List.take (List.map aAt (aAn b)).length (List.map aAt (aAn b)))));(.must (decide (b.length≤1048576)) (.must (decide (0<1)&&true&&(decide (0<1)&&true&&(decide (0<1)&&true&&(decide (0<1)&&true&&(decide (0<1)&&true&&((true&&(List.map aAt (aAn b)).all fun row=>decide (row.length=1))&&((true&&(List.map aIu (aFn b)).all fun row=>decide (row.length=1))&&(decide (0<1)&&true&&(decide (0<1)&&true&&true))))))))&&true&&true) (.ask (aA9 b) (.ask (aKk b) (.must (aAp [K.str] (List.take (List.map aAt (aAn b)).length (List.map aAt (aAn b)))&&decide ((List.take (List.map aAt (aAn b)).length (List.map aAt (aAn b))).length≤1048576)) (.ask (!s1==b) (.ret [C.int .i64 0,C.int .i64 0,C.int .i64 0,C.int .i64 0,C.sl [],C.bool false]) (.ret [C.int .i64 (ifI (aA9 b) (rhV b)),C.int .i64 (ifI (aA9 b) (rhS b)),C.int .i64 (ifI (aA9 b) (rhB b)),C.int .i64 (ifI (aA9 b) (rhL b)),C.sl (List.take (List.map aAt (aAn b)).length (List.map aAt (aAn b))),C.bool true]))) (.ret [C.int .i64 0,C.int .i64 0,C.int .i64 0,C.int .i64 0,C.sl [],C.bool false])) (.ret [C.int .i64 0,C.int .i64 0,C.int .i64 0,C.int .i64 0,C.sl [],C.bool false])))):T (List C)).eval:=aAj (by kernel_rfl)
theorem aVf (H:List Pt→Nat→St→T (List C)) (b:List UInt8):(aAk aSu aAc {params:=[pS],results:=[aN2,cE0,rB],nested:=true} Tryz.f54 H [C.str b]).eval=(let s1:List UInt8:=(aCk (ifI (aA9 b) (rhV b)) (ifI (aA9 b) (rhS b)) (ifI (aA9 b) (rhB b)) (ifI (aA9 b) (rhL b)) (aCp (List.take (List.map aAt (aAn b)).length (List.map aAt (aAn b)))));(.must (decide (b.length≤1048576)) (.must (decide (0<1)&&true&&(decide (0<1)&&true&&(decide (0<1)&&true&&(decide (0<1)&&true&&(decide (0<1)&&true&&((true&&(List.map aAt (aAn b)).all fun row=>decide (row.length=1))&&((true&&(List.map aIu (aFn b)).all fun row=>decide (row.length=1))&&(decide (0<1)&&true&&(decide (0<1)&&true&&true))))))))&&true&&true) (.ask (aA9 b) (.must (aRj (List.take (List.map aAt (aAn b)).length (List.map aAt (aAn b)))) (.ask (!s1==b) (.ret [C.int .i64 0,C.int .i64 0,C.int .i64 0,C.int .i64 0,C.sl [],C.bool false]) (.ret [C.int .i64 (ifI (aA9 b) (rhV b)),C.int .i64 (ifI (aA9 b) (rhS b)),C.int .i64 (ifI (aA9 b) (rhB b)),C.int .i64 (ifI (aA9 b) (rhL b)),C.sl (List.take (List.map aAt (aAn b)).length (List.map aAt (aAn b))),C.bool true]))) (.ret [C.int .i64 0,C.int .i64 0,C.int .i64 0,C.int .i64 0,C.sl [],C.bool false])))):T (List C)).eval:=aAj (by kernel_rfl)
theorem bAy (H:List Pt→Nat→St→T (List C)) (b:List UInt8):(aAk aZn aAc (sg [pS] [rB]) Tryz.f39 H [C.str b]).eval=((.must (decide (b.length≤1048576)) (.ask (aBk b) (.ret [C.bool true]) (.ret [C.bool false]))):T (List C)).eval:=aAj (by kernel_rfl)
theorem aV4 (H:List Pt→Nat→St→T (List C)) (b:List UInt8) (i:Int):(aAk aSm aAc (sg [pS,pI] [rS,rB]) Tryz.f41 H [C.str b,C.int .i64 i]).eval=((.must (decide (b.length≤1048576)) (.ask (aBk b) (.ask (decide (i<ifI (aBk b) (rhB b))) (.ret [C.str [],C.bool false]) (.ask (decide ((↑(List.map aAt (aHk b)).length:Int)≤IntKind.i64.wrap (i-ifI (aBk b) (rhB b)))) (.ret [C.str [],C.bool false]) (.must (decide ((0:Int)≤IntKind.i64.wrap (i-ifI (aBk b) (rhB b)))&&decide (IntKind.i64.wrap (i-ifI (aBk b) (rhB b))<(↑(List.map aAt (aHk b)).length:Int))&&decide (((List.map aAt (aHk b)).getD (IntKind.i64.wrap (i-ifI (aBk b) (rhB b))).toNat []).length=1)) (.must (decide (0<((List.map aAt (aHk b)).getD (IntKind.i64.wrap (i-ifI (aBk b) (rhB b))).toNat []).length)&&C.is K.str (((List.map aAt (aHk b)).getD (IntKind.i64.wrap (i-ifI (aBk b) (rhB b))).toNat []).getD 0 (C.fn 0 []))&&true) (.ret [C.str (((List.map aAt (aHk b)).getD (IntKind.i64.wrap (i-ifI (aBk b) (rhB b))).toNat []).getD 0 (C.fn 0 [])).toStr,C.bool true]))))) (.ret [C.str [],C.bool false]))):T (List C)).eval:=aAj (by kernel_rfl)
theorem bDz (H:List Pt→Nat→St→T (List C)) (ns:List (List C)) (es:List (List C)) (os:List (List C)) (ss:List (List C)) (r:Int) (x:Int) (i:Int):(aAk bCq aAc (sg [aB0,pI] [rS,rI]) Tryz.f21 H [C.sl ns,C.sl es,C.sl os,C.sl ss,C.int .i64 r,C.int .i64 x,C.int .i64 i]).eval=((.must (aJc ns es) (.ask (decide (aEa (aAu (nds ns) (ens es)) i<(0:Int))) (.ret [C.str [],C.int .i64 1]) (.must (bGu ns es) (.must (decide ((aBh (nds ns) (ens es) (aEa (aAu (nds ns) (ens es)) i)).length≤1048576)&&inB i (-9223372036854775808) 9223372036854775807) (.ask (bH8 (aBh (nds ns) (ens es) (aEa (aAu (nds ns) (ens es)) i)) i) (.ret [C.str (bDb (aBh (nds ns) (ens es) (aEa (aAu (nds ns) (ens es)) i)) i),C.int .i64 0]) (.ret [C.str [],C.int .i64 2])))))):T (List C)).eval:=aAj (by kernel_rfl)
theorem bFk (H:List Pt→Nat→St→T (List C)) (ns:List (List C)) (es:List (List C)) (os:List (List C)) (ss:List (List C)) (r:Int) (x:Int) (i:Int):(aAk bCv aAc (sg [aB0,pI] [rS,rI]) Tryz.f20 H [C.sl ns,C.sl es,C.sl os,C.sl ss,C.int .i64 r,C.int .i64 x,C.int .i64 i]).eval=((.must (aJc ns es) (.ask (aFi (aAu (nds ns) (ens es)) i) (.must (decide ((aDe (aBw (aAu (nds ns) (ens es)) i)).length≤1048576)) (.ask (aBk (aDe (aBw (aAu (nds ns) (ens es)) i))) (.must (decide ((0:Int)≤ifI (aA9 (aDe (aBw (aAu (nds ns) (ens es)) i))) (rhB (aDe (aBw (aAu (nds ns) (ens es)) i))))&&decide (ifI (aA9 (aDe (aBw (aAu (nds ns) (ens es)) i))) (rhB (aDe (aBw (aAu (nds ns) (ens es)) i)))≤(4294967296:Int))&&decide ((List.map aAt (aAn (aDe (aBw (aAu (nds ns) (ens es)) i)))).length≤16777216)) (.must (decide ((0:Int)≤aH2 (ifI (aA9 (aDe (aBw (aAu (nds ns) (ens es)) i))) (rhB (aDe (aBw (aAu (nds ns) (ens es)) i)))) (↑(List.map aAt (aAn (aDe (aBw (aAu (nds ns) (ens es)) i)))).length:Int) i)&&decide (aH2 (ifI (aA9 (aDe (aBw (aAu (nds ns) (ens es)) i))) (rhB (aDe (aBw (aAu (nds ns) (ens es)) i)))) (↑(List.map aAt (aAn (aDe (aBw (aAu (nds ns) (ens es)) i)))).length:Int) i<(↑(List.map aAt (aAn (aDe (aBw (aAu (nds ns) (ens es)) i)))).length:Int))&&decide (((List.map aAt (aAn (aDe (aBw (aAu (nds ns) (ens es)) i)))).getD (aH2 (ifI (aA9 (aDe (aBw (aAu (nds ns) (ens es)) i))) (rhB (aDe (aBw (aAu (nds ns) (ens es)) i)))) (↑(List.map aAt (aAn (aDe (aBw (aAu (nds ns) (ens es)) i)))).length:Int) i).toNat []).length=1)) (.must (decide (0<((List.map aAt (aAn (aDe (aBw (aAu (nds ns) (ens es)) i)))).getD (aH2 (ifI (aA9 (aDe (aBw (aAu (nds ns) (ens es)) i))) (rhB (aDe (aBw (aAu (nds ns) (ens es)) i)))) (↑(List.map aAt (aAn (aDe (aBw (aAu (nds ns) (ens es)) i)))).length:Int) i).toNat []).length)&&C.is K.str (((List.map aAt (aAn (aDe (aBw (aAu (nds ns) (ens es)) i)))).getD (aH2 (ifI (aA9 (aDe (aBw (aAu (nds ns) (ens es)) i))) (rhB (aDe (aBw (aAu (nds ns) (ens es)) i)))) (↑(List.map aAt (aAn (aDe (aBw (aAu (nds ns) (ens es)) i)))).length:Int) i).toNat []).getD 0 (C.fn 0 []))&&true) (.ret [C.str (((List.map aAt (aAn (aDe (aBw (aAu (nds ns) (ens es)) i)))).getD (aH2 (ifI (aA9 (aDe (aBw (aAu (nds ns) (ens es)) i))) (rhB (aDe (aBw (aAu (nds ns) (ens es)) i)))) (↑(List.map aAt (aAn (aDe (aBw (aAu (nds ns) (ens es)) i)))).length:Int) i).toNat []).getD 0 (C.fn 0 [])).toStr,C.int .i64 0])))) (.ret [C.str [],C.int .i64 2]))) (.ret [C.str [],C.int .i64 1]))):T (List C)).eval:=aAj (by kernel_rfl)
theorem bFt {b:List UInt8} (h:aA9 b=true):aD7 (rhV b) (rhS b) (rhB b) (rhL b)=true∧24≤b.length∧(aBe (rhV b) (rhS b) (rhB b) (rhL b)).length=24:=by
 unfold aA9 at h
 simp only[Bool.and_eq_true,decide_eq_true_eq]at h
 obtain⟨⟨h1,_⟩,h2⟩:=h
 have hl:(aBe (rhV b) (rhS b) (rhB b) (rhL b)).length=24:=by rw[h2,List.length_take];omega
 refine⟨?_,h1,hl⟩
 cases hk:aD7 (rhV b) (rhS b) (rhB b) (rhL b)with
 |true=>rfl
 |false=>unfold aBe at hl;rw[hk]at hl;simp at hl
theorem bBq (v b:Int):∀ (rs:List (List UInt8)) (i:Int) (t:List UInt8) (os:List Int) (t':List UInt8) (os':List Int),aEc v b i rs t os=some (t',os')→∀ r:List UInt8,r.length≤60 →
  aEc v b i (rs++[r]) t os=some (t'++aAf v (b+i+rs.length) r,os'++[(t'.length:Int)])
 |[],i,t,os,t',os',h,r,hr=>by
  simp only[aEc,Option.some.injEq,Prod.mk.injEq]at h
  obtain⟨rfl,rfl⟩:=h
  simp only[List.nil_append,aEc,if_neg (by omega:¬60<r.length),List.length_nil]
  rw[show b+i+((0:Nat):Int)=b+i by omega]
 |x::rs,i,t,os,t',os',h,r,hr=>by
  simp only[aEc]at h
  split at h
  ·cases h
  ·rename_i hx
   have:=bBq v b rs (i+1) _ _ t' os' h r hr
   simp only[List.cons_append,aEc,if_neg hx]
   rw[this,show b+(i+1)+(rs.length:Int)=b+i+((x::rs).length:Int) by simp only[List.length_cons];omega]
theorem bV5 {v p:Int} {b:List UInt8} {a:Int} (h:bEg v p b a=true):(aJ1 v b a).length≤60:=by
 unfold bEg at h
 simp only[Bool.and_eq_true,decide_eq_true_eq]at h
 unfold aJ1
 have:=h.1.2.1
 rw[List.length_take]
 omega
theorem aWp (v p:Int) (b h0:List UInt8):∀ (f:Nat) (k e:Int) (rs:List (List UInt8)) (os:List Int),(∃ t,aEc v p 0 rs h0 []=some (t,os)∧(t.length:Int)=e)→k=rs.length →
  ∃ t,aEc v p 0 (aDc v p b f k e rs os).1 h0 []=some (t,(aDc v p b f k e rs os).2.1)∧(t.length:Int)=(aDc v p b f k e rs os).2.2.1
 |0,k,e,rs,os,h,_=>h
 |f+1,k,e,rs,os,h,hk=>by
  simp only[aDc]
  split
  ·exact h
  ·split
   ·rename_i ho
    obtain⟨t,h1,h2⟩:=h
    have h60:=bV5 ho
    have e1:aQ6 v (p+k) b e=aJ1 v b e:=by unfold aQ6;rw[if_pos ho]
    have e2:aMy v (p+k) b e=e+(aAf v (p+k) (aJ1 v b e)).length:=by unfold aMy;rw[if_pos ho]
    have:=bBq v p rs 0 h0 [] t os h1 (aJ1 v b e) h60
    rw[e1,e2]
    refine aWp v p b h0 f (k+1) _ _ _ ⟨t++aAf v (p+k) (aJ1 v b e),?_,?_⟩ (by simp only[List.length_append,List.length_cons,List.length_nil];omega)
    ·rw[this,hk,h2,show p+0+(rs.length:Int)=p+rs.length by omega]
    ·rw[List.length_append];omega
   ·exact h
theorem bZr (v p:Int) (b:List UInt8) (e:Int) (h:(b.length:Int)<e):aH3 v p b e=false:=by
 cases hm:aH3 v p b e with
 |false=>rfl
 |true =>
  unfold aH3 aGa at hm
  simp only[Bool.and_eq_true,decide_eq_true_eq]at hm
  omega
theorem aWo (v p:Int) (b:List UInt8):∀ (f:Nat) (k e:Int) (rs:List (List UInt8)) (os:List Int),(b.length:Int)+1≤e+f→k=rs.length→(aDc v p b f k e rs os).2.2.2=false →
  aH3 v (p+(aDc v p b f k e rs os).1.length) b (aDc v p b f k e rs os).2.2.1=false
 |0,k,e,rs,os,h,hk,_=>by
  simp only[aDc]
  exact bZr _ _ _ _ (by omega)
 |f+1,k,e,rs,os,h,hk,hf=>by
  simp only[aDc]at hf ⊢
  split at hf
  ·cases hf
  ·rename_i hm
   rw[if_neg hm]
   split at hf
   ·rename_i ho
    obtain⟨g1,g2,g3⟩:=aO1 _ _ _ _ ho
    rw[if_pos ho]
    exact aWo v p b f (k+1) _ _ _ (by omega) (by simp only[List.length_append,List.length_cons,List.length_nil];omega) hf
   ·rename_i ho
    rw[if_neg ho,←hk]
    simpa using hm
theorem aYn (n:Int) (h0:0≤n) (h:n<4294967296):(aAl n 4).length=4:=by
 obtain⟨k,rfl⟩:∃ k:Nat,n=k:=⟨n.toNat,by omega⟩
 rw[show (4:Int)=((4:Nat):Int)from rfl,aVs k 4 (by omega) (by omega),if_pos (by omega),aCe]
theorem aVt (n:Int) (h0:0≤n) (h:n<4294967296):aAl n 4≠[]:=fun he=>by
 have:=aYn n h0 h
 rw[he]at this
 cases this
theorem bTa (v p:Int) (hv:1≤v∧v≤2) (hp:0≤p∧p≤1000000000):aBa v p≠[]:=by
 unfold aBa
 rw[(aBi _ _ _).2 hv,(aBi _ _ _).2 hp]
 simp only[Bool.and_self,if_true]
 split
 ·simp
 ·unfold aFh
  intro h
  have h1:=aYn 4294967295 (by omega) (by omega)
  have:=congrArg List.length h
  rw[List.length_append,h1]at this
  simp at this
theorem bQx (a b c d:Int) (ha:0≤a∧a<4294967296) (hb:0≤b∧b<4294967296) (hc:0≤c∧c<4294967296) (hd:0≤d∧d<4294967296):aBv a b c d≠[]:=by
 unfold aBv
 simp only[bQy,if_neg (aVt a ha.1 ha.2),if_neg (aVt b hb.1 hb.2),if_neg (aVt c hc.1 hc.2),if_neg (aVt d hd.1 hd.2)]
 simp
theorem aSz (n:Int) (h0:0≤n) (h:n≤1000000000):aB4 n≠[]:=by
 unfold aB4
 rw[if_pos ((aBi _ _ _).2 ⟨h0,h⟩)]
 unfold aD3
 split<;>simp
def cG9 (a b:Pl):Prop:=a.1≤b.1∧a.2≤b.2
theorem bIy:∀ (l:List Pl) (q:Pl),(∀ p∈q::l,(0≤p.1∧p.1≤1000000)∧(0≤p.2∧p.2≤1000000))→List.Pairwise cG9 (q::l)→∃ t,bIz q l=some t
 |[],q,_,_=>⟨[],rfl⟩
 |p::r,q,h1,h2=>by
  have hq:=h1 q (by simp)
  have hp:=h1 p (by simp)
  obtain⟨h3,h4⟩:=List.pairwise_cons.1 h2
  have hl:=h3 p (by simp)
  unfold cG9 at hl
  obtain⟨t,ht⟩:=bIy r p (fun x hx=>h1 x (by simp at hx ⊢;exact .inr hx)) h4
  have l1:aI2 p.1 q.1=p.1-q.1:=by
   have w:IntKind.i64.wrap (p.1-q.1)=p.1-q.1:=by rw[aAh]<;>omega
   unfold aI2
   rw[w,if_neg (by omega)]
  have l2:aI2 p.2 q.2=p.2-q.2:=by
   have w:IntKind.i64.wrap (p.2-q.2)=p.2-q.2:=by rw[aAh]<;>omega
   unfold aI2
   rw[w,if_neg (by omega)]
  unfold bIz
  rw[l1,l2,if_neg (by
   intro h
   rcases h with h | h
   ·exact aSz _ (by omega) (by omega) h
   ·exact aSz _ (by omega) (by omega) h),ht]
  exact⟨_,rfl⟩
theorem aLl (s:Int) (os:List Int):∀ (i:Nat) (p:Pl),p∈aBt s os i→∃ j,j<i∧p=((j:Int),os.getD j 0)
 |0,p,h=>by simp[aBt]at h
 |i+1,p,h=>by
  simp only[aBt,List.mem_append]at h
  rcases h with h | h
  ·obtain⟨j,h1,h2⟩:=aLl s os i p h
   exact⟨j,by omega,h2⟩
  ·split at h
   ·simp only[List.mem_singleton]at h
    exact⟨i,by omega,h⟩
   ·simp at h
theorem aXt (s:Int) (os:List Int) (hm:∀ i j,i≤j→j<os.length→os.getD i 0≤os.getD j 0):∀ i,i≤os.length→List.Pairwise cG9 (aBt s os i)
 |0,_=>by simp[aBt]
 |i+1,h=>by
  simp only[aBt]
  refine List.pairwise_append.2 ⟨aXt s os hm i (by omega),by split<;>simp,fun a ha b hb=>?_⟩
  obtain⟨j,h1,rfl⟩:=aLl s os i a ha
  split at hb
  ·simp only[List.mem_singleton]at hb
   subst hb
   exact⟨by show (j:Int)≤i;omega,hm j i (by omega) (by omega)⟩
  ·simp at hb
theorem bEj (s:Int) (os:List Int) (hl:os.length≤1000) (h0:∀ j,j<os.length→0≤os.getD j 0∧os.getD j 0≤1000000) (hm:∀ i j,i≤j→j<os.length→os.getD i 0≤os.getD j 0):aB9 (aAy s os)≠[]:=by
 have hp:∀ p∈aAy s os,∃ j,j<os.length∧p=((j:Int),os.getD j 0):=fun p hp=>by
  unfold aAy at hp
  split at hp
  ·simp at hp
  ·exact aLl s os _ p hp
 have hu:List.Pairwise cG9 (aAy s os):=by
  unfold aAy
  split
  ·simp
  ·exact aXt s os hm _ (Nat.le_refl _)
 obtain⟨t,ht⟩:=bIy (aAy s os) (0,0) (fun p h=>by
  rcases List.mem_cons.1 h with rfl | h
  ·exact⟨⟨by decide,by decide⟩,by decide,by decide⟩
  ·obtain⟨j,hj,rfl⟩:=hp p h
   exact⟨⟨by show (0:Int)≤j;omega,by show (j:Int)≤1000000;omega⟩,h0 j hj⟩) (List.pairwise_cons.2 ⟨fun p h=>by
  obtain⟨j,hj,rfl⟩:=hp p h
  exact⟨by show (0:Int)≤j;omega,(h0 j hj).1⟩,hu⟩)
 have pl:=aO3 s os
 unfold aB9
 rw[ht]
 have:=aSz ((aAy s os).length:Int) (by omega) (by omega)
 simp[this]
def cAt (os:List Int) (e:Int):Prop:=(∀ i j,i≤j→j<os.length→os.getD i 0≤os.getD j 0)∧∀ j,j<os.length→0≤os.getD j 0∧os.getD j 0≤e
theorem bK5 (os:List Int) (x:Int) (i:Nat) (h:i<os.length):(os++[x]).getD i 0=os.getD i 0:=by
 rw[List.getD_eq_getElem?_getD,List.getD_eq_getElem?_getD,List.getElem?_append_left h]
theorem bK6 (os:List Int) (x:Int):(os++[x]).getD os.length 0=x:=by
 rw[List.getD_eq_getElem?_getD,List.getElem?_append_right (Nat.le_refl _)]
 simp
theorem bSh {os:List Int} {e x:Int} (h:cAt os e) (he:e≤x) (h0:0≤e):cAt (os++[x]) x:=by
 have key:∀ j,j<(os++[x]).length→(j<os.length∧(os++[x]).getD j 0=os.getD j 0)∨(j=os.length∧(os++[x]).getD j 0=x):=fun j hj=>by
  rw[List.length_append]at hj
  simp only[List.length_cons,List.length_nil]at hj
  by_cases h:j<os.length
  ·exact .inl ⟨h,bK5 _ _ _ h⟩
  ·have e:j=os.length:=by omega
   subst e
   exact .inr ⟨rfl,bK6 _ _⟩
 refine⟨fun i j hij hj=>?_,fun j hj=>?_⟩
 ·rcases key j hj with⟨j1,j2⟩ | ⟨j1,j2⟩
  ·rcases key i (by omega)with⟨i1,i2⟩ | ⟨i1,i2⟩
   ·rw[i2,j2];exact h.1 i j hij j1
   ·omega
  ·rcases key i (by omega)with⟨i1,i2⟩ | ⟨i1,i2⟩
   ·rw[i2,j2];have:=(h.2 i i1).2;omega
   ·rw[i2,j2];exact Int.le_refl _
 ·rcases key j hj with⟨j1,j2⟩ | ⟨j1,j2⟩
  ·rw[j2];have:=h.2 j j1;omega
  ·rw[j2];omega
theorem bH9 (v b:Int):∀ (rs:List (List UInt8)) (i:Int) (t:List UInt8) (os:List Int) (x:List UInt8×List Int),aEc v b i rs t os=some x→cAt os t.length→cAt x.2 x.1.length
 |[],i,t,os,x,h,ho=>by simp[aEc]at h;subst h;exact ho
 |r::rs,i,t,os,x,h,ho=>by
  unfold aEc at h
  split at h
  ·cases h
  ·refine bH9 v b rs _ _ _ x h ?_
   have:=bSh ho (Int.le_refl _) (by omega)
   exact⟨this.1,fun j hj=>by
    have:=this.2 j hj
    rw[List.length_append]
    omega⟩
theorem bLz {b:List UInt8} (h:aBk b=true):aKk b=true:=by
 unfold aBk at h
 simp only[Bool.and_eq_true,decide_eq_true_eq]at h
 obtain⟨hr,hs⟩:=h
 obtain⟨hk,h24,hl⟩:=bFt hr
 have e1:aAn b=(aDc (rhV b) (rhB b) b (b.length+1) 0 24 [] []).1:=by unfold aAn aIw;rw[if_pos hr]
 have e2:aKk b=(aDc (rhV b) (rhB b) b (b.length+1) 0 24 [] []).2.2.2:=by unfold aKk aIw;rw[if_pos hr]
 obtain⟨t,s1,s2⟩:=aWp (rhV b) (rhB b) b (aBe (rhV b) (rhS b) (rhB b) (rhL b)) (b.length+1) 0 24 [] [] ⟨_,rfl,by rw[hl];rfl⟩ rfl
 have st:=aWo (rhV b) (rhB b) b (b.length+1) 0 24 [] [] (by omega) rfl
 rw[e2]
 rw[e1]at hs
 generalize aDc (rhV b) (rhB b) b (b.length+1) 0 24 [] []=X at hs s1 s2 st ⊢
 obtain⟨rs,os,e,m⟩:=X
 simp only at hs s1 s2 st ⊢
 unfold aCk at hs
 split at hs
 ·rw[←hs]at h24;simp at h24
 ·rename_i hc
  rw[s1]at hs
  simp only at hs
  have hn:rs.length≤1000:=by have:¬1000<rs.length:=fun h=>hc (.inr (.inl h));omega
  have hq:¬1000000000<rhB b+rs.length:=fun h=>hc (.inr (.inr h))
  obtain⟨hv,hst,hb,_⟩:=(aDi _ _ _ _).1 hk
  have lens:=aT6 _ _ _ _ _ _ _ s1
  simp only[List.length_nil,Nat.zero_add]at lens
  have up:=bH9 _ _ _ _ _ _ _ s1 ⟨fun i j _ hj=>by simp at hj,fun j hj=>by simp at hj⟩
  simp only at up
  have q1:=bTa (rhV b) (rhB b+os.length) hv (by rw[lens.2];omega)
  have q2:=bEj (rhS b) os (by omega) (fun j hj=>by have:=up.2 j hj;omega) up.1
  have q3:=bQx (t.length:Int) os.length (rhS b) 0 (by omega) (by omega) (by omega) (by omega)
  cases hm:m with
  |true=>rfl
  |false =>
   exfalso
   have hf:=st hm
   have:aH3 (rhV b) (rhB b+rs.length) b e=true:=by
    unfold aC7 at hs
    rw[if_neg (by
     intro h
     rcases h with h | h | h | h
     ·rw[hk]at h;cases h
     ·exact q1 h
     ·exact q2 h
     ·exact q3 h)]at hs
    unfold aH3 aGa
    rw[←s2]
    rw[lens.2]at q1 hs
    simp only[Bool.and_eq_true,decide_eq_true_eq,Int.toNat_natCast]
    refine⟨q1,by omega,?_,?_⟩
    ·rw[←hs,List.length_append];omega
    ·generalize aBa (rhV b) (rhB b+↑rs.length)=M at hs ⊢
     rw[←hs,List.drop_left,List.append_assoc,List.take_left]
   rw[this]at hf
   cases hf
theorem bH6 (l:List (List UInt8)):List.take (l.map aAt).length (l.map aAt)=l.map aAt:=List.take_length
theorem bS8 (l:List (List UInt8)) (h1:l.length≤1048576) (h2:∀ r∈l,r.length≤60):aRj (l.map aAt)=true:=by
 refine (aTi _).2 ⟨by simp,by simpa using h1,fun r hr=>?_⟩
 rw[aId]at hr
 have:=h2 r hr
 omega
theorem bDs:aAa Tryz.prog aSn:=aA8 (by simp[aIy,aQ2])
theorem aTc:aAx Tryz.prog 55 (⟨[pS],[aN2,cE0,rB],true⟩) aEk:=aA6 bDs aAb Tryz.func55 (by kernel_rfl) fun cs outs hk h=>by
 unfold aEk at h
 split at h
 ·simp only[Option.some.injEq,Prod.mk.injEq,decide_eq_true_eq]at h
  obtain⟨hb,rfl⟩:=h
  rename_i b
  rw[aAd,aV6]
  obtain⟨f1,f2,f3⟩:=aDx b
  have hl:(aAn b).length≤1048576:=by omega
  have tk:List.take (aAn b).length ((aAn b).map aAt)=(aAn b).map aAt:=List.take_of_length_le (by simp)
  have d1:decide (0<1)=true:=by decide
  simp only[aA1,aA4,aA3,hb,d1,aMi,bIr,decide_true,Bool.and_self,if_true,bH6,aId,aEy,List.length_map,hl,tk,aHk,ifI]
  cases hr:aA9 b with
  |false =>
   have hs:aBk b=false:=by unfold aBk;rw[hr];rfl
   simp[hs]
  |true =>
   by_cases he:aCk (rhV b) (rhS b) (rhB b) (rhL b) (aAn b)=b
   ·have hs:aBk b=true:=by unfold aBk;rw[hr,he];simp
    have hm:=bLz hs
    simp[hs,hm,he]
   ·have hs:aBk b=false:=by unfold aBk;rw[hr];simp[he]
    cases hm:aKk b<;>simp[hs,he]
 ·cases h
theorem bFe:aAa Tryz.prog aSu:=aA8 (by simp[aNc,bNq])
theorem aTu:aAx Tryz.prog 54 (⟨[pS],[aN2,cE0,rB],true⟩) aEk:=aA6 bFe aAb Tryz.func54 (by kernel_rfl) fun cs outs hk h=>by
 unfold aEk at h
 split at h
 ·simp only[Option.some.injEq,Prod.mk.injEq,decide_eq_true_eq]at h
  obtain⟨hb,rfl⟩:=h
  rename_i b
  rw[aAd,aVf]
  obtain⟨f1,f2,f3⟩:=aDx b
  have hl:(aAn b).length≤1048576:=by omega
  have ro:=bS8 (aAn b) hl f3
  have d1:decide (0<1)=true:=by decide
  simp only[aA1,aA4,aA3,hb,d1,aMi,bIr,decide_true,Bool.and_self,if_true,bH6,aId,ro,aHk,ifI]
  cases hr:aA9 b with
  |false =>
   have hs:aBk b=false:=by unfold aBk;rw[hr];rfl
   simp[hs]
  |true =>
   by_cases he:aCk (rhV b) (rhS b) (rhB b) (rhL b) (aAn b)=b
   ·have hs:aBk b=true:=by unfold aBk;rw[hr,he];simp
    simp[hs,he]
   ·have hs:aBk b=false:=by unfold aBk;rw[hr];simp[he]
    simp[hs,he]
 ·cases h
theorem bNp:aAa Tryz.prog aZn:=aA8 (by simp[aTu])
theorem aY8:aAx Tryz.prog 39 (sg [pS] [rB]) aMp:=aA6 bNp aAb Tryz.func39 (by kernel_rfl) fun cs outs hk h=>by
 unfold aMp at h
 split at h
 ·simp only[Option.some.injEq,Prod.mk.injEq,decide_eq_true_eq]at h
  obtain⟨hb,rfl⟩:=h
  rename_i b
  rw[aAd,bAy]
  cases hs:aBk b<;>simp[aA1,aA4,aA3,hb]
 ·cases h
theorem aPz {b:List UInt8} (h:aBk b=true):aA9 b=true:=by
 unfold aBk at h
 simp only[Bool.and_eq_true]at h
 exact h.1
theorem bDm:aAa Tryz.prog aSm:=aA8 (by simp[aTc])
theorem aT9:aAx Tryz.prog 41 (sg [pS,pI] [rS,rB]) bDa:=aA6 bDm aAb Tryz.func41 (by kernel_rfl) fun cs outs hk h=>by
 unfold bDa at h
 split at h
 ·simp only[Option.some.injEq,Prod.mk.injEq,Bool.and_eq_true,decide_eq_true_eq,aBi]at h
  obtain⟨⟨hb,hi⟩,rfl⟩:=h
  rename_i b i
  rw[aAd,aV4]
  obtain⟨f1,f2,f3⟩:=aDx b
  unfold bDb bH8 aHk
  simp only[aA1,aA4,aA3,hb,decide_true,if_true,decide_eq_true_eq,List.length_map,Bool.and_eq_true,ifI]
  cases hs:aBk b with
  |false=>simp
  |true =>
   have hh:=(aDi _ _ _ _).1 (bFt (aPz hs)).1
   simp only[if_true]
   by_cases c1:i<rhB b
   ·have c1':¬rhB b≤i:=by omega
    simp[c1,c1']
   ·have c1':rhB b≤i:=by omega
    have w:IntKind.i64.wrap (i-rhB b)=i-rhB b:=by rw[aAh]<;>omega
    simp only[w,c1,c1',if_false]
    by_cases c2:((aAn b).length:Int)≤i-rhB b
    ·have c2':¬i-rhB b<(aAn b).length:=by omega
     simp[c2,c2']
    ·have c2':i-rhB b<(aAn b).length:=by omega
     have z:0≤i-rhB b:=by omega
     have hk:(i-rhB b).toNat<(aAn b).length:=by omega
     have g:=aBc aAt (aAn b) [] (i-rhB b).toNat hk
     simp only[c2,c2',z,if_false,if_true,g,decide_true,Bool.and_self,and_self,List.length_cons,List.length_nil,Nat.zero_add,Nat.zero_lt_one,C.is,List.getD_cons_zero,C.toStr,Bool.and_true,decide_false,Bool.false_eq_true]
 ·cases h
theorem bC7:∀ (c:List Lk) (i:Int) (x:Lk),aKv c i=some x→x∈c∧0≤aH2 (ifI (aA9 x.2) (rhB x.2)) (aAn x.2).length i
 |[],i,x,h=>by cases h
 |y::r,i,x,h=>by
  simp only[aKv]at h
  split at h
  ·rename_i hy
   obtain rfl:=Option.some.inj h
   exact⟨by simp,hy⟩
  ·have:=bC7 r i x h
   exact⟨by simp[this.1],this.2⟩
theorem aUq (ns:List Nd) (es:List En) (i:Int) (h:aFi (aAu ns es) i=true) :
  aBw (aAu ns es) i∈aAu ns es∧(aBw (aAu ns es) i).2=aBh ns es (aBw (aAu ns es) i).1∧0≤aH2 (ifI (aA9 (aBw (aAu ns es) i).2) (rhB (aBw (aAu ns es) i).2)) (aAn (aBw (aAu ns es) i).2).length i:=by
 unfold aFi at h
 unfold aBw
 cases hg:aKv (aAu ns es) i with
 |none=>rw[hg]at h;cases h
 |some x =>
  obtain⟨h1,h2⟩:=bC7 _ _ _ hg
  exact⟨h1,aJx ns es 16 0 0 x h1,h2⟩
theorem bCf:∀ (c:List Lk) (b:Int),aNw c b→0≤b→∀ x∈c,0≤x.1
 |[],_,_,_,x,hx=>by cases hx
 |y::r,b,h,hb,x,hx=>by
  obtain⟨h1,_,_,h4,h5⟩:=h
  rcases List.mem_cons.1 hx with rfl | hx
  ·omega
  ·exact bCf r _ h5 (by omega) x hx
theorem bBr {b n i:Int} (h:0≤aH2 b n i):aH2 b n i=i-b∧b≤i∧i≤b+n-1:=by
 obtain⟨h1,h2⟩:=(aNy b n i).1 h
 refine⟨?_,h1,h2⟩
 unfold aH2
 rw[if_pos ⟨h1,h2⟩]
theorem bRn:aAa Tryz.prog bCq:=aA8 (by simp[aLh,aR8,aT9])
theorem bAd:aAx Tryz.prog 21 (sg [aB0,pI] [rS,rI]) aHb:=aA6 bRn aAb Tryz.func21 (by kernel_rfl) fun cs outs hk h=>by
 unfold aHb at h
 split at h
 ·simp only[Option.some.injEq,Prod.mk.injEq,Bool.and_eq_true]at h
  obtain⟨⟨hd,hi⟩,rfl⟩:=h
  rename_i ns es os ss r x i
  rw[aAd,bDz]
  have hne:=bEr hd
  have tl:=aMn hd (aEa (aAu (nds ns) (ens es)) i)
  simp only[aA1,aA4,aA3,hd,hne,hi,tl,decide_true,Bool.and_self,if_true,decide_eq_true_eq]
  unfold aXy aJ5 cG6
  cases hh:aFi (aAu (nds ns) (ens es)) i with
  |false =>
   have hb:aEa (aAu (nds ns) (ens es)) i<0:=by unfold aEa;rw[hh];simp
   simp only[hb,if_true,Bool.false_and,Bool.false_eq_true,if_false]
  |true =>
   obtain⟨m1,m2,m3⟩:=aUq _ _ _ hh
   have m0:=bCf _ _ (aHm (nds ns) (ens es) 16 0 0) (by omega) _ m1
   have eb:aEa (aAu (nds ns) (ens es)) i=(aBw (aAu (nds ns) (ens es)) i).1:=by unfold aEa;rw[hh];rfl
   have hb:¬(aBw (aAu (nds ns) (ens es)) i).1<0:=by omega
   rw[eb,←m2]
   generalize aBw (aAu (nds ns) (ens es)) i=y at hb m3 ⊢
   simp only[hb,if_false,Bool.true_and,if_true]
   unfold bDb bH8
   cases hs:aBk y.2 with
   |false=>simp
   |true =>
    have hk:=aPz hs
    rw[hk]at m3
    simp only[ifI,if_true]at m3
    obtain⟨v1,v2,v3⟩:=bBr m3
    have c2:i-rhB y.2<(aAn y.2).length:=by omega
    simp[v2,c2]
 ·cases h
theorem bT1:aAa Tryz.prog bCv:=aA8 (by simp[aR4,aS1,aY8])
theorem bB5:aAx Tryz.prog 20 (sg [aB0,pI] [rS,rI]) aHb:=aA6 bT1 aAb Tryz.func20 (by kernel_rfl) fun cs outs hk h=>by
 unfold aHb at h
 split at h
 ·simp only[Option.some.injEq,Prod.mk.injEq,Bool.and_eq_true]at h
  obtain⟨⟨hd,hi⟩,rfl⟩:=h
  rename_i ns es os ss r x i
  rw[aAd,bFk]
  unfold aXy aJ5 cG6
  simp only[aA1,aA4,aA3,hd,if_true]
  cases hh:aFi (aAu (nds ns) (ens es)) i with
  |false=>simp only[Bool.false_and,Bool.false_eq_true,if_false]
  |true =>
   obtain⟨m1,m2,m3⟩:=aUq _ _ _ hh
   have ht:=aOh hd _ m1
   have ef:aDe (aBw (aAu (nds ns) (ens es)) i)=(aBw (aAu (nds ns) (ens es)) i).2:=rfl
   rw[ef]
   generalize aBw (aAu (nds ns) (ens es)) i=y at ht m3 ⊢
   obtain⟨f1,f2,f3⟩:=aDx y.2
   simp only[Bool.true_and,if_true,ht,decide_true]
   cases hs:aBk y.2 with
   |false=>simp
   |true =>
    have hk:=aPz hs
    have hhd:=(aDi _ _ _ _).1 (bFt hk).1
    rw[hk]at m3 ⊢
    simp only[ifI,if_true]at m3 ⊢
    obtain⟨v1,v2,v3⟩:=bBr m3
    rw[List.length_map,v1]
    have z:0≤i-rhB y.2:=by omega
    have c2:i-rhB y.2<(aAn y.2).length:=by omega
    have hkk:(i-rhB y.2).toNat<(aAn y.2).length:=by omega
    have g:=aBc aAt (aAn y.2) [] (i-rhB y.2).toNat hkk
    have b1:rhB y.2≤4294967296:=by omega
    have b2:(aAn y.2).length≤16777216:=by omega
    simp only[hhd.2.2.1.1,b1,b2,z,c2,g,decide_true,Bool.and_self,if_true,List.length_cons,List.length_nil,Nat.zero_add,Nat.zero_lt_one,C.is,List.getD_cons_zero,C.toStr,Bool.and_true]
 ·cases h
noncomputable section
def bKq (rows:List (List C)):Int:=([aFl rows,IntKind.i64.wrap (aFl rows+1),(bXk rows).length,IntKind.i64.wrap ((bXk rows).length+1),0,-1]:List Int).getD (aAm rows 0 (cCz rows) 6).toNat 0
def bGd:aCf:=fun cs=>match cs with
 |[.sl rows]=>some (aAs rows 0,cEv (c18 rows)++[.int .i64 (aFl rows),.int .i64 (bKq rows)])
 |_=>none
def bCs:Env:=mkE [] [(25,(⟨[aQ8],[aBz,rI],true⟩),aQi)]
def aUx:Env:=mkD [] [(42,(⟨[aDa,pSl 3],[rI],true⟩),aLm),(43,(sg [aB0] [rI]),aHc),(25,(⟨[aQ8],[aBz,rI],true⟩),aQi)]
def bLc:Env:=mkE [] [(10,(sg [aB0] [rSl 9]),aEz),(17,(sg [aB0] [rI]),aHc),(16,(sg [aB0,pI] [rS,rI]),aIq),(19,(sg [aB0,pI] [rI]),aHd),(18,(sg [aB0,pI] [rI]),aHd),(24,(sg [aB0,pI,pI] [rSl 9,rI]),aKm),(23,(sg [aB0,pI,pI] [rSl 9,rI]),aKm),(12,(sg [pSl 9,pSl 9] [rB]),aWq),(5,(sg [aQ8] [rB]),cGt),(21,(sg [aB0,pI] [rS,rI]),aHb),(20,(sg [aB0,pI] [rS,rI]),aHb),(15,(⟨[aQ8],[aBz,rI],true⟩),aQi),(22,(⟨[aQ8],[aBz,rI,rI],true⟩),bGd)]
end
theorem bE7 (H:List Pt→Nat→St→T (List C)) (r:List (List C)):(aAk bCs aAc {params:=[aQ8],results:=[aBz,rI],nested:=true} Tryz.f15 H [C.sl r]).eval=((.must (aAs r 0) (.must ((true&&(oR (c18 r) 0).all fun row=>decide (row.length=3))&&((true&&(oR (c18 r) 1).all fun row=>decide (row.length=2))&&((true&&(oR (c18 r) 2).all fun row=>decide (row.length=2))&&((true&&(oR (c18 r) 3).all fun row=>decide (row.length=1))&&(decide (0<1)&&true&&(decide (0<1)&&true&&true)))))&&(decide (0<1)&&true&&true&&true)&&true) (.must (decide ((oR (c18 r) 0).length=(oR (c18 r) 0).length)&&(true||(oR (c18 r) 0).all fun r=>r.all C.flat)&&(decide ((oR (c18 r) 1).length=(oR (c18 r) 1).length)&&(true||(oR (c18 r) 1).all fun r=>r.all C.flat)&&(decide ((oR (c18 r) 2).length=(oR (c18 r) 2).length)&&(true||(oR (c18 r) 2).all fun r=>r.all C.flat)&&(decide ((oR (c18 r) 3).length=(oR (c18 r) 3).length)&&(true||(oR (c18 r) 3).all fun r=>r.all C.flat)&&(true&&(true||true)&&(true&&(true||true)&&true)))))&&(true&&(true||true)&&true&&true)&&true) (.ret [C.sl (oR (c18 r) 0),C.sl (oR (c18 r) 1),C.sl (oR (c18 r) 2),C.sl (oR (c18 r) 3),C.int .i64 (oI (c18 r) 4),C.int .i64 (oI (c18 r) 5),C.int .i64 (aFl r)])))):T (List C)).eval:=aAj (by kernel_rfl)
theorem aXd (H:List Pt→Nat→St→T (List C)) (r:List (List C)):(aAk aUx (bP1 cAg) {params:=[aQ8],results:=[aBz,rI,rI],nested:=true} Tryz.f22 H [C.sl r]).eval=((.must (aAs r 0) (.must ((true&&(oR (c18 r) 0).all fun row=>decide (row.length=3))&&((true&&(oR (c18 r) 1).all fun row=>decide (row.length=2))&&((true&&(oR (c18 r) 2).all fun row=>decide (row.length=2))&&((true&&(oR (c18 r) 3).all fun row=>decide (row.length=1))&&(decide (0<1)&&true&&(decide (0<1)&&true&&true)))))&&(decide (0<1)&&true&&true&&true)&&true) (.must (aAs r 0) (.must (aJc (List.take (oR (c18 r) 0).length (oR (c18 r) 0)) (List.take (oR (c18 r) 1).length (oR (c18 r) 1))) (.must (aJc (List.take (oR (c18 r) 0).length (oR (c18 r) 0)) (List.take (oR (c18 r) 1).length (oR (c18 r) 1))) (.must (aAs r 0&&(aAp [K.int .i64] [[C.int .i64 (aFl r)],[C.int .i64 (IntKind.i64.wrap (aFl r+(1:Int)))],[C.int .i64 (Int.ofNat (aB5 (aAu (nds (List.take (oR (c18 r) 0).length (oR (c18 r) 0))) (ens (List.take (oR (c18 r) 1).length (oR (c18 r) 1))))).length)],[C.int .i64 (IntKind.i64.wrap (Int.ofNat (aB5 (aAu (nds (List.take (oR (c18 r) 0).length (oR (c18 r) 0))) (ens (List.take (oR (c18 r) 1).length (oR (c18 r) 1))))).length+(1:Int)))],[C.int .i64 0],[C.int .i64 (-1)]]&&(decide (0<(((Nat.add 3 0).succ.add 0).succ.add 0).succ)&&decide ((((Nat.add 3 0).succ.add 0).succ.add 0).succ≤1048576)))) (.must (decide ((oR (c18 r) 0).length=(oR (c18 r) 0).length)&&(true||(oR (c18 r) 0).all fun r=>r.all C.flat)&&(decide ((oR (c18 r) 1).length=(oR (c18 r) 1).length)&&(true||(oR (c18 r) 1).all fun r=>r.all C.flat)&&(decide ((oR (c18 r) 2).length=(oR (c18 r) 2).length)&&(true||(oR (c18 r) 2).all fun r=>r.all C.flat)&&(decide ((oR (c18 r) 3).length=(oR (c18 r) 3).length)&&(true||(oR (c18 r) 3).all fun r=>r.all C.flat)&&(true&&(true||true)&&(true&&(true||true)&&true)))))&&(true&&(true||true)&&true&&(true&&(true||true)&&true&&true))&&true) (.ret [C.sl (oR (c18 r) 0),C.sl (oR (c18 r) 1),C.sl (oR (c18 r) 2),C.sl (oR (c18 r) 3),C.int .i64 (oI (c18 r) 4),C.int .i64 (oI (c18 r) 5),C.int .i64 (aFl r),C.int .i64 ((aDo [[C.int .i64 (aFl r)],[C.int .i64 (IntKind.i64.wrap (aFl r+(1:Int)))],[C.int .i64 (Int.ofNat (aB5 (aAu (nds (List.take (oR (c18 r) 0).length (oR (c18 r) 0))) (ens (List.take (oR (c18 r) 1).length (oR (c18 r) 1))))).length)],[C.int .i64 (IntKind.i64.wrap (Int.ofNat (aB5 (aAu (nds (List.take (oR (c18 r) 0).length (oR (c18 r) 0))) (ens (List.take (oR (c18 r) 1).length (oR (c18 r) 1))))).length+(1:Int)))],[C.int .i64 0],[C.int .i64 (-1)]]).getD (aAm r 0 (cCz r) (↑(((Nat.add 3 0).succ.add 0).succ.add 0).succ:Int)).toNat 0)])))))))):T (List C)).eval:=aAj (by kernel_rfl)
theorem bJk (H:List Pt→Nat→St→T (List C)) (r:List (List C)):(aAk bLc aAc (sg [aQ8] [rB]) Tryz.f4 H [C.sl r]).eval=((.ask (decide (1048576<r.length)) (.ret [C.bool true]) (.must (aAs r 0) (.must ((true&&(oR (c18 r) 0).all fun row=>decide (row.length=3))&&((true&&(oR (c18 r) 1).all fun row=>decide (row.length=2))&&((true&&(oR (c18 r) 2).all fun row=>decide (row.length=2))&&((true&&(oR (c18 r) 3).all fun row=>decide (row.length=1))&&(decide (0<1)&&true&&(decide (0<1)&&true&&true)))))&&(decide (0<1)&&true&&true&&true)&&true) (.must (aJc (List.take (oR (c18 r) 0).length (oR (c18 r) 0)) (List.take (oR (c18 r) 1).length (oR (c18 r) 1))) (.must (aJc (List.take (oR (c18 r) 0).length (oR (c18 r) 0)) (List.take (oR (c18 r) 1).length (oR (c18 r) 1))) (.must ((true&&(List.map aAt (aB5 (aAu (nds (List.take (oR (c18 r) 0).length (oR (c18 r) 0))) (ens (List.take (oR (c18 r) 1).length (oR (c18 r) 1)))))).all fun row=>decide (row.length=1))&&true&&true&&true) (.must (aJc (List.take (oR (c18 r) 0).length (oR (c18 r) 0)) (List.take (oR (c18 r) 1).length (oR (c18 r) 1))) (.ask (Int.ofNat (aB5 (aAu (nds (List.take (oR (c18 r) 0).length (oR (c18 r) 0))) (ens (List.take (oR (c18 r) 1).length (oR (c18 r) 1))))).length != (↑(List.map aAt (aB5 (aAu (nds (List.take (oR (c18 r) 0).length (oR (c18 r) 0))) (ens (List.take (oR (c18 r) 1).length (oR (c18 r) 1)))))).length:Int)) (.ret [C.bool false]) (.must (aJc (List.take (oR (c18 r) 0).length (oR (c18 r) 0)) (List.take (oR (c18 r) 1).length (oR (c18 r) 1))) (.must (aJc (List.take (oR (c18 r) 0).length (oR (c18 r) 0)) (List.take (oR (c18 r) 1).length (oR (c18 r) 1))) (.ask (aEa (aAu (nds (List.take (oR (c18 r) 0).length (oR (c18 r) 0))) (ens (List.take (oR (c18 r) 1).length (oR (c18 r) 1)))) (aFl r) != aEa (aAu (nds (List.take (oR (c18 r) 0).length (oR (c18 r) 0))) (ens (List.take (oR (c18 r) 1).length (oR (c18 r) 1)))) (aFl r)) (.ret [C.bool false]) (.must (aJc (List.take (oR (c18 r) 0).length (oR (c18 r) 0)) (List.take (oR (c18 r) 1).length (oR (c18 r) 1))&&inB (aFl r) (-9223372036854775808) 9223372036854775807) (.must (aJc (List.take (oR (c18 r) 0).length (oR (c18 r) 0)) (List.take (oR (c18 r) 1).length (oR (c18 r) 1))&&inB (aFl r) (-9223372036854775808) 9223372036854775807) (.must (aAs r 0) (.must ((true&&(oR (c18 r) 0).all fun row=>decide (row.length=3))&&((true&&(oR (c18 r) 1).all fun row=>decide (row.length=2))&&((true&&(oR (c18 r) 2).all fun row=>decide (row.length=2))&&((true&&(oR (c18 r) 3).all fun row=>decide (row.length=1))&&(decide (0<1)&&true&&(decide (0<1)&&true&&true)))))&&(decide (0<1)&&true&&true&&(decide (0<1)&&true&&true&&true))&&true) (.must (aJc (List.take (oR (c18 r) 0).length (oR (c18 r) 0)) (List.take (oR (c18 r) 1).length (oR (c18 r) 1))) (.must ((true&&(List.map aAt (aD1 (aC8 (List.take (oR (c18 r) 0).length (oR (c18 r) 0)) (List.take (oR (c18 r) 1).length (oR (c18 r) 1))) (aFl r) (bKq r))).all fun row=>decide (row.length=1))&&true&&(decide (0<1)&&true&&true&&true)&&true) (.must (aJc (List.take (oR (c18 r) 0).length (oR (c18 r) 0)) (List.take (oR (c18 r) 1).length (oR (c18 r) 1))) (.must ((true&&(List.map aAt (aD1 (aC8 (List.take (oR (c18 r) 0).length (oR (c18 r) 0)) (List.take (oR (c18 r) 1).length (oR (c18 r) 1))) (aFl r) (bKq r))).all fun row=>decide (row.length=1))&&true&&(decide (0<1)&&true&&true&&true)&&true) (.ask (!aXy (aAu (nds (List.take (oR (c18 r) 0).length (oR (c18 r) 0))) (ens (List.take (oR (c18 r) 1).length (oR (c18 r) 1)))) (aFl r)==aXy (aAu (nds (List.take (oR (c18 r) 0).length (oR (c18 r) 0))) (ens (List.take (oR (c18 r) 1).length (oR (c18 r) 1)))) (aFl r)) (.ret [C.bool false]) (.ask (aJ5 (aAu (nds (List.take (oR (c18 r) 0).length (oR (c18 r) 0))) (ens (List.take (oR (c18 r) 1).length (oR (c18 r) 1)))) (aFl r) != aJ5 (aAu (nds (List.take (oR (c18 r) 0).length (oR (c18 r) 0))) (ens (List.take (oR (c18 r) 1).length (oR (c18 r) 1)))) (aFl r)) (.ret [C.bool false]) (.ask (aEd (aC8 (List.take (oR (c18 r) 0).length (oR (c18 r) 0)) (List.take (oR (c18 r) 1).length (oR (c18 r) 1))).length (aFl r) (bKq r) != aEd (aC8 (List.take (oR (c18 r) 0).length (oR (c18 r) 0)) (List.take (oR (c18 r) 1).length (oR (c18 r) 1))).length (aFl r) (bKq r)) (.ret [C.bool false]) (.must (decide ((List.take (List.map aAt (aD1 (aC8 (List.take (oR (c18 r) 0).length (oR (c18 r) 0)) (List.take (oR (c18 r) 1).length (oR (c18 r) 1))) (aFl r) (bKq r))).length (List.map aAt (aD1 (aC8 (List.take (oR (c18 r) 0).length (oR (c18 r) 0)) (List.take (oR (c18 r) 1).length (oR (c18 r) 1))) (aFl r) (bKq r)))).length≤1073741824)&&(aAp [K.str] (List.take (List.map aAt (aD1 (aC8 (List.take (oR (c18 r) 0).length (oR (c18 r) 0)) (List.take (oR (c18 r) 1).length (oR (c18 r) 1))) (aFl r) (bKq r))).length (List.map aAt (aD1 (aC8 (List.take (oR (c18 r) 0).length (oR (c18 r) 0)) (List.take (oR (c18 r) 1).length (oR (c18 r) 1))) (aFl r) (bKq r))))&&aAp [K.str] (List.take (List.map aAt (aD1 (aC8 (List.take (oR (c18 r) 0).length (oR (c18 r) 0)) (List.take (oR (c18 r) 1).length (oR (c18 r) 1))) (aFl r) (bKq r))).length (List.map aAt (aD1 (aC8 (List.take (oR (c18 r) 0).length (oR (c18 r) 0)) (List.take (oR (c18 r) 1).length (oR (c18 r) 1))) (aFl r) (bKq r)))))) (.ask (decide (aCp (List.take (List.map aAt (aD1 (aC8 (List.take (oR (c18 r) 0).length (oR (c18 r) 0)) (List.take (oR (c18 r) 1).length (oR (c18 r) 1))) (aFl r) (bKq r))).length (List.map aAt (aD1 (aC8 (List.take (oR (c18 r) 0).length (oR (c18 r) 0)) (List.take (oR (c18 r) 1).length (oR (c18 r) 1))) (aFl r) (bKq r))))=aCp (List.take (List.map aAt (aD1 (aC8 (List.take (oR (c18 r) 0).length (oR (c18 r) 0)) (List.take (oR (c18 r) 1).length (oR (c18 r) 1))) (aFl r) (bKq r))).length (List.map aAt (aD1 (aC8 (List.take (oR (c18 r) 0).length (oR (c18 r) 0)) (List.take (oR (c18 r) 1).length (oR (c18 r) 1))) (aFl r) (bKq r)))))) (.ask (decide (aFl r<(0:Int))) (.ask (decide (aI7 (aC8 (List.take (oR (c18 r) 0).length (oR (c18 r) 0)) (List.take (oR (c18 r) 1).length (oR (c18 r) 1))).length (aFl r)=(1:Int))) (.ask (aKq (aC8 (List.take (oR (c18 r) 0).length (oR (c18 r) 0)) (List.take (oR (c18 r) 1).length (oR (c18 r) 1))) (aFl r)==[]) (.ask (decide (aJ5 (aAu (nds (List.take (oR (c18 r) 0).length (oR (c18 r) 0))) (ens (List.take (oR (c18 r) 1).length (oR (c18 r) 1)))) (aFl r)=(1:Int))) (.ret [C.bool true]) (.ret [C.bool false])) (.ret [C.bool false])) (.ret [C.bool false])) (.ask (decide ((↑(List.map aAt (aB5 (aAu (nds (List.take (oR (c18 r) 0).length (oR (c18 r) 0))) (ens (List.take (oR (c18 r) 1).length (oR (c18 r) 1)))))).length:Int)≤aFl r)) (.ask (decide (aI7 (aC8 (List.take (oR (c18 r) 0).length (oR (c18 r) 0)) (List.take (oR (c18 r) 1).length (oR (c18 r) 1))).length (aFl r)=(1:Int))) (.ask (aKq (aC8 (List.take (oR (c18 r) 0).length (oR (c18 r) 0)) (List.take (oR (c18 r) 1).length (oR (c18 r) 1))) (aFl r)==[]) (.ask (decide (aJ5 (aAu (nds (List.take (oR (c18 r) 0).length (oR (c18 r) 0))) (ens (List.take (oR (c18 r) 1).length (oR (c18 r) 1)))) (aFl r)=(1:Int))) (.ret [C.bool true]) (.ret [C.bool false])) (.ret [C.bool false])) (.ret [C.bool false])) (.ask (decide (aI7 (aC8 (List.take (oR (c18 r) 0).length (oR (c18 r) 0)) (List.take (oR (c18 r) 1).length (oR (c18 r) 1))).length (aFl r)=(0:Int))) (.must (decide ((0:Int)≤aFl r)&&decide (aFl r<(↑(List.map aAt (aB5 (aAu (nds (List.take (oR (c18 r) 0).length (oR (c18 r) 0))) (ens (List.take (oR (c18 r) 1).length (oR (c18 r) 1)))))).length:Int))) (.must (decide (0+(aFl r).toNat<(List.map aAt (aB5 (aAu (nds (List.take (oR (c18 r) 0).length (oR (c18 r) 0))) (ens (List.take (oR (c18 r) 1).length (oR (c18 r) 1)))))).length)&&(decide (0<((List.map aAt (aB5 (aAu (nds (List.take (oR (c18 r) 0).length (oR (c18 r) 0))) (ens (List.take (oR (c18 r) 1).length (oR (c18 r) 1)))))).getD (0+(aFl r).toNat) []).length)&&C.is K.str (((List.map aAt (aB5 (aAu (nds (List.take (oR (c18 r) 0).length (oR (c18 r) 0))) (ens (List.take (oR (c18 r) 1).length (oR (c18 r) 1)))))).getD (0+(aFl r).toNat) []).getD 0 (C.fn 0 []))&&true)) (.ask (aKq (aC8 (List.take (oR (c18 r) 0).length (oR (c18 r) 0)) (List.take (oR (c18 r) 1).length (oR (c18 r) 1))) (aFl r)==(((List.map aAt (aB5 (aAu (nds (List.take (oR (c18 r) 0).length (oR (c18 r) 0))) (ens (List.take (oR (c18 r) 1).length (oR (c18 r) 1)))))).getD (0+(aFl r).toNat) []).getD 0 (C.fn 0 [])).toStr) (.ask (decide (aJ5 (aAu (nds (List.take (oR (c18 r) 0).length (oR (c18 r) 0))) (ens (List.take (oR (c18 r) 1).length (oR (c18 r) 1)))) (aFl r)=(2:Int))) (.ask (aXy (aAu (nds (List.take (oR (c18 r) 0).length (oR (c18 r) 0))) (ens (List.take (oR (c18 r) 1).length (oR (c18 r) 1)))) (aFl r)==[]) (.ret [C.bool true]) (.ask (decide (aJ5 (aAu (nds (List.take (oR (c18 r) 0).length (oR (c18 r) 0))) (ens (List.take (oR (c18 r) 1).length (oR (c18 r) 1)))) (aFl r)=(0:Int))) (.ask (aXy (aAu (nds (List.take (oR (c18 r) 0).length (oR (c18 r) 0))) (ens (List.take (oR (c18 r) 1).length (oR (c18 r) 1)))) (aFl r)==aKq (aC8 (List.take (oR (c18 r) 0).length (oR (c18 r) 0)) (List.take (oR (c18 r) 1).length (oR (c18 r) 1))) (aFl r)) (.ret [C.bool true]) (.ret [C.bool false])) (.ret [C.bool false]))) (.ask (decide (aJ5 (aAu (nds (List.take (oR (c18 r) 0).length (oR (c18 r) 0))) (ens (List.take (oR (c18 r) 1).length (oR (c18 r) 1)))) (aFl r)=(0:Int))) (.ask (aXy (aAu (nds (List.take (oR (c18 r) 0).length (oR (c18 r) 0))) (ens (List.take (oR (c18 r) 1).length (oR (c18 r) 1)))) (aFl r)==aKq (aC8 (List.take (oR (c18 r) 0).length (oR (c18 r) 0)) (List.take (oR (c18 r) 1).length (oR (c18 r) 1))) (aFl r)) (.ret [C.bool true]) (.ret [C.bool false])) (.ret [C.bool false]))) (.ret [C.bool false])))) (.ret [C.bool false])))) (.ret [C.bool false]))))))))))))))))))))))))):T (List C)).eval:=aAj (by kernel_rfl)
theorem bRw:aAa Tryz.prog bCs:=aA8 (by simp[aRb])
theorem bAj:aAx Tryz.prog 15 (⟨[aQ8],[aBz,rI],true⟩) aQi:=aA6 bRw aAb Tryz.func15 (by kernel_rfl) fun cs outs hk h=>by
 unfold aQi at h
 split at h
 ·simp only[Option.some.injEq,Prod.mk.injEq]at h
  obtain⟨h1,rfl⟩:=h
  rename_i rows
  rw[aAd,bE7]
  exact aA5 h1 (aA5 (aIi (aIb (bQ1 rows h1) (by omega))) (aA5 (by simp only[decide_true,Bool.true_or,Bool.and_self,Bool.and_true]) rfl))
 ·cases h
theorem bI8:aAa Tryz.prog aUx:=bJa (by simp[aFo,aR6,aRb])
theorem aVb:aAx Tryz.prog 22 (⟨[aQ8],[aBz,rI,rI],true⟩) bGd:=aA6 bI8 (bH5 bPx) Tryz.func22 (by kernel_rfl) fun cs outs hk h=>by
 unfold bGd at h
 split at h
 ·simp only[Option.some.injEq,Prod.mk.injEq]at h
  obtain⟨h1,rfl⟩:=h
  rename_i rows
  have hd:=aIb (bQ1 rows h1) (by omega)
  have dk:=cBi rows h1
  rw[aAd,aXd]
  simp only[List.take_length]
  exact aA5 h1 (aA5 (aIi hd) (aA5 h1 (aA5 dk (aA5 dk (aA5 (by rw[h1];rfl) (aA5 (by simp only[decide_true,Bool.true_or,Bool.and_self,Bool.and_true]) rfl))))))
 ·cases h
theorem cDk (rows:List (List C)) (hl:(bXk rows).length≤16777216):inB (aFl rows) (-9223372036854775808) 9223372036854775807=true:=by
 unfold aFl
 have w:IntKind.i64.wrap (((bXk rows).length:Int)-1)=(bXk rows).length-1:=by rw[aAh]<;>omega
 rw[w]
 generalize (aAm rows _ _ 8).toNat=k
 refine (aBi _ _ _).2 ?_
 match k with
 |0 | 1 | 2 | 3 | 6 | 7=>exact⟨by simp,by simp⟩
 |4=>exact⟨by show (-9223372036854775808:Int)≤((bXk rows).length:Int)-1;omega,by show ((bXk rows).length:Int)-1≤9223372036854775807;omega⟩
 |5=>exact⟨by show (-9223372036854775808:Int)≤((bXk rows).length:Int);omega,by show ((bXk rows).length:Int)≤9223372036854775807;omega⟩
 |k+8=>exact⟨by simp,by simp⟩
theorem bPv:∀ (c:List Lk) (b i:Int) (x:Lk),aNw c b→aKv c i=some x→b≤i∧aA9 x.2=true∧(aAn x.2).getD (i-rhB x.2).toNat []=(aB5 c).getD (i-b).toNat []
 |[],_,_,_,_,h=>by cases h
 |y::r,b,i,x,hc,h=>by
  obtain⟨a1,a2,a3,a4,a5⟩:=hc
  have e:aB5 (y::r)=aAn y.2++aB5 r:=by simp[aB5]
  rw[e]
  simp only[aKv,a2,ifI,if_true,a3,aNy]at h
  split at h
  ·rename_i hi
   obtain rfl:=Option.some.inj h
   refine⟨hi.1,a2,?_⟩
   rw[a3,List.getD_eq_getElem?_getD,List.getD_eq_getElem?_getD,List.getElem?_append_left (by omega)]
  ·rename_i hi
   obtain⟨h1,h2,h3⟩:=bPv r _ i x a5 h
   refine⟨by omega,h2,?_⟩
   rw[h3,List.getD_eq_getElem?_getD,List.getD_eq_getElem?_getD,List.getElem?_append_right (by omega)]
   congr 2
   omega
theorem cGi {ns es os ss:List (List C)} (h:aFj ns es os ss=true):((true&&ns.all fun row=>decide (row.length=3))&&((true&&es.all fun row=>decide (row.length=2))&&((true&&os.all fun row=>decide (row.length=2))&&((true&&ss.all fun row=>decide (row.length=1))&&(decide (0<1)&&true&&(decide (0<1)&&true&&true)))))&&(decide (0<1)&&true&&true&&(decide (0<1)&&true&&true&&true))&&true)=true:=by
 rw[bNd h];rfl
theorem bVx {A:Type} [BEq A] [LawfulBEq A] (x:A):(x != x)=false:=by simp
theorem bZa (c:List Lk) (hc:aNw c 0) (i:Int) (h:i<0∨(aB5 c).length≤i):aI7 (aB5 c).length i=1∧aKq (aB5 c) i=[]∧aJ5 c i=1:=by
 have g:aQa (aB5 c).length i=false:=by
  cases hg:aQa (aB5 c).length i with
  |false=>rfl
  |true=>have:=(aKr _ _).1 hg;omega
 have e:=bG5 c 0 i hc (by omega)
 unfold aI7 aKq aJ5 aFi
 rw[g,e]
 exact⟨rfl,rfl,rfl⟩
theorem cCu (c:List Lk) (hc:aNw c 0) (i:Int) (h0:0≤i) (h1:i<(aB5 c).length):aI7 (aB5 c).length i=0∧aKq (aB5 c) i=(aB5 c).getD i.toNat []∧(aJ5 c i=2∧aXy c i=[]∨aJ5 c i=0∧aXy c i=aKq (aB5 c) i):=by
 have g:aQa (aB5 c).length i=true:=(aKr _ _).2 ⟨h0,h1⟩
 obtain⟨x,e,_⟩:=bOa c 0 i 0 hc h0 (by omega)
 obtain⟨_,_,q⟩:=bPv c 0 i x hc e
 have f1:aFi c i=true:=by unfold aFi;rw[e];rfl
 have f2:aBw c i=x:=by unfold aBw;rw[e];rfl
 unfold aI7 aKq aJ5 aXy cG6
 rw[g,f1,f2]
 refine⟨rfl,rfl,?_⟩
 cases hs:aBk x.2 with
 |false=>exact .inl ⟨rfl,rfl⟩
 |true =>
  refine .inr ⟨rfl,?_⟩
  rw[Int.sub_zero]at q
  exact q
theorem bW7:aAa Tryz.prog bLc:=aA8 (by simp[aJk,bFl,bFm,aR8,bFq,aX6,aYf,bJj,bNg,bAd,bB5,bAj,aVb])
theorem bEz:aAx Tryz.prog 4 (sg [aQ8] [rB]) bGc:=aA6 bW7 aAb Tryz.func4 (by kernel_rfl) fun cs outs hk h=>by
 unfold bGc at h
 split at h
 ·simp only[Option.some.injEq,Prod.mk.injEq]at h
  obtain⟨h1,rfl⟩:=h
  rename_i rows
  rw[aAd,bJk]
  by_cases hb:1048576<rows.length
  ·exact aAg (decide_eq_true hb) rfl
  ·have ho:=cFn h1 (by omega)
   have hs:=bQ1 rows ho
   have hd:=aIb hs (by omega)
   have dk:=cBi rows ho
   have ll:=aRi dk
   have hin:=cDk rows ll
   have lr:=aXm (aC8 (oR (c18 rows) 0) (oR (c18 rows) 1)) (aFl rows) (bKq rows)
   have r1:∀ q:List (List UInt8),((true&&(q.map aAt).all fun row=>decide (row.length=1))&&true&&true&&true)=true:=fun q=>by simp
   have r2:∀ q:List (List UInt8),((true&&(q.map aAt).all fun row=>decide (row.length=1))&&true&&(decide (0<1)&&true&&true&&true)&&true)=true:=fun q=>by simp
   have hcc:aNw (aAu (nds (oR (c18 rows) 0)) (ens (oR (c18 rows) 1))) 0:=aHm _ _ 16 0 0
   have e1':aB5 (aAu (nds (oR (c18 rows) 0)) (ens (oR (c18 rows) 1)))=aC8 (oR (c18 rows) 0) (oR (c18 rows) 1):=rfl
   have A:=bZa _ hcc (aFl rows)
   have B:=cCu _ hcc (aFl rows)
   rw[e1']at A B
   simp only[List.take_length,e1',List.length_map]
   refine aAi (decide_eq_false hb) (aA5 ho (aA5 (aIi hd) (aA5 dk (aA5 dk (aA5 (r1 _) (aA5 dk (aAi (by simp) (aA5 dk (aA5 dk (aAi (bVx _) (aA5 (by rw[dk,hin];rfl) (aA5 (by rw[dk,hin];rfl) (aA5 ho (aA5 (cGi hd) (aA5 dk (aA5 (r2 _) (aA5 dk (aA5 (r2 _) (aAi (by simp) (aAi (bVx _) (aAi (bVx _) ?_)))))))))))))))))))))
   generalize aD1 (aC8 (oR (c18 rows) 0) (oR (c18 rows) 1)) (aFl rows) (bKq rows)=m at lr ⊢
   have tkT:List.take m.length (m.map aAt)=m.map aAt:=by rw[List.take_of_length_le];simp
   rw[tkT]
   refine aA5 (by rw[aEy,List.length_map,decide_eq_true (by omega)];rfl) (aAg (decide_eq_true trivial) ?_)
   by_cases c0:aFl rows<0
   ·obtain⟨p1,p2,p3⟩:=A (.inl c0)
    refine aAg (decide_eq_true c0) (aAg (decide_eq_true p1) (aAg (by rw[p2];rfl) (aAg (decide_eq_true p3) rfl)))
   ·refine aAi (decide_eq_false c0) ?_
    by_cases c1:((aC8 (oR (c18 rows) 0) (oR (c18 rows) 1)).length:Int)≤aFl rows
    ·obtain⟨p1,p2,p3⟩:=A (.inr c1)
     refine aAg (decide_eq_true c1) (aAg (decide_eq_true p1) (aAg (by rw[p2];rfl) (aAg (decide_eq_true p3) rfl)))
    ·obtain⟨p1,p2,p3⟩:=B (by omega) (by omega)
     have hk:(aFl rows).toNat<(aC8 (oR (c18 rows) 0) (oR (c18 rows) 1)).length:=by omega
     have g:=aBc aAt (aC8 (oR (c18 rows) 0) (oR (c18 rows) 1)) [] (aFl rows).toNat hk
     rw[Nat.zero_add,g]
     refine aAi (decide_eq_false c1) (aAg (decide_eq_true p1) (aA5 (by rw[decide_eq_true (by omega),decide_eq_true (by omega)];rfl) (aA5 (by rw[decide_eq_true hk];rfl) (aAg (by rw[p2];simp[C.toStr]) ?_))))
     rcases p3 with⟨p3,p4⟩ | ⟨p3,p4⟩
     ·exact aAg (decide_eq_true p3) (aAg (by rw[p4];rfl) rfl)
     ·exact aAi (by rw[p3];rfl) (aAg (decide_eq_true p3) (aAg (by rw[p4];simp) rfl))
 ·cases h
end Go.Proofs.YtajoeindkdhofaaGreatDoor.V
