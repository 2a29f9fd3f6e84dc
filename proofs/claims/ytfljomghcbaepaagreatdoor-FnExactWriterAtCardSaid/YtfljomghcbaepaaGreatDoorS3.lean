/- Functions of the given program and of its reference: what each returns, as an equation over data; by the interpreter. -/
import Derived.Test.YtfljomghcbaepaaGreatDoorS2
import Derived.Test.YtfljomghcbaepaaGreatDoorProg
import Derived.KernelRfl
import Derived.Lib.Builder
import Derived.Lib.AppendStr
import Derived.Lib.UnsafeStr
import Derived.Lib.Walk
import Derived.WalkKit
import Derived.RegionTactic
import Derived.Lib.Strings
import Derived.Lib.BufferWrite
import Derived.Laws.MakeOwn
set_option linter.unusedVariables false
set_option linter.unusedSimpArgs false
set_option linter.unusedSectionVars false
set_option linter.deprecated false
namespace Go.Proofs.YtfljomghcbaepaaGreatDoor.V
theorem aL2 (s:Int) (os:List Int) (i:Nat) (hs:1≤s) (hm:(i:Int) % s=0):∀ d:Nat,(d:Int)<s→aBa s os (i+1+d)=aBa s os (i+1)
 |0,_=>rfl
 |d+1,h=>by
  show aBa s os (i+1+d+1)=_
  rw[aBa,aL2 s os i hs hm d (by omega)]
  have:((i+1+d:Nat):Int) % s=(d:Int)+1:=by
   have e:((i+1+d:Nat):Int)=(i:Int)+((d:Int)+1):=by omega
   rw[e,Int.add_emod,hm,Int.zero_add,Int.emod_emod_of_dvd _ (Int.dvd_refl s),Int.emod_eq_of_lt (by omega) (by omega)]
  rw[this,if_neg (by omega),List.append_nil]
theorem aYr (s:Int) (os:List Int) (hs:1≤s) (hl:os.length≤1048576):∀ (f n i:Nat),os.length-i≤f→i≤os.length→(i:Int) % s=0→f<n →
  (aBl aK4 aAb (⟨[pI,bIn],[bUa],true⟩) Tryz.f185 [.r,.r,.r,.l,.r,.b] n (aJy s (os.map aEf) (aBa s os i).length ((aBa s os i).map ePl) i)).eval=some [.sl ((aBa s os os.length).map ePl)]:=by
 intro f
 induction f with
 |zero =>
  intro n i h1 h2 h3 h4
  obtain⟨n,rfl⟩:∃ q,n=q+1:=⟨n-1,by omega⟩
  rw[aAo _ _ _ _ _ _ _ (by kernel_rfl),aKf]
  have c:¬((i:Int)<(os.length:Int)):=by omega
  have ei:i=os.length:=by omega
  simp only[List.length_map,aA2,aA0,aA1,decide_eq_true_eq,c,if_false,decide_true,Bool.true_or,Bool.and_self,if_true]
  rw[ei]
 |succ f ih =>
  intro n i h1 h2 h3 h4
  obtain⟨n,rfl⟩:∃ q,n=q+1:=⟨n-1,by omega⟩
  rw[aAo _ _ _ _ _ _ _ (by kernel_rfl),aKf]
  by_cases c:(i:Int)<(os.length:Int)
  ·have hi:i<os.length:=by omega
   have z:(0:Int)≤(i:Int):=by omega
   have g:=aB1 aEf os 0 i hi
   have pl:=aHv s os i
   have ro:aBg ((aBa s os i).length+1) 16=true:=by simp only[aBg,decide_eq_true_eq];omega
   have w:IntKind.i64.wrap ((os.length:Int)-(i:Int))=(os.length:Int)-i:=by rw[aAh]<;>omega
   have ep:aBa s os (i+1)=aBa s os i++[((i:Int),os.getD i 0)]:=by simp only[aBa,h3,if_true]
   simp only[List.length_map,aA2,aA0,aA1,decide_eq_true_eq,c,z,Int.toNat_natCast,g,w,ro,hi,if_true,decide_true,Bool.and_true,Bool.true_and,Bool.and_self,List.length_cons,List.length_nil,Nat.zero_add,Nat.zero_lt_one,C.is,beq_self_eq_true,List.getD_cons_zero,C.toInt]
   by_cases hb:(os.length:Int)-i<s
   ·have e1:=aL2 s os i hs h3 (os.length-(i+1)) (by omega)
    rw[show i+1+(os.length-(i+1))=os.length by omega,ep]at e1
    simp only[hb,if_true]
    rw[e1]
    simp[ePl]
   ·obtain⟨k,rfl⟩:∃ k:Nat,s=k:=⟨s.toNat,by omega⟩
    have e1:=aL2 k os i hs h3 (k-1) (by omega)
    rw[show i+1+(k-1)=i+k by omega,ep]at e1
    have w2:IntKind.i64.wrap ((i:Int)+(k:Int))=((i+k:Nat):Int):=by rw[aAh]<;>omega
    have e:=ih n (i+k) (by omega) (by omega) (by rw[show ((i+k:Nat):Int)=(i:Int)+k by omega,Int.add_emod_right];exact h3) (by omega)
    rw[e1,List.map_append,List.length_append]at e
    simp only[hb,if_false,w2]
    exact e
  ·have ei:i=os.length:=by omega
   simp only[List.length_map,aA2,aA0,aA1,decide_eq_true_eq,c,if_false,decide_true,Bool.true_or,Bool.and_self,if_true]
   rw[ei]
theorem bL3:aA6 Tryz.prog aK4:=aA5 (by simp[])
theorem aVw:aAm Tryz.prog 185 (⟨[pI,bIn],[bUa],true⟩) aEu:=aA3 bL3 aA7 Tryz.func185 (by kernel_rfl) fun cs outs hk h=>by
 unfold aEu at h
 split at h
 ·simp only[Option.some.injEq,Prod.mk.injEq,Bool.and_eq_true,decide_eq_true_eq]at h
  obtain⟨⟨h1,h2⟩,rfl⟩:=h
  rename_i s o
  have hr:=aG9 h1
  generalize aCp o=os at hr ⊢
  subst hr
  rw[List.length_map]at h2
  rw[aA9,aYq]
  by_cases hs:s<1
  ·have ep:aAp s os=[]:=by unfold aAp;rw[if_pos hs]
   rw[ep]
   simp only[aA2,aA1,decide_eq_true_eq,hs,if_true]
   rfl
  ·have e:=aYr s os (by omega) h2 os.length 9223372036854775808 0 (by omega) (by omega) (by simp) (by omega)
   have ep:aAp s os=aBa s os os.length:=by unfold aAp;rw[if_neg hs]
   rw[ep]
   simp only[aA2,decide_eq_true_eq,hs,if_false]
   exact e
 ·cases h
theorem bIr (x:Int):IntKind.u64.wrap x=x % 18446744073709551616:=by
 simp only[IntKind.wrap,IntKind.bits,IntKind.signed]
 first
  |rfl
  |simp
theorem aNq (n:Int) (h:¬(0≤n∧n≤1000000000)):aAr n=[]:=by
 unfold aAr
 rw[if_neg (fun hh=>h ((aBb _ _ _).1 hh))]
theorem bNw (x:Int) (h1:9223372036854775807<x) (h2:x<18446744073709551616):IntKind.i64.wrap x<0:=by
 simp only[IntKind.wrap,IntKind.bits,IntKind.signed]
 first
  |(split<;>omega)
  |(simp;split<;>omega)
theorem bW5:aA6 Tryz.prog bNr:=aA5 (by simp[aIg])
theorem bH8:aAm Tryz.prog 201 (sg [pI,pI] [rS]) aWr:=aA3 bW5 aA7 Tryz.func201 (by kernel_rfl) fun cs outs hk h=>by
 unfold aWr at h
 split at h
 ·simp only[Option.some.injEq,Prod.mk.injEq,Bool.and_eq_true,aBb]at h
  obtain⟨⟨h1,h2⟩,rfl⟩:=h
  rename_i a b
  rw[aA9,bLe]
  unfold aGi
  by_cases c:a<b
  ·simp only[aA2,aA1,decide_eq_true_eq,c,if_true,true_or]
   rw[aNq (-1) (by omega)]
  ·have eu:IntKind.u64.wrap (IntKind.u64.wrap a-IntKind.u64.wrap b)=a-b:=by
    rw[bIr,bIr,bIr]
    omega
   simp only[aA2,aA1,decide_eq_true_eq,c,if_false,eu,false_or]
   by_cases d:1000000000<a-b
   ·rw[if_pos d]
    by_cases e:a-b≤9223372036854775807
    ·have w:IntKind.i64.wrap (a-b)=a-b:=by rw[aAh]<;>omega
     rw[w,if_neg (by omega),aNq (a-b) (by omega)]
    ·rw[if_pos (bNw _ (by omega) (by omega)),aNq (-1) (by omega)]
   ·have w:IntKind.i64.wrap (a-b)=a-b:=by rw[aAh]<;>omega
    rw[if_neg d,w,if_neg (by omega)]
 ·cases h
theorem aSs (l:List Pl) (hl:l.length≤1048576) (ho:∀ p∈l,bX6 p=true):∀ (f n i:Nat) (q:Pl) (t:List UInt8),i+f=l.length→f<n→t.length≤5+10*i→0<t.length→bX6 q=true →
  (aBl aGx (bX9 bXe) (⟨[bUb],[rS],true⟩) Tryz.f184 [.r,.r,.r,.r,.l,.r,.b] n (aGv (l.map ePl) t q.1 q.2 i)).eval=some [.str (match bFv q (l.drop i)with | some x=>t++x | none=>[])]:=by
 intro f
 induction f with
 |zero =>
  intro n i q t h1 h2 h3 h4 h5
  obtain⟨n,rfl⟩:∃ q,n=q+1:=⟨n-1,by omega⟩
  rw[aAo _ _ _ _ _ _ _ (by kernel_rfl),aHz]
  have c:¬((i:Int)<(l.length:Int)):=by omega
  have hd:l.drop i=[]:=List.drop_eq_nil_of_le (by omega)
  have n0:¬((5:TypeId)=0):=by decide
  simp only[List.length_map,aA2,aA0,aA1,decide_eq_true_eq,c,if_false,hd,bFv,List.append_nil,n0,not_false_eq_true,h4,decide_true,Bool.and_self,if_true]
 |succ f ih =>
  intro n i q t h1 h2 h3 h4 h5
  obtain⟨n,rfl⟩:∃ q,n=q+1:=⟨n-1,by omega⟩
  rw[aAo _ _ _ _ _ _ _ (by kernel_rfl),aHz]
  have hi:i<l.length:=by omega
  have c:(i:Int)<(l.length:Int):=by omega
  have z:(0:Int)≤(i:Int):=by omega
  have g:=aB1 ePl l (0,0) i hi
  have hd:=aBq l i (0,0) hi
  have hm:l.getD i (0,0)∈l:=by rw[List.getD_eq_getElem?_getD,List.getElem?_eq_getElem hi];exact List.getElem_mem hi
  have hp:=ho _ hm
  generalize l.getD i (0,0)=p at g hd hp
  have w:IntKind.i64.wrap ((i:Int)+1)=((i+1:Nat):Int):=by rw[aAh]<;>omega
  have v1:=aCj (aGi p.1 q.1)
  have v2:=aCj (aGi p.2 q.2)
  have hp':=hp
  have h5':=h5
  unfold bX6 at hp' h5'
  simp only[Bool.and_eq_true]at hp' h5'
  have m1:(aAr (aGi p.1 q.1)).length+(aAr (aGi p.2 q.2)).length≤9223372036854775807:=by omega
  have m2:t.length+((aAr (aGi p.1 q.1)).length+(aAr (aGi p.2 q.2)).length)≤140737488355328:=by omega
  have m3:0<t.length+((aAr (aGi p.1 q.1)).length+(aAr (aGi p.2 q.2)).length):=by omega
  have e:=ih n (i+1) p (t++(aAr (aGi p.1 q.1)++aAr (aGi p.2 q.2))) (by omega) (by omega) (by simp only[List.length_append];omega) (by simp only[List.length_append];omega) hp
  rw[hd]
  simp only[List.length_map,aA2,aA0,aA1,decide_eq_true_eq,c,z,Int.toNat_natCast,g,w,if_true,decide_true,Bool.and_true,Bool.true_and,Bool.and_self,ePl,List.length_cons,List.length_nil,C.is,beq_self_eq_true,List.getD_cons_zero,List.getD_cons_succ,C.toInt,Nat.zero_add,Nat.reduceAdd,Nat.reduceLT,beq_iff_eq,List.length_append,m1,m2,m3,hp'.1,hp'.2,h5'.1,h5'.2,bFv]
  by_cases a1:aAr (aGi p.1 q.1)=[]
  ·simp only[a1,true_or,if_true]
  ·by_cases a2:aAr (aGi p.2 q.2)=[]
   ·simp only[a1,a2,or_true,if_true,if_false]
   ·simp only[a1,a2,or_self,if_false]
    refine e.trans ?_
    cases bFv p (l.drop (i+1))with
    |none=>rfl
    |some x=>simp only[Option.map_some,List.append_assoc]
theorem bO1 (n:Nat) (h:n≤1000000000):0<(aAr (n:Int)).length:=by
 unfold aAr
 rw[if_pos ((aBb _ _ _).2 ⟨by omega,by omega⟩)]
 unfold aCm
 split<;>simp
theorem bCy:aA6 Tryz.prog aGx:=bG7 (by simp[aIg,bH8])
theorem aR1:aAm Tryz.prog 184 (⟨[bUb],[rS],true⟩) aHb:=aA3 bCy (bS7 bTs) Tryz.func184 (by kernel_rfl) fun cs outs hk h=>by
 unfold aHb at h
 split at h
 ·simp only[Option.some.injEq,Prod.mk.injEq,Bool.and_eq_true,decide_eq_true_eq,List.all_eq_true]at h
  obtain⟨⟨h1,h2,h3⟩,rfl⟩:=h
  rename_i r
  have hr:=bMh h1
  generalize pls r=l at hr h3 ⊢
  subst hr
  rw[List.length_map]at h2
  rw[aA9,aSr,List.length_map]
  have v1:=aCj (l.length:Int)
  have v0:=bO1 l.length (by omega)
  have e:=aSs l h2 h3 l.length 9223372036854775808 0 (0,0) (aAr (l.length:Int)) (by omega) (by omega) (by omega) v0 (by decide)
  have m1:0+(aAr (l.length:Int)).length≤140737488355328:=by omega
  have m2:0<0+(aAr (l.length:Int)).length:=by omega
  rw[aA0,if_pos (by rw[decide_eq_true m1,decide_eq_true m2];rfl)]
  exact e
 ·cases h
theorem bCo (a b c d:Int) (hx:∀ i,i<4→ -9223372036854775808≤([a,b,c,d]:List Int).getD i 0∧([a,b,c,d]:List Int).getD i 0≤9223372036854775807):∀ (f n i:Nat) (t:List UInt8),i+f=4→f<n→t.length≤8*i →
  (aBl aN0 aAb (sg [pI,pI,pI,pI] [rS]) Tryz.f186 [.r,.r,.l,.r,.b] n (aMk t a b c d i)).eval=some [.str (bO5 (([a,b,c,d]:List Int).drop i) t)]:=by
 intro f
 induction f with
 |zero =>
  intro n i t h1 h2 h3
  obtain⟨n,rfl⟩:∃ q,n=q+1:=⟨n-1,by omega⟩
  rw[aAo _ _ _ _ _ _ _ (by kernel_rfl),aLb]
  have c4:¬((i:Int)<((4:Nat):Int)):=by omega
  have hd:([a,b,c,d]:List Int).drop i=[]:=List.drop_eq_nil_of_le (by simp;omega)
  have m:t.length+4≤9223372036854775807:=by omega
  simp only[aA2,aA0,aA1,decide_eq_true_eq,c4,if_false,hd,bO5,m,if_true]
 |succ f ih =>
  intro n i t h1 h2 h3
  obtain⟨n,rfl⟩:∃ q,n=q+1:=⟨n-1,by omega⟩
  rw[aAo _ _ _ _ _ _ _ (by kernel_rfl),aLb]
  have hi:i<4:=by omega
  have c4:(i:Int)<((4:Nat):Int):=by omega
  have z:(0:Int)≤(i:Int):=by omega
  have g:=bT2 a b c d i hi
  have hd:=aBq ([a,b,c,d]:List Int) i 0 hi
  have hx1:=hx i hi
  generalize ([a,b,c,d]:List Int).getD i 0=x at g hd hx1
  have w:IntKind.i64.wrap ((i:Int)+1)=((i+1:Nat):Int):=by rw[aAh]<;>omega
  have v1:=aB5 x 4
  have m1:t.length+(aAg x 4).length≤9223372036854775807:=by omega
  have e:=ih n (i+1) (t++aAg x 4) (by omega) (by omega) (by simp only[List.length_append];omega)
  have k1:i<(((Nat.add 1 0).succ.add 0).succ.add 0).succ:=by show i<4;omega
  rw[hd]
  simp only[aA2,aA0,aA1,decide_eq_true_eq,c4,z,Int.toNat_natCast,k1,g,w,if_true,decide_true,Bool.and_true,Bool.true_and,Bool.and_self,List.length_cons,List.length_nil,C.is,beq_self_eq_true,List.getD_cons_zero,C.toInt,Nat.zero_add,Nat.zero_lt_one,hx1.1,hx1.2,beq_iff_eq,m1,bO5]
  by_cases a1:aAg x 4=[]
  ·simp only[a1,if_true]
  ·simp only[a1,if_false]
   exact e
theorem bPg:aA6 Tryz.prog aN0:=aA5 (by simp[aEk])
theorem aYh:aAm Tryz.prog 186 (sg [pI,pI,pI,pI] [rS]) aFo:=aA3 bPg aA7 Tryz.func186 (by kernel_rfl) fun cs outs hk h=>by
 unfold aFo at h
 split at h
 ·simp only[Option.some.injEq,Prod.mk.injEq,Bool.and_eq_true,aBb]at h
  obtain⟨⟨ha,hb,hc,hd⟩,rfl⟩:=h
  rename_i a b c d
  rw[aA9,bCn]
  exact bCo a b c d (fun i hi=>by
   match i,hi with
   |0,_=>exact ha
   |1,_=>exact hb
   |2,_=>exact hc
   |3,_=>exact hd) 4 9223372036854775808 0 [] (by omega) (by omega) (by simp)
 ·cases h
theorem aRm (s:Int) (os:List Int):∀ (i:Nat) (p:Pl),p∈aBa s os i→∃ j,j<i∧p=((j:Int),os.getD j 0)
 |0,p,h=>by simp[aBa]at h
 |i+1,p,h=>by
  simp only[aBa,List.mem_append]at h
  rcases h with h | h
  ·obtain⟨j,h1,h2⟩:=aRm s os i p h
   exact⟨j,by omega,h2⟩
  ·split at h
   ·simp only[List.mem_singleton]at h
    exact⟨i,by omega,h⟩
   ·simp at h
theorem bOy (s:Int) (os:List Int) (p:Pl) (h:p∈aAp s os):∃ j,j<os.length∧p=((j:Int),os.getD j 0):=by
 unfold aAp at h
 split at h
 ·simp at h
 ·exact aRm s os _ p h
theorem bRt (s:Int) (os:List Int) (hl:os.length≤1048576) (h:os.all okI=true):(aAp s os).all bX6=true:=by
 simp only[List.all_eq_true]at h ⊢
 intro p hp
 obtain⟨j,hj,rfl⟩:=bOy s os p hp
 have hm:os.getD j 0∈os:=by rw[List.getD_eq_getElem?_getD,List.getElem?_eq_getElem hj];exact List.getElem_mem hj
 unfold bX6
 simp only[Bool.and_eq_true]
 exact⟨(aBb _ _ _).2 ⟨by omega,by omega⟩,h _ hm⟩
theorem bYp:aA6 Tryz.prog bU4:=aA5 (by simp[aHy,aJk,aNj,aVw,aR1,aYh])
theorem bLa:aAm Tryz.prog 142 (⟨[aEb,bIn,pI],[rS],true⟩) aW7:=aA3 bYp aA7 Tryz.func142 (by kernel_rfl) fun cs outs hk h=>by
 unfold aW7 at h
 split at h
 ·simp only[Option.some.injEq,Prod.mk.injEq,Bool.and_eq_true,decide_eq_true_eq,aBb]at h
  obtain⟨⟨h1,h2,h3,h4⟩,rfl⟩:=h
  rename_i v s b l o e
  have hr:=aG9 h1
  rw[aA9,bPn]
  generalize aCp o=os at hr h4 ⊢
  subst hr
  simp only[List.length_map]at h1 h2 ⊢
  by_cases hh:aCq v s b l=true
  ·obtain⟨hv,hs,hb,hl⟩:=(aEe v s b l).1 hh
   have w:IntKind.i64.wrap (b+(os.length:Int))=b+os.length:=by rw[aAh]<;>omega
   have pl:=aM0 s os
   have tk:List.take (aAp s os).length (List.map ePl (aAp s os))=List.map ePl (aAp s os):=List.take_of_length_le (by simp)
   have i1:inB e (-9223372036854775808) 9223372036854775807=true:=(aBb _ _ _).2 h3
   have i2:inB (os.length:Int) (-9223372036854775808) 9223372036854775807=true:=(aBb _ _ _).2 ⟨by omega,by omega⟩
   have i3:inB s (-9223372036854775808) 9223372036854775807=true:=(aBb _ _ _).2 ⟨by omega,by omega⟩
   have i4:inB 0 (-9223372036854775808) 9223372036854775807=true:=rfl
   have l1:=aJp v (b+os.length)
   have l2:=aIc (aAp s os)
   have p1:(aAp s os).length≤1048576:=by omega
   have p2:(aAp s os).all bX6=true:=bRt s os (by omega) h4
   simp only[aA2,aA0,aA1,hh,if_true,w,tk,p2,bRs,bSb,aZj,h1,h2,i1,i2,i3,i4,List.length_map,p1,decide_true,Bool.and_self,Bool.true_and,beq_iff_eq,List.drop_zero]
   unfold aBp
   by_cases c1:aAx v (b+os.length)=[]
   ·rw[if_pos c1,if_pos (.inr (.inl c1))]
   ·by_cases c2:aAw (aAp s os)=[]
    ·rw[if_neg c1,if_pos c2,if_pos (.inr (.inr (.inl c2)))]
    ·by_cases c3:aBc e os.length s 0=[]
     ·rw[if_neg c1,if_neg c2,if_pos c3,if_pos (.inr (.inr (.inr c3)))]
     ·have t20:(aBc e os.length s 0).length=20:=by
       rcases aNs e os.length s 0 with h | h
       ·exact absurd h c3
       ·exact h
      have hn:¬(aCq v s b l=false∨aAx v (b+os.length)=[]∨aAw (aAp s os)=[]∨aBc e os.length s 0=[]):=by
       intro h
       rcases h with h | h | h | h
       ·rw[hh]at h;cases h
       ·exact c1 h
       ·exact c2 h
       ·exact c3 h
      rw[if_neg c1,if_neg c2,if_neg c3,if_neg hn]
      have t12:Int.toNat 12=12:=rfl
      have d0:List.drop 0 (List.take 12 (aBc e os.length s 0))=List.take 12 (aBc e os.length s 0):=rfl
      have cl:=aDi 0 (aAx v (b+os.length)++aAw (aAp s os)++(aBc e os.length s 0).take 12) (by omega)
      have i5:∀ z:Nat,z<4294967296→inB (Int.ofNat z) (-9223372036854775808) 9223372036854775807=true:=fun z hz=>(aBb _ _ _).2 ⟨by show _≤(z:Int);omega,by show (z:Int)≤_;omega⟩
      have l3:=aQ2 e os.length s (Int.ofNat (aAs 0 (aAx v (b+os.length)++aAw (aAp s os)++(aBc e os.length s 0).take 12)))
      rw[t12]
      rw[if_pos (decide_eq_true (by omega)),if_pos (by rw[t20];rfl),if_pos (decide_eq_true (by simp only[List.length_append,List.length_take];omega)),if_pos (decide_eq_true (by simp only[List.length_append,List.length_take];omega)),if_pos (decide_eq_true (by omega)),if_pos (i5 _ cl),if_pos (decide_eq_true (by simp only[List.length_append];omega))]
      rfl
  ·have hh':aCq v s b l=false:=by simpa using hh
   simp only[aA2,aA1,hh,Bool.false_eq_true,if_false]
   unfold aBp
   rw[if_pos (.inl hh')]
 ·cases h
theorem bVj:aA6 Tryz.prog bNj:=aA5 (by simp[])
theorem aRp:aAm Tryz.prog 139 (sg [pS] [rB]) aM5:=aA3 bVj aA7 Tryz.func139 (by kernel_rfl) fun cs outs hk h=>by
 unfold aM5 at h
 split at h
 ·simp only[Option.some.injEq,Prod.mk.injEq,decide_eq_true_eq]at h
  obtain⟨h1,rfl⟩:=h
  rename_i r
  rw[aA9,bK7]
  by_cases c:60<r.length
  ·have c':(60:Int)<(r.length:Int):=by omega
   simp only[aA2,aA1,decide_eq_true_eq,c,c',if_true,decide_true]
  ·have c':¬(60:Int)<(r.length:Int):=by omega
   simp only[aA2,aA1,decide_eq_true_eq,c,c',if_false,decide_false,Bool.false_eq_true]
 ·cases h
theorem aQj (rows:List (List C)):aOv rows=true↔aAi [.str] rows=true∧rows.length≤1048576∧∀ r∈aGh rows,r.length≤1048576:=by
 simp only[aOv,Bool.and_eq_true,decide_eq_true_eq,List.all_eq_true]
theorem bGo (l:List (List UInt8)) (hl:l.length≤1048576) (hr:∀ r∈l,r.length≤1048576):∀ (n i:Nat),i≤l.length→l.length<i+n →
  (aBl aPv aAb (sg [bEf,pF] [rI]) Tryz.f133 [.r,.l,.r,.b] n (aPm (l.map aBf) l.length i)).eval=some [.int .i64 (aCs aKe (l.drop i) i)]:=by
 intro n
 induction n with
 |zero=>intro i h1 h2;omega
 |succ n ih =>
  intro i h1 h2
  rw[aAo _ _ _ _ _ _ _ (by kernel_rfl),aYf]
  by_cases hi:i<l.length
  ·have g:=aB1 aBf l [] i hi
   have w:IntKind.i64.wrap ((i:Int)+1)=((i+1:Nat):Int):=by rw[aAh]<;>omega
   have hz:(0:Int)≤i:=by omega
   have hi':(i:Int)<l.length:=by omega
   have hm:l.getD i []∈l:=by rw[List.getD_eq_getElem?_getD,List.getElem?_eq_getElem hi];exact List.getElem_mem hi
   have hx:=hr _ hm
   rw[aBq l i [] hi]
   generalize l.getD i []=y at g hx ⊢
   have hx':y.length≤281474976710656:=by omega
   simp only[aA0,aA2,aA1,if_true,decide_eq_true_eq,Bool.and_eq_true,w,hz,hi',Int.toNat_natCast,List.length_map,g,and_self,List.getD_cons_zero,List.getD_cons_succ,C.toStr,C.toInt,C.is,List.length_cons,List.length_nil,Nat.zero_add,Nat.reduceAdd,Nat.reduceLT,decide_true,beq_self_eq_true,hx',aCs,aKe]
   by_cases hy:60<y.length
   ·simp only[hy,if_true]
   ·simp only[hy,if_false]
    exact ih (i+1) (by omega) (by omega)
  ·have e:i=l.length:=by omega
   subst e
   have hi':¬((l.length:Int)<(l.length:Int)):=by omega
   simp only[aA2,aA1,decide_eq_true_eq,hi',if_false,List.drop_length,aCs]
theorem bSh:aA6 Tryz.prog aPv:=aA5 (by simp[aRp])
theorem bCh:aAm Tryz.prog 133 (sg [bEf,pF] [rI]) aQr:=aA3 bSh aA7 Tryz.func133 (by kernel_rfl) fun cs outs hk h=>by
 unfold aQr at h
 split at h
 ·simp only[Option.some.injEq,Prod.mk.injEq,Bool.and_eq_true,decide_eq_true_eq]at h
  obtain⟨⟨rfl,h1⟩,rfl⟩:=h
  rename_i rows
  obtain⟨h1,h2,h3⟩:=(aQj _).1 h1
  have hr:=aDs h1
  generalize aGh rows=l at hr h3 ⊢
  subst hr
  rw[List.length_map]at h2
  rw[aA9,bGn]
  have:=bGo l h2 h3 9223372036854775808 0 (by omega) (by omega)
  rw[show (l.length:Int)=((l.map aBf).length:Int) by rw[List.length_map]]at this
  exact this
 ·cases h
theorem bQ6:aA6 Tryz.prog bAf:=aA5 (by simp[bCh,bGp])
theorem aZ5:aAm Tryz.prog 138 (sg [bEf,pF] [rB]) aOd:=aA3 bQ6 aA7 Tryz.func138 (by kernel_rfl) fun cs outs hk h=>by
 unfold aOd at h
 split at h
 ·simp only[Option.some.injEq,Prod.mk.injEq,Bool.and_eq_true,decide_eq_true_eq]at h
  obtain⟨⟨rfl,h1⟩,rfl⟩:=h
  rename_i rows
  rw[aA9,bE5]
  unfold aLo
  simp only[aA2,aA0,aA1,h1,decide_true,Bool.and_self,if_true]
  by_cases c:0≤aZo (aGh rows)<;>simp[c]
 ·cases h
theorem aQu:∀ (l:List (List UInt8)) (i:Nat),aCs aKe l i= -1↔∀ r∈l,¬60<r.length
 |[],i=>by simp[aCs]
 |x::l,i=>by
  simp only[aCs,List.mem_cons,forall_eq_or_imp]
  by_cases c:60<x.length
  ·have e:aKe x=true:=by unfold aKe;exact decide_eq_true c
   rw[if_pos e]
   exact⟨fun h=>by omega,fun h=>absurd c h.1⟩
  ·have e:¬aKe x=true:=by unfold aKe;simpa using c
   rw[if_neg e,aQu l (i+1)]
   exact⟨fun h=>⟨c,h⟩,fun h=>h.2⟩
theorem bQ5 {l:List (List UInt8)} (h:aLo l=false):∀ r∈l,r.length≤60:=by
 unfold aLo aZo at h
 have h0:¬0≤aCs aKe l 0:=by simpa using h
 rcases aJj aKe l 0 with e | e
 ·intro r hr;have:=(aQu l 0).1 e r hr;omega
 ·omega
theorem bM2 {l:List (List UInt8)} (h:aLo l=true):∃ r∈l,60<r.length:=by
 unfold aLo aZo at h
 have h0:0≤aCs aKe l 0:=by simpa using h
 refine Classical.byContradiction fun hn=>?_
 have:aCs aKe l 0= -1:=(aQu l 0).2 fun r hr hc=>hn ⟨r,hr,hc⟩
 omega
theorem aUc (v b:Int):∀ (l:List (List UInt8)) (i:Int) (t:List UInt8) (os:List Int),(∃ r∈l,60<r.length)→aDo v b i l t os=none
 |[],i,t,os,h=>by obtain⟨r,hr,_⟩:=h;cases hr
 |x::l,i,t,os,h=>by
  simp only[aDo]
  by_cases c:60<x.length
  ·rw[if_pos c]
  ·rw[if_neg c]
   refine aUc v b l _ _ _ ?_
   obtain⟨r,hr,h60⟩:=h
   rcases List.mem_cons.1 hr with rfl | hr
   ·exact absurd h60 c
   ·exact⟨r,hr,h60⟩
theorem bPj (v s b l:Int) (rs:List (List UInt8)) (hb:0≤b∧b≤1000000000) (hl:rs.length≤1000) (h60:∀ r∈rs,r.length≤60):∀ (f n i:Nat) (t:List UInt8) (os:List Int),i+f=rs.length→f<n→os.length=i→t.length≤60+90*i→0<t.length→os.all okI=true →
  (aBl bEd (bX9 bXe) (⟨[aEb,bEf],[rS],true⟩) Tryz.f107 [.r,.r,.r,.r,.r,.l,.r,.b] n (bEa v s b l (rs.map aBf) t os.length (os.map aEf) i)).eval=some [.str (match aDo v b i (rs.drop i) t os with | some (t',os')=>t'++aBp v s b l os' t'.length | none=>[])]:=by
 intro f
 induction f with
 |zero =>
  intro n i t os h1 h2 h3 h4 h5 h6
  obtain⟨n,rfl⟩:∃ q,n=q+1:=⟨n-1,by omega⟩
  rw[aAo _ _ _ _ _ _ _ (by kernel_rfl),aRt]
  have c:¬((i:Int)<(rs.length:Int)):=by omega
  have hd:rs.drop i=[]:=List.drop_eq_nil_of_le (by omega)
  have tk:List.take os.length (os.map aEf)=os.map aEf:=List.take_of_length_le (by simp)
  have i1:inB (t.length:Int) (-9223372036854775808) 9223372036854775807=true:=(aBb _ _ _).2 ⟨by omega,by omega⟩
  have fl:=aW6 v s b l os t.length
  have o1:os.length≤1048576:=by omega
  have m1:t.length+(aBp v s b l os t.length).length≤9223372036854775807:=by omega
  have n0:¬((5:TypeId)=0):=by decide
  simp only[List.length_map,aA2,aA0,aA1,decide_eq_true_eq,c,if_false,hd,aDo,tk,aT0,aJc,i1,o1,m1,h5,h6,n0,not_false_eq_true,decide_true,Bool.and_self,if_true]
 |succ f ih =>
  intro n i t os h1 h2 h3 h4 h5 h6
  obtain⟨n,rfl⟩:∃ q,n=q+1:=⟨n-1,by omega⟩
  rw[aAo _ _ _ _ _ _ _ (by kernel_rfl),aRt]
  have hi:i<rs.length:=by omega
  have c:(i:Int)<(rs.length:Int):=by omega
  have z:(0:Int)≤(i:Int):=by omega
  have g:=aB1 aBf rs [] i hi
  have hd:=aBq rs i [] hi
  have hm:rs.getD i []∈rs:=by rw[List.getD_eq_getElem?_getD,List.getElem?_eq_getElem hi];exact List.getElem_mem hi
  have hr:=h60 _ hm
  generalize rs.getD i []=r at g hd hr
  have w:IntKind.i64.wrap ((i:Int)+1)=((i+1:Nat):Int):=by rw[aAh]<;>omega
  have w2:IntKind.i64.wrap (b+(i:Int))=b+i:=by rw[aAh]<;>omega
  have fl:=aFg v (b+i) r
  have ro1:aBg (os.length+1) 8=true:=by simp only[aBg,decide_eq_true_eq];omega
  have ap2:(os.map aEf).append [[C.int .i64 (t.length:Int)]]=(os++[(t.length:Int)]).map aEf:=by simp
  have m1:t.length+(aAc v (b+i) r).length≤140737488355328:=by omega
  have m2:0<t.length+(aAc v (b+i) r).length:=by omega
  have hr':r.length≤281474976710656:=by omega
  have h60':¬60<r.length:=by omega
  have e:=ih n (i+1) (t++aAc v (b+i) r) (os++[(t.length:Int)]) (by omega) (by omega) (by simp;omega) (by simp only[List.length_append];omega) (by simp only[List.length_append];omega) (by
   rw[List.all_append,h6]
   simp only[List.all_cons,List.all_nil,Bool.and_true,Bool.true_and]
   exact (aBb _ _ _).2 ⟨by omega,by omega⟩)
  rw[List.length_append]at e
  rw[hd]
  simp only[List.length_map,aA2,aA0,aA1,decide_eq_true_eq,c,z,Int.toNat_natCast,g,w,w2,if_true,decide_true,Bool.and_true,Bool.true_and,Bool.and_self,List.length_cons,List.length_nil,C.is,List.getD_cons_zero,C.toStr,Nat.zero_add,Nat.zero_lt_one,ro1,ap2,aDo,m1,m2,hr',h60',if_false]
  exact e
theorem bYo:aA6 Tryz.prog bEd:=bG7 (by simp[aC7,aJk,aLf,aKg,bLa,aRp,aZ5])
theorem bKw:aAm Tryz.prog 107 (⟨[aEb,bEf],[rS],true⟩) aUb:=aA3 bYo (bS7 bTs) Tryz.func107 (by kernel_rfl) fun cs outs hk h=>by
 unfold aUb at h
 split at h
 ·simp only[Option.some.injEq,Prod.mk.injEq]at h
  obtain⟨h0,rfl⟩:=h
  rename_i v s b l r
  obtain⟨h1,h2,h3⟩:=(aQj _).1 h0
  rw[aA9,bPi]
  have hr:=aDs h1
  generalize aGh r=rs at hr h3 ⊢
  subst hr
  rw[List.length_map]at h2 ⊢
  unfold aG0
  by_cases hh:aCq v s b l=true
  ·obtain⟨hv,hs,hb,hl⟩:=(aEe v s b l).1 hh
   have w:IntKind.i64.wrap (b+(rs.length:Int))=b+rs.length:=by rw[aAh]<;>omega
   simp only[aA2,aA0,aA1,hh,if_true,w,decide_eq_true_eq,h0,decide_true,Bool.and_self]
   by_cases c1:(1000:Int)<(rs.length:Int)
   ·rw[if_pos c1,if_pos (.inr (.inl (by omega)))]
   ·by_cases c2:(1000000000:Int)<b+(rs.length:Int)
    ·have hi:¬inB (b+(rs.length:Int)) 0 1000000000=true:=fun h=>by have:=(aBb _ _ _).1 h;omega
     rw[if_neg c1,if_neg hi,if_pos (.inr (.inr c2))]
    ·have hi:inB (b+(rs.length:Int)) 0 1000000000=true:=(aBb _ _ _).2 ⟨by omega,by omega⟩
     have hn:¬(true=false∨1000<rs.length∨1000000000<b+(rs.length:Int)):=by
      intro h
      rcases h with h | h | h
      ·cases h
      ·omega
      ·omega
     rw[if_neg c1,if_pos hi,if_neg hn]
     have ht:0<(aB6 v s b l).length:=by
      unfold aB6 aFd
      rw[hh]
      simp
     have hle:=aW3 v s b l
     cases ha:aLo rs with
     |true =>
      have:=aUc v b rs 0 (aB6 v s b l) [] (bM2 ha)
      simp only[if_true,this]
     |false =>
      have e:=bPj v s b l rs hb (by omega) (bQ5 ha) rs.length 9223372036854775808 0 (aB6 v s b l) [] (by omega) (by omega) rfl (by omega) ht rfl
      have m1:0+(aB6 v s b l).length≤140737488355328:=by omega
      have m2:0<0+(aB6 v s b l).length:=by omega
      simp only[Bool.false_eq_true,if_false]
      rw[if_pos (by rw[decide_eq_true m1,decide_eq_true m2];rfl)]
      exact e
  ·have hh':aCq v s b l=false:=by simpa using hh
   simp only[aA2,aA1,hh',Bool.false_eq_true,if_false]
   rw[if_pos (.inl trivial)]
 ·cases h
noncomputable section
structure Opx where
 kind:Int
 name:List UInt8
 to:List UInt8
 text:List UInt8
 deriving DecidableEq
abbrev eOp (x:Opx):List C:=[.int .i64 x.kind,.str x.name,.str x.to,.str x.text]
def bZn (r:List C):Opx:=⟨(r.getD 0 (.fn 0 [])).toInt,(r.getD 1 (.fn 0 [])).toStr,(r.getD 2 (.fn 0 [])).toStr,(r.getD 3 (.fn 0 [])).toStr⟩
def ops (rows:List (List C)):List Opx:=rows.map bZn
end
@[simp] theorem cB1 (l:List Opx):ops (l.map eOp)=l:=by simp[ops,bZn,Function.comp_def,C.toInt,C.toStr]
noncomputable section
end
noncomputable section
end
theorem bOw {ns es os ss:List (List C)} (hl:aQq ns es os ss=true) (h:¬aRh (nds ns) (ens es) (ens os) (aGh ss) 1048576<0):(aHk ns es&&(bHn es&&decide (ss.length≤1048576)))=true:=by
 obtain⟨_,q2,_,q4,q5⟩:=aZe hl h
 obtain⟨k1,k2,k3,k4⟩:=aEx.1 q2
 obtain⟨l1,l2,l3,l4⟩:=aEy.1 q4
 obtain⟨_,_,_,_,_,a6,_⟩:=aRg _ _ _ _ h
 simp only[Bool.and_eq_true,decide_eq_true_eq]
 exact⟨q5,(bDo _).2 ⟨k2,l2,a6⟩,l4⟩
theorem bOx {ns es ss:List (List C)} (h:(aHk ns es&&(bHn es&&decide (ss.length≤1048576)))=true):aHk ns es=true∧bHn es=true∧ss.length≤1048576:=by
 simp only[Bool.and_eq_true,decide_eq_true_eq]at h
 exact⟨h.1,h.2.1,h.2.2⟩
noncomputable section
def aBi (b:List UInt8):Bool:=aA8 b&&decide (aG0 (rhV b) (rhS b) (rhB b) (rhL b) (aAn b)=b)
def bB1 (b:List UInt8):List (List UInt8):=if aBi b then aAn b else[]
def aDg:aC0:=fun cs=>match cs with
 |[.str b]=>some (decide (b.length≤1048576),[.int .i64 (ifI (aBi b) (rhV b)),.int .i64 (ifI (aBi b) (rhS b)),.int .i64 (ifI (aBi b) (rhB b)),.int .i64 (ifI (aBi b) (rhL b)),.sl ((bB1 b).map aBf),.bool (aBi b)])
 |_=>none
def aEs:aC0:=fun cs=>match cs with
 |[.str b]=>some (decide (b.length≤1048576),[.bool (aBi b)])
 |_=>none
abbrev bZb:RTy:=⟨false,[(.slice 9,false)]⟩
def aPr:Env:=mkE [] [(90,(sg [pS] [aJd]),aF4),(91,(⟨[aEb,bEf],[rS],true⟩),bB0)]
def aPw:Env:=mkE [] [(93,(sg [pS] [aJd]),aF4),(107,(⟨[aEb,bEf],[rS],true⟩),aUb)]
end
set_option maxRecDepth 100000
theorem aSd (H:List Pt→Nat→St→T (List C)) (b:List UInt8):(aAe aPr aAb {params:=[pS],results:=[aOw,bZb,rB],nested:=true} Tryz.f143 H [C.str b]).eval=((.must (decide (b.length≤1048576)) (.must (decide (0<1)&&true&&(decide (0<1)&&true&&(decide (0<1)&&true&&(decide (0<1)&&true&&(decide (0<1)&&true&&((true&&(List.map aBf (aAn b)).all fun row=>decide (row.length=1))&&((true&&(List.map aEf (aEg b)).all fun row=>decide (row.length=1))&&(decide (0<1)&&true&&(decide (0<1)&&true&&true))))))))&&true&&true) (.ask (aA8 b) (.ask (aK6 b) (.must (aAi [K.str] (List.take (List.map aBf (aAn b)).length (List.map aBf (aAn b)))&&decide ((List.take (List.map aBf (aAn b)).length (List.map aBf (aAn b))).length≤1048576)) (.ask (!aG0 (ifI (aA8 b) (rhV b)) (ifI (aA8 b) (rhS b)) (ifI (aA8 b) (rhB b)) (ifI (aA8 b) (rhL b)) (aGh (List.take (List.map aBf (aAn b)).length (List.map aBf (aAn b))))==b) (.ret [C.int .i64 0,C.int .i64 0,C.int .i64 0,C.int .i64 0,C.sl [],C.bool false]) (.ret [C.int .i64 (ifI (aA8 b) (rhV b)),C.int .i64 (ifI (aA8 b) (rhS b)),C.int .i64 (ifI (aA8 b) (rhB b)),C.int .i64 (ifI (aA8 b) (rhL b)),C.sl (List.take (List.map aBf (aAn b)).length (List.map aBf (aAn b))),C.bool true]))) (.ret [C.int .i64 0,C.int .i64 0,C.int .i64 0,C.int .i64 0,C.sl [],C.bool false])) (.ret [C.int .i64 0,C.int .i64 0,C.int .i64 0,C.int .i64 0,C.sl [],C.bool false])))):T (List C)).eval:=aAd (by kernel_rfl)
theorem aSp (H:List Pt→Nat→St→T (List C)) (b:List UInt8):(aAe aPw aAb {params:=[pS],results:=[aOw,bZb,rB],nested:=true} Tryz.f188 H [C.str b]).eval=((.must (decide (b.length≤1048576)) (.must (decide (0<1)&&true&&(decide (0<1)&&true&&(decide (0<1)&&true&&(decide (0<1)&&true&&(decide (0<1)&&true&&((true&&(List.map aBf (aAn b)).all fun row=>decide (row.length=1))&&((true&&(List.map aEf (aEg b)).all fun row=>decide (row.length=1))&&(decide (0<1)&&true&&(decide (0<1)&&true&&true))))))))&&true&&true) (.ask (aA8 b) (.must (aOv (List.take (List.map aBf (aAn b)).length (List.map aBf (aAn b)))) (.ask (!aG0 (ifI (aA8 b) (rhV b)) (ifI (aA8 b) (rhS b)) (ifI (aA8 b) (rhB b)) (ifI (aA8 b) (rhL b)) (aGh (List.take (List.map aBf (aAn b)).length (List.map aBf (aAn b))))==b) (.ret [C.int .i64 0,C.int .i64 0,C.int .i64 0,C.int .i64 0,C.sl [],C.bool false]) (.ret [C.int .i64 (ifI (aA8 b) (rhV b)),C.int .i64 (ifI (aA8 b) (rhS b)),C.int .i64 (ifI (aA8 b) (rhB b)),C.int .i64 (ifI (aA8 b) (rhL b)),C.sl (List.take (List.map aBf (aAn b)).length (List.map aBf (aAn b))),C.bool true]))) (.ret [C.int .i64 0,C.int .i64 0,C.int .i64 0,C.int .i64 0,C.sl [],C.bool false])))):T (List C)).eval:=aAd (by kernel_rfl)
theorem bW6 {b:List UInt8} (h:aA8 b=true):aCq (rhV b) (rhS b) (rhB b) (rhL b)=true∧24≤b.length∧(aB6 (rhV b) (rhS b) (rhB b) (rhL b)).length=24:=by
 unfold aA8 at h
 simp only[Bool.and_eq_true,decide_eq_true_eq]at h
 obtain⟨⟨h1,_⟩,h2⟩:=h
 have hl:(aB6 (rhV b) (rhS b) (rhB b) (rhL b)).length=24:=by rw[h2,List.length_take];omega
 refine⟨?_,h1,hl⟩
 cases hk:aCq (rhV b) (rhS b) (rhB b) (rhL b)with
 |true=>rfl
 |false=>unfold aB6 at hl;rw[hk]at hl;simp at hl
theorem aZg (v b:Int):∀ (rs:List (List UInt8)) (i:Int) (t:List UInt8) (os:List Int) (t':List UInt8) (os':List Int),aDo v b i rs t os=some (t',os')→∀ r:List UInt8,r.length≤60 →
  aDo v b i (rs++[r]) t os=some (t'++aAc v (b+i+rs.length) r,os'++[(t'.length:Int)])
 |[],i,t,os,t',os',h,r,hr=>by
  simp only[aDo,Option.some.injEq,Prod.mk.injEq]at h
  obtain⟨rfl,rfl⟩:=h
  simp only[List.nil_append,aDo,if_neg (by omega:¬60<r.length),List.length_nil]
  rw[show b+i+((0:Nat):Int)=b+i by omega]
 |x::rs,i,t,os,t',os',h,r,hr=>by
  simp only[aDo]at h
  split at h
  ·cases h
  ·rename_i hx
   have:=aZg v b rs (i+1) _ _ t' os' h r hr
   simp only[List.cons_append,aDo,if_neg hx]
   rw[this,show b+(i+1)+(rs.length:Int)=b+i+((x::rs).length:Int) by simp only[List.length_cons];omega]
theorem bRj {v p:Int} {b:List UInt8} {a:Int} (h:bBs v p b a=true):(aHa v b a).length≤60:=by
 unfold bBs at h
 simp only[Bool.and_eq_true,decide_eq_true_eq]at h
 unfold aHa
 have:=h.1.2.1
 rw[List.length_take]
 omega
theorem aUe (v p:Int) (b h0:List UInt8):∀ (f:Nat) (k e:Int) (rs:List (List UInt8)) (os:List Int),(∃ t,aDo v p 0 rs h0 []=some (t,os)∧(t.length:Int)=e)→k=rs.length →
  ∃ t,aDo v p 0 (aCr v p b f k e rs os).1 h0 []=some (t,(aCr v p b f k e rs os).2.1)∧(t.length:Int)=(aCr v p b f k e rs os).2.2.1
 |0,k,e,rs,os,h,_=>h
 |f+1,k,e,rs,os,h,hk=>by
  simp only[aCr]
  split
  ·exact h
  ·split
   ·rename_i ho
    obtain⟨t,h1,h2⟩:=h
    have h60:=bRj ho
    have e1:aO1 v (p+k) b e=aHa v b e:=by unfold aO1;rw[if_pos ho]
    have e2:aKy v (p+k) b e=e+(aAc v (p+k) (aHa v b e)).length:=by unfold aKy;rw[if_pos ho]
    have:=aZg v p rs 0 h0 [] t os h1 (aHa v b e) h60
    rw[e1,e2]
    refine aUe v p b h0 f (k+1) _ _ _ ⟨t++aAc v (p+k) (aHa v b e),?_,?_⟩ (by simp only[List.length_append,List.length_cons,List.length_nil];omega)
    ·rw[this,hk,h2,show p+0+(rs.length:Int)=p+rs.length by omega]
    ·rw[List.length_append];omega
   ·exact h
theorem bVf (v p:Int) (b:List UInt8) (e:Int) (h:(b.length:Int)<e):aFm v p b e=false:=by
 cases hm:aFm v p b e with
 |false=>rfl
 |true =>
  unfold aFm aF0 at hm
  simp only[Bool.and_eq_true,decide_eq_true_eq]at hm
  omega
theorem aUd (v p:Int) (b:List UInt8):∀ (f:Nat) (k e:Int) (rs:List (List UInt8)) (os:List Int),(b.length:Int)+1≤e+f→k=rs.length→(aCr v p b f k e rs os).2.2.2=false →
  aFm v (p+(aCr v p b f k e rs os).1.length) b (aCr v p b f k e rs os).2.2.1=false
 |0,k,e,rs,os,h,hk,_=>by
  simp only[aCr]
  exact bVf _ _ _ _ (by omega)
 |f+1,k,e,rs,os,h,hk,hf=>by
  simp only[aCr]at hf ⊢
  split at hf
  ·cases hf
  ·rename_i hm
   rw[if_neg hm]
   split at hf
   ·rename_i ho
    obtain⟨g1,g2,g3⟩:=aLx _ _ _ _ ho
    rw[if_pos ho]
    exact aUd v p b f (k+1) _ _ _ (by omega) (by simp only[List.length_append,List.length_cons,List.length_nil];omega) hf
   ·rename_i ho
    rw[if_neg ho,←hk]
    simpa using hm
theorem aW9 (n:Int) (h0:0≤n) (h:n<4294967296):(aAg n 4).length=4:=by
 obtain⟨k,rfl⟩:∃ k:Nat,n=k:=⟨n.toNat,by omega⟩
 rw[show (4:Int)=((4:Nat):Int)from rfl,aT1 k 4 (by omega) (by omega),if_pos (by omega),aBx]
theorem aT2 (n:Int) (h0:0≤n) (h:n<4294967296):aAg n 4≠[]:=fun he=>by
 have:=aW9 n h0 h
 rw[he]at this
 cases this
theorem bPx (v p:Int) (hv:1≤v∧v≤2) (hp:0≤p∧p≤1000000000):aAx v p≠[]:=by
 unfold aAx
 rw[(aBb _ _ _).2 hv,(aBb _ _ _).2 hp]
 simp only[Bool.and_self,if_true]
 split
 ·simp
 ·unfold aEh
  intro h
  have h1:=aW9 4294967295 (by omega) (by omega)
  have:=congrArg List.length h
  rw[List.length_append,h1]at this
  simp at this
theorem bO4 (a b c d:Int) (ha:0≤a∧a<4294967296) (hb:0≤b∧b<4294967296) (hc:0≤c∧c<4294967296) (hd:0≤d∧d<4294967296):aBc a b c d≠[]:=by
 unfold aBc
 simp only[bO5,if_neg (aT2 a ha.1 ha.2),if_neg (aT2 b hb.1 hb.2),if_neg (aT2 c hc.1 hc.2),if_neg (aT2 d hd.1 hd.2)]
 simp
theorem aQ0 (n:Int) (h0:0≤n) (h:n≤1000000000):aAr n≠[]:=by
 unfold aAr
 rw[if_pos ((aBb _ _ _).2 ⟨h0,h⟩)]
 unfold aCm
 split<;>simp
def cAv (a b:Pl):Prop:=a.1≤b.1∧a.2≤b.2
theorem bFu:∀ (l:List Pl) (q:Pl),(∀ p∈q::l,(0≤p.1∧p.1≤1000000)∧(0≤p.2∧p.2≤1000000))→List.Pairwise cAv (q::l)→∃ t,bFv q l=some t
 |[],q,_,_=>⟨[],rfl⟩
 |p::r,q,h1,h2=>by
  have hq:=h1 q (by simp)
  have hp:=h1 p (by simp)
  obtain⟨h3,h4⟩:=List.pairwise_cons.1 h2
  have hl:=h3 p (by simp)
  unfold cAv at hl
  obtain⟨t,ht⟩:=bFu r p (fun x hx=>h1 x (by simp at hx ⊢;exact .inr hx)) h4
  have l1:aGi p.1 q.1=p.1-q.1:=by
   have w:IntKind.i64.wrap (p.1-q.1)=p.1-q.1:=by rw[aAh]<;>omega
   unfold aGi
   rw[w,if_neg (by omega)]
  have l2:aGi p.2 q.2=p.2-q.2:=by
   have w:IntKind.i64.wrap (p.2-q.2)=p.2-q.2:=by rw[aAh]<;>omega
   unfold aGi
   rw[w,if_neg (by omega)]
  unfold bFv
  rw[l1,l2,if_neg (by
   intro h
   rcases h with h | h
   ·exact aQ0 _ (by omega) (by omega) h
   ·exact aQ0 _ (by omega) (by omega) h),ht]
  exact⟨_,rfl⟩
theorem aJe (s:Int) (os:List Int):∀ (i:Nat) (p:Pl),p∈aBa s os i→∃ j,j<i∧p=((j:Int),os.getD j 0)
 |0,p,h=>by simp[aBa]at h
 |i+1,p,h=>by
  simp only[aBa,List.mem_append]at h
  rcases h with h | h
  ·obtain⟨j,h1,h2⟩:=aJe s os i p h
   exact⟨j,by omega,h2⟩
  ·split at h
   ·simp only[List.mem_singleton]at h
    exact⟨i,by omega,h⟩
   ·simp at h
theorem aV4 (s:Int) (os:List Int) (hm:∀ i j,i≤j→j<os.length→os.getD i 0≤os.getD j 0):∀ i,i≤os.length→List.Pairwise cAv (aBa s os i)
 |0,_=>by simp[aBa]
 |i+1,h=>by
  simp only[aBa]
  refine List.pairwise_append.2 ⟨aV4 s os hm i (by omega),by split<;>simp,fun a ha b hb=>?_⟩
  obtain⟨j,h1,rfl⟩:=aJe s os i a ha
  split at hb
  ·simp only[List.mem_singleton]at hb
   subst hb
   exact⟨by show (j:Int)≤i;omega,hm j i (by omega) (by omega)⟩
  ·simp at hb
theorem bBx (s:Int) (os:List Int) (hl:os.length≤1000) (h0:∀ j,j<os.length→0≤os.getD j 0∧os.getD j 0≤1000000) (hm:∀ i j,i≤j→j<os.length→os.getD i 0≤os.getD j 0):aAw (aAp s os)≠[]:=by
 have hp:∀ p∈aAp s os,∃ j,j<os.length∧p=((j:Int),os.getD j 0):=fun p hp=>by
  unfold aAp at hp
  split at hp
  ·simp at hp
  ·exact aJe s os _ p hp
 have hu:List.Pairwise cAv (aAp s os):=by
  unfold aAp
  split
  ·simp
  ·exact aV4 s os hm _ (Nat.le_refl _)
 obtain⟨t,ht⟩:=bFu (aAp s os) (0,0) (fun p h=>by
  rcases List.mem_cons.1 h with rfl | h
  ·exact⟨⟨by decide,by decide⟩,by decide,by decide⟩
  ·obtain⟨j,hj,rfl⟩:=hp p h
   exact⟨⟨by show (0:Int)≤j;omega,by show (j:Int)≤1000000;omega⟩,h0 j hj⟩) (List.pairwise_cons.2 ⟨fun p h=>by
  obtain⟨j,hj,rfl⟩:=hp p h
  exact⟨by show (0:Int)≤j;omega,(h0 j hj).1⟩,hu⟩)
 have pl:=aM0 s os
 unfold aAw
 rw[ht]
 have:=aQ0 ((aAp s os).length:Int) (by omega) (by omega)
 simp[this]
def bWu (os:List Int) (e:Int):Prop:=(∀ i j,i≤j→j<os.length→os.getD i 0≤os.getD j 0)∧∀ j,j<os.length→0≤os.getD j 0∧os.getD j 0≤e
theorem bHe (os:List Int) (x:Int) (i:Nat) (h:i<os.length):(os++[x]).getD i 0=os.getD i 0:=by
 rw[List.getD_eq_getElem?_getD,List.getD_eq_getElem?_getD,List.getElem?_append_left h]
theorem bHf (os:List Int) (x:Int):(os++[x]).getD os.length 0=x:=by
 rw[List.getD_eq_getElem?_getD,List.getElem?_append_right (Nat.le_refl _)]
 simp
theorem bP3 {os:List Int} {e x:Int} (h:bWu os e) (he:e≤x) (h0:0≤e):bWu (os++[x]) x:=by
 have key:∀ j,j<(os++[x]).length→(j<os.length∧(os++[x]).getD j 0=os.getD j 0)∨(j=os.length∧(os++[x]).getD j 0=x):=fun j hj=>by
  rw[List.length_append]at hj
  simp only[List.length_cons,List.length_nil]at hj
  by_cases h:j<os.length
  ·exact .inl ⟨h,bHe _ _ _ h⟩
  ·have e:j=os.length:=by omega
   subst e
   exact .inr ⟨rfl,bHf _ _⟩
 refine⟨fun i j hij hj=>?_,fun j hj=>?_⟩
 ·rcases key j hj with⟨j1,j2⟩ | ⟨j1,j2⟩
  ·rcases key i (by omega)with⟨i1,i2⟩ | ⟨i1,i2⟩
   ·rw[i2,j2];exact h.1 i j hij j1
   ·omega
  ·rcases key i (by omega)with⟨i1,i2⟩ | ⟨i1,i2⟩
   ·rw[i2,j2];have:=(h.2 i i1).2;omega
   ·rw[i2,j2];exact Int.le_refl _
 ·rcases key j hj with⟨j1,j2⟩ | ⟨j1,j2⟩
  ·rw[j2];have:=h.2 j j1;omega
  ·rw[j2];omega
theorem bF1 (v b:Int):∀ (rs:List (List UInt8)) (i:Int) (t:List UInt8) (os:List Int) (x:List UInt8×List Int),aDo v b i rs t os=some x→bWu os t.length→bWu x.2 x.1.length
 |[],i,t,os,x,h,ho=>by simp[aDo]at h;subst h;exact ho
 |r::rs,i,t,os,x,h,ho=>by
  unfold aDo at h
  split at h
  ·cases h
  ·refine bF1 v b rs _ _ _ x h ?_
   have:=bP3 ho (Int.le_refl _) (by omega)
   exact⟨this.1,fun j hj=>by
    have:=this.2 j hj
    rw[List.length_append]
    omega⟩
theorem bJ4 {b:List UInt8} (h:aBi b=true):aK6 b=true:=by
 unfold aBi at h
 simp only[Bool.and_eq_true,decide_eq_true_eq]at h
 obtain⟨hr,hs⟩:=h
 obtain⟨hk,h24,hl⟩:=bW6 hr
 have e1:aAn b=(aCr (rhV b) (rhB b) b (b.length+1) 0 24 [] []).1:=by unfold aAn aH8;rw[if_pos hr]
 have e2:aK6 b=(aCr (rhV b) (rhB b) b (b.length+1) 0 24 [] []).2.2.2:=by unfold aK6 aH8;rw[if_pos hr]
 obtain⟨t,s1,s2⟩:=aUe (rhV b) (rhB b) b (aB6 (rhV b) (rhS b) (rhB b) (rhL b)) (b.length+1) 0 24 [] [] ⟨_,rfl,by rw[hl];rfl⟩ rfl
 have st:=aUd (rhV b) (rhB b) b (b.length+1) 0 24 [] [] (by omega) rfl
 rw[e2]
 rw[e1]at hs
 generalize aCr (rhV b) (rhB b) b (b.length+1) 0 24 [] []=X at hs s1 s2 st ⊢
 obtain⟨rs,os,e,m⟩:=X
 simp only at hs s1 s2 st ⊢
 unfold aG0 at hs
 split at hs
 ·rw[←hs]at h24;simp at h24
 ·rename_i hc
  rw[s1]at hs
  simp only at hs
  have hn:rs.length≤1000:=by have:¬1000<rs.length:=fun h=>hc (.inr (.inl h));omega
  have hq:¬1000000000<rhB b+rs.length:=fun h=>hc (.inr (.inr h))
  obtain⟨hv,hst,hb,_⟩:=(aEe _ _ _ _).1 hk
  have lens:=aZf _ _ _ _ _ _ _ s1
  simp only[List.length_nil,Nat.zero_add]at lens
  have up:=bF1 _ _ _ _ _ _ _ s1 ⟨fun i j _ hj=>by simp at hj,fun j hj=>by simp at hj⟩
  simp only at up
  have q1:=bPx (rhV b) (rhB b+os.length) hv (by rw[lens.2];omega)
  have q2:=bBx (rhS b) os (by omega) (fun j hj=>by have:=up.2 j hj;omega) up.1
  have q3:=bO4 (t.length:Int) os.length (rhS b) 0 (by omega) (by omega) (by omega) (by omega)
  cases hm:m with
  |true=>rfl
  |false =>
   exfalso
   have hf:=st hm
   have:aFm (rhV b) (rhB b+rs.length) b e=true:=by
    unfold aBp at hs
    rw[if_neg (by
     intro h
     rcases h with h | h | h | h
     ·rw[hk]at h;cases h
     ·exact q1 h
     ·exact q2 h
     ·exact q3 h)]at hs
    unfold aFm aF0
    rw[←s2]
    rw[lens.2]at q1 hs
    simp only[Bool.and_eq_true,decide_eq_true_eq,Int.toNat_natCast]
    refine⟨q1,by omega,?_,?_⟩
    ·rw[←hs,List.length_append];omega
    ·generalize aAx (rhV b) (rhB b+↑rs.length)=M at hs ⊢
     rw[←hs,List.drop_left,List.append_assoc,List.take_left]
   rw[this]at hf
   cases hf
theorem bEy (l:List (List UInt8)):List.take (l.map aBf).length (l.map aBf)=l.map aBf:=List.take_length
theorem bOu (l:List (List UInt8)) (h1:l.length≤1048576) (h2:∀ r∈l,r.length≤60):aOv (l.map aBf)=true:=by
 refine (aQj _).2 ⟨by simp,by simpa using h1,fun r hr=>?_⟩
 rw[aLw]at hr
 have:=h2 r hr
 omega
theorem bBe:aA6 Tryz.prog aPr:=aA5 (by simp[aF6,bJ8])
theorem aQf:aAm Tryz.prog 143 (⟨[pS],[aOw,bZb,rB],true⟩) aDg:=aA3 bBe aA7 Tryz.func143 (by kernel_rfl) fun cs outs hk h=>by
 unfold aDg at h
 split at h
 ·simp only[Option.some.injEq,Prod.mk.injEq,decide_eq_true_eq]at h
  obtain⟨hb,rfl⟩:=h
  rename_i b
  rw[aA9,aSd]
  obtain⟨f1,f2,f3⟩:=aE7 b
  have hl:(aAn b).length≤1048576:=by omega
  have tk:List.take (aAn b).length ((aAn b).map aBf)=(aAn b).map aBf:=List.take_of_length_le (by simp)
  have d1:decide (0<1)=true:=by decide
  simp only[aA0,aA2,aA1,hb,d1,aN7,aRl,decide_true,Bool.and_self,if_true,bEy,aLw,aJb,List.length_map,hl,tk,bB1,ifI]
  cases hr:aA8 b with
  |false =>
   have hs:aBi b=false:=by unfold aBi;rw[hr];rfl
   simp[hs]
  |true =>
   by_cases he:aG0 (rhV b) (rhS b) (rhB b) (rhL b) (aAn b)=b
   ·have hs:aBi b=true:=by unfold aBi;rw[hr,he];simp
    have hm:=bJ4 hs
    simp[hs,hm,he]
   ·have hs:aBi b=false:=by unfold aBi;rw[hr];simp[he]
    cases hm:aK6 b<;>simp[hs,he]
 ·cases h
theorem bCv:aA6 Tryz.prog aPw:=aA5 (by simp[aHf,bKw])
theorem aR0:aAm Tryz.prog 188 (⟨[pS],[aOw,bZb,rB],true⟩) aDg:=aA3 bCv aA7 Tryz.func188 (by kernel_rfl) fun cs outs hk h=>by
 unfold aDg at h
 split at h
 ·simp only[Option.some.injEq,Prod.mk.injEq,decide_eq_true_eq]at h
  obtain⟨hb,rfl⟩:=h
  rename_i b
  rw[aA9,aSp]
  obtain⟨f1,f2,f3⟩:=aE7 b
  have hl:(aAn b).length≤1048576:=by omega
  have ro:=bOu (aAn b) hl f3
  have d1:decide (0<1)=true:=by decide
  simp only[aA0,aA2,aA1,hb,d1,aN7,aRl,decide_true,Bool.and_self,if_true,bEy,aLw,ro,bB1,ifI]
  cases hr:aA8 b with
  |false =>
   have hs:aBi b=false:=by unfold aBi;rw[hr];rfl
   simp[hs]
  |true =>
   by_cases he:aG0 (rhV b) (rhS b) (rhB b) (rhL b) (aAn b)=b
   ·have hs:aBi b=true:=by unfold aBi;rw[hr,he];simp
    simp[hs,he]
   ·have hs:aBi b=false:=by unfold aBi;rw[hr];simp[he]
    simp[hs,he]
 ·cases h
noncomputable section
def aWe:aC0:=fun cs=>match cs with
 |[.sl x,.sl y]=>some (decide (x.length≤1073741824)&&(aAi [.int .i64] x&&aAi [.int .i64] y),[.bool (decide (aCp x=aCp y))])
 |_=>none
def aTg (x y:List (List C)) (i:Int):St:=st0 [(0,.l (.sl x)),(1,.l (.sl y)),(5,aB0 i)]
def aTt:Env:=mkE [(4,[0,1,5])] []
def aO6:aC0:=fun cs=>match cs with
 |[.sl [],.int .i64 k]=>some (true,[.int .i64 k])
 |_=>none
def aO3:aC0:=fun cs=>match cs with
 |[.sl [],.int .i64 k]=>some (true,[.int .i64 k,.sl []])
 |_=>none
def bA5 (k:Int):St:=st0 [(0,.l (.sl [])),(1,aB0 k),(5,aB0 0)]
def bA4 (k:Int):St:={slots:=[(0,.l (.ref 0 0 0)),(1,aB0 k),(5,aB0 0)],heap:=[(0,.arr 1 [])],next:=1,pins:=[0]}
def aRc:Env:=mkE [(2,[0,1,5])] []
def aRb:Env:=mkE [(2,[0,1,5])] []
def aJf:PTy:=.val true [.int .i64,.int .i64,.int .i64,.int .i64,.int .i64,.slice 3,.int .i64,.bool,.int .i64]
def bC0:PTy:=.wr true [(.int .i64,false),(.int .i64,false),(.int .i64,false),(.int .i64,false),(.int .i64,false),(.slice 3,true),(.int .i64,false),(.bool,false),(.int .i64,false)]
def bM5 (x1 x2 x3 x4 x5 x6 x7:Int) (xb:Bool) (y1 y2 y3 y4 y5 y6 y7:Int) (yb:Bool):Bool:=decide (x1=y1)&&decide (x2=y2)&&decide (x3=y3)&&decide (x4=y4)&&decide (x5=y5)&&decide (x6=y6)&&decide (x7=y7)&&decide (xb=yb)
def aLj:aC0:=fun cs=>match cs with
 |[.int .i64 x1,.int .i64 x2,.int .i64 x3,.int .i64 x4,.int .i64 x5,.sl [],.int .i64 x6,.bool xb,.int .i64 x7,.int .i64 y1,.int .i64 y2,.int .i64 y3,.int .i64 y4,.int .i64 y5,.sl [],.int .i64 y6,.bool yb,.int .i64 y7]=>some (true,[.bool (bM5 x1 x2 x3 x4 x5 x6 x7 xb y1 y2 y3 y4 y5 y6 y7 yb)])
 |_=>none
def aIe:aC0:=fun cs=>match cs with
 |[.int .i64 x1,.int .i64 x2,.int .i64 x3,.int .i64 x4,.int .i64 x5,.sl [],.int .i64 x6,.bool xb,.int .i64 x7,.int .i64 k]=>some (true,[.int .i64 k,.sl []])
 |_=>none
def aIh:aC0:=fun cs=>match cs with
 |[.int .i64 x1,.int .i64 x2,.int .i64 x3,.int .i64 x4,.int .i64 x5,.sl [],.int .i64 x6,.bool xb,.int .i64 x7,.int .i64 k]=>some (decide (0≤k),[.int .i64 k])
 |_=>none
def bAe:Env:=mkE [] [(42,(sg [pSl 3,pSl 3] [rB]),aWe)]
def aS2:Env:=mkE [] [(46,(sg [.wr false [(.slice 3,true)],pI] [rI]),aO3)]
def aS7:Env:=mkE [] [(47,(sg [pSl 3,pI] [rI]),aO6)]
end
theorem bLq (H:List Pt→Nat→St→T (List C)) (x:List (List C)) (y:List (List C)):(aAe aTt aAb (sg [pSl 3,pSl 3] [rB]) Tryz.f42 H [C.sl x,C.sl y]).eval=((.ask ((↑x.length:Int) != (↑y.length:Int)) (.ret [C.bool false]) (H [Pt.r,Pt.r,Pt.l,Pt.r,Pt.b] 9223372036854775808 (aTg (x) (y) ((0:Int))))):T (List C)).eval:=aAd (by kernel_rfl)
theorem bDr (H:List Pt→Nat→St→T (List C)) (x:List (List C)) (y:List (List C)) (i:Int) (k:Nat):(aB3 aTt aAb (sg [pSl 3,pSl 3] [rB]) Tryz.f42 H [Pt.r,Pt.r,Pt.l,Pt.r,Pt.b] k (aTg x y i)).eval=((.ask (decide (i<(↑x.length:Int))) (.must (decide ((0:Int)≤i)&&decide (i<(↑x.length:Int))&&decide ((x.getD i.toNat []).length=1)) (.must (decide (0<(x.getD i.toNat []).length)&&C.is (K.int .i64) ((x.getD i.toNat []).getD 0 (C.fn 0 []))&&true) (.must (decide ((0:Int)≤i)&&decide (i<(↑y.length:Int))&&decide ((y.getD i.toNat []).length=1)) (.must (decide (0<(y.getD i.toNat []).length)&&C.is (K.int .i64) ((y.getD i.toNat []).getD 0 (C.fn 0 []))&&true) (.ask (((x.getD i.toNat []).getD 0 (C.fn 0 [])).toInt != ((y.getD i.toNat []).getD 0 (C.fn 0 [])).toInt) (.ret [C.bool false]) (H [Pt.r,Pt.r,Pt.l,Pt.r,Pt.b] k (aTg (x) (y) (IntKind.i64.wrap (i+(1:Int)))))))))) (.ret [C.bool true])):T (List C)).eval:=aAd (by kernel_rfl)
theorem bDb (H:List Pt→Nat→St→T (List C)) (k:Int):(aAe aRc aAb (sg [pSl 3,pI] [rI]) Tryz.f47 H [C.sl [],C.int .i64 k]).eval=((H [Pt.r,Pt.l,Pt.r,Pt.b] 9223372036854775808 (bA5 (k))):T (List C)).eval:=aAd (by kernel_rfl)
theorem bC6 (H:List Pt→Nat→St→T (List C)) (k:Int):(aAe aRb aAb (sg [PTy.wr false [(K.slice 3,true)],pI] [rI]) Tryz.f46 H [C.sl [],C.int .i64 k]).eval=((H [Pt.r,Pt.l,Pt.r,Pt.b] 9223372036854775808 (bA4 (k))):T (List C)).eval:=aAd (by kernel_rfl)
theorem aW2 (H:List Pt→Nat→St→T (List C)) (kk:Int) (k:Nat):(aB3 aRc aAb (sg [pSl 3,pI] [rI]) Tryz.f47 H [Pt.r,Pt.l,Pt.r,Pt.b] k (bA5 kk)).eval=((.ret [C.int .i64 kk]):T (List C)).eval:=aAd (by kernel_rfl)
theorem aVc (H:List Pt→Nat→St→T (List C)) (kk:Int) (k:Nat):(aB3 aRb aAb (sg [PTy.wr false [(K.slice 3,true)],pI] [rI]) Tryz.f46 H [Pt.r,Pt.l,Pt.r,Pt.b] k (bA4 kk)).eval=((.ret [C.int .i64 kk,C.sl []]):T (List C)).eval:=aAd (by kernel_rfl)
theorem bDp (H:List Pt→Nat→St→T (List C)) (x1:Int) (x2:Int) (x3:Int) (x4:Int) (x5:Int) (x6:Int) (x7:Int) (xb:Bool) (y1:Int) (y2:Int) (y3:Int) (y4:Int) (y5:Int) (y6:Int) (y7:Int) (yb:Bool):(aAe bAe aAb (sg [aJf,aJf] [rB]) Tryz.f16 H [C.int .i64 x1,C.int .i64 x2,C.int .i64 x3,C.int .i64 x4,C.int .i64 x5,C.sl [],C.int .i64 x6,C.bool xb,C.int .i64 x7,C.int .i64 y1,C.int .i64 y2,C.int .i64 y3,C.int .i64 y4,C.int .i64 y5,C.sl [],C.int .i64 y6,C.bool yb,C.int .i64 y7]).eval=((.ask (x1 != y1) (.ret [C.bool false]) (.ask (x2 != y2) (.ret [C.bool false]) (.ask (x3 != y3) (.ret [C.bool false]) (.ask (x4 != y4) (.ret [C.bool false]) (.ask (x5 != y5) (.ret [C.bool false]) (.ask (x6 != y6) (.ret [C.bool false]) (.ask (xb) (.ask (yb) (.ask (x7 != y7) (.ret [C.bool false]) (.ret [C.bool true])) (.ret [C.bool false])) (.ask (yb) (.ret [C.bool false]) (.ask (x7 != y7) (.ret [C.bool false]) (.ret [C.bool true])))))))))):T (List C)).eval:=aAd (by kernel_rfl)
theorem aV9 (H:List Pt→Nat→St→T (List C)) (x1:Int) (x2:Int) (x3:Int) (x4:Int) (x5:Int) (x6:Int) (x7:Int) (xb:Bool) (k:Int):(aAe aS2 aAb (sg [bC0,pI] [rI]) Tryz.f18 H [C.int .i64 x1,C.int .i64 x2,C.int .i64 x3,C.int .i64 x4,C.int .i64 x5,C.sl [],C.int .i64 x6,C.bool xb,C.int .i64 x7,C.int .i64 k]).eval=((.ret [C.int .i64 k,C.sl []]):T (List C)).eval:=aAd (by kernel_rfl)
theorem aW1 (H:List Pt→Nat→St→T (List C)) (x1:Int) (x2:Int) (x3:Int) (x4:Int) (x5:Int) (x6:Int) (x7:Int) (xb:Bool) (k:Int):(aAe aS7 aAb (sg [aJf,pI] [rI]) Tryz.f19 H [C.int .i64 x1,C.int .i64 x2,C.int .i64 x3,C.int .i64 x4,C.int .i64 x5,C.sl [],C.int .i64 x6,C.bool xb,C.int .i64 x7,C.int .i64 k]).eval=((.ask (decide (k<(0:Int))) (.ret [C.int .i64 (-1)]) (.ret [C.int .i64 k])):T (List C)).eval:=aAd (by kernel_rfl)
theorem bLr (x y:List Int) (hx:x.length≤1073741824) (hl:x.length=y.length):∀ (n i:Nat),i≤x.length→x.length<i+n→x.take i=y.take i →
  (aBl aTt aAb (sg [pSl 3,pSl 3] [rB]) Tryz.f42 [.r,.r,.l,.r,.b] n (aTg (x.map aEf) (y.map aEf) i)).eval=some [.bool (decide (x=y))]:=by
 intro n
 induction n with
 |zero=>intro i h1 h2;omega
 |succ n ih =>
  intro i h1 h2 h3
  rw[aAo _ _ _ _ _ _ _ (by kernel_rfl),bDr]
  by_cases hi:i<x.length
  ·have hi2:i<y.length:=by omega
   have w:IntKind.i64.wrap ((i:Int)+1)=((i+1:Nat):Int):=by rw[aAh]<;>omega
   have hz:(0:Int)≤i:=by omega
   have g:=aB1 aEf x 0 i hi
   have g2:=aB1 aEf y 0 i hi2
   simp only[aA0,aA2,aA1,if_true,decide_eq_true_eq,Bool.and_eq_true,w,hz,Int.toNat_natCast,Int.ofNat_lt,List.length_map,g,g2,hi,hi2,and_self,List.getD_cons_zero,C.toInt,C.is,List.length_cons,List.length_nil,Nat.zero_add,Nat.zero_lt_succ,Bool.not_eq_true',beq_eq_false_iff_ne,bne_iff_ne,beq_self_eq_true,ne_eq]
   by_cases hxy:x.getD i 0=y.getD i 0
   ·have e:=ih (i+1) (by omega) (by omega) (aHs 0 hi hi2 h3 hxy)
    simp only[hxy,not_true_eq_false,if_false]
    exact e
   ·have:x≠y:=fun h=>hxy (by rw[h])
    simp only[hxy,not_false_eq_true,if_true,this,decide_false]
  ·have e1:i=x.length:=by omega
   have:x=y:=by
    rw[e1,List.take_length,hl,List.take_length]at h3
    exact h3
   have e2:decide (x=y)=true:=by simp[this]
   simp only[aA0,aA2,aA1,decide_eq_true_eq,List.length_map,Int.ofNat_lt,hi,if_false,if_true,e2]
theorem bWe:aA6 Tryz.prog aTt:=aA5 (by simp[])
theorem bHs:aAm Tryz.prog 42 (sg [pSl 3,pSl 3] [rB]) aWe:=aA3 bWe aA7 Tryz.func42 (by kernel_rfl) fun cs outs hk h=>by
 unfold aWe at h
 split at h
 ·simp only[Option.some.injEq,Prod.mk.injEq,Bool.and_eq_true,decide_eq_true_eq]at h
  obtain⟨⟨h1,h2,h3⟩,rfl⟩:=h
  rename_i x y
  have hx:=aG9 h2
  have hy:=aG9 h3
  generalize aCp x=l at hx ⊢
  generalize aCp y=m at hy ⊢
  subst hx;subst hy
  rw[List.length_map]at h1
  rw[aA9,bLq]
  simp only[aA0,aA2,aA1,if_true,bne_iff_ne,ne_eq,List.length_map,Int.ofNat_inj]
  by_cases hl:l.length=m.length
  ·simp only[hl,not_true_eq_false,if_false]
   exact bLr l m h1 hl _ 0 (by omega) (by omega) rfl
  ·have:l≠m:=fun h=>hl (by rw[h])
   simp[hl,this]
 ·cases h
theorem bPq:aA6 Tryz.prog aRc:=aA5 (by simp[])
theorem aYw:aAm Tryz.prog 47 (sg [pSl 3,pI] [rI]) aO6:=aA3 bPq aA7 Tryz.func47 (by kernel_rfl) fun cs outs hk h=>by
 unfold aO6 at h
 split at h
 ·simp only[Option.some.injEq,Prod.mk.injEq,true_and]at h
  subst h
  rename_i k
  rw[aA9,bDb,aAo _ _ _ _ _ 9223372036854775807 _ (by kernel_rfl),aW2]
  have:¬((0:Int)<0):=by omega
  simp only[aA2,aA0,aA1,decide_eq_true_eq,this,if_false,if_true,List.length_nil,Int.ofNat_zero,Bool.and_self]
  try rfl
 ·cases h
theorem bP7:aA6 Tryz.prog aRb:=aA5 (by simp[])
theorem aYb:aAm Tryz.prog 46 (sg [.wr false [(.slice 3,true)],pI] [rI]) aO3:=aA3 bP7 aA7 Tryz.func46 (by kernel_rfl) fun cs outs hk h=>by
 unfold aO3 at h
 split at h
 ·simp only[Option.some.injEq,Prod.mk.injEq,true_and]at h
  subst h
  rename_i k
  rw[aA9,bC6,aAo _ _ _ _ _ 9223372036854775807 _ (by kernel_rfl),aVc]
  have:¬((0:Int)<0):=by omega
  simp only[aA2,aA0,aA1,decide_eq_true_eq,this,if_false,if_true,List.length_nil,Int.ofNat_zero,Bool.and_self]
  try rfl
 ·cases h
theorem bPv:aA6 Tryz.prog bAe:=aA5 (by simp[bHs])
theorem aYy:aAm Tryz.prog 16 (sg [aJf,aJf] [rB]) aLj:=aA3 bPv aA7 Tryz.func16 (by kernel_rfl) fun cs outs hk h=>by
 unfold aLj at h
 split at h
 ·simp only[Option.some.injEq,Prod.mk.injEq,true_and]at h
  subst h
  rw[aA9,bDp]
  simp only[aA0,aA2,aA1,bne_iff_ne,ne_eq,Bool.not_eq_true',bM5]
  repeat' split
  all_goals first | rfl | (simp_all;done)
 ·cases h
theorem bG8:aA6 Tryz.prog aS2:=aA5 (by simp[aYb])
theorem aSl:aAm Tryz.prog 18 (sg [bC0,pI] [rI]) aIe:=aA3 bG8 aA7 Tryz.func18 (by kernel_rfl) fun cs outs hk h=>by
 unfold aIe at h
 split at h
 ·simp only[Option.some.injEq,Prod.mk.injEq,true_and]at h
  subst h
  rw[aA9,aV9]
  simp only[aA0,aA2,aA1,bne_iff_ne,ne_eq,Bool.not_eq_true',decide_eq_true_eq]
  repeat' split
  all_goals first | rfl | (simp_all;done)
 ·cases h
theorem bH9:aA6 Tryz.prog aS7:=aA5 (by simp[aYw])
theorem aSt:aAm Tryz.prog 19 (sg [aJf,pI] [rI]) aIh:=aA3 bH9 aA7 Tryz.func19 (by kernel_rfl) fun cs outs hk h=>by
 unfold aIh at h
 split at h
 ·simp only[Option.some.injEq,Prod.mk.injEq,Bool.and_eq_true,decide_eq_true_eq]at h
  obtain⟨hc,rfl⟩:=h
  rename_i k
  rw[aA9,aW1]
  have nk:¬k<0:=by omega
  simp only[aA0,aA2,aA1,decide_eq_true_eq,nk,if_false]
 ·cases h
noncomputable section
def aQl:aC0:=fun cs=>match cs with
 |[.str b]=>some (decide (b.length≤1048576),[.bool (aA8 b&&decide (aKr b=b.length))])
 |_=>none
def aQa:aC0:=fun cs=>match cs with
 |[.str b]=>some (decide (b.length≤1048576),[.int .i64 (aKr b)])
 |_=>none
def bA7:Env:=mkE [] [(143,(⟨[pS],[aOw,bZb,rB],true⟩),aDg)]
def bA8:Env:=mkE [] [(188,(⟨[pS],[aOw,bZb,rB],true⟩),aDg)]
def bNg:Env:=mkE [] [(93,(sg [pS] [aJd]),aF4)]
def bNd:Env:=mkE [] [(90,(sg [pS] [aJd]),aF4)]
def aRq (ns:List Nd) (es:List En) (bs:List Int) (nm:List UInt8):Int :=
 if aDu nm=2 then 1 else if aDu nm=0 then 0 else if aXa bs (aC4 nm)then (if aBi (aAv ns es (aC4 nm))then 0 else if aKr (aAv ns es (aC4 nm))=((aAv ns es (aC4 nm)).length:Nat)then 3 else 4)else 2
def aO5 (ns:List Nd) (es:List En) (bs:List Int) (nm:List UInt8):Int :=
 if aDu nm=2 then 1 else if aDu nm=0 then 0 else if aXa bs (aC4 nm)then (if aBi (aAv ns es (aC4 nm))then 0 else if aA8 (aAv ns es (aC4 nm))&&decide (aKr (aAv ns es (aC4 nm))=((aAv ns es (aC4 nm)).length:Nat))then 3 else 4)else 2
abbrev Fd:=List UInt8×Int
abbrev eFd (x:Fd):List C:=[.str x.1,.int .i64 x.2]
def aRo (ns:List Nd) (es:List En) (bs:List Int):List (List UInt8)→List Fd
 |[]=>[]
 |nm::r=>(if aRq ns es bs nm≠0 then[(nm,aRq ns es bs nm)]else[])++aRo ns es bs r
def bGd (ns es:List (List C)):List Fd:=aRo (nds ns) (ens es) (aJt (nds ns) (ens es)) (aEi (ens es))
def aAf (ns es:List (List C)):Bool:=decide (bGd ns es=[])
def aQo:aC0:=fun cs=>match cs with
 |[.sl ns,.sl es,.sl _,.sl _,.int .i64 _,.int .i64 _,.sl bs,.str nm]=>some (aHk ns es&&(aAi [.int .i64] bs&&(decide (bs.length≤1048576)&&decide (nm.length≤1048576))),[.int .i64 (aO5 (nds ns) (ens es) (aCp bs) nm)])
 |_=>none
def aH2:aC0:=fun cs=>match cs with
 |[.sl ns,.sl es,.sl _,.sl _,.int .i64 _,.int .i64 _]=>some (aHk ns es&&bHn es,[.sl ((bGd ns es).map eFd)])
 |_=>none
def aIv:aC0:=fun cs=>match cs with
 |[.sl ns,.sl es,.sl _,.sl _,.int .i64 _,.int .i64 _]=>some (aHk ns es&&bHn es,[.bool (aAf ns es)])
 |_=>none
def aH3:aC0:=fun cs=>match cs with
 |[.sl rows]=>some (decide (rows.length≤16777216)&&(aAi [.str] rows&&aGk 1048576 rows),[.int .i64 (aDj 0 (aGh rows))])
 |_=>none
def aCd (ns es:List (List C)):Int:=aDj 0 (aBh (aBn (nds ns) (ens es)))
def aFr:aC0:=fun cs=>match cs with
 |[.sl ns,.sl es,.sl _,.sl _,.int .i64 _,.int .i64 _]=>some (aHk ns es,[.int .i64 (aCd ns es)])
 |_=>none
def aDt (ns es:List (List C)):Int:=((aBh (aBn (nds ns) (ens es))).length:Nat)
def bQ8 (ns es:List (List C)) (v s q:Int):Bool:=aAy v s q&&aAf ns es
def aEr:aC0:=fun cs=>match cs with
 |[.sl ns,.sl es,.sl _,.sl _,.int .i64 _,.int .i64 _,.int .i64 v,.int .i64 s,.int .i64 q]=>some (aHk ns es&&bHn es,
   [.int .i64 (sel (bQ8 ns es v s q) v),.int .i64 (sel (bQ8 ns es v s q) s),.int .i64 (sel (bQ8 ns es v s q) q),.int .i64 (sel (bQ8 ns es v s q) (aDt ns es)),.int .i64 (sel (bQ8 ns es v s q) (aCd ns es)),.sl [],.int .i64 0,.bool false,.int .i64 0,.bool (bQ8 ns es v s q)])
 |_=>none
def bDy:aC0:=fun cs=>match cs with
 |[.sl ns,.sl es,.sl os,.sl ss,.int .i64 _,.int .i64 _,.int .i64 _,.int .i64 _,.int .i64 _]=>some (aQq ns es os ss,[.bool true])
 |_=>none
def aFi (ns es os ss:List (List C)) (r x:Int) (n:Nat) (o:List (List C)) (m:Nat) (bs:List (List C)) (i:Int):St:={slots:=[(1,.l (.ptr 0 0)),(3,.l (.ref 1 0 n)),(4,.l (.ref 2 0 m)),(5,aB0 i)],heap:=[(0,bTj ns es os ss r x),(1,.arr 2 o),(2,.arr 1 bs)],next:=3,pins:=[]}
def aPl (r:List (List C)) (acc i:Int):St:=st0 [(0,.l (.sl r)),(3,aB0 acc),(4,aB0 i)]
def aPt:Env:=mkE [(4,[1,3,4,5])] [(54,(sg [aB2,pI] [rS]),aE5),(48,(sg [aB2] [rSl 3]),aHm),(52,(sg [pS] [rI,rI]),aDv),(87,(sg [pSl 3,pI] [rB]),aJl),(108,(sg [pS] [rB]),aEs),(109,(sg [pS] [rI]),aQa)]
def bNf:Env:=mkE [] [(75,(sg [aB2] [rSl 126]),aH2)]
def aPu:Env:=mkE [(3,[0,3,4])] [(110,(sg [pI,pS] [rI]),aDy)]
def bA9:Env:=mkE [] [(36,(sg [aB2] [rSl 9]),aGa),(77,(sg [pSl 9] [rI]),aH3)]
def aWu:Env:=mkE [] [(34,(sg [pI,pI,pI] [aGm,rB]),aE3),(36,(sg [aB2] [rSl 9]),aGa),(35,(sg [aB2] [rB]),aIv),(37,(sg [aB2] [rI]),aFr)]
def aLr (ns es os ss:List (List C)) (r x:Int) (m:Nat) (bs:List (List C)) (n:Nat) (o:List (List C)) (q:Nat) (nm:List (List C)) (k i:Int):St:={slots:=[(1,.l (.ptr 0 0)),(3,.l (.ref 1 0 m)),(4,.l (.ref 2 0 n)),(12,.l (.ref 3 0 q)),(13,aB0 k),(14,aB0 i)],heap:=[(0,bTj ns es os ss r x),(1,.arr 1 bs),(2,.arr 2 o),(3,.arr 1 nm)],next:=4,pins:=[]}
def bNi:Env:=mkE [] [(92,(sg [aB2,pI] [rS]),aE5),(61,(sg [pS] [rI,rI]),aDv),(104,(sg [pSl 3,pI] [rB]),aJl),(146,(sg [pS] [rB]),aEs),(147,(sg [pS] [rB]),aQl)]
def aPx:Env:=mkE [(4,[1,3,4,12,13,14])] [(102,(sg [aB2] [rSl 9]),aV7),(100,(sg [aB2] [rSl 3]),aHm),(111,(sg [aB2,pSl 3,pS] [rI]),aQo)]
def bNq:Env:=mkE [] [(79,(sg [aB2] [rSl 126]),aH2)]
def bIh:Env:=mkE [] [(95,(sg [pI,pSl 9] [rI]),aJh)]
def bAc:Env:=mkE [] [(80,(sg [aB2] [rSl 9]),aGa),(81,(sg [pSl 9] [rI]),aH3)]
def aX1:Env:=mkE [] [(38,(sg [pI,pI,pI] [aGm,rB]),aE3),(40,(sg [aB2] [rI]),aQp),(39,(sg [aB2] [rB]),aIv),(41,(sg [aB2] [rI]),aFr)]
def aX0:Env:=mkE [] [(7,(sg [aRn,pI] [rI]),aQ7),(9,(sg [aRn] [bYc]),aQ4),(11,(sg [aB2,aB2] [rB]),aR5),(17,(sg [bRv,pI] [rI]),aVe),(16,(sg [aJf,aJf] [rB]),aLj),(18,(sg [bC0,pI] [rI]),aIe),(19,(sg [aJf,pI] [rI]),aIh),(14,(sg [aB2,pI,pI,pI] [aGm,rB]),aEr),(15,(sg [aB2,pI,pI,pI] [aGm,rB]),aEr)]
end
theorem bAj (H:List Pt→Nat→St→T (List C)) (b:List UInt8):(aAe bA7 aAb (sg [pS] [rB]) Tryz.f108 H [C.str b]).eval=((.must (decide (b.length≤1048576)) (.ask (aBi b) (.ret [C.bool true]) (.ret [C.bool false]))):T (List C)).eval:=aAd (by kernel_rfl)
theorem bAk (H:List Pt→Nat→St→T (List C)) (b:List UInt8):(aAe bA8 aAb (sg [pS] [rB]) Tryz.f146 H [C.str b]).eval=((.must (decide (b.length≤1048576)) (.ask (aBi b) (.ret [C.bool true]) (.ret [C.bool false]))):T (List C)).eval:=aAd (by kernel_rfl)
theorem bJw (H:List Pt→Nat→St→T (List C)) (b:List UInt8):(aAe bNg aAb (sg [pS] [rB]) Tryz.f147 H [C.str b]).eval=((.must (decide (b.length≤1048576)) (.must (decide (0<1)&&true&&(decide (0<1)&&true&&(decide (0<1)&&true&&(decide (0<1)&&true&&(decide (0<1)&&true&&((true&&(List.map aBf (aAn b)).all fun row=>decide (row.length=1))&&((true&&(List.map aEf (aEg b)).all fun row=>decide (row.length=1))&&(decide (0<1)&&true&&(decide (0<1)&&true&&true))))))))&&true&&true) (.ask (aA8 b) (.ask (decide (aKr b=(↑b.length:Int))) (.ret [C.bool true]) (.ret [C.bool false])) (.ret [C.bool false])))):T (List C)).eval:=aAd (by kernel_rfl)
theorem bJ2 (H:List Pt→Nat→St→T (List C)) (b:List UInt8):(aAe bNd aAb (sg [pS] [rI]) Tryz.f109 H [C.str b]).eval=((.must (decide (b.length≤1048576)) (.must (decide (0<1)&&true&&(decide (0<1)&&true&&(decide (0<1)&&true&&(decide (0<1)&&true&&(decide (0<1)&&true&&((true&&(List.map aBf (aAn b)).all fun row=>decide (row.length=1))&&((true&&(List.map aEf (aEg b)).all fun row=>decide (row.length=1))&&(decide (0<1)&&true&&(decide (0<1)&&true&&true))))))))&&true&&true) (.ret [C.int .i64 (aKr b)]))):T (List C)).eval:=aAd (by kernel_rfl)
theorem bFb (H:List Pt→Nat→St→T (List C)) (ns:List (List C)) (es:List (List C)) (os:List (List C)) (ss:List (List C)) (r:Int) (x:Int):(aAe aPt aAb (sg [aB2] [rSl 126]) Tryz.f75 H [C.sl ns,C.sl es,C.sl os,C.sl ss,C.int .i64 r,C.int .i64 x]).eval=((.must (aHk ns es) (.must ((true&&(aBw (aBn (nds ns) (ens es))).all fun row=>decide (row.length=1))&&true&&true&&true) (H [Pt.r,Pt.r,Pt.r,Pt.l,Pt.r,Pt.b] 9223372036854775808 (aFi (ns) (es) (os) (ss) (r) (x) (0) ([]) ((aBw (aBn (nds ns) (ens es))).length) (aBw (aBn (nds ns) (ens es))) ((0:Int)))))):T (List C)).eval:=aAd (by kernel_rfl)
theorem aY4 (H:List Pt→Nat→St→T (List C)) (ns:List (List C)) (es:List (List C)) (os:List (List C)) (ss:List (List C)) (r:Int) (x:Int) (n:Nat) (o:List (List C)) (m2:Nat) (bs:List (List C)) (i:Int) (k:Nat):(aB3 aPt aAb (sg [aB2] [rSl 126]) Tryz.f75 H [Pt.r,Pt.r,Pt.r,Pt.l,Pt.r,Pt.b] k (aFi ns es os ss r x n o m2 bs i)).eval=((.ask (decide (i<(↑es.length:Int))) (.must (decide ((0:Int)≤i)&&decide (i<(↑es.length:Int))&&decide ((es.getD i.toNat []).length=2)) (.must (decide (0+0<(es.getD i.toNat []).length)&&C.is K.str ((es.getD i.toNat []).getD (0+0) (C.fn 0 []))&&true) (.must (decide (((es.getD i.toNat []).getD (0+0) (C.fn 0 [])).toStr.length≤1048576)) (.must (bEg ns es) (.ask (decide (aDu ((es.getD i.toNat []).getD (0+0) (C.fn 0 [])).toStr=(2:Int))) (.must (decide (n=o.length)&&aBg (o.length+1) 24&&(decide (2=2)&&true)) (H [Pt.r,Pt.r,Pt.r,Pt.l,Pt.r,Pt.b] k (aFi (ns) (es) (os) (ss) (r) (x) (o.length+1) (o.append [[C.str ((es.getD i.toNat []).getD (0+0) (C.fn 0 [])).toStr,C.int .i64 1]]) (m2) (bs) (IntKind.i64.wrap (i+(1:Int)))))) (.ask (decide (aDu ((es.getD i.toNat []).getD (0+0) (C.fn 0 [])).toStr=(0:Int))) (H [Pt.r,Pt.r,Pt.r,Pt.l,Pt.r,Pt.b] k (aFi (ns) (es) (os) (ss) (r) (x) (n) (o) (m2) (bs) (IntKind.i64.wrap (i+(1:Int))))) (.must (aAi [K.int .i64] (List.take m2 bs)&&decide ((List.take m2 bs).length≤1048576)) (.ask (aXa (aCp (List.take m2 bs)) (aC4 ((es.getD i.toNat []).getD (0+0) (C.fn 0 [])).toStr)) (.must (decide ((aAv (nds ns) (ens es) (aC4 ((es.getD i.toNat []).getD (0+0) (C.fn 0 [])).toStr)).length≤1048576)) (.ask (aBi (aAv (nds ns) (ens es) (aC4 ((es.getD i.toNat []).getD (0+0) (C.fn 0 [])).toStr))) (H [Pt.r,Pt.r,Pt.r,Pt.l,Pt.r,Pt.b] k (aFi (ns) (es) (os) (ss) (r) (x) (n) (o) (m2) (bs) (IntKind.i64.wrap (i+(1:Int))))) (.must (decide ((aAv (nds ns) (ens es) (aC4 ((es.getD i.toNat []).getD (0+0) (C.fn 0 [])).toStr)).length≤1048576)) (.ask (decide (aKr (aAv (nds ns) (ens es) (aC4 ((es.getD i.toNat []).getD (0+0) (C.fn 0 [])).toStr))=(↑(aAv (nds ns) (ens es) (aC4 ((es.getD i.toNat []).getD (0+0) (C.fn 0 [])).toStr)).length:Int))) (.must (decide (n=o.length)&&aBg (o.length+1) 24&&(decide (2=2)&&true)) (H [Pt.r,Pt.r,Pt.r,Pt.l,Pt.r,Pt.b] k (aFi (ns) (es) (os) (ss) (r) (x) (o.length+1) (o.append [[C.str ((es.getD i.toNat []).getD (0+0) (C.fn 0 [])).toStr,C.int .i64 3]]) (m2) (bs) (IntKind.i64.wrap (i+(1:Int)))))) (.must (decide (n=o.length)&&aBg (o.length+1) 24&&(decide (2=2)&&true)) (H [Pt.r,Pt.r,Pt.r,Pt.l,Pt.r,Pt.b] k (aFi (ns) (es) (os) (ss) (r) (x) (o.length+1) (o.append [[C.str ((es.getD i.toNat []).getD (0+0) (C.fn 0 [])).toStr,C.int .i64 4]]) (m2) (bs) (IntKind.i64.wrap (i+(1:Int)))))))))) (.must (decide (n=o.length)&&aBg (o.length+1) 24&&(decide (2=2)&&true)) (H [Pt.r,Pt.r,Pt.r,Pt.l,Pt.r,Pt.b] k (aFi (ns) (es) (os) (ss) (r) (x) (o.length+1) (o.append [[C.str ((es.getD i.toNat []).getD (0+0) (C.fn 0 [])).toStr,C.int .i64 2]]) (m2) (bs) (IntKind.i64.wrap (i+(1:Int)))))))))))))) (.must (decide (n=o.length)&&(false||o.all fun r=>r.all C.flat)&&true&&true&&true) (.ret [C.sl o]))):T (List C)).eval:=aAd (by kernel_rfl)
theorem aY5 (H:List Pt→Nat→St→T (List C)) (r:List (List C)) (acc:Int) (i:Int) (k:Nat):(aB3 aPu aAb (sg [pSl 9] [rI]) Tryz.f77 H [Pt.r,Pt.r,Pt.l,Pt.r,Pt.b] k (aPl r acc i)).eval=((.ask (decide (i<(↑r.length:Int))) (.must (decide ((0:Int)≤i)&&decide (i<(↑r.length:Int))&&decide ((r.getD i.toNat []).length=1)) (.must (decide (0<(r.getD i.toNat []).length)&&C.is K.str ((r.getD i.toNat []).getD 0 (C.fn 0 []))&&true) (.must (decide (((r.getD i.toNat []).getD 0 (C.fn 0 [])).toStr.length≤1048576)) (H [Pt.r,Pt.r,Pt.l,Pt.r,Pt.b] k (aPl (r) (aOz acc ((r.getD i.toNat []).getD 0 (C.fn 0 [])).toStr) (IntKind.i64.wrap (i+(1:Int)))))))) (.ret [C.int .i64 acc])):T (List C)).eval:=aAd (by kernel_rfl)
theorem bJl (H:List Pt→Nat→St→T (List C)) (ns:List (List C)) (es:List (List C)) (os:List (List C)) (ss:List (List C)) (r:Int) (x:Int):(aAe bNf aAb (sg [aB2] [rB]) Tryz.f35 H [C.sl ns,C.sl es,C.sl os,C.sl ss,C.int .i64 r,C.int .i64 x]).eval=((.must (aHk ns es&&bHn es) (.must ((true&&(List.map eFd (bGd ns es)).all fun row=>decide (row.length=2))&&true&&true&&true) (.ask (decide ((↑(List.map eFd (bGd ns es)).length:Int)=(0:Int))) (.ret [C.bool true]) (.ret [C.bool false])))):T (List C)).eval:=aAd (by kernel_rfl)
theorem bFd (H:List Pt→Nat→St→T (List C)) (r:List (List C)):(aAe aPu aAb (sg [pSl 9] [rI]) Tryz.f77 H [C.sl r]).eval=((H [Pt.r,Pt.r,Pt.l,Pt.r,Pt.b] 9223372036854775808 (aPl (r) ((0:Int)) ((0:Int)))):T (List C)).eval:=aAd (by kernel_rfl)
theorem bBb (H:List Pt→Nat→St→T (List C)) (ns:List (List C)) (es:List (List C)) (os:List (List C)) (ss:List (List C)) (r:Int) (x:Int):(aAe bA9 aAb (sg [aB2] [rI]) Tryz.f37 H [C.sl ns,C.sl es,C.sl os,C.sl ss,C.int .i64 r,C.int .i64 x]).eval=((.must (aHk ns es) (.must ((true&&(List.map aBf (aBh (aBn (nds ns) (ens es)))).all fun row=>decide (row.length=1))&&true&&true&&true) (.must (decide ((List.take (List.map aBf (aBh (aBn (nds ns) (ens es)))).length (List.map aBf (aBh (aBn (nds ns) (ens es))))).length≤16777216)&&(aAi [K.str] (List.take (List.map aBf (aBh (aBn (nds ns) (ens es)))).length (List.map aBf (aBh (aBn (nds ns) (ens es)))))&&aGk 1048576 (List.take (List.map aBf (aBh (aBn (nds ns) (ens es)))).length (List.map aBf (aBh (aBn (nds ns) (ens es))))))) (.ret [C.int .i64 (aDj 0 (aGh (List.take (List.map aBf (aBh (aBn (nds ns) (ens es)))).length (List.map aBf (aBh (aBn (nds ns) (ens es)))))))])))):T (List C)).eval:=aAd (by kernel_rfl)
theorem aXp (H:List Pt→Nat→St→T (List C)) (ns:List (List C)) (es:List (List C)) (os:List (List C)) (ss:List (List C)) (r:Int) (x:Int) (v:Int) (s:Int) (q:Int):(aAe aWu aAb (sg [aB2,pI,pI,pI] [aGm,rB]) Tryz.f14 H [C.sl ns,C.sl es,C.sl os,C.sl ss,C.int .i64 r,C.int .i64 x,C.int .i64 v,C.int .i64 s,C.int .i64 q]).eval=((.ask (aAy v s q) (.must (aHk ns es&&bHn es) (.ask (aAf ns es) (.must (aHk ns es) (.must ((true&&(List.map aBf (aBh (aBn (nds ns) (ens es)))).all fun row=>decide (row.length=1))&&true&&true&&true) (.must (aHk ns es) (.ret [C.int .i64 (sel (aAy v s q) v),C.int .i64 (sel (aAy v s q) s),C.int .i64 (sel (aAy v s q) q),C.int .i64 (↑(List.map aBf (aBh (aBn (nds ns) (ens es)))).length:Int),C.int .i64 (aCd ns es),C.sl [],C.int .i64 ((0:Int)),C.bool false,C.int .i64 ((0:Int)),C.bool true])))) (.ret [C.int .i64 0,C.int .i64 0,C.int .i64 0,C.int .i64 0,C.int .i64 0,C.sl [],C.int .i64 0,C.bool false,C.int .i64 0,C.bool false]))) (.ret [C.int .i64 0,C.int .i64 0,C.int .i64 0,C.int .i64 0,C.int .i64 0,C.sl [],C.int .i64 0,C.bool false,C.int .i64 0,C.bool false])):T (List C)).eval:=aAd (by kernel_rfl)
theorem bK6 (H:List Pt→Nat→St→T (List C)) (ns:List (List C)) (es:List (List C)) (os:List (List C)) (ss:List (List C)) (r:Int) (x:Int) (bs:List (List C)) (nm:List UInt8):(aAe bNi aAb (sg [aB2,pSl 3,pS] [rI]) Tryz.f111 H [C.sl ns,C.sl es,C.sl os,C.sl ss,C.int .i64 r,C.int .i64 x,C.sl bs,C.str nm]).eval=((.must (decide (nm.length≤1048576)) (.must (bEg ns es) (.ask (decide (aDu nm=(2:Int))) (.ret [C.int .i64 1]) (.ask (decide (aDu nm=(0:Int))) (.ret [C.int .i64 0]) (.must (aAi [K.int .i64] bs&&decide (bs.length≤1048576)) (.ask (aXa (aCp bs) (aC4 nm)) (.must (decide ((aAv (nds ns) (ens es) (aC4 nm)).length≤1048576)) (.ask (aBi (aAv (nds ns) (ens es) (aC4 nm))) (.ret [C.int .i64 0]) (.must (decide ((aAv (nds ns) (ens es) (aC4 nm)).length≤1048576)) (.ask (aA8 (aAv (nds ns) (ens es) (aC4 nm))&&decide (aKr (aAv (nds ns) (ens es) (aC4 nm))=(↑(aAv (nds ns) (ens es) (aC4 nm)).length:Int))) (.ret [C.int .i64 3]) (.ret [C.int .i64 4]))))) (.ret [C.int .i64 2]))))))):T (List C)).eval:=aAd (by kernel_rfl)
theorem bGy (H:List Pt→Nat→St→T (List C)) (ns:List (List C)) (es:List (List C)) (os:List (List C)) (ss:List (List C)) (r:Int) (x:Int):(aAe aPx aAb (sg [aB2] [rSl 126]) Tryz.f79 H [C.sl ns,C.sl es,C.sl os,C.sl ss,C.int .i64 r,C.int .i64 x]).eval=((.must (aHk ns es) (.must ((true&&(aBw (aBn (nds ns) (ens es))).all fun row=>decide (row.length=1))&&true&&true&&true) (.must (aAi [K.str,K.int .i64] es&&decide (es.length≤1048576)) (.must ((true&&(List.map aBf (aEi (ens es))).all fun row=>decide (row.length=1))&&true&&true&&true) (H [Pt.r,Pt.r,Pt.r,Pt.l,Pt.r,Pt.b] 9223372036854775808 (aLr (ns) (es) (os) (ss) (r) (x) ((aBw (aBn (nds ns) (ens es))).length) (aBw (aBn (nds ns) (ens es))) (0) ([]) ((List.map aBf (aEi (ens es))).length) (List.map aBf (aEi (ens es))) ((↑(List.map aBf (aEi (ens es))).length:Int)) ((0:Int)))))))):T (List C)).eval:=aAd (by kernel_rfl)
theorem aYs (H:List Pt→Nat→St→T (List C)) (ns:List (List C)) (es:List (List C)) (os:List (List C)) (ss:List (List C)) (r:Int) (x:Int) (m2:Nat) (bs:List (List C)) (n:Nat) (o:List (List C)) (q:Nat) (nm:List (List C)) (k2:Int) (i:Int) (k:Nat):(aB3 aPx aAb (sg [aB2] [rSl 126]) Tryz.f79 H [Pt.r,Pt.r,Pt.r,Pt.l,Pt.r,Pt.b] k (aLr ns es os ss r x m2 bs n o q nm k2 i)).eval=((.ask (decide (i<k2)) (.must (decide ((0:Int)≤i)&&decide (i<(↑q:Int))) (.must (decide (0+i.toNat<nm.length)&&(decide (0<(nm.getD (0+i.toNat) []).length)&&C.is K.str ((nm.getD (0+i.toNat) []).getD 0 (C.fn 0 []))&&true)) (.must (aHk ns es&&(aAi [K.int .i64] (List.take m2 bs)&&(decide ((List.take m2 bs).length≤1048576)&&decide (((nm.getD (0+i.toNat) []).getD 0 (C.fn 0 [])).toStr.length≤1048576)))) (.ask (aO5 (nds ns) (ens es) (aCp (List.take m2 bs)) ((nm.getD (0+i.toNat) []).getD 0 (C.fn 0 [])).toStr != (0:Int)) (.must (decide (n=o.length)&&aBg (o.length+1) 24&&(decide ((Nat.add 1 0).succ=2)&&true)) (H [Pt.r,Pt.r,Pt.r,Pt.l,Pt.r,Pt.b] k (aLr (ns) (es) (os) (ss) (r) (x) (m2) (bs) (o.length+1) (o.append [[C.str ((nm.getD (0+i.toNat) []).getD 0 (C.fn 0 [])).toStr,C.int .i64 (aO5 (nds ns) (ens es) (aCp (List.take m2 bs)) ((nm.getD (0+i.toNat) []).getD 0 (C.fn 0 [])).toStr)]]) (q) (nm) (k2) (IntKind.i64.wrap (i+(1:Int)))))) (H [Pt.r,Pt.r,Pt.r,Pt.l,Pt.r,Pt.b] k (aLr (ns) (es) (os) (ss) (r) (x) (m2) (bs) (n) (o) (q) (nm) (k2) (IntKind.i64.wrap (i+(1:Int))))))))) (.must (decide (n=o.length)&&(false||o.all fun r=>r.all C.flat)&&true&&true&&true) (.ret [C.sl o]))):T (List C)).eval:=aAd (by kernel_rfl)
theorem bLb (H:List Pt→Nat→St→T (List C)) (ns:List (List C)) (es:List (List C)) (os:List (List C)) (ss:List (List C)) (r:Int) (x:Int):(aAe bNq aAb (sg [aB2] [rB]) Tryz.f39 H [C.sl ns,C.sl es,C.sl os,C.sl ss,C.int .i64 r,C.int .i64 x]).eval=((.must (aHk ns es&&bHn es) (.must ((true&&(List.map eFd (bGd ns es)).all fun row=>decide (row.length=2))&&true&&true&&true) (.ask (decide ((↑(List.map eFd (bGd ns es)).length:Int)=(0:Int))) (.ret [C.bool true]) (.ret [C.bool false])))):T (List C)).eval:=aAd (by kernel_rfl)
theorem bH1 (H:List Pt→Nat→St→T (List C)) (r:List (List C)):(aAe bIh aAb (sg [pSl 9] [rI]) Tryz.f81 H [C.sl r]).eval=((.must (decide (r.length≤16777216)&&(aAi [K.str] r&&aGk 1048576 r)) (.ret [C.int .i64 (aDj 0 (aGh r))])):T (List C)).eval:=aAd (by kernel_rfl)
theorem bCs (H:List Pt→Nat→St→T (List C)) (ns:List (List C)) (es:List (List C)) (os:List (List C)) (ss:List (List C)) (r:Int) (x:Int):(aAe bAc aAb (sg [aB2] [rI]) Tryz.f41 H [C.sl ns,C.sl es,C.sl os,C.sl ss,C.int .i64 r,C.int .i64 x]).eval=((.must (aHk ns es) (.must ((true&&(List.map aBf (aBh (aBn (nds ns) (ens es)))).all fun row=>decide (row.length=1))&&true&&true&&true) (.must (decide ((List.take (List.map aBf (aBh (aBn (nds ns) (ens es)))).length (List.map aBf (aBh (aBn (nds ns) (ens es))))).length≤16777216)&&(aAi [K.str] (List.take (List.map aBf (aBh (aBn (nds ns) (ens es)))).length (List.map aBf (aBh (aBn (nds ns) (ens es)))))&&aGk 1048576 (List.take (List.map aBf (aBh (aBn (nds ns) (ens es)))).length (List.map aBf (aBh (aBn (nds ns) (ens es))))))) (.ret [C.int .i64 (aDj 0 (aGh (List.take (List.map aBf (aBh (aBn (nds ns) (ens es)))).length (List.map aBf (aBh (aBn (nds ns) (ens es)))))))])))):T (List C)).eval:=aAd (by kernel_rfl)
theorem aYg (H:List Pt→Nat→St→T (List C)) (ns:List (List C)) (es:List (List C)) (os:List (List C)) (ss:List (List C)) (r:Int) (x:Int) (v:Int) (s:Int) (q:Int):(aAe aX1 aAb (sg [aB2,pI,pI,pI] [aGm,rB]) Tryz.f15 H [C.sl ns,C.sl es,C.sl os,C.sl ss,C.int .i64 r,C.int .i64 x,C.int .i64 v,C.int .i64 s,C.int .i64 q]).eval=((.ask (aAy v s q) (.must (aHk ns es&&bHn es) (.ask (aAf ns es) (.must (aHk ns es) (.must (aHk ns es) (.ret [C.int .i64 (sel (aAy v s q) v),C.int .i64 (sel (aAy v s q) s),C.int .i64 (sel (aAy v s q) q),C.int .i64 (Int.ofNat (aBh (aBn (nds ns) (ens es))).length),C.int .i64 (aCd ns es),C.sl [],C.int .i64 ((0:Int)),C.bool false,C.int .i64 ((0:Int)),C.bool true]))) (.ret [C.int .i64 0,C.int .i64 0,C.int .i64 0,C.int .i64 0,C.int .i64 0,C.sl [],C.int .i64 0,C.bool false,C.int .i64 0,C.bool false]))) (.ret [C.int .i64 0,C.int .i64 0,C.int .i64 0,C.int .i64 0,C.int .i64 0,C.sl [],C.int .i64 0,C.bool false,C.int .i64 0,C.bool false])):T (List C)).eval:=aAd (by kernel_rfl)
theorem aYc (H:List Pt→Nat→St→T (List C)) (ns:List (List C)) (es:List (List C)) (os:List (List C)) (ss:List (List C)) (r:Int) (x:Int) (v:Int) (s:Int) (q:Int):(aAe aX0 aAb (sg [aRn,pI,pI,pI] [rB]) Tryz.f5 H [C.sl ns,C.sl es,C.sl os,C.sl ss,C.int .i64 r,C.int .i64 x,C.int .i64 v,C.int .i64 s,C.int .i64 q]).eval=((.must (decide ((0:Int)≤(1048576:Int))&&decide ((1048576:Int)≤(1048576:Int))&&(aC8 281474976710656 ns es os ss&&aBt ns es os ss&&aHl ns es os ss)) (.ask (decide (aRh (nds ns) (ens es) (ens os) (aGh ss) 1048576<(0:Int))) (.ret [C.bool true]) (.must (aC8 1048576 ns es os ss&&aBt ns es os ss) (.must ((true&&ns.all fun row=>decide (row.length=3))&&((true&&es.all fun row=>decide (row.length=2))&&((true&&os.all fun row=>decide (row.length=2))&&((true&&ss.all fun row=>decide (row.length=1))&&(decide (0<1)&&true&&(decide (0<1)&&true&&true)))))&&true&&true) (.must (aHk (List.take ns.length ns) (List.take es.length es)&&bHn (List.take es.length es)) (.ask (aAy v s q&&aAf (List.take ns.length ns) (List.take es.length es)) (.must (aC8 1048576 ns es os ss&&aBt ns es os ss) (.must ((true&&ns.all fun row=>decide (row.length=3))&&((true&&es.all fun row=>decide (row.length=2))&&((true&&os.all fun row=>decide (row.length=2))&&((true&&ss.all fun row=>decide (row.length=1))&&(decide (0<1)&&true&&(decide (0<1)&&true&&true)))))&&true&&true) (.must (aHk (List.take ns.length ns) (List.take es.length es)&&bHn (List.take es.length es)) (.ask (aAy v s q&&aAf (List.take ns.length ns) (List.take es.length es)) (.ask (bM5 (sel (aAy v s q&&aAf (List.take ns.length ns) (List.take es.length es)) v) (sel (aAy v s q&&aAf (List.take ns.length ns) (List.take es.length es)) s) (sel (aAy v s q&&aAf (List.take ns.length ns) (List.take es.length es)) q) (sel (aAy v s q&&aAf (List.take ns.length ns) (List.take es.length es)) (aDt (List.take ns.length ns) (List.take es.length es))) (sel (aAy v s q&&aAf (List.take ns.length ns) (List.take es.length es)) (aCd (List.take ns.length ns) (List.take es.length es))) ((0:Int)) ((0:Int)) false (sel (aAy v s q&&aAf (List.take ns.length ns) (List.take es.length es)) v) (sel (aAy v s q&&aAf (List.take ns.length ns) (List.take es.length es)) s) (sel (aAy v s q&&aAf (List.take ns.length ns) (List.take es.length es)) q) (sel (aAy v s q&&aAf (List.take ns.length ns) (List.take es.length es)) (aDt (List.take ns.length ns) (List.take es.length es))) (sel (aAy v s q&&aAf (List.take ns.length ns) (List.take es.length es)) (aCd (List.take ns.length ns) (List.take es.length es))) ((0:Int)) ((0:Int)) false) (.must (aC8 1048576 ns es os ss&&aBt ns es os ss) (.must ((true&&ns.all fun row=>decide (row.length=3))&&((true&&es.all fun row=>decide (row.length=2))&&((true&&os.all fun row=>decide (row.length=2))&&((true&&ss.all fun row=>decide (row.length=1))&&(decide (0<1)&&true&&(decide (0<1)&&true&&true)))))&&true&&true) (.must (aC8 1048576 (List.take ns.length ns) (List.take es.length es) (List.take os.length os) (List.take ss.length ss)&&aBt (List.take ns.length ns) (List.take es.length es) (List.take os.length os) (List.take ss.length ss)&&aBt (List.take ns.length ns) (List.take es.length es) (List.take os.length os) (List.take ss.length ss)) (.ask (bZe (List.take ns.length ns) (List.take es.length es) (List.take os.length os) (List.take ss.length ss) r x (List.take ns.length ns) (List.take es.length es) (List.take os.length os) (List.take ss.length ss) r x) (.must (true&&(true&&(true&&(true&&(true&&(true&&(true&&true))))))&&(decide (ns.length=ns.length)&&(decide (es.length=es.length)&&(decide (os.length=os.length)&&(decide (ss.length=ss.length)&&true)))&&true)) (.must (aBt ns es os ss&&(aC8 1048576 ns es os ss&&(decide ((0:Int)≤(1:Int))&&decide ((1:Int)≤(1073741824:Int))))) (.must (decide (0<1)&&true&&true&&true&&((decide ((mk mkN 3 1 ns.length).length=ns.length)&&(mk mkN 3 1 ns.length).all fun row=>decide (row.length=3))&&((decide ((mk aOg 2 ((1:Int)+(3:Int)*(↑ns.length:Int)) es.length).length=es.length)&&(mk aOg 2 ((1:Int)+(3:Int)*(↑ns.length:Int)) es.length).all fun row=>decide (row.length=2))&&((decide ((mk aOg 2 ((1:Int)+(3:Int)*(↑ns.length:Int)+(2:Int)*(↑es.length:Int)) os.length).length=os.length)&&(mk aOg 2 ((1:Int)+(3:Int)*(↑ns.length:Int)+(2:Int)*(↑es.length:Int)) os.length).all fun row=>decide (row.length=2))&&((decide ((mk mkS 1 ((1:Int)+(3:Int)*(↑ns.length:Int)+(2:Int)*(↑es.length:Int)+(2:Int)*(↑os.length:Int)) ss.length).length=ss.length)&&(mk mkS 1 ((1:Int)+(3:Int)*(↑ns.length:Int)+(2:Int)*(↑es.length:Int)+(2:Int)*(↑os.length:Int)) ss.length).all fun row=>decide (row.length=1))&&true)))&&true)) (.ask (bM5 (sel (aAy v s q&&aAf (List.take ns.length ns) (List.take es.length es)) v) (sel (aAy v s q&&aAf (List.take ns.length ns) (List.take es.length es)) s) (sel (aAy v s q&&aAf (List.take ns.length ns) (List.take es.length es)) q) (sel (aAy v s q&&aAf (List.take ns.length ns) (List.take es.length es)) (aDt (List.take ns.length ns) (List.take es.length es))) (sel (aAy v s q&&aAf (List.take ns.length ns) (List.take es.length es)) (aCd (List.take ns.length ns) (List.take es.length es))) ((0:Int)) ((0:Int)) false (sel (aAy v s q&&aAf (List.take ns.length ns) (List.take es.length es)) v) (sel (aAy v s q&&aAf (List.take ns.length ns) (List.take es.length es)) s) (sel (aAy v s q&&aAf (List.take ns.length ns) (List.take es.length es)) q) (sel (aAy v s q&&aAf (List.take ns.length ns) (List.take es.length es)) (aDt (List.take ns.length ns) (List.take es.length es))) (sel (aAy v s q&&aAf (List.take ns.length ns) (List.take es.length es)) (aCd (List.take ns.length ns) (List.take es.length es))) ((0:Int)) ((0:Int)) false) (.must (aC8 1048576 ns es os ss&&aBt ns es os ss) (.must ((true&&ns.all fun row=>decide (row.length=3))&&((true&&es.all fun row=>decide (row.length=2))&&((true&&os.all fun row=>decide (row.length=2))&&((true&&ss.all fun row=>decide (row.length=1))&&(decide (0<1)&&true&&(decide (0<1)&&true&&true)))))&&true&&true) (.must (aHk (List.take ns.length ns) (List.take es.length es)&&bHn (List.take es.length es)) (.ask (aAy v s q&&aAf (List.take ns.length ns) (List.take es.length es)) (.ask (bM5 (sel (aAy v s q&&aAf (List.take ns.length ns) (List.take es.length es)) v) (sel (aAy v s q&&aAf (List.take ns.length ns) (List.take es.length es)) s) (sel (aAy v s q&&aAf (List.take ns.length ns) (List.take es.length es)) q) (sel (aAy v s q&&aAf (List.take ns.length ns) (List.take es.length es)) (aDt (List.take ns.length ns) (List.take es.length es))) (sel (aAy v s q&&aAf (List.take ns.length ns) (List.take es.length es)) (aCd (List.take ns.length ns) (List.take es.length es))) ((0:Int)) ((0:Int)) false (sel (aAy v s q&&aAf (List.take ns.length ns) (List.take es.length es)) v) (sel (aAy v s q&&aAf (List.take ns.length ns) (List.take es.length es)) s) (sel (aAy v s q&&aAf (List.take ns.length ns) (List.take es.length es)) q) (sel (aAy v s q&&aAf (List.take ns.length ns) (List.take es.length es)) (aDt (List.take ns.length ns) (List.take es.length es))) (sel (aAy v s q&&aAf (List.take ns.length ns) (List.take es.length es)) (aCd (List.take ns.length ns) (List.take es.length es))) ((0:Int)) ((0:Int)) false) (.ret [C.bool true]) (.ret [C.bool false])) (.ask (bM5 (sel (aAy v s q&&aAf (List.take ns.length ns) (List.take es.length es)) v) (sel (aAy v s q&&aAf (List.take ns.length ns) (List.take es.length es)) s) (sel (aAy v s q&&aAf (List.take ns.length ns) (List.take es.length es)) q) (sel (aAy v s q&&aAf (List.take ns.length ns) (List.take es.length es)) (aDt (List.take ns.length ns) (List.take es.length es))) (sel (aAy v s q&&aAf (List.take ns.length ns) (List.take es.length es)) (aCd (List.take ns.length ns) (List.take es.length es))) ((0:Int)) ((0:Int)) false (sel (aAy v s q&&aAf (List.take ns.length ns) (List.take es.length es)) v) (sel (aAy v s q&&aAf (List.take ns.length ns) (List.take es.length es)) s) (sel (aAy v s q&&aAf (List.take ns.length ns) (List.take es.length es)) q) (sel (aAy v s q&&aAf (List.take ns.length ns) (List.take es.length es)) (aDt (List.take ns.length ns) (List.take es.length es))) (sel (aAy v s q&&aAf (List.take ns.length ns) (List.take es.length es)) (aCd (List.take ns.length ns) (List.take es.length es))) ((0:Int)) ((0:Int)) false) (.ret [C.bool false]) (.ret [C.bool false])))))) (.ret [C.bool false]))))) (.ret [C.bool false]))))) (.ret [C.bool false])) (.ask (bM5 (sel (aAy v s q&&aAf (List.take ns.length ns) (List.take es.length es)) v) (sel (aAy v s q&&aAf (List.take ns.length ns) (List.take es.length es)) s) (sel (aAy v s q&&aAf (List.take ns.length ns) (List.take es.length es)) q) (sel (aAy v s q&&aAf (List.take ns.length ns) (List.take es.length es)) (aDt (List.take ns.length ns) (List.take es.length es))) (sel (aAy v s q&&aAf (List.take ns.length ns) (List.take es.length es)) (aCd (List.take ns.length ns) (List.take es.length es))) ((0:Int)) ((0:Int)) false (sel (aAy v s q&&aAf (List.take ns.length ns) (List.take es.length es)) v) (sel (aAy v s q&&aAf (List.take ns.length ns) (List.take es.length es)) s) (sel (aAy v s q&&aAf (List.take ns.length ns) (List.take es.length es)) q) (sel (aAy v s q&&aAf (List.take ns.length ns) (List.take es.length es)) (aDt (List.take ns.length ns) (List.take es.length es))) (sel (aAy v s q&&aAf (List.take ns.length ns) (List.take es.length es)) (aCd (List.take ns.length ns) (List.take es.length es))) ((0:Int)) ((0:Int)) false) (.ret [C.bool false]) (.ret [C.bool false])))))) (.must (aC8 1048576 ns es os ss&&aBt ns es os ss) (.must ((true&&ns.all fun row=>decide (row.length=3))&&((true&&es.all fun row=>decide (row.length=2))&&((true&&os.all fun row=>decide (row.length=2))&&((true&&ss.all fun row=>decide (row.length=1))&&(decide (0<1)&&true&&(decide (0<1)&&true&&true)))))&&true&&true) (.must (aHk (List.take ns.length ns) (List.take es.length es)&&bHn (List.take es.length es)) (.ask (aAy v s q&&aAf (List.take ns.length ns) (List.take es.length es)) (.ask (bM5 (sel (aAy v s q&&aAf (List.take ns.length ns) (List.take es.length es)) v) (sel (aAy v s q&&aAf (List.take ns.length ns) (List.take es.length es)) s) (sel (aAy v s q&&aAf (List.take ns.length ns) (List.take es.length es)) q) (sel (aAy v s q&&aAf (List.take ns.length ns) (List.take es.length es)) (aDt (List.take ns.length ns) (List.take es.length es))) (sel (aAy v s q&&aAf (List.take ns.length ns) (List.take es.length es)) (aCd (List.take ns.length ns) (List.take es.length es))) ((0:Int)) ((0:Int)) false (sel (aAy v s q&&aAf (List.take ns.length ns) (List.take es.length es)) v) (sel (aAy v s q&&aAf (List.take ns.length ns) (List.take es.length es)) s) (sel (aAy v s q&&aAf (List.take ns.length ns) (List.take es.length es)) q) (sel (aAy v s q&&aAf (List.take ns.length ns) (List.take es.length es)) (aDt (List.take ns.length ns) (List.take es.length es))) (sel (aAy v s q&&aAf (List.take ns.length ns) (List.take es.length es)) (aCd (List.take ns.length ns) (List.take es.length es))) ((0:Int)) ((0:Int)) false) (.ret [C.bool false]) (.ret [C.bool false])) (.ask (bM5 (sel (aAy v s q&&aAf (List.take ns.length ns) (List.take es.length es)) v) (sel (aAy v s q&&aAf (List.take ns.length ns) (List.take es.length es)) s) (sel (aAy v s q&&aAf (List.take ns.length ns) (List.take es.length es)) q) (sel (aAy v s q&&aAf (List.take ns.length ns) (List.take es.length es)) (aDt (List.take ns.length ns) (List.take es.length es))) (sel (aAy v s q&&aAf (List.take ns.length ns) (List.take es.length es)) (aCd (List.take ns.length ns) (List.take es.length es))) ((0:Int)) ((0:Int)) false (sel (aAy v s q&&aAf (List.take ns.length ns) (List.take es.length es)) v) (sel (aAy v s q&&aAf (List.take ns.length ns) (List.take es.length es)) s) (sel (aAy v s q&&aAf (List.take ns.length ns) (List.take es.length es)) q) (sel (aAy v s q&&aAf (List.take ns.length ns) (List.take es.length es)) (aDt (List.take ns.length ns) (List.take es.length es))) (sel (aAy v s q&&aAf (List.take ns.length ns) (List.take es.length es)) (aCd (List.take ns.length ns) (List.take es.length es))) ((0:Int)) ((0:Int)) false) (.must (aC8 1048576 ns es os ss&&aBt ns es os ss) (.must ((true&&ns.all fun row=>decide (row.length=3))&&((true&&es.all fun row=>decide (row.length=2))&&((true&&os.all fun row=>decide (row.length=2))&&((true&&ss.all fun row=>decide (row.length=1))&&(decide (0<1)&&true&&(decide (0<1)&&true&&true)))))&&true&&true) (.must (aC8 1048576 (List.take ns.length ns) (List.take es.length es) (List.take os.length os) (List.take ss.length ss)&&aBt (List.take ns.length ns) (List.take es.length es) (List.take os.length os) (List.take ss.length ss)&&aBt (List.take ns.length ns) (List.take es.length es) (List.take os.length os) (List.take ss.length ss)) (.ask (bZe (List.take ns.length ns) (List.take es.length es) (List.take os.length os) (List.take ss.length ss) r x (List.take ns.length ns) (List.take es.length es) (List.take os.length os) (List.take ss.length ss) r x) (.must (true&&(true&&(true&&(true&&(true&&(true&&(true&&true))))))&&(decide (ns.length=ns.length)&&(decide (es.length=es.length)&&(decide (os.length=os.length)&&(decide (ss.length=ss.length)&&true)))&&true)) (.must (aBt ns es os ss&&(aC8 1048576 ns es os ss&&(decide ((0:Int)≤(1:Int))&&decide ((1:Int)≤(1073741824:Int))))) (.must (decide (0<1)&&true&&true&&true&&((decide ((mk mkN 3 1 ns.length).length=ns.length)&&(mk mkN 3 1 ns.length).all fun row=>decide (row.length=3))&&((decide ((mk aOg 2 ((1:Int)+(3:Int)*(↑ns.length:Int)) es.length).length=es.length)&&(mk aOg 2 ((1:Int)+(3:Int)*(↑ns.length:Int)) es.length).all fun row=>decide (row.length=2))&&((decide ((mk aOg 2 ((1:Int)+(3:Int)*(↑ns.length:Int)+(2:Int)*(↑es.length:Int)) os.length).length=os.length)&&(mk aOg 2 ((1:Int)+(3:Int)*(↑ns.length:Int)+(2:Int)*(↑es.length:Int)) os.length).all fun row=>decide (row.length=2))&&((decide ((mk mkS 1 ((1:Int)+(3:Int)*(↑ns.length:Int)+(2:Int)*(↑es.length:Int)+(2:Int)*(↑os.length:Int)) ss.length).length=ss.length)&&(mk mkS 1 ((1:Int)+(3:Int)*(↑ns.length:Int)+(2:Int)*(↑es.length:Int)+(2:Int)*(↑os.length:Int)) ss.length).all fun row=>decide (row.length=1))&&true)))&&true)) (.ask (bM5 (sel (aAy v s q&&aAf (List.take ns.length ns) (List.take es.length es)) v) (sel (aAy v s q&&aAf (List.take ns.length ns) (List.take es.length es)) s) (sel (aAy v s q&&aAf (List.take ns.length ns) (List.take es.length es)) q) (sel (aAy v s q&&aAf (List.take ns.length ns) (List.take es.length es)) (aDt (List.take ns.length ns) (List.take es.length es))) (sel (aAy v s q&&aAf (List.take ns.length ns) (List.take es.length es)) (aCd (List.take ns.length ns) (List.take es.length es))) ((0:Int)) ((0:Int)) false (sel (aAy v s q&&aAf (List.take ns.length ns) (List.take es.length es)) v) (sel (aAy v s q&&aAf (List.take ns.length ns) (List.take es.length es)) s) (sel (aAy v s q&&aAf (List.take ns.length ns) (List.take es.length es)) q) (sel (aAy v s q&&aAf (List.take ns.length ns) (List.take es.length es)) (aDt (List.take ns.length ns) (List.take es.length es))) (sel (aAy v s q&&aAf (List.take ns.length ns) (List.take es.length es)) (aCd (List.take ns.length ns) (List.take es.length es))) ((0:Int)) ((0:Int)) false) (.must (aC8 1048576 ns es os ss&&aBt ns es os ss) (.must ((true&&ns.all fun row=>decide (row.length=3))&&((true&&es.all fun row=>decide (row.length=2))&&((true&&os.all fun row=>decide (row.length=2))&&((true&&ss.all fun row=>decide (row.length=1))&&(decide (0<1)&&true&&(decide (0<1)&&true&&true)))))&&true&&true) (.must (aHk (List.take ns.length ns) (List.take es.length es)&&bHn (List.take es.length es)) (.ask (aAy v s q&&aAf (List.take ns.length ns) (List.take es.length es)) (.ask (bM5 (sel (aAy v s q&&aAf (List.take ns.length ns) (List.take es.length es)) v) (sel (aAy v s q&&aAf (List.take ns.length ns) (List.take es.length es)) s) (sel (aAy v s q&&aAf (List.take ns.length ns) (List.take es.length es)) q) (sel (aAy v s q&&aAf (List.take ns.length ns) (List.take es.length es)) (aDt (List.take ns.length ns) (List.take es.length es))) (sel (aAy v s q&&aAf (List.take ns.length ns) (List.take es.length es)) (aCd (List.take ns.length ns) (List.take es.length es))) ((0:Int)) ((0:Int)) false (sel (aAy v s q&&aAf (List.take ns.length ns) (List.take es.length es)) v) (sel (aAy v s q&&aAf (List.take ns.length ns) (List.take es.length es)) s) (sel (aAy v s q&&aAf (List.take ns.length ns) (List.take es.length es)) q) (sel (aAy v s q&&aAf (List.take ns.length ns) (List.take es.length es)) (aDt (List.take ns.length ns) (List.take es.length es))) (sel (aAy v s q&&aAf (List.take ns.length ns) (List.take es.length es)) (aCd (List.take ns.length ns) (List.take es.length es))) ((0:Int)) ((0:Int)) false) (.ret [C.bool false]) (.ret [C.bool false])) (.ask (bM5 (sel (aAy v s q&&aAf (List.take ns.length ns) (List.take es.length es)) v) (sel (aAy v s q&&aAf (List.take ns.length ns) (List.take es.length es)) s) (sel (aAy v s q&&aAf (List.take ns.length ns) (List.take es.length es)) q) (sel (aAy v s q&&aAf (List.take ns.length ns) (List.take es.length es)) (aDt (List.take ns.length ns) (List.take es.length es))) (sel (aAy v s q&&aAf (List.take ns.length ns) (List.take es.length es)) (aCd (List.take ns.length ns) (List.take es.length es))) ((0:Int)) ((0:Int)) false (sel (aAy v s q&&aAf (List.take ns.length ns) (List.take es.length es)) v) (sel (aAy v s q&&aAf (List.take ns.length ns) (List.take es.length es)) s) (sel (aAy v s q&&aAf (List.take ns.length ns) (List.take es.length es)) q) (sel (aAy v s q&&aAf (List.take ns.length ns) (List.take es.length es)) (aDt (List.take ns.length ns) (List.take es.length es))) (sel (aAy v s q&&aAf (List.take ns.length ns) (List.take es.length es)) (aCd (List.take ns.length ns) (List.take es.length es))) ((0:Int)) ((0:Int)) false) (.ret [C.bool true]) (.ret [C.bool false])))))) (.ret [C.bool false]))))) (.ret [C.bool false]))))) (.ret [C.bool false])))))))))))):T (List C)).eval:=aAd (by kernel_rfl)
theorem bNx:aA6 Tryz.prog bA7:=aA5 (by simp[aQf])
theorem aXc:aAm Tryz.prog 108 (sg [pS] [rB]) aEs:=aA3 bNx aA7 Tryz.func108 (by kernel_rfl) fun cs outs hk h=>by
 unfold aEs at h
 split at h
 ·simp only[Option.some.injEq,Prod.mk.injEq,decide_eq_true_eq]at h
  obtain⟨hb,rfl⟩:=h
  rename_i b
  rw[aA9,bAj]
  have d1:decide (0<1)=true:=by decide
  cases hs:aBi b<;>simp[aA0,aA2,aA1,hb,hs]
 ·cases h
theorem bNy:aA6 Tryz.prog bA8:=aA5 (by simp[aR0])
theorem aXd:aAm Tryz.prog 146 (sg [pS] [rB]) aEs:=aA3 bNy aA7 Tryz.func146 (by kernel_rfl) fun cs outs hk h=>by
 unfold aEs at h
 split at h
 ·simp only[Option.some.injEq,Prod.mk.injEq,decide_eq_true_eq]at h
  obtain⟨hb,rfl⟩:=h
  rename_i b
  rw[aA9,bAk]
  have d1:decide (0<1)=true:=by decide
  cases hs:aBi b<;>simp[aA0,aA2,aA1,hb,hs]
 ·cases h
theorem bV5:aA6 Tryz.prog bNg:=aA5 (by simp[aHf])
theorem bFx:aAm Tryz.prog 147 (sg [pS] [rB]) aQl:=aA3 bV5 aA7 Tryz.func147 (by kernel_rfl) fun cs outs hk h=>by
 unfold aQl at h
 split at h
 ·simp only[Option.some.injEq,Prod.mk.injEq,decide_eq_true_eq]at h
  obtain⟨hb,rfl⟩:=h
  rename_i b
  rw[aA9,bJw]
  have d1:decide (0<1)=true:=by decide
  simp only[aA0,aA2,aA1,hb,d1,aN7,aRl,decide_true,Bool.and_self,if_true,decide_eq_true_eq]
  cases aA8 b
  ·simp
  ·by_cases h:aKr b=b.length<;>simp[h]
 ·cases h
theorem bUo:aA6 Tryz.prog bNd:=aA5 (by simp[aF6])
theorem bF0:aAm Tryz.prog 109 (sg [pS] [rI]) aQa:=aA3 bUo aA7 Tryz.func109 (by kernel_rfl) fun cs outs hk h=>by
 unfold aQa at h
 split at h
 ·simp only[Option.some.injEq,Prod.mk.injEq,decide_eq_true_eq]at h
  obtain⟨hb,rfl⟩:=h
  rename_i b
  rw[aA9,bJ2]
  have d1:decide (0<1)=true:=by decide
  simp only[aA0,aA1,hb,d1,aN7,aRl,decide_true,Bool.and_self,if_true]
 ·cases h
theorem bQ1 (ns:List Nd) (es:List En):∀ (f:Nat) (base sum:Int) (b:Int),aXa ((aEq ns es f base sum).map fun x=>x.1) b=true→aA8 (aAv ns es b)=true:=by
 intro f
 induction f with
 |zero=>intro base sum b h;simp[aEq,aXa]at h
 |succ f ih =>
  intro base sum b h
  simp only[aEq]at h
  split at h
  ·rename_i hc
   simp only[List.map_cons,aXa]at h
   split at h
   ·rename_i hb
    subst hb
    simp only[Bool.and_eq_true]at hc
    have:=hc.1
    unfold aLg at this
    simp only[Bool.and_eq_true]at this
    exact this.1.1
   ·exact ih _ _ _ h
  ·simp[aXa]at h
theorem bYk (ns:List Nd) (es:List En) (nm:List UInt8):aO5 ns es (aJt ns es) nm=aRq ns es (aJt ns es) nm:=by
 unfold aO5 aRq
 by_cases h:aXa (aJt ns es) (aC4 nm)=true
 ·have hh:aA8 (aAv ns es (aC4 nm))=true:=bQ1 ns es 16 0 0 _ h
  rw[hh]
  simp only[Bool.true_and,decide_eq_true_eq]
 ·simp only[h,if_false,Bool.false_eq_true]
theorem bXh (acc:List Fd) (y:List UInt8) (c:Int):(acc.map eFd).append [[C.str y,C.int .i64 c]]=(acc++[(y,c)]).map eFd:=by simp[eFd]
theorem bX2 (l:List Fd):((l.map eFd).all fun row=>decide (row.length=2))=true:=by simp[eFd]
theorem bMw (l:List Fd):((l.map eFd).all fun r=>r.all C.flat)=true:=by simp[C.flat,eFd]
theorem bZo (n:Nat) (h:n≤1099511627776):aBg n 24=true:=by simp only[aBg,decide_eq_true_eq];omega
theorem bFr {ns es:List (List C)} (hd:aHk ns es=true):(aBh (aBn (nds ns) (ens es))).length≤16777216∧aGk 1048576 ((aBh (aBn (nds ns) (ens es))).map aBf)=true:=by
 have hn':(aBn (nds ns) (ens es)).length≤16:=aDb (nds ns) (ens es) 16 0 0
 have h1:=aM6 (aBn (nds ns) (ens es)) (bA1 hd)
 refine⟨by omega,(aJ5 _ _).2 fun r hr=>?_⟩
 obtain⟨x,_,hx⟩:=List.mem_flatMap.1 hr
 have:=(aE7 x.2).2.2 r hx
 omega
theorem bFc (ns os ss:List (List C)) (r x:Int) (l:List En) (hd:aHk ns (l.map eEn)=true) (hl:l.length≤1048576) (hn:∀ e∈l,e.name.length≤1048576) (bs:List Int) (hb:bs.length≤1048576):∀ (n i:Nat) (acc:List Fd),i≤l.length→l.length<i+n→acc.length≤i →
  (aBl aPt aAb (sg [aB2] [rSl 126]) Tryz.f75 [.r,.r,.r,.l,.r,.b] n (aFi ns (l.map eEn) os ss r x acc.length (acc.map eFd) bs.length (bs.map aEf) i)).eval=some [.sl ((acc++aRo (nds ns) l bs (aEi (l.drop i))).map eFd)]:=by
 have hne:=aV6 hd
 intro n
 induction n with
 |zero=>intro i acc h1 h2;omega
 |succ n ih =>
  intro i acc h1 h2 h3
  rw[aAo _ _ _ _ _ _ _ (by kernel_rfl),aY4]
  by_cases hi:i<l.length
  ·have g:=aB1 eEn l ⟨[],0⟩ i hi
   have w:IntKind.i64.wrap ((i:Int)+1)=((i+1:Nat):Int):=by rw[aAh]<;>omega
   have hz:(0:Int)≤i:=by omega
   have hi':(i:Int)<l.length:=by omega
   have hm:l.getD i ⟨[],0⟩∈l:=by rw[List.getD_eq_getElem?_getD,List.getElem?_eq_getElem hi];exact List.getElem_mem hi
   have hx:=hn _ hm
   rw[aBq l i ⟨[],0⟩ hi,aZm]
   generalize l.getD i ⟨[],0⟩=y at g hx ⊢
   have ht:=aIk hd (aC4 y.name)
   rw[bTf]at ht
   have ro:=bZo (acc.length+1) (by omega)
   have tk:List.take bs.length (bs.map aEf)=bs.map aEf:=by rw[List.take_of_length_le];simp
   have e1:=ih (i+1) acc (by omega) (by omega) (by omega)
   have e2:=fun c=>ih (i+1) (acc++[(y.name,c)]) (by omega) (by omega) (by simp;omega)
   simp only[List.length_append,List.length_cons,List.length_nil,Nat.zero_add,List.append_assoc]at e2
   simp only[aA0,aA2,if_true,decide_eq_true_eq,Bool.and_eq_true,w,hz,hi',Int.toNat_natCast,List.length_map,g,and_self,List.getD_cons_zero,C.toStr,C.is,List.length_cons,List.length_nil,Nat.zero_add,Nat.reduceAdd,Nat.reduceLT,Nat.zero_lt_succ,decide_true,hx,hne,ht,ro,tk,aJc,aT0,bTf,hb,Bool.and_self,bXh,aRo,aRq]
   by_cases k2:aDu y.name=2
   ·simp only[k2,if_true,ne_eq,Int.reduceEq,not_false_eq_true,List.cons_append,List.nil_append]
    exact e2 1
   ·by_cases k0:aDu y.name=0
    ·simp only[k0,Int.reduceEq,if_true,if_false,ne_eq,not_true_eq_false,List.nil_append]
     exact e1
    ·simp only[k2,k0,if_false]
     by_cases hh:aXa bs (aC4 y.name)=true
     ·simp only[hh,if_true]
      by_cases hs:aBi (aAv (nds ns) l (aC4 y.name))=true
      ·simp only[hs,if_true,ne_eq,not_true_eq_false,if_false,List.nil_append]
       exact e1
      ·simp only[hs,if_false,Bool.false_eq_true]
       by_cases he:aKr (aAv (nds ns) l (aC4 y.name))=((aAv (nds ns) l (aC4 y.name)).length:Nat)
       ·simp only[he,if_true,ne_eq,Int.reduceEq,not_false_eq_true,List.cons_append,List.nil_append]
        exact e2 3
       ·simp only[he,if_false,if_true,ne_eq,Int.reduceEq,not_false_eq_true,List.cons_append,List.nil_append]
        exact e2 4
     ·simp only[hh,if_false,if_true,Bool.false_eq_true,ne_eq,Int.reduceEq,not_false_eq_true,List.cons_append,List.nil_append]
      exact e2 2
  ·have e:i=l.length:=by omega
   subst e
   have hi':¬((l.length:Int)<(l.length:Int)):=by omega
   simp only[aA0,aA2,aA1,decide_eq_true_eq,List.length_map,hi',if_false,bMw,decide_true,Bool.or_true,Bool.and_self,if_true,List.drop_length,aEi,List.map_nil,aRo,List.append_nil]
theorem bR9:aA6 Tryz.prog aPt:=aA5 (by simp[aJ7,aRk,aUo,bJj,aXc,bF0])
theorem bBl:aAm Tryz.prog 75 (sg [aB2] [rSl 126]) aH2:=aA3 bR9 aA7 Tryz.func75 (by kernel_rfl) fun cs outs hk h=>by
 unfold aH2 at h
 split at h
 ·simp only[Option.some.injEq,Prod.mk.injEq,Bool.and_eq_true]at h
  obtain⟨⟨hd,he⟩,rfl⟩:=h
  rename_i ns es os ss r x
  obtain⟨h1,h2,h3⟩:=(bDo _).1 he
  rw[aA9,bFb]
  have hn':(aBn (nds ns) (ens es)).length≤16:=aDb (nds ns) (ens es) 16 0 0
  have hr:=aF7 h1
  have lp:=bFc ns os ss r x (ens es) (by rw[←hr];exact hd) (by rw[bDw];exact h2) h3 ((aBn (nds ns) (ens es)).map fun x=>x.1) (by simp;omega) 9223372036854775808 0 [] (by omega) (by rw[bDw];omega) (by simp)
  rw[←hr,←bK8]at lp
  have hb:((aBw (aBn (nds ns) (ens es))).all fun row=>decide (row.length=1))=true:=by simp[aBw]
  simp only[aA0,hd,hb,Bool.and_self,if_true]
  refine Eq.trans ?_ lp
  rw[show (aBw (aBn (nds ns) (ens es))).length=((aBn (nds ns) (ens es)).map fun x=>x.1).length by simp[aBw]]
  rfl
 ·cases h
theorem bMp (l:List Fd):(((l.map eFd).length:Nat):Int)=0↔l=[]:=by
 rw[List.length_map]
 constructor
 ·intro h;exact List.length_eq_zero_iff.1 (by omega)
 ·rintro rfl;rfl
theorem bUt:aA6 Tryz.prog bNf:=aA5 (by simp[bBl])
theorem bFl:aAm Tryz.prog 35 (sg [aB2] [rB]) aIv:=aA3 bUt aA7 Tryz.func35 (by kernel_rfl) fun cs outs hk h=>by
 unfold aIv at h
 split at h
 ·simp only[Option.some.injEq,Prod.mk.injEq]at h
  obtain⟨h1,rfl⟩:=h
  rename_i ns es os ss r x
  rw[aA9,bJl]
  simp only[aA0,aA2,aA1,h1,bX2,Bool.and_self,if_true,decide_eq_true_eq,bMp,aAf]
  by_cases hc:bGd ns es=[]
  ·simp only[hc,if_true,decide_true]
  ·simp only[hc,if_false,decide_false]
 ·cases h
theorem bFe (l:List (List UInt8)) (hl:l.length≤16777216) (hr:∀ r∈l,r.length≤1048576):∀ (n i:Nat) (acc:Int),i≤l.length→l.length<i+n →
  (aBl aPu aAb (sg [pSl 9] [rI]) Tryz.f77 [.r,.r,.l,.r,.b] n (aPl (l.map aBf) acc i)).eval=some [.int .i64 (aDj acc (l.drop i))]:=by
 intro n
 induction n with
 |zero=>intro i acc h1 h2;omega
 |succ n ih =>
  intro i acc h1 h2
  rw[aAo _ _ _ _ _ _ _ (by kernel_rfl),aY5]
  by_cases hi:i<l.length
  ·have g:=aB1 aBf l [] i hi
   have w:IntKind.i64.wrap ((i:Int)+1)=((i+1:Nat):Int):=by rw[aAh]<;>omega
   have hz:(0:Int)≤i:=by omega
   have hi':(i:Int)<l.length:=by omega
   have hm:l.getD i []∈l:=by rw[List.getD_eq_getElem?_getD,List.getElem?_eq_getElem hi];exact List.getElem_mem hi
   have hx:=hr _ hm
   rw[aBq l i [] hi]
   generalize l.getD i []=y at g hx ⊢
   simp only[aA0,aA2,if_true,decide_eq_true_eq,Bool.and_eq_true,w,hz,hi',Int.toNat_natCast,List.length_map,g,and_self,List.getD_cons_zero,C.toStr,C.is,List.length_cons,List.length_nil,Nat.zero_add,Nat.zero_lt_succ,decide_true,hx]
   exact ih (i+1) _ (by omega) (by omega)
  ·have e:i=l.length:=by omega
   subst e
   have hi':¬((l.length:Int)<(l.length:Int)):=by omega
   simp only[aA2,aA1,decide_eq_true_eq,List.length_map,hi',if_false,List.drop_length]
   rfl
theorem bRa:aA6 Tryz.prog aPu:=aA5 (by simp[aKv])
theorem bBm:aAm Tryz.prog 77 (sg [pSl 9] [rI]) aH3:=aA3 bRa aA7 Tryz.func77 (by kernel_rfl) fun cs outs hk h=>by
 unfold aH3 at h
 split at h
 ·simp only[Option.some.injEq,Prod.mk.injEq,Bool.and_eq_true,decide_eq_true_eq]at h
  obtain⟨⟨h1,h2,h3⟩,rfl⟩:=h
  rename_i rows
  have hr:=aDs h2
  generalize aGh rows=l at hr ⊢
  subst hr
  rw[List.length_map]at h1
  rw[aJ5]at h3
  rw[aA9,bFd]
  exact bFe l h1 h3 9223372036854775808 0 0 (by omega) (by omega)
 ·cases h
theorem bOj:aA6 Tryz.prog bA9:=aA5 (by simp[aRj,bBm])
theorem aXv:aAm Tryz.prog 37 (sg [aB2] [rI]) aFr:=aA3 bOj aA7 Tryz.func37 (by kernel_rfl) fun cs outs hk h=>by
 unfold aFr at h
 split at h
 ·simp only[Option.some.injEq,Prod.mk.injEq]at h
  obtain⟨hd,rfl⟩:=h
  rename_i ns es os ss r x
  rw[aA9,bBb]
  obtain⟨f1,f2⟩:=bFr hd
  have ee:aCd ns es=aDj 0 (aBh (aBn (nds ns) (ens es))):=rfl
  rw[ee]
  generalize aBh (aBn (nds ns) (ens es))=m at f1 f2 ⊢
  have tk:List.take m.length (m.map aBf)=m.map aBf:=by rw[List.take_of_length_le];simp
  simp only[aA0,aA1,hd,aN7,List.take_length,List.length_map,tk,f1,f2,aJb,aLw,decide_true,Bool.and_self,if_true]
 ·cases h
theorem bJ5:aA6 Tryz.prog aWu:=aA5 (by simp[aSc,aRj,bFl,aXv])
theorem aUg:aAm Tryz.prog 14 (sg [aB2,pI,pI,pI] [aGm,rB]) aEr:=aA3 bJ5 aA7 Tryz.func14 (by kernel_rfl) fun cs outs hk h=>by
 unfold aEr at h
 split at h
 ·simp only[Option.some.injEq,Prod.mk.injEq,Bool.and_eq_true]at h
  obtain⟨⟨hd,he⟩,rfl⟩:=h
  rename_i ns es os ss r x v s q
  rw[aA9,aXp]
  have ee:aDt ns es=((aBh (aBn (nds ns) (ens es))).length:Nat):=rfl
  rw[ee]
  cases h1:aAy v s q with
  |false=>simp[aA2,aA1,bQ8,h1,sel]
  |true =>
   cases h2:aAf ns es with
   |false=>simp[aA0,aA2,aA1,hd,he,h2,bQ8,h1,sel]
   |true=>simp[aA0,aA2,aA1,hd,he,h2,bQ8,h1,sel]
 ·cases h
theorem bVi:aA6 Tryz.prog bNi:=aA5 (by simp[aP4,aLd,aZz,aXd,bFx])
theorem bGe:aAm Tryz.prog 111 (sg [aB2,pSl 3,pS] [rI]) aQo:=aA3 bVi aA7 Tryz.func111 (by kernel_rfl) fun cs outs hk h=>by
 unfold aQo at h
 split at h
 ·simp only[Option.some.injEq,Prod.mk.injEq,Bool.and_eq_true,decide_eq_true_eq]at h
  obtain⟨⟨hd,h1,h2,h3⟩,rfl⟩:=h
  rename_i ns es os ss r x bs nm
  rw[aA9,bK6]
  have hne:=aV6 hd
  have ht:=aIk hd (aC4 nm)
  simp only[aA0,aA2,aA1,h1,h2,h3,hne,ht,decide_true,Bool.and_self,if_true,decide_eq_true_eq,aO5]
  repeat' split
  all_goals first | rfl | (simp_all;done)
 ·cases h
theorem bGz (ns es os ss:List (List C)) (r x:Int) (hd:aHk ns es=true) (l:List (List UInt8)) (hl:l.length≤1048576) (hn:∀ s∈l,s.length≤1048576) (bs:List Int) (hb:bs.length≤1048576) (hbs:bs=aJt (nds ns) (ens es)):∀ (n i:Nat) (acc:List Fd),i≤l.length→l.length<i+n→acc.length≤i →
  (aBl aPx aAb (sg [aB2] [rSl 126]) Tryz.f79 [.r,.r,.r,.l,.r,.b] n (aLr ns es os ss r x bs.length (bs.map aEf) acc.length (acc.map eFd) l.length (l.map aBf) l.length i)).eval=some [.sl ((acc++aRo (nds ns) (ens es) bs (l.drop i)).map eFd)]:=by
 intro n
 induction n with
 |zero=>intro i acc h1 h2;omega
 |succ n ih =>
  intro i acc h1 h2 h3
  rw[aAo _ _ _ _ _ _ _ (by kernel_rfl),aYs]
  by_cases hi:i<l.length
  ·have g:=aB1 aBf l [] i hi
   have w:IntKind.i64.wrap ((i:Int)+1)=((i+1:Nat):Int):=by rw[aAh]<;>omega
   have hz:(0:Int)≤i:=by omega
   have hi':(i:Int)<l.length:=by omega
   have hm:l.getD i []∈l:=by rw[List.getD_eq_getElem?_getD,List.getElem?_eq_getElem hi];exact List.getElem_mem hi
   have hx:=hn _ hm
   rw[aBq l i [] hi]
   generalize l.getD i []=y at g hx ⊢
   have ro:=bZo (acc.length+1) (by omega)
   have tk:List.take bs.length (bs.map aEf)=bs.map aEf:=by rw[List.take_of_length_le];simp
   have hsame:aO5 (nds ns) (ens es) bs y=aRq (nds ns) (ens es) bs y:=by rw[hbs];exact bYk _ _ _
   have e1:=ih (i+1) acc (by omega) (by omega) (by omega)
   have e2:=ih (i+1) (acc++[(y,aRq (nds ns) (ens es) bs y)]) (by omega) (by omega) (by simp;omega)
   simp only[List.length_append,List.length_cons,List.length_nil,Nat.zero_add,List.append_assoc]at e2
   simp only[aA0,aA2,if_true,decide_eq_true_eq,Bool.and_eq_true,w,hz,hi',hi,Int.toNat_natCast,List.length_map,g,and_self,List.getD_cons_zero,C.toStr,C.is,List.length_cons,List.length_nil,Nat.zero_add,Nat.zero_lt_succ,decide_true,hx,hd,ro,tk,aJc,aT0,hb,Bool.and_self,bXh,hsame,aRo,bne_iff_ne,ne_eq]
   by_cases hc:aRq (nds ns) (ens es) bs y=0
   ·simp only[hc,not_true_eq_false,if_false,List.nil_append]
    exact e1
   ·simp only[hc,not_false_eq_true,if_true,List.cons_append,List.nil_append]
    exact e2
  ·have e:i=l.length:=by omega
   subst e
   have hi':¬((l.length:Int)<(l.length:Int)):=by omega
   simp only[aA0,aA2,aA1,decide_eq_true_eq,List.length_map,hi',if_false,bMw,decide_true,Bool.or_true,Bool.and_self,if_true,List.drop_length,aRo,List.append_nil]
theorem bSs:aA6 Tryz.prog aPx:=aA5 (by simp[bGw,bH7,bGe])
theorem bD2:aAm Tryz.prog 79 (sg [aB2] [rSl 126]) aH2:=aA3 bSs aA7 Tryz.func79 (by kernel_rfl) fun cs outs hk h=>by
 unfold aH2 at h
 split at h
 ·simp only[Option.some.injEq,Prod.mk.injEq,Bool.and_eq_true]at h
  obtain⟨⟨hd,he⟩,rfl⟩:=h
  rename_i ns es os ss r x
  obtain⟨h1,h2,h3⟩:=(bDo _).1 he
  rw[aA9,bGy]
  have hn':(aBn (nds ns) (ens es)).length≤16:=aDb (nds ns) (ens es) 16 0 0
  have hcl:(aJt (nds ns) (ens es)).length≤1048576:=by unfold aJt;simp;omega
  have hnl:(aEi (ens es)).length≤1048576:=by unfold aEi;rw[List.length_map,bDw];exact h2
  have hnt:∀ x∈aEi (ens es),x.length≤1048576:=fun x hx=>by
   obtain⟨e,he1,rfl⟩:=List.mem_map.1 hx
   exact h3 e he1
  have lp:=bGz ns es os ss r x hd (aEi (ens es)) hnl hnt (aJt (nds ns) (ens es)) hcl rfl 9223372036854775808 0 [] (by omega) (by omega) (by simp)
  have ecb:aBw (aBn (nds ns) (ens es))=(aJt (nds ns) (ens es)).map aEf:=bK8 _
  rw[ecb]
  simp only[aA0,hd,h1,h2,aN7,aRl,List.length_map,decide_true,Bool.and_self,if_true]
  exact lp
 ·cases h
theorem bW3:aA6 Tryz.prog bNq:=aA5 (by simp[bD2])
theorem bH6:aAm Tryz.prog 39 (sg [aB2] [rB]) aIv:=aA3 bW3 aA7 Tryz.func39 (by kernel_rfl) fun cs outs hk h=>by
 unfold aIv at h
 split at h
 ·simp only[Option.some.injEq,Prod.mk.injEq]at h
  obtain⟨h1,rfl⟩:=h
  rename_i ns es os ss r x
  rw[aA9,bLb]
  simp only[aA0,aA2,aA1,h1,bX2,Bool.and_self,if_true,decide_eq_true_eq,bMp,aAf]
  by_cases hc:bGd ns es=[]
  ·simp only[hc,if_true,decide_true]
  ·simp only[hc,if_false,decide_false]
 ·cases h
theorem bSu:aA6 Tryz.prog bIh:=aA5 (by simp[aNf])
theorem bD4:aAm Tryz.prog 81 (sg [pSl 9] [rI]) aH3:=aA3 bSu aA7 Tryz.func81 (by kernel_rfl) fun cs outs hk h=>by
 unfold aH3 at h
 split at h
 ·simp only[Option.some.injEq,Prod.mk.injEq]at h
  obtain⟨h1,rfl⟩:=h
  rename_i rows
  rw[aA9,bH1]
  simp only[aA0,aA1,h1,if_true]
 ·cases h
theorem bPk:aA6 Tryz.prog bAc:=aA5 (by simp[aRu,bD4])
theorem aYl:aAm Tryz.prog 41 (sg [aB2] [rI]) aFr:=aA3 bPk aA7 Tryz.func41 (by kernel_rfl) fun cs outs hk h=>by
 unfold aFr at h
 split at h
 ·simp only[Option.some.injEq,Prod.mk.injEq]at h
  obtain⟨hd,rfl⟩:=h
  rename_i ns es os ss r x
  rw[aA9,bCs]
  obtain⟨f1,f2⟩:=bFr hd
  have ee:aCd ns es=aDj 0 (aBh (aBn (nds ns) (ens es))):=rfl
  rw[ee]
  generalize aBh (aBn (nds ns) (ens es))=m at f1 f2 ⊢
  have tk:List.take m.length (m.map aBf)=m.map aBf:=by rw[List.take_of_length_le];simp
  simp only[aA0,aA1,hd,aN7,List.take_length,List.length_map,tk,f1,f2,aJb,aLw,decide_true,Bool.and_self,if_true]
 ·cases h
theorem bKs:aA6 Tryz.prog aX1:=aA5 (by simp[aSn,bD3,bH6,aYl])
theorem aVm:aAm Tryz.prog 15 (sg [aB2,pI,pI,pI] [aGm,rB]) aEr:=aA3 bKs aA7 Tryz.func15 (by kernel_rfl) fun cs outs hk h=>by
 unfold aEr at h
 split at h
 ·simp only[Option.some.injEq,Prod.mk.injEq,Bool.and_eq_true]at h
  obtain⟨⟨hd,he⟩,rfl⟩:=h
  rename_i ns es os ss r x v s q
  rw[aA9,aYg]
  have ee:aDt ns es=((aBh (aBn (nds ns) (ens es))).length:Nat):=rfl
  rw[ee]
  cases h1:aAy v s q with
  |false=>simp[aA2,aA1,bQ8,h1,sel]
  |true =>
   cases h2:aAf ns es with
   |false=>simp[aA0,aA2,aA1,hd,he,h2,bQ8,h1,sel]
   |true=>simp[aA0,aA2,aA1,hd,he,h2,bQ8,h1,sel]
 ·cases h
theorem cB4 (k:Int) (n:Nat):((mk mkN 3 k n).all fun r=>decide (r.length=3))=true:=aKb _ _ _ _ _ fun k=>rfl
theorem cB5 (k:Int) (n:Nat):((mk aOg 2 k n).all fun r=>decide (r.length=2))=true:=aKb _ _ _ _ _ fun k=>rfl
theorem cB6 (k:Int) (n:Nat):((mk mkS 1 k n).all fun r=>decide (r.length=1))=true:=aKb _ _ _ _ _ fun k=>rfl
theorem bKb:aA6 Tryz.prog aX0:=aA5 (by simp[bAy,bEq,bHu,bGm,aYy,aSl,aSt,aUg,aVm])
theorem aVk:aAm Tryz.prog 5 (sg [aRn,pI,pI,pI] [rB]) bDy:=aA3 bKb aA7 Tryz.func5 (by kernel_rfl) fun cs outs hk h=>by
 unfold bDy at h
 split at h
 ·simp only[Option.some.injEq,Prod.mk.injEq]at h
  obtain⟨hl,rfl⟩:=h
  rename_i ns es os ss r x v s q
  rw[aA9,aYc]
  have hl':=hl
  unfold aQq at hl'
  simp only[Bool.and_eq_true]at hl'
  obtain⟨⟨g1,g2⟩,g3⟩:=hl'
  have d0:decide ((0:Int)≤1048576)=true:=by decide
  have d1:decide ((1048576:Int)≤1048576)=true:=by decide
  have d2:decide (0<1)=true:=by decide
  simp only[aA0,aA2,aA1,d0,d1,d2,g1,g2,g3,Bool.and_self,if_true,decide_eq_true_eq]
  by_cases hs:aRh (nds ns) (ens es) (ens os) (aGh ss) 1048576<0
  ·simp only[hs,if_true]
  ·have pk:=bOw hl hs
   obtain⟨p1,p2,p3⟩:=bOx pk
   obtain⟨_,_,_,q4,q5⟩:=aZe hl hs
   obtain⟨r1,r2,r3,r4⟩:=bTk g2
   simp only[hs,if_false,List.take_length]
   have d3:decide ((0:Int)≤1)=true:=by decide
   have d4:decide ((1:Int)≤1073741824)=true:=by decide
   have ww:∀ x1 x2 x3 x4 x5 x6 x7 xb,bM5 x1 x2 x3 x4 x5 x6 x7 xb x1 x2 x3 x4 x5 x6 x7 xb=true:=by intros;simp[bM5]
   simp only[g2,q4,q5,p2,r1,r2,r3,r4,d3,d4,ww,aL6,cB6,cB5,cB4,bTe,bne_self_eq_false,decide_true,Bool.and_self,Bool.and_true,Bool.true_and,Bool.false_eq_true,if_true,if_false]
   generalize (aAy v s q&&aAf ns es)=b
   cases b<;>first | rfl | (simp;done)
 ·cases h
end Go.Proofs.YtfljomghcbaepaaGreatDoor.V
