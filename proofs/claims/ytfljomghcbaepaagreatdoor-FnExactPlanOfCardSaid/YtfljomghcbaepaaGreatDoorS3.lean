/- Functions of the given program and of its reference: what each returns, as an equation over data; by the interpreter. -/
import Derived.Test.YtfljomghcbaepaaGreatDoorS2
import Derived.Test.YtfljomghcbaepaaGreatDoorProg
import Derived.KernelRfl
import Derived.Lib.Builder
import Derived.Lib.AppendStr
import Derived.Lib.UnsafeStr
import Derived.Lib.Walk
import Derived.WalkKit
import Derived.RegionTactic
import Derived.Lib.Strings
import Derived.Lib.BufferWrite
import Derived.Laws.MakeOwn
set_option linter.unusedVariables false
set_option linter.unusedSimpArgs false
set_option linter.unusedSectionVars false
set_option linter.deprecated false
namespace Go.Proofs.YtfljomghcbaepaaGreatDoor.V
theorem aLm (s:Int) (os:List Int) (i:Nat) (hs:1≤s) (hm:(i:Int) % s=0):∀ d:Nat,(d:Int)<s→aBl s os (i+1+d)=aBl s os (i+1)
 |0,_=>rfl
 |d+1,h=>by
  show aBl s os (i+1+d+1)=_
  rw[aBl,aLm s os i hs hm d (by omega)]
  have:((i+1+d:Nat):Int) % s=(d:Int)+1:=by
   have e:((i+1+d:Nat):Int)=(i:Int)+((d:Int)+1):=by omega
   rw[e,Int.add_emod,hm,Int.zero_add,Int.emod_emod_of_dvd _ (Int.dvd_refl s),Int.emod_eq_of_lt (by omega) (by omega)]
  rw[this,if_neg (by omega),List.append_nil]
theorem aZ6 (s:Int) (os:List Int) (hs:1≤s) (hl:os.length≤1048576):∀ (f n i:Nat),os.length-i≤f→i≤os.length→(i:Int) % s=0→f<n →
  (aBf aKk aAa (⟨[pI,bIm],[bUu],true⟩) Tryz.f185 [.r,.r,.r,.l,.r,.b] n (aKe s (os.map aF3) (aBl s os i).length ((aBl s os i).map ePl) i)).eval=some [.sl ((aBl s os os.length).map ePl)]:=by
 intro f
 induction f with
 |zero =>
  intro n i h1 h2 h3 h4
  obtain⟨n,rfl⟩:∃ q,n=q+1:=⟨n-1,by omega⟩
  rw[aAi _ _ _ _ _ _ _ (by kernel_rfl),aKv]
  have c:¬((i:Int)<(os.length:Int)):=by omega
  have ei:i=os.length:=by omega
  simp only[List.length_map,aA1,aA0,aA2,decide_eq_true_eq,c,if_false,decide_true,Bool.true_or,Bool.and_self,if_true]
  rw[ei]
 |succ f ih =>
  intro n i h1 h2 h3 h4
  obtain⟨n,rfl⟩:∃ q,n=q+1:=⟨n-1,by omega⟩
  rw[aAi _ _ _ _ _ _ _ (by kernel_rfl),aKv]
  by_cases c:(i:Int)<(os.length:Int)
  ·have hi:i<os.length:=by omega
   have z:(0:Int)≤(i:Int):=by omega
   have g:=aAv aF3 os 0 i hi
   have pl:=aHu s os i
   have ro:aBb ((aBl s os i).length+1) 16=true:=by simp only[aBb,decide_eq_true_eq];omega
   have w:IntKind.i64.wrap ((os.length:Int)-(i:Int))=(os.length:Int)-i:=by rw[aAd]<;>omega
   have ep:aBl s os (i+1)=aBl s os i++[((i:Int),os.getD i 0)]:=by simp only[aBl,h3,if_true]
   simp only[List.length_map,aA1,aA0,aA2,decide_eq_true_eq,c,z,Int.toNat_natCast,g,w,ro,hi,if_true,decide_true,Bool.and_true,Bool.true_and,Bool.and_self,List.length_cons,List.length_nil,Nat.zero_add,Nat.zero_lt_one,C.is,beq_self_eq_true,List.getD_cons_zero,C.toInt]
   by_cases hb:(os.length:Int)-i<s
   ·have e1:=aLm s os i hs h3 (os.length-(i+1)) (by omega)
    rw[show i+1+(os.length-(i+1))=os.length by omega,ep]at e1
    simp only[hb,if_true]
    rw[e1]
    simp[ePl]
   ·obtain⟨k,rfl⟩:∃ k:Nat,s=k:=⟨s.toNat,by omega⟩
    have e1:=aLm k os i hs h3 (k-1) (by omega)
    rw[show i+1+(k-1)=i+k by omega,ep]at e1
    have w2:IntKind.i64.wrap ((i:Int)+(k:Int))=((i+k:Nat):Int):=by rw[aAd]<;>omega
    have e:=ih n (i+k) (by omega) (by omega) (by rw[show ((i+k:Nat):Int)=(i:Int)+k by omega,Int.add_emod_right];exact h3) (by omega)
    rw[e1,List.map_append,List.length_append]at e
    simp only[hb,if_false,w2]
    exact e
  ·have ei:i=os.length:=by omega
   simp only[List.length_map,aA1,aA0,aA2,decide_eq_true_eq,c,if_false,decide_true,Bool.true_or,Bool.and_self,if_true]
   rw[ei]
theorem bLc:aA6 Tryz.prog aKk:=aA5 (by simp[])
theorem aWj:aAn Tryz.prog 185 (⟨[pI,bIm],[bUu],true⟩) aEw:=aA4 bLc aA7 Tryz.func185 (by kernel_rfl) fun cs outs hk h=>by
 unfold aEw at h
 split at h
 ·simp only[Option.some.injEq,Prod.mk.injEq,Bool.and_eq_true,decide_eq_true_eq]at h
  obtain⟨⟨h1,h2⟩,rfl⟩:=h
  rename_i s o
  have hr:=aIr h1
  generalize aC1 o=os at hr ⊢
  subst hr
  rw[List.length_map]at h2
  rw[aA9,aZ5]
  by_cases hs:s<1
  ·have ep:aAq s os=[]:=by unfold aAq;rw[if_pos hs]
   rw[ep]
   simp only[aA1,aA2,decide_eq_true_eq,hs,if_true]
   rfl
  ·have e:=aZ6 s os (by omega) h2 os.length 9223372036854775808 0 (by omega) (by omega) (by simp) (by omega)
   have ep:aAq s os=aBl s os os.length:=by unfold aAq;rw[if_neg hs]
   rw[ep]
   simp only[aA1,decide_eq_true_eq,hs,if_false]
   exact e
 ·cases h
theorem bIq (x:Int):IntKind.u64.wrap x=x % 18446744073709551616:=by
 simp only[IntKind.wrap,IntKind.bits,IntKind.signed]
 first
  |rfl
  |simp
theorem aOp (n:Int) (h:¬(0≤n∧n≤1000000000)):aAr n=[]:=by
 unfold aAr
 rw[if_neg (fun hh=>h ((aBg _ _ _).1 hh))]
theorem bO5 (x:Int) (h1:9223372036854775807<x) (h2:x<18446744073709551616):IntKind.i64.wrap x<0:=by
 simp only[IntKind.wrap,IntKind.bits,IntKind.signed]
 first
  |(split<;>omega)
  |(simp;split<;>omega)
theorem bWr:aA6 Tryz.prog bNz:=aA5 (by simp[aIi])
theorem bH8:aAn Tryz.prog 201 (sg [pI,pI] [rS]) aXf:=aA4 bWr aA7 Tryz.func201 (by kernel_rfl) fun cs outs hk h=>by
 unfold aXf at h
 split at h
 ·simp only[Option.some.injEq,Prod.mk.injEq,Bool.and_eq_true,aBg]at h
  obtain⟨⟨h1,h2⟩,rfl⟩:=h
  rename_i a b
  rw[aA9,bLo]
  unfold aH3
  by_cases c:a<b
  ·simp only[aA1,aA2,decide_eq_true_eq,c,if_true,true_or]
   rw[aOp (-1) (by omega)]
  ·have eu:IntKind.u64.wrap (IntKind.u64.wrap a-IntKind.u64.wrap b)=a-b:=by
    rw[bIq,bIq,bIq]
    omega
   simp only[aA1,aA2,decide_eq_true_eq,c,if_false,eu,false_or]
   by_cases d:1000000000<a-b
   ·rw[if_pos d]
    by_cases e:a-b≤9223372036854775807
    ·have w:IntKind.i64.wrap (a-b)=a-b:=by rw[aAd]<;>omega
     rw[w,if_neg (by omega),aOp (a-b) (by omega)]
    ·rw[if_pos (bO5 _ (by omega) (by omega)),aOp (-1) (by omega)]
   ·have w:IntKind.i64.wrap (a-b)=a-b:=by rw[aAd]<;>omega
    rw[if_neg d,w,if_neg (by omega)]
 ·cases h
theorem aTl (l:List Pl) (hl:l.length≤1048576) (ho:∀ p∈l,bXp p=true):∀ (f n i:Nat) (q:Pl) (t:List UInt8),i+f=l.length→f<n→t.length≤5+10*i→0<t.length→bXp q=true →
  (aBf aGy (bXs bXv) (⟨[bUv],[rS],true⟩) Tryz.f184 [.r,.r,.r,.r,.l,.r,.b] n (aGw (l.map ePl) t q.1 q.2 i)).eval=some [.str (match bJy q (l.drop i)with | some x=>t++x | none=>[])]:=by
 intro f
 induction f with
 |zero =>
  intro n i q t h1 h2 h3 h4 h5
  obtain⟨n,rfl⟩:∃ q,n=q+1:=⟨n-1,by omega⟩
  rw[aAi _ _ _ _ _ _ _ (by kernel_rfl),aHy]
  have c:¬((i:Int)<(l.length:Int)):=by omega
  have hd:l.drop i=[]:=List.drop_eq_nil_of_le (by omega)
  have n0:¬((5:TypeId)=0):=by decide
  simp only[List.length_map,aA1,aA0,aA2,decide_eq_true_eq,c,if_false,hd,bJy,List.append_nil,n0,not_false_eq_true,h4,decide_true,Bool.and_self,if_true]
 |succ f ih =>
  intro n i q t h1 h2 h3 h4 h5
  obtain⟨n,rfl⟩:∃ q,n=q+1:=⟨n-1,by omega⟩
  rw[aAi _ _ _ _ _ _ _ (by kernel_rfl),aHy]
  have hi:i<l.length:=by omega
  have c:(i:Int)<(l.length:Int):=by omega
  have z:(0:Int)≤(i:Int):=by omega
  have g:=aAv ePl l (0,0) i hi
  have hd:=aB9 l i (0,0) hi
  have hm:l.getD i (0,0)∈l:=by rw[List.getD_eq_getElem?_getD,List.getElem?_eq_getElem hi];exact List.getElem_mem hi
  have hp:=ho _ hm
  generalize l.getD i (0,0)=p at g hd hp
  have w:IntKind.i64.wrap ((i:Int)+1)=((i+1:Nat):Int):=by rw[aAd]<;>omega
  have v1:=aCl (aH3 p.1 q.1)
  have v2:=aCl (aH3 p.2 q.2)
  have hp':=hp
  have h5':=h5
  unfold bXp at hp' h5'
  simp only[Bool.and_eq_true]at hp' h5'
  have m1:(aAr (aH3 p.1 q.1)).length+(aAr (aH3 p.2 q.2)).length≤9223372036854775807:=by omega
  have m2:t.length+((aAr (aH3 p.1 q.1)).length+(aAr (aH3 p.2 q.2)).length)≤140737488355328:=by omega
  have m3:0<t.length+((aAr (aH3 p.1 q.1)).length+(aAr (aH3 p.2 q.2)).length):=by omega
  have e:=ih n (i+1) p (t++(aAr (aH3 p.1 q.1)++aAr (aH3 p.2 q.2))) (by omega) (by omega) (by simp only[List.length_append];omega) (by simp only[List.length_append];omega) hp
  rw[hd]
  simp only[List.length_map,aA1,aA0,aA2,decide_eq_true_eq,c,z,Int.toNat_natCast,g,w,if_true,decide_true,Bool.and_true,Bool.true_and,Bool.and_self,ePl,List.length_cons,List.length_nil,C.is,beq_self_eq_true,List.getD_cons_zero,List.getD_cons_succ,C.toInt,Nat.zero_add,Nat.reduceAdd,Nat.reduceLT,beq_iff_eq,List.length_append,m1,m2,m3,hp'.1,hp'.2,h5'.1,h5'.2,bJy]
  by_cases a1:aAr (aH3 p.1 q.1)=[]
  ·simp only[a1,true_or,if_true]
  ·by_cases a2:aAr (aH3 p.2 q.2)=[]
   ·simp only[a1,a2,or_true,if_true,if_false]
   ·simp only[a1,a2,or_self,if_false]
    refine e.trans ?_
    cases bJy p (l.drop (i+1))with
    |none=>rfl
    |some x=>simp only[Option.map_some,List.append_assoc]
theorem bO8 (n:Nat) (h:n≤1000000000):0<(aAr (n:Int)).length:=by
 unfold aAr
 rw[if_pos ((aBg _ _ _).2 ⟨by omega,by omega⟩)]
 unfold aCr
 split<;>simp
theorem bDa:aA6 Tryz.prog aGy:=bGa (by simp[aIi,bH8])
theorem aS3:aAn Tryz.prog 184 (⟨[bUv],[rS],true⟩) aHa:=aA4 bDa (bSr bU9) Tryz.func184 (by kernel_rfl) fun cs outs hk h=>by
 unfold aHa at h
 split at h
 ·simp only[Option.some.injEq,Prod.mk.injEq,Bool.and_eq_true,decide_eq_true_eq,List.all_eq_true]at h
  obtain⟨⟨h1,h2,h3⟩,rfl⟩:=h
  rename_i r
  have hr:=bMr h1
  generalize pls r=l at hr h3 ⊢
  subst hr
  rw[List.length_map]at h2
  rw[aA9,aTk,List.length_map]
  have v1:=aCl (l.length:Int)
  have v0:=bO8 l.length (by omega)
  have e:=aTl l h2 h3 l.length 9223372036854775808 0 (0,0) (aAr (l.length:Int)) (by omega) (by omega) (by omega) v0 (by decide)
  have m1:0+(aAr (l.length:Int)).length≤140737488355328:=by omega
  have m2:0<0+(aAr (l.length:Int)).length:=by omega
  rw[aA0,if_pos (by rw[decide_eq_true m1,decide_eq_true m2];rfl)]
  exact e
 ·cases h
theorem bCy (a b c d:Int) (hx:∀ i,i<4→ -9223372036854775808≤([a,b,c,d]:List Int).getD i 0∧([a,b,c,d]:List Int).getD i 0≤9223372036854775807):∀ (f n i:Nat) (t:List UInt8),i+f=4→f<n→t.length≤8*i →
  (aBf aNt aAa (sg [pI,pI,pI,pI] [rS]) Tryz.f186 [.r,.r,.l,.r,.b] n (aNa t a b c d i)).eval=some [.str (bQs (([a,b,c,d]:List Int).drop i) t)]:=by
 intro f
 induction f with
 |zero =>
  intro n i t h1 h2 h3
  obtain⟨n,rfl⟩:∃ q,n=q+1:=⟨n-1,by omega⟩
  rw[aAi _ _ _ _ _ _ _ (by kernel_rfl),aLx]
  have c4:¬((i:Int)<((4:Nat):Int)):=by omega
  have hd:([a,b,c,d]:List Int).drop i=[]:=List.drop_eq_nil_of_le (by simp;omega)
  have m:t.length+4≤9223372036854775807:=by omega
  simp only[aA1,aA0,aA2,decide_eq_true_eq,c4,if_false,hd,bQs,m,if_true]
 |succ f ih =>
  intro n i t h1 h2 h3
  obtain⟨n,rfl⟩:∃ q,n=q+1:=⟨n-1,by omega⟩
  rw[aAi _ _ _ _ _ _ _ (by kernel_rfl),aLx]
  have hi:i<4:=by omega
  have c4:(i:Int)<((4:Nat):Int):=by omega
  have z:(0:Int)≤(i:Int):=by omega
  have g:=bTj a b c d i hi
  have hd:=aB9 ([a,b,c,d]:List Int) i 0 hi
  have hx1:=hx i hi
  generalize ([a,b,c,d]:List Int).getD i 0=x at g hd hx1
  have w:IntKind.i64.wrap ((i:Int)+1)=((i+1:Nat):Int):=by rw[aAd]<;>omega
  have v1:=aB7 x 4
  have m1:t.length+(aAh x 4).length≤9223372036854775807:=by omega
  have e:=ih n (i+1) (t++aAh x 4) (by omega) (by omega) (by simp only[List.length_append];omega)
  have k1:i<(((Nat.add 1 0).succ.add 0).succ.add 0).succ:=by show i<4;omega
  rw[hd]
  simp only[aA1,aA0,aA2,decide_eq_true_eq,c4,z,Int.toNat_natCast,k1,g,w,if_true,decide_true,Bool.and_true,Bool.true_and,Bool.and_self,List.length_cons,List.length_nil,C.is,beq_self_eq_true,List.getD_cons_zero,C.toInt,Nat.zero_add,Nat.zero_lt_one,hx1.1,hx1.2,beq_iff_eq,m1,bQs]
  by_cases a1:aAh x 4=[]
  ·simp only[a1,if_true]
  ·simp only[a1,if_false]
   exact e
theorem bPu:aA6 Tryz.prog aNt:=aA5 (by simp[aEj])
theorem aYx:aAn Tryz.prog 186 (sg [pI,pI,pI,pI] [rS]) aFr:=aA4 bPu aA7 Tryz.func186 (by kernel_rfl) fun cs outs hk h=>by
 unfold aFr at h
 split at h
 ·simp only[Option.some.injEq,Prod.mk.injEq,Bool.and_eq_true,aBg]at h
  obtain⟨⟨ha,hb,hc,hd⟩,rfl⟩:=h
  rename_i a b c d
  rw[aA9,bCx]
  exact bCy a b c d (fun i hi=>by
   match i,hi with
   |0,_=>exact ha
   |1,_=>exact hb
   |2,_=>exact hc
   |3,_=>exact hd) 4 9223372036854775808 0 [] (by omega) (by omega) (by simp)
 ·cases h
theorem aSl (s:Int) (os:List Int):∀ (i:Nat) (p:Pl),p∈aBl s os i→∃ j,j<i∧p=((j:Int),os.getD j 0)
 |0,p,h=>by simp[aBl]at h
 |i+1,p,h=>by
  simp only[aBl,List.mem_append]at h
  rcases h with h | h
  ·obtain⟨j,h1,h2⟩:=aSl s os i p h
   exact⟨j,by omega,h2⟩
  ·split at h
   ·simp only[List.mem_singleton]at h
    exact⟨i,by omega,h⟩
   ·simp at h
theorem bP6 (s:Int) (os:List Int) (p:Pl) (h:p∈aAq s os):∃ j,j<os.length∧p=((j:Int),os.getD j 0):=by
 unfold aAq at h
 split at h
 ·simp at h
 ·exact aSl s os _ p h
theorem bSe (s:Int) (os:List Int) (hl:os.length≤1048576) (h:os.all okI=true):(aAq s os).all bXp=true:=by
 simp only[List.all_eq_true]at h ⊢
 intro p hp
 obtain⟨j,hj,rfl⟩:=bP6 s os p hp
 have hm:os.getD j 0∈os:=by rw[List.getD_eq_getElem?_getD,List.getElem?_eq_getElem hj];exact List.getElem_mem hj
 unfold bXp
 simp only[Bool.and_eq_true]
 exact⟨(aBg _ _ _).2 ⟨by omega,by omega⟩,h _ hm⟩
theorem bZb:aA6 Tryz.prog bUo:=aA5 (by simp[aHx,aJw,aOh,aWj,aS3,aYx])
theorem bLl:aAn Tryz.prog 142 (⟨[aEd,bIm,pI],[rS],true⟩) aWu:=aA4 bZb aA7 Tryz.func142 (by kernel_rfl) fun cs outs hk h=>by
 unfold aWu at h
 split at h
 ·simp only[Option.some.injEq,Prod.mk.injEq,Bool.and_eq_true,decide_eq_true_eq,aBg]at h
  obtain⟨⟨h1,h2,h3,h4⟩,rfl⟩:=h
  rename_i v s b l o e
  have hr:=aIr h1
  rw[aA9,bQ4]
  generalize aC1 o=os at hr h4 ⊢
  subst hr
  simp only[List.length_map]at h1 h2 ⊢
  by_cases hh:aD3 v s b l=true
  ·obtain⟨hv,hs,hb,hl⟩:=(aF1 v s b l).1 hh
   have w:IntKind.i64.wrap (b+(os.length:Int))=b+os.length:=by rw[aAd]<;>omega
   have pl:=aRr s os
   have tk:List.take (aAq s os).length (List.map ePl (aAq s os))=List.map ePl (aAq s os):=List.take_of_length_le (by simp)
   have i1:inB e (-9223372036854775808) 9223372036854775807=true:=(aBg _ _ _).2 h3
   have i2:inB (os.length:Int) (-9223372036854775808) 9223372036854775807=true:=(aBg _ _ _).2 ⟨by omega,by omega⟩
   have i3:inB s (-9223372036854775808) 9223372036854775807=true:=(aBg _ _ _).2 ⟨by omega,by omega⟩
   have i4:inB 0 (-9223372036854775808) 9223372036854775807=true:=rfl
   have l1:=aK3 v (b+os.length)
   have l2:=aId (aAq s os)
   have p1:(aAq s os).length≤1048576:=by omega
   have p2:(aAq s os).all bXp=true:=bSe s os (by omega) h4
   simp only[aA1,aA0,aA2,hh,if_true,w,tk,p2,bSd,bSv,aZw,h1,h2,i1,i2,i3,i4,List.length_map,p1,decide_true,Bool.and_self,Bool.true_and,beq_iff_eq,List.drop_zero]
   unfold aBt
   by_cases c1:aAz v (b+os.length)=[]
   ·rw[if_pos c1,if_pos (.inr (.inl c1))]
   ·by_cases c2:aAx (aAq s os)=[]
    ·rw[if_neg c1,if_pos c2,if_pos (.inr (.inr (.inl c2)))]
    ·by_cases c3:aBi e os.length s 0=[]
     ·rw[if_neg c1,if_neg c2,if_pos c3,if_pos (.inr (.inr (.inr c3)))]
     ·have t20:(aBi e os.length s 0).length=20:=by
       rcases aOr e os.length s 0 with h | h
       ·exact absurd h c3
       ·exact h
      have hn:¬(aD3 v s b l=false∨aAz v (b+os.length)=[]∨aAx (aAq s os)=[]∨aBi e os.length s 0=[]):=by
       intro h
       rcases h with h | h | h | h
       ·rw[hh]at h;cases h
       ·exact c1 h
       ·exact c2 h
       ·exact c3 h
      rw[if_neg c1,if_neg c2,if_neg c3,if_neg hn]
      have t12:Int.toNat 12=12:=rfl
      have d0:List.drop 0 (List.take 12 (aBi e os.length s 0))=List.take 12 (aBi e os.length s 0):=rfl
      have cl:=aDq 0 (aAz v (b+os.length)++aAx (aAq s os)++(aBi e os.length s 0).take 12) (by omega)
      have i5:∀ z:Nat,z<4294967296→inB (Int.ofNat z) (-9223372036854775808) 9223372036854775807=true:=fun z hz=>(aBg _ _ _).2 ⟨by show _≤(z:Int);omega,by show (z:Int)≤_;omega⟩
      have l3:=aRb e os.length s (Int.ofNat (aAs 0 (aAz v (b+os.length)++aAx (aAq s os)++(aBi e os.length s 0).take 12)))
      rw[t12]
      rw[if_pos (decide_eq_true (by omega)),if_pos (by rw[t20];rfl),if_pos (decide_eq_true (by simp only[List.length_append,List.length_take];omega)),if_pos (decide_eq_true (by simp only[List.length_append,List.length_take];omega)),if_pos (decide_eq_true (by omega)),if_pos (i5 _ cl),if_pos (decide_eq_true (by simp only[List.length_append];omega))]
      rfl
  ·have hh':aD3 v s b l=false:=by simpa using hh
   simp only[aA1,aA2,hh,Bool.false_eq_true,if_false]
   unfold aBt
   rw[if_pos (.inl hh')]
 ·cases h
theorem bW3:aA6 Tryz.prog bNq:=aA5 (by simp[])
theorem aSo:aAn Tryz.prog 139 (sg [pS] [rB]) aMt:=aA4 bW3 aA7 Tryz.func139 (by kernel_rfl) fun cs outs hk h=>by
 unfold aMt at h
 split at h
 ·simp only[Option.some.injEq,Prod.mk.injEq,decide_eq_true_eq]at h
  obtain⟨h1,rfl⟩:=h
  rename_i r
  rw[aA9,bKa]
  by_cases c:60<r.length
  ·have c':(60:Int)<(r.length:Int):=by omega
   simp only[aA1,aA2,decide_eq_true_eq,c,c',if_true,decide_true]
  ·have c':¬(60:Int)<(r.length:Int):=by omega
   simp only[aA1,aA2,decide_eq_true_eq,c,c',if_false,decide_false,Bool.false_eq_true]
 ·cases h
theorem aZx (rows:List (List C)):aIt rows=true↔aAf [.str] rows=true∧rows.length≤1048576∧∀ r∈aCb rows,r.length≤1048576:=by
 simp only[aIt,Bool.and_eq_true,decide_eq_true_eq,List.all_eq_true]
theorem bGq (l:List (List UInt8)) (hl:l.length≤1048576) (hr:∀ r∈l,r.length≤1048576):∀ (n i:Nat),i≤l.length→l.length<i+n →
  (aBf aR6 aAa (sg [bEr,pF] [rI]) Tryz.f133 [.r,.l,.r,.b] n (aR0 (l.map aB5) l.length i)).eval=some [.int .i64 (aCn aKu (l.drop i) i)]:=by
 intro n
 induction n with
 |zero=>intro i h1 h2;omega
 |succ n ih =>
  intro i h1 h2
  rw[aAi _ _ _ _ _ _ _ (by kernel_rfl),aYw]
  by_cases hi:i<l.length
  ·have g:=aAv aB5 l [] i hi
   have w:IntKind.i64.wrap ((i:Int)+1)=((i+1:Nat):Int):=by rw[aAd]<;>omega
   have hz:(0:Int)≤i:=by omega
   have hi':(i:Int)<l.length:=by omega
   have hm:l.getD i []∈l:=by rw[List.getD_eq_getElem?_getD,List.getElem?_eq_getElem hi];exact List.getElem_mem hi
   have hx:=hr _ hm
   rw[aB9 l i [] hi]
   generalize l.getD i []=y at g hx ⊢
   have hx':y.length≤281474976710656:=by omega
   simp only[aA0,aA1,aA2,if_true,decide_eq_true_eq,Bool.and_eq_true,w,hz,hi',Int.toNat_natCast,List.length_map,g,and_self,List.getD_cons_zero,List.getD_cons_succ,C.toStr,C.toInt,C.is,List.length_cons,List.length_nil,Nat.zero_add,Nat.reduceAdd,Nat.reduceLT,decide_true,beq_self_eq_true,hx',aCn,aKu]
   by_cases hy:60<y.length
   ·simp only[hy,if_true]
   ·simp only[hy,if_false]
    exact ih (i+1) (by omega) (by omega)
  ·have e:i=l.length:=by omega
   subst e
   have hi':¬((l.length:Int)<(l.length:Int)):=by omega
   simp only[aA1,aA2,decide_eq_true_eq,hi',if_false,List.drop_length,aCn]
theorem bT1:aA6 Tryz.prog aR6:=aA5 (by simp[aSo])
theorem bCr:aAn Tryz.prog 133 (sg [bEr,pF] [rI]) aRu:=aA4 bT1 aA7 Tryz.func133 (by kernel_rfl) fun cs outs hk h=>by
 unfold aRu at h
 split at h
 ·simp only[Option.some.injEq,Prod.mk.injEq,Bool.and_eq_true,decide_eq_true_eq]at h
  obtain⟨⟨rfl,h1⟩,rfl⟩:=h
  rename_i rows
  obtain⟨h1,h2,h3⟩:=(aZx _).1 h1
  have hr:=aDa h1
  generalize aCb rows=l at hr h3 ⊢
  subst hr
  rw[List.length_map]at h2
  rw[aA9,bGp]
  have:=bGq l h2 h3 9223372036854775808 0 (by omega) (by omega)
  rw[show (l.length:Int)=((l.map aB5).length:Int) by rw[List.length_map]]at this
  exact this
 ·cases h
theorem bQq:aA6 Tryz.prog bAm:=aA5 (by simp[bCr,aSq])
theorem aZj:aAn Tryz.prog 138 (sg [bEr,pF] [rB]) aPf:=aA4 bQq aA7 Tryz.func138 (by kernel_rfl) fun cs outs hk h=>by
 unfold aPf at h
 split at h
 ·simp only[Option.some.injEq,Prod.mk.injEq,Bool.and_eq_true,decide_eq_true_eq]at h
  obtain⟨⟨rfl,h1⟩,rfl⟩:=h
  rename_i rows
  rw[aA9,bEa]
  unfold aMd
  simp only[aA1,aA0,aA2,h1,decide_true,Bool.and_self,if_true]
  by_cases c:0≤bA2 (aCb rows)<;>simp[c]
 ·cases h
theorem aRx:∀ (l:List (List UInt8)) (i:Nat),aCn aKu l i= -1↔∀ r∈l,¬60<r.length
 |[],i=>by simp[aCn]
 |x::l,i=>by
  simp only[aCn,List.mem_cons,forall_eq_or_imp]
  by_cases c:60<x.length
  ·have e:aKu x=true:=by unfold aKu;exact decide_eq_true c
   rw[if_pos e]
   exact⟨fun h=>by omega,fun h=>absurd c h.1⟩
  ·have e:¬aKu x=true:=by unfold aKu;simpa using c
   rw[if_neg e,aRx l (i+1)]
   exact⟨fun h=>⟨c,h⟩,fun h=>h.2⟩
theorem bQp {l:List (List UInt8)} (h:aMd l=false):∀ r∈l,r.length≤60:=by
 unfold aMd bA2 at h
 have h0:¬0≤aCn aKu l 0:=by simpa using h
 rcases aJv aKu l 0 with e | e
 ·intro r hr;have:=(aRx l 0).1 e r hr;omega
 ·omega
theorem bMf {l:List (List UInt8)} (h:aMd l=true):∃ r∈l,60<r.length:=by
 unfold aMd bA2 at h
 have h0:0≤aCn aKu l 0:=by simpa using h
 refine Classical.byContradiction fun hn=>?_
 have:aCn aKu l 0= -1:=(aRx l 0).2 fun r hr hc=>hn ⟨r,hr,hc⟩
 omega
theorem aV7 (v b:Int):∀ (l:List (List UInt8)) (i:Int) (t:List UInt8) (os:List Int),(∃ r∈l,60<r.length)→aO8 v b i l t os=none
 |[],i,t,os,h=>by obtain⟨r,hr,_⟩:=h;cases hr
 |x::l,i,t,os,h=>by
  simp only[aO8]
  by_cases c:60<x.length
  ·rw[if_pos c]
  ·rw[if_neg c]
   refine aV7 v b l _ _ _ ?_
   obtain⟨r,hr,h60⟩:=h
   rcases List.mem_cons.1 hr with rfl | hr
   ·exact absurd h60 c
   ·exact⟨r,hr,h60⟩
theorem bPx (v s b l:Int) (rs:List (List UInt8)) (hb:0≤b∧b≤1000000000) (hl:rs.length≤1000) (h60:∀ r∈rs,r.length≤60):∀ (f n i:Nat) (t:List UInt8) (os:List Int),i+f=rs.length→f<n→os.length=i→t.length≤60+90*i→0<t.length→os.all okI=true →
  (aBf bEl (bXs bXv) (⟨[aEd,bEr],[rS],true⟩) Tryz.f107 [.r,.r,.r,.r,.r,.l,.r,.b] n (bEf v s b l (rs.map aB5) t os.length (os.map aF3) i)).eval=some [.str (match aO8 v b i (rs.drop i) t os with | some (t',os')=>t'++aBt v s b l os' t'.length | none=>[])]:=by
 intro f
 induction f with
 |zero =>
  intro n i t os h1 h2 h3 h4 h5 h6
  obtain⟨n,rfl⟩:∃ q,n=q+1:=⟨n-1,by omega⟩
  rw[aAi _ _ _ _ _ _ _ (by kernel_rfl),aSs]
  have c:¬((i:Int)<(rs.length:Int)):=by omega
  have hd:rs.drop i=[]:=List.drop_eq_nil_of_le (by omega)
  have tk:List.take os.length (os.map aF3)=os.map aF3:=List.take_of_length_le (by simp)
  have i1:inB (t.length:Int) (-9223372036854775808) 9223372036854775807=true:=(aBg _ _ _).2 ⟨by omega,by omega⟩
  have fl:=aWt v s b l os t.length
  have o1:os.length≤1048576:=by omega
  have m1:t.length+(aBt v s b l os t.length).length≤9223372036854775807:=by omega
  have n0:¬((5:TypeId)=0):=by decide
  simp only[List.length_map,aA1,aA0,aA2,decide_eq_true_eq,c,if_false,hd,aO8,tk,aTt,aJm,i1,o1,m1,h5,h6,n0,not_false_eq_true,decide_true,Bool.and_self,if_true]
 |succ f ih =>
  intro n i t os h1 h2 h3 h4 h5 h6
  obtain⟨n,rfl⟩:∃ q,n=q+1:=⟨n-1,by omega⟩
  rw[aAi _ _ _ _ _ _ _ (by kernel_rfl),aSs]
  have hi:i<rs.length:=by omega
  have c:(i:Int)<(rs.length:Int):=by omega
  have z:(0:Int)≤(i:Int):=by omega
  have g:=aAv aB5 rs [] i hi
  have hd:=aB9 rs i [] hi
  have hm:rs.getD i []∈rs:=by rw[List.getD_eq_getElem?_getD,List.getElem?_eq_getElem hi];exact List.getElem_mem hi
  have hr:=h60 _ hm
  generalize rs.getD i []=r at g hd hr
  have w:IntKind.i64.wrap ((i:Int)+1)=((i+1:Nat):Int):=by rw[aAd]<;>omega
  have w2:IntKind.i64.wrap (b+(i:Int))=b+i:=by rw[aAd]<;>omega
  have fl:=aGu v (b+i) r
  have ro1:aBb (os.length+1) 8=true:=by simp only[aBb,decide_eq_true_eq];omega
  have ap2:(os.map aF3).append [[C.int .i64 (t.length:Int)]]=(os++[(t.length:Int)]).map aF3:=by simp
  have m1:t.length+(aAe v (b+i) r).length≤140737488355328:=by omega
  have m2:0<t.length+(aAe v (b+i) r).length:=by omega
  have hr':r.length≤281474976710656:=by omega
  have h60':¬60<r.length:=by omega
  have e:=ih n (i+1) (t++aAe v (b+i) r) (os++[(t.length:Int)]) (by omega) (by omega) (by simp;omega) (by simp only[List.length_append];omega) (by simp only[List.length_append];omega) (by
   rw[List.all_append,h6]
   simp only[List.all_cons,List.all_nil,Bool.and_true,Bool.true_and]
   exact (aBg _ _ _).2 ⟨by omega,by omega⟩)
  rw[List.length_append]at e
  rw[hd]
  simp only[List.length_map,aA1,aA0,aA2,decide_eq_true_eq,c,z,Int.toNat_natCast,g,w,w2,if_true,decide_true,Bool.and_true,Bool.true_and,Bool.and_self,List.length_cons,List.length_nil,C.is,List.getD_cons_zero,C.toStr,Nat.zero_add,Nat.zero_lt_one,ro1,ap2,aO8,m1,m2,hr',h60',if_false]
  exact e
theorem bZ8:aA6 Tryz.prog bEl:=bGa (by simp[aC6,aJw,aM3,aKw,bLl,aSo,aZj])
theorem bL3:aAn Tryz.prog 107 (⟨[aEd,bEr],[rS],true⟩) aV6:=aA4 bZ8 (bSr bU9) Tryz.func107 (by kernel_rfl) fun cs outs hk h=>by
 unfold aV6 at h
 split at h
 ·simp only[Option.some.injEq,Prod.mk.injEq]at h
  obtain⟨h0,rfl⟩:=h
  rename_i v s b l r
  obtain⟨h1,h2,h3⟩:=(aZx _).1 h0
  rw[aA9,bPw]
  have hr:=aDa h1
  generalize aCb r=rs at hr h3 ⊢
  subst hr
  rw[List.length_map]at h2 ⊢
  unfold aFb
  by_cases hh:aD3 v s b l=true
  ·obtain⟨hv,hs,hb,hl⟩:=(aF1 v s b l).1 hh
   have w:IntKind.i64.wrap (b+(rs.length:Int))=b+rs.length:=by rw[aAd]<;>omega
   simp only[aA1,aA0,aA2,hh,if_true,w,decide_eq_true_eq,h0,decide_true,Bool.and_self]
   by_cases c1:(1000:Int)<(rs.length:Int)
   ·rw[if_pos c1,if_pos (.inr (.inl (by omega)))]
   ·by_cases c2:(1000000000:Int)<b+(rs.length:Int)
    ·have hi:¬inB (b+(rs.length:Int)) 0 1000000000=true:=fun h=>by have:=(aBg _ _ _).1 h;omega
     rw[if_neg c1,if_neg hi,if_pos (.inr (.inr c2))]
    ·have hi:inB (b+(rs.length:Int)) 0 1000000000=true:=(aBg _ _ _).2 ⟨by omega,by omega⟩
     have hn:¬(true=false∨1000<rs.length∨1000000000<b+(rs.length:Int)):=by
      intro h
      rcases h with h | h | h
      ·cases h
      ·omega
      ·omega
     rw[if_neg c1,if_pos hi,if_neg hn]
     have ht:0<(aBc v s b l).length:=by
      unfold aBc aFg
      rw[hh]
      simp
     have hle:=aWp v s b l
     cases ha:aMd rs with
     |true =>
      have:=aV7 v b rs 0 (aBc v s b l) [] (bMf ha)
      simp only[if_true,this]
     |false =>
      have e:=bPx v s b l rs hb (by omega) (bQp ha) rs.length 9223372036854775808 0 (aBc v s b l) [] (by omega) (by omega) rfl (by omega) ht rfl
      have m1:0+(aBc v s b l).length≤140737488355328:=by omega
      have m2:0<0+(aBc v s b l).length:=by omega
      simp only[Bool.false_eq_true,if_false]
      rw[if_pos (by rw[decide_eq_true m1,decide_eq_true m2];rfl)]
      exact e
  ·have hh':aD3 v s b l=false:=by simpa using hh
   simp only[aA1,aA2,hh',Bool.false_eq_true,if_false]
   rw[if_pos (.inl trivial)]
 ·cases h
noncomputable section
structure Opx where
 kind:Int
 name:List UInt8
 to:List UInt8
 text:List UInt8
 deriving DecidableEq
abbrev eOp (x:Opx):List C:=[.int .i64 x.kind,.str x.name,.str x.to,.str x.text]
abbrev kOp:List K:=[.int .i64,.str,.str,.str]
def bVg (r:List C):Opx:=⟨(r.getD 0 (.fn 0 [])).toInt,(r.getD 1 (.fn 0 [])).toStr,(r.getD 2 (.fn 0 [])).toStr,(r.getD 3 (.fn 0 [])).toStr⟩
def ops (rows:List (List C)):List Opx:=rows.map bVg
def pOp:PTy:=.val true kOp
def bTt (k1:Int) (n1 o1 t1:List UInt8) (k2:Int) (n2 o2 t2:List UInt8):Bool:=decide ((⟨k1,n1,o1,t1⟩:Opx)=⟨k2,n2,o2,t2⟩)
def bDw:aC3:=fun cs=>match cs with
 |[.int .i64 k1,.str n1,.str o1,.str t1,.int .i64 k2,.str n2,.str o2,.str t2]=>some (true,[.bool (bTt k1 n1 o1 t1 k2 n2 o2 t2)])
 |_=>none
def aWz:aC3:=fun cs=>match cs with
 |[.sl x,.sl y]=>some (decide (x.length≤16777216)&&(aAf kOp x&&aAf kOp y),[.bool (decide (ops x=ops y))])
 |_=>none
def bEh (x y:List (List C)) (i:Int):St:=st0 [(0,.l (.sl x)),(1,.l (.sl y)),(5,aAw i)]
def bY4:Env:=mkE [] []
def bEn:Env:=mkE [(4,[0,1,5])] [(67,(sg [pOp,pOp] [rB]),bDw)]
def aSm (k:Int):List C:=[.int .i64 k,.str (aC8 (k+1)),.str (aC8 (k+2)),.str (aC8 (k+3))]
def aW3:aC3:=fun cs=>match cs with
 |[.sl rows,.int .i64 k]=>some (aAf kOp rows&&(decide (rows.length≤16777216)&&(decide (0≤k)&&decide (k≤1099511627776))),[.int .i64 (k+4*rows.length),.sl (mk aSm 4 k rows.length)])
 |_=>none
def aIz:List Opx→Int→Int
 |[],k=>k
 |x::r,k=>if x.kind=k∧x.name=aC8 (k+1)∧x.to=aC8 (k+2)∧x.text=aC8 (k+3)then aIz r (k+4)else -1
def aWo:aC3:=fun cs=>match cs with
 |[.sl rows,.int .i64 k]=>some (aAf kOp rows&&(decide (rows.length≤16777216)&&(decide (0≤k)&&decide (k≤1099511627776))),[.int .i64 (aIz (ops rows) k)])
 |_=>none
def aU3 (n:Nat) (r:List (List C)) (k i:Int):St:={slots:=[(0,.l (.ref 0 0 n)),(1,aAw k),(5,aAw i)],heap:=[(0,.arr 4 r)],next:=1,pins:=[0]}
def aU6 (r:List (List C)) (k i:Int):St:=st0 [(0,.l (.sl r)),(1,aAw k),(5,aAw i)]
def aUg:Env:=mkE [(2,[0,1,5])] [(68,(sg [pI] [rS]),aE0)]
def aUj:Env:=mkE [(2,[0,1,5])] [(68,(sg [pI] [rS]),aE0)]
def aEk (n:Int) (t:List UInt8):List Opx:=[⟨2,aB0 n,[],[]⟩,⟨3,aB0 n,[],t⟩,⟨4,aB0 n,[],[]⟩,⟨5,aB0 n,aAm n,[]⟩,⟨6,[],[],[]⟩]
def aJ1:aC3:=fun cs=>match cs with
 |[.int .i64 n,.str t]=>some (true,[.sl ((aEk n t).map eOp)])
 |_=>none
def bNn:Env:=mkE [] [(49,(sg [pI] [rS]),aFa),(88,(sg [pI] [rS]),aHq)]
def bNy:Env:=mkE [] [(59,(sg [pI] [rS]),aFa),(106,(sg [pI] [rS]),aHq)]
end
set_option maxRecDepth 100000
theorem bTu (H:List Pt→Nat→St→T (List C)) (k1:Int) (n1:List UInt8) (o1:List UInt8) (t1:List UInt8) (k2:Int) (n2:List UInt8) (o2:List UInt8) (t2:List UInt8):(aAg bY4 aAa (sg [pOp,pOp] [rB]) Tryz.f67 H [C.int .i64 k1,C.str n1,C.str o1,C.str t1,C.int .i64 k2,C.str n2,C.str o2,C.str t2]).eval=((.ask (k1 != k2) (.ret [C.bool false]) (.ask (!n1==n2) (.ret [C.bool false]) (.ask (!o1==o2) (.ret [C.bool false]) (.ask (!t1==t2) (.ret [C.bool false]) (.ret [C.bool true]))))):T (List C)).eval:=aAc (by kernel_rfl)
theorem bQc (H:List Pt→Nat→St→T (List C)) (x:List (List C)) (y:List (List C)):(aAg bEn aAa (sg [pSl 58,pSl 58] [rB]) Tryz.f22 H [C.sl x,C.sl y]).eval=((.ask ((↑x.length:Int) != (↑y.length:Int)) (.ret [C.bool false]) (H [Pt.r,Pt.r,Pt.l,Pt.r,Pt.b] 9223372036854775808 (bEh (x) (y) ((0:Int))))):T (List C)).eval:=aAc (by kernel_rfl)
theorem bHk (H:List Pt→Nat→St→T (List C)) (x:List (List C)) (y:List (List C)) (i:Int) (k:Nat):(aB1 bEn aAa (sg [pSl 58,pSl 58] [rB]) Tryz.f22 H [Pt.r,Pt.r,Pt.l,Pt.r,Pt.b] k (bEh x y i)).eval=((.ask (decide (i<(↑x.length:Int))) (.must (decide ((0:Int)≤i)&&decide (i<(↑x.length:Int))&&decide ((x.getD i.toNat []).length=4)) (.must (decide (0<(x.getD i.toNat []).length)&&C.is (K.int .i64) ((x.getD i.toNat []).getD 0 (C.fn 0 []))&&(decide (0+1<(x.getD i.toNat []).length)&&C.is K.str ((x.getD i.toNat []).getD (0+1) (C.fn 0 []))&&(decide (0+1+1<(x.getD i.toNat []).length)&&C.is K.str ((x.getD i.toNat []).getD (0+1+1) (C.fn 0 []))&&(decide (0+1+1+1<(x.getD i.toNat []).length)&&C.is K.str ((x.getD i.toNat []).getD (0+1+1+1) (C.fn 0 []))&&true)))) (.must (decide ((0:Int)≤i)&&decide (i<(↑y.length:Int))&&decide ((y.getD i.toNat []).length=4)) (.must (decide (0<(y.getD i.toNat []).length)&&C.is (K.int .i64) ((y.getD i.toNat []).getD 0 (C.fn 0 []))&&(decide (0+1<(y.getD i.toNat []).length)&&C.is K.str ((y.getD i.toNat []).getD (0+1) (C.fn 0 []))&&(decide (0+1+1<(y.getD i.toNat []).length)&&C.is K.str ((y.getD i.toNat []).getD (0+1+1) (C.fn 0 []))&&(decide (0+1+1+1<(y.getD i.toNat []).length)&&C.is K.str ((y.getD i.toNat []).getD (0+1+1+1) (C.fn 0 []))&&true)))) (.ask (bTt ((x.getD i.toNat []).getD 0 (C.fn 0 [])).toInt ((x.getD i.toNat []).getD (0+1) (C.fn 0 [])).toStr ((x.getD i.toNat []).getD (0+1+1) (C.fn 0 [])).toStr ((x.getD i.toNat []).getD (0+1+1+1) (C.fn 0 [])).toStr ((y.getD i.toNat []).getD 0 (C.fn 0 [])).toInt ((y.getD i.toNat []).getD (0+1) (C.fn 0 [])).toStr ((y.getD i.toNat []).getD (0+1+1) (C.fn 0 [])).toStr ((y.getD i.toNat []).getD (0+1+1+1) (C.fn 0 [])).toStr) (H [Pt.r,Pt.r,Pt.l,Pt.r,Pt.b] k (bEh (x) (y) (IntKind.i64.wrap (i+(1:Int))))) (.ret [C.bool false])))))) (.ret [C.bool true])):T (List C)).eval:=aAc (by kernel_rfl)
theorem bKj (H:List Pt→Nat→St→T (List C)) (r:List (List C)) (k:Int):(aAg aUg aAa (sg [PTy.wr false [(K.slice 58,true)],pI] [rI]) Tryz.f23 H [C.sl r,C.int .i64 k]).eval=((.must ((true&&r.all fun row=>decide (row.length=4))&&true&&(decide (0<1)&&true&&true&&true)) (H [Pt.r,Pt.l,Pt.r,Pt.b] 9223372036854775808 (aU3 (r.length) (r) (k) ((0:Int))))):T (List C)).eval:=aAc (by kernel_rfl)
theorem bKq (H:List Pt→Nat→St→T (List C)) (r:List (List C)) (k:Int):(aAg aUj aAa (sg [pSl 58,pI] [rI]) Tryz.f24 H [C.sl r,C.int .i64 k]).eval=((H [Pt.r,Pt.l,Pt.r,Pt.b] 9223372036854775808 (aU6 (r) (k) ((0:Int)))):T (List C)).eval:=aAc (by kernel_rfl)
theorem bCm (H:List Pt→Nat→St→T (List C)) (n:Nat) (r:List (List C)) (kk:Int) (i:Int) (k:Nat):(aB1 aUg aAa (sg [PTy.wr false [(K.slice 58,true)],pI] [rI]) Tryz.f23 H [Pt.r,Pt.l,Pt.r,Pt.b] k (aU3 n r kk i)).eval=((.ask (decide (i<(↑n:Int))) (.must (decide ((0:Int)≤i)&&decide (i<(↑n:Int))) (.must (decide (0+i.toNat<r.length)) (.must (decide (IntKind.i64.wrap (kk+(1:Int))≤(4611686018427387904:Int))) (.must (decide ((0:Int)≤i)&&decide (i<(↑n:Int))) (.must (decide (0+i.toNat<(r.set (0+i.toNat) (C.int .i64 kk::List.drop (0+0+1) (r.getD (0+i.toNat) []))).length)) (.must (decide (IntKind.i64.wrap (IntKind.i64.wrap (kk+(1:Int))+(1:Int))≤(4611686018427387904:Int))) (.must (decide ((0:Int)≤i)&&decide (i<(↑n:Int))) (.must (decide (0+i.toNat<((r.set (0+i.toNat) (C.int .i64 kk::List.drop (0+0+1) (r.getD (0+i.toNat) []))).set (0+i.toNat) (((List.take (0+1) ((r.set (0+i.toNat) (C.int .i64 kk::List.drop (0+0+1) (r.getD (0+i.toNat) []))).getD (0+i.toNat) [])).append [C.str (aC8 (IntKind.i64.wrap (kk+(1:Int))))]).append (List.drop (0+1+1) ((r.set (0+i.toNat) (C.int .i64 kk::List.drop (0+0+1) (r.getD (0+i.toNat) []))).getD (0+i.toNat) [])))).length)) (.must (decide (IntKind.i64.wrap (IntKind.i64.wrap (IntKind.i64.wrap (kk+(1:Int))+(1:Int))+(1:Int))≤(4611686018427387904:Int))) (.must (decide ((0:Int)≤i)&&decide (i<(↑n:Int))) (.must (decide (0+i.toNat<(((r.set (0+i.toNat) (C.int .i64 kk::List.drop (0+0+1) (r.getD (0+i.toNat) []))).set (0+i.toNat) (((List.take (0+1) ((r.set (0+i.toNat) (C.int .i64 kk::List.drop (0+0+1) (r.getD (0+i.toNat) []))).getD (0+i.toNat) [])).append [C.str (aC8 (IntKind.i64.wrap (kk+(1:Int))))]).append (List.drop (0+1+1) ((r.set (0+i.toNat) (C.int .i64 kk::List.drop (0+0+1) (r.getD (0+i.toNat) []))).getD (0+i.toNat) [])))).set (0+i.toNat) (((List.take (0+2) (((r.set (0+i.toNat) (C.int .i64 kk::List.drop (0+0+1) (r.getD (0+i.toNat) []))).set (0+i.toNat) (((List.take (0+1) ((r.set (0+i.toNat) (C.int .i64 kk::List.drop (0+0+1) (r.getD (0+i.toNat) []))).getD (0+i.toNat) [])).append [C.str (aC8 (IntKind.i64.wrap (kk+(1:Int))))]).append (List.drop (0+1+1) ((r.set (0+i.toNat) (C.int .i64 kk::List.drop (0+0+1) (r.getD (0+i.toNat) []))).getD (0+i.toNat) [])))).getD (0+i.toNat) [])).append [C.str (aC8 (IntKind.i64.wrap (IntKind.i64.wrap (kk+(1:Int))+(1:Int))))]).append (List.drop (0+2+1) (((r.set (0+i.toNat) (C.int .i64 kk::List.drop (0+0+1) (r.getD (0+i.toNat) []))).set (0+i.toNat) (((List.take (0+1) ((r.set (0+i.toNat) (C.int .i64 kk::List.drop (0+0+1) (r.getD (0+i.toNat) []))).getD (0+i.toNat) [])).append [C.str (aC8 (IntKind.i64.wrap (kk+(1:Int))))]).append (List.drop (0+1+1) ((r.set (0+i.toNat) (C.int .i64 kk::List.drop (0+0+1) (r.getD (0+i.toNat) []))).getD (0+i.toNat) [])))).getD (0+i.toNat) [])))).length)) (H [Pt.r,Pt.l,Pt.r,Pt.b] k (aU3 (n) ((((r.set (0+i.toNat) (C.int .i64 kk::List.drop (0+0+1) (r.getD (0+i.toNat) []))).set (0+i.toNat) (((List.take (0+1) ((r.set (0+i.toNat) (C.int .i64 kk::List.drop (0+0+1) (r.getD (0+i.toNat) []))).getD (0+i.toNat) [])).append [C.str (aC8 (IntKind.i64.wrap (kk+(1:Int))))]).append (List.drop (0+1+1) ((r.set (0+i.toNat) (C.int .i64 kk::List.drop (0+0+1) (r.getD (0+i.toNat) []))).getD (0+i.toNat) [])))).set (0+i.toNat) (((List.take (0+2) (((r.set (0+i.toNat) (C.int .i64 kk::List.drop (0+0+1) (r.getD (0+i.toNat) []))).set (0+i.toNat) (((List.take (0+1) ((r.set (0+i.toNat) (C.int .i64 kk::List.drop (0+0+1) (r.getD (0+i.toNat) []))).getD (0+i.toNat) [])).append [C.str (aC8 (IntKind.i64.wrap (kk+(1:Int))))]).append (List.drop (0+1+1) ((r.set (0+i.toNat) (C.int .i64 kk::List.drop (0+0+1) (r.getD (0+i.toNat) []))).getD (0+i.toNat) [])))).getD (0+i.toNat) [])).append [C.str (aC8 (IntKind.i64.wrap (IntKind.i64.wrap (kk+(1:Int))+(1:Int))))]).append (List.drop (0+2+1) (((r.set (0+i.toNat) (C.int .i64 kk::List.drop (0+0+1) (r.getD (0+i.toNat) []))).set (0+i.toNat) (((List.take (0+1) ((r.set (0+i.toNat) (C.int .i64 kk::List.drop (0+0+1) (r.getD (0+i.toNat) []))).getD (0+i.toNat) [])).append [C.str (aC8 (IntKind.i64.wrap (kk+(1:Int))))]).append (List.drop (0+1+1) ((r.set (0+i.toNat) (C.int .i64 kk::List.drop (0+0+1) (r.getD (0+i.toNat) []))).getD (0+i.toNat) [])))).getD (0+i.toNat) [])))).set (0+i.toNat) (((List.take (0+3) ((((r.set (0+i.toNat) (C.int .i64 kk::List.drop (0+0+1) (r.getD (0+i.toNat) []))).set (0+i.toNat) (((List.take (0+1) ((r.set (0+i.toNat) (C.int .i64 kk::List.drop (0+0+1) (r.getD (0+i.toNat) []))).getD (0+i.toNat) [])).append [C.str (aC8 (IntKind.i64.wrap (kk+(1:Int))))]).append (List.drop (0+1+1) ((r.set (0+i.toNat) (C.int .i64 kk::List.drop (0+0+1) (r.getD (0+i.toNat) []))).getD (0+i.toNat) [])))).set (0+i.toNat) (((List.take (0+2) (((r.set (0+i.toNat) (C.int .i64 kk::List.drop (0+0+1) (r.getD (0+i.toNat) []))).set (0+i.toNat) (((List.take (0+1) ((r.set (0+i.toNat) (C.int .i64 kk::List.drop (0+0+1) (r.getD (0+i.toNat) []))).getD (0+i.toNat) [])).append [C.str (aC8 (IntKind.i64.wrap (kk+(1:Int))))]).append (List.drop (0+1+1) ((r.set (0+i.toNat) (C.int .i64 kk::List.drop (0+0+1) (r.getD (0+i.toNat) []))).getD (0+i.toNat) [])))).getD (0+i.toNat) [])).append [C.str (aC8 (IntKind.i64.wrap (IntKind.i64.wrap (kk+(1:Int))+(1:Int))))]).append (List.drop (0+2+1) (((r.set (0+i.toNat) (C.int .i64 kk::List.drop (0+0+1) (r.getD (0+i.toNat) []))).set (0+i.toNat) (((List.take (0+1) ((r.set (0+i.toNat) (C.int .i64 kk::List.drop (0+0+1) (r.getD (0+i.toNat) []))).getD (0+i.toNat) [])).append [C.str (aC8 (IntKind.i64.wrap (kk+(1:Int))))]).append (List.drop (0+1+1) ((r.set (0+i.toNat) (C.int .i64 kk::List.drop (0+0+1) (r.getD (0+i.toNat) []))).getD (0+i.toNat) [])))).getD (0+i.toNat) [])))).getD (0+i.toNat) [])).append [C.str (aC8 (IntKind.i64.wrap (IntKind.i64.wrap (IntKind.i64.wrap (kk+(1:Int))+(1:Int))+(1:Int))))]).append (List.drop (0+3+1) ((((r.set (0+i.toNat) (C.int .i64 kk::List.drop (0+0+1) (r.getD (0+i.toNat) []))).set (0+i.toNat) (((List.take (0+1) ((r.set (0+i.toNat) (C.int .i64 kk::List.drop (0+0+1) (r.getD (0+i.toNat) []))).getD (0+i.toNat) [])).append [C.str (aC8 (IntKind.i64.wrap (kk+(1:Int))))]).append (List.drop (0+1+1) ((r.set (0+i.toNat) (C.int .i64 kk::List.drop (0+0+1) (r.getD (0+i.toNat) []))).getD (0+i.toNat) [])))).set (0+i.toNat) (((List.take (0+2) (((r.set (0+i.toNat) (C.int .i64 kk::List.drop (0+0+1) (r.getD (0+i.toNat) []))).set (0+i.toNat) (((List.take (0+1) ((r.set (0+i.toNat) (C.int .i64 kk::List.drop (0+0+1) (r.getD (0+i.toNat) []))).getD (0+i.toNat) [])).append [C.str (aC8 (IntKind.i64.wrap (kk+(1:Int))))]).append (List.drop (0+1+1) ((r.set (0+i.toNat) (C.int .i64 kk::List.drop (0+0+1) (r.getD (0+i.toNat) []))).getD (0+i.toNat) [])))).getD (0+i.toNat) [])).append [C.str (aC8 (IntKind.i64.wrap (IntKind.i64.wrap (kk+(1:Int))+(1:Int))))]).append (List.drop (0+2+1) (((r.set (0+i.toNat) (C.int .i64 kk::List.drop (0+0+1) (r.getD (0+i.toNat) []))).set (0+i.toNat) (((List.take (0+1) ((r.set (0+i.toNat) (C.int .i64 kk::List.drop (0+0+1) (r.getD (0+i.toNat) []))).getD (0+i.toNat) [])).append [C.str (aC8 (IntKind.i64.wrap (kk+(1:Int))))]).append (List.drop (0+1+1) ((r.set (0+i.toNat) (C.int .i64 kk::List.drop (0+0+1) (r.getD (0+i.toNat) []))).getD (0+i.toNat) [])))).getD (0+i.toNat) [])))).getD (0+i.toNat) [])))) (IntKind.i64.wrap (IntKind.i64.wrap (IntKind.i64.wrap (IntKind.i64.wrap (kk+(1:Int))+(1:Int))+(1:Int))+(1:Int))) (IntKind.i64.wrap (i+(1:Int)))))))))))))))) (.must (true&&(false||true)&&true&&true&&((false||r.all fun r=>r.all C.flat)&&true&&true)) (.ret [C.int .i64 kk,C.sl r]))):T (List C)).eval:=aAc (by kernel_rfl)
theorem bCp (H:List Pt→Nat→St→T (List C)) (r:List (List C)) (kk:Int) (i:Int) (k:Nat):(aB1 aUj aAa (sg [pSl 58,pI] [rI]) Tryz.f24 H [Pt.r,Pt.l,Pt.r,Pt.b] k (aU6 r kk i)).eval=((.ask (decide (i<(↑r.length:Int))) (.must (decide ((0:Int)≤i)&&decide (i<(↑r.length:Int))&&decide ((r.getD i.toNat []).length=4)) (.must (decide (0+0<(r.getD i.toNat []).length)&&C.is (K.int .i64) ((r.getD i.toNat []).getD (0+0) (C.fn 0 []))&&true) (.ask (((r.getD i.toNat []).getD (0+0) (C.fn 0 [])).toInt != kk) (.ret [C.int .i64 (-1)]) (.must (decide ((0:Int)≤i)&&decide (i<(↑r.length:Int))&&decide ((r.getD i.toNat []).length=4)) (.must (decide (0+1<(r.getD i.toNat []).length)&&C.is K.str ((r.getD i.toNat []).getD (0+1) (C.fn 0 []))&&true) (.must (decide (IntKind.i64.wrap (kk+(1:Int))≤(4611686018427387904:Int))) (.ask (!((r.getD i.toNat []).getD (0+1) (C.fn 0 [])).toStr==aC8 (IntKind.i64.wrap (kk+(1:Int)))) (.ret [C.int .i64 (-1)]) (.must (decide ((0:Int)≤i)&&decide (i<(↑r.length:Int))&&decide ((r.getD i.toNat []).length=4)) (.must (decide (0+2<(r.getD i.toNat []).length)&&C.is K.str ((r.getD i.toNat []).getD (0+2) (C.fn 0 []))&&true) (.must (decide (IntKind.i64.wrap (IntKind.i64.wrap (kk+(1:Int))+(1:Int))≤(4611686018427387904:Int))) (.ask (!((r.getD i.toNat []).getD (0+2) (C.fn 0 [])).toStr==aC8 (IntKind.i64.wrap (IntKind.i64.wrap (kk+(1:Int))+(1:Int)))) (.ret [C.int .i64 (-1)]) (.must (decide ((0:Int)≤i)&&decide (i<(↑r.length:Int))&&decide ((r.getD i.toNat []).length=4)) (.must (decide (0+3<(r.getD i.toNat []).length)&&C.is K.str ((r.getD i.toNat []).getD (0+3) (C.fn 0 []))&&true) (.must (decide (IntKind.i64.wrap (IntKind.i64.wrap (IntKind.i64.wrap (kk+(1:Int))+(1:Int))+(1:Int))≤(4611686018427387904:Int))) (.ask (!((r.getD i.toNat []).getD (0+3) (C.fn 0 [])).toStr==aC8 (IntKind.i64.wrap (IntKind.i64.wrap (IntKind.i64.wrap (kk+(1:Int))+(1:Int))+(1:Int)))) (.ret [C.int .i64 (-1)]) (H [Pt.r,Pt.l,Pt.r,Pt.b] k (aU6 (r) (IntKind.i64.wrap (IntKind.i64.wrap (IntKind.i64.wrap (IntKind.i64.wrap (kk+(1:Int))+(1:Int))+(1:Int))+(1:Int))) (IntKind.i64.wrap (i+(1:Int)))))))))))))))))))) (.ret [C.int .i64 kk])):T (List C)).eval:=aAc (by kernel_rfl)
theorem bJm (H:List Pt→Nat→St→T (List C)) (n:Int) (t:List UInt8):(aAg bNn aAa (sg [pI,pS] [rSl 58]) Tryz.f56 H [C.int .i64 n,C.str t]).eval=((.ret [C.sl [[C.int .i64 2,C.str (aB0 n),C.str [],C.str []],[C.int .i64 3,C.str (aB0 n),C.str [],C.str t],[C.int .i64 4,C.str (aB0 n),C.str [],C.str []],[C.int .i64 5,C.str (aB0 n),C.str (aAm n),C.str []],[C.int .i64 6,C.str [],C.str [],C.str []]]]):T (List C)).eval:=aAc (by kernel_rfl)
theorem bLk (H:List Pt→Nat→St→T (List C)) (n:Int) (t:List UInt8):(aAg bNy aAa (sg [pI,pS] [rSl 58]) Tryz.f65 H [C.int .i64 n,C.str t]).eval=((.ret [C.sl [[C.int .i64 2,C.str (aB0 n),C.str [],C.str []],[C.int .i64 3,C.str (aB0 n),C.str [],C.str t],[C.int .i64 4,C.str (aB0 n),C.str [],C.str []],[C.int .i64 5,C.str (aB0 n),C.str (aAm n),C.str []],[C.int .i64 6,C.str [],C.str [],C.str []]]]):T (List C)).eval:=aAc (by kernel_rfl)
theorem bXk {r:List C} (h:aB3 r kOp=true):r=eOp (bVg r):=by
 match r,h with
 |[a,b,c,d],h =>
  simp only[aB3,Bool.and_eq_true,and_true]at h
  obtain⟨h1,h2,h3,h4⟩:=h
  have e1:=bN0 h1
  have e2:=bGr h2
  have e3:=bGr h3
  have e4:=bGr h4
  show[a,b,c,d]=[.int .i64 a.toInt,.str b.toStr,.str c.toStr,.str d.toStr]
  rw[←e1,←e2,←e3,←e4]
 |[],h=>simp[aB3]at h
 |[_],h=>simp[aB3]at h
 |[_,_],h=>simp[aB3]at h
 |[_,_,_],h=>simp[aB3]at h
 |_::_::_::_::_::_,h=>simp[aB3]at h
theorem bBz {rows:List (List C)} (h:aAf kOp rows=true):rows=(ops rows).map eOp:=by
 simp only[aAf,List.all_eq_true]at h
 simp only[ops,List.map_map]
 exact (List.map_id' rows).symm.trans (List.map_congr_left fun r hr=>bXk (h r hr))
@[simp] theorem cBt (l:List Opx):ops (l.map eOp)=l:=by simp[ops,bVg,Function.comp_def,C.toInt,C.toStr]
theorem cAz:aA6 Tryz.prog bY4:=aA5 (by simp[])
theorem bQb:aAn Tryz.prog 67 (sg [pOp,pOp] [rB]) bDw:=aA4 cAz aA7 Tryz.func67 (by kernel_rfl) fun cs outs hk h=>by
 unfold bDw at h
 split at h
 ·simp only[Option.some.injEq,Prod.mk.injEq,true_and]at h
  subst h
  rw[aA9,bTu]
  simp only[aA1,aA0,aA2,bne_iff_ne,ne_eq,Bool.not_eq_true',beq_eq_false_iff_ne,bTt,Opx.mk.injEq]
  repeat' split
  all_goals first | rfl | (simp_all;done)
 ·cases h
theorem bQd (x y:List Opx) (hx:x.length≤16777216) (hl:x.length=y.length):∀ (n i:Nat),i≤x.length→x.length<i+n→x.take i=y.take i →
  (aBf bEn aAa (sg [pSl 58,pSl 58] [rB]) Tryz.f22 [.r,.r,.l,.r,.b] n (bEh (x.map eOp) (y.map eOp) i)).eval=some [.bool (decide (x=y))]:=by
 intro n
 induction n with
 |zero=>intro i h1 h2;omega
 |succ n ih =>
  intro i h1 h2 h3
  rw[aAi _ _ _ _ _ _ _ (by kernel_rfl),bHk]
  by_cases hi:i<x.length
  ·have hi2:i<y.length:=by omega
   have w:IntKind.i64.wrap ((i:Int)+1)=((i+1:Nat):Int):=by rw[aAd]<;>omega
   have hz:(0:Int)≤i:=by omega
   have g:=aAv eOp x ⟨0,[],[],[]⟩ i hi
   have g2:=aAv eOp y ⟨0,[],[],[]⟩ i hi2
   simp only[aA0,aA1,aA2,if_true,decide_eq_true_eq,Bool.and_eq_true,w,hz,Int.toNat_natCast,Int.ofNat_lt,List.length_map,g,g2,hi,hi2,and_self,List.getD_cons_zero,List.getD_cons_succ,C.toStr,C.toInt,C.is,List.length_cons,List.length_nil,Nat.zero_add,Nat.reduceAdd,Nat.reduceLT,decide_true,beq_self_eq_true]
   by_cases hxy:x.getD i ⟨0,[],[],[]⟩=y.getD i ⟨0,[],[],[]⟩
   ·have e:=ih (i+1) (by omega) (by omega) (aHr ⟨0,[],[],[]⟩ hi hi2 h3 hxy)
    have he:bTt (x.getD i ⟨0,[],[],[]⟩).kind (x.getD i ⟨0,[],[],[]⟩).name (x.getD i ⟨0,[],[],[]⟩).to (x.getD i ⟨0,[],[],[]⟩).text (y.getD i ⟨0,[],[],[]⟩).kind (y.getD i ⟨0,[],[],[]⟩).name (y.getD i ⟨0,[],[],[]⟩).to (y.getD i ⟨0,[],[],[]⟩).text=true:=decide_eq_true hxy
    simp only[he,if_true]
    exact e
   ·have:x≠y:=fun h=>hxy (by rw[h])
    have hne:bTt (x.getD i ⟨0,[],[],[]⟩).kind (x.getD i ⟨0,[],[],[]⟩).name (x.getD i ⟨0,[],[],[]⟩).to (x.getD i ⟨0,[],[],[]⟩).text (y.getD i ⟨0,[],[],[]⟩).kind (y.getD i ⟨0,[],[],[]⟩).name (y.getD i ⟨0,[],[],[]⟩).to (y.getD i ⟨0,[],[],[]⟩).text=false:=decide_eq_false hxy
    simp only[hne,decide_false,Bool.false_eq_true,if_false,this]
  ·have e1:i=x.length:=by omega
   have:x=y:=by
    rw[e1,List.take_length,hl,List.take_length]at h3
    exact h3
   have e2:decide (x=y)=true:=by simp[this]
   simp only[aA0,aA1,aA2,decide_eq_true_eq,List.length_map,Int.ofNat_lt,hi,if_false,if_true,e2]
theorem bZf:aA6 Tryz.prog bEn:=aA5 (by simp[bQb])
theorem bM1:aAn Tryz.prog 22 (sg [pSl 58,pSl 58] [rB]) aWz:=aA4 bZf aA7 Tryz.func22 (by kernel_rfl) fun cs outs hk h=>by
 unfold aWz at h
 split at h
 ·simp only[Option.some.injEq,Prod.mk.injEq,Bool.and_eq_true,decide_eq_true_eq]at h
  obtain⟨⟨h1,h2,h3⟩,rfl⟩:=h
  rename_i x y
  have hx:=bBz h2
  have hy:=bBz h3
  generalize ops x=l at hx ⊢
  generalize ops y=m at hy ⊢
  subst hx;subst hy
  rw[List.length_map]at h1
  rw[aA9,bQc]
  simp only[aA0,aA1,aA2,if_true,bne_iff_ne,ne_eq,List.length_map,Int.ofNat_inj]
  by_cases hl:l.length=m.length
  ·simp only[hl,not_true_eq_false,if_false]
   exact bQd l m h1 hl _ 0 (by omega) (by omega) rfl
  ·have:l≠m:=fun h=>hl (by rw[h])
   simp[hl,this]
 ·cases h
theorem bKk (rows:List (List C)) (k:Int) (hr:aAf kOp rows=true) (hl:rows.length≤16777216) (h0:0≤k) (h1:k≤1099511627776):∀ (n i:Nat),i≤rows.length→rows.length<i+n →
  (aBf aUg aAa (sg [.wr false [(.slice 58,true)],pI] [rI]) Tryz.f23 [.r,.l,.r,.b] n (aU3 rows.length (mk aSm 4 k i++rows.drop i) (k+4*i) i)).eval=some [.int .i64 (k+4*rows.length),.sl (mk aSm 4 k rows.length)]:=by
 intro n
 induction n with
 |zero=>intro i a b;omega
 |succ n ih =>
  intro i a b
  rw[aAi _ _ _ _ _ _ _ (by kernel_rfl),bCm]
  by_cases hi:i<rows.length
  ·have w:IntKind.i64.wrap ((i:Int)+1)=((i+1:Nat):Int):=by rw[aAd]<;>omega
   have w1:IntKind.i64.wrap (k+4*(i:Int)+1)=k+4*(i:Int)+1:=by rw[aAd]<;>omega
   have w2:IntKind.i64.wrap (k+4*(i:Int)+1+1)=k+4*(i:Int)+2:=by rw[aAd]<;>omega
   have w3:IntKind.i64.wrap (k+4*(i:Int)+2+1)=k+4*(i:Int)+3:=by rw[aAd]<;>omega
   have w4:IntKind.i64.wrap (k+4*(i:Int)+3+1)=k+4*(i:Int)+4:=by rw[aAd]<;>omega
   have hk2:k+4*(i:Int)+2≤4611686018427387904:=by omega
   have hk3:k+4*(i:Int)+3≤4611686018427387904:=by omega
   have wk:k+4*(i:Int)+4=k+4*((i+1:Nat):Int):=by omega
   have hz:(0:Int)≤i:=by omega
   have hi':(i:Int)<rows.length:=by omega
   have hk:k+4*(i:Int)≤4611686018427387904:=by omega
   have hk1:k+4*(i:Int)+1≤4611686018427387904:=by omega
   have g:=bXk (aJn hr i hi)
   have hlen:i<(mk aSm 4 k i++rows.drop i).length:=by simp[aHc];omega
   simp only[Nat.zero_add,Nat.add_zero,Int.toNat_natCast,List.set_set,List.length_set,aJx _ _ _ _ hlen,w,w1,w2,w3,w4,List.append_eq]
   simp only[aTv _ _ _ _ (aHc _ _ _ _),bB7 _ _ _ _ (aHc _ _ _ _) hi]
   rw[g]
   simp only[List.drop_succ_cons,List.drop_zero,List.take_succ_cons,List.take_zero,List.cons_append,List.nil_append,List.drop_nil,List.append_nil,List.append_assoc]
   have e:mk aSm 4 k i++[[C.int .i64 (k+4*(i:Int)),C.str (aC8 (k+4*(i:Int)+1)),C.str (aC8 (k+4*(i:Int)+2)),C.str (aC8 (k+4*(i:Int)+3))]]=mk aSm 4 k (i+1):=(bCe aSm 4 k i).symm
   simp only[aA0,aA1,decide_eq_true_eq,Bool.and_eq_true,hz,hi',hk,hk1,hk2,hk3,hlen,and_self,if_true]
   have:=ih (i+1) (by omega) (by omega)
   rw[←e,←wk,List.append_assoc]at this
   exact this
  ·have e:i=rows.length:=by omega
   subst e
   have hi':¬((rows.length:Int)<(rows.length:Int)):=by omega
   have hf:((mk aSm 4 k rows.length).all fun r=>r.all C.flat)=true:=aHd _ _ _ _ _ fun k=>rfl
   simp only[aA1,aA0,aA2,decide_eq_true_eq,hi',if_false,List.drop_length,List.append_nil,hf,Bool.false_or,Bool.or_true,Bool.and_true,Bool.and_self,if_true]
theorem bW8:aA6 Tryz.prog aUg:=aA5 (by simp[aE2])
theorem bGk:aAn Tryz.prog 23 (sg [.wr false [(.slice 58,true)],pI] [rI]) aW3:=aA4 bW8 aA7 Tryz.func23 (by kernel_rfl) fun cs outs hk h=>by
 unfold aW3 at h
 split at h
 ·simp only[Option.some.injEq,Prod.mk.injEq,Bool.and_eq_true,decide_eq_true_eq]at h
  obtain⟨⟨h1,h2,h3,h4⟩,rfl⟩:=h
  rename_i rows k
  rw[aA9,bKj]
  have:=bKk rows k h1 h2 h3 h4 9223372036854775808 0 (by omega) (by omega)
  rw[show mk aSm 4 k 0++rows.drop 0=rows by simp[mk],show k+4*((0:Nat):Int)=k by omega]at this
  have r1:=aEu h1 4 rfl
  simp only[aA0,r1,Bool.and_true,Bool.true_and,Nat.zero_lt_one,decide_true,if_true]
  exact this
 ·cases h
theorem bKr (l:List Opx) (hl:l.length≤16777216):∀ (n i:Nat) (k:Int),0≤k→k≤1099511627776+4*i→i≤l.length→l.length<i+n →
  (aBf aUj aAa (sg [pSl 58,pI] [rI]) Tryz.f24 [.r,.l,.r,.b] n (aU6 (l.map eOp) k i)).eval=some [.int .i64 (aIz (l.drop i) k)]:=by
 intro n
 induction n with
 |zero=>intro i k _ _ a b;omega
 |succ n ih =>
  intro i k k0 k1 a b
  rw[aAi _ _ _ _ _ _ _ (by kernel_rfl),bCp]
  by_cases hi:i<l.length
  ·have g:=aAv eOp l ⟨0,[],[],[]⟩ i hi
   have w:IntKind.i64.wrap ((i:Int)+1)=((i+1:Nat):Int):=by rw[aAd]<;>omega
   have w1:IntKind.i64.wrap (k+1)=k+1:=by rw[aAd]<;>omega
   have w2:IntKind.i64.wrap (k+1+1)=k+2:=by rw[aAd]<;>omega
   have w3:IntKind.i64.wrap (k+2+1)=k+3:=by rw[aAd]<;>omega
   have w4:IntKind.i64.wrap (k+3+1)=k+4:=by rw[aAd]<;>omega
   have hz:(0:Int)≤i:=by omega
   have hi':(i:Int)<l.length:=by omega
   have hk1:k+1≤4611686018427387904:=by omega
   have hk2:k+2≤4611686018427387904:=by omega
   have hk3:k+3≤4611686018427387904:=by omega
   rw[aB9 l i ⟨0,[],[],[]⟩ hi]
   generalize l.getD i ⟨0,[],[],[]⟩=y at g ⊢
   have e:=ih (i+1) (k+4) (by omega) (by omega) (by omega) (by omega)
   simp only[aA0,aA1,aA2,if_true,decide_eq_true_eq,Bool.and_eq_true,w,w1,w2,w3,w4,hz,hi',hk1,hk2,hk3,Int.toNat_natCast,List.length_map,g,and_self,List.getD_cons_zero,List.getD_cons_succ,C.toStr,C.toInt,C.is,List.length_cons,List.length_nil,Nat.zero_add,Nat.reduceAdd,Nat.reduceLT,Nat.zero_lt_succ,decide_true,Bool.not_eq_true',beq_eq_false_iff_ne,beq_self_eq_true,bne_iff_ne,ne_eq,aIz]
   by_cases h1:y.kind=k
   ·by_cases h2:y.name=aC8 (k+1)
    ·by_cases h3:y.to=aC8 (k+2)
     ·by_cases h4:y.text=aC8 (k+3)
      ·simp only[h1,h2,h3,h4,not_true_eq_false,if_false,if_true,and_self]
       exact e
      ·simp only[h1,h2,h3,h4,not_true_eq_false,not_false_eq_true,if_false,if_true,and_false,and_true]
     ·simp only[h1,h2,h3,not_true_eq_false,not_false_eq_true,if_false,if_true,and_false,false_and]
    ·simp only[h1,h2,not_true_eq_false,not_false_eq_true,if_false,if_true,and_false,false_and]
   ·simp only[h1,not_false_eq_true,if_true,false_and,if_false]
  ·have e:i=l.length:=by omega
   subst e
   have hi':¬((l.length:Int)<(l.length:Int)):=by omega
   simp only[aA1,aA2,decide_eq_true_eq,List.length_map,hi',if_false,List.drop_length,aIz]
theorem bWc:aA6 Tryz.prog aUj:=aA5 (by simp[aE2])
theorem bGo:aAn Tryz.prog 24 (sg [pSl 58,pI] [rI]) aWo:=aA4 bWc aA7 Tryz.func24 (by kernel_rfl) fun cs outs hk h=>by
 unfold aWo at h
 split at h
 ·simp only[Option.some.injEq,Prod.mk.injEq,Bool.and_eq_true,decide_eq_true_eq]at h
  obtain⟨⟨h1,h2,h3,h4⟩,rfl⟩:=h
  rename_i rows k
  have hr:=bBz h1
  generalize ops rows=l at hr ⊢
  subst hr
  rw[List.length_map]at h2
  rw[aA9,bKq]
  exact bKr l h2 9223372036854775808 0 k h3 (by omega) (by omega) (by omega)
 ·cases h
theorem bWs (k:Int):∀ (n i:Nat),aIz ((List.range' i n).map fun (j:Nat)=>(⟨k+4*(j:Int),aC8 (k+4*(j:Int)+1),aC8 (k+4*(j:Int)+2),aC8 (k+4*(j:Int)+3)⟩:Opx)) (k+4*(i:Int))=k+4*(i:Int)+4*n:=by
 intro n
 induction n with
 |zero=>intro i;simp[aIz]
 |succ n ih =>
  intro i
  have:=ih (i+1)
  have e:k+4*((i+1:Nat):Int)=k+4*(i:Int)+4:=by omega
  rw[e]at this
  simp only[List.range'_succ,List.map_cons,aIz,and_self,if_true]at this ⊢
  rw[this]
  omega
theorem bLp (k:Int) (n:Nat):aIz (ops (mk aSm 4 k n)) k=k+4*n:=by
 have:=bWs k n 0
 rw[show ops (mk aSm 4 k n)=(List.range' 0 n).map fun (j:Nat)=>(⟨k+4*(j:Int),aC8 (k+4*(j:Int)+1),aC8 (k+4*(j:Int)+2),aC8 (k+4*(j:Int)+3)⟩:Opx) by simp[ops,mk,bVg,aSm,C.toStr,C.toInt,List.range_eq_range',Function.comp_def]]
 have e:k+4*((0:Nat):Int)=k:=by omega
 rw[e]at this
 exact this
theorem bVd:aA6 Tryz.prog bNn:=aA5 (by simp[aCx,aLd])
theorem bFp:aAn Tryz.prog 56 (sg [pI,pS] [rSl 58]) aJ1:=aA4 bVd aA7 Tryz.func56 (by kernel_rfl) fun cs outs hk h=>by
 unfold aJ1 at h
 split at h
 ·simp only[Option.some.injEq,Prod.mk.injEq,true_and]at h
  subst h
  rw[aA9,bJm]
  rfl
 ·cases h
theorem bWp:aA6 Tryz.prog bNy:=aA5 (by simp[aD1,aLy])
theorem bH5:aAn Tryz.prog 65 (sg [pI,pS] [rSl 58]) aJ1:=aA4 bWp aA7 Tryz.func65 (by kernel_rfl) fun cs outs hk h=>by
 unfold aJ1 at h
 split at h
 ·simp only[Option.some.injEq,Prod.mk.injEq,true_and]at h
  subst h
  rw[aA9,bLk]
  rfl
 ·cases h
noncomputable section
def aDh (b:List UInt8) (v:Int):List UInt8:=if aA8 b&&inB v 0 2 then aFb (if v=0 then rhV b else v) (rhS b) (rhB b) (rhL b) (aAp b)else[]
def aH0:aC3:=fun cs=>match cs with
 |[.str b,.int .i64 v]=>some (decide (b.length≤1048576),[.str (aDh b v)])
 |_=>none
def bI5:Env:=mkE [] [(53,(sg [pI,pI,pI] [rB]),aE3),(90,(sg [pS] [aLl]),aGs),(91,(⟨[aEd,bEr],[rS],true⟩),bB8)]
def bIe:Env:=mkE [] [(63,(sg [pI] [rB]),aDj),(93,(sg [pS] [aLl]),aGs),(107,(⟨[aEd,bEr],[rS],true⟩),aV6)]
def bP9 (nm:List UInt8):Opx:=⟨1,nm,[],[]⟩
def cA0 (nm:List UInt8):Opx:=⟨4,nm,[],[]⟩
def bPa:Opx:=⟨6,[],[],[]⟩
def aAy (l:List (List UInt8)):List Opx:=l.map bP9++(if l=[]then[]else[bPa])
def aPr (ns es:List (List C)) (c:List Lk):List Opx:=c.flatMap fun x=>if aLq (nds ns) (ens es) (aAm x.1)≠((aEg (nds ns) (ens es) (aAm x.1)).length:Nat)then[cA0 (aAm x.1)]else[]
def aEa (v:Int) (c:List Lk):List Opx:=c.flatMap fun x=>if aDh x.2 v≠x.2 then aEk x.1 (aDh x.2 v)else[]
def bAs (v:Int):Int:=if inB v 1 2 then v else 0
def aDf (s:List UInt8):Bool:=decide (aBy s=2)
def aL2 (l:List (List UInt8)):List (List UInt8):=l.reverse
def aBj (ns es ss:List (List C)) (v:Int):List Opx :=
 aPr ns es (aCe (nds ns) (ens es))++((if ss=[]then[]else[bPa])++(aAy ((aD7 ns es).filter aDf)++(aEa (bAs v) (aCe (nds ns) (ens es))++aAy (aL2 ((aD7 ns es).filter fun s=> !aDf s)))))
def aG5:aC3:=fun cs=>match cs with
 |[.sl ns,.sl es,.sl _,.sl ss,.int .i64 _,.int .i64 _,.int .i64 v]=>some (aI1 ns es&&(aR8 es&&decide (ss.length≤1048576)),[.sl ((aBj ns es ss v).map eOp)])
 |_=>none
def aFw:aC3:=fun cs=>match cs with
 |[.sl ns,.sl es,.sl _,.sl ss,.int .i64 _,.int .i64 _,.int .i64 v]=>some (aI1 ns es&&(aR8 es&&decide (ss.length≤1048576)),[.int .i64 ((aBj ns es ss v).length:Nat)])
 |_=>none
def aHv:List Opx→Nat→Nat
 |[],n=>n
 |x::r,n=>aHv r (if n<x.text.length then x.text.length else n)
def bCf (ns es ss:List (List C)) (v:Int):Int:=aHv (aBj ns es ss v) 0
def aEy:aC3:=fun cs=>match cs with
 |[.sl ns,.sl es,.sl _,.sl ss,.int .i64 _,.int .i64 _,.int .i64 v]=>some (aI1 ns es&&(aR8 es&&decide (ss.length≤1048576)),[.int .i64 (bCf ns es ss v)])
 |_=>none
def aP3:aC3:=fun cs=>match cs with
 |[.sl r]=>some (aAf [.str] r&&decide (r.length≤1048576),[.sl ((aAy (aCb r)).map eOp)])
 |_=>none
def bJt:aC3:=fun cs=>match cs with
 |[.sl r]=>some (aAf [.str] r&&decide (r.length≤1048576),[.sl ((aL2 (aCb r)).map aB5)])
 |_=>none
def aN7 (n:Nat) (o r:List (List C)) (k i:Int):St:=st1 [(3,.l (.ref 0 0 n)),(7,.l (.sl r)),(8,aAw k),(9,aAw i)] 4 o
def bNg (n:Nat) (i j:Int) (r:List (List C)):St:={slots:=[(0,.l (.ref 0 0 n)),(2,aAw i),(3,aAw j)],heap:=[(0,.arr 1 r)],next:=1,pins:=[0]}
def aKd (v:Int) (ns es os ss:List (List C)) (r x:Int) (n:Nat) (o:List (List C)) (m:Nat) (ls:List (List C)) (k i:Int):St:={slots:=[(1,aAw v),(2,.l (.ptr 0 0)),(5,.l (.ref 1 0 n)),(6,.l (.ref 2 0 m)),(23,.l (.ref 2 0 m)),(24,aAw k),(25,aAw i)],heap:=[(0,bHq ns es os ss r x),(1,.arr 4 o),(2,.arr 11 ls)],next:=3,pins:=[]}
def aNf (v:Int) (n:Nat) (o:List (List C)) (m:Nat) (ls:List (List C)) (n1:Nat) (t1:List (List C)) (n2:Nat) (t2 lo:List (List C)) (k i:Int):St:={slots:=[(1,aAw v),(5,.l (.ref 0 0 n)),(6,.l (.ref 1 0 m)),(11,.l (.ref 2 0 n1)),(12,.l (.ref 3 0 n2)),(62,.l (.sl lo)),(63,aAw k),(64,aAw i)],heap:=[(0,.arr 4 o),(1,.arr 11 ls),(2,.arr 1 t1),(3,.arr 1 t2)],next:=4,pins:=[]}
def aNe (v:Int) (n:Nat) (o:List (List C)) (n2:Nat) (t2:List (List C)) (m:Nat) (ls:List (List C)) (k i:Int):St:={slots:=[(1,aAw v),(5,.l (.ref 0 0 n)),(12,.l (.ref 1 0 n2)),(91,.l (.ref 2 0 m)),(92,aAw k),(93,aAw i)],heap:=[(0,.arr 4 o),(1,.arr 1 t2),(2,.arr 11 ls)],next:=3,pins:=[]}
def aNq:Env:=mkE [(3,[3,7,8,9])] []
def bNo:Env:=mkE [(1,[0,2,3])] []
def aMg:Env:=mkE [(4,[1,2,5,6,23,24,25]),(14,[1,5,6,11,12,62,63,64]),(25,[1,5,12,91,92,93])] [(63,(sg [pI] [rB]),aDj),(59,(sg [pI] [rS]),aFa),(58,(sg [aB2,pS] [aVu,rB]),aEx),(57,(⟨[aB2],[rSl 86],true⟩),aQ6),(61,(sg [pS] [rI,rI]),aDd),(60,(⟨[aB2],[cBo 9],true⟩),aIw),(65,(sg [pI,pS] [rSl 58]),aJ1),(64,(sg [pS,pI] [rS]),aH0),(62,(sg [pSl 9] [rSl 58]),aP3),(66,(sg [.wr false [(.slice 9,true)]] []),bJt)]
def aKb (v:Int) (ns es os ss:List (List C)) (r x:Int) (n:Nat) (o:List (List C)) (m:Nat) (bs:List (List C)) (i:Int):St:={slots:=[(1,aAw v),(2,.l (.ptr 0 0)),(5,.l (.ref 1 0 n)),(6,.l (.ref 2 0 m)),(7,aAw i)],heap:=[(0,bHq ns es os ss r x),(1,.arr 4 o),(2,.arr 1 bs)],next:=3,pins:=[]}
def aQy (v:Int) (ns es os ss:List (List C)) (r x:Int) (n:Nat) (o:List (List C)) (m:Nat) (bs:List (List C)) (q:Nat) (lo:List (List C)) (i:Int):St:={slots:=[(1,aAw v),(2,.l (.ptr 0 0)),(5,.l (.ref 1 0 n)),(6,.l (.ref 2 0 m)),(11,.l (.ref 3 0 q)),(12,.l (.b false)),(13,aAw i)],heap:=[(0,bHq ns es os ss r x),(1,.arr 4 o),(2,.arr 1 bs),(3,.arr 1 lo)],next:=4,pins:=[]}
def aQx (v:Int) (ns es os ss:List (List C)) (r x:Int) (n:Nat) (o:List (List C)) (m:Nat) (bs:List (List C)) (q:Nat) (lo:List (List C)) (i:Int):St:={slots:=[(1,aAw v),(2,.l (.ptr 0 0)),(5,.l (.ref 1 0 n)),(6,.l (.ref 2 0 m)),(11,.l (.ref 3 0 q)),(12,.l (.b true)),(13,aAw i)],heap:=[(0,bHq ns es os ss r x),(1,.arr 4 o),(2,.arr 1 bs),(3,.arr 1 lo)],next:=4,pins:=[]}
def aI4 (v:Int) (ns es os ss:List (List C)) (r x:Int) (n:Nat) (o:List (List C)) (m:Nat) (bs:List (List C)) (q:Nat) (lo:List (List C)) (i:Int):St:={slots:=[(1,aAw v),(2,.l (.ptr 0 0)),(5,.l (.ref 1 0 n)),(6,.l (.ref 2 0 m)),(11,.l (.ref 3 0 q)),(16,aAw i)],heap:=[(0,bHq ns es os ss r x),(1,.arr 4 o),(2,.arr 1 bs),(3,.arr 1 lo)],next:=4,pins:=[]}
def aTz (n:Nat) (o:List (List C)) (q:Nat) (lo:List (List C)) (i:Int):St:={slots:=[(5,.l (.ref 0 0 n)),(11,.l (.ref 1 0 q)),(19,.l (.b false)),(20,aAw i)],heap:=[(0,.arr 4 o),(1,.arr 1 lo)],next:=2,pins:=[]}
def aQw (n:Nat) (o:List (List C)) (q:Nat) (lo:List (List C)) (i:Int):St:={slots:=[(5,.l (.ref 0 0 n)),(11,.l (.ref 1 0 q)),(19,.l (.b true)),(20,aAw i)],heap:=[(0,.arr 4 o),(1,.arr 1 lo)],next:=2,pins:=[]}
def aFk:Env:=mkE [(4,[1,2,5,6,7]),(15,[1,2,5,6,11,12,13]),(26,[1,2,5,6,11,16]),(34,[5,11,19,20])] [(53,(sg [pI,pI,pI] [rB]),aE3),(49,(sg [pI] [rS]),aFa),(50,(sg [aB2,pS] [aVu,rB]),aEx),(54,(sg [aB2,pI] [rS]),aFs),(48,(sg [aB2] [rSl 3]),aHk),(52,(sg [pS] [rI,rI]),aDd),(51,(sg [aB2] [rSl 9]),aIw),(56,(sg [pI,pS] [rSl 58]),aJ1),(55,(sg [pS,pI] [rS]),aH0)]
end
theorem bFc (H:List Pt→Nat→St→T (List C)) (b:List UInt8) (v:Int):(aAg bI5 aAa (sg [pS,pI] [rS]) Tryz.f55 H [C.str b,C.int .i64 v]).eval=((.must (decide (b.length≤1048576)) (.must (decide (0<1)&&true&&(decide (0<1)&&true&&(decide (0<1)&&true&&(decide (0<1)&&true&&(decide (0<1)&&true&&((true&&(List.map aB5 (aAp b)).all fun row=>decide (row.length=1))&&((true&&(List.map aF3 (aEt b)).all fun row=>decide (row.length=1))&&(decide (0<1)&&true&&(decide (0<1)&&true&&true))))))))&&true&&true) (.ask (aA8 b) (.ask (inB v 0 2) (.ask (decide ((0:Int)<v)) (.must (aAf [K.str] (List.take (List.map aB5 (aAp b)).length (List.map aB5 (aAp b)))&&decide ((List.take (List.map aB5 (aAp b)).length (List.map aB5 (aAp b))).length≤1048576)) (.ret [C.str (aFb v (ifI (aA8 b) (rhS b)) (ifI (aA8 b) (rhB b)) (ifI (aA8 b) (rhL b)) (aCb (List.take (List.map aB5 (aAp b)).length (List.map aB5 (aAp b)))))])) (.must (aAf [K.str] (List.take (List.map aB5 (aAp b)).length (List.map aB5 (aAp b)))&&decide ((List.take (List.map aB5 (aAp b)).length (List.map aB5 (aAp b))).length≤1048576)) (.ret [C.str (aFb (ifI (aA8 b) (rhV b)) (ifI (aA8 b) (rhS b)) (ifI (aA8 b) (rhB b)) (ifI (aA8 b) (rhL b)) (aCb (List.take (List.map aB5 (aAp b)).length (List.map aB5 (aAp b)))))]))) (.ret [C.str []])) (.ret [C.str []])))):T (List C)).eval:=aAc (by kernel_rfl)
theorem bGw (H:List Pt→Nat→St→T (List C)) (b:List UInt8) (v:Int):(aAg bIe aAa (sg [pS,pI] [rS]) Tryz.f64 H [C.str b,C.int .i64 v]).eval=((.must (decide (b.length≤1048576)) (.must (decide (0<1)&&true&&(decide (0<1)&&true&&(decide (0<1)&&true&&(decide (0<1)&&true&&(decide (0<1)&&true&&((true&&(List.map aB5 (aAp b)).all fun row=>decide (row.length=1))&&((true&&(List.map aF3 (aEt b)).all fun row=>decide (row.length=1))&&(decide (0<1)&&true&&(decide (0<1)&&true&&true))))))))&&true&&true) (.ask (aA8 b) (.ask (v != (0:Int)) (.ask (inB v 1 2) (.ask (v != (0:Int)) (.must (aIt (List.take (List.map aB5 (aAp b)).length (List.map aB5 (aAp b)))) (.ret [C.str (aFb v (ifI (aA8 b) (rhS b)) (ifI (aA8 b) (rhB b)) (ifI (aA8 b) (rhL b)) (aCb (List.take (List.map aB5 (aAp b)).length (List.map aB5 (aAp b)))))])) (.must (aIt (List.take (List.map aB5 (aAp b)).length (List.map aB5 (aAp b)))) (.ret [C.str (aFb (ifI (aA8 b) (rhV b)) (ifI (aA8 b) (rhS b)) (ifI (aA8 b) (rhB b)) (ifI (aA8 b) (rhL b)) (aCb (List.take (List.map aB5 (aAp b)).length (List.map aB5 (aAp b)))))]))) (.ret [C.str []])) (.ask (v != (0:Int)) (.must (aIt (List.take (List.map aB5 (aAp b)).length (List.map aB5 (aAp b)))) (.ret [C.str (aFb v (ifI (aA8 b) (rhS b)) (ifI (aA8 b) (rhB b)) (ifI (aA8 b) (rhL b)) (aCb (List.take (List.map aB5 (aAp b)).length (List.map aB5 (aAp b)))))])) (.must (aIt (List.take (List.map aB5 (aAp b)).length (List.map aB5 (aAp b)))) (.ret [C.str (aFb (ifI (aA8 b) (rhV b)) (ifI (aA8 b) (rhS b)) (ifI (aA8 b) (rhB b)) (ifI (aA8 b) (rhL b)) (aCb (List.take (List.map aB5 (aAp b)).length (List.map aB5 (aAp b)))))])))) (.ret [C.str []])))):T (List C)).eval:=aAc (by kernel_rfl)
theorem bC3 (H:List Pt→Nat→St→T (List C)) (r:List (List C)):(aAg aNq aAa (sg [pSl 9] [rSl 58]) Tryz.f62 H [C.sl r]).eval=((H [Pt.r,Pt.r,Pt.l,Pt.r,Pt.b] 9223372036854775808 (aN7 (0) ([]) (r) ((↑r.length:Int)) ((0:Int)))):T (List C)).eval:=aAc (by kernel_rfl)
theorem bS2 (H:List Pt→Nat→St→T (List C)) (r:List (List C)):(aAg bNo aAa (sg [PTy.wr false [(K.slice 9,true)]] []) Tryz.f66 H [C.sl r]).eval=((.must ((true&&r.all fun row=>decide (row.length=1))&&true&&true) (H [Pt.r,Pt.b] 9223372036854775808 (bNg (r.length) ((0:Int)) (IntKind.i64.wrap ((↑r.length:Int)-(1:Int))) (r)))):T (List C)).eval:=aAc (by kernel_rfl)
theorem aVt (H:List Pt→Nat→St→T (List C)) (n:Nat) (o:List (List C)) (r:List (List C)) (k2:Int) (i:Int) (k:Nat):(aB1 aNq aAa (sg [pSl 9] [rSl 58]) Tryz.f62 H [Pt.r,Pt.r,Pt.l,Pt.r,Pt.b] k (aN7 n o r k2 i)).eval=((.ask (decide (i<k2)) (.must (decide ((0:Int)≤i)&&decide (i<(↑r.length:Int))&&decide ((r.getD i.toNat []).length=1)) (.must (decide (0<(r.getD i.toNat []).length)&&C.is K.str ((r.getD i.toNat []).getD 0 (C.fn 0 []))&&true) (.must (decide (n=o.length)&&aBb (o.length+1) 56&&(decide ((Nat.add 3 0).succ=4)&&true)) (H [Pt.r,Pt.r,Pt.l,Pt.r,Pt.b] k (aN7 (o.length+1) (o.append [[C.int .i64 1,C.str ((r.getD i.toNat []).getD 0 (C.fn 0 [])).toStr,C.str [],C.str []]]) (r) (k2) (IntKind.i64.wrap (i+(1:Int)))))))) (.ask (decide ((0:Int)<(↑n:Int))) (.must (decide (n=o.length)&&aBb (o.length+1) 56&&(decide (4=4)&&true)) (.must (decide (o.length+1=(o.append [[C.int .i64 6,C.str [],C.str [],C.str []]]).length)&&(false||(o.append [[C.int .i64 6,C.str [],C.str [],C.str []]]).all fun r=>r.all C.flat)&&true&&true&&true) (.ret [C.sl (o.append [[C.int .i64 6,C.str [],C.str [],C.str []]])]))) (.must (decide (n=o.length)&&(false||o.all fun r=>r.all C.flat)&&true&&true&&true) (.ret [C.sl o])))):T (List C)).eval:=aAc (by kernel_rfl)
theorem bJu (H:List Pt→Nat→St→T (List C)) (n:Nat) (i:Int) (j:Int) (r:List (List C)) (k:Nat):(aB1 bNo aAa (sg [PTy.wr false [(K.slice 9,true)]] []) Tryz.f66 H [Pt.r,Pt.b] k (bNg n i j r)).eval=((.ask (decide (i<j)) (.must (decide ((0:Int)≤j)&&decide (j<(↑n:Int))) (.must (decide (0+j.toNat<r.length)&&(decide (0<(r.getD (0+j.toNat) []).length)&&C.is K.str ((r.getD (0+j.toNat) []).getD 0 (C.fn 0 []))&&true)) (.must (decide ((0:Int)≤i)&&decide (i<(↑n:Int))) (.must (decide (0+i.toNat<r.length)&&(decide (0<(r.getD (0+i.toNat) []).length)&&C.is K.str ((r.getD (0+i.toNat) []).getD 0 (C.fn 0 []))&&true)) (.must (decide ((0:Int)≤i)&&decide (i<(↑n:Int))) (.must (decide (0+i.toNat<r.length)) (.must (decide ((0:Int)≤j)&&decide (j<(↑n:Int))) (.must (decide (0+j.toNat<(r.set (0+i.toNat) (C.str ((r.getD (0+j.toNat) []).getD 0 (C.fn 0 [])).toStr::List.drop (0+1) (r.getD (0+i.toNat) []))).length)) (H [Pt.r,Pt.b] k (bNg (n) (IntKind.i64.wrap (i+(1:Int))) (IntKind.i64.wrap (j-(1:Int))) ((r.set (0+i.toNat) (C.str ((r.getD (0+j.toNat) []).getD 0 (C.fn 0 [])).toStr::List.drop (0+1) (r.getD (0+i.toNat) []))).set (0+j.toNat) (C.str ((r.getD (0+i.toNat) []).getD 0 (C.fn 0 [])).toStr::List.drop (0+1) ((r.set (0+i.toNat) (C.str ((r.getD (0+j.toNat) []).getD 0 (C.fn 0 [])).toStr::List.drop (0+1) (r.getD (0+i.toNat) []))).getD (0+j.toNat) []))))))))))))) (.must (true&&((false||r.all fun r=>r.all C.flat)&&true&&true)) (.ret [C.sl r]))):T (List C)).eval:=aAc (by kernel_rfl)
theorem bD9 (H:List Pt→Nat→St→T (List C)) (v:Int) (ns:List (List C)) (es:List (List C)) (os:List (List C)) (ss:List (List C)) (r:Int) (x:Int) (n:Nat) (o:List (List C)) (m2:Nat) (ls:List (List C)) (k2:Int) (i:Int) (k:Nat):(aB1 aMg aAa (sg [aB2,pI] [rSl 58]) Tryz.f21 H [Pt.r,Pt.r,Pt.r,Pt.l,Pt.r,Pt.b] k (aKd v ns es os ss r x n o m2 ls k2 i)).eval=((.ask (decide (i<k2)) (.must (decide ((0:Int)≤i)&&decide (i<(↑m2:Int))) (.must (decide (0+i.toNat<ls.length)&&(decide (0<(ls.getD (0+i.toNat) []).length)&&C.is (K.int .i64) ((ls.getD (0+i.toNat) []).getD 0 (C.fn 0 []))&&(decide (0+1<(ls.getD (0+i.toNat) []).length)&&C.is K.str ((ls.getD (0+i.toNat) []).getD (0+1) (C.fn 0 []))&&(decide (0+1+1<(ls.getD (0+i.toNat) []).length)&&C.is K.bool ((ls.getD (0+i.toNat) []).getD (0+1+1) (C.fn 0 []))&&(decide (0+1+1+1<(ls.getD (0+i.toNat) []).length)&&C.is (K.int .i64) ((ls.getD (0+i.toNat) []).getD (0+1+1+1) (C.fn 0 []))&&(decide (0+1+1+1+1<(ls.getD (0+i.toNat) []).length)&&C.is (K.int .i64) ((ls.getD (0+i.toNat) []).getD (0+1+1+1+1) (C.fn 0 []))&&(decide (0+1+1+1+1+1<(ls.getD (0+i.toNat) []).length)&&C.is (K.int .i64) ((ls.getD (0+i.toNat) []).getD (0+1+1+1+1+1) (C.fn 0 []))&&(decide (0+1+1+1+1+1+1<(ls.getD (0+i.toNat) []).length)&&C.is (K.int .i64) ((ls.getD (0+i.toNat) []).getD (0+1+1+1+1+1+1) (C.fn 0 []))&&(decide (0+1+1+1+1+1+1+1<(ls.getD (0+i.toNat) []).length)&&C.is (K.slice 9) ((ls.getD (0+i.toNat) []).getD (0+1+1+1+1+1+1+1) (C.fn 0 []))&&(decide (0+1+1+1+1+1+1+1+1<(ls.getD (0+i.toNat) []).length)&&C.is (K.slice 3) ((ls.getD (0+i.toNat) []).getD (0+1+1+1+1+1+1+1+1) (C.fn 0 []))&&(decide (0+1+1+1+1+1+1+1+1+1<(ls.getD (0+i.toNat) []).length)&&C.is (K.int .i64) ((ls.getD (0+i.toNat) []).getD (0+1+1+1+1+1+1+1+1+1) (C.fn 0 []))&&(decide (0+1+1+1+1+1+1+1+1+1+1<(ls.getD (0+i.toNat) []).length)&&C.is K.bool ((ls.getD (0+i.toNat) []).getD (0+1+1+1+1+1+1+1+1+1+1) (C.fn 0 []))&&true)))))))))))) (.must (bEs ns es) (.ask (aZb (nds ns) (ens es) (aAm ((ls.getD (0+i.toNat) []).getD 0 (C.fn 0 [])).toInt)) (.ask (aLq (nds ns) (ens es) (aAm ((ls.getD (0+i.toNat) []).getD 0 (C.fn 0 [])).toInt) != (↑(aEg (nds ns) (ens es) (aAm ((ls.getD (0+i.toNat) []).getD 0 (C.fn 0 [])).toInt)).length:Int)) (.must (decide (n=o.length)&&aBb (o.length+1) 56&&(decide ((Nat.add 3 0).succ=4)&&true)) (H [Pt.r,Pt.r,Pt.r,Pt.l,Pt.r,Pt.b] k (aKd (v) (ns) (es) (os) (ss) (r) (x) (o.length+1) (o.append [[C.int .i64 4,C.str (aAm ((ls.getD (0+i.toNat) []).getD 0 (C.fn 0 [])).toInt),C.str [],C.str []]]) (m2) (ls) (k2) (IntKind.i64.wrap (i+(1:Int)))))) (H [Pt.r,Pt.r,Pt.r,Pt.l,Pt.r,Pt.b] k (aKd (v) (ns) (es) (os) (ss) (r) (x) (n) (o) (m2) (ls) (k2) (IntKind.i64.wrap (i+(1:Int)))))) (.ask (aLq (nds ns) (ens es) (aAm ((ls.getD (0+i.toNat) []).getD 0 (C.fn 0 [])).toInt) != (↑(aEg (nds ns) (ens es) (aAm ((ls.getD (0+i.toNat) []).getD 0 (C.fn 0 [])).toInt)).length:Int)) (.must (decide (n=o.length)&&aBb (o.length+1) 56&&(decide ((Nat.add 3 0).succ=4)&&true)) (H [Pt.r,Pt.r,Pt.r,Pt.l,Pt.r,Pt.b] k (aKd (v) (ns) (es) (os) (ss) (r) (x) (o.length+1) (o.append [[C.int .i64 4,C.str (aAm ((ls.getD (0+i.toNat) []).getD 0 (C.fn 0 [])).toInt),C.str [],C.str []]]) (m2) (ls) (k2) (IntKind.i64.wrap (i+(1:Int)))))) (H [Pt.r,Pt.r,Pt.r,Pt.l,Pt.r,Pt.b] k (aKd (v) (ns) (es) (os) (ss) (r) (x) (n) (o) (m2) (ls) (k2) (IntKind.i64.wrap (i+(1:Int)))))))))) (.ask (decide ((0:Int)<(↑ss.length:Int))) (.must (decide (n=o.length)&&aBb (o.length+1) 56&&(decide (4=4)&&true)) (.must (aI1 ns es&&aR8 es) (H [Pt.r,Pt.r,Pt.r,Pt.r,Pt.r,Pt.r,Pt.l,Pt.r,Pt.b] 9223372036854775808 (aNf (v) (o.length+1) (o.append [[C.int .i64 6,C.str [],C.str [],C.str []]]) (m2) (ls) (0) ([]) (0) ([]) (List.map aB5 (aD7 ns es)) ((↑(List.map aB5 (aD7 ns es)).length:Int)) ((0:Int)))))) (.must (aI1 ns es&&aR8 es) (H [Pt.r,Pt.r,Pt.r,Pt.r,Pt.r,Pt.r,Pt.l,Pt.r,Pt.b] 9223372036854775808 (aNf (v) (n) (o) (m2) (ls) (0) ([]) (0) ([]) (List.map aB5 (aD7 ns es)) ((↑(List.map aB5 (aD7 ns es)).length:Int)) ((0:Int))))))):T (List C)).eval:=aAc (by kernel_rfl)
theorem bD8 (H:List Pt→Nat→St→T (List C)) (v:Int) (n:Nat) (o:List (List C)) (m2:Nat) (ls:List (List C)) (n1:Nat) (t1:List (List C)) (n2:Nat) (t2:List (List C)) (lo:List (List C)) (k2:Int) (i:Int) (k:Nat):(aB1 aMg aAa (sg [aB2,pI] [rSl 58]) Tryz.f21 H [Pt.r,Pt.r,Pt.r,Pt.r,Pt.r,Pt.r,Pt.l,Pt.r,Pt.b] k (aNf v n o m2 ls n1 t1 n2 t2 lo k2 i)).eval=((.ask (decide (i<k2)) (.must (decide ((0:Int)≤i)&&decide (i<(↑lo.length:Int))&&decide ((lo.getD i.toNat []).length=1)) (.must (decide (0<(lo.getD i.toNat []).length)&&C.is K.str ((lo.getD i.toNat []).getD 0 (C.fn 0 []))&&true) (.must (decide (((lo.getD i.toNat []).getD 0 (C.fn 0 [])).toStr.length≤1048576)) (.ask (decide (aBy ((lo.getD i.toNat []).getD 0 (C.fn 0 [])).toStr=(2:Int))) (.must (decide (n1=t1.length)&&aBb (t1.length+1) 16&&(decide (1=1)&&true)) (H [Pt.r,Pt.r,Pt.r,Pt.r,Pt.r,Pt.r,Pt.l,Pt.r,Pt.b] k (aNf (v) (n) (o) (m2) (ls) (t1.length+1) (t1.append [[C.str ((lo.getD i.toNat []).getD 0 (C.fn 0 [])).toStr]]) (n2) (t2) (lo) (k2) (IntKind.i64.wrap (i+(1:Int)))))) (.must (decide (n2=t2.length)&&aBb (t2.length+1) 16&&(decide (1=1)&&true)) (H [Pt.r,Pt.r,Pt.r,Pt.r,Pt.r,Pt.r,Pt.l,Pt.r,Pt.b] k (aNf (v) (n) (o) (m2) (ls) (n1) (t1) (t2.length+1) (t2.append [[C.str ((lo.getD i.toNat []).getD 0 (C.fn 0 [])).toStr]]) (lo) (k2) (IntKind.i64.wrap (i+(1:Int)))))))))) (.must (aAf [K.str] (List.take n1 t1)&&decide ((List.take n1 t1).length≤1048576)) (.must ((true&&(List.map eOp (aAy (aCb (List.take n1 t1)))).all fun row=>decide (row.length=4))&&true&&true&&true) (.must (decide (n=o.length)&&aBb (o.length+(List.take (List.map eOp (aAy (aCb (List.take n1 t1)))).length (List.map eOp (aAy (aCb (List.take n1 t1))))).length) 56&&(List.take (List.map eOp (aAy (aCb (List.take n1 t1)))).length (List.map eOp (aAy (aCb (List.take n1 t1))))).all fun r=>decide (r.length=4)) (.ask (inB v 1 2) (H [Pt.r,Pt.r,Pt.r,Pt.r,Pt.r,Pt.r,Pt.r,Pt.r,Pt.r,Pt.l,Pt.r,Pt.b] 9223372036854775808 (aNe (v) (o.length+(List.take (List.map eOp (aAy (aCb (List.take n1 t1)))).length (List.map eOp (aAy (aCb (List.take n1 t1))))).length) (o.append (List.take (List.map eOp (aAy (aCb (List.take n1 t1)))).length (List.map eOp (aAy (aCb (List.take n1 t1)))))) (n2) (t2) (m2) (ls) ((↑m2:Int)) ((0:Int)))) (H [Pt.r,Pt.r,Pt.r,Pt.r,Pt.r,Pt.r,Pt.r,Pt.r,Pt.r,Pt.l,Pt.r,Pt.b] 9223372036854775808 (aNe ((0:Int)) (o.length+(List.take (List.map eOp (aAy (aCb (List.take n1 t1)))).length (List.map eOp (aAy (aCb (List.take n1 t1))))).length) (o.append (List.take (List.map eOp (aAy (aCb (List.take n1 t1)))).length (List.map eOp (aAy (aCb (List.take n1 t1)))))) (n2) (t2) (m2) (ls) ((↑m2:Int)) ((0:Int))))))))):T (List C)).eval:=aAc (by kernel_rfl)
theorem bD7 (H:List Pt→Nat→St→T (List C)) (v:Int) (n:Nat) (o:List (List C)) (n2:Nat) (t2:List (List C)) (m2:Nat) (ls:List (List C)) (k2:Int) (i:Int) (k:Nat):(aB1 aMg aAa (sg [aB2,pI] [rSl 58]) Tryz.f21 H [Pt.r,Pt.r,Pt.r,Pt.r,Pt.r,Pt.r,Pt.r,Pt.r,Pt.r,Pt.l,Pt.r,Pt.b] k (aNe v n o n2 t2 m2 ls k2 i)).eval=((.ask (decide (i<k2)) (.must (decide ((0:Int)≤i)&&decide (i<(↑m2:Int))) (.must (decide (0+i.toNat<ls.length)&&(decide (0<(ls.getD (0+i.toNat) []).length)&&C.is (K.int .i64) ((ls.getD (0+i.toNat) []).getD 0 (C.fn 0 []))&&(decide (0+1<(ls.getD (0+i.toNat) []).length)&&C.is K.str ((ls.getD (0+i.toNat) []).getD (0+1) (C.fn 0 []))&&(decide (0+1+1<(ls.getD (0+i.toNat) []).length)&&C.is K.bool ((ls.getD (0+i.toNat) []).getD (0+1+1) (C.fn 0 []))&&(decide (0+1+1+1<(ls.getD (0+i.toNat) []).length)&&C.is (K.int .i64) ((ls.getD (0+i.toNat) []).getD (0+1+1+1) (C.fn 0 []))&&(decide (0+1+1+1+1<(ls.getD (0+i.toNat) []).length)&&C.is (K.int .i64) ((ls.getD (0+i.toNat) []).getD (0+1+1+1+1) (C.fn 0 []))&&(decide (0+1+1+1+1+1<(ls.getD (0+i.toNat) []).length)&&C.is (K.int .i64) ((ls.getD (0+i.toNat) []).getD (0+1+1+1+1+1) (C.fn 0 []))&&(decide (0+1+1+1+1+1+1<(ls.getD (0+i.toNat) []).length)&&C.is (K.int .i64) ((ls.getD (0+i.toNat) []).getD (0+1+1+1+1+1+1) (C.fn 0 []))&&(decide (0+1+1+1+1+1+1+1<(ls.getD (0+i.toNat) []).length)&&C.is (K.slice 9) ((ls.getD (0+i.toNat) []).getD (0+1+1+1+1+1+1+1) (C.fn 0 []))&&(decide (0+1+1+1+1+1+1+1+1<(ls.getD (0+i.toNat) []).length)&&C.is (K.slice 3) ((ls.getD (0+i.toNat) []).getD (0+1+1+1+1+1+1+1+1) (C.fn 0 []))&&(decide (0+1+1+1+1+1+1+1+1+1<(ls.getD (0+i.toNat) []).length)&&C.is (K.int .i64) ((ls.getD (0+i.toNat) []).getD (0+1+1+1+1+1+1+1+1+1) (C.fn 0 []))&&(decide (0+1+1+1+1+1+1+1+1+1+1<(ls.getD (0+i.toNat) []).length)&&C.is K.bool ((ls.getD (0+i.toNat) []).getD (0+1+1+1+1+1+1+1+1+1+1) (C.fn 0 []))&&true)))))))))))) (.must (decide (((ls.getD (0+i.toNat) []).getD (0+1) (C.fn 0 [])).toStr.length≤1048576)) (.ask (!aDh ((ls.getD (0+i.toNat) []).getD (0+1) (C.fn 0 [])).toStr v==((ls.getD (0+i.toNat) []).getD (0+1) (C.fn 0 [])).toStr) (.must (decide (n=o.length)&&aBb (o.length+(((Nat.add 2 0).succ.add 0).succ.add 0).succ) 56&&(decide (3+1=4)&&(decide (((Nat.add 1 0).succ.add 0).succ+1=4)&&(decide (3+1=4)&&(decide ((Nat.add 2 0).succ+1=4)&&(decide (3+1=4)&&true)))))) (H [Pt.r,Pt.r,Pt.r,Pt.r,Pt.r,Pt.r,Pt.r,Pt.r,Pt.r,Pt.l,Pt.r,Pt.b] k (aNe (v) (o.length+(((Nat.add 2 0).succ.add 0).succ.add 0).succ) (o.append [eOp {kind:=(2:Int),name:=aB0 ((ls.getD (0+i.toNat) []).getD 0 (C.fn 0 [])).toInt,to:=[],text:=[]},eOp {kind:=(3:Int),name:=aB0 ((ls.getD (0+i.toNat) []).getD 0 (C.fn 0 [])).toInt,to:=[],text:=aDh ((ls.getD (0+i.toNat) []).getD (0+1) (C.fn 0 [])).toStr v},eOp {kind:=(4:Int),name:=aB0 ((ls.getD (0+i.toNat) []).getD 0 (C.fn 0 [])).toInt,to:=[],text:=[]},eOp {kind:=(5:Int),name:=aB0 ((ls.getD (0+i.toNat) []).getD 0 (C.fn 0 [])).toInt,to:=aAm ((ls.getD (0+i.toNat) []).getD 0 (C.fn 0 [])).toInt,text:=[]},eOp {kind:=(6:Int),name:=[],to:=[],text:=[]}]) (n2) (t2) (m2) (ls) (k2) (IntKind.i64.wrap (i+(1:Int)))))) (H [Pt.r,Pt.r,Pt.r,Pt.r,Pt.r,Pt.r,Pt.r,Pt.r,Pt.r,Pt.l,Pt.r,Pt.b] k (aNe (v) (n) (o) (n2) (t2) (m2) (ls) (k2) (IntKind.i64.wrap (i+(1:Int))))))))) (.must (true&&true&&(decide (n2=t2.length)&&true&&true)) (.must (aAf [K.str] t2&&decide (t2.length≤1048576)) (.must (true&&((decide ((List.map aB5 (aL2 (aCb t2))).length=t2.length)&&(List.map aB5 (aL2 (aCb t2))).all fun r=>decide (r.length=1))&&true&&true)) (.must (aAf [K.str] (List.take n2 (List.map aB5 (aL2 (aCb t2))))&&decide ((List.take n2 (List.map aB5 (aL2 (aCb t2)))).length≤1048576)) (.must ((true&&(List.map eOp (aAy (aCb (List.take n2 (List.map aB5 (aL2 (aCb t2))))))).all fun row=>decide (row.length=4))&&true&&true&&true) (.must (decide (n=o.length)&&aBb (o.length+(List.take (List.map eOp (aAy (aCb (List.take n2 (List.map aB5 (aL2 (aCb t2))))))).length (List.map eOp (aAy (aCb (List.take n2 (List.map aB5 (aL2 (aCb t2)))))))).length) 56&&(List.take (List.map eOp (aAy (aCb (List.take n2 (List.map aB5 (aL2 (aCb t2))))))).length (List.map eOp (aAy (aCb (List.take n2 (List.map aB5 (aL2 (aCb t2)))))))).all fun r=>decide (r.length=4)) (.must (decide (o.length+(List.take (List.map eOp (aAy (aCb (List.take n2 (List.map aB5 (aL2 (aCb t2))))))).length (List.map eOp (aAy (aCb (List.take n2 (List.map aB5 (aL2 (aCb t2)))))))).length=(o.append (List.take (List.map eOp (aAy (aCb (List.take n2 (List.map aB5 (aL2 (aCb t2))))))).length (List.map eOp (aAy (aCb (List.take n2 (List.map aB5 (aL2 (aCb t2))))))))).length)&&(false||(o.append (List.take (List.map eOp (aAy (aCb (List.take n2 (List.map aB5 (aL2 (aCb t2))))))).length (List.map eOp (aAy (aCb (List.take n2 (List.map aB5 (aL2 (aCb t2))))))))).all fun r=>r.all C.flat)&&true&&true&&true) (.ret [C.sl (o.append (List.take (List.map eOp (aAy (aCb (List.take n2 (List.map aB5 (aL2 (aCb t2))))))).length (List.map eOp (aAy (aCb (List.take n2 (List.map aB5 (aL2 (aCb t2)))))))))]))))))))):T (List C)).eval:=aAc (by kernel_rfl)
theorem bQ2 (H:List Pt→Nat→St→T (List C)) (ns:List (List C)) (es:List (List C)) (os:List (List C)) (ss:List (List C)) (r:Int) (x:Int) (v:Int):(aAg aMg aAa (sg [aB2,pI] [rSl 58]) Tryz.f21 H [C.sl ns,C.sl es,C.sl os,C.sl ss,C.int .i64 r,C.int .i64 x,C.int .i64 v]).eval=((.must (aI1 ns es) (.must ((true&&(aEi (aCe (nds ns) (ens es))).all fun row=>decide (row.length=11))&&true&&true&&true) (H [Pt.r,Pt.r,Pt.r,Pt.l,Pt.r,Pt.b] 9223372036854775808 (aKd (v) (ns) (es) (os) (ss) (r) (x) (0) ([]) ((aEi (aCe (nds ns) (ens es))).length) (aEi (aCe (nds ns) (ens es))) ((↑(aEi (aCe (nds ns) (ens es))).length:Int)) ((0:Int)))))):T (List C)).eval:=aAc (by kernel_rfl)
theorem bBp (H:List Pt→Nat→St→T (List C)) (v:Int) (ns:List (List C)) (es:List (List C)) (os:List (List C)) (ss:List (List C)) (r:Int) (x:Int) (n:Nat) (o:List (List C)) (m2:Nat) (bs:List (List C)) (i:Int) (k:Nat):(aB1 aFk aAa (sg [aB2,pI] [rSl 58]) Tryz.f20 H [Pt.r,Pt.r,Pt.r,Pt.l,Pt.r,Pt.b] k (aKb v ns es os ss r x n o m2 bs i)).eval=((.ask (decide (i<(↑m2:Int))) (.must (decide ((0:Int)≤i)&&decide (i<(↑m2:Int))) (.must (decide (0+i.toNat<bs.length)&&(decide (0<(bs.getD (0+i.toNat) []).length)&&C.is (K.int .i64) ((bs.getD (0+i.toNat) []).getD 0 (C.fn 0 []))&&true)) (.must (bEs ns es) (.ask (aZb (nds ns) (ens es) (aAm ((bs.getD (0+i.toNat) []).getD 0 (C.fn 0 [])).toInt)) (.ask (aLq (nds ns) (ens es) (aAm ((bs.getD (0+i.toNat) []).getD 0 (C.fn 0 [])).toInt) != (↑(aEg (nds ns) (ens es) (aAm ((bs.getD (0+i.toNat) []).getD 0 (C.fn 0 [])).toInt)).length:Int)) (.must (decide (n=o.length)&&aBb (o.length+1) 56&&(decide ((Nat.add 3 0).succ=4)&&true)) (H [Pt.r,Pt.r,Pt.r,Pt.l,Pt.r,Pt.b] k (aKb (v) (ns) (es) (os) (ss) (r) (x) (o.length+1) (o.append [[C.int .i64 4,C.str (aAm ((bs.getD (0+i.toNat) []).getD 0 (C.fn 0 [])).toInt),C.str [],C.str []]]) (m2) (bs) (IntKind.i64.wrap (i+(1:Int)))))) (H [Pt.r,Pt.r,Pt.r,Pt.l,Pt.r,Pt.b] k (aKb (v) (ns) (es) (os) (ss) (r) (x) (n) (o) (m2) (bs) (IntKind.i64.wrap (i+(1:Int)))))) (.ask (aLq (nds ns) (ens es) (aAm ((bs.getD (0+i.toNat) []).getD 0 (C.fn 0 [])).toInt) != (↑(aEg (nds ns) (ens es) (aAm ((bs.getD (0+i.toNat) []).getD 0 (C.fn 0 [])).toInt)).length:Int)) (.must (decide (n=o.length)&&aBb (o.length+1) 56&&(decide ((Nat.add 3 0).succ=4)&&true)) (H [Pt.r,Pt.r,Pt.r,Pt.l,Pt.r,Pt.b] k (aKb (v) (ns) (es) (os) (ss) (r) (x) (o.length+1) (o.append [[C.int .i64 4,C.str (aAm ((bs.getD (0+i.toNat) []).getD 0 (C.fn 0 [])).toInt),C.str [],C.str []]]) (m2) (bs) (IntKind.i64.wrap (i+(1:Int)))))) (H [Pt.r,Pt.r,Pt.r,Pt.l,Pt.r,Pt.b] k (aKb (v) (ns) (es) (os) (ss) (r) (x) (n) (o) (m2) (bs) (IntKind.i64.wrap (i+(1:Int)))))))))) (.ask (decide ((0:Int)<(↑ss.length:Int))) (.must (decide (n=o.length)&&aBb (o.length+1) 56&&(decide (4=4)&&true)) (.must (aI1 ns es&&aR8 es) (.must ((true&&(List.map aB5 (aD7 ns es)).all fun row=>decide (row.length=1))&&true&&true&&true) (H [Pt.r,Pt.r,Pt.r,Pt.r,Pt.r,Pt.r,Pt.r,Pt.l,Pt.r,Pt.b] 9223372036854775808 (aQy (v) (ns) (es) (os) (ss) (r) (x) (o.length+1) (o.append [[C.int .i64 6,C.str [],C.str [],C.str []]]) (m2) (bs) ((List.map aB5 (aD7 ns es)).length) (List.map aB5 (aD7 ns es)) ((0:Int))))))) (.must (aI1 ns es&&aR8 es) (.must ((true&&(List.map aB5 (aD7 ns es)).all fun row=>decide (row.length=1))&&true&&true&&true) (H [Pt.r,Pt.r,Pt.r,Pt.r,Pt.r,Pt.r,Pt.r,Pt.l,Pt.r,Pt.b] 9223372036854775808 (aQy (v) (ns) (es) (os) (ss) (r) (x) (n) (o) (m2) (bs) ((List.map aB5 (aD7 ns es)).length) (List.map aB5 (aD7 ns es)) ((0:Int)))))))):T (List C)).eval:=aAc (by kernel_rfl)
theorem bBo (H:List Pt→Nat→St→T (List C)) (v:Int) (ns:List (List C)) (es:List (List C)) (os:List (List C)) (ss:List (List C)) (r:Int) (x:Int) (n:Nat) (o:List (List C)) (m2:Nat) (bs:List (List C)) (q:Nat) (lo:List (List C)) (i:Int) (k:Nat):(aB1 aFk aAa (sg [aB2,pI] [rSl 58]) Tryz.f20 H [Pt.r,Pt.r,Pt.r,Pt.r,Pt.r,Pt.r,Pt.r,Pt.l,Pt.r,Pt.b] k (aQy v ns es os ss r x n o m2 bs q lo i)).eval=((.ask (decide (i<(↑q:Int))) (.must (decide ((0:Int)≤i)&&decide (i<(↑q:Int))) (.must (decide (0+i.toNat<lo.length)&&(decide (0<(lo.getD (0+i.toNat) []).length)&&C.is K.str ((lo.getD (0+i.toNat) []).getD 0 (C.fn 0 []))&&true)) (.must (decide (((lo.getD (0+i.toNat) []).getD 0 (C.fn 0 [])).toStr.length≤1048576)) (.ask (decide (aBy ((lo.getD (0+i.toNat) []).getD 0 (C.fn 0 [])).toStr=(2:Int))) (.must (decide ((0:Int)≤i)&&decide (i<(↑q:Int))) (.must (decide (0+i.toNat<lo.length)&&(decide (0<(lo.getD (0+i.toNat) []).length)&&C.is K.str ((lo.getD (0+i.toNat) []).getD 0 (C.fn 0 []))&&true)) (.must (decide (n=o.length)&&aBb (o.length+1) 56&&(decide ((Nat.add 3 0).succ=4)&&true)) (H [Pt.r,Pt.r,Pt.r,Pt.r,Pt.r,Pt.r,Pt.r,Pt.l,Pt.r,Pt.b] k (aQx (v) (ns) (es) (os) (ss) (r) (x) (o.length+1) (o.append [[C.int .i64 1,C.str ((lo.getD (0+i.toNat) []).getD 0 (C.fn 0 [])).toStr,C.str [],C.str []]]) (m2) (bs) (q) (lo) (IntKind.i64.wrap (i+(1:Int)))))))) (H [Pt.r,Pt.r,Pt.r,Pt.r,Pt.r,Pt.r,Pt.r,Pt.l,Pt.r,Pt.b] k (aQy (v) (ns) (es) (os) (ss) (r) (x) (n) (o) (m2) (bs) (q) (lo) (IntKind.i64.wrap (i+(1:Int))))))))) (.ask (inB v 1 2) (H [Pt.r,Pt.r,Pt.r,Pt.r,Pt.r,Pt.r,Pt.r,Pt.r,Pt.r,Pt.r,Pt.l,Pt.r,Pt.b] 9223372036854775808 (aI4 (v) (ns) (es) (os) (ss) (r) (x) (n) (o) (m2) (bs) (q) (lo) ((0:Int)))) (H [Pt.r,Pt.r,Pt.r,Pt.r,Pt.r,Pt.r,Pt.r,Pt.r,Pt.r,Pt.r,Pt.l,Pt.r,Pt.b] 9223372036854775808 (aI4 ((0:Int)) (ns) (es) (os) (ss) (r) (x) (n) (o) (m2) (bs) (q) (lo) ((0:Int)))))):T (List C)).eval:=aAc (by kernel_rfl)
theorem bBn (H:List Pt→Nat→St→T (List C)) (v:Int) (ns:List (List C)) (es:List (List C)) (os:List (List C)) (ss:List (List C)) (r:Int) (x:Int) (n:Nat) (o:List (List C)) (m2:Nat) (bs:List (List C)) (q:Nat) (lo:List (List C)) (i:Int) (k:Nat):(aB1 aFk aAa (sg [aB2,pI] [rSl 58]) Tryz.f20 H [Pt.r,Pt.r,Pt.r,Pt.r,Pt.r,Pt.r,Pt.r,Pt.l,Pt.r,Pt.b] k (aQx v ns es os ss r x n o m2 bs q lo i)).eval=((.ask (decide (i<(↑q:Int))) (.must (decide ((0:Int)≤i)&&decide (i<(↑q:Int))) (.must (decide (0+i.toNat<lo.length)&&(decide (0<(lo.getD (0+i.toNat) []).length)&&C.is K.str ((lo.getD (0+i.toNat) []).getD 0 (C.fn 0 []))&&true)) (.must (decide (((lo.getD (0+i.toNat) []).getD 0 (C.fn 0 [])).toStr.length≤1048576)) (.ask (decide (aBy ((lo.getD (0+i.toNat) []).getD 0 (C.fn 0 [])).toStr=(2:Int))) (.must (decide ((0:Int)≤i)&&decide (i<(↑q:Int))) (.must (decide (0+i.toNat<lo.length)&&(decide (0<(lo.getD (0+i.toNat) []).length)&&C.is K.str ((lo.getD (0+i.toNat) []).getD 0 (C.fn 0 []))&&true)) (.must (decide (n=o.length)&&aBb (o.length+1) 56&&(decide ((Nat.add 3 0).succ=4)&&true)) (H [Pt.r,Pt.r,Pt.r,Pt.r,Pt.r,Pt.r,Pt.r,Pt.l,Pt.r,Pt.b] k (aQx (v) (ns) (es) (os) (ss) (r) (x) (o.length+1) (o.append [[C.int .i64 1,C.str ((lo.getD (0+i.toNat) []).getD 0 (C.fn 0 [])).toStr,C.str [],C.str []]]) (m2) (bs) (q) (lo) (IntKind.i64.wrap (i+(1:Int)))))))) (H [Pt.r,Pt.r,Pt.r,Pt.r,Pt.r,Pt.r,Pt.r,Pt.l,Pt.r,Pt.b] k (aQx (v) (ns) (es) (os) (ss) (r) (x) (n) (o) (m2) (bs) (q) (lo) (IntKind.i64.wrap (i+(1:Int))))))))) (.must (decide (n=o.length)&&aBb (o.length+1) 56&&(decide (4=4)&&true)) (.ask (inB v 1 2) (H [Pt.r,Pt.r,Pt.r,Pt.r,Pt.r,Pt.r,Pt.r,Pt.r,Pt.r,Pt.r,Pt.l,Pt.r,Pt.b] 9223372036854775808 (aI4 (v) (ns) (es) (os) (ss) (r) (x) (o.length+1) (o.append [[C.int .i64 6,C.str [],C.str [],C.str []]]) (m2) (bs) (q) (lo) ((0:Int)))) (H [Pt.r,Pt.r,Pt.r,Pt.r,Pt.r,Pt.r,Pt.r,Pt.r,Pt.r,Pt.r,Pt.l,Pt.r,Pt.b] 9223372036854775808 (aI4 ((0:Int)) (ns) (es) (os) (ss) (r) (x) (o.length+1) (o.append [[C.int .i64 6,C.str [],C.str [],C.str []]]) (m2) (bs) (q) (lo) ((0:Int))))))):T (List C)).eval:=aAc (by kernel_rfl)
theorem bBm (H:List Pt→Nat→St→T (List C)) (v:Int) (ns:List (List C)) (es:List (List C)) (os:List (List C)) (ss:List (List C)) (r:Int) (x:Int) (n:Nat) (o:List (List C)) (m2:Nat) (bs:List (List C)) (q:Nat) (lo:List (List C)) (i:Int) (k:Nat):(aB1 aFk aAa (sg [aB2,pI] [rSl 58]) Tryz.f20 H [Pt.r,Pt.r,Pt.r,Pt.r,Pt.r,Pt.r,Pt.r,Pt.r,Pt.r,Pt.r,Pt.l,Pt.r,Pt.b] k (aI4 v ns es os ss r x n o m2 bs q lo i)).eval=((.ask (decide (i<(↑m2:Int))) (.must (decide ((0:Int)≤i)&&decide (i<(↑m2:Int))) (.must (decide (0+i.toNat<bs.length)&&(decide (0<(bs.getD (0+i.toNat) []).length)&&C.is (K.int .i64) ((bs.getD (0+i.toNat) []).getD 0 (C.fn 0 []))&&true)) (.must (bEs ns es) (.must (decide ((aB8 (nds ns) (ens es) ((bs.getD (0+i.toNat) []).getD 0 (C.fn 0 [])).toInt).length≤1048576)) (.ask (!aDh (aB8 (nds ns) (ens es) ((bs.getD (0+i.toNat) []).getD 0 (C.fn 0 [])).toInt) v==aB8 (nds ns) (ens es) ((bs.getD (0+i.toNat) []).getD 0 (C.fn 0 [])).toInt) (.must (decide ((0:Int)≤i)&&decide (i<(↑m2:Int))) (.must (decide (0+i.toNat<bs.length)&&(decide (0<(bs.getD (0+i.toNat) []).length)&&C.is (K.int .i64) ((bs.getD (0+i.toNat) []).getD 0 (C.fn 0 []))&&true)) (.must (decide (n=o.length)&&aBb (o.length+(((Nat.add 2 0).succ.add 0).succ.add 0).succ) 56&&(decide (3+1=4)&&(decide (((Nat.add 1 0).succ.add 0).succ+1=4)&&(decide (3+1=4)&&(decide ((Nat.add 2 0).succ+1=4)&&(decide (3+1=4)&&true)))))) (H [Pt.r,Pt.r,Pt.r,Pt.r,Pt.r,Pt.r,Pt.r,Pt.r,Pt.r,Pt.r,Pt.l,Pt.r,Pt.b] k (aI4 (v) (ns) (es) (os) (ss) (r) (x) (o.length+(((Nat.add 2 0).succ.add 0).succ.add 0).succ) (o.append [eOp {kind:=(2:Int),name:=aB0 ((bs.getD (0+i.toNat) []).getD 0 (C.fn 0 [])).toInt,to:=[],text:=[]},eOp {kind:=(3:Int),name:=aB0 ((bs.getD (0+i.toNat) []).getD 0 (C.fn 0 [])).toInt,to:=[],text:=aDh (aB8 (nds ns) (ens es) ((bs.getD (0+i.toNat) []).getD 0 (C.fn 0 [])).toInt) v},eOp {kind:=(4:Int),name:=aB0 ((bs.getD (0+i.toNat) []).getD 0 (C.fn 0 [])).toInt,to:=[],text:=[]},eOp {kind:=(5:Int),name:=aB0 ((bs.getD (0+i.toNat) []).getD 0 (C.fn 0 [])).toInt,to:=aAm ((bs.getD (0+i.toNat) []).getD 0 (C.fn 0 [])).toInt,text:=[]},eOp {kind:=(6:Int),name:=[],to:=[],text:=[]}]) (m2) (bs) (q) (lo) (IntKind.i64.wrap (i+(1:Int)))))))) (H [Pt.r,Pt.r,Pt.r,Pt.r,Pt.r,Pt.r,Pt.r,Pt.r,Pt.r,Pt.r,Pt.l,Pt.r,Pt.b] k (aI4 (v) (ns) (es) (os) (ss) (r) (x) (n) (o) (m2) (bs) (q) (lo) (IntKind.i64.wrap (i+(1:Int)))))))))) (H [Pt.r,Pt.r,Pt.r,Pt.r,Pt.r,Pt.r,Pt.r,Pt.r,Pt.r,Pt.r,Pt.r,Pt.r,Pt.l,Pt.r,Pt.b] 9223372036854775808 (aTz (n) (o) (q) (lo) (IntKind.i64.wrap ((↑q:Int)-(1:Int)))))):T (List C)).eval:=aAc (by kernel_rfl)
theorem aPw (H:List Pt→Nat→St→T (List C)) (n:Nat) (o:List (List C)) (q:Nat) (lo:List (List C)) (i:Int) (k:Nat):(aB1 aFk aAa (sg [aB2,pI] [rSl 58]) Tryz.f20 H [Pt.r,Pt.r,Pt.r,Pt.r,Pt.r,Pt.r,Pt.r,Pt.r,Pt.r,Pt.r,Pt.r,Pt.r,Pt.l,Pt.r,Pt.b] k (aTz n o q lo i)).eval=((.ask (decide ((0:Int)≤i)) (.must (decide ((0:Int)≤i)&&decide (i<(↑q:Int))) (.must (decide (0+i.toNat<lo.length)&&(decide (0<(lo.getD (0+i.toNat) []).length)&&C.is K.str ((lo.getD (0+i.toNat) []).getD 0 (C.fn 0 []))&&true)) (.must (decide (((lo.getD (0+i.toNat) []).getD 0 (C.fn 0 [])).toStr.length≤1048576)) (.ask (decide (aBy ((lo.getD (0+i.toNat) []).getD 0 (C.fn 0 [])).toStr=(1:Int))) (.must (decide ((0:Int)≤i)&&decide (i<(↑q:Int))) (.must (decide (0+i.toNat<lo.length)&&(decide (0<(lo.getD (0+i.toNat) []).length)&&C.is K.str ((lo.getD (0+i.toNat) []).getD 0 (C.fn 0 []))&&true)) (.must (decide (n=o.length)&&aBb (o.length+1) 56&&(decide ((Nat.add 3 0).succ=4)&&true)) (H [Pt.r,Pt.r,Pt.r,Pt.r,Pt.r,Pt.r,Pt.r,Pt.r,Pt.r,Pt.r,Pt.r,Pt.r,Pt.l,Pt.r,Pt.b] k (aQw (o.length+1) (o.append [[C.int .i64 1,C.str ((lo.getD (0+i.toNat) []).getD 0 (C.fn 0 [])).toStr,C.str [],C.str []]]) (q) (lo) (IntKind.i64.wrap (i-(1:Int)))))))) (H [Pt.r,Pt.r,Pt.r,Pt.r,Pt.r,Pt.r,Pt.r,Pt.r,Pt.r,Pt.r,Pt.r,Pt.r,Pt.l,Pt.r,Pt.b] k (aTz (n) (o) (q) (lo) (IntKind.i64.wrap (i-(1:Int))))))))) (.must (decide (n=o.length)&&(false||o.all fun r=>r.all C.flat)&&true&&true&&true) (.ret [C.sl o]))):T (List C)).eval:=aAc (by kernel_rfl)
theorem aPv (H:List Pt→Nat→St→T (List C)) (n:Nat) (o:List (List C)) (q:Nat) (lo:List (List C)) (i:Int) (k:Nat):(aB1 aFk aAa (sg [aB2,pI] [rSl 58]) Tryz.f20 H [Pt.r,Pt.r,Pt.r,Pt.r,Pt.r,Pt.r,Pt.r,Pt.r,Pt.r,Pt.r,Pt.r,Pt.r,Pt.l,Pt.r,Pt.b] k (aQw n o q lo i)).eval=((.ask (decide ((0:Int)≤i)) (.must (decide ((0:Int)≤i)&&decide (i<(↑q:Int))) (.must (decide (0+i.toNat<lo.length)&&(decide (0<(lo.getD (0+i.toNat) []).length)&&C.is K.str ((lo.getD (0+i.toNat) []).getD 0 (C.fn 0 []))&&true)) (.must (decide (((lo.getD (0+i.toNat) []).getD 0 (C.fn 0 [])).toStr.length≤1048576)) (.ask (decide (aBy ((lo.getD (0+i.toNat) []).getD 0 (C.fn 0 [])).toStr=(1:Int))) (.must (decide ((0:Int)≤i)&&decide (i<(↑q:Int))) (.must (decide (0+i.toNat<lo.length)&&(decide (0<(lo.getD (0+i.toNat) []).length)&&C.is K.str ((lo.getD (0+i.toNat) []).getD 0 (C.fn 0 []))&&true)) (.must (decide (n=o.length)&&aBb (o.length+1) 56&&(decide ((Nat.add 3 0).succ=4)&&true)) (H [Pt.r,Pt.r,Pt.r,Pt.r,Pt.r,Pt.r,Pt.r,Pt.r,Pt.r,Pt.r,Pt.r,Pt.r,Pt.l,Pt.r,Pt.b] k (aQw (o.length+1) (o.append [[C.int .i64 1,C.str ((lo.getD (0+i.toNat) []).getD 0 (C.fn 0 [])).toStr,C.str [],C.str []]]) (q) (lo) (IntKind.i64.wrap (i-(1:Int)))))))) (H [Pt.r,Pt.r,Pt.r,Pt.r,Pt.r,Pt.r,Pt.r,Pt.r,Pt.r,Pt.r,Pt.r,Pt.r,Pt.l,Pt.r,Pt.b] k (aQw (n) (o) (q) (lo) (IntKind.i64.wrap (i-(1:Int))))))))) (.must (decide (n=o.length)&&aBb (o.length+1) 56&&(decide (4=4)&&true)) (.must (decide (o.length+1=(o.append [[C.int .i64 6,C.str [],C.str [],C.str []]]).length)&&(false||(o.append [[C.int .i64 6,C.str [],C.str [],C.str []]]).all fun r=>r.all C.flat)&&true&&true&&true) (.ret [C.sl (o.append [[C.int .i64 6,C.str [],C.str [],C.str []]])])))):T (List C)).eval:=aAc (by kernel_rfl)
theorem bOs (H:List Pt→Nat→St→T (List C)) (ns:List (List C)) (es:List (List C)) (os:List (List C)) (ss:List (List C)) (r:Int) (x:Int) (v:Int):(aAg aFk aAa (sg [aB2,pI] [rSl 58]) Tryz.f20 H [C.sl ns,C.sl es,C.sl os,C.sl ss,C.int .i64 r,C.int .i64 x,C.int .i64 v]).eval=((.must (aI1 ns es) (.must ((true&&(aBd (aCe (nds ns) (ens es))).all fun row=>decide (row.length=1))&&true&&true&&true) (H [Pt.r,Pt.r,Pt.r,Pt.l,Pt.r,Pt.b] 9223372036854775808 (aKb (v) (ns) (es) (os) (ss) (r) (x) (0) ([]) ((aBd (aCe (nds ns) (ens es))).length) (aBd (aCe (nds ns) (ens es))) ((0:Int)))))):T (List C)).eval:=aAc (by kernel_rfl)
theorem aTu (x:Int):ifI true x=x:=rfl
theorem bRo:aA6 Tryz.prog bI5:=aA5 (by simp[aD9,aH9,bJ4])
theorem bBh:aAn Tryz.prog 55 (sg [pS,pI] [rS]) aH0:=aA4 bRo aA7 Tryz.func55 (by kernel_rfl) fun cs outs hk h=>by
 unfold aH0 at h
 split at h
 ·simp only[Option.some.injEq,Prod.mk.injEq,decide_eq_true_eq]at h
  obtain⟨h1,rfl⟩:=h
  rename_i b v
  obtain⟨f1,f2,f3⟩:=aIp b
  have hl:(aAp b).length≤1048576:=by omega
  have tk:List.take (aAp b).length ((aAp b).map aB5)=(aAp b).map aB5:=by rw[List.take_of_length_le];simp
  rw[aA9,bFc]
  unfold aDh
  by_cases hr:aA8 b=true
  ·by_cases hv:inB v 0 2=true
   ·have hv':=hv
    simp only[inB,Bool.and_eq_true,decide_eq_true_eq]at hv'
    by_cases h0:v=0
    ·subst h0
     simp only[aA0,aA1,aA2,h1,hr,hv,hl,tk,aJo,aKp,List.take_length,List.length_map,aEr,aG3,aTu,Nat.zero_lt_one,decide_true,Bool.and_self,if_true,Int.lt_irrefl,decide_false,Bool.false_eq_true,if_false]
    ·have h2:(0:Int)<v:=by omega
     simp only[aA0,aA1,aA2,h1,hr,hv,hl,tk,aJo,aKp,List.take_length,List.length_map,aEr,aG3,aTu,Nat.zero_lt_one,decide_true,Bool.and_self,if_true,h2,h0,if_false]
   ·simp only[aA0,aA1,aA2,h1,hr,hv,hl,aJo,aKp,Nat.zero_lt_one,decide_true,Bool.and_self,if_true,Bool.and_false,Bool.false_eq_true,if_false]
  ·simp only[aA0,aA1,aA2,h1,hr,hl,aJo,aKp,Nat.zero_lt_one,decide_true,Bool.and_self,if_true,Bool.false_and,Bool.false_eq_true,if_false]
 ·cases h
theorem bT9:aA6 Tryz.prog bIe:=aA5 (by simp[aDm,aLz,bL3])
theorem bD2:aAn Tryz.prog 64 (sg [pS,pI] [rS]) aH0:=aA4 bT9 aA7 Tryz.func64 (by kernel_rfl) fun cs outs hk h=>by
 unfold aH0 at h
 split at h
 ·simp only[Option.some.injEq,Prod.mk.injEq,decide_eq_true_eq]at h
  obtain⟨h1,rfl⟩:=h
  rename_i b v
  obtain⟨f1,f2,f3⟩:=aIp b
  have hl:(aAp b).length≤1048576:=by omega
  have tk:List.take (aAp b).length ((aAp b).map aB5)=(aAp b).map aB5:=by rw[List.take_of_length_le];simp
  have ro:aIt ((aAp b).map aB5)=true:=by
   unfold aIt
   simp only[aEr,aG3,List.length_map,hl,decide_true,Bool.true_and,List.all_eq_true,decide_eq_true_eq]
   intro r hr
   have:=f3 r hr
   omega
  rw[aA9,bGw]
  unfold aDh
  have e12:inB v 0 2=(decide (v=0)||inB v 1 2):=by
   simp only[inB]
   rw[Bool.eq_iff_iff]
   simp only[Bool.or_eq_true,Bool.and_eq_true,decide_eq_true_eq]
   omega
  rw[e12]
  by_cases hr:aA8 b=true
  ·by_cases h0:v=0
   ·subst h0
    simp only[aA0,aA1,aA2,h1,hr,hl,tk,ro,aJo,aKp,List.take_length,List.length_map,aG3,aTu,Nat.zero_lt_one,decide_true,Bool.and_self,Bool.true_or,if_true,bne_self_eq_false,Bool.false_eq_true,if_false]
   ·have hb:(v != 0)=true:=by simpa using h0
    by_cases hv:inB v 1 2=true
    ·simp only[aA0,aA1,aA2,h1,hr,hv,hb,h0,hl,tk,ro,aJo,aKp,List.take_length,List.length_map,aG3,aTu,Nat.zero_lt_one,decide_true,decide_false,Bool.and_self,Bool.or_true,if_true,if_false]
    ·simp only[aA0,aA1,aA2,h1,hr,hv,hb,h0,hl,aJo,aKp,Nat.zero_lt_one,decide_true,decide_false,Bool.and_self,Bool.or_self,Bool.false_or,Bool.and_false,Bool.false_eq_true,if_true,if_false]
  ·simp only[aA0,aA1,aA2,h1,hr,hl,aJo,aKp,Nat.zero_lt_one,decide_true,Bool.and_self,if_true,Bool.false_and,Bool.false_eq_true,if_false]
 ·cases h
theorem aJp (l:List (List UInt8)):(aAy l).length≤l.length+1:=by
 unfold aAy
 split<;>simp
theorem aSj (v:Int) (x:Lk) (c:List Lk):aEa v (x::c)=(if aDh x.2 v≠x.2 then aEk x.1 (aDh x.2 v)else[])++aEa v c:=by simp[aEa]
theorem aZr (ns es:List (List C)) (x:Lk) (c:List Lk):aPr ns es (x::c)=(if aLq (nds ns) (ens es) (aAm x.1)≠((aEg (nds ns) (ens es) (aAm x.1)).length:Nat)then[cA0 (aAm x.1)]else[])++aPr ns es c:=by simp[aPr]
theorem bC1 (l:List (List UInt8)):(aL2 l).length=l.length:=by simp[aL2]
theorem aP4 (ns:List (List C)) {es:List (List C)} (he:aR8 es=true):(aD7 ns es).length≤1048576∧(∀ s∈aD7 ns es,s.length≤1048576)∧∀ s∈aD7 ns es,aBy s=1∨aBy s=2:=by
 obtain⟨h1,h2,h3⟩:=(aTw _).1 he
 have hle:(aD7 ns es).length≤(aC9 (ens es)).length:=List.length_filter_le _ _
 have hl:(aC9 (ens es)).length=es.length:=by unfold aC9;rw[List.length_map,aX4]
 refine⟨by omega,fun s hs=>?_,fun s hs=>?_⟩
 ·obtain⟨hm,_⟩:=List.mem_filter.1 hs
  obtain⟨e,he1,rfl⟩:=List.mem_map.1 hm
  exact h3 e he1
 ·obtain⟨_,hk⟩:=List.mem_filter.1 hs
  unfold aRw at hk
  simp only[Bool.or_eq_true,Bool.and_eq_true,decide_eq_true_eq]at hk
  rcases hk with h | h
  ·exact .inr h
  ·exact .inl h.1
def aP6 (s:List UInt8):Bool:=decide (aBy s=1)
theorem bYg (l:List (List UInt8)) (h:∀ s∈l,aBy s=1∨aBy s=2):aL2 (l.filter fun s=> !aDf s)=l.reverse.filter aP6:=by
 unfold aL2
 rw[List.filter_reverse]
 congr 1
 refine List.filter_congr fun s hs=>?_
 unfold aDf aP6
 rcases h s hs with h | h<;>simp[h]
def bVi (ns es ss:List (List C)) (v:Int) (c:List Lk):List Opx :=
 (if ss=[]then[]else[bPa])++(aAy ((aD7 ns es).filter aDf)++(aEa (bAs v) c++aAy (aL2 ((aD7 ns es).filter fun s=> !aDf s))))
theorem bHx (acc:List Opx) (y:List UInt8):(acc.map eOp).append [[C.int .i64 1,C.str y,C.str [],C.str []]]=(acc++[bP9 y]).map eOp:=by simp[bP9]
theorem bXx (acc:List Opx) (y:List UInt8):(acc.map eOp).append [[C.int .i64 4,C.str y,C.str [],C.str []]]=(acc++[cA0 y]).map eOp:=by simp[cA0]
theorem bHy (acc:List Opx):(acc.map eOp).append [[C.int .i64 6,C.str [],C.str [],C.str []]]=(acc++[bPa]).map eOp:=by simp[bPa]
theorem bHz (acc:List Opx) (b:Int) (t:List UInt8):(acc.map eOp).append [eOp ⟨2,aB0 b,[],[]⟩,eOp ⟨3,aB0 b,[],t⟩,eOp ⟨4,aB0 b,[],[]⟩,eOp ⟨5,aB0 b,aAm b,[]⟩,eOp ⟨6,[],[],[]⟩]=(acc++aEk b t).map eOp:=by simp[aEk]
theorem bUd (acc l:List Opx):(acc.map eOp).append (l.map eOp)=(acc++l).map eOp:=by simp
theorem cA8 (l:List Opx):List.take l.length (l.map eOp)=l.map eOp:=by rw[List.take_of_length_le];simp
theorem bJs (l:List Opx):((l.map eOp).all fun row=>decide (row.length=4))=true:=by simp
theorem aQl (l:List Opx):((l.map eOp).all fun r=>r.all C.flat)=true:=by simp[C.flat]
theorem aTd (n:Nat) (h:n≤1099511627776):aBb n 56=true:=by simp only[aBb,decide_eq_true_eq];omega
theorem cAd (n:Nat) (h:n≤1099511627776):aBb n 16=true:=by simp only[aBb,decide_eq_true_eq];omega
theorem bC4 (l:List (List UInt8)) (hl:l.length≤1048576):∀ (n i:Nat) (acc:List Opx),i≤l.length→l.length<i+n→acc.length=i →
  (aBf aNq aAa (sg [pSl 9] [rSl 58]) Tryz.f62 [.r,.r,.l,.r,.b] n (aN7 acc.length (acc.map eOp) (l.map aB5) l.length i)).eval=some [.sl ((acc++(l.drop i).map bP9++(if l=[]then[]else[bPa])).map eOp)]:=by
 intro n
 induction n with
 |zero=>intro i acc h1 h2;omega
 |succ n ih =>
  intro i acc h1 h2 h3
  rw[aAi _ _ _ _ _ _ _ (by kernel_rfl),aVt]
  have ro:=aTd (acc.length+1) (by omega)
  by_cases hi:i<l.length
  ·have g:=aAv aB5 l [] i hi
   have w:IntKind.i64.wrap ((i:Int)+1)=((i+1:Nat):Int):=by rw[aAd]<;>omega
   have hz:(0:Int)≤i:=by omega
   have hi':(i:Int)<l.length:=by omega
   rw[aB9 l i [] hi,List.map_cons]
   generalize l.getD i []=y at g ⊢
   have e2:=ih (i+1) (acc++[bP9 y]) (by omega) (by omega) (by simp;omega)
   rw[List.length_append]at e2
   simp only[List.length_cons,List.length_nil,Nat.zero_add,List.append_assoc,List.cons_append,List.nil_append]at e2
   simp only[aA0,aA1,if_true,decide_eq_true_eq,Bool.and_eq_true,w,hz,hi',Int.toNat_natCast,List.length_map,g,and_self,List.getD_cons_zero,C.toStr,C.is,List.length_cons,List.length_nil,Nat.zero_add,Nat.zero_lt_succ,decide_true,ro,Bool.and_self,bHx,List.append_assoc,List.cons_append,List.nil_append]
   exact e2
  ·have e:i=l.length:=by omega
   subst e
   have hi':¬((l.length:Int)<(l.length:Int)):=by omega
   by_cases h0:l=[]
   ·have hz:¬(0:Int)<(acc.length:Int):=by rw[h3,h0];simp
    rw[if_pos h0]
    simp only[aA0,aA1,aA2,decide_eq_true_eq,List.length_map,hi',if_false,hz,aQl,decide_true,Bool.or_true,Bool.and_self,if_true,List.drop_length,List.map_nil,List.append_nil]
   ·have hlp:0<l.length:=List.length_pos_iff.2 h0
    have hz:(0:Int)<(acc.length:Int):=by omega
    simp only[aA0,aA1,aA2,decide_eq_true_eq,List.length_map,List.length_append,List.length_cons,List.length_nil,Nat.zero_add,hi',if_false,hz,ro,bHy,aQl,decide_true,Bool.or_true,Bool.and_self,if_true,List.drop_length,List.map_nil,h0,List.append_nil]
theorem bP4:aA6 Tryz.prog aNq:=aA5 (by simp[])
theorem aYp:aAn Tryz.prog 62 (sg [pSl 9] [rSl 58]) aP3:=aA4 bP4 aA7 Tryz.func62 (by kernel_rfl) fun cs outs hk h=>by
 unfold aP3 at h
 split at h
 ·simp only[Option.some.injEq,Prod.mk.injEq,Bool.and_eq_true,decide_eq_true_eq]at h
  obtain⟨⟨h1,h2⟩,rfl⟩:=h
  rename_i rows
  have hr:=aDa h1
  generalize aCb rows=l at hr ⊢
  subst hr
  rw[List.length_map]at h2
  rw[aA9,bC3]
  have lp:=bC4 l h2 9223372036854775808 0 [] (by omega) (by omega) rfl
  refine Eq.trans ?_ lp
  rw[aJu aB5 l]
  rfl
 ·cases h
theorem bWv {A:Type} (d:A) (x y:List A) (h:x.length=y.length) (hg:∀ k,k<x.length→x.getD k d=y.getD k d):x=y:=by
 apply List.ext_getElem h
 intro k h1 h2
 have:=hg k h1
 simpa[List.getD_eq_getElem?_getD,h1,h2]using this
theorem bVh (l:List (List UInt8)) (k:Nat) (h:k<l.length):(aL2 l).getD k []=l.getD (l.length-1-k) []:=by
 unfold aL2
 simp[List.getD_eq_getElem?_getD,List.getElem?_reverse h]
theorem bS3 (l:List (List UInt8)) (hl:l.length≤1048576):∀ (n i:Nat) (m:List (List UInt8)),i≤l.length→l.length<i+n→m.length=l.length →
  (∀ k,k<l.length→m.getD k []=if k<i∨l.length≤k+i then l.getD (l.length-1-k) []else l.getD k []) →
  (aBf bNo aAa (sg [.wr false [(.slice 9,true)]] []) Tryz.f66 [.r,.b] n (bNg l.length i ((l.length:Int)-1-i) (m.map aB5))).eval=some [.sl ((aL2 l).map aB5)]:=by
 intro n
 induction n with
 |zero=>intro i m h1 h2;omega
 |succ n ih =>
  intro i m h1 h2 h3 h4
  rw[aAi _ _ _ _ _ _ _ (by kernel_rfl),bJu]
  by_cases hij:i+i+1<l.length
  ·obtain⟨j,hj⟩:∃ j:Nat,j=l.length-1-i:=⟨_,rfl⟩
   have ej:(l.length:Int)-1-i=(j:Int):=by omega
   have c1:(i:Int)<(j:Int):=by omega
   have wi:IntKind.i64.wrap ((i:Int)+1)=((i+1:Nat):Int):=by rw[aAd]<;>omega
   have wj:IntKind.i64.wrap ((j:Int)-1)=(l.length:Int)-1-((i+1:Nat):Int):=by rw[aAd]<;>omega
   have hzi:(0:Int)≤i:=by omega
   have hzj:(0:Int)≤j:=by omega
   have hi':(i:Int)<l.length:=by omega
   have hj':(j:Int)<l.length:=by omega
   have him:i<m.length:=by omega
   have hjm:j<m.length:=by omega
   have gi:=aAv aB5 m [] i him
   have gj:=aAv aB5 m [] j hjm
   have s1:(m.map aB5).set i [C.str (m.getD j [])]=(m.set i (m.getD j [])).map aB5:=by rw[List.map_set]
   have gj2:((m.set i (m.getD j [])).map aB5).getD j []=aB5 (m.getD j []):=by
    rw[aAv aB5 _ [] j (by simpa using hjm)]
    congr 1
    simp only[List.getD_eq_getElem?_getD]
    rw[List.getElem?_set_ne (by omega)]
   have s2:((m.set i (m.getD j [])).map aB5).set j [C.str (m.getD i [])]=((m.set i (m.getD j [])).set j (m.getD i [])).map aB5:=by simp[List.map_set]
   have e:=ih (i+1) ((m.set i (m.getD j [])).set j (m.getD i [])) (by omega) (by omega) (by simpa using h3) (fun k hk=>by
    have vi:=h4 i (by omega)
    have vj:=h4 j (by omega)
    have vk:=h4 k hk
    rw[if_neg (by omega)]at vi vj
    by_cases kj:k=j
    ·subst kj
     rw[if_pos (by omega)]
     have:((m.set i (m.getD k [])).set k (m.getD i [])).getD k []=m.getD i []:=by
      simp[List.getD_eq_getElem?_getD,hjm]
     rw[this,vi]
     (congr 1<;>omega)
    ·by_cases ki:k=i
     ·subst ki
      rw[if_pos (by omega)]
      have:((m.set k (m.getD j [])).set j (m.getD k [])).getD k []=m.getD j []:=by
       simp only[List.getD_eq_getElem?_getD]
       rw[List.getElem?_set_ne (by omega)]
       simp[him]
      rw[this,vj]
      (congr 1<;>omega)
     ·have:((m.set i (m.getD j [])).set j (m.getD i [])).getD k []=m.getD k []:=by
       simp only[List.getD_eq_getElem?_getD]
       rw[List.getElem?_set_ne (by omega),List.getElem?_set_ne (by omega)]
      rw[this,vk]
      by_cases hc:k<i∨l.length≤k+i
      ·rw[if_pos hc,if_pos (by omega)]
      ·rw[if_neg hc,if_neg (by omega)])
   rw[ej]
   simp only[aA0,aA1,decide_eq_true_eq,Bool.and_eq_true,c1,if_true,hzi,hzj,hi',hj',him,hjm,Int.toNat_natCast,Nat.zero_add,List.length_map,List.length_set,gi,gj,s1,gj2,s2,wi,wj,List.getD_cons_zero,C.toStr,C.is,List.length_cons,List.length_nil,Nat.zero_lt_one,List.drop_succ_cons,List.drop_zero,and_self,decide_true,Bool.and_self]
   exact e
  ·have c1:¬(i:Int)<(l.length:Int)-1-i:=by omega
   have hm:m=aL2 l:=bWv [] _ _ (by rw[h3];simp[aL2]) fun k hk=>by
    rw[h3]at hk
    rw[h4 k hk,bVh l k hk]
    by_cases hc:k<i∨l.length≤k+i
    ·rw[if_pos hc]
    ·rw[if_neg hc]
     (congr 1<;>omega)
   simp only[aA0,aA1,aA2,decide_eq_true_eq,c1,if_false,aEl,Bool.or_true,Bool.and_self,if_true,hm]
theorem cAe:aA6 Tryz.prog bNo:=aA5 (by simp[])
theorem bP1:aAn Tryz.prog 66 (sg [.wr false [(.slice 9,true)]] []) bJt:=aA4 cAe aA7 Tryz.func66 (by kernel_rfl) fun cs outs hk h=>by
 unfold bJt at h
 split at h
 ·simp only[Option.some.injEq,Prod.mk.injEq,Bool.and_eq_true,decide_eq_true_eq]at h
  obtain⟨⟨h1,h2⟩,rfl⟩:=h
  rename_i rows
  have hr:=aDa h1
  generalize aCb rows=l at hr ⊢
  subst hr
  rw[List.length_map]at h2
  rw[aA9,bS2]
  have lp:=bS3 l h2 9223372036854775808 0 l (by omega) (by omega) rfl (fun k hk=>by rw[if_neg (by omega)])
  have w:IntKind.i64.wrap ((((l.map aB5).length:Nat):Int)-1)=(l.length:Int)-1-((0:Nat):Int):=by rw[List.length_map,aAd]<;>omega
  rw[w]
  simp only[aJo,aA0,Bool.and_self,if_true,List.length_map]
  exact lp
 ·cases h
theorem bL9 (v:Int) (c:List Lk) (hc:∀ y∈c,y.2.length≤1048576) (hl:c.length≤16) (t2:List (List UInt8)) (h2:t2.length≤1048576):∀ (n i:Nat) (acc:List Opx),i≤c.length→c.length<i+n→acc.length≤4000000+5*i →
  (aBf aMg aAa (sg [aB2,pI] [rSl 58]) Tryz.f21 [.r,.r,.r,.r,.r,.r,.r,.r,.r,.l,.r,.b] n (aNe v acc.length (acc.map eOp) t2.length (t2.map aB5) c.length (aEi c) c.length i)).eval=some [.sl ((acc++(aEa v (c.drop i)++aAy (aL2 t2))).map eOp)]:=by
 intro n
 induction n with
 |zero=>intro i acc h1 h2;omega
 |succ n ih =>
  intro i acc h1 hn h3
  rw[aAi _ _ _ _ _ _ _ (by kernel_rfl),bD7]
  by_cases hi:i<c.length
  ·have g:=bTh c i hi
   have w:IntKind.i64.wrap ((i:Int)+1)=((i+1:Nat):Int):=by rw[aAd]<;>omega
   have hz:(0:Int)≤i:=by omega
   have hi':(i:Int)<c.length:=by omega
   have hm:c.getD i (0,[])∈c:=by rw[List.getD_eq_getElem?_getD,List.getElem?_eq_getElem hi];exact List.getElem_mem hi
   have hx:=hc _ hm
   rw[aB9 c i (0,[]) hi,aSj]
   generalize c.getD i (0,[])=y at g hx ⊢
   have ro:=aTd (acc.length+5) (by omega)
   have e1:=ih (i+1) acc (by omega) (by omega) (by omega)
   have e2:=ih (i+1) (acc++aEk y.1 (aDh y.2 v)) (by omega) (by omega) (by simp[aEk];omega)
   rw[List.length_append]at e2
   simp only[List.append_assoc]at e2
   simp only[aA0,aA1,if_true,decide_eq_true_eq,Bool.and_eq_true,w,hz,hi',hi,Int.toNat_natCast,bGf,Nat.zero_add,g,and_self,List.getD_cons_zero,List.getD_cons_succ,C.toInt,C.toStr,C.is,List.length_cons,List.length_nil,Nat.reduceAdd,Nat.reduceLT,Nat.zero_lt_succ,decide_true,beq_self_eq_true,hx,Bool.and_self,List.length_map,bHz,Bool.not_eq_true',beq_eq_false_iff_ne,ne_eq]
   by_cases hrs:aDh y.2 v=y.2
   ·simp only[hrs,not_true_eq_false,if_false,List.nil_append]
    exact e1
   ·simp only[hrs,not_false_eq_true,if_true]
    rw[if_pos ⟨⟨trivial,ro⟩,by decide⟩]
    rw[List.append_assoc]
    exact e2
  ·have e:i=c.length:=by omega
   subst e
   have hi':¬((c.length:Int)<(c.length:Int)):=by omega
   have tkr:List.take t2.length ((aL2 t2).map aB5)=(aL2 t2).map aB5:=by rw[List.take_of_length_le];simp[bC1]
   have rl:=aJp (aL2 t2)
   rw[bC1]at rl
   have ro:=aTd (acc.length+(aAy (aL2 t2)).length) (by omega)
   have nz:aEa v []=[]:=rfl
   simp only[aA0,aA1,aA2,decide_eq_true_eq,hi',if_false,List.length_map,aG3,bC1,tkr,aEr,aJo,bJs,cA8,List.take_length,h2,ro,bUd,List.length_append,aQl,decide_true,Bool.and_self,Bool.or_true,if_true,List.drop_length,nz,List.nil_append]
theorem bLa (v:Int) (c:List Lk) (hc:∀ y∈c,y.2.length≤1048576) (hl:c.length≤16) (lo:List (List UInt8)) (hlo:lo.length≤1048576) (hlt:∀ s∈lo,s.length≤1048576):∀ (n i:Nat) (acc:List Opx) (t1 t2:List (List UInt8)),i≤lo.length→lo.length<i+n→acc.length≤17→t1.length≤i→t2.length≤i →
  (aBf aMg aAa (sg [aB2,pI] [rSl 58]) Tryz.f21 [.r,.r,.r,.r,.r,.r,.l,.r,.b] n (aNf v acc.length (acc.map eOp) c.length (aEi c) t1.length (t1.map aB5) t2.length (t2.map aB5) (lo.map aB5) lo.length i)).eval =
   some [.sl ((acc++(aAy (t1++(lo.drop i).filter aDf)++(aEa (bAs v) c++aAy (aL2 (t2++(lo.drop i).filter fun s=> !aDf s))))).map eOp)]:=by
 intro n
 induction n with
 |zero=>intro i acc t1 t2 h1 h2;omega
 |succ n ih =>
  intro i acc t1 t2 h1 hn h3 h4 h5
  rw[aAi _ _ _ _ _ _ _ (by kernel_rfl),bD8]
  by_cases hi:i<lo.length
  ·have g:=aAv aB5 lo [] i hi
   have w:IntKind.i64.wrap ((i:Int)+1)=((i+1:Nat):Int):=by rw[aAd]<;>omega
   have hz:(0:Int)≤i:=by omega
   have hi':(i:Int)<lo.length:=by omega
   have hm:lo.getD i []∈lo:=by rw[List.getD_eq_getElem?_getD,List.getElem?_eq_getElem hi];exact List.getElem_mem hi
   have hx:=hlt _ hm
   rw[aB9 lo i [] hi]
   generalize lo.getD i []=y at g hx ⊢
   have r1:=cAd (t1.length+1) (by omega)
   have r2:=cAd (t2.length+1) (by omega)
   simp only[aA0,aA1,if_true,decide_eq_true_eq,Bool.and_eq_true,w,hz,hi',Int.toNat_natCast,List.length_map,g,and_self,List.getD_cons_zero,C.toStr,C.is,List.length_cons,List.length_nil,Nat.zero_add,Nat.zero_lt_succ,decide_true,hx,r1,r2,cCc,List.filter_cons]
   by_cases hk:aBy y=2
   ·have it:aDf y=true:=by unfold aDf;rw[hk];rfl
    have e:=ih (i+1) acc (t1++[y]) t2 (by omega) (by omega) h3 (by simp;omega) (by omega)
    rw[List.length_append]at e
    simp only[hk,it,if_true,Bool.not_true,Bool.false_eq_true,if_false]
    simp only[List.append_assoc,List.cons_append,List.nil_append,List.length_cons,List.length_nil,Nat.zero_add]at e ⊢
    exact e
   ·have it:aDf y=false:=by unfold aDf;rw[decide_eq_false hk]
    have e:=ih (i+1) acc t1 (t2++[y]) (by omega) (by omega) h3 (by omega) (by simp;omega)
    rw[List.length_append]at e
    simp only[hk,it,if_false,Bool.not_false,Bool.false_eq_true,if_true]
    simp only[List.append_assoc,List.cons_append,List.nil_append,List.length_cons,List.length_nil,Nat.zero_add]at e ⊢
    exact e
  ·have e:i=lo.length:=by omega
   subst e
   have hi':¬((lo.length:Int)<(lo.length:Int)):=by omega
   have tk:List.take t1.length (t1.map aB5)=t1.map aB5:=by rw[List.take_of_length_le];simp
   have rl:=aJp t1
   have ro:=aTd (acc.length+(aAy t1).length) (by omega)
   have h1':t1.length≤1048576:=by omega
   have lp:=fun v'=>bL9 v' c hc hl t2 (by omega) 9223372036854775808 0 (acc++aAy t1) (by omega) (by omega) (by rw[List.length_append];omega)
   simp only[List.length_append,List.append_assoc,List.drop_zero]at lp
   simp only[aA0,aA1,decide_eq_true_eq,hi',if_false,List.length_map,aG3,tk,aEr,bJs,cA8,List.take_length,h1',ro,bUd,decide_true,Bool.and_self,if_true,List.drop_length,List.filter_nil,List.append_nil,bAs]
   by_cases hv:inB v 1 2=true
   ·simp only[hv,if_true]
    exact lp v
   ·simp only[hv,if_false,Bool.false_eq_true]
    exact lp 0
theorem bLb (v:Int) (ns es os ss:List (List C)) (r x:Int) (hd:aI1 ns es=true) (he:aR8 es=true) (c:List Lk) (hc:∀ y∈c,y.2.length≤1048576) (hl:c.length≤16):∀ (n i:Nat) (acc:List Opx),i≤c.length→c.length<i+n→acc.length≤i →
  (aBf aMg aAa (sg [aB2,pI] [rSl 58]) Tryz.f21 [.r,.r,.r,.l,.r,.b] n (aKd v ns es os ss r x acc.length (acc.map eOp) c.length (aEi c) c.length i)).eval=some [.sl ((acc++(aPr ns es (c.drop i)++bVi ns es ss v c)).map eOp)]:=by
 have hne:=aVz hd
 obtain⟨l1,l2,_⟩:=aP4 ns he
 intro n
 induction n with
 |zero=>intro i acc h1 h2;omega
 |succ n ih =>
  intro i acc h1 hn h3
  rw[aAi _ _ _ _ _ _ _ (by kernel_rfl),bD9]
  have ro:=aTd (acc.length+1) (by omega)
  by_cases hi:i<c.length
  ·have g:=bTh c i hi
   have w:IntKind.i64.wrap ((i:Int)+1)=((i+1:Nat):Int):=by rw[aAd]<;>omega
   have hz:(0:Int)≤i:=by omega
   have hi':(i:Int)<c.length:=by omega
   rw[aB9 c i (0,[]) hi,aZr]
   generalize c.getD i (0,[])=y at g ⊢
   have e1:=ih (i+1) acc (by omega) (by omega) (by omega)
   have e2:=ih (i+1) (acc++[cA0 (aAm y.1)]) (by omega) (by omega) (by simp;omega)
   rw[List.length_append]at e2
   simp only[List.append_assoc,List.length_cons,List.length_nil,Nat.zero_add]at e2
   simp only[aA0,aA1,if_true,decide_eq_true_eq,Bool.and_eq_true,w,hz,hi',hi,Int.toNat_natCast,bGf,Nat.zero_add,g,and_self,List.getD_cons_zero,List.getD_cons_succ,C.toInt,C.toStr,C.is,List.length_cons,List.length_nil,Nat.reduceAdd,Nat.reduceLT,Nat.zero_lt_succ,decide_true,beq_self_eq_true,Bool.and_self,List.length_map,hne,ro,bXx,bne_iff_ne,ne_eq,ite_self]
   by_cases hrs:aLq (nds ns) (ens es) (aAm y.1)=((aEg (nds ns) (ens es) (aAm y.1)).length:Nat)
   ·simp only[hrs,not_true_eq_false,if_false,List.nil_append,ite_self]
    exact e1
   ·simp only[hrs,not_false_eq_true,if_true,List.append_assoc,ite_self]
    exact e2
  ·have e:i=c.length:=by omega
   subst e
   have hi':¬((c.length:Int)<(c.length:Int)):=by omega
   have nz:aPr ns es []=[]:=rfl
   have lp:=fun a (ha:a.length≤17)=>bLa v c hc hl (aD7 ns es) l1 l2 9223372036854775808 0 a [] [] (by omega) (by omega) ha (by simp) (by simp)
   simp only[List.drop_zero,List.nil_append]at lp
   simp only[aA0,aA1,decide_eq_true_eq,hi',if_false,hd,he,ro,bHy,decide_true,Bool.and_self,if_true,List.drop_length,nz,List.nil_append,List.length_map]
   unfold bVi
   by_cases hs:ss=[]
   ·have hs':¬(0:Int)<((ss.length:Nat):Int):=by rw[hs];simp
    simp only[hs',hs,if_true,if_false,List.nil_append]
    exact lp acc (by omega)
   ·have hs':(0:Int)<((ss.length:Nat):Int):=by have:=List.length_pos_iff.2 hs;omega
    have:=lp (acc++[bPa]) (by simp;omega)
    rw[List.length_append]at this
    simp only[List.append_assoc,List.length_cons,List.length_nil,Nat.zero_add]at this
    simp only[hs',hs,if_true,if_false,List.append_assoc]
    exact this
theorem bZa:aA6 Tryz.prog aMg:=aA5 (by simp[aDm,aD1,aQc,aSp,aM1,bH1,bH5,bD2,aYp,bP1])
theorem aP7:aAn Tryz.prog 21 (sg [aB2,pI] [rSl 58]) aG5:=aA4 bZa aA7 Tryz.func21 (by kernel_rfl) fun cs outs hk h=>by
 unfold aG5 at h
 split at h
 ·simp only[Option.some.injEq,Prod.mk.injEq,Bool.and_eq_true,decide_eq_true_eq]at h
  obtain⟨⟨hd,he,hs⟩,rfl⟩:=h
  rename_i ns es os ss r x v
  rw[aA9,bQ2]
  have hb:((aEi (aCe (nds ns) (ens es))).all fun row=>decide (row.length=11))=true:=by simp[aEi]
  have hn':(aCe (nds ns) (ens es)).length≤16:=aEs (nds ns) (ens es) 16 0 0
  have lp:=bLb v ns es os ss r x hd he (aCe (nds ns) (ens es)) (bQl hd) hn' 9223372036854775808 0 [] (by omega) (by omega) (by simp)
  simp only[aA0,hd,hb,Bool.and_self,if_true]
  refine Eq.trans ?_ lp
  rw[←bGf]
  rfl
 ·cases h
theorem bJb (lo:List (List UInt8)) (hlo:lo.length≤1048576) (hlt:∀ s∈lo,s.length≤1048576):∀ (m n:Nat) (acc:List Opx),m≤lo.length→m<n→acc.length+m≤8000000 →
  (aBf aFk aAa (sg [aB2,pI] [rSl 58]) Tryz.f20 [.r,.r,.r,.r,.r,.r,.r,.r,.r,.r,.r,.r,.l,.r,.b] n (aQw acc.length (acc.map eOp) lo.length (lo.map aB5) ((m:Int)-1))).eval=some [.sl ((acc++(((lo.take m).reverse.filter aP6).map bP9++[bPa])).map eOp)]:=by
 intro m
 induction m with
 |zero =>
  intro n acc h1 h2 h3
  obtain⟨n,rfl⟩:∃ g,n=g+1:=⟨n-1,by omega⟩
  rw[aAi _ _ _ _ _ _ _ (by kernel_rfl),aPv]
  have ro:=aTd (acc.length+1) (by omega)
  have c:¬((0:Int)≤((0:Nat):Int)-1):=by omega
  simp only[aA0,aA1,aA2,decide_eq_true_eq,c,if_false,List.length_map,List.length_append,List.length_cons,List.length_nil,Nat.zero_add,ro,bHy,aQl,decide_true,Bool.or_true,Bool.and_self,if_true,List.take_zero,List.reverse_nil,List.filter_nil,List.map_nil,List.nil_append]
 |succ m ih =>
  intro n acc h1 h2 h3
  obtain⟨n,rfl⟩:∃ g,n=g+1:=⟨n-1,by omega⟩
  rw[aAi _ _ _ _ _ _ _ (by kernel_rfl),aPv]
  have ro:=aTd (acc.length+1) (by omega)
  have em:((m+1:Nat):Int)-1=(m:Int):=by omega
  have hz:(0:Int)≤(m:Int):=by omega
  have hm':(m:Int)<lo.length:=by omega
  have hml:m<lo.length:=by omega
  have w:IntKind.i64.wrap ((m:Int)-1)=(m:Int)-1:=by rw[aAd]<;>omega
  have g:=aAv aB5 lo [] m hml
  have hmem:lo.getD m []∈lo:=by rw[List.getD_eq_getElem?_getD,List.getElem?_eq_getElem hml];exact List.getElem_mem hml
  have hx:=hlt _ hmem
  have tk:(lo.take (m+1)).reverse=lo.getD m []::(lo.take m).reverse:=by rw[List.take_succ_eq_append_getElem hml];simp[List.getD_eq_getElem?_getD,hml]
  rw[em,tk]
  generalize lo.getD m []=y at g hx ⊢
  simp only[aA0,aA1,if_true,decide_eq_true_eq,Bool.and_eq_true,w,hz,hm',hml,Int.toNat_natCast,List.length_map,g,and_self,List.getD_cons_zero,C.toStr,C.is,List.length_cons,List.length_nil,Nat.zero_add,Nat.zero_lt_succ,decide_true,hx,ro,bHx,List.filter_cons,Bool.and_self]
  by_cases hk:aBy y=1
  ·have it:aP6 y=true:=by unfold aP6;rw[hk];rfl
   have e:=ih n (acc++[bP9 y]) (by omega) (by omega) (by simp;omega)
   rw[List.length_append]at e
   simp only[List.append_assoc,List.length_cons,List.length_nil,Nat.zero_add]at e
   simp only[hk,it,if_true,List.map_cons]
   exact e
  ·have it:aP6 y=false:=by unfold aP6;rw[decide_eq_false hk]
   have e:=ih n acc (by omega) (by omega) (by omega)
   simp only[hk,it,if_false,Bool.false_eq_true]
   exact e
theorem aSk (x:List UInt8) (l:List (List UInt8)):aAy (x::l)=bP9 x::(l.map bP9++[bPa]):=by simp[aAy]
theorem bJc (lo:List (List UInt8)) (hlo:lo.length≤1048576) (hlt:∀ s∈lo,s.length≤1048576):∀ (m n:Nat) (acc:List Opx),m≤lo.length→m<n→acc.length+m≤8000000 →
  (aBf aFk aAa (sg [aB2,pI] [rSl 58]) Tryz.f20 [.r,.r,.r,.r,.r,.r,.r,.r,.r,.r,.r,.r,.l,.r,.b] n (aTz acc.length (acc.map eOp) lo.length (lo.map aB5) ((m:Int)-1))).eval=some [.sl ((acc++aAy ((lo.take m).reverse.filter aP6)).map eOp)]:=by
 intro m
 induction m with
 |zero =>
  intro n acc h1 h2 h3
  obtain⟨n,rfl⟩:∃ g,n=g+1:=⟨n-1,by omega⟩
  rw[aAi _ _ _ _ _ _ _ (by kernel_rfl),aPw]
  have c:¬((0:Int)≤((0:Nat):Int)-1):=by omega
  have nz:aAy []=[]:=rfl
  simp only[aA0,aA1,aA2,decide_eq_true_eq,c,if_false,List.length_map,aQl,decide_true,Bool.or_true,Bool.and_self,if_true,List.take_zero,List.reverse_nil,List.filter_nil,nz,List.append_nil]
 |succ m ih =>
  intro n acc h1 h2 h3
  obtain⟨n,rfl⟩:∃ g,n=g+1:=⟨n-1,by omega⟩
  rw[aAi _ _ _ _ _ _ _ (by kernel_rfl),aPw]
  have ro:=aTd (acc.length+1) (by omega)
  have em:((m+1:Nat):Int)-1=(m:Int):=by omega
  have hz:(0:Int)≤(m:Int):=by omega
  have hm':(m:Int)<lo.length:=by omega
  have hml:m<lo.length:=by omega
  have w:IntKind.i64.wrap ((m:Int)-1)=(m:Int)-1:=by rw[aAd]<;>omega
  have g:=aAv aB5 lo [] m hml
  have hmem:lo.getD m []∈lo:=by rw[List.getD_eq_getElem?_getD,List.getElem?_eq_getElem hml];exact List.getElem_mem hml
  have hx:=hlt _ hmem
  have tk:(lo.take (m+1)).reverse=lo.getD m []::(lo.take m).reverse:=by rw[List.take_succ_eq_append_getElem hml];simp[List.getD_eq_getElem?_getD,hml]
  rw[em,tk]
  generalize lo.getD m []=y at g hx ⊢
  simp only[aA0,aA1,if_true,decide_eq_true_eq,Bool.and_eq_true,w,hz,hm',hml,Int.toNat_natCast,List.length_map,g,and_self,List.getD_cons_zero,C.toStr,C.is,List.length_cons,List.length_nil,Nat.zero_add,Nat.zero_lt_succ,decide_true,hx,ro,bHx,List.filter_cons,Bool.and_self]
  by_cases hk:aBy y=1
  ·have it:aP6 y=true:=by unfold aP6;rw[hk];rfl
   have e:=bJb lo hlo hlt m n (acc++[bP9 y]) (by omega) (by omega) (by simp;omega)
   rw[List.length_append]at e
   simp only[List.append_assoc,List.length_cons,List.length_nil,Nat.zero_add]at e
   simp only[hk,it,if_true,aSk]
   exact e
  ·have it:aP6 y=false:=by unfold aP6;rw[decide_eq_false hk]
   have e:=ih n acc (by omega) (by omega) (by omega)
   simp only[hk,it,if_false,Bool.false_eq_true]
   exact e
theorem aVi (v:Int) (ns es os ss:List (List C)) (r x:Int) (hd:aI1 ns es=true) (lo:List (List UInt8)) (hlo:lo.length≤1048576) (hlt:∀ s∈lo,s.length≤1048576) (c:List Lk) (hc:∀ y∈c,y.2=aB8 (nds ns) (ens es) y.1) (hl:c.length≤16):∀ (n i:Nat) (acc:List Opx),i≤c.length→c.length<i+n→acc.length≤4000000+5*i →
  (aBf aFk aAa (sg [aB2,pI] [rSl 58]) Tryz.f20 [.r,.r,.r,.r,.r,.r,.r,.r,.r,.r,.l,.r,.b] n (aI4 v ns es os ss r x acc.length (acc.map eOp) c.length (aBd c) lo.length (lo.map aB5) i)).eval=some [.sl ((acc++(aEa v (c.drop i)++aAy (lo.reverse.filter aP6))).map eOp)]:=by
 have hne:=aVz hd
 intro n
 induction n with
 |zero=>intro i acc h1 h2;omega
 |succ n ih =>
  intro i acc h1 hn h3
  rw[aAi _ _ _ _ _ _ _ (by kernel_rfl),bBm]
  by_cases hi:i<c.length
  ·have g:=bN3 c i hi
   have w:IntKind.i64.wrap ((i:Int)+1)=((i+1:Nat):Int):=by rw[aAd]<;>omega
   have hz:(0:Int)≤i:=by omega
   have hi':(i:Int)<c.length:=by omega
   have hm:c.getD i (0,[])∈c:=by rw[List.getD_eq_getElem?_getD,List.getElem?_eq_getElem hi];exact List.getElem_mem hi
   have hx:=hc _ hm
   have ht:=aPo hd (c.getD i (0,[])).1
   rw[aB9 c i (0,[]) hi,aSj,hx]
   generalize c.getD i (0,[])=y at g ht ⊢
   have ro:=aTd (acc.length+5) (by omega)
   have e1:=ih (i+1) acc (by omega) (by omega) (by omega)
   have e2:=ih (i+1) (acc++aEk y.1 (aDh (aB8 (nds ns) (ens es) y.1) v)) (by omega) (by omega) (by simp[aEk];omega)
   rw[List.length_append]at e2
   simp only[List.append_assoc]at e2
   simp only[aA0,aA1,if_true,decide_eq_true_eq,Bool.and_eq_true,w,hz,hi',hi,Int.toNat_natCast,aLs,Nat.zero_add,g,and_self,List.getD_cons_zero,C.toInt,C.is,List.length_cons,List.length_nil,Nat.zero_lt_succ,decide_true,beq_self_eq_true,ht,hne,Bool.and_self,List.length_map,bHz,Bool.not_eq_true',beq_eq_false_iff_ne,ne_eq]
   by_cases hrs:aDh (aB8 (nds ns) (ens es) y.1) v=aB8 (nds ns) (ens es) y.1
   ·simp only[hrs,not_true_eq_false,if_false,List.nil_append]
    exact e1
   ·simp only[hrs,not_false_eq_true,if_true]
    rw[if_pos ⟨⟨trivial,ro⟩,by decide⟩]
    rw[List.append_assoc]
    exact e2
  ·have e:i=c.length:=by omega
   subst e
   have hi':¬((c.length:Int)<(c.length:Int)):=by omega
   have nz:aEa v []=[]:=rfl
   have w:IntKind.i64.wrap ((lo.length:Int)-1)=(lo.length:Int)-1:=by rw[aAd]<;>omega
   have lp:=bJc lo hlo hlt lo.length 9223372036854775808 acc (by omega) (by omega) (by omega)
   rw[List.take_length]at lp
   simp only[aA1,decide_eq_true_eq,hi',if_false,w,List.drop_length,nz,List.nil_append]
   exact lp
theorem bJa (v:Int) (ns es os ss:List (List C)) (r x:Int) (hd:aI1 ns es=true) (lo:List (List UInt8)) (hlo:lo.length≤1048576) (hlt:∀ s∈lo,s.length≤1048576) (c:List Lk) (hc:∀ y∈c,y.2=aB8 (nds ns) (ens es) y.1) (hl:c.length≤16):∀ (n i:Nat) (acc:List Opx),i≤lo.length→lo.length<i+n→acc.length≤17+i →
  (aBf aFk aAa (sg [aB2,pI] [rSl 58]) Tryz.f20 [.r,.r,.r,.r,.r,.r,.r,.l,.r,.b] n (aQx v ns es os ss r x acc.length (acc.map eOp) c.length (aBd c) lo.length (lo.map aB5) i)).eval=some [.sl ((acc++(((lo.drop i).filter aDf).map bP9++([bPa]++(aEa (bAs v) c++aAy (lo.reverse.filter aP6))))).map eOp)]:=by
 intro n
 induction n with
 |zero=>intro i acc h1 h2;omega
 |succ n ih =>
  intro i acc h1 hn h3
  rw[aAi _ _ _ _ _ _ _ (by kernel_rfl),bBn]
  have ro:=aTd (acc.length+1) (by omega)
  by_cases hi:i<lo.length
  ·have g:=aAv aB5 lo [] i hi
   have w:IntKind.i64.wrap ((i:Int)+1)=((i+1:Nat):Int):=by rw[aAd]<;>omega
   have hz:(0:Int)≤i:=by omega
   have hi':(i:Int)<lo.length:=by omega
   have hm:lo.getD i []∈lo:=by rw[List.getD_eq_getElem?_getD,List.getElem?_eq_getElem hi];exact List.getElem_mem hi
   have hx:=hlt _ hm
   rw[aB9 lo i [] hi]
   generalize lo.getD i []=y at g hx ⊢
   simp only[aA0,aA1,if_true,decide_eq_true_eq,Bool.and_eq_true,w,hz,hi',hi,Int.toNat_natCast,List.length_map,g,and_self,List.getD_cons_zero,C.toStr,C.is,List.length_cons,List.length_nil,Nat.zero_add,Nat.zero_lt_succ,decide_true,hx,ro,bHx,List.filter_cons,Bool.and_self]
   by_cases hk:aBy y=2
   ·have it:aDf y=true:=by unfold aDf;rw[hk];rfl
    have e:=ih (i+1) (acc++[bP9 y]) (by omega) (by omega) (by simp;omega)
    rw[List.length_append]at e
    simp only[List.append_assoc,List.length_cons,List.length_nil,Nat.zero_add]at e
    simp only[hk,it,if_true,List.map_cons]
    exact e
   ·have it:aDf y=false:=by unfold aDf;rw[decide_eq_false hk]
    simp only[hk,it,if_false,Bool.false_eq_true]
    exact ih (i+1) acc (by omega) (by omega) (by omega)
  ·have e:i=lo.length:=by omega
   subst e
   have hi':¬((lo.length:Int)<(lo.length:Int)):=by omega
   have lp:=fun v'=>aVi v' ns es os ss r x hd lo hlo hlt c hc hl 9223372036854775808 0 (acc++[bPa]) (by omega) (by omega) (by simp;omega)
   simp only[List.length_append,List.append_assoc,List.length_cons,List.length_nil,Nat.zero_add,List.drop_zero]at lp
   simp only[aA0,aA1,decide_eq_true_eq,hi',if_false,List.length_map,ro,bHy,decide_true,Bool.and_self,if_true,List.drop_length,List.filter_nil,List.map_nil,List.nil_append,bAs]
   by_cases hv:inB v 1 2=true
   ·simp only[hv,if_true]
    exact lp v
   ·simp only[hv,if_false,Bool.false_eq_true]
    exact lp 0
theorem bJd (v:Int) (ns es os ss:List (List C)) (r x:Int) (hd:aI1 ns es=true) (lo:List (List UInt8)) (hlo:lo.length≤1048576) (hlt:∀ s∈lo,s.length≤1048576) (c:List Lk) (hc:∀ y∈c,y.2=aB8 (nds ns) (ens es) y.1) (hl:c.length≤16):∀ (n i:Nat) (acc:List Opx),i≤lo.length→lo.length<i+n→acc.length≤17+i →
  (aBf aFk aAa (sg [aB2,pI] [rSl 58]) Tryz.f20 [.r,.r,.r,.r,.r,.r,.r,.l,.r,.b] n (aQy v ns es os ss r x acc.length (acc.map eOp) c.length (aBd c) lo.length (lo.map aB5) i)).eval=some [.sl ((acc++(aAy ((lo.drop i).filter aDf)++(aEa (bAs v) c++aAy (lo.reverse.filter aP6)))).map eOp)]:=by
 intro n
 induction n with
 |zero=>intro i acc h1 h2;omega
 |succ n ih =>
  intro i acc h1 hn h3
  rw[aAi _ _ _ _ _ _ _ (by kernel_rfl),bBo]
  have ro:=aTd (acc.length+1) (by omega)
  by_cases hi:i<lo.length
  ·have g:=aAv aB5 lo [] i hi
   have w:IntKind.i64.wrap ((i:Int)+1)=((i+1:Nat):Int):=by rw[aAd]<;>omega
   have hz:(0:Int)≤i:=by omega
   have hi':(i:Int)<lo.length:=by omega
   have hm:lo.getD i []∈lo:=by rw[List.getD_eq_getElem?_getD,List.getElem?_eq_getElem hi];exact List.getElem_mem hi
   have hx:=hlt _ hm
   rw[aB9 lo i [] hi]
   generalize lo.getD i []=y at g hx ⊢
   simp only[aA0,aA1,if_true,decide_eq_true_eq,Bool.and_eq_true,w,hz,hi',hi,Int.toNat_natCast,List.length_map,g,and_self,List.getD_cons_zero,C.toStr,C.is,List.length_cons,List.length_nil,Nat.zero_add,Nat.zero_lt_succ,decide_true,hx,ro,bHx,List.filter_cons,Bool.and_self]
   by_cases hk:aBy y=2
   ·have it:aDf y=true:=by unfold aDf;rw[hk];rfl
    have e:=bJa v ns es os ss r x hd lo hlo hlt c hc hl n (i+1) (acc++[bP9 y]) (by omega) (by omega) (by simp;omega)
    rw[List.length_append]at e
    simp only[List.append_assoc,List.length_cons,List.length_nil,Nat.zero_add]at e
    simp only[hk,it,if_true,aSk,List.cons_append,List.append_assoc]
    exact e
   ·have it:aDf y=false:=by unfold aDf;rw[decide_eq_false hk]
    simp only[hk,it,if_false,Bool.false_eq_true]
    exact ih (i+1) acc (by omega) (by omega) (by omega)
  ·have e:i=lo.length:=by omega
   subst e
   have hi':¬((lo.length:Int)<(lo.length:Int)):=by omega
   have nz:aAy []=[]:=rfl
   have lp:=fun v'=>aVi v' ns es os ss r x hd lo hlo hlt c hc hl 9223372036854775808 0 acc (by omega) (by omega) (by omega)
   simp only[List.drop_zero]at lp
   simp only[aA0,aA1,decide_eq_true_eq,hi',if_false,List.drop_length,List.filter_nil,nz,List.nil_append,bAs]
   by_cases hv:inB v 1 2=true
   ·simp only[hv,if_true]
    exact lp v
   ·simp only[hv,if_false,Bool.false_eq_true]
    exact lp 0
theorem bJe (v:Int) (ns es os ss:List (List C)) (r x:Int) (hd:aI1 ns es=true) (he:aR8 es=true) (c:List Lk) (hc:∀ y∈c,y.2=aB8 (nds ns) (ens es) y.1) (hl:c.length≤16):∀ (n i:Nat) (acc:List Opx),i≤c.length→c.length<i+n→acc.length≤i →
  (aBf aFk aAa (sg [aB2,pI] [rSl 58]) Tryz.f20 [.r,.r,.r,.l,.r,.b] n (aKb v ns es os ss r x acc.length (acc.map eOp) c.length (aBd c) i)).eval=some [.sl ((acc++(aPr ns es (c.drop i)++bVi ns es ss v c)).map eOp)]:=by
 have hne:=aVz hd
 obtain⟨l1,l2,l3⟩:=aP4 ns he
 intro n
 induction n with
 |zero=>intro i acc h1 h2;omega
 |succ n ih =>
  intro i acc h1 hn h3
  rw[aAi _ _ _ _ _ _ _ (by kernel_rfl),bBp]
  have ro:=aTd (acc.length+1) (by omega)
  by_cases hi:i<c.length
  ·have g:=bN3 c i hi
   have w:IntKind.i64.wrap ((i:Int)+1)=((i+1:Nat):Int):=by rw[aAd]<;>omega
   have hz:(0:Int)≤i:=by omega
   have hi':(i:Int)<c.length:=by omega
   rw[aB9 c i (0,[]) hi,aZr]
   generalize c.getD i (0,[])=y at g ⊢
   have e1:=ih (i+1) acc (by omega) (by omega) (by omega)
   have e2:=ih (i+1) (acc++[cA0 (aAm y.1)]) (by omega) (by omega) (by simp;omega)
   rw[List.length_append]at e2
   simp only[List.append_assoc,List.length_cons,List.length_nil,Nat.zero_add]at e2
   simp only[aA0,aA1,if_true,decide_eq_true_eq,Bool.and_eq_true,w,hz,hi',hi,Int.toNat_natCast,aLs,Nat.zero_add,g,and_self,List.getD_cons_zero,C.toInt,C.is,List.length_cons,List.length_nil,Nat.zero_lt_succ,decide_true,beq_self_eq_true,Bool.and_self,List.length_map,hne,ro,bXx,bne_iff_ne,ne_eq,ite_self]
   by_cases hrs:aLq (nds ns) (ens es) (aAm y.1)=((aEg (nds ns) (ens es) (aAm y.1)).length:Nat)
   ·simp only[hrs,not_true_eq_false,if_false,List.nil_append,ite_self]
    exact e1
   ·simp only[hrs,not_false_eq_true,if_true,List.append_assoc,ite_self]
    exact e2
  ·have e:i=c.length:=by omega
   subst e
   have hi':¬((c.length:Int)<(c.length:Int)):=by omega
   have nz:aPr ns es []=[]:=rfl
   have lp:=fun a (ha:a.length≤17)=>bJd v ns es os ss r x hd (aD7 ns es) l1 l2 c hc hl 9223372036854775808 0 a (by omega) (by omega) (by omega)
   simp only[List.drop_zero]at lp
   simp only[aA0,aA1,decide_eq_true_eq,hi',if_false,hd,he,ro,bHy,aJo,decide_true,Bool.and_self,if_true,List.drop_length,nz,List.nil_append,List.length_map]
   unfold bVi
   rw[bYg _ l3]
   by_cases hs:ss=[]
   ·have hs':¬(0:Int)<((ss.length:Nat):Int):=by rw[hs];simp
    simp only[hs',hs,if_true,if_false,List.nil_append]
    rw[hs]at lp
    exact lp acc (by omega)
   ·have hs':(0:Int)<((ss.length:Nat):Int):=by have:=List.length_pos_iff.2 hs;omega
    have:=lp (acc++[bPa]) (by simp;omega)
    rw[List.length_append]at this
    simp only[List.append_assoc,List.length_cons,List.length_nil,Nat.zero_add]at this
    simp only[hs',hs,if_true,if_false,List.append_assoc]
    exact this
theorem bYj:aA6 Tryz.prog aFk:=aA5 (by simp[aD9,aCx,aPx,aPu,aSi,aLe,bFj,bFp,bBh])
theorem aOz:aAn Tryz.prog 20 (sg [aB2,pI] [rSl 58]) aG5:=aA4 bYj aA7 Tryz.func20 (by kernel_rfl) fun cs outs hk h=>by
 unfold aG5 at h
 split at h
 ·simp only[Option.some.injEq,Prod.mk.injEq,Bool.and_eq_true,decide_eq_true_eq]at h
  obtain⟨⟨hd,he,hs⟩,rfl⟩:=h
  rename_i ns es os ss r x v
  rw[aA9,bOs]
  have hb:((aBd (aCe (nds ns) (ens es))).all fun row=>decide (row.length=1))=true:=by simp[aBd]
  have hn':(aCe (nds ns) (ens es)).length≤16:=aEs (nds ns) (ens es) 16 0 0
  have lp:=bJe v ns es os ss r x hd he (aCe (nds ns) (ens es)) (fun y hy=>aMc _ _ _ _ _ y hy) hn' 9223372036854775808 0 [] (by omega) (by omega) (by simp)
  simp only[aA0,hd,hb,Bool.and_self,if_true]
  refine Eq.trans ?_ lp
  rw[←aLs]
  rfl
 ·cases h
noncomputable section
def bAg:Env:=mkE [] [(20,(sg [aB2,pI] [rSl 58]),aG5)]
def bAk:Env:=mkE [] [(21,(sg [aB2,pI] [rSl 58]),aG5)]
def aXh (m:Int) (n:Nat) (o:List (List C)) (i:Int):St:=st1 [(5,aAw m),(6,.l (.ref 0 0 n)),(7,aAw i)] 4 o
def bEg (m:Int) (n:Nat) (o:List (List C)) (k i:Int):St:=st1 [(5,aAw m),(10,.l (.ref 0 0 n)),(11,aAw k),(12,aAw i)] 4 o
def bEj:Env:=mkE [(4,[5,6,7])] [(20,(sg [aB2,pI] [rSl 58]),aG5)]
def bEm:Env:=mkE [(3,[5,10,11,12])] [(21,(sg [aB2,pI] [rSl 58]),aG5)]
def bAj:Env:=mkE [] [(7,(sg [aGn,pI] [rI]),aIo),(9,(sg [aGn] [bS8]),aIm),(11,(sg [aB2,aB2] [rB]),aJ7),(8,(sg [aB2,pI] [rI]),aFw),(10,(sg [aB2,pI] [rI]),aFw)]
def bUl:Env:=mkE [] [(7,(sg [aGn,pI] [rI]),aIo),(9,(sg [aGn] [bS8]),aIm),(11,(sg [aB2,aB2] [rB]),aJ7),(12,(sg [aB2,pI] [rI]),aEy),(13,(sg [aB2,pI] [rI]),aEy)]
def bUm:Env:=mkE [] [(7,(sg [aGn,pI] [rI]),aIo),(9,(sg [aGn] [bS8]),aIm),(11,(sg [aB2,aB2] [rB]),aJ7),(17,(sg [bSg,pI] [rI]),aW6),(22,(sg [pSl 58,pSl 58] [rB]),aWz),(23,(sg [.wr false [(.slice 58,true)],pI] [rI]),aW3),(24,(sg [pSl 58,pI] [rI]),aWo),(21,(sg [aB2,pI] [rSl 58]),aG5),(20,(sg [aB2,pI] [rSl 58]),aG5)]
end
theorem bBr (H:List Pt→Nat→St→T (List C)) (ns:List (List C)) (es:List (List C)) (os:List (List C)) (ss:List (List C)) (r:Int) (x:Int) (v:Int):(aAg bAg aAa (sg [aB2,pI] [rI]) Tryz.f8 H [C.sl ns,C.sl es,C.sl os,C.sl ss,C.int .i64 r,C.int .i64 x,C.int .i64 v]).eval=((.must (aI1 ns es&&(aR8 es&&decide (ss.length≤1048576))) (.must ((true&&(List.map eOp (aBj ns es ss v)).all fun row=>decide (row.length=4))&&true&&true&&true) (.ret [C.int .i64 (↑(List.map eOp (aBj ns es ss v)).length:Int)]))):T (List C)).eval:=aAc (by kernel_rfl)
theorem bDb (H:List Pt→Nat→St→T (List C)) (ns:List (List C)) (es:List (List C)) (os:List (List C)) (ss:List (List C)) (r:Int) (x:Int) (v:Int):(aAg bAk aAa (sg [aB2,pI] [rI]) Tryz.f10 H [C.sl ns,C.sl es,C.sl os,C.sl ss,C.int .i64 r,C.int .i64 x,C.int .i64 v]).eval=((.must (aI1 ns es&&(aR8 es&&decide (ss.length≤1048576))) (.must ((true&&(List.map eOp (aBj ns es ss v)).all fun row=>decide (row.length=4))&&true&&true&&true) (.ret [C.int .i64 (↑(List.map eOp (aBj ns es ss v)).length:Int)]))):T (List C)).eval:=aAc (by kernel_rfl)
theorem bOo (H:List Pt→Nat→St→T (List C)) (ns:List (List C)) (es:List (List C)) (os:List (List C)) (ss:List (List C)) (r:Int) (x:Int) (v:Int):(aAg bEj aAa (sg [aB2,pI] [rI]) Tryz.f12 H [C.sl ns,C.sl es,C.sl os,C.sl ss,C.int .i64 r,C.int .i64 x,C.int .i64 v]).eval=((.must (aI1 ns es&&(aR8 es&&decide (ss.length≤1048576))) (.must ((true&&(List.map eOp (aBj ns es ss v)).all fun row=>decide (row.length=4))&&true&&true&&true) (H [Pt.r,Pt.r,Pt.r,Pt.l,Pt.r,Pt.b] 9223372036854775808 (aXh ((0:Int)) ((List.map eOp (aBj ns es ss v)).length) (List.map eOp (aBj ns es ss v)) ((0:Int)))))):T (List C)).eval:=aAc (by kernel_rfl)
theorem bPy (H:List Pt→Nat→St→T (List C)) (ns:List (List C)) (es:List (List C)) (os:List (List C)) (ss:List (List C)) (r:Int) (x:Int) (v:Int):(aAg bEm aAa (sg [aB2,pI] [rI]) Tryz.f13 H [C.sl ns,C.sl es,C.sl os,C.sl ss,C.int .i64 r,C.int .i64 x,C.int .i64 v]).eval=((.must (aI1 ns es&&(aR8 es&&decide (ss.length≤1048576))) (.must ((true&&(List.map eOp (aBj ns es ss v)).all fun row=>decide (row.length=4))&&true&&true&&true) (H [Pt.r,Pt.r,Pt.l,Pt.r,Pt.b] 9223372036854775808 (bEg ((0:Int)) ((List.map eOp (aBj ns es ss v)).length) (List.map eOp (aBj ns es ss v)) ((↑(List.map eOp (aBj ns es ss v)).length:Int)) ((0:Int)))))):T (List C)).eval:=aAc (by kernel_rfl)
theorem bFb (H:List Pt→Nat→St→T (List C)) (m0:Int) (n:Nat) (o:List (List C)) (i:Int) (k:Nat):(aB1 bEj aAa (sg [aB2,pI] [rI]) Tryz.f12 H [Pt.r,Pt.r,Pt.r,Pt.l,Pt.r,Pt.b] k (aXh m0 n o i)).eval=((.ask (decide (i<(↑n:Int))) (.must (decide ((0:Int)≤i)&&decide (i<(↑n:Int))) (.must (decide (0+i.toNat<o.length)&&(decide (0+3<(o.getD (0+i.toNat) []).length)&&C.is K.str ((o.getD (0+i.toNat) []).getD (0+3) (C.fn 0 []))&&true)) (.ask (decide (m0<(↑((o.getD (0+i.toNat) []).getD (0+3) (C.fn 0 [])).toStr.length:Int))) (.must (decide ((0:Int)≤i)&&decide (i<(↑n:Int))) (.must (decide (0+i.toNat<o.length)&&(decide (0+3<(o.getD (0+i.toNat) []).length)&&C.is K.str ((o.getD (0+i.toNat) []).getD (0+3) (C.fn 0 []))&&true)) (H [Pt.r,Pt.r,Pt.r,Pt.l,Pt.r,Pt.b] k (aXh ((↑((o.getD (0+i.toNat) []).getD (0+3) (C.fn 0 [])).toStr.length:Int)) (n) (o) (IntKind.i64.wrap (i+(1:Int))))))) (H [Pt.r,Pt.r,Pt.r,Pt.l,Pt.r,Pt.b] k (aXh (m0) (n) (o) (IntKind.i64.wrap (i+(1:Int)))))))) (.ret [C.int .i64 m0])):T (List C)).eval:=aAc (by kernel_rfl)
theorem bGv (H:List Pt→Nat→St→T (List C)) (m0:Int) (n:Nat) (o:List (List C)) (k2:Int) (i:Int) (k:Nat):(aB1 bEm aAa (sg [aB2,pI] [rI]) Tryz.f13 H [Pt.r,Pt.r,Pt.l,Pt.r,Pt.b] k (bEg m0 n o k2 i)).eval=((.ask (decide (i<k2)) (.must (decide ((0:Int)≤i)&&decide (i<(↑n:Int))) (.must (decide (0+i.toNat<o.length)&&(decide (0<(o.getD (0+i.toNat) []).length)&&C.is (K.int .i64) ((o.getD (0+i.toNat) []).getD 0 (C.fn 0 []))&&(decide (0+1<(o.getD (0+i.toNat) []).length)&&C.is K.str ((o.getD (0+i.toNat) []).getD (0+1) (C.fn 0 []))&&(decide (0+1+1<(o.getD (0+i.toNat) []).length)&&C.is K.str ((o.getD (0+i.toNat) []).getD (0+1+1) (C.fn 0 []))&&(decide (0+1+1+1<(o.getD (0+i.toNat) []).length)&&C.is K.str ((o.getD (0+i.toNat) []).getD (0+1+1+1) (C.fn 0 []))&&true))))) (H [Pt.r,Pt.r,Pt.l,Pt.r,Pt.b] k (bEg (cA3 m0 (↑((o.getD (0+i.toNat) []).getD (0+1+1+1) (C.fn 0 [])).toStr.length:Int)) (n) (o) (k2) (IntKind.i64.wrap (i+(1:Int))))))) (.ret [C.int .i64 m0])):T (List C)).eval:=aAc (by kernel_rfl)
theorem bCk (H:List Pt→Nat→St→T (List C)) (ns:List (List C)) (es:List (List C)) (os:List (List C)) (ss:List (List C)) (r:Int) (x:Int) (v:Int):(aAg bAj aAa (sg [aGn,pI] [rB]) Tryz.f3 H [C.sl ns,C.sl es,C.sl os,C.sl ss,C.int .i64 r,C.int .i64 x,C.int .i64 v]).eval=((.must (decide ((0:Int)≤(1048576:Int))&&decide ((1048576:Int)≤(1048576:Int))&&(aBm 281474976710656 ns es os ss&&aBe ns es os ss&&aE6 ns es os ss)) (.ask (decide (aKm (nds ns) (ens es) (ens os) (aCb ss) 1048576<(0:Int))) (.ret [C.bool true]) (.must (aBm 1048576 ns es os ss&&aBe ns es os ss) (.must ((true&&ns.all fun row=>decide (row.length=3))&&((true&&es.all fun row=>decide (row.length=2))&&((true&&os.all fun row=>decide (row.length=2))&&((true&&ss.all fun row=>decide (row.length=1))&&(decide (0<1)&&true&&(decide (0<1)&&true&&true)))))&&true&&true) (.must (aI1 (List.take ns.length ns) (List.take es.length es)&&(aR8 (List.take es.length es)&&decide ((List.take ss.length ss).length≤1048576))) (.must (aBm 1048576 ns es os ss&&aBe ns es os ss) (.must ((true&&ns.all fun row=>decide (row.length=3))&&((true&&es.all fun row=>decide (row.length=2))&&((true&&os.all fun row=>decide (row.length=2))&&((true&&ss.all fun row=>decide (row.length=1))&&(decide (0<1)&&true&&(decide (0<1)&&true&&true)))))&&true&&true) (.must (aI1 (List.take ns.length ns) (List.take es.length es)&&(aR8 (List.take es.length es)&&decide ((List.take ss.length ss).length≤1048576))) (.ask (Int.ofNat (aBj (List.take ns.length ns) (List.take es.length es) (List.take ss.length ss) v).length != Int.ofNat (aBj (List.take ns.length ns) (List.take es.length es) (List.take ss.length ss) v).length) (.ret [C.bool false]) (.must (aBm 1048576 ns es os ss&&aBe ns es os ss) (.must ((true&&ns.all fun row=>decide (row.length=3))&&((true&&es.all fun row=>decide (row.length=2))&&((true&&os.all fun row=>decide (row.length=2))&&((true&&ss.all fun row=>decide (row.length=1))&&(decide (0<1)&&true&&(decide (0<1)&&true&&true)))))&&true&&true) (.must (aBm 1048576 (List.take ns.length ns) (List.take es.length es) (List.take os.length os) (List.take ss.length ss)&&aBe (List.take ns.length ns) (List.take es.length es) (List.take os.length os) (List.take ss.length ss)&&aBe (List.take ns.length ns) (List.take es.length es) (List.take os.length os) (List.take ss.length ss)) (.ask (bZg (List.take ns.length ns) (List.take es.length es) (List.take os.length os) (List.take ss.length ss) r x (List.take ns.length ns) (List.take es.length es) (List.take os.length os) (List.take ss.length ss) r x) (.ret [C.bool true]) (.ret [C.bool false])))))))))))))):T (List C)).eval:=aAc (by kernel_rfl)
theorem bPi (H:List Pt→Nat→St→T (List C)) (ns:List (List C)) (es:List (List C)) (os:List (List C)) (ss:List (List C)) (r:Int) (x:Int) (v:Int):(aAg bUl aAa (sg [aGn,pI] [rB]) Tryz.f4 H [C.sl ns,C.sl es,C.sl os,C.sl ss,C.int .i64 r,C.int .i64 x,C.int .i64 v]).eval=((.must (decide ((0:Int)≤(1048576:Int))&&decide ((1048576:Int)≤(1048576:Int))&&(aBm 281474976710656 ns es os ss&&aBe ns es os ss&&aE6 ns es os ss)) (.ask (decide (aKm (nds ns) (ens es) (ens os) (aCb ss) 1048576<(0:Int))) (.ret [C.bool true]) (.must (aBm 1048576 ns es os ss&&aBe ns es os ss) (.must ((true&&ns.all fun row=>decide (row.length=3))&&((true&&es.all fun row=>decide (row.length=2))&&((true&&os.all fun row=>decide (row.length=2))&&((true&&ss.all fun row=>decide (row.length=1))&&(decide (0<1)&&true&&(decide (0<1)&&true&&true)))))&&true&&true) (.must (aI1 (List.take ns.length ns) (List.take es.length es)&&(aR8 (List.take es.length es)&&decide ((List.take ss.length ss).length≤1048576))) (.must (aBm 1048576 ns es os ss&&aBe ns es os ss) (.must ((true&&ns.all fun row=>decide (row.length=3))&&((true&&es.all fun row=>decide (row.length=2))&&((true&&os.all fun row=>decide (row.length=2))&&((true&&ss.all fun row=>decide (row.length=1))&&(decide (0<1)&&true&&(decide (0<1)&&true&&true)))))&&true&&true) (.must (aI1 (List.take ns.length ns) (List.take es.length es)&&(aR8 (List.take es.length es)&&decide ((List.take ss.length ss).length≤1048576))) (.ask (bCf (List.take ns.length ns) (List.take es.length es) (List.take ss.length ss) v != bCf (List.take ns.length ns) (List.take es.length es) (List.take ss.length ss) v) (.ret [C.bool false]) (.must (aBm 1048576 ns es os ss&&aBe ns es os ss) (.must ((true&&ns.all fun row=>decide (row.length=3))&&((true&&es.all fun row=>decide (row.length=2))&&((true&&os.all fun row=>decide (row.length=2))&&((true&&ss.all fun row=>decide (row.length=1))&&(decide (0<1)&&true&&(decide (0<1)&&true&&true)))))&&true&&true) (.must (aBm 1048576 (List.take ns.length ns) (List.take es.length es) (List.take os.length os) (List.take ss.length ss)&&aBe (List.take ns.length ns) (List.take es.length es) (List.take os.length os) (List.take ss.length ss)&&aBe (List.take ns.length ns) (List.take es.length es) (List.take os.length os) (List.take ss.length ss)) (.ask (bZg (List.take ns.length ns) (List.take es.length es) (List.take os.length os) (List.take ss.length ss) r x (List.take ns.length ns) (List.take es.length es) (List.take os.length os) (List.take ss.length ss) r x) (.ret [C.bool true]) (.ret [C.bool false])))))))))))))):T (List C)).eval:=aAc (by kernel_rfl)
theorem bPj (H:List Pt→Nat→St→T (List C)) (ns:List (List C)) (es:List (List C)) (os:List (List C)) (ss:List (List C)) (r:Int) (x:Int) (v:Int):(aAg bUm aAa (sg [aGn,pI] [rB]) Tryz.f6 H [C.sl ns,C.sl es,C.sl os,C.sl ss,C.int .i64 r,C.int .i64 x,C.int .i64 v]).eval=((.must (decide ((0:Int)≤(1048576:Int))&&decide ((1048576:Int)≤(1048576:Int))&&(aBm 281474976710656 ns es os ss&&aBe ns es os ss&&aE6 ns es os ss)) (.ask (decide (aKm (nds ns) (ens es) (ens os) (aCb ss) 1048576<(0:Int))) (.ret [C.bool true]) (.must (aBm 1048576 ns es os ss&&aBe ns es os ss) (.must ((true&&ns.all fun row=>decide (row.length=3))&&((true&&es.all fun row=>decide (row.length=2))&&((true&&os.all fun row=>decide (row.length=2))&&((true&&ss.all fun row=>decide (row.length=1))&&(decide (0<1)&&true&&(decide (0<1)&&true&&true)))))&&true&&true) (.must (aI1 (List.take ns.length ns) (List.take es.length es)&&(aR8 (List.take es.length es)&&decide ((List.take ss.length ss).length≤1048576))) (.must ((true&&(List.map eOp (aBj (List.take ns.length ns) (List.take es.length es) (List.take ss.length ss) v)).all fun row=>decide (row.length=4))&&true&&true&&true) (.must (aBm 1048576 ns es os ss&&aBe ns es os ss) (.must ((true&&ns.all fun row=>decide (row.length=3))&&((true&&es.all fun row=>decide (row.length=2))&&((true&&os.all fun row=>decide (row.length=2))&&((true&&ss.all fun row=>decide (row.length=1))&&(decide (0<1)&&true&&(decide (0<1)&&true&&true)))))&&true&&true) (.must (aI1 (List.take ns.length ns) (List.take es.length es)&&(aR8 (List.take es.length es)&&decide ((List.take ss.length ss).length≤1048576))) (.must ((true&&(List.map eOp (aBj (List.take ns.length ns) (List.take es.length es) (List.take ss.length ss) v)).all fun row=>decide (row.length=4))&&true&&true&&true) (.must (decide ((List.take (List.map eOp (aBj (List.take ns.length ns) (List.take es.length es) (List.take ss.length ss) v)).length (List.map eOp (aBj (List.take ns.length ns) (List.take es.length es) (List.take ss.length ss) v))).length≤16777216)&&(aAf [K.int .i64,K.str,K.str,K.str] (List.take (List.map eOp (aBj (List.take ns.length ns) (List.take es.length es) (List.take ss.length ss) v)).length (List.map eOp (aBj (List.take ns.length ns) (List.take es.length es) (List.take ss.length ss) v)))&&aAf [K.int .i64,K.str,K.str,K.str] (List.take (List.map eOp (aBj (List.take ns.length ns) (List.take es.length es) (List.take ss.length ss) v)).length (List.map eOp (aBj (List.take ns.length ns) (List.take es.length es) (List.take ss.length ss) v))))) (.ask (decide (ops (List.take (List.map eOp (aBj (List.take ns.length ns) (List.take es.length es) (List.take ss.length ss) v)).length (List.map eOp (aBj (List.take ns.length ns) (List.take es.length es) (List.take ss.length ss) v)))=ops (List.take (List.map eOp (aBj (List.take ns.length ns) (List.take es.length es) (List.take ss.length ss) v)).length (List.map eOp (aBj (List.take ns.length ns) (List.take es.length es) (List.take ss.length ss) v))))) (.must (aBm 1048576 ns es os ss&&aBe ns es os ss) (.must ((true&&ns.all fun row=>decide (row.length=3))&&((true&&es.all fun row=>decide (row.length=2))&&((true&&os.all fun row=>decide (row.length=2))&&((true&&ss.all fun row=>decide (row.length=1))&&(decide (0<1)&&true&&(decide (0<1)&&true&&true)))))&&true&&true) (.must (aBm 1048576 (List.take ns.length ns) (List.take es.length es) (List.take os.length os) (List.take ss.length ss)&&aBe (List.take ns.length ns) (List.take es.length es) (List.take os.length os) (List.take ss.length ss)&&aBe (List.take ns.length ns) (List.take es.length es) (List.take os.length os) (List.take ss.length ss)) (.ask (bZg (List.take ns.length ns) (List.take es.length es) (List.take os.length os) (List.take ss.length ss) r x (List.take ns.length ns) (List.take es.length es) (List.take os.length os) (List.take ss.length ss) r x) (.must (true&&(true&&(true&&(true&&(true&&(true&&(true&&true))))))&&(decide (ns.length=ns.length)&&(decide (es.length=es.length)&&(decide (os.length=os.length)&&(decide (ss.length=ss.length)&&true)))&&true)) (.must (aBe ns es os ss&&(aBm 1048576 ns es os ss&&(decide ((0:Int)≤(1:Int))&&decide ((1:Int)≤(1073741824:Int))))) (.must (decide (0<1)&&true&&true&&true&&((decide ((mk mkN 3 1 ns.length).length=ns.length)&&(mk mkN 3 1 ns.length).all fun row=>decide (row.length=3))&&((decide ((mk aSn 2 ((1:Int)+(3:Int)*(↑ns.length:Int)) es.length).length=es.length)&&(mk aSn 2 ((1:Int)+(3:Int)*(↑ns.length:Int)) es.length).all fun row=>decide (row.length=2))&&((decide ((mk aSn 2 ((1:Int)+(3:Int)*(↑ns.length:Int)+(2:Int)*(↑es.length:Int)) os.length).length=os.length)&&(mk aSn 2 ((1:Int)+(3:Int)*(↑ns.length:Int)+(2:Int)*(↑es.length:Int)) os.length).all fun row=>decide (row.length=2))&&((decide ((mk mkS 1 ((1:Int)+(3:Int)*(↑ns.length:Int)+(2:Int)*(↑es.length:Int)+(2:Int)*(↑os.length:Int)) ss.length).length=ss.length)&&(mk mkS 1 ((1:Int)+(3:Int)*(↑ns.length:Int)+(2:Int)*(↑es.length:Int)+(2:Int)*(↑os.length:Int)) ss.length).all fun row=>decide (row.length=1))&&true)))&&true)) (.must (decide ((List.take (List.map eOp (aBj (List.take ns.length ns) (List.take es.length es) (List.take ss.length ss) v)).length (List.map eOp (aBj (List.take ns.length ns) (List.take es.length es) (List.take ss.length ss) v))).length≤16777216)&&(aAf [K.int .i64,K.str,K.str,K.str] (List.take (List.map eOp (aBj (List.take ns.length ns) (List.take es.length es) (List.take ss.length ss) v)).length (List.map eOp (aBj (List.take ns.length ns) (List.take es.length es) (List.take ss.length ss) v)))&&aAf [K.int .i64,K.str,K.str,K.str] (List.take (List.map eOp (aBj (List.take ns.length ns) (List.take es.length es) (List.take ss.length ss) v)).length (List.map eOp (aBj (List.take ns.length ns) (List.take es.length es) (List.take ss.length ss) v))))) (.ask (decide (ops (List.take (List.map eOp (aBj (List.take ns.length ns) (List.take es.length es) (List.take ss.length ss) v)).length (List.map eOp (aBj (List.take ns.length ns) (List.take es.length es) (List.take ss.length ss) v)))=ops (List.take (List.map eOp (aBj (List.take ns.length ns) (List.take es.length es) (List.take ss.length ss) v)).length (List.map eOp (aBj (List.take ns.length ns) (List.take es.length es) (List.take ss.length ss) v))))) (.must (true&&(true&&true)&&(decide ((List.map eOp (aBj (List.take ns.length ns) (List.take es.length es) (List.take ss.length ss) v)).length=(List.map eOp (aBj (List.take ns.length ns) (List.take es.length es) (List.take ss.length ss) v)).length)&&true&&true)) (.must (aAf [K.int .i64,K.str,K.str,K.str] (List.map eOp (aBj (List.take ns.length ns) (List.take es.length es) (List.take ss.length ss) v))&&(decide ((List.map eOp (aBj (List.take ns.length ns) (List.take es.length es) (List.take ss.length ss) v)).length≤16777216)&&(decide ((0:Int)≤(1:Int))&&decide ((1:Int)≤(1099511627776:Int))))) (.must (decide (0<1)&&true&&true&&true&&((decide ((mk aSm 4 1 (List.map eOp (aBj (List.take ns.length ns) (List.take es.length es) (List.take ss.length ss) v)).length).length=(List.map eOp (aBj (List.take ns.length ns) (List.take es.length es) (List.take ss.length ss) v)).length)&&(mk aSm 4 1 (List.map eOp (aBj (List.take ns.length ns) (List.take es.length es) (List.take ss.length ss) v)).length).all fun row=>decide (row.length=4))&&true&&true)) (.must (aAf [K.int .i64,K.str,K.str,K.str] (List.take (List.map eOp (aBj (List.take ns.length ns) (List.take es.length es) (List.take ss.length ss) v)).length (mk aSm 4 1 (List.map eOp (aBj (List.take ns.length ns) (List.take es.length es) (List.take ss.length ss) v)).length))&&(decide ((List.take (List.map eOp (aBj (List.take ns.length ns) (List.take es.length es) (List.take ss.length ss) v)).length (mk aSm 4 1 (List.map eOp (aBj (List.take ns.length ns) (List.take es.length es) (List.take ss.length ss) v)).length)).length≤16777216)&&(decide ((0:Int)≤(1:Int))&&decide ((1:Int)≤(1099511627776:Int))))) (.ask (decide (aIz (ops (List.take (List.map eOp (aBj (List.take ns.length ns) (List.take es.length es) (List.take ss.length ss) v)).length (mk aSm 4 1 (List.map eOp (aBj (List.take ns.length ns) (List.take es.length es) (List.take ss.length ss) v)).length))) (1:Int)<(0:Int))) (.ret [C.bool false]) (.ask (aIz (ops (List.take (List.map eOp (aBj (List.take ns.length ns) (List.take es.length es) (List.take ss.length ss) v)).length (mk aSm 4 1 (List.map eOp (aBj (List.take ns.length ns) (List.take es.length es) (List.take ss.length ss) v)).length))) (1:Int) != Int.ofNat (1+4*(List.map eOp (aBj (List.take ns.length ns) (List.take es.length es) (List.take ss.length ss) v)).length)) (.ret [C.bool false]) (.must (aBm 1048576 ns es os ss&&aBe ns es os ss) (.must ((true&&ns.all fun row=>decide (row.length=3))&&((true&&es.all fun row=>decide (row.length=2))&&((true&&os.all fun row=>decide (row.length=2))&&((true&&ss.all fun row=>decide (row.length=1))&&(decide (0<1)&&true&&(decide (0<1)&&true&&true)))))&&true&&true) (.must (aI1 (List.take ns.length ns) (List.take es.length es)&&(aR8 (List.take es.length es)&&decide ((List.take ss.length ss).length≤1048576))) (.must ((true&&(List.map eOp (aBj (List.take ns.length ns) (List.take es.length es) (List.take ss.length ss) v)).all fun row=>decide (row.length=4))&&true&&true&&true) (.must (decide ((List.take (List.map eOp (aBj (List.take ns.length ns) (List.take es.length es) (List.take ss.length ss) v)).length (List.map eOp (aBj (List.take ns.length ns) (List.take es.length es) (List.take ss.length ss) v))).length≤16777216)&&(aAf [K.int .i64,K.str,K.str,K.str] (List.take (List.map eOp (aBj (List.take ns.length ns) (List.take es.length es) (List.take ss.length ss) v)).length (List.map eOp (aBj (List.take ns.length ns) (List.take es.length es) (List.take ss.length ss) v)))&&aAf [K.int .i64,K.str,K.str,K.str] (List.take (List.map eOp (aBj (List.take ns.length ns) (List.take es.length es) (List.take ss.length ss) v)).length (List.map eOp (aBj (List.take ns.length ns) (List.take es.length es) (List.take ss.length ss) v))))) (.ask (decide (ops (List.take (List.map eOp (aBj (List.take ns.length ns) (List.take es.length es) (List.take ss.length ss) v)).length (List.map eOp (aBj (List.take ns.length ns) (List.take es.length es) (List.take ss.length ss) v)))=ops (List.take (List.map eOp (aBj (List.take ns.length ns) (List.take es.length es) (List.take ss.length ss) v)).length (List.map eOp (aBj (List.take ns.length ns) (List.take es.length es) (List.take ss.length ss) v))))) (.must (aAf [K.int .i64,K.str,K.str,K.str] (List.take (List.map eOp (aBj (List.take ns.length ns) (List.take es.length es) (List.take ss.length ss) v)).length (mk aSm 4 1 (List.map eOp (aBj (List.take ns.length ns) (List.take es.length es) (List.take ss.length ss) v)).length))&&(decide ((List.take (List.map eOp (aBj (List.take ns.length ns) (List.take es.length es) (List.take ss.length ss) v)).length (mk aSm 4 1 (List.map eOp (aBj (List.take ns.length ns) (List.take es.length es) (List.take ss.length ss) v)).length)).length≤16777216)&&(decide ((0:Int)≤(1:Int))&&decide ((1:Int)≤(1099511627776:Int))))) (.ask (decide (aIz (ops (List.take (List.map eOp (aBj (List.take ns.length ns) (List.take es.length es) (List.take ss.length ss) v)).length (mk aSm 4 1 (List.map eOp (aBj (List.take ns.length ns) (List.take es.length es) (List.take ss.length ss) v)).length))) (1:Int)<(0:Int))) (.ret [C.bool false]) (.ask (aIz (ops (List.take (List.map eOp (aBj (List.take ns.length ns) (List.take es.length es) (List.take ss.length ss) v)).length (mk aSm 4 1 (List.map eOp (aBj (List.take ns.length ns) (List.take es.length es) (List.take ss.length ss) v)).length))) (1:Int) != Int.ofNat (1+4*(List.map eOp (aBj (List.take ns.length ns) (List.take es.length es) (List.take ss.length ss) v)).length)) (.ret [C.bool false]) (.ret [C.bool true])))) (.ret [C.bool false]))))))))))))) (.ret [C.bool false])))))) (.ret [C.bool false]))))) (.ret [C.bool false]))))))))))))):T (List C)).eval:=aAc (by kernel_rfl)
theorem bOt:aA6 Tryz.prog bAg:=aA5 (by simp[aOz])
theorem aYl:aAn Tryz.prog 8 (sg [aB2,pI] [rI]) aFw:=aA4 bOt aA7 Tryz.func8 (by kernel_rfl) fun cs outs hk h=>by
 unfold aFw at h
 split at h
 ·simp only[Option.some.injEq,Prod.mk.injEq]at h
  obtain⟨h1,rfl⟩:=h
  rename_i ns es os ss r x v
  rw[aA9,bBr]
  simp only[aA0,aA2,h1,bJs,Bool.and_self,if_true,List.length_map]
 ·cases h
theorem bQ3:aA6 Tryz.prog bAk:=aA5 (by simp[aP7])
theorem aZ7:aAn Tryz.prog 10 (sg [aB2,pI] [rI]) aFw:=aA4 bQ3 aA7 Tryz.func10 (by kernel_rfl) fun cs outs hk h=>by
 unfold aFw at h
 split at h
 ·simp only[Option.some.injEq,Prod.mk.injEq]at h
  obtain⟨h1,rfl⟩:=h
  rename_i ns es os ss r x v
  rw[aA9,bDb]
  simp only[aA0,aA2,h1,bJs,Bool.and_self,if_true,List.length_map]
 ·cases h
theorem aRq {ns es os ss:List (List C)} (hl:aIg ns es os ss=true) (h:¬aKm (nds ns) (ens es) (ens os) (aCb ss) 1048576<0):(aI1 ns es&&(aR8 es&&decide (ss.length≤1048576)))=true:=by
 obtain⟨_,q2,_,q4,q5⟩:=aMl hl h
 obtain⟨k1,k2,k3,k4⟩:=aF4.1 q2
 obtain⟨l1,l2,l3,l4⟩:=aF5.1 q4
 obtain⟨_,_,_,_,_,a6,_⟩:=aSg _ _ _ _ h
 simp only[Bool.and_eq_true,decide_eq_true_eq]
 exact⟨q5,(aTw _).2 ⟨k2,l2,a6⟩,l4⟩
theorem aMo {ns es ss:List (List C)} (h:(aI1 ns es&&(aR8 es&&decide (ss.length≤1048576)))=true):aI1 ns es=true∧aR8 es=true∧ss.length≤1048576:=by
 simp only[Bool.and_eq_true,decide_eq_true_eq]at h
 exact⟨h.1,h.2.1,h.2.2⟩
theorem aS4 {A B:Type} (f:A→List B) (k:Nat):∀ l:List A,(∀ x∈l,(f x).length≤k)→(l.flatMap f).length≤l.length*k
 |[],_=>by simp
 |x::r,h=>by
  have ih:=aS4 f k r fun y hy=>h y (List.mem_cons_of_mem _ hy)
  have hx:=h x List.mem_cons_self
  rw[List.flatMap_cons,List.length_append,List.length_cons,Nat.add_mul,Nat.one_mul]
  omega
theorem aQ5 {ns es ss:List (List C)} (v:Int) (h:(aI1 ns es&&(aR8 es&&decide (ss.length≤1048576)))=true):(aBj ns es ss v).length≤16777216:=by
 obtain⟨h1,h2,h3⟩:=aMo h
 obtain⟨l1,_,_⟩:=aP4 ns h2
 have hn':(aCe (nds ns) (ens es)).length≤16:=aEs (nds ns) (ens es) 16 0 0
 have e1:(aPr ns es (aCe (nds ns) (ens es))).length≤(aCe (nds ns) (ens es)).length*1:=aS4 _ 1 _ fun x _=>by split<;>simp
 have e2:(aEa (bAs v) (aCe (nds ns) (ens es))).length≤(aCe (nds ns) (ens es)).length*5:=aS4 _ 5 _ fun x _=>by split<;>simp[aEk]
 have e3:=aJp ((aD7 ns es).filter aDf)
 have e4:=aJp (aL2 ((aD7 ns es).filter fun s=> !aDf s))
 rw[bC1]at e4
 have e5:((aD7 ns es).filter aDf).length≤(aD7 ns es).length:=List.length_filter_le _ _
 have e6:((aD7 ns es).filter fun s=> !aDf s).length≤(aD7 ns es).length:=List.length_filter_le _ _
 have e7:(if ss=[]then ([]:List Opx)else[bPa]).length≤1:=by split<;>simp
 unfold aBj
 simp only[List.length_append]
 omega
theorem bOp (l:List Opx) (hl:l.length≤16777216):∀ (n i m:Nat),i≤l.length→l.length<i+n →
  (aBf bEj aAa (sg [aB2,pI] [rI]) Tryz.f12 [.r,.r,.r,.l,.r,.b] n (aXh m l.length (l.map eOp) i)).eval=some [.int .i64 ((aHv (l.drop i) m:Nat):Int)]:=by
 intro n
 induction n with
 |zero=>intro i m h1 h2;omega
 |succ n ih =>
  intro i m h1 h2
  rw[aAi _ _ _ _ _ _ _ (by kernel_rfl),bFb]
  by_cases hi:i<l.length
  ·have g:=aAv eOp l ⟨0,[],[],[]⟩ i hi
   have w:IntKind.i64.wrap ((i:Int)+1)=((i+1:Nat):Int):=by rw[aAd]<;>omega
   have hz:(0:Int)≤i:=by omega
   have hi':(i:Int)<l.length:=by omega
   rw[aB9 l i ⟨0,[],[],[]⟩ hi]
   generalize l.getD i ⟨0,[],[],[]⟩=y at g ⊢
   simp only[aA0,aA1,if_true,decide_eq_true_eq,Bool.and_eq_true,w,hz,hi',hi,Int.toNat_natCast,Nat.zero_add,List.length_map,g,and_self,List.getD_cons_zero,List.getD_cons_succ,C.toStr,C.is,List.length_cons,List.length_nil,Nat.reduceAdd,Nat.reduceLT,decide_true,Int.ofNat_lt,aHv]
   by_cases hm:m<y.text.length
   ·simp only[hm,if_true]
    exact ih (i+1) _ (by omega) (by omega)
   ·simp only[hm,if_false]
    exact ih (i+1) _ (by omega) (by omega)
  ·have e:i=l.length:=by omega
   subst e
   have hi':¬((l.length:Int)<(l.length:Int)):=by omega
   simp only[aA1,aA2,decide_eq_true_eq,hi',if_false,List.drop_length,aHv]
theorem bPz (l:List Opx) (hl:l.length≤16777216):∀ (n i m:Nat),i≤l.length→l.length<i+n →
  (aBf bEm aAa (sg [aB2,pI] [rI]) Tryz.f13 [.r,.r,.l,.r,.b] n (bEg m l.length (l.map eOp) l.length i)).eval=some [.int .i64 ((aHv (l.drop i) m:Nat):Int)]:=by
 intro n
 induction n with
 |zero=>intro i m h1 h2;omega
 |succ n ih =>
  intro i m h1 h2
  rw[aAi _ _ _ _ _ _ _ (by kernel_rfl),bGv]
  by_cases hi:i<l.length
  ·have g:=aAv eOp l ⟨0,[],[],[]⟩ i hi
   have w:IntKind.i64.wrap ((i:Int)+1)=((i+1:Nat):Int):=by rw[aAd]<;>omega
   have hz:(0:Int)≤i:=by omega
   have hi':(i:Int)<l.length:=by omega
   rw[aB9 l i ⟨0,[],[],[]⟩ hi]
   generalize l.getD i ⟨0,[],[],[]⟩=y at g ⊢
   have im:cA3 (m:Int) (y.text.length:Int)=((if m<y.text.length then y.text.length else m:Nat):Int):=by
    unfold cA3
    by_cases hm:m<y.text.length
    ·rw[if_pos hm,if_pos (by omega)]
    ·rw[if_neg hm,if_neg (by omega)]
   simp only[aA0,aA1,if_true,decide_eq_true_eq,Bool.and_eq_true,w,hz,hi',hi,Int.toNat_natCast,Nat.zero_add,List.length_map,g,and_self,List.getD_cons_zero,List.getD_cons_succ,C.toStr,C.is,List.length_cons,List.length_nil,Nat.reduceAdd,Nat.reduceLT,Nat.zero_lt_succ,decide_true,beq_self_eq_true,im,aHv]
   exact ih (i+1) _ (by omega) (by omega)
  ·have e:i=l.length:=by omega
   subst e
   have hi':¬((l.length:Int)<(l.length:Int)):=by omega
   simp only[aA1,aA2,decide_eq_true_eq,hi',if_false,List.drop_length,aHv]
theorem bYi:aA6 Tryz.prog bEj:=aA5 (by simp[aOz])
theorem bJ6:aAn Tryz.prog 12 (sg [aB2,pI] [rI]) aEy:=aA4 bYi aA7 Tryz.func12 (by kernel_rfl) fun cs outs hk h=>by
 unfold aEy at h
 split at h
 ·simp only[Option.some.injEq,Prod.mk.injEq]at h
  obtain⟨h1,rfl⟩:=h
  rename_i ns es os ss r x v
  rw[aA9,bOo]
  have lp:=bOp (aBj ns es ss v) (aQ5 v h1) 9223372036854775808 0 0 (by omega) (by have:=aQ5 v h1;omega)
  simp only[aA0,h1,bJs,Bool.and_self,if_true]
  refine Eq.trans ?_ lp
  rw[aJu eOp (aBj ns es ss v)]
  rfl
 ·cases h
theorem bZ9:aA6 Tryz.prog bEm:=aA5 (by simp[aP7])
theorem bL5:aAn Tryz.prog 13 (sg [aB2,pI] [rI]) aEy:=aA4 bZ9 aA7 Tryz.func13 (by kernel_rfl) fun cs outs hk h=>by
 unfold aEy at h
 split at h
 ·simp only[Option.some.injEq,Prod.mk.injEq]at h
  obtain⟨h1,rfl⟩:=h
  rename_i ns es os ss r x v
  rw[aA9,bPy]
  have lp:=bPz (aBj ns es ss v) (aQ5 v h1) 9223372036854775808 0 0 (by omega) (by have:=aQ5 v h1;omega)
  simp only[aA0,h1,bJs,Bool.and_self,if_true]
  refine Eq.trans ?_ lp
  rw[aJu eOp (aBj ns es ss v)]
  rfl
 ·cases h
theorem bPk:aA6 Tryz.prog bAj:=aA5 (by simp[aJh,aL9,aM9,aYl,aZ7])
theorem aYt:aAn Tryz.prog 3 (sg [aGn,pI] [rB]) aEf:=aA4 bPk aA7 Tryz.func3 (by kernel_rfl) fun cs outs hk h=>by
 unfold aEf at h
 split at h
 ·simp only[Option.some.injEq,Prod.mk.injEq,Bool.and_eq_true]at h
  obtain⟨⟨hl,hrg⟩,rfl⟩:=h
  rename_i ns es os ss r x v
  rw[aA9,bCk]
  have hl':=hl
  unfold aIg at hl'
  simp only[Bool.and_eq_true]at hl'
  obtain⟨⟨g1,g2⟩,g3⟩:=hl'
  have d0:decide ((0:Int)≤1048576)=true:=by decide
  have d1:decide ((1048576:Int)≤1048576)=true:=by decide
  have d2:decide (0<1)=true:=by decide
  simp only[aA0,aA1,aA2,d0,d1,d2,g1,g2,g3,Bool.and_self,if_true,decide_eq_true_eq]
  by_cases hs:aKm (nds ns) (ens es) (ens os) (aCb ss) 1048576<0
  ·simp only[hs,if_true]
  ·have pk:=aRq hl hs
   obtain⟨p1,p2,p3⟩:=aMo pk
   obtain⟨_,_,_,q4,q5⟩:=aMl hl hs
   obtain⟨r1,r2,r3,r4⟩:=aX5 g2
   simp only[hs,if_false,List.take_length,g2,q4,q5,p2,p3,decide_true,r1,r2,r3,r4,Bool.and_self,if_true,bne_self_eq_false,Bool.false_eq_true,aX2]
 ·cases h
theorem bZ3:aA6 Tryz.prog bUl:=aA5 (by simp[aJh,aL9,aM9,bJ6,bL5])
theorem bKe:aAn Tryz.prog 4 (sg [aGn,pI] [rB]) aEf:=aA4 bZ3 aA7 Tryz.func4 (by kernel_rfl) fun cs outs hk h=>by
 unfold aEf at h
 split at h
 ·simp only[Option.some.injEq,Prod.mk.injEq,Bool.and_eq_true]at h
  obtain⟨⟨hl,hrg⟩,rfl⟩:=h
  rename_i ns es os ss r x v
  rw[aA9,bPi]
  have hl':=hl
  unfold aIg at hl'
  simp only[Bool.and_eq_true]at hl'
  obtain⟨⟨g1,g2⟩,g3⟩:=hl'
  have d0:decide ((0:Int)≤1048576)=true:=by decide
  have d1:decide ((1048576:Int)≤1048576)=true:=by decide
  have d2:decide (0<1)=true:=by decide
  simp only[aA0,aA1,aA2,d0,d1,d2,g1,g2,g3,Bool.and_self,if_true,decide_eq_true_eq]
  by_cases hs:aKm (nds ns) (ens es) (ens os) (aCb ss) 1048576<0
  ·simp only[hs,if_true]
  ·have pk:=aRq hl hs
   obtain⟨p1,p2,p3⟩:=aMo pk
   obtain⟨_,_,_,q4,q5⟩:=aMl hl hs
   obtain⟨r1,r2,r3,r4⟩:=aX5 g2
   simp only[hs,if_false,List.take_length,g2,q4,q5,p2,p3,decide_true,r1,r2,r3,r4,Bool.and_self,if_true,bne_self_eq_false,Bool.false_eq_true,aX2]
 ·cases h
theorem cBw (k:Int) (n:Nat):((mk aSm 4 k n).all fun r=>decide (r.length=4))=true:=aHd _ _ _ _ _ fun k=>rfl
theorem cBx (k:Int) (n:Nat):((mk mkN 3 k n).all fun r=>decide (r.length=3))=true:=aHd _ _ _ _ _ fun k=>rfl
theorem cBy (k:Int) (n:Nat):((mk aSn 2 k n).all fun r=>decide (r.length=2))=true:=aHd _ _ _ _ _ fun k=>rfl
theorem cBz (k:Int) (n:Nat):((mk mkS 1 k n).all fun r=>decide (r.length=1))=true:=aHd _ _ _ _ _ fun k=>rfl
theorem bVf (k:Int) (n:Nat):aAf [.int .i64,.str,.str,.str] (mk aSm 4 k n)=true:=aHd _ _ _ _ _ fun k=>rfl
theorem bV6 (k:Int) (n:Nat):List.take n (mk aSm 4 k n)=mk aSm 4 k n:=by rw[List.take_of_length_le];rw[aHc];exact Nat.le_refl _
theorem bP0 (l:List Opx):aAf [.int .i64,.str,.str,.str] (l.map eOp)=true:=by simp[aAf,aB3,C.is]
theorem bZ4:aA6 Tryz.prog bUm:=aA5 (by simp[aJh,aL9,aM9,bGn,bM1,bGk,bGo,aP7,aOz])
theorem bKf:aAn Tryz.prog 6 (sg [aGn,pI] [rB]) aEf:=aA4 bZ4 aA7 Tryz.func6 (by kernel_rfl) fun cs outs hk h=>by
 unfold aEf at h
 split at h
 ·simp only[Option.some.injEq,Prod.mk.injEq,Bool.and_eq_true]at h
  obtain⟨⟨hl,hrg⟩,rfl⟩:=h
  rename_i ns es os ss r x v
  rw[aA9,bPj]
  have hl':=hl
  unfold aIg at hl'
  simp only[Bool.and_eq_true]at hl'
  obtain⟨⟨g1,g2⟩,g3⟩:=hl'
  have d0:decide ((0:Int)≤1048576)=true:=by decide
  have d1:decide ((1048576:Int)≤1048576)=true:=by decide
  have d2:decide (0<1)=true:=by decide
  simp only[aA0,aA1,aA2,d0,d1,d2,g1,g2,g3,Bool.and_self,if_true,decide_eq_true_eq]
  by_cases hs:aKm (nds ns) (ens es) (ens os) (aCb ss) 1048576<0
  ·simp only[hs,if_true]
  ·have pk:=aRq hl hs
   obtain⟨p1,p2,p3⟩:=aMo pk
   obtain⟨_,_,_,q4,q5⟩:=aMl hl hs
   obtain⟨r1,r2,r3,r4⟩:=aX5 g2
   have pl:=aQ5 v pk
   simp only[hs,if_false,List.take_length]
   generalize aBj ns es ss v=m at pl ⊢
   have d3:decide ((0:Int)≤1)=true:=by decide
   have d4:decide ((1:Int)≤1073741824)=true:=by decide
   have d5:decide ((1:Int)≤1099511627776)=true:=by decide
   have m1:(m.map eOp).length≤16777216:=by simpa using pl
   have z1:¬((1:Int)+4*((m.map eOp).length:Int)<0):=by omega
   have z2:((1:Int)+4*((m.map eOp).length:Int) != Int.ofNat (1+4*(m.map eOp).length))=false:=by simp
   have z3:(m.map eOp).length≤16777216→decide ((m.map eOp).length≤16777216)=true:=fun h=>decide_eq_true h
   have m2:=z3 m1
   simp only[g2,q4,q5,p2,p3,decide_true,r1,r2,r3,r4,d3,d4,d5,m2,z1,z2,bJs,bP0,bV6,bVf,aHc,cBw,cBz,cBy,cBx,bLp,aX2,bne_self_eq_false,decide_true,Bool.and_self,Bool.and_true,Bool.true_and,Bool.false_eq_true,if_true,if_false]
 ·cases h
end Go.Proofs.YtfljomghcbaepaaGreatDoor.V
