/- Functions of the given program and of its reference: what each returns, as an equation over data; by the interpreter. -/
import Derived.Test.YtigodjkegcibhaaGreatDoorS2
import Derived.Test.YtigodjkegcibhaaGreatDoorProg
import Derived.KernelRfl
import Derived.Shelf.Spec.SlicesInsertGrow
import Derived.Lib.SlicesDelete
import Derived.Deep.RegionLaw
import Derived.Deep.LoopGhost
import Derived.Below
import Derived.Shelf.LaysM
import Derived.Shelf.Strconv.Itoa3
import Derived.Shelf.LaysC
import Derived.Shelf.Strconv.AtoiAll
import Derived.Lib.AppendIntMem
import Derived.Lib.Bytealg
import Derived.Sort.Walk0
set_option linter.unusedVariables false
set_option linter.unusedSimpArgs false
set_option linter.unusedSectionVars false
set_option linter.deprecated false
namespace Go.Proofs.YtigodjkegcibhaaGreatDoor.V
theorem bT7 (ks:List Int) {ns:List (List C)} (h:aJ5 ns=true):(aFd ks ns).length≤ns.length∧(aJ3 ks ns).length=ns.length∧((aJ3 ks ns).all fun r=>decide (r.length=3))=true∧List.take (aFd ks ns).length (aJ3 ks ns)=aFd ks ns:=by
 obtain⟨l,rfl,e,hl,ht⟩:=aE4 h
 unfold aFd aJ3
 rw[e]
 have hle:(aHq ks l).length≤l.length:=List.length_filter_le _ _
 have e1:bMo ks l=aHq ks l++List.replicate (l.length-(aHq ks l).length) ⟨0,[],0⟩:=rfl
 refine⟨by simpa using hle,by rw[List.length_map,List.length_map,e1];simp;omega,by simp,?_⟩
 rw[List.length_map,←List.map_take,e1,List.take_append_of_le_length (Nat.le_refl _),List.take_length]
theorem bTv (ks : List Int) {ns es os ss : List (List C)} {r x : Int} (h : aJ5 ns = true) : ((.must (true && (true && true) && (decide (ns.length = ns.length) && true && true))
   (.must (decide ((122 : Nat) = 122) && aJ5 ns)
    (.must (decide ((aFd ks ns).length ≤ ns.length) && true && true && ((decide ((aJ3 ks ns).length = ns.length) && (aJ3 ks ns).all fun r => decide (r.length = (3 : Nat))) && true && true))
     (.must (decide ((aFd ks ns).length ≤ (aJ3 ks ns).length) && (decide (es.length ≤ es.length) && (decide (os.length ≤ os.length) && (decide (ss.length ≤ ss.length) && (true && (true && true))))))
      (.ret [C.sl (List.take (aFd ks ns).length (aJ3 ks ns)), C.sl (List.take es.length es), C.sl (List.take os.length os), C.sl (List.take ss.length ss), C.int IntKind.i64 r, C.int IntKind.i64 x]))))) : T (List C)).eval = some [.sl (aFd ks ns), .sl es, .sl os, .sl ss, .int .i64 r, .int .i64 x] := by
  obtain ⟨h1, h2, h3, h4⟩ := bT7 ks h
  rw [h2, h3, h4, List.take_length, List.take_length, List.take_length]
  refine aA2 (by simp) (aA2 (by rw [h]; rfl) (aA2 ?_ (aA2 ?_ rfl)))
  · rw [decide_eq_true h1]; simp
  · rw [decide_eq_true h1]; simp
theorem bT9 (ns es:List (List C)) (o:List En) (ss:List (List C)) (r x:Int) (i:Int) (m:Nat) (hl:o.length≤16777216):∀ (n j:Nat) (ks:List Int),j≤o.length→o.length<j+n →
  (wL (wP1 m) n (aJw ns es (o.map eEn) ss r x ks i o.length j)).eval=(wL (wP1 m) 1 (aJw ns es (o.map eEn) ss r x (aDu ks (o.drop j)) i o.length o.length)).eval:=by
 intro n
 induction n with
 |zero=>intro j ks h1 h2;omega
 |succ n ih =>
  intro j ks h1 h2
  rw[wL,aH9 _ _ _ _ _ _ _ (by kernel_rfl),aHm]
  by_cases hj:j<o.length
  ·have g:=aAo eEn o ⟨[],0⟩ j hj
   have w:IntKind.i64.wrap ((j:Int)+1)=((j+1:Nat):Int):=by rw[aAm]<;>omega
   have e:=ih (j+1) (bDn ks (o.getD j ⟨[],0⟩).id) (by omega) (by omega)
   simp only[Int.toNat_natCast,Nat.zero_add,g,w,List.length_map]
   rw[aBj o j ⟨[],0⟩ hj]
   have mj:(decide ((0:Int)≤j)&&decide ((j:Int)<o.length))=true:=by rw[decide_eq_true (by omega),decide_eq_true (by omega)];rfl
   exact aA7 (decide_eq_true (by omega)) (aA2 mj (aA2 (by rw[decide_eq_true hj];rfl) e))
  ·have e:j=o.length:=by omega
   subst e
   rw[List.drop_length,wL,aH9 _ _ _ _ _ _ _ (by kernel_rfl),aHm]
   have c:decide ((o.length:Int)<(o.length:Int))=false:=decide_eq_false (by omega)
   exact (aAb c rfl).trans (aAb c rfl).symm
theorem bT8 (ns es os ss:List (List C)) (r x:Int) (o:List En) (i:Int) (m:Nat) (hl:o.length≤16777216):∀ (n j:Nat) (ks:List Int),j≤o.length→o.length<j+n →
  (wL (wP1 m) n (aJv ns es os ss r x o.length (o.map eEn) ks i o.length j)).eval=(wL (wP1 m) 1 (aJv ns es os ss r x o.length (o.map eEn) (aDu ks (o.drop j)) i o.length o.length)).eval:=by
 intro n
 induction n with
 |zero=>intro j ks h1 h2;omega
 |succ n ih =>
  intro j ks h1 h2
  rw[wL,aH9 _ _ _ _ _ _ _ (by kernel_rfl),aHl]
  by_cases hj:j<o.length
  ·have g:=aAo eEn o ⟨[],0⟩ j hj
   have w:IntKind.i64.wrap ((j:Int)+1)=((j+1:Nat):Int):=by rw[aAm]<;>omega
   have e:=ih (j+1) (bDn ks (o.getD j ⟨[],0⟩).id) (by omega) (by omega)
   simp only[Int.toNat_natCast,Nat.zero_add,g,w,List.length_map]
   rw[aBj o j ⟨[],0⟩ hj]
   have mj:(decide ((0:Int)≤j)&&decide ((j:Int)<o.length))=true:=by rw[decide_eq_true (by omega),decide_eq_true (by omega)];rfl
   exact aA7 (decide_eq_true (by omega)) (aA2 mj (aA2 (by rw[decide_eq_true hj];rfl) e))
  ·have e:j=o.length:=by omega
   subst e
   rw[List.drop_length,wL,aH9 _ _ _ _ _ _ _ (by kernel_rfl),aHl]
   have c:decide ((o.length:Int)<(o.length:Int))=false:=decide_eq_false (by omega)
   exact (aAb c rfl).trans (aAb c rfl).symm
theorem bIf {l:List En} {s:List UInt8} (hb:aF9 (l.map eEn)=true) (hl:l.length<16777216) (hs:s.length≤16777216):aF9 ((bIg l s).map eEn)=true∧(bIg l s).length≤l.length+1:=by
 unfold bIg
 cases hp:aDl l s with
 |none=>exact⟨rfl,Nat.zero_le _⟩
 |some l' =>
  obtain⟨q1,q2⟩:=bDj hp (aGg.1 hb).2 hs
  exact⟨aGg.2 ⟨by show l'.length≤_;omega,q2⟩,q1⟩
theorem bO9 (l:List En) (s:List UInt8):aAt (l.map eEn) s=(bIg l s).map eEn:=by unfold aAt bIg;rw[aGz]
theorem bRa (ns es os:List (List C)) (t:List (List UInt8)) (r x:Int) (hn:aJ5 ns=true) (hl:t.length≤16777216) (ht:∀ s∈t,s.length≤16777216):∀ (N i:Nat) (l:List En) (ks:List Int),i≤t.length→t.length<i+N→aF9 (l.map eEn)=true→l.length+(t.length-i)≤16777216 →
  (wL wP0 N (aEs ns es os (t.map aH7) r x l.length (l.map eEn) ks i)).eval=some [.sl (aFd (aPg (t.drop i) l ks) ns),.sl es,.sl os,.sl (t.map aH7),.int .i64 r,.int .i64 x]:=by
 intro N
 induction N with
 |zero=>intro i l ks h1 h2;omega
 |succ N ih =>
  intro i l ks h1 h2 hb hlen
  rw[wL,aH9 _ _ _ _ _ _ _ (by kernel_rfl),aRr]
  have lp:=bT8 ns es os (t.map aH7) r x l i N (by omega) 9223372036854775808 0 ks (by omega) (by omega)
  rw[List.drop_zero]at lp
  refine Eq.trans lp ?_
  rw[wL,aH9 _ _ _ _ _ _ _ (by kernel_rfl),aHl]
  have c:decide ((l.length:Int)<(l.length:Int))=false:=decide_eq_false (by omega)
  refine aAb c ?_
  by_cases hi:i<t.length
  ·have g:=aAo aH7 t [] i hi
   have w2:IntKind.i64.wrap ((i:Int)+1)=((i+1:Nat):Int):=by rw[aAm]<;>omega
   have hs:=ht _ (aGf (d:=[]) hi)
   have tk:List.take l.length (l.map eEn)=l.map eEn:=by rw[List.take_of_length_le];simp
   simp only[Int.toNat_natCast,Nat.zero_add,g,w2,tk,List.length_map]
   rw[aBj t i [] hi]
   generalize t.getD i []=s at hs ⊢
   have mi:(decide ((0:Int)≤i)&&decide ((i:Int)<t.length))=true:=by rw[decide_eq_true (by omega),decide_eq_true (by omega)];rfl
   obtain⟨p1,p2⟩:=bIf hb (by omega) hs
   have e:=ih (i+1) (bIg l s) (aDu ks l) (by omega) (by omega) p1 (by omega)
   refine aAb (decide_eq_false (by omega)) (aA2 mi (aA2 (by rw[decide_eq_true hi];rfl) ?_))
   show (T.must (aF9 (l.map eEn)&&decide (l.length<16777216)&&decide (s.length≤16777216)) (T.must ((true&&(aAt (l.map eEn) s).all fun row=>decide (row.length=2))&&true&&(decide (0<1)&&true&&true&&true)&&true) (T.ask (aG2 (l.map eEn) s) (wL wP0 N (aEs ns es os (t.map aH7) r x (aAt (l.map eEn) s).length (aAt (l.map eEn) s) (aDu ks l) ((i+1:Nat):Int))) (wL wP0 N (aEs ns es os (t.map aH7) r x (aAt (l.map eEn) s).length (aAt (l.map eEn) s) (aDu ks l) ((i+1:Nat):Int)))))).eval=_
   rw[bO9,List.length_map]
   refine aA2 (by rw[hb,decide_eq_true (by omega),decide_eq_true hs];rfl) (aA2 (by rw[en2];rfl) ?_)
   cases cB:aG2 (l.map eEn) s
   ·exact aAb rfl e
   ·exact aA7 rfl e
  ·have e:i=t.length:=by omega
   subst e
   rw[List.drop_length]
   refine aA7 (decide_eq_true (by rw[List.length_map])) ?_
   exact bTv (aDu ks l) hn
theorem bLm:aA8 Tryz.prog aEu:=aA9 (by simp[aGu,bGl,aNu])
theorem aH8:bKz Tryz.prog 102 WS aNf:=aWw bLm aAe Tryz.func102 fun cs outs hk h=>by
 unfold aNf at h
 split at h
 ·simp only[Option.some.injEq,Prod.mk.injEq]at h
  obtain⟨hd,rfl⟩:=h
  rename_i ns es os ss r x
  obtain⟨n3,e2,o2,s1,nf,ef,of',sf⟩:=aCc hd
  obtain⟨d1,d2,d3⟩:=aB1.1 hd
  obtain⟨s1',s2,s3⟩:=aDs.1 d3
  obtain⟨o,rfl,e,hl,hlt⟩:=aDb s1'
  obtain⟨t,rfl,e2',hl2,ht2⟩:=aJg s2
  rw[List.length_map,List.length_map]at s3
  rw[bLq,bAb]
  unfold aBd
  rw[e,e2']
  refine aA2 (by rw[n3,e2,o2,s1];rfl) ?_
  show (wL wP0 9223372036854775808 (aWl ns es (o.map eEn) (t.map aH7) r x [] 0)).eval=_
  rw[wL,aH9 _ _ _ _ _ 9223372036854775807 _ (by kernel_rfl),aU6]
  have lp:=bT9 ns es o (t.map aH7) r x 0 9223372036854775807 (by omega) 9223372036854775808 0 [] (by omega) (by omega)
  rw[List.drop_zero]at lp
  rw[List.length_map]
  refine Eq.trans lp ?_
  rw[wL,aH9 _ _ _ _ _ _ _ (by kernel_rfl),aHm]
  have c:decide ((o.length:Int)<(o.length:Int))=false:=decide_eq_false (by omega)
  refine aAb c ?_
  cases t with
  |nil=>exact aA7 rfl (bTv (aDu [] o) d1)
  |cons s t =>
   have hs:=ht2 s List.mem_cons_self
   have tk:List.take (o.map eEn).length (o.map eEn)=o.map eEn:=List.take_length
   obtain⟨p1,p2⟩:=bIf s1' (by simp at s3;omega) hs
   have lp2:=bRa ns es (o.map eEn) (s::t) r x d1 hl2 ht2 9223372036854775807 1 (bIg o s) (aDu [] o) (by simp) (by simp;simp at hl2;omega) p1 (by simp at s3 ⊢;omega)
   rw[tk]
   refine aAb (decide_eq_false (by simp;omega)) (aA2 ?_ (aA2 ?_ ?_))
   ·rw[decide_eq_true (by omega),decide_eq_true (by simp)];rfl
   ·rfl
   show (T.must (aF9 (o.map eEn)&&decide ((o.map eEn).length<16777216)&&decide (s.length≤16777216)) (T.must ((true&&(aAt (o.map eEn) s).all fun row=>decide (row.length=2))&&true&&(decide (0<1)&&true&&true&&true)&&true) (T.ask (aG2 (o.map eEn) s) (wL wP0 9223372036854775807 (aEs ns es (o.map eEn) ((s::t).map aH7) r x (aAt (o.map eEn) s).length (aAt (o.map eEn) s) (aDu [] o) ((1:Nat):Int))) (wL wP0 9223372036854775807 (aEs ns es (o.map eEn) ((s::t).map aH7) r x (aAt (o.map eEn) s).length (aAt (o.map eEn) s) (aDu [] o) ((1:Nat):Int)))))).eval=_
   rw[bO9,List.length_map,List.length_map]
   refine aA2 (by rw[s1',decide_eq_true (by simp at s3;omega),decide_eq_true hs];rfl) (aA2 (by rw[en2];rfl) ?_)
   cases cB:aG2 (o.map eEn) s
   ·exact aAb rfl lp2
   ·exact aA7 rfl lp2
 ·cases h
noncomputable section
noncomputable def bQr (g:FuncId):Option Func:=if g=99 then some Tryz.f99 else if g=102 then some Tryz.f102 else none
def bRy (lv:List (Nat×List Nat)) (gs:Laws):Env:={mkE lv gs with inl:=bQr}
def bNk (g:FuncId):Bool:=g==102
def bE2:bTs:=⟨102,WS,aNf⟩
def bA5:Env:=mkE [] [(42,(sg [aAs,pS] [rI]),aKb),(44,(sg [aAs] [rI]),aHa),(43,(sg [aAs] [rB]),aCf),(41,(sg [aAs] [aC4]),aCt)]
def bL7:Env:=mkE [] [(42,(sg [aAs,pS] [rI]),aKb),(43,(sg [aAs] [rB]),aCf),(41,(sg [aAs] [aC4]),aCt)]
def aRn:Env:=bRy [] [(90,(sg [pSl 92,pS] [rSl 92,rB]),aGs),(43,(sg [aAs] [rB]),aCf),(41,(sg [aAs] [aC4]),aCt),(83,(sg [pSl 92,pS] [rI]),aG1)]
def aRm:Env:=bRy [] [(90,(sg [pSl 92,pS] [rSl 92,rB]),aGs),(43,(sg [aAs] [rB]),aCf),(41,(sg [aAs] [aC4]),aCt),(83,(sg [pSl 92,pS] [rI]),aG1),(100,(sg [pS] [rB]),aEe)]
def aRq:Env:=bRy [] [(90,(sg [pSl 92,pS] [rSl 92,rB]),aGs),(43,(sg [aAs] [rB]),aCf),(41,(sg [aAs] [aC4]),aCt),(83,(sg [pSl 92,pS] [rI]),aG1),(100,(sg [pS] [rB]),aEe),(101,(sg [pI] [rS]),aIi)]
def aK2:Env:=bRy [] [(43,(sg [aAs] [rB]),aCf),(41,(sg [aAs] [aC4]),aCt),(81,(sg [pSl 92] [rSl 92]),aGp)]
end
set_option maxRecDepth 100000
theorem aZa (H:List Pt→Nat→St→T (List C)) (ns:List (List C)) (es:List (List C)) (os:List (List C)) (ss:List (List C)) (r:Int) (x:Int) (nm:List UInt8) (t:List UInt8):(aAp bA5 aAf (sg [aAs,pS,pS] [aC4,rI]) Tryz.f59 H [C.sl ns,C.sl es,C.sl os,C.sl ss,C.int .i64 r,C.int .i64 x,C.str nm,C.str t]).eval=((.must (aCw ns es os ss) (.must ((true&&ns.all fun row=>decide (row.length=3))&&((true&&es.all fun row=>decide (row.length=2))&&((true&&os.all fun row=>decide (row.length=2))&&((true&&ss.all fun row=>decide (row.length=1))&&(decide (0<1)&&true&&(decide (0<1)&&true&&true)))))&&true&&true) (.must (bOc ns es) (.must (aCw ns es os ss) (.ask (aC8 ns es os ss r x) (.ask (decide (aB9 (nds ns) (ens es) nm<(0:Int))) (.must (decide (ns.length=ns.length)&&(false||ns.all fun r=>r.all C.flat)&&(decide (es.length=es.length)&&(false||es.all fun r=>r.all C.flat)&&(decide (os.length=os.length)&&(false||os.all fun r=>r.all C.flat)&&(decide (ss.length=ss.length)&&(false||ss.all fun r=>r.all C.flat)&&(true&&(false||true)&&(true&&(false||true)&&true)))))&&(true&&(false||true)&&true&&true)&&true) (.ret [C.sl ns,C.sl es,C.sl os,C.sl ss,C.int .i64 r,C.int .i64 x,C.int .i64 3])) (.must (aJ5 ns) (.must (decide ((0:Int)≤aB9 (nds ns) (ens es) nm)&&decide (aB9 (nds ns) (ens es) nm<(↑ns.length:Int))) (.must (decide (0+(aB9 (nds ns) (ens es) nm).toNat<ns.length)&&(decide (0+1<(ns.getD (0+(aB9 (nds ns) (ens es) nm).toNat) []).length)&&C.is K.str ((ns.getD (0+(aB9 (nds ns) (ens es) nm).toNat) []).getD (0+1) (C.fn 0 []))&&true)) (.must (decide ((0:Int)≤bA8 (↑t.length:Int) (IntKind.i64.wrap (r-Int.ofNat (aBy (nds ns)))))&&decide (bA8 (↑t.length:Int) (IntKind.i64.wrap (r-Int.ofNat (aBy (nds ns))))≤(↑t.length:Int))) (.must (decide (((ns.getD (0+(aB9 (nds ns) (ens es) nm).toNat) []).getD (0+1) (C.fn 0 [])).toStr.length+(List.drop 0 (List.take (bA8 (↑t.length:Int) (IntKind.i64.wrap (r-Int.ofNat (aBy (nds ns))))).toNat t)).length≤9223372036854775807)) (.must (decide ((0:Int)≤aB9 (nds ns) (ens es) nm)&&decide (aB9 (nds ns) (ens es) nm<(↑ns.length:Int))) (.must (decide (0+(aB9 (nds ns) (ens es) nm).toNat<ns.length)) (.ask (decide (bA8 (↑t.length:Int) (IntKind.i64.wrap (r-Int.ofNat (aBy (nds ns))))<(↑t.length:Int))) (.must (decide (ns.length=(ns.set (0+(aB9 (nds ns) (ens es) nm).toNat) (((List.take (0+1) (ns.getD (0+(aB9 (nds ns) (ens es) nm).toNat) [])).append [C.str (((ns.getD (0+(aB9 (nds ns) (ens es) nm).toNat) []).getD (0+1) (C.fn 0 [])).toStr++List.drop 0 (List.take (bA8 (↑t.length:Int) (IntKind.i64.wrap (r-Int.ofNat (aBy (nds ns))))).toNat t))]).append (List.drop (0+1+1) (ns.getD (0+(aB9 (nds ns) (ens es) nm).toNat) [])))).length)&&(false||(ns.set (0+(aB9 (nds ns) (ens es) nm).toNat) (((List.take (0+1) (ns.getD (0+(aB9 (nds ns) (ens es) nm).toNat) [])).append [C.str (((ns.getD (0+(aB9 (nds ns) (ens es) nm).toNat) []).getD (0+1) (C.fn 0 [])).toStr++List.drop 0 (List.take (bA8 (↑t.length:Int) (IntKind.i64.wrap (r-Int.ofNat (aBy (nds ns))))).toNat t))]).append (List.drop (0+1+1) (ns.getD (0+(aB9 (nds ns) (ens es) nm).toNat) [])))).all fun r=>r.all C.flat)&&(decide (es.length=es.length)&&(false||es.all fun r=>r.all C.flat)&&(decide (os.length=os.length)&&(false||os.all fun r=>r.all C.flat)&&(decide (ss.length=ss.length)&&(false||ss.all fun r=>r.all C.flat)&&(true&&(false||true)&&(true&&(false||true)&&true)))))&&(true&&(false||true)&&true&&true)&&true) (.ret [C.sl (ns.set (0+(aB9 (nds ns) (ens es) nm).toNat) (((List.take (0+1) (ns.getD (0+(aB9 (nds ns) (ens es) nm).toNat) [])).append [C.str (((ns.getD (0+(aB9 (nds ns) (ens es) nm).toNat) []).getD (0+1) (C.fn 0 [])).toStr++List.drop 0 (List.take (bA8 (↑t.length:Int) (IntKind.i64.wrap (r-Int.ofNat (aBy (nds ns))))).toNat t))]).append (List.drop (0+1+1) (ns.getD (0+(aB9 (nds ns) (ens es) nm).toNat) [])))),C.sl es,C.sl os,C.sl ss,C.int .i64 r,C.int .i64 x,C.int .i64 5])) (.must (decide (ns.length=(ns.set (0+(aB9 (nds ns) (ens es) nm).toNat) (((List.take (0+1) (ns.getD (0+(aB9 (nds ns) (ens es) nm).toNat) [])).append [C.str (((ns.getD (0+(aB9 (nds ns) (ens es) nm).toNat) []).getD (0+1) (C.fn 0 [])).toStr++List.drop 0 (List.take (bA8 (↑t.length:Int) (IntKind.i64.wrap (r-Int.ofNat (aBy (nds ns))))).toNat t))]).append (List.drop (0+1+1) (ns.getD (0+(aB9 (nds ns) (ens es) nm).toNat) [])))).length)&&(false||(ns.set (0+(aB9 (nds ns) (ens es) nm).toNat) (((List.take (0+1) (ns.getD (0+(aB9 (nds ns) (ens es) nm).toNat) [])).append [C.str (((ns.getD (0+(aB9 (nds ns) (ens es) nm).toNat) []).getD (0+1) (C.fn 0 [])).toStr++List.drop 0 (List.take (bA8 (↑t.length:Int) (IntKind.i64.wrap (r-Int.ofNat (aBy (nds ns))))).toNat t))]).append (List.drop (0+1+1) (ns.getD (0+(aB9 (nds ns) (ens es) nm).toNat) [])))).all fun r=>r.all C.flat)&&(decide (es.length=es.length)&&(false||es.all fun r=>r.all C.flat)&&(decide (os.length=os.length)&&(false||os.all fun r=>r.all C.flat)&&(decide (ss.length=ss.length)&&(false||ss.all fun r=>r.all C.flat)&&(true&&(false||true)&&(true&&(false||true)&&true)))))&&(true&&(false||true)&&true&&true)&&true) (.ret [C.sl (ns.set (0+(aB9 (nds ns) (ens es) nm).toNat) (((List.take (0+1) (ns.getD (0+(aB9 (nds ns) (ens es) nm).toNat) [])).append [C.str (((ns.getD (0+(aB9 (nds ns) (ens es) nm).toNat) []).getD (0+1) (C.fn 0 [])).toStr++List.drop 0 (List.take (bA8 (↑t.length:Int) (IntKind.i64.wrap (r-Int.ofNat (aBy (nds ns))))).toNat t))]).append (List.drop (0+1+1) (ns.getD (0+(aB9 (nds ns) (ens es) nm).toNat) [])))),C.sl es,C.sl os,C.sl ss,C.int .i64 r,C.int .i64 x,C.int .i64 0]))))))))))) (.must (decide (ns.length=ns.length)&&(false||ns.all fun r=>r.all C.flat)&&(decide (es.length=es.length)&&(false||es.all fun r=>r.all C.flat)&&(decide (os.length=os.length)&&(false||os.all fun r=>r.all C.flat)&&(decide (ss.length=ss.length)&&(false||ss.all fun r=>r.all C.flat)&&(true&&(false||true)&&(true&&(false||true)&&true)))))&&(true&&(false||true)&&true&&true)&&true) (.ret [C.sl ns,C.sl es,C.sl os,C.sl ss,C.int .i64 r,C.int .i64 x,C.int .i64 3]))))))):T (List C)).eval:=aAg (by kernel_rfl)
theorem bG3 (H:List Pt→Nat→St→T (List C)) (ns:List (List C)) (es:List (List C)) (os:List (List C)) (ss:List (List C)) (r:Int) (x:Int) (nm:List UInt8):(aAp bL7 aAf (sg [aAs,pS] [aC4,rI]) Tryz.f60 H [C.sl ns,C.sl es,C.sl os,C.sl ss,C.int .i64 r,C.int .i64 x,C.str nm]).eval=((.must (aCw ns es os ss) (.must ((true&&ns.all fun row=>decide (row.length=3))&&((true&&es.all fun row=>decide (row.length=2))&&((true&&os.all fun row=>decide (row.length=2))&&((true&&ss.all fun row=>decide (row.length=1))&&(decide (0<1)&&true&&(decide (0<1)&&true&&true)))))&&true&&true) (.must (bOc ns es) (.must (aCw ns es os ss) (.ask (aC8 ns es os ss r x) (.ask (decide (aB9 (nds ns) (ens es) nm<(0:Int))) (.must (decide (ns.length=ns.length)&&(false||ns.all fun r=>r.all C.flat)&&(decide (es.length=es.length)&&(false||es.all fun r=>r.all C.flat)&&(decide (os.length=os.length)&&(false||os.all fun r=>r.all C.flat)&&(decide (ss.length=ss.length)&&(false||ss.all fun r=>r.all C.flat)&&(true&&(false||true)&&(true&&(false||true)&&true)))))&&(true&&(false||true)&&true&&true)&&true) (.ret [C.sl ns,C.sl es,C.sl os,C.sl ss,C.int .i64 r,C.int .i64 x,C.int .i64 3])) (.must (decide ((0:Int)≤aB9 (nds ns) (ens es) nm)&&decide (aB9 (nds ns) (ens es) nm<(↑ns.length:Int))) (.must (decide (0+(aB9 (nds ns) (ens es) nm).toNat<ns.length)&&(decide (0+1<(ns.getD (0+(aB9 (nds ns) (ens es) nm).toNat) []).length)&&C.is K.str ((ns.getD (0+(aB9 (nds ns) (ens es) nm).toNat) []).getD (0+1) (C.fn 0 []))&&true)) (.must (decide ((0:Int)≤aB9 (nds ns) (ens es) nm)&&decide (aB9 (nds ns) (ens es) nm<(↑ns.length:Int))) (.must (decide (0+(aB9 (nds ns) (ens es) nm).toNat<ns.length)) (.must (decide (ns.length=(ns.set (0+(aB9 (nds ns) (ens es) nm).toNat) (((List.take (0+2) (ns.getD (0+(aB9 (nds ns) (ens es) nm).toNat) [])).append [C.int .i64 (↑((ns.getD (0+(aB9 (nds ns) (ens es) nm).toNat) []).getD (0+1) (C.fn 0 [])).toStr.length:Int)]).append (List.drop (0+2+1) (ns.getD (0+(aB9 (nds ns) (ens es) nm).toNat) [])))).length)&&(false||(ns.set (0+(aB9 (nds ns) (ens es) nm).toNat) (((List.take (0+2) (ns.getD (0+(aB9 (nds ns) (ens es) nm).toNat) [])).append [C.int .i64 (↑((ns.getD (0+(aB9 (nds ns) (ens es) nm).toNat) []).getD (0+1) (C.fn 0 [])).toStr.length:Int)]).append (List.drop (0+2+1) (ns.getD (0+(aB9 (nds ns) (ens es) nm).toNat) [])))).all fun r=>r.all C.flat)&&(decide (es.length=es.length)&&(false||es.all fun r=>r.all C.flat)&&(decide (os.length=os.length)&&(false||os.all fun r=>r.all C.flat)&&(decide (ss.length=ss.length)&&(false||ss.all fun r=>r.all C.flat)&&(true&&(false||true)&&(true&&(false||true)&&true)))))&&(true&&(false||true)&&true&&true)&&true) (.ret [C.sl (ns.set (0+(aB9 (nds ns) (ens es) nm).toNat) (((List.take (0+2) (ns.getD (0+(aB9 (nds ns) (ens es) nm).toNat) [])).append [C.int .i64 (↑((ns.getD (0+(aB9 (nds ns) (ens es) nm).toNat) []).getD (0+1) (C.fn 0 [])).toStr.length:Int)]).append (List.drop (0+2+1) (ns.getD (0+(aB9 (nds ns) (ens es) nm).toNat) [])))),C.sl es,C.sl os,C.sl ss,C.int .i64 r,C.int .i64 x,C.int .i64 0]))))))) (.must (decide (ns.length=ns.length)&&(false||ns.all fun r=>r.all C.flat)&&(decide (es.length=es.length)&&(false||es.all fun r=>r.all C.flat)&&(decide (os.length=os.length)&&(false||os.all fun r=>r.all C.flat)&&(decide (ss.length=ss.length)&&(false||ss.all fun r=>r.all C.flat)&&(true&&(false||true)&&(true&&(false||true)&&true)))))&&(true&&(false||true)&&true&&true)&&true) (.ret [C.sl ns,C.sl es,C.sl os,C.sl ss,C.int .i64 r,C.int .i64 x,C.int .i64 3]))))))):T (List C)).eval:=aAg (by kernel_rfl)
theorem aYz (H:List Pt→Nat→St→T (List C)) (ns:List (List C)) (es:List (List C)) (os:List (List C)) (ss:List (List C)) (r:Int) (x:Int) (nm:List UInt8):(aAp aRn (bN4 (wI E0 bE2) bNk aRn 2) (sg [aAs,pS] [aC4,rI]) Tryz.f57 H [C.sl ns,C.sl es,C.sl os,C.sl ss,C.int .i64 r,C.int .i64 x,C.str nm]).eval=((.must (aCw ns es os ss) (.must ((true&&ns.all fun row=>decide (row.length=3))&&((true&&es.all fun row=>decide (row.length=2))&&((true&&os.all fun row=>decide (row.length=2))&&((true&&ss.all fun row=>decide (row.length=1))&&(decide (0<1)&&true&&(decide (0<1)&&true&&true)))))&&true&&true) (.must (aCw ns es os ss) (.ask (aC8 ns es os ss r x) (.must (decide (es.length≤aFt)&&aAc [K.str,K.int .i64] es) (.ask (decide (aA1 (ens es) nm<(0:Int))) (.must (decide (ns.length=ns.length)&&(false||ns.all fun r=>r.all C.flat)&&(decide (es.length=es.length)&&(false||es.all fun r=>r.all C.flat)&&(decide (os.length=os.length)&&(false||os.all fun r=>r.all C.flat)&&(decide (ss.length=ss.length)&&(false||ss.all fun r=>r.all C.flat)&&(true&&(false||true)&&(true&&(false||true)&&true)))))&&(true&&(false||true)&&true&&true)&&true) (.ret [C.sl ns,C.sl es,C.sl os,C.sl ss,C.int .i64 r,C.int .i64 x,C.int .i64 3])) (.must (decide (1+nm.length≤9223372036854775807)) (.must (decide (ss.length=ss.length)&&aBz (ss.length+1) 16&&(decide (1=1)&&true)) (.must (aF9 (List.take es.length es)&&decide ((List.take es.length es).length<16777216)&&decide (([(45:UInt8)]++nm).length≤16777216)) (.must ((true&&(aAt (List.take es.length es) ([(45:UInt8)]++nm)).all fun row=>decide (row.length=2))&&true&&(decide (0<1)&&true&&true&&true)&&true) (.ask (aG2 (List.take es.length es) ([(45:UInt8)]++nm)) (.must (true&&(true&&(true&&(true&&(true&&(true&&true)))))&&(decide (ns.length=ns.length)&&(decide ((aAt (List.take es.length es) ([(45:UInt8)]++nm)).length=(aAt (List.take es.length es) ([(45:UInt8)]++nm)).length)&&(decide (os.length=os.length)&&(decide (ss.length+1=(ss.append [[C.str ([(45:UInt8)]++nm)]]).length)&&true))))) (.must (aCw ns (aAt (List.take es.length es) ([(45:UInt8)]++nm)) os (ss.append [[C.str ([(45:UInt8)]++nm)]])) (.must ((true&&(aBd ns os (ss.append [[C.str ([(45:UInt8)]++nm)]])).all fun row=>decide (row.length=3))&&((true&&(aAt (List.take es.length es) ([(45:UInt8)]++nm)).all fun row=>decide (row.length=2))&&((true&&os.all fun row=>decide (row.length=2))&&((true&&(ss.append [[C.str ([(45:UInt8)]++nm)]]).all fun row=>decide (row.length=1))&&(decide (0<1)&&true&&(decide (0<1)&&true&&true)))))) (.must (decide ((aBd ns os (ss.append [[C.str ([(45:UInt8)]++nm)]])).length=(aBd ns os (ss.append [[C.str ([(45:UInt8)]++nm)]])).length)&&(false||(aBd ns os (ss.append [[C.str ([(45:UInt8)]++nm)]])).all fun r=>r.all C.flat)&&(decide ((aAt (List.take es.length es) ([(45:UInt8)]++nm)).length=(aAt (List.take es.length es) ([(45:UInt8)]++nm)).length)&&(false||(aAt (List.take es.length es) ([(45:UInt8)]++nm)).all fun r=>r.all C.flat)&&(decide (os.length=os.length)&&(false||os.all fun r=>r.all C.flat)&&(decide ((ss.append [[C.str ([(45:UInt8)]++nm)]]).length=(ss.append [[C.str ([(45:UInt8)]++nm)]]).length)&&(false||(ss.append [[C.str ([(45:UInt8)]++nm)]]).all fun r=>r.all C.flat)&&(true&&(false||true)&&(true&&(false||true)&&true)))))&&(true&&(false||true)&&true&&true)&&true) (.ret [C.sl (aBd ns os (ss.append [[C.str ([(45:UInt8)]++nm)]])),C.sl (aAt (List.take es.length es) ([(45:UInt8)]++nm)),C.sl os,C.sl (ss.append [[C.str ([(45:UInt8)]++nm)]]),C.int .i64 r,C.int .i64 x,C.int .i64 0]))))) (.must (true&&(true&&(true&&(true&&(true&&(true&&true)))))&&(decide (ns.length=ns.length)&&(decide ((aAt (List.take es.length es) ([(45:UInt8)]++nm)).length=(aAt (List.take es.length es) ([(45:UInt8)]++nm)).length)&&(decide (os.length=os.length)&&(decide (ss.length+1=(ss.append [[C.str ([(45:UInt8)]++nm)]]).length)&&true))))) (.must (aCw ns (aAt (List.take es.length es) ([(45:UInt8)]++nm)) os (ss.append [[C.str ([(45:UInt8)]++nm)]])) (.must ((true&&(aBd ns os (ss.append [[C.str ([(45:UInt8)]++nm)]])).all fun row=>decide (row.length=3))&&((true&&(aAt (List.take es.length es) ([(45:UInt8)]++nm)).all fun row=>decide (row.length=2))&&((true&&os.all fun row=>decide (row.length=2))&&((true&&(ss.append [[C.str ([(45:UInt8)]++nm)]]).all fun row=>decide (row.length=1))&&(decide (0<1)&&true&&(decide (0<1)&&true&&true)))))) (.must (decide ((aBd ns os (ss.append [[C.str ([(45:UInt8)]++nm)]])).length=(aBd ns os (ss.append [[C.str ([(45:UInt8)]++nm)]])).length)&&(false||(aBd ns os (ss.append [[C.str ([(45:UInt8)]++nm)]])).all fun r=>r.all C.flat)&&(decide ((aAt (List.take es.length es) ([(45:UInt8)]++nm)).length=(aAt (List.take es.length es) ([(45:UInt8)]++nm)).length)&&(false||(aAt (List.take es.length es) ([(45:UInt8)]++nm)).all fun r=>r.all C.flat)&&(decide (os.length=os.length)&&(false||os.all fun r=>r.all C.flat)&&(decide ((ss.append [[C.str ([(45:UInt8)]++nm)]]).length=(ss.append [[C.str ([(45:UInt8)]++nm)]]).length)&&(false||(ss.append [[C.str ([(45:UInt8)]++nm)]]).all fun r=>r.all C.flat)&&(true&&(false||true)&&(true&&(false||true)&&true)))))&&(true&&(false||true)&&true&&true)&&true) (.ret [C.sl (aBd ns os (ss.append [[C.str ([(45:UInt8)]++nm)]])),C.sl (aAt (List.take es.length es) ([(45:UInt8)]++nm)),C.sl os,C.sl (ss.append [[C.str ([(45:UInt8)]++nm)]]),C.int .i64 r,C.int .i64 x,C.int .i64 0])))))))))))) (.must (decide (ns.length=ns.length)&&(false||ns.all fun r=>r.all C.flat)&&(decide (es.length=es.length)&&(false||es.all fun r=>r.all C.flat)&&(decide (os.length=os.length)&&(false||os.all fun r=>r.all C.flat)&&(decide (ss.length=ss.length)&&(false||ss.all fun r=>r.all C.flat)&&(true&&(false||true)&&(true&&(false||true)&&true)))))&&(true&&(false||true)&&true&&true)&&true) (.ret [C.sl ns,C.sl es,C.sl os,C.sl ss,C.int .i64 r,C.int .i64 x,C.int .i64 3])))))):T (List C)).eval:=aAg (by kernel_rfl)
theorem aYx (H:List Pt→Nat→St→T (List C)) (ns:List (List C)) (es:List (List C)) (os:List (List C)) (ss:List (List C)) (r:Int) (x:Int) (a:List UInt8) (b:List UInt8):(aAp aRm (bN4 (wI E0 bE2) bNk aRm 2) (sg [aAs,pS,pS] [aC4,rI]) Tryz.f61 H [C.sl ns,C.sl es,C.sl os,C.sl ss,C.int .i64 r,C.int .i64 x,C.str a,C.str b]).eval=((.must (aCw ns es os ss) (.must ((true&&ns.all fun row=>decide (row.length=3))&&((true&&es.all fun row=>decide (row.length=2))&&((true&&os.all fun row=>decide (row.length=2))&&((true&&ss.all fun row=>decide (row.length=1))&&(decide (0<1)&&true&&(decide (0<1)&&true&&true)))))&&true&&true) (.must (aCw ns es os ss) (.ask (aC8 ns es os ss r x) (.must (decide (es.length≤aFt)&&aAc [K.str,K.int .i64] es) (.ask (decide (aA1 (ens es) a<(0:Int))) (.must (decide (ns.length=ns.length)&&(false||ns.all fun r=>r.all C.flat)&&(decide (es.length=es.length)&&(false||es.all fun r=>r.all C.flat)&&(decide (os.length=os.length)&&(false||os.all fun r=>r.all C.flat)&&(decide (ss.length=ss.length)&&(false||ss.all fun r=>r.all C.flat)&&(true&&(false||true)&&(true&&(false||true)&&true)))))&&(true&&(false||true)&&true&&true)&&true) (.ret [C.sl ns,C.sl es,C.sl os,C.sl ss,C.int .i64 r,C.int .i64 x,C.int .i64 3])) (.must (decide (b.length≤281474976710656)) (.ask (aAx b) (.ask (a==b) (.must (decide (ns.length=ns.length)&&(false||ns.all fun r=>r.all C.flat)&&(decide (es.length=es.length)&&(false||es.all fun r=>r.all C.flat)&&(decide (os.length=os.length)&&(false||os.all fun r=>r.all C.flat)&&(decide (ss.length=ss.length)&&(false||ss.all fun r=>r.all C.flat)&&(true&&(false||true)&&(true&&(false||true)&&true)))))&&(true&&(false||true)&&true&&true)&&true) (.ret [C.sl ns,C.sl es,C.sl os,C.sl ss,C.int .i64 r,C.int .i64 x,C.int .i64 1])) (.must (decide (1+a.length≤9223372036854775807)) (.must (decide (([(62:UInt8)]++a).length+1≤9223372036854775807)) (.must (decide (([(62:UInt8)]++a++[(58:UInt8)]).length+b.length≤9223372036854775807)) (.must (decide (ss.length=ss.length)&&aBz (ss.length+1) 16&&(decide (1=1)&&true)) (.must (aF9 (List.take es.length es)&&decide ((List.take es.length es).length<16777216)&&decide (([(62:UInt8)]++a++[(58:UInt8)]++b).length≤16777216)) (.must ((true&&(aAt (List.take es.length es) ([(62:UInt8)]++a++[(58:UInt8)]++b)).all fun row=>decide (row.length=2))&&true&&(decide (0<1)&&true&&true&&true)&&true) (.ask (aG2 (List.take es.length es) ([(62:UInt8)]++a++[(58:UInt8)]++b)) (.must (true&&(true&&(true&&(true&&(true&&(true&&true)))))&&(decide (ns.length=ns.length)&&(decide ((aAt (List.take es.length es) ([(62:UInt8)]++a++[(58:UInt8)]++b)).length=(aAt (List.take es.length es) ([(62:UInt8)]++a++[(58:UInt8)]++b)).length)&&(decide (os.length=os.length)&&(decide (ss.length+1=(ss.append [[C.str ([(62:UInt8)]++a++[(58:UInt8)]++b)]]).length)&&true))))) (.must (aCw ns (aAt (List.take es.length es) ([(62:UInt8)]++a++[(58:UInt8)]++b)) os (ss.append [[C.str ([(62:UInt8)]++a++[(58:UInt8)]++b)]])) (.must ((true&&(aBd ns os (ss.append [[C.str ([(62:UInt8)]++a++[(58:UInt8)]++b)]])).all fun row=>decide (row.length=3))&&((true&&(aAt (List.take es.length es) ([(62:UInt8)]++a++[(58:UInt8)]++b)).all fun row=>decide (row.length=2))&&((true&&os.all fun row=>decide (row.length=2))&&((true&&(ss.append [[C.str ([(62:UInt8)]++a++[(58:UInt8)]++b)]]).all fun row=>decide (row.length=1))&&(decide (0<1)&&true&&(decide (0<1)&&true&&true)))))) (.must (decide ((aBd ns os (ss.append [[C.str ([(62:UInt8)]++a++[(58:UInt8)]++b)]])).length=(aBd ns os (ss.append [[C.str ([(62:UInt8)]++a++[(58:UInt8)]++b)]])).length)&&(false||(aBd ns os (ss.append [[C.str ([(62:UInt8)]++a++[(58:UInt8)]++b)]])).all fun r=>r.all C.flat)&&(decide ((aAt (List.take es.length es) ([(62:UInt8)]++a++[(58:UInt8)]++b)).length=(aAt (List.take es.length es) ([(62:UInt8)]++a++[(58:UInt8)]++b)).length)&&(false||(aAt (List.take es.length es) ([(62:UInt8)]++a++[(58:UInt8)]++b)).all fun r=>r.all C.flat)&&(decide (os.length=os.length)&&(false||os.all fun r=>r.all C.flat)&&(decide ((ss.append [[C.str ([(62:UInt8)]++a++[(58:UInt8)]++b)]]).length=(ss.append [[C.str ([(62:UInt8)]++a++[(58:UInt8)]++b)]]).length)&&(false||(ss.append [[C.str ([(62:UInt8)]++a++[(58:UInt8)]++b)]]).all fun r=>r.all C.flat)&&(true&&(false||true)&&(true&&(false||true)&&true)))))&&(true&&(false||true)&&true&&true)&&true) (.ret [C.sl (aBd ns os (ss.append [[C.str ([(62:UInt8)]++a++[(58:UInt8)]++b)]])),C.sl (aAt (List.take es.length es) ([(62:UInt8)]++a++[(58:UInt8)]++b)),C.sl os,C.sl (ss.append [[C.str ([(62:UInt8)]++a++[(58:UInt8)]++b)]]),C.int .i64 r,C.int .i64 x,C.int .i64 0]))))) (.must (true&&(true&&(true&&(true&&(true&&(true&&true)))))&&(decide (ns.length=ns.length)&&(decide ((aAt (List.take es.length es) ([(62:UInt8)]++a++[(58:UInt8)]++b)).length=(aAt (List.take es.length es) ([(62:UInt8)]++a++[(58:UInt8)]++b)).length)&&(decide (os.length=os.length)&&(decide (ss.length+1=(ss.append [[C.str ([(62:UInt8)]++a++[(58:UInt8)]++b)]]).length)&&true))))) (.must (aCw ns (aAt (List.take es.length es) ([(62:UInt8)]++a++[(58:UInt8)]++b)) os (ss.append [[C.str ([(62:UInt8)]++a++[(58:UInt8)]++b)]])) (.must ((true&&(aBd ns os (ss.append [[C.str ([(62:UInt8)]++a++[(58:UInt8)]++b)]])).all fun row=>decide (row.length=3))&&((true&&(aAt (List.take es.length es) ([(62:UInt8)]++a++[(58:UInt8)]++b)).all fun row=>decide (row.length=2))&&((true&&os.all fun row=>decide (row.length=2))&&((true&&(ss.append [[C.str ([(62:UInt8)]++a++[(58:UInt8)]++b)]]).all fun row=>decide (row.length=1))&&(decide (0<1)&&true&&(decide (0<1)&&true&&true)))))) (.must (decide ((aBd ns os (ss.append [[C.str ([(62:UInt8)]++a++[(58:UInt8)]++b)]])).length=(aBd ns os (ss.append [[C.str ([(62:UInt8)]++a++[(58:UInt8)]++b)]])).length)&&(false||(aBd ns os (ss.append [[C.str ([(62:UInt8)]++a++[(58:UInt8)]++b)]])).all fun r=>r.all C.flat)&&(decide ((aAt (List.take es.length es) ([(62:UInt8)]++a++[(58:UInt8)]++b)).length=(aAt (List.take es.length es) ([(62:UInt8)]++a++[(58:UInt8)]++b)).length)&&(false||(aAt (List.take es.length es) ([(62:UInt8)]++a++[(58:UInt8)]++b)).all fun r=>r.all C.flat)&&(decide (os.length=os.length)&&(false||os.all fun r=>r.all C.flat)&&(decide ((ss.append [[C.str ([(62:UInt8)]++a++[(58:UInt8)]++b)]]).length=(ss.append [[C.str ([(62:UInt8)]++a++[(58:UInt8)]++b)]]).length)&&(false||(ss.append [[C.str ([(62:UInt8)]++a++[(58:UInt8)]++b)]]).all fun r=>r.all C.flat)&&(true&&(false||true)&&(true&&(false||true)&&true)))))&&(true&&(false||true)&&true&&true)&&true) (.ret [C.sl (aBd ns os (ss.append [[C.str ([(62:UInt8)]++a++[(58:UInt8)]++b)]])),C.sl (aAt (List.take es.length es) ([(62:UInt8)]++a++[(58:UInt8)]++b)),C.sl os,C.sl (ss.append [[C.str ([(62:UInt8)]++a++[(58:UInt8)]++b)]]),C.int .i64 r,C.int .i64 x,C.int .i64 0]))))))))))))) (.must (decide (ns.length=ns.length)&&(false||ns.all fun r=>r.all C.flat)&&(decide (es.length=es.length)&&(false||es.all fun r=>r.all C.flat)&&(decide (os.length=os.length)&&(false||os.all fun r=>r.all C.flat)&&(decide (ss.length=ss.length)&&(false||ss.all fun r=>r.all C.flat)&&(true&&(false||true)&&(true&&(false||true)&&true)))))&&(true&&(false||true)&&true&&true)&&true) (.ret [C.sl ns,C.sl es,C.sl os,C.sl ss,C.int .i64 r,C.int .i64 x,C.int .i64 1])))))) (.must (decide (ns.length=ns.length)&&(false||ns.all fun r=>r.all C.flat)&&(decide (es.length=es.length)&&(false||es.all fun r=>r.all C.flat)&&(decide (os.length=os.length)&&(false||os.all fun r=>r.all C.flat)&&(decide (ss.length=ss.length)&&(false||ss.all fun r=>r.all C.flat)&&(true&&(false||true)&&(true&&(false||true)&&true)))))&&(true&&(false||true)&&true&&true)&&true) (.ret [C.sl ns,C.sl es,C.sl os,C.sl ss,C.int .i64 r,C.int .i64 x,C.int .i64 3])))))):T (List C)).eval:=aAg (by kernel_rfl)
theorem aZ8 (H:List Pt→Nat→St→T (List C)) (ns:List (List C)) (es:List (List C)) (os:List (List C)) (ss:List (List C)) (r:Int) (x:Int) (nm:List UInt8):(aAp aRq (bN4 (wI E0 bE2) bNk aRq 2) (sg [aAs,pS] [aC4,rI]) Tryz.f58 H [C.sl ns,C.sl es,C.sl os,C.sl ss,C.int .i64 r,C.int .i64 x,C.str nm]).eval=((.must (aCw ns es os ss) (.must ((true&&ns.all fun row=>decide (row.length=3))&&((true&&es.all fun row=>decide (row.length=2))&&((true&&os.all fun row=>decide (row.length=2))&&((true&&ss.all fun row=>decide (row.length=1))&&(decide (0<1)&&true&&(decide (0<1)&&true&&true)))))&&true&&true) (.must (aCw ns es os ss) (.ask (aC8 ns es os ss r x) (.must (decide (nm.length≤281474976710656)) (.ask (aAx nm) (.must (decide (es.length≤aFt)&&aAc [K.str,K.int .i64] es) (.ask (decide ((0:Int)≤aA1 (ens es) nm)) (.must (decide (ns.length=ns.length)&&(false||ns.all fun r=>r.all C.flat)&&(decide (es.length=es.length)&&(false||es.all fun r=>r.all C.flat)&&(decide (os.length=os.length)&&(false||os.all fun r=>r.all C.flat)&&(decide (ss.length=ss.length)&&(false||ss.all fun r=>r.all C.flat)&&(true&&(false||true)&&(true&&(false||true)&&true)))))&&(true&&(false||true)&&true&&true)&&true) (.ret [C.sl ns,C.sl es,C.sl os,C.sl ss,C.int .i64 r,C.int .i64 x,C.int .i64 2])) (.ask (decide ((16:Int)≤(↑es.length:Int))) (.must (decide (ns.length=ns.length)&&(false||ns.all fun r=>r.all C.flat)&&(decide (es.length=es.length)&&(false||es.all fun r=>r.all C.flat)&&(decide (os.length=os.length)&&(false||os.all fun r=>r.all C.flat)&&(decide (ss.length=ss.length)&&(false||ss.all fun r=>r.all C.flat)&&(true&&(false||true)&&(true&&(false||true)&&true)))))&&(true&&(false||true)&&true&&true)&&true) (.ret [C.sl ns,C.sl es,C.sl os,C.sl ss,C.int .i64 r,C.int .i64 x,C.int .i64 4])) (.ask (decide ((64:Int)≤(↑ns.length:Int))) (.must (decide (ns.length=ns.length)&&(false||ns.all fun r=>r.all C.flat)&&(decide (es.length=es.length)&&(false||es.all fun r=>r.all C.flat)&&(decide (os.length=os.length)&&(false||os.all fun r=>r.all C.flat)&&(decide (ss.length=ss.length)&&(false||ss.all fun r=>r.all C.flat)&&(true&&(false||true)&&(true&&(false||true)&&true)))))&&(true&&(false||true)&&true&&true)&&true) (.ret [C.sl ns,C.sl es,C.sl os,C.sl ss,C.int .i64 r,C.int .i64 x,C.int .i64 4])) (.ask (decide ((1000000000:Int)≤x)) (.must (decide (ns.length=ns.length)&&(false||ns.all fun r=>r.all C.flat)&&(decide (es.length=es.length)&&(false||es.all fun r=>r.all C.flat)&&(decide (os.length=os.length)&&(false||os.all fun r=>r.all C.flat)&&(decide (ss.length=ss.length)&&(false||ss.all fun r=>r.all C.flat)&&(true&&(false||true)&&(true&&(false||true)&&true)))))&&(true&&(false||true)&&true&&true)&&true) (.ret [C.sl ns,C.sl es,C.sl os,C.sl ss,C.int .i64 r,C.int .i64 x,C.int .i64 4])) (.must (decide (ns.length=ns.length)&&aBz (ns.length+1) 32&&(decide (3=3)&&true)) (.must (decide (1+nm.length≤9223372036854775807)) (.must (decide (([(43:UInt8)]++nm).length+1≤9223372036854775807)) (.must (inB x 0 1000000000) (.must (decide (([(43:UInt8)]++nm++[(58:UInt8)]).length+(aB4 x).length≤9223372036854775807)) (.must (decide (ss.length=ss.length)&&aBz (ss.length+1) 16&&(decide (1=1)&&true)) (.must (aF9 (List.take es.length es)&&decide ((List.take es.length es).length<16777216)&&decide (([(43:UInt8)]++nm++[(58:UInt8)]++aB4 x).length≤16777216)) (.must ((true&&(aAt (List.take es.length es) ([(43:UInt8)]++nm++[(58:UInt8)]++aB4 x)).all fun row=>decide (row.length=2))&&true&&(decide (0<1)&&true&&true&&true)&&true) (.ask (aG2 (List.take es.length es) ([(43:UInt8)]++nm++[(58:UInt8)]++aB4 x)) (.must (true&&(true&&(true&&(true&&(true&&(true&&true)))))&&(decide (ns.length+1=(ns.append [[C.int .i64 x,C.str [],C.int .i64 0]]).length)&&(decide ((aAt (List.take es.length es) ([(43:UInt8)]++nm++[(58:UInt8)]++aB4 x)).length=(aAt (List.take es.length es) ([(43:UInt8)]++nm++[(58:UInt8)]++aB4 x)).length)&&(decide (os.length=os.length)&&(decide (ss.length+1=(ss.append [[C.str ([(43:UInt8)]++nm++[(58:UInt8)]++aB4 x)]]).length)&&true))))) (.must (aCw (ns.append [[C.int .i64 x,C.str [],C.int .i64 0]]) (aAt (List.take es.length es) ([(43:UInt8)]++nm++[(58:UInt8)]++aB4 x)) os (ss.append [[C.str ([(43:UInt8)]++nm++[(58:UInt8)]++aB4 x)]])) (.must ((true&&(aBd (ns.append [[C.int .i64 x,C.str [],C.int .i64 0]]) os (ss.append [[C.str ([(43:UInt8)]++nm++[(58:UInt8)]++aB4 x)]])).all fun row=>decide (row.length=3))&&((true&&(aAt (List.take es.length es) ([(43:UInt8)]++nm++[(58:UInt8)]++aB4 x)).all fun row=>decide (row.length=2))&&((true&&os.all fun row=>decide (row.length=2))&&((true&&(ss.append [[C.str ([(43:UInt8)]++nm++[(58:UInt8)]++aB4 x)]]).all fun row=>decide (row.length=1))&&(decide (0<1)&&true&&(decide (0<1)&&true&&true)))))) (.must (decide ((aBd (ns.append [[C.int .i64 x,C.str [],C.int .i64 0]]) os (ss.append [[C.str ([(43:UInt8)]++nm++[(58:UInt8)]++aB4 x)]])).length=(aBd (ns.append [[C.int .i64 x,C.str [],C.int .i64 0]]) os (ss.append [[C.str ([(43:UInt8)]++nm++[(58:UInt8)]++aB4 x)]])).length)&&(false||(aBd (ns.append [[C.int .i64 x,C.str [],C.int .i64 0]]) os (ss.append [[C.str ([(43:UInt8)]++nm++[(58:UInt8)]++aB4 x)]])).all fun r=>r.all C.flat)&&(decide ((aAt (List.take es.length es) ([(43:UInt8)]++nm++[(58:UInt8)]++aB4 x)).length=(aAt (List.take es.length es) ([(43:UInt8)]++nm++[(58:UInt8)]++aB4 x)).length)&&(false||(aAt (List.take es.length es) ([(43:UInt8)]++nm++[(58:UInt8)]++aB4 x)).all fun r=>r.all C.flat)&&(decide (os.length=os.length)&&(false||os.all fun r=>r.all C.flat)&&(decide ((ss.append [[C.str ([(43:UInt8)]++nm++[(58:UInt8)]++aB4 x)]]).length=(ss.append [[C.str ([(43:UInt8)]++nm++[(58:UInt8)]++aB4 x)]]).length)&&(false||(ss.append [[C.str ([(43:UInt8)]++nm++[(58:UInt8)]++aB4 x)]]).all fun r=>r.all C.flat)&&(true&&(false||true)&&(true&&(false||true)&&true)))))&&(true&&(false||true)&&true&&true)&&true) (.ret [C.sl (aBd (ns.append [[C.int .i64 x,C.str [],C.int .i64 0]]) os (ss.append [[C.str ([(43:UInt8)]++nm++[(58:UInt8)]++aB4 x)]])),C.sl (aAt (List.take es.length es) ([(43:UInt8)]++nm++[(58:UInt8)]++aB4 x)),C.sl os,C.sl (ss.append [[C.str ([(43:UInt8)]++nm++[(58:UInt8)]++aB4 x)]]),C.int .i64 r,C.int .i64 (IntKind.i64.wrap (x+(1:Int))),C.int .i64 0]))))) (.must (true&&(true&&(true&&(true&&(true&&(true&&true)))))&&(decide (ns.length+1=(ns.append [[C.int .i64 x,C.str [],C.int .i64 0]]).length)&&(decide ((aAt (List.take es.length es) ([(43:UInt8)]++nm++[(58:UInt8)]++aB4 x)).length=(aAt (List.take es.length es) ([(43:UInt8)]++nm++[(58:UInt8)]++aB4 x)).length)&&(decide (os.length=os.length)&&(decide (ss.length+1=(ss.append [[C.str ([(43:UInt8)]++nm++[(58:UInt8)]++aB4 x)]]).length)&&true))))) (.must (aCw (ns.append [[C.int .i64 x,C.str [],C.int .i64 0]]) (aAt (List.take es.length es) ([(43:UInt8)]++nm++[(58:UInt8)]++aB4 x)) os (ss.append [[C.str ([(43:UInt8)]++nm++[(58:UInt8)]++aB4 x)]])) (.must ((true&&(aBd (ns.append [[C.int .i64 x,C.str [],C.int .i64 0]]) os (ss.append [[C.str ([(43:UInt8)]++nm++[(58:UInt8)]++aB4 x)]])).all fun row=>decide (row.length=3))&&((true&&(aAt (List.take es.length es) ([(43:UInt8)]++nm++[(58:UInt8)]++aB4 x)).all fun row=>decide (row.length=2))&&((true&&os.all fun row=>decide (row.length=2))&&((true&&(ss.append [[C.str ([(43:UInt8)]++nm++[(58:UInt8)]++aB4 x)]]).all fun row=>decide (row.length=1))&&(decide (0<1)&&true&&(decide (0<1)&&true&&true)))))) (.must (decide ((aBd (ns.append [[C.int .i64 x,C.str [],C.int .i64 0]]) os (ss.append [[C.str ([(43:UInt8)]++nm++[(58:UInt8)]++aB4 x)]])).length=(aBd (ns.append [[C.int .i64 x,C.str [],C.int .i64 0]]) os (ss.append [[C.str ([(43:UInt8)]++nm++[(58:UInt8)]++aB4 x)]])).length)&&(false||(aBd (ns.append [[C.int .i64 x,C.str [],C.int .i64 0]]) os (ss.append [[C.str ([(43:UInt8)]++nm++[(58:UInt8)]++aB4 x)]])).all fun r=>r.all C.flat)&&(decide ((aAt (List.take es.length es) ([(43:UInt8)]++nm++[(58:UInt8)]++aB4 x)).length=(aAt (List.take es.length es) ([(43:UInt8)]++nm++[(58:UInt8)]++aB4 x)).length)&&(false||(aAt (List.take es.length es) ([(43:UInt8)]++nm++[(58:UInt8)]++aB4 x)).all fun r=>r.all C.flat)&&(decide (os.length=os.length)&&(false||os.all fun r=>r.all C.flat)&&(decide ((ss.append [[C.str ([(43:UInt8)]++nm++[(58:UInt8)]++aB4 x)]]).length=(ss.append [[C.str ([(43:UInt8)]++nm++[(58:UInt8)]++aB4 x)]]).length)&&(false||(ss.append [[C.str ([(43:UInt8)]++nm++[(58:UInt8)]++aB4 x)]]).all fun r=>r.all C.flat)&&(true&&(false||true)&&(true&&(false||true)&&true)))))&&(true&&(false||true)&&true&&true)&&true) (.ret [C.sl (aBd (ns.append [[C.int .i64 x,C.str [],C.int .i64 0]]) os (ss.append [[C.str ([(43:UInt8)]++nm++[(58:UInt8)]++aB4 x)]])),C.sl (aAt (List.take es.length es) ([(43:UInt8)]++nm++[(58:UInt8)]++aB4 x)),C.sl os,C.sl (ss.append [[C.str ([(43:UInt8)]++nm++[(58:UInt8)]++aB4 x)]]),C.int .i64 r,C.int .i64 (IntKind.i64.wrap (x+(1:Int))),C.int .i64 0]))))))))))))))))))) (.must (decide (ns.length=ns.length)&&(false||ns.all fun r=>r.all C.flat)&&(decide (es.length=es.length)&&(false||es.all fun r=>r.all C.flat)&&(decide (os.length=os.length)&&(false||os.all fun r=>r.all C.flat)&&(decide (ss.length=ss.length)&&(false||ss.all fun r=>r.all C.flat)&&(true&&(false||true)&&(true&&(false||true)&&true)))))&&(true&&(false||true)&&true&&true)&&true) (.ret [C.sl ns,C.sl es,C.sl os,C.sl ss,C.int .i64 r,C.int .i64 x,C.int .i64 1])))) (.must (decide (ns.length=ns.length)&&(false||ns.all fun r=>r.all C.flat)&&(decide (es.length=es.length)&&(false||es.all fun r=>r.all C.flat)&&(decide (os.length=os.length)&&(false||os.all fun r=>r.all C.flat)&&(decide (ss.length=ss.length)&&(false||ss.all fun r=>r.all C.flat)&&(true&&(false||true)&&(true&&(false||true)&&true)))))&&(true&&(false||true)&&true&&true)&&true) (.ret [C.sl ns,C.sl es,C.sl os,C.sl ss,C.int .i64 r,C.int .i64 x,C.int .i64 3])))))):T (List C)).eval:=aAg (by kernel_rfl)
theorem aQm (H:List Pt→Nat→St→T (List C)) (ns:List (List C)) (es:List (List C)) (os:List (List C)) (ss:List (List C)) (r:Int) (x:Int):(aAp aK2 (bN4 (wI E0 bE2) bNk aK2 2) (sg [aAs] [aC4]) Tryz.f62 H [C.sl ns,C.sl es,C.sl os,C.sl ss,C.int .i64 r,C.int .i64 x]).eval=((.must (aCw ns es os ss) (.must ((true&&ns.all fun row=>decide (row.length=3))&&((true&&es.all fun row=>decide (row.length=2))&&((true&&os.all fun row=>decide (row.length=2))&&((true&&ss.all fun row=>decide (row.length=1))&&(decide (0<1)&&true&&(decide (0<1)&&true&&true)))))&&true&&true) (.must (aCw ns es os ss) (.ask (aC8 ns es os ss r x) (.must (aAc [K.str,K.int .i64] es&&decide (es.length≤1099511627776)) (.must ((true&&es.all fun row=>decide (row.length=2))&&true&&true&&true) (.must (true&&(true&&(true&&(true&&(true&&(true&&true)))))&&(decide (ns.length=ns.length)&&(decide (es.length=es.length)&&(decide (es.length=es.length)&&true)))) (.must (aCw ns es es []) (.must ((true&&(aBd ns es []).all fun row=>decide (row.length=3))&&((true&&es.all fun row=>decide (row.length=2))&&((true&&es.all fun row=>decide (row.length=2))&&(true&&true&&(decide (0<1)&&true&&(decide (0<1)&&true&&true)))))) (.must (decide ((aBd ns es []).length=(aBd ns es []).length)&&(false||(aBd ns es []).all fun r=>r.all C.flat)&&(decide (es.length=es.length)&&(false||es.all fun r=>r.all C.flat)&&(decide (es.length=es.length)&&(false||es.all fun r=>r.all C.flat)&&(decide (0=0)&&(false||true)&&(true&&(false||true)&&(true&&(false||true)&&true)))))&&true&&true) (.ret [C.sl (aBd ns es []),C.sl es,C.sl es,C.sl [],C.int .i64 r,C.int .i64 x]))))))) (.must (decide (ns.length=ns.length)&&(false||ns.all fun r=>r.all C.flat)&&(decide (es.length=es.length)&&(false||es.all fun r=>r.all C.flat)&&(decide (os.length=os.length)&&(false||os.all fun r=>r.all C.flat)&&(decide (ss.length=ss.length)&&(false||ss.all fun r=>r.all C.flat)&&(true&&(false||true)&&(true&&(false||true)&&true)))))&&true&&true) (.ret [C.sl ns,C.sl es,C.sl os,C.sl ss,C.int .i64 r,C.int .i64 x])))))):T (List C)).eval:=aAg (by kernel_rfl)
theorem aTc (ns es:List (List C)) (nm:List UInt8):aB9 (nds ns) (ens es) nm=if aE6 (ens es) nm then aAq (nds ns) (aAv (ens es) nm)else -1:=by
 unfold aB9 aE6
 by_cases c:aA1 (ens es) nm<0
 ·rw[if_pos c,decide_eq_false (by omega)];rfl
 ·rw[if_neg c,decide_eq_true (by omega)];rfl
theorem aYe {ns es os ss:List (List C)} (hd:aCw ns es os ss=true):bOc ns es=true:=by
 obtain⟨d1,d2,_⟩:=aB1.1 hd
 have a:=bQ5 d1
 have b:=aW2 d2
 simp only[Bool.and_eq_true]at a b
 unfold bOc
 rw[a.1,b.1]
 show (true&&aAc kNd ns&&aAc kEn es)=true
 have a2:aAc kNd ns=true:=a.2
 have b2:aAc kEn es=true:=b.2
 rw[a2,b2];rfl
theorem aG5 {l:List En} {nm:List UInt8} {b:Bool} (h:aE6 l nm=b):(aA1 l nm<0)=(b=false)∧(0≤aA1 l nm)=(b=true):=by
 unfold aE6 at h
 subst h
 by_cases c:0≤aA1 l nm
 ·have c2:¬aA1 l nm<0:=by omega
  simp[c,c2]
 ·have c2:aA1 l nm<0:=by omega
  simp[c,c2]
theorem bLz (ss:List (List C)) (s:List UInt8):aCp (ss1 ss s)=aCp ss++[s]:=by simp[aCp,ss1,aT6,C.toStr]
theorem aR2 {ns es os ss:List (List C)} {r x:Int} (h:aC8 ns es os ss r x=true) {s:List UInt8} {l':List En} (hp:aDl (ens es) s=some l') :
  aG2 es s=true∧aAt es s=l'.map eEn∧Srt (ens es)∧∀ NS,aBd NS os (ss1 ss s)=aC2 NS os (ss1 ss s):=by
 have srt:=aFf (aR0 h)
 have fits:aAy (ens es) s=true:=by
  rw[aOo _ _ srt]at hp
  cases c:aAy (ens es) s
  ·rw[c]at hp;cases hp
  ·rfl
 refine⟨by unfold aG2;rw[hp];rfl,by unfold aAt;rw[hp];rfl,srt,fun NS=>bE1 NS os (ss1 ss s) ?_⟩
 rw[bLz]
 exact (bE3 (nds ns) (ens es) s fits (aCp ss) (ens os) (bKc h)).1
theorem bDz {g : FuncId} {fn : Func} (h : bQr g = some fn) : Tryz.prog.funcs[g]? = some fn ∧ (fn.name == "runtime.NumGoroutine") = false := by
 unfold bQr at h
 split at h
 ·rename_i hg;subst hg;obtain rfl:=Option.some.inj h;exact⟨Tryz.func99,by kernel_rfl⟩
 ·split at h
  ·rename_i hg;subst hg;obtain rfl:=Option.some.inj h;exact⟨Tryz.func102,by kernel_rfl⟩
  ·cases h
theorem aKc {lv:List (Nat×List Nat)} {gs:Laws} (h:∀ p,p∈gs→aB0 Tryz.prog p.1 p.2.1 p.2.2):aA8 Tryz.prog (bRy lv gs) :=
 ⟨⟨(bD3 aOn).1,fun g fn hh=>(bDz hh).1,fun t m e te h1 h2=>bCt aR9 t m e te h1 h2,bJq aVw,fun t e h=>by cases h⟩,fun g sig spec hl=>h (g,sig,spec) (aF4 hl),fun g fn hh=>(bDz hh).2,by kernel_rfl⟩
theorem aZ0:aA8 Tryz.prog aRn:=aKc (by simp[aGu,aEg,aF0,aDr])
theorem aVp:aB0 Tryz.prog 57 (sg [aAs,pS] [aC4,rI]) aT9:=aA5 aZ0 (fun c hc=>aNk (bLl aMz.ok aH8 c hc) 2 (hc▸aZ0)) Tryz.func57 (by kernel_rfl) fun cs outs hk h=>by
 unfold aT9 at h
 split at h
 ·simp only[Option.some.injEq,Prod.mk.injEq,Bool.and_eq_true]at h
  obtain⟨⟨hd,hm⟩,rfl⟩:=h
  rename_i ns es os ss r x nm
  obtain⟨n3,e2,o2,s1,nf,ef,of',sf⟩:=aCc hd
  obtain⟨l1,l2,l3,l4,_⟩:=aE9 hd
  obtain⟨d1,d2,d3⟩:=aB1.1 hd
  obtain⟨m1,m2⟩:=aCa.1 hm
  have hd2:aCw ns (aAz es nm) os (ss1 ss ([45]++nm))=true:=aB1.2 ⟨d1,aKd nm d2,aO2 d3 m1 (by simp;omega)⟩
  have hd3:aCw (aC2 ns os (ss1 ss ([45]++nm))) (aAz es nm) os (ss1 ss ([45]++nm))=true:=aB1.2 ⟨aG7 _ _ d1,aKd nm d2,aO2 d3 m1 (by simp;omega)⟩
  obtain⟨p1,p2,p3,p4,p5,p6,p7,p8⟩:=aCc hd3
  have e1:ss++[[C.str ([45]++nm)]]=ss1 ss ([45]++nm):=rfl
  have r4:=aCg (ss.length+1) 16 (by omega) (by omega)
  have big:=aW2 d2
  have k1:1+nm.length≤9223372036854775807:=by omega
  have k2:([45]++nm:List UInt8).length≤16777216:=by simp;omega
  show _=some ([.sl (rmN ns es os ss r x nm),.sl (rmE ns es os ss r x nm),.sl os,.sl (rmS ns es os ss r x nm),.int .i64 r,.int .i64 x,.int .i64 (rmC ns es os ss r x nm)]:List C)
  rw[aAi,aYz]
  unfold rmN rmE rmS rmC bA7
  cases c1:aC8 ns es os ss r x
  ·simp only[aA3,aA6,aA4,List.take_length,List.append_eq,decide_true,Bool.and_self,Bool.and_true,Bool.true_and,Bool.or_true,Bool.false_or,if_true,Nat.zero_add,Nat.le_refl,Nat.reduceLT,hd,n3,e2,o2,s1,nf,ef,of',sf,c1,Bool.false_and,Bool.false_eq_true,if_false]
  ·cases c2:aE6 (ens es) nm
   ·have pl:=(aG5 c2).1
    simp only[aA3,aA6,aA4,List.take_length,List.append_eq,decide_true,Bool.and_self,Bool.and_true,Bool.true_and,Bool.or_true,Bool.false_or,if_true,Nat.zero_add,Nat.le_refl,Nat.reduceLT,hd,n3,e2,o2,s1,nf,ef,of',sf,c1,c2,big,pl,Bool.false_eq_true,if_false]
   ·have pl:=(aG5 c2).1
    have f2:=(aDi hd c1).2.1
    have k3:es.length<16777216:=by omega
    have pp:0≤aA1 (ens es) nm:=by rw[(aG5 c2).2]
    obtain⟨b1,b2,srt,b3⟩:=aR2 c1 (bP8 (ens es) (bDs (aR0 c1) c2) pp)
    rw[aOp _ _ srt pp]at b2
    have b2:aAt es ([45]++nm)=aAz es nm:=b2
    have b4:=b3 ns
    simp only[aA3,aA6,aA4,List.take_length,List.append_eq,decide_true,Bool.and_self,Bool.and_true,Bool.true_and,Bool.or_true,Bool.false_or,if_true,Nat.zero_add,Nat.le_refl,Nat.reduceLT,hd,n3,e2,o2,s1,nf,ef,of',sf,c1,c2,big,pl,d2,p2,k1,k2,k3,r4,e1,b1,b2,b4,aNa,hd2,p1,p3,p4,p5,p6,p7,p8,Bool.false_eq_true,Bool.true_eq_false,decide_false,if_false]
 ·cases h
theorem aO7:aA8 Tryz.prog aK2:=aKc (by simp[aEg,aF0,aHi])
theorem aOj:aB0 Tryz.prog 62 (sg [aAs] [aC4]) aT2:=aA5 aO7 (fun c hc=>aNk (bLl aMz.ok aH8 c hc) 2 (hc▸aO7)) Tryz.func62 (by kernel_rfl) fun cs outs hk h=>by
 unfold aT2 at h
 split at h
 ·simp only[Option.some.injEq,Prod.mk.injEq]at h
  obtain⟨hd,rfl⟩:=h
  rename_i ns es os ss r x
  obtain⟨n3,e2,o2,s1,nf,ef,of',sf⟩:=aCc hd
  obtain⟨l1,l2,l3,l4,_⟩:=aE9 hd
  obtain⟨d1,d2,d3⟩:=aB1.1 hd
  have st:stB es []=true:=aDs.2 ⟨d2,bOb,by simpa using l2⟩
  have hd2:aCw ns es es []=true:=aB1.2 ⟨d1,d2,st⟩
  have hd3:aCw (aC2 ns es []) es es []=true:=aB1.2 ⟨aG7 _ _ d1,d2,st⟩
  obtain⟨p1,p2,p3,p4,p5,p6,p7,p8⟩:=aCc hd3
  have k1:aAc [K.str,K.int .i64] es=true:=(aFw.1 d2).1
  have k2:es.length≤1099511627776:=by omega
  have pc:aBd ns es []=aC2 ns es []:=bE1 ns es [] trivial
  show _=some ([.sl (snN ns es os ss r x),.sl es,.sl (snO ns es os ss r x),.sl (snS ns es os ss r x),.int .i64 r,.int .i64 x]:List C)
  rw[aAi,aQm]
  unfold snN snO snS
  cases c1:aC8 ns es os ss r x
  ·simp only[aA3,aA6,aA4,List.take_length,List.append_eq,decide_true,Bool.and_self,Bool.and_true,Bool.true_and,Bool.or_true,Bool.false_or,if_true,Nat.zero_add,Nat.le_refl,Nat.reduceLT,hd,n3,e2,o2,s1,nf,ef,of',sf,c1,Bool.false_eq_true,if_false]
  ·simp only[aA3,aA6,aA4,List.take_length,List.append_eq,decide_true,Bool.and_self,Bool.and_true,Bool.true_and,Bool.or_true,Bool.false_or,if_true,Nat.zero_add,Nat.le_refl,Nat.reduceLT,hd,n3,e2,o2,s1,nf,ef,of',sf,c1,k1,k2,pc,hd2,p1,p5]
 ·cases h
theorem aZ9:aA8 Tryz.prog aRq:=aKc (by simp[aGu,aEg,aF0,aDr,aGe,aTi])
theorem aVr:aB0 Tryz.prog 58 (sg [aAs,pS] [aC4,rI]) aTr:=aA5 aZ9 (fun c hc=>aNk (bLl aMz.ok aH8 c hc) 2 (hc▸aZ9)) Tryz.func58 (by kernel_rfl) fun cs outs hk h=>by
 unfold aTr at h
 split at h
 ·simp only[Option.some.injEq,Prod.mk.injEq,Bool.and_eq_true]at h
  obtain⟨⟨hd,hm⟩,rfl⟩:=h
  rename_i ns es os ss r x nm
  obtain⟨n3,e2,o2,s1,nf,ef,of',sf⟩:=aCc hd
  obtain⟨l1,l2,l3,l4,_⟩:=aE9 hd
  obtain⟨d1,d2,d3⟩:=aB1.1 hd
  obtain⟨m1,m2⟩:=aCa.1 hm
  have big:=aW2 d2
  have k0:nm.length≤281474976710656:=by omega
  show _=some ([.sl (crN ns es os ss r x nm),.sl (crE ns es os ss r x nm),.sl os,.sl (crS ns es os ss r x nm),.int .i64 r,.int .i64 (crX ns es os ss r x nm),.int .i64 (crC ns es os ss r x nm)]:List C)
  rw[aAi,aZ8]
  unfold crN crE crS crX crC
  cases c1:aC8 ns es os ss r x
  ·simp only[aA3,aA6,aA4,List.take_length,List.append_eq,decide_true,Bool.and_self,Bool.and_true,Bool.true_and,Bool.or_true,Bool.false_or,if_true,Nat.zero_add,Nat.le_refl,Nat.reduceLT,hd,n3,e2,o2,s1,nf,ef,of',sf,c1,Bool.false_eq_true,if_false,Int.reduceEq]
  ·obtain⟨f1,f2,f3,f4,_,_⟩:=aDi hd c1
   cases c2:aAx nm
   ·simp only[aA3,aA6,aA4,List.take_length,List.append_eq,decide_true,Bool.and_self,Bool.and_true,Bool.true_and,Bool.or_true,Bool.false_or,if_true,Nat.zero_add,Nat.le_refl,Nat.reduceLT,hd,n3,e2,o2,s1,nf,ef,of',sf,c1,c2,k0,Bool.false_eq_true,if_false,Int.reduceEq]
   ·cases c3:aE6 (ens es) nm
    ·have pl:=(aG5 c3).2
     by_cases q1:16≤es.length
     ·have q1':(16:Int)≤es.length:=by omega
      simp only[aA3,aA6,aA4,List.take_length,List.append_eq,decide_true,Bool.and_self,Bool.and_true,Bool.true_and,Bool.or_true,Bool.false_or,if_true,Nat.zero_add,Nat.le_refl,Nat.reduceLT,hd,n3,e2,o2,s1,nf,ef,of',sf,c1,c2,c3,pl,k0,big,q1,q1',true_or,Bool.false_eq_true,decide_false,if_false,Int.reduceEq]
     ·have q1':¬(16:Int)≤es.length:=by omega
      by_cases q2:64≤ns.length
      ·have q2':(64:Int)≤ns.length:=by omega
       simp only[aA3,aA6,aA4,List.take_length,List.append_eq,decide_true,Bool.and_self,Bool.and_true,Bool.true_and,Bool.or_true,Bool.false_or,if_true,Nat.zero_add,Nat.le_refl,Nat.reduceLT,hd,n3,e2,o2,s1,nf,ef,of',sf,c1,c2,c3,pl,k0,big,q1,q1',q2,q2',true_or,or_true,decide_false,Bool.false_eq_true,if_false,Int.reduceEq]
      ·have q2':¬(64:Int)≤ns.length:=by omega
       by_cases q3:1000000000≤x
       ·simp only[aA3,aA6,aA4,List.take_length,List.append_eq,decide_true,Bool.and_self,Bool.and_true,Bool.true_and,Bool.or_true,Bool.false_or,if_true,Nat.zero_add,Nat.le_refl,Nat.reduceLT,hd,n3,e2,o2,s1,nf,ef,of',sf,c1,c2,c3,pl,k0,big,q1,q1',q2,q2',q3,true_or,or_true,decide_false,Bool.false_eq_true,if_false,Int.reduceEq]
       ·have dl:=aR4 x
        have sl:([43]++nm++[58]++aB4 x).length≤16777216:=by simp;omega
        have em:[43]++nm++[58]++aB4 x=aFi nm x:=rfl
        rw[em]at sl
        have st:=aO2 d3 m1 sl
        have pe:=aV3 nm x d2 (by omega) (by omega)
        have nn:=bOe x d1 (by omega)
        have hd2:aCw (ns++[eNd ⟨x,[],0⟩]) (aEc es nm x) os (ss1 ss (aFi nm x))=true:=aB1.2 ⟨nn,pe,st⟩
        have hd3:aCw (aC2 (ns++[eNd ⟨x,[],0⟩]) os (ss1 ss (aFi nm x))) (aEc es nm x) os (ss1 ss (aFi nm x))=true:=aB1.2 ⟨aG7 _ _ nn,pe,st⟩
        obtain⟨p1,p2,p3,p4,p5,p6,p7,p8⟩:=aCc hd3
        have e1:ss++[[C.str (aFi nm x)]]=ss1 ss (aFi nm x):=rfl
        have e3:ns++[[C.int .i64 x,C.str [],C.int .i64 0]]=ns++[eNd ⟨x,[],0⟩]:=rfl
        have nl1:(ns++[eNd ⟨x,[],0⟩]).length=ns.length+1:=by simp
        have r1:=aCg (ns.length+1) 32 (by omega) (by omega)
        have r4:=aCg (ss.length+1) 16 (by omega) (by omega)
        have k1:1+nm.length≤9223372036854775807:=by omega
        have k2:([43]++nm).length+1≤9223372036854775807:=by simp;omega
        have k3:([43]++nm++[58]).length+(aB4 x).length≤9223372036854775807:=by simp;omega
        have k4:inB x 0 1000000000=true:=by rw[aHy];omega
        have k5:es.length<16777216:=by omega
        have w:IntKind.i64.wrap (x+1)=x+1:=by rw[aAm]<;>omega
        obtain⟨b1,b2,srt,b3⟩:=aR2 c1 (bP9 (ens es) c2 (by omega:0≤x) (by omega))
        rw[aV7 _ _ srt]at b2
        have b2:aAt es (aFi nm x)=aEc es nm x:=b2
        have b4:=b3 (ns++[eNd ⟨x,[],0⟩])
        simp only[aA3,aA6,aA4,List.take_length,List.append_eq,decide_true,Bool.and_self,Bool.and_true,Bool.true_and,Bool.or_true,Bool.false_or,if_true,Nat.zero_add,Nat.le_refl,Nat.reduceLT,hd,n3,e2,o2,s1,nf,ef,of',sf,c1,c2,c3,pl,k0,big,q1,q1',q2,q2',q3,r1,d2,k1,k2,k3,k4,k5,r4,em,sl,e1,e3,b1,b2,b4,nl1,aNa,hd2,w,p1,p2,p3,p4,p5,p6,p7,p8,or_self,decide_false,Bool.false_eq_true,if_false]
    ·have pl:=(aG5 c3).2
     simp only[aA3,aA6,aA4,List.take_length,List.append_eq,decide_true,Bool.and_self,Bool.and_true,Bool.true_and,Bool.or_true,Bool.false_or,if_true,Nat.zero_add,Nat.le_refl,Nat.reduceLT,hd,n3,e2,o2,s1,nf,ef,of',sf,c1,c2,c3,pl,k0,big,Bool.false_eq_true,if_false,Int.reduceEq]
 ·cases h
theorem aYy:aA8 Tryz.prog aRm:=aKc (by simp[aGu,aEg,aF0,aDr,aGe])
theorem aVo:aB0 Tryz.prog 61 (sg [aAs,pS,pS] [aC4,rI]) aT8:=aA5 aYy (fun c hc=>aNk (bLl aMz.ok aH8 c hc) 2 (hc▸aYy)) Tryz.func61 (by kernel_rfl) fun cs outs hk h=>by
 unfold aT8 at h
 split at h
 ·simp only[Option.some.injEq,Prod.mk.injEq,Bool.and_eq_true]at h
  obtain⟨⟨hd,hm,hm2⟩,rfl⟩:=h
  rename_i ns es os ss r x a b
  obtain⟨n3,e2,o2,s1,nf,ef,of',sf⟩:=aCc hd
  obtain⟨l1,l2,l3,l4,_⟩:=aE9 hd
  obtain⟨d1,d2,d3⟩:=aB1.1 hd
  obtain⟨m1,m2⟩:=aCa.1 hm
  obtain⟨_,m3⟩:=aCa.1 hm2
  have big:=aW2 d2
  have k0:b.length≤281474976710656:=by omega
  show _=some ([.sl (rnN ns es os ss r x a b),.sl (rnE ns es os ss r x a b),.sl os,.sl (rnS ns es os ss r x a b),.int .i64 r,.int .i64 x,.int .i64 (rnC ns es os ss r x a b)]:List C)
  rw[aAi,aYx]
  unfold rnN rnE rnS rnC bA7
  cases c1:aC8 ns es os ss r x
  ·simp only[aA3,aA6,aA4,List.take_length,List.append_eq,decide_true,Bool.and_self,Bool.and_true,Bool.true_and,Bool.or_true,Bool.false_or,if_true,Nat.zero_add,Nat.le_refl,Nat.reduceLT,hd,n3,e2,o2,s1,nf,ef,of',sf,c1,Bool.false_and,Bool.false_eq_true,if_false,Int.reduceEq]
  ·cases c2:aE6 (ens es) a
   ·have pl:=(aG5 c2).1
    simp only[aA3,aA6,aA4,List.take_length,List.append_eq,decide_true,Bool.and_self,Bool.and_true,Bool.true_and,Bool.or_true,Bool.false_or,if_true,Nat.zero_add,Nat.le_refl,Nat.reduceLT,hd,n3,e2,o2,s1,nf,ef,of',sf,c1,c2,big,pl,Bool.false_eq_true,if_false,Int.reduceEq]
   ·have pl:=(aG5 c2).1
    cases c3:aAx b
    ·simp only[aA3,aA6,aA4,List.take_length,List.append_eq,decide_true,Bool.and_self,Bool.and_true,Bool.true_and,Bool.or_true,Bool.false_or,if_true,Nat.zero_add,Nat.le_refl,Nat.reduceLT,hd,n3,e2,o2,s1,nf,ef,of',sf,c1,c2,c3,pl,k0,big,Bool.false_eq_true,Bool.true_eq_false,decide_false,if_false,Int.reduceEq]
    ·by_cases c4:a=b
     ·have c4':(a==b)=true:=by simpa using c4
      simp only[aA3,aA6,aA4,List.take_length,List.append_eq,decide_true,Bool.and_self,Bool.and_true,Bool.true_and,Bool.or_true,Bool.false_or,if_true,Nat.zero_add,Nat.le_refl,Nat.reduceLT,hd,n3,e2,o2,s1,nf,ef,of',sf,c1,c2,c3,c4',pl,k0,big,if_pos c4,Bool.false_eq_true,Bool.true_eq_false,decide_false,if_false,Int.reduceEq]
     ·have c4':(a==b)=false:=by simpa using c4
      obtain⟨f1,f2,f3,f4,_,_⟩:=aDi hd c1
      have dr:=aKd a d2
      have dl:(aAz es a).length≤es.length:=by unfold aAz;rw[List.length_map];have:=aGn (ens es) a;unfold ens at this ⊢;rw[List.length_map]at this;exact this
      have pe:=aV3 b (aAv (ens es) a) dr (by omega) (by omega)
      have em:[62]++a++[58]++b=aEr a b:=rfl
      have sl:(aEr a b).length≤16777216:=by rw[←em];simp;omega
      have st:=aO2 d3 m1 sl
      have hd2:aCw ns (aEc (aAz es a) b (aAv (ens es) a)) os (ss1 ss (aEr a b))=true:=aB1.2 ⟨d1,pe,st⟩
      have hd3:aCw (aC2 ns os (ss1 ss (aEr a b))) (aEc (aAz es a) b (aAv (ens es) a)) os (ss1 ss (aEr a b))=true:=aB1.2 ⟨aG7 _ _ d1,pe,st⟩
      obtain⟨p1,p2,p3,p4,p5,p6,p7,p8⟩:=aCc hd3
      have e1:ss++[[C.str (aEr a b)]]=ss1 ss (aEr a b):=rfl
      have r4:=aCg (ss.length+1) 16 (by omega) (by omega)
      have k1:1+a.length≤9223372036854775807:=by omega
      have k2:([62]++a).length+1≤9223372036854775807:=by simp;omega
      have k3:([62]++a++[58]).length+b.length≤9223372036854775807:=by simp;omega
      have k5:es.length<16777216:=by omega
      have pp:0≤aA1 (ens es) a:=by rw[(aG5 c2).2]
      obtain⟨b1,b2,srt,b3⟩:=aR2 c1 (bP7 (ens es) (bDs (aR0 c1) c2) pp c3 c4)
      rw[aOp _ _ srt pp,aV7 _ _ (bD9 srt)]at b2
      have b2:aAt es (aEr a b)=aEc (aAz es a) b (aAv (ens es) a):=by rw[b2];unfold aEc aAz;rw[aGz]
      have b4:=b3 ns
      simp only[aA3,aA6,aA4,List.take_length,List.append_eq,decide_true,Bool.and_self,Bool.and_true,Bool.true_and,Bool.or_true,Bool.false_or,if_true,Nat.zero_add,Nat.le_refl,Nat.reduceLT,hd,n3,e2,o2,s1,nf,ef,of',sf,c1,c2,c3,c4',if_neg c4,pl,k0,big,d2,k1,k2,k3,k5,r4,em,sl,e1,b1,b2,b4,aNa,hd2,p1,p2,p3,p4,p5,p6,p7,p8,Bool.false_eq_true,Bool.true_eq_false,decide_false,if_false]
 ·cases h
theorem bRz (n m:Int):bA8 n m=if m<n then m else n:=rfl
theorem bJo:aA8 Tryz.prog bA5:=aA9 (by simp[aM3,aQl,aEg,aF0])
theorem aVs:aB0 Tryz.prog 59 (sg [aAs,pS,pS] [aC4,rI]) aTx:=aA5 bJo aAe Tryz.func59 (by kernel_rfl) fun cs outs hk h=>by
 unfold aTx at h
 split at h
 ·simp only[Option.some.injEq,Prod.mk.injEq,Bool.and_eq_true,decide_eq_true_eq]at h
  obtain⟨⟨hd,hm⟩,rfl⟩:=h
  rename_i ns es os ss r x nm t
  obtain⟨d1,d2,d3⟩:=aB1.1 hd
  obtain⟨l,rfl,e,hl,ht⟩:=aE4 d1
  obtain⟨n3,e2,o2,s1,nf,ef,of',sf⟩:=aCc hd
  have tl:t.length≤16777216:=hm
  have ne:=aYe hd
  have ix:=aTc (l.map eNd) es nm
  show _=some ([.sl (apN (l.map eNd) es os ss r x nm t),.sl es,.sl os,.sl ss,.int .i64 r,.int .i64 x,.int .i64 (apC (l.map eNd) es os ss r x nm t)]:List C)
  rw[aAi,aZa]
  unfold apN apC bA7 ndK aYf
  rw[ix]
  cases c1:aC8 (l.map eNd) es os ss r x
  ·simp only[aA3,aA6,aA4,List.take_length,List.append_eq,decide_true,Bool.and_self,Bool.and_true,Bool.true_and,Bool.or_true,Bool.false_or,if_true,Nat.zero_add,Nat.le_refl,Nat.reduceLT,hd,n3,e2,o2,s1,nf,ef,of',sf,ne,c1,Bool.false_and,Bool.false_eq_true,if_false]
  ·cases c2:aE6 (ens es) nm
   ·simp only[aA3,aA6,aA4,List.take_length,List.append_eq,decide_true,Bool.and_self,Bool.and_true,Bool.true_and,Bool.or_true,Bool.false_or,if_true,Nat.zero_add,Nat.le_refl,Nat.reduceLT,hd,n3,e2,o2,s1,nf,ef,of',sf,ne,c1,c2,Bool.false_and,Bool.and_false,Bool.false_eq_true,if_false,show ((-1:Int)<0)=True from by decide]
   ·obtain⟨k1,k2⟩:=bDm hd c1 c2
    obtain⟨_,_,f3,_,f5,_⟩:=aDi hd c1
    rw[aEm]at k1 k2 f5
    rw[List.length_map]at k2
    obtain⟨k,hk⟩:=Int.eq_ofNat_of_zero_le k1
    have hkl:k<l.length:=by omega
    have g:=aAo eNd l ⟨0,[],0⟩ k hkl
    have un:=aWx hkl
    have tx:=ht _ (aGf (d:=⟨0,[],0⟩) hkl)
    have w:IntKind.i64.wrap (r-Int.ofNat (aBy l))=r-aBy l:=by
     show IntKind.i64.wrap (r-(aBy l:Int))=_
     rw[aAm]<;>omega
    have m0:¬((k:Int)<0):=by omega
    have m1:(0:Int)≤k:=by omega
    have m2:(k:Int)<l.length:=by omega
    have m3:(0:Int)≤r-aBy l:=by omega
    generalize hy:l.getD k ⟨0,[],0⟩=y at g un tx
    by_cases c3:r-(aBy l:Int)<t.length
    ·have im:bA8 (t.length:Int) (r-(aBy l:Int))=r-(aBy l:Int):=by rw[bRz,if_pos c3]
     have m4:r-(aBy l:Int)≤t.length:=by omega
     have m5:y.text.length+(List.take (r-(aBy l:Int)).toNat t).length≤9223372036854775807:=by rw[List.length_take];omega
     simp only[aA3,aA6,aA4,List.take_length,List.append_eq,decide_true,Bool.and_self,Bool.and_true,Bool.true_and,Bool.or_true,Bool.false_or,if_true,Nat.zero_add,Nat.le_refl,Nat.reduceLT,hd,n3,e2,o2,s1,nf,ef,of',sf,ne,c1,d1,aEm,hk,w,im,c3,m0,m1,m2,m3,m4,m5,hkl,Int.toNat_natCast,List.length_map,g,hy,bR2,aM6,List.length_set,aEh,List.getD_cons_succ,List.getD_cons_zero,C.toStr,C.is,List.length_cons,List.length_nil,Nat.reduceAdd,List.drop_zero,decide_eq_true_eq,decide_false,Bool.false_eq_true,if_false]
    ·have im:bA8 (t.length:Int) (r-(aBy l:Int))=(t.length:Int):=by rw[bRz,if_neg c3]
     have m4:y.text.length+t.length≤9223372036854775807:=by omega
     have m6:¬((t.length:Int)<t.length):=by omega
     have m7:(0:Int)≤(t.length:Int):=by omega
     have m8:(t.length:Int)≤(t.length:Int):=by omega
     simp only[aA3,aA6,aA4,List.take_length,List.append_eq,decide_true,Bool.and_self,Bool.and_true,Bool.true_and,Bool.or_true,Bool.false_or,if_true,Nat.zero_add,Nat.le_refl,Nat.reduceLT,hd,n3,e2,o2,s1,nf,ef,of',sf,ne,c1,d1,aEm,hk,w,im,c3,m0,m1,m2,m4,m6,m7,m8,hkl,Int.toNat_natCast,List.length_map,g,hy,bR2,aM6,List.length_set,aEh,List.getD_cons_succ,List.getD_cons_zero,C.toStr,C.is,List.length_cons,List.length_nil,Nat.reduceAdd,List.drop_zero,decide_eq_true_eq,decide_false,Bool.false_eq_true,if_false]
 ·cases h
theorem bQi:aA8 Tryz.prog bL7:=aA9 (by simp[aM3,aEg,aF0])
theorem bBw:aB0 Tryz.prog 60 (sg [aAs,pS] [aC4,rI]) aSx:=aA5 bQi aAe Tryz.func60 (by kernel_rfl) fun cs outs hk h=>by
 unfold aSx at h
 split at h
 ·simp only[Option.some.injEq,Prod.mk.injEq]at h
  obtain⟨hd,rfl⟩:=h
  rename_i ns es os ss r x nm
  obtain⟨d1,d2,d3⟩:=aB1.1 hd
  obtain⟨l,rfl,e,hl,ht⟩:=aE4 d1
  obtain⟨n3,e2,o2,s1,nf,ef,of',sf⟩:=aCc hd
  have ne:=aYe hd
  have ix:=aTc (l.map eNd) es nm
  show _=some ([.sl (syN (l.map eNd) es os ss r x nm),.sl es,.sl os,.sl ss,.int .i64 r,.int .i64 x,.int .i64 (rmC (l.map eNd) es os ss r x nm)]:List C)
  rw[aAi,bG3]
  unfold syN rmC bA7 ndK
  rw[ix]
  cases c1:aC8 (l.map eNd) es os ss r x
  ·simp only[aA3,aA6,aA4,List.take_length,List.append_eq,decide_true,Bool.and_self,Bool.and_true,Bool.true_and,Bool.or_true,Bool.false_or,if_true,Nat.zero_add,Nat.le_refl,Nat.reduceLT,hd,n3,e2,o2,s1,nf,ef,of',sf,ne,c1,Bool.false_and,Bool.false_eq_true,if_false]
  ·cases c2:aE6 (ens es) nm
   ·simp only[aA3,aA6,aA4,List.take_length,List.append_eq,decide_true,Bool.and_self,Bool.and_true,Bool.true_and,Bool.or_true,Bool.false_or,if_true,Nat.zero_add,Nat.le_refl,Nat.reduceLT,hd,n3,e2,o2,s1,nf,ef,of',sf,ne,c1,c2,Bool.false_and,Bool.and_false,Bool.false_eq_true,if_false,show ((-1:Int)<0)=True from by decide]
   ·obtain⟨k1,k2⟩:=bDm hd c1 c2
    rw[aEm]at k1 k2
    rw[List.length_map]at k2
    obtain⟨k,hk⟩:=Int.eq_ofNat_of_zero_le k1
    have hkl:k<l.length:=by omega
    have g:=aAo eNd l ⟨0,[],0⟩ k hkl
    have m0:¬((k:Int)<0):=by omega
    have m1:(0:Int)≤k:=by omega
    have m2:(k:Int)<l.length:=by omega
    generalize hy:l.getD k ⟨0,[],0⟩=y at g
    simp only[aA3,aA6,aA4,List.take_length,List.append_eq,decide_true,Bool.and_self,Bool.and_true,Bool.true_and,Bool.or_true,Bool.false_or,if_true,Nat.zero_add,Nat.le_refl,Nat.reduceLT,hd,n3,e2,o2,s1,nf,ef,of',sf,ne,c1,d1,aEm,hk,m0,m1,m2,hkl,Int.toNat_natCast,List.length_map,g,hy,bRh,aM6,List.length_set,aEh,List.getD_cons_succ,List.getD_cons_zero,C.toStr,C.is,List.length_cons,List.length_nil,Nat.reduceAdd,decide_false,Bool.false_eq_true,if_false]
 ·cases h
noncomputable section
structure Opx where
 kind:Int
 name:List UInt8
 to:List UInt8
 text:List UInt8
 deriving DecidableEq
abbrev eOp (x:Opx):List C:=[.int .i64 x.kind,.str x.name,.str x.to,.str x.text]
abbrev kOp:List K:=[.int .i64,.str,.str,.str]
def bRm (r:List C):Opx:=⟨(r.getD 0 (.fn 0 [])).toInt,(r.getD 1 (.fn 0 [])).toStr,(r.getD 2 (.fn 0 [])).toStr,(r.getD 3 (.fn 0 [])).toStr⟩
def ops (rows:List (List C)):List Opx:=rows.map bRm
def pOp:PTy:=.val true kOp
def rOp:RTy:=⟨true,[(.int .i64,false),(.str,false),(.str,false),(.str,false)]⟩
end
@[simp] theorem bTf (l:List Opx):ops (l.map eOp)=l:=by simp[ops,bRm,Function.comp_def,C.toInt,C.toStr]
noncomputable section
def aAr (d:Dk) (k:Int) (n o t:List UInt8):Dk:=if k=1 then rmD d n else if k=2 then crD d n else if k=3 then apD d n t else if k=4 then syD d n else if k=5 then rnD d n o else if k=6 then snD d else d
def bLh (d:Dk) (k:Int) (n o t:List UInt8):Int:=if k=1 then rmC d.ns d.es d.os d.ss d.r d.x n else if k=2 then crC d.ns d.es d.os d.ss d.r d.x n else if k=3 then apC d.ns d.es d.os d.ss d.r d.x n t else if k=4 then rmC d.ns d.es d.os d.ss d.r d.x n else if k=5 then rnC d.ns d.es d.os d.ss d.r d.x n o else if k=6 then 0 else 1
def bPk (ns es os ss:List (List C)) (n o t:List UInt8):Bool:=aCw ns es os ss&&(aDt os ss n&&(aDt os ss o&&decide (t.length≤dN)))
def aNd:Spec:=fun cs=>match cs with
 |[.sl ns,.sl es,.sl os,.sl ss,.int .i64 r,.int .i64 x,.int .i64 k,.str n,.str o,.str t]=>some (bPk ns es os ss n o t,bPz (aAr ⟨ns,es,os,ss,r,x⟩ k n o t)++[.int .i64 (bLh ⟨ns,es,os,ss,r,x⟩ k n o t)])
 |_=>none
def bOq:Env:=mkE [] [(32,(sg [aAs] [aC4]),aCt),(51,(sg [aAs,pS] [aC4,rI]),aT9),(56,(sg [aAs] [aC4]),aT2),(52,(sg [aAs,pS] [aC4,rI]),aTr),(53,(sg [aAs,pS,pS] [aC4,rI]),aTx),(54,(sg [aAs,pS] [aC4,rI]),aSx),(55,(sg [aAs,pS,pS] [aC4,rI]),aT8)]
def bOt:Env:=mkE [] [(41,(sg [aAs] [aC4]),aCt),(59,(sg [aAs,pS,pS] [aC4,rI]),aTx),(60,(sg [aAs,pS] [aC4,rI]),aSx),(57,(sg [aAs,pS] [aC4,rI]),aT9),(61,(sg [aAs,pS,pS] [aC4,rI]),aT8),(58,(sg [aAs,pS] [aC4,rI]),aTr),(62,(sg [aAs] [aC4]),aT2)]
end
theorem bHu (H:List Pt→Nat→St→T (List C)) (ns:List (List C)) (es:List (List C)) (os:List (List C)) (ss:List (List C)) (r:Int) (x:Int) (k:Int) (n:List UInt8) (o:List UInt8) (t:List UInt8):(aAp bOq aAf (sg [aAs,pOp] [aC4,rI]) Tryz.f15 H [C.sl ns,C.sl es,C.sl os,C.sl ss,C.int .i64 r,C.int .i64 x,C.int .i64 k,C.str n,C.str o,C.str t]).eval=(let d1:Dk:=(rmD {ns:=ns,es:=es,os:=os,ss:=ss,r:=r,x:=x} n);let d2:Dk:=(crD {ns:=ns,es:=es,os:=os,ss:=ss,r:=r,x:=x} n);let d3:Dk:=(apD {ns:=ns,es:=es,os:=os,ss:=ss,r:=r,x:=x} n t);let d4:Dk:=(syD {ns:=ns,es:=es,os:=os,ss:=ss,r:=r,x:=x} n);let d5:Dk:=(rnD {ns:=ns,es:=es,os:=os,ss:=ss,r:=r,x:=x} n o);let d6:Dk:=(snD {ns:=ns,es:=es,os:=os,ss:=ss,r:=r,x:=x});(.ask (decide (k=(1:Int))) (.must (aCw ns es os ss&&aDt os ss n) (.must ((true&&d1.ns.all fun row=>decide (row.length=3))&&((true&&d1.es.all fun row=>decide (row.length=2))&&((true&&d1.os.all fun row=>decide (row.length=2))&&((true&&d1.ss.all fun row=>decide (row.length=1))&&(decide (0<1)&&true&&(decide (0<1)&&true&&true)))))&&(decide (0<1)&&true&&true&&true)&&true) (.must (decide (d1.ns.length=d1.ns.length)&&(false||d1.ns.all fun r=>r.all C.flat)&&(decide (d1.es.length=d1.es.length)&&(false||d1.es.all fun r=>r.all C.flat)&&(decide (d1.os.length=d1.os.length)&&(false||d1.os.all fun r=>r.all C.flat)&&(decide (d1.ss.length=d1.ss.length)&&(false||d1.ss.all fun r=>r.all C.flat)&&(true&&(false||true)&&(true&&(false||true)&&true)))))&&(true&&(false||true)&&true&&true)&&true) (.ret [C.sl d1.ns,C.sl d1.es,C.sl d1.os,C.sl d1.ss,C.int .i64 d1.r,C.int .i64 d1.x,C.int .i64 (rmC ns es os ss r x n)])))) (.ask (decide (k=(2:Int))) (.must (aCw ns es os ss&&aDt os ss n) (.must ((true&&d2.ns.all fun row=>decide (row.length=3))&&((true&&d2.es.all fun row=>decide (row.length=2))&&((true&&d2.os.all fun row=>decide (row.length=2))&&((true&&d2.ss.all fun row=>decide (row.length=1))&&(decide (0<1)&&true&&(decide (0<1)&&true&&true)))))&&(decide (0<1)&&true&&true&&true)&&true) (.must (decide (d2.ns.length=d2.ns.length)&&(false||d2.ns.all fun r=>r.all C.flat)&&(decide (d2.es.length=d2.es.length)&&(false||d2.es.all fun r=>r.all C.flat)&&(decide (d2.os.length=d2.os.length)&&(false||d2.os.all fun r=>r.all C.flat)&&(decide (d2.ss.length=d2.ss.length)&&(false||d2.ss.all fun r=>r.all C.flat)&&(true&&(false||true)&&(true&&(false||true)&&true)))))&&(true&&(false||true)&&true&&true)&&true) (.ret [C.sl d2.ns,C.sl d2.es,C.sl d2.os,C.sl d2.ss,C.int .i64 d2.r,C.int .i64 d2.x,C.int .i64 (crC ns es os ss r x n)])))) (.ask (decide (k=(3:Int))) (.must (aCw ns es os ss&&decide (t.length≤16777216)) (.must ((true&&d3.ns.all fun row=>decide (row.length=3))&&((true&&d3.es.all fun row=>decide (row.length=2))&&((true&&d3.os.all fun row=>decide (row.length=2))&&((true&&d3.ss.all fun row=>decide (row.length=1))&&(decide (0<1)&&true&&(decide (0<1)&&true&&true)))))&&(decide (0<1)&&true&&true&&true)&&true) (.must (decide (d3.ns.length=d3.ns.length)&&(false||d3.ns.all fun r=>r.all C.flat)&&(decide (d3.es.length=d3.es.length)&&(false||d3.es.all fun r=>r.all C.flat)&&(decide (d3.os.length=d3.os.length)&&(false||d3.os.all fun r=>r.all C.flat)&&(decide (d3.ss.length=d3.ss.length)&&(false||d3.ss.all fun r=>r.all C.flat)&&(true&&(false||true)&&(true&&(false||true)&&true)))))&&(true&&(false||true)&&true&&true)&&true) (.ret [C.sl d3.ns,C.sl d3.es,C.sl d3.os,C.sl d3.ss,C.int .i64 d3.r,C.int .i64 d3.x,C.int .i64 (apC ns es os ss r x n t)])))) (.ask (decide (k=(4:Int))) (.must (aCw ns es os ss) (.must ((true&&d4.ns.all fun row=>decide (row.length=3))&&((true&&d4.es.all fun row=>decide (row.length=2))&&((true&&d4.os.all fun row=>decide (row.length=2))&&((true&&d4.ss.all fun row=>decide (row.length=1))&&(decide (0<1)&&true&&(decide (0<1)&&true&&true)))))&&(decide (0<1)&&true&&true&&true)&&true) (.must (decide (d4.ns.length=d4.ns.length)&&(false||d4.ns.all fun r=>r.all C.flat)&&(decide (d4.es.length=d4.es.length)&&(false||d4.es.all fun r=>r.all C.flat)&&(decide (d4.os.length=d4.os.length)&&(false||d4.os.all fun r=>r.all C.flat)&&(decide (d4.ss.length=d4.ss.length)&&(false||d4.ss.all fun r=>r.all C.flat)&&(true&&(false||true)&&(true&&(false||true)&&true)))))&&(true&&(false||true)&&true&&true)&&true) (.ret [C.sl d4.ns,C.sl d4.es,C.sl d4.os,C.sl d4.ss,C.int .i64 d4.r,C.int .i64 d4.x,C.int .i64 (rmC ns es os ss r x n)])))) (.ask (decide (k=(5:Int))) (.must (aCw ns es os ss&&(aDt os ss n&&aDt os ss o)) (.must ((true&&d5.ns.all fun row=>decide (row.length=3))&&((true&&d5.es.all fun row=>decide (row.length=2))&&((true&&d5.os.all fun row=>decide (row.length=2))&&((true&&d5.ss.all fun row=>decide (row.length=1))&&(decide (0<1)&&true&&(decide (0<1)&&true&&true)))))&&(decide (0<1)&&true&&true&&true)&&true) (.must (decide (d5.ns.length=d5.ns.length)&&(false||d5.ns.all fun r=>r.all C.flat)&&(decide (d5.es.length=d5.es.length)&&(false||d5.es.all fun r=>r.all C.flat)&&(decide (d5.os.length=d5.os.length)&&(false||d5.os.all fun r=>r.all C.flat)&&(decide (d5.ss.length=d5.ss.length)&&(false||d5.ss.all fun r=>r.all C.flat)&&(true&&(false||true)&&(true&&(false||true)&&true)))))&&(true&&(false||true)&&true&&true)&&true) (.ret [C.sl d5.ns,C.sl d5.es,C.sl d5.os,C.sl d5.ss,C.int .i64 d5.r,C.int .i64 d5.x,C.int .i64 (rnC ns es os ss r x n o)])))) (.ask (decide (k=(6:Int))) (.must (aCw ns es os ss) (.must ((true&&d6.ns.all fun row=>decide (row.length=3))&&((true&&d6.es.all fun row=>decide (row.length=2))&&((true&&d6.os.all fun row=>decide (row.length=2))&&((true&&d6.ss.all fun row=>decide (row.length=1))&&(decide (0<1)&&true&&(decide (0<1)&&true&&true)))))&&true&&true) (.must (decide (d6.ns.length=d6.ns.length)&&(false||d6.ns.all fun r=>r.all C.flat)&&(decide (d6.es.length=d6.es.length)&&(false||d6.es.all fun r=>r.all C.flat)&&(decide (d6.os.length=d6.os.length)&&(false||d6.os.all fun r=>r.all C.flat)&&(decide (d6.ss.length=d6.ss.length)&&(false||d6.ss.all fun r=>r.all C.flat)&&(true&&(false||true)&&(true&&(false||true)&&true)))))&&(true&&(false||true)&&true&&true)&&true) (.ret [C.sl d6.ns,C.sl d6.es,C.sl d6.os,C.sl d6.ss,C.int .i64 d6.r,C.int .i64 d6.x,C.int .i64 0])))) (.must (aCw ns es os ss) (.must ((true&&ns.all fun row=>decide (row.length=3))&&((true&&es.all fun row=>decide (row.length=2))&&((true&&os.all fun row=>decide (row.length=2))&&((true&&ss.all fun row=>decide (row.length=1))&&(decide (0<1)&&true&&(decide (0<1)&&true&&true)))))&&true&&true) (.must (decide (ns.length=ns.length)&&(false||ns.all fun r=>r.all C.flat)&&(decide (es.length=es.length)&&(false||es.all fun r=>r.all C.flat)&&(decide (os.length=os.length)&&(false||os.all fun r=>r.all C.flat)&&(decide (ss.length=ss.length)&&(false||ss.all fun r=>r.all C.flat)&&(true&&(false||true)&&(true&&(false||true)&&true)))))&&(true&&(false||true)&&true&&true)&&true) (.ret [C.sl ns,C.sl es,C.sl os,C.sl ss,C.int .i64 r,C.int .i64 x,C.int .i64 1])))))))))):T (List C)).eval:=aAg (by kernel_rfl)
theorem bJj (H:List Pt→Nat→St→T (List C)) (ns:List (List C)) (es:List (List C)) (os:List (List C)) (ss:List (List C)) (r:Int) (x:Int) (k:Int) (n:List UInt8) (o:List UInt8) (t:List UInt8):(aAp bOt aAf (sg [aAs,pOp] [aC4,rI]) Tryz.f17 H [C.sl ns,C.sl es,C.sl os,C.sl ss,C.int .i64 r,C.int .i64 x,C.int .i64 k,C.str n,C.str o,C.str t]).eval=(let d1:Dk:=(rmD {ns:=ns,es:=es,os:=os,ss:=ss,r:=r,x:=x} n);let d2:Dk:=(crD {ns:=ns,es:=es,os:=os,ss:=ss,r:=r,x:=x} n);let d3:Dk:=(apD {ns:=ns,es:=es,os:=os,ss:=ss,r:=r,x:=x} n t);let d4:Dk:=(syD {ns:=ns,es:=es,os:=os,ss:=ss,r:=r,x:=x} n);let d5:Dk:=(rnD {ns:=ns,es:=es,os:=os,ss:=ss,r:=r,x:=x} n o);let d6:Dk:=(snD {ns:=ns,es:=es,os:=os,ss:=ss,r:=r,x:=x});(.ask (decide (k=(1:Int))) (.must (aCw ns es os ss&&aDt os ss n) (.must ((true&&d1.ns.all fun row=>decide (row.length=3))&&((true&&d1.es.all fun row=>decide (row.length=2))&&((true&&d1.os.all fun row=>decide (row.length=2))&&((true&&d1.ss.all fun row=>decide (row.length=1))&&(decide (0<1)&&true&&(decide (0<1)&&true&&true)))))&&(decide (0<1)&&true&&true&&true)&&true) (.must (decide (d1.ns.length=d1.ns.length)&&(false||d1.ns.all fun r=>r.all C.flat)&&(decide (d1.es.length=d1.es.length)&&(false||d1.es.all fun r=>r.all C.flat)&&(decide (d1.os.length=d1.os.length)&&(false||d1.os.all fun r=>r.all C.flat)&&(decide (d1.ss.length=d1.ss.length)&&(false||d1.ss.all fun r=>r.all C.flat)&&(true&&(false||true)&&(true&&(false||true)&&true)))))&&(true&&(false||true)&&true&&true)&&true) (.ret [C.sl d1.ns,C.sl d1.es,C.sl d1.os,C.sl d1.ss,C.int .i64 d1.r,C.int .i64 d1.x,C.int .i64 (rmC ns es os ss r x n)])))) (.ask (decide (k=(2:Int))) (.must (aCw ns es os ss&&aDt os ss n) (.must ((true&&d2.ns.all fun row=>decide (row.length=3))&&((true&&d2.es.all fun row=>decide (row.length=2))&&((true&&d2.os.all fun row=>decide (row.length=2))&&((true&&d2.ss.all fun row=>decide (row.length=1))&&(decide (0<1)&&true&&(decide (0<1)&&true&&true)))))&&(decide (0<1)&&true&&true&&true)&&true) (.must (decide (d2.ns.length=d2.ns.length)&&(false||d2.ns.all fun r=>r.all C.flat)&&(decide (d2.es.length=d2.es.length)&&(false||d2.es.all fun r=>r.all C.flat)&&(decide (d2.os.length=d2.os.length)&&(false||d2.os.all fun r=>r.all C.flat)&&(decide (d2.ss.length=d2.ss.length)&&(false||d2.ss.all fun r=>r.all C.flat)&&(true&&(false||true)&&(true&&(false||true)&&true)))))&&(true&&(false||true)&&true&&true)&&true) (.ret [C.sl d2.ns,C.sl d2.es,C.sl d2.os,C.sl d2.ss,C.int .i64 d2.r,C.int .i64 d2.x,C.int .i64 (crC ns es os ss r x n)])))) (.ask (decide (k=(3:Int))) (.must (aCw ns es os ss&&decide (t.length≤16777216)) (.must ((true&&d3.ns.all fun row=>decide (row.length=3))&&((true&&d3.es.all fun row=>decide (row.length=2))&&((true&&d3.os.all fun row=>decide (row.length=2))&&((true&&d3.ss.all fun row=>decide (row.length=1))&&(decide (0<1)&&true&&(decide (0<1)&&true&&true)))))&&(decide (0<1)&&true&&true&&true)&&true) (.must (decide (d3.ns.length=d3.ns.length)&&(false||d3.ns.all fun r=>r.all C.flat)&&(decide (d3.es.length=d3.es.length)&&(false||d3.es.all fun r=>r.all C.flat)&&(decide (d3.os.length=d3.os.length)&&(false||d3.os.all fun r=>r.all C.flat)&&(decide (d3.ss.length=d3.ss.length)&&(false||d3.ss.all fun r=>r.all C.flat)&&(true&&(false||true)&&(true&&(false||true)&&true)))))&&(true&&(false||true)&&true&&true)&&true) (.ret [C.sl d3.ns,C.sl d3.es,C.sl d3.os,C.sl d3.ss,C.int .i64 d3.r,C.int .i64 d3.x,C.int .i64 (apC ns es os ss r x n t)])))) (.ask (decide (k=(4:Int))) (.must (aCw ns es os ss) (.must ((true&&d4.ns.all fun row=>decide (row.length=3))&&((true&&d4.es.all fun row=>decide (row.length=2))&&((true&&d4.os.all fun row=>decide (row.length=2))&&((true&&d4.ss.all fun row=>decide (row.length=1))&&(decide (0<1)&&true&&(decide (0<1)&&true&&true)))))&&(decide (0<1)&&true&&true&&true)&&true) (.must (decide (d4.ns.length=d4.ns.length)&&(false||d4.ns.all fun r=>r.all C.flat)&&(decide (d4.es.length=d4.es.length)&&(false||d4.es.all fun r=>r.all C.flat)&&(decide (d4.os.length=d4.os.length)&&(false||d4.os.all fun r=>r.all C.flat)&&(decide (d4.ss.length=d4.ss.length)&&(false||d4.ss.all fun r=>r.all C.flat)&&(true&&(false||true)&&(true&&(false||true)&&true)))))&&(true&&(false||true)&&true&&true)&&true) (.ret [C.sl d4.ns,C.sl d4.es,C.sl d4.os,C.sl d4.ss,C.int .i64 d4.r,C.int .i64 d4.x,C.int .i64 (rmC ns es os ss r x n)])))) (.ask (decide (k=(5:Int))) (.must (aCw ns es os ss&&(aDt os ss n&&aDt os ss o)) (.must ((true&&d5.ns.all fun row=>decide (row.length=3))&&((true&&d5.es.all fun row=>decide (row.length=2))&&((true&&d5.os.all fun row=>decide (row.length=2))&&((true&&d5.ss.all fun row=>decide (row.length=1))&&(decide (0<1)&&true&&(decide (0<1)&&true&&true)))))&&(decide (0<1)&&true&&true&&true)&&true) (.must (decide (d5.ns.length=d5.ns.length)&&(false||d5.ns.all fun r=>r.all C.flat)&&(decide (d5.es.length=d5.es.length)&&(false||d5.es.all fun r=>r.all C.flat)&&(decide (d5.os.length=d5.os.length)&&(false||d5.os.all fun r=>r.all C.flat)&&(decide (d5.ss.length=d5.ss.length)&&(false||d5.ss.all fun r=>r.all C.flat)&&(true&&(false||true)&&(true&&(false||true)&&true)))))&&(true&&(false||true)&&true&&true)&&true) (.ret [C.sl d5.ns,C.sl d5.es,C.sl d5.os,C.sl d5.ss,C.int .i64 d5.r,C.int .i64 d5.x,C.int .i64 (rnC ns es os ss r x n o)])))) (.ask (decide (k=(6:Int))) (.must (aCw ns es os ss) (.must ((true&&d6.ns.all fun row=>decide (row.length=3))&&((true&&d6.es.all fun row=>decide (row.length=2))&&((true&&d6.os.all fun row=>decide (row.length=2))&&((true&&d6.ss.all fun row=>decide (row.length=1))&&(decide (0<1)&&true&&(decide (0<1)&&true&&true)))))&&true&&true) (.must (decide (d6.ns.length=d6.ns.length)&&(false||d6.ns.all fun r=>r.all C.flat)&&(decide (d6.es.length=d6.es.length)&&(false||d6.es.all fun r=>r.all C.flat)&&(decide (d6.os.length=d6.os.length)&&(false||d6.os.all fun r=>r.all C.flat)&&(decide (d6.ss.length=d6.ss.length)&&(false||d6.ss.all fun r=>r.all C.flat)&&(true&&(false||true)&&(true&&(false||true)&&true)))))&&(true&&(false||true)&&true&&true)&&true) (.ret [C.sl d6.ns,C.sl d6.es,C.sl d6.os,C.sl d6.ss,C.int .i64 d6.r,C.int .i64 d6.x,C.int .i64 0])))) (.must (aCw ns es os ss) (.must ((true&&ns.all fun row=>decide (row.length=3))&&((true&&es.all fun row=>decide (row.length=2))&&((true&&os.all fun row=>decide (row.length=2))&&((true&&ss.all fun row=>decide (row.length=1))&&(decide (0<1)&&true&&(decide (0<1)&&true&&true)))))&&true&&true) (.must (decide (ns.length=ns.length)&&(false||ns.all fun r=>r.all C.flat)&&(decide (es.length=es.length)&&(false||es.all fun r=>r.all C.flat)&&(decide (os.length=os.length)&&(false||os.all fun r=>r.all C.flat)&&(decide (ss.length=ss.length)&&(false||ss.all fun r=>r.all C.flat)&&(true&&(false||true)&&(true&&(false||true)&&true)))))&&(true&&(false||true)&&true&&true)&&true) (.ret [C.sl ns,C.sl es,C.sl os,C.sl ss,C.int .i64 r,C.int .i64 x,C.int .i64 1])))))))))):T (List C)).eval:=aAg (by kernel_rfl)
def NB (a b:Nat) (ns:List (List C)):Prop:=∃ l:List Nd,ns=l.map eNd∧l.length≤a∧∀ x∈l,x.text.length≤b
def EB (a b:Nat) (es:List (List C)):Prop:=∃ l:List En,es=l.map eEn∧l.length≤a∧∀ x∈l,x.name.length≤b
def SB (a b:Nat) (ss:List (List C)):Prop:=∃ l:List (List UInt8),ss=l.map aH7∧l.length≤a∧∀ x∈l,x.length≤b
structure DkB (a b:Nat) (d:Dk):Prop where
 n:NB a b d.ns
 e:EB a b d.es
 o:EB a b d.os
 s:SB a b d.ss
theorem NB.mono {a b a' b':Nat} {ns:List (List C)} (h:NB a b ns) (ha:a≤a') (hb:b≤b'):NB a' b' ns:=by obtain⟨l,e,h1,h2⟩:=h;exact⟨l,e,by omega,fun x hx=>Nat.le_trans (h2 x hx) hb⟩
theorem EB.mono {a b a' b':Nat} {es:List (List C)} (h:EB a b es) (ha:a≤a') (hb:b≤b'):EB a' b' es:=by obtain⟨l,e,h1,h2⟩:=h;exact⟨l,e,by omega,fun x hx=>Nat.le_trans (h2 x hx) hb⟩
theorem SB.mono {a b a' b':Nat} {ss:List (List C)} (h:SB a b ss) (ha:a≤a') (hb:b≤b'):SB a' b' ss:=by obtain⟨l,e,h1,h2⟩:=h;exact⟨l,e,by omega,fun x hx=>Nat.le_trans (h2 x hx) hb⟩
theorem DkB.mono {a b a' b':Nat} {d:Dk} (h:DkB a b d) (ha:a≤a') (hb:b≤b'):DkB a' b' d:=⟨h.n.mono ha hb,h.e.mono ha hb,h.o.mono ha hb,h.s.mono ha hb⟩
theorem NB.clean {a b:Nat} {ns:List (List C)} (h:NB a b ns) (os ss:List (List C)):NB a b (aC2 ns os ss):=by
 obtain⟨l,rfl,h1,h2⟩:=h
 unfold aC2
 rw[aEm]
 exact⟨_,rfl,Nat.le_trans (List.length_filter_le _ _) h1,fun x hx=>h2 x (List.mem_filter.1 hx).1⟩
theorem NB.snoc {a b:Nat} {ns:List (List C)} (h:NB a b ns) (x:Int):NB (a+1) b (ns++[eNd ⟨x,[],0⟩]):=by
 obtain⟨l,rfl,h1,h2⟩:=h
 refine⟨l++[⟨x,[],0⟩],by simp,by simp;omega,fun y hy=>?_⟩
 rcases List.mem_append.1 hy with hy | hy
 ·exact h2 y hy
 ·have:y=⟨x,[],0⟩:=by simpa using hy
  rw[this];simp
theorem NB.set {a b:Nat} {ns:List (List C)} (h:NB a b ns) (k:Nat) {y:Nd} (hy:y.text.length≤b):NB a b (ns.set k (eNd y)):=by
 obtain⟨l,rfl,h1,h2⟩:=h
 refine⟨l.set k y,(List.map_set).symm,by rw[List.length_set];exact h1,fun z hz=>?_⟩
 rcases List.mem_or_eq_of_mem_set hz with hz | rfl
 ·exact h2 z hz
 ·exact hy
theorem NB.at {a b:Nat} {ns:List (List C)} (h:NB a b ns) (k:Nat):((nds ns).getD k ⟨0,[],0⟩).text.length≤b:=by
 obtain⟨l,rfl,h1,h2⟩:=h
 rw[aEm]
 by_cases hk:k<l.length
 ·exact h2 _ (aGf hk)
 ·rw[List.getD_eq_getElem?_getD,List.getElem?_eq_none_iff.2 (by omega)];exact Nat.zero_le _
theorem EB.drop {a b:Nat} {es:List (List C)} (h:EB a b es) (nm:List UInt8):EB a b (aAz es nm):=by
 obtain⟨l,rfl,h1,h2⟩:=h
 rw[aQy]
 exact⟨_,rfl,Nat.le_trans (aGn _ _) h1,fun x hx=>h2 x (aI0 hx)⟩
theorem EB.put {a b:Nat} {es:List (List C)} (h:EB a b es) {nm:List UInt8} (id:Int) (hn:nm.length≤b):EB (a+1) b (aEc es nm id):=by
 obtain⟨l,rfl,h1,h2⟩:=h
 rw[aLz]
 refine⟨_,rfl,Nat.le_trans (aM1 _ _) (by omega),fun x hx=>?_⟩
 rcases aM0 hx with rfl | hx
 ·exact hn
 ·exact h2 x hx
theorem SB.one {a b:Nat} {ss:List (List C)} (h:SB a b ss) {s:List UInt8} (hs:s.length≤b):SB (a+1) b (ss1 ss s):=by
 obtain⟨l,rfl,h1,h2⟩:=h
 refine⟨l++[s],by simp[ss1],by simp;omega,fun x hx=>?_⟩
 rcases List.mem_append.1 hx with hx | hx
 ·exact h2 x hx
 ·have:x=s:=by simpa using hx
  rw[this];exact hs
theorem SB.nil {a b:Nat}:SB a b []:=⟨[],rfl,Nat.zero_le _,fun x hx=>by cases hx⟩
theorem DkB.of {ns es os ss:List (List C)} {r x:Int} (h:aCw ns es os ss=true):DkB 16777216 16777216 ⟨ns,es,os,ss,r,x⟩:=by
 obtain⟨d1,d2,d3⟩:=aB1.1 h
 obtain⟨s1,s2,s3⟩:=aDs.1 d3
 obtain⟨l,e1,_,h1,h2⟩:=aE4 d1
 obtain⟨l2,e2,_,h3,h4⟩:=aDb d2
 obtain⟨l3,e3,_,h5,h6⟩:=aDb s1
 obtain⟨l4,e4,_,h7,h8⟩:=aJg s2
 exact⟨⟨l,e1,h1,h2⟩,⟨l2,e2,h3,h4⟩,⟨l3,e3,h5,h6⟩,⟨l4,e4,h7,h8⟩⟩
theorem DkB.all {a b:Nat} {d:Dk} (h:DkB a b d):(d.ns.all fun row=>decide (row.length=3))=true∧(d.es.all fun row=>decide (row.length=2))=true∧(d.os.all fun row=>decide (row.length=2))=true∧(d.ss.all fun row=>decide (row.length=1))=true ∧
  (d.ns.all fun r=>r.all C.flat)=true∧(d.es.all fun r=>r.all C.flat)=true∧(d.os.all fun r=>r.all C.flat)=true∧(d.ss.all fun r=>r.all C.flat)=true:=by
 obtain⟨⟨l1,e1,_,_⟩,⟨l2,e2,_,_⟩,⟨l3,e3,_,_⟩,⟨l4,e4,_,_⟩⟩:=h
 rw[e1,e2,e3,e4]
 exact⟨by simp,by simp,by simp,by simp,aEh _,aEi _,aEi _,aMc _⟩
theorem DkB.lens {a b:Nat} {d:Dk} (h:DkB a b d):d.ns.length≤a∧d.es.length≤a∧d.os.length≤a∧d.ss.length≤a:=by
 obtain⟨⟨l1,e1,h1,_⟩,⟨l2,e2,h2,_⟩,⟨l3,e3,h3,_⟩,⟨l4,e4,h4,_⟩⟩:=h
 rw[e1,e2,e3,e4]
 simp only[List.length_map]
 exact⟨h1,h2,h3,h4⟩
theorem DkB.rows {a b:Nat} {d:Dk} (h:DkB a b d):aBo d.ns d.es d.os d.ss=true:=by
 obtain⟨⟨l1,e1,_,_⟩,⟨l2,e2,_,_⟩,⟨l3,e3,_,_⟩,⟨l4,e4,_,_⟩⟩:=h
 rw[e1,e2,e3,e4]
 exact aDh.2 ⟨aT4 _,aGj _,aGj _,aQ1 _⟩
theorem bPj {a b:Nat} {d:Dk} (h:DkB a b d) (k:Int) {n o t:List UInt8} (hn:n.length+o.length+40≤b):DkB (a+1) (b+t.length) (aAr d k n o t):=by
 have h':DkB (a+1) (b+t.length) d:=h.mono (by omega) (by omega)
 have hb:∀ {q:List UInt8},q.length≤n.length+o.length+40→q.length≤b+t.length:=fun h=>by omega
 unfold aAr
 split
 ·unfold rmD rmN rmE rmS
  split
  ·exact⟨h'.n.clean _ _,h'.e.drop _,h'.o,(h.s.mono (Nat.le_refl _) (by omega)).one (hb (by simp;omega))⟩
  ·exact h'
 ·split
  ·have dl:=aR4 d.x
   unfold crD crN crE crS
   split
   ·exact⟨((h.n.mono (Nat.le_refl _) (by omega)).snoc _).clean _ _,(h.e.mono (Nat.le_refl _) (by omega)).put _ (hb (by omega)),h'.o,(h.s.mono (Nat.le_refl _) (by omega)).one (hb (by unfold aFi;simp;omega))⟩
   ·exact⟨h'.n,h'.e,h'.o,h'.s⟩
  ·split
   ·unfold apD apN
    split
    ·refine⟨h'.n.set _ ?_,h'.e,h'.o,h'.s⟩
     have:=h.n.at (ndK d.ns d.es n).toNat
     unfold bKw
     rw[List.length_append]
     split
     ·rw[List.length_take];omega
     ·omega
    ·exact h'
   ·split
    ·unfold syD syN
     split
     ·exact⟨h'.n.set _ (Nat.le_trans (h.n.at (ndK d.ns d.es n).toNat) (Nat.le_add_right _ _)),h'.e,h'.o,h'.s⟩
     ·exact h'
    ·split
     ·unfold rnD rnN rnE rnS
      split
      ·exact⟨h'.n.clean _ _,((h.e.drop _).mono (Nat.le_refl _) (by omega)).put _ (hb (by omega)),h'.o,(h.s.mono (Nat.le_refl _) (by omega)).one (hb (by unfold aEr;simp;omega))⟩
      ·exact h'
     ·split
      ·unfold snD snN snO snS
       split
       ·exact⟨h'.n.clean _ _,h'.e,h'.e,SB.nil⟩
       ·exact h'
      ·exact h'
theorem aLv {a b:Nat} {d:Dk} (h:DkB a b d) {z:Bool} (hz:z=true):(((true&&d.ns.all fun row=>decide (row.length=(3:Nat)))&&((true&&d.es.all fun row=>decide (row.length=(2:Nat)))&&((true&&d.os.all fun row=>decide (row.length=(2:Nat)))&&((true&&d.ss.all fun row=>decide (row.length=(1:Nat)))&&(decide ((0:Nat)<(1:Nat))&&true&&(decide ((0:Nat)<(1:Nat))&&true&&true))))))&&z&&true)=true:=by
 obtain⟨h1,h2,h3,h4,_⟩:=h.all
 rw[h1,h2,h3,h4,hz];rfl
theorem aLw {a b:Nat} {d:Dk} (h:DkB a b d) {z:Bool} (hz:z=true):((decide (d.ns.length=d.ns.length)&&(false||d.ns.all fun r=>r.all C.flat)&&(decide (d.es.length=d.es.length)&&(false||d.es.all fun r=>r.all C.flat)&&(decide (d.os.length=d.os.length)&&(false||d.os.all fun r=>r.all C.flat)&&(decide (d.ss.length=d.ss.length)&&(false||d.ss.all fun r=>r.all C.flat)&&(true&&(false||true)&&(true&&(false||true)&&true))))))&&z&&true)=true:=by
 obtain⟨_,_,_,_,h1,h2,h3,h4⟩:=h.all
 rw[h1,h2,h3,h4,hz];simp
theorem aUz {ns es os ss:List (List C)} {n o t:List UInt8}:bPk ns es os ss n o t=true↔aCw ns es os ss=true∧aDt os ss n=true∧aDt os ss o=true∧t.length≤16777216:=by simp only[bPk,dN,Bool.and_eq_true,decide_eq_true_eq]
theorem bRk:aA8 Tryz.prog bOq:=aA9 (by simp[aEx,aUr,aOg,aUv,aUy,bAp,aUq])
theorem bF9:aB0 Tryz.prog 15 (sg [aAs,pOp] [aC4,rI]) aNd:=aA5 bRk aAe Tryz.func15 (by kernel_rfl) fun cs outs hk h=>by
 unfold aNd at h
 split at h
 ·simp only[Option.some.injEq,Prod.mk.injEq]at h
  obtain⟨hr,rfl⟩:=h
  rename_i ns es os ss r x k n o t
  obtain⟨hd,hm,hm2,ht⟩:=aUz.1 hr
  have q0:=(DkB.of (r:=r) (x:=x) hd).mono (Nat.le_refl _) (show 16777216≤20000000 by omega)
  have m1:=(aCa.1 hm).2
  have m2:=(aCa.1 hm2).2
  have q:=bPj q0 k (n:=n) (o:=o) (t:=t) (by omega)
  rw[aAi,bHu]
  unfold bLh
  unfold aAr at q ⊢
  by_cases c1:k=1
  ·rw[if_pos c1]at q ⊢;rw[if_pos c1]
   exact aA7 (decide_eq_true c1) (aA2 (by rw[hd,hm];rfl) (aA2 (aLv q rfl) (aA2 (aLw q rfl) rfl)))
  rw[if_neg c1]at q ⊢;rw[if_neg c1]
  refine aAb (decide_eq_false c1) ?_
  by_cases c2:k=2
  ·rw[if_pos c2]at q ⊢;rw[if_pos c2]
   exact aA7 (decide_eq_true c2) (aA2 (by rw[hd,hm];rfl) (aA2 (aLv q rfl) (aA2 (aLw q rfl) rfl)))
  rw[if_neg c2]at q ⊢;rw[if_neg c2]
  refine aAb (decide_eq_false c2) ?_
  by_cases c3:k=3
  ·rw[if_pos c3]at q ⊢;rw[if_pos c3]
   exact aA7 (decide_eq_true c3) (aA2 (by rw[hd,decide_eq_true ht];rfl) (aA2 (aLv q rfl) (aA2 (aLw q rfl) rfl)))
  rw[if_neg c3]at q ⊢;rw[if_neg c3]
  refine aAb (decide_eq_false c3) ?_
  by_cases c4:k=4
  ·rw[if_pos c4]at q ⊢;rw[if_pos c4]
   exact aA7 (decide_eq_true c4) (aA2 hd (aA2 (aLv q rfl) (aA2 (aLw q rfl) rfl)))
  rw[if_neg c4]at q ⊢;rw[if_neg c4]
  refine aAb (decide_eq_false c4) ?_
  by_cases c5:k=5
  ·rw[if_pos c5]at q ⊢;rw[if_pos c5]
   exact aA7 (decide_eq_true c5) (aA2 (by rw[hd,hm,hm2];rfl) (aA2 (aLv q rfl) (aA2 (aLw q rfl) rfl)))
  rw[if_neg c5]at q ⊢;rw[if_neg c5]
  refine aAb (decide_eq_false c5) ?_
  by_cases c6:k=6
  ·rw[if_pos c6]at q ⊢;rw[if_pos c6]
   exact aA7 (decide_eq_true c6) (aA2 hd (aA2 (aLv q rfl) (aA2 (aLw q rfl) rfl)))
  rw[if_neg c6]at q ⊢;rw[if_neg c6]
  exact aAb (decide_eq_false c6) (aA2 hd (aA2 (aLv q rfl) (aA2 (aLw q rfl) rfl)))
 ·cases h
theorem bS9:aA8 Tryz.prog bOt:=aA9 (by simp[aF0,aVs,bBw,aVp,aVo,aVr,aOj])
theorem bG5:aB0 Tryz.prog 17 (sg [aAs,pOp] [aC4,rI]) aNd:=aA5 bS9 aAe Tryz.func17 (by kernel_rfl) fun cs outs hk h=>by
 unfold aNd at h
 split at h
 ·simp only[Option.some.injEq,Prod.mk.injEq]at h
  obtain⟨hr,rfl⟩:=h
  rename_i ns es os ss r x k n o t
  obtain⟨hd,hm,hm2,ht⟩:=aUz.1 hr
  have q0:=(DkB.of (r:=r) (x:=x) hd).mono (Nat.le_refl _) (show 16777216≤20000000 by omega)
  have m1:=(aCa.1 hm).2
  have m2:=(aCa.1 hm2).2
  have q:=bPj q0 k (n:=n) (o:=o) (t:=t) (by omega)
  rw[aAi,bJj]
  unfold bLh
  unfold aAr at q ⊢
  by_cases c1:k=1
  ·rw[if_pos c1]at q ⊢;rw[if_pos c1]
   exact aA7 (decide_eq_true c1) (aA2 (by rw[hd,hm];rfl) (aA2 (aLv q rfl) (aA2 (aLw q rfl) rfl)))
  rw[if_neg c1]at q ⊢;rw[if_neg c1]
  refine aAb (decide_eq_false c1) ?_
  by_cases c2:k=2
  ·rw[if_pos c2]at q ⊢;rw[if_pos c2]
   exact aA7 (decide_eq_true c2) (aA2 (by rw[hd,hm];rfl) (aA2 (aLv q rfl) (aA2 (aLw q rfl) rfl)))
  rw[if_neg c2]at q ⊢;rw[if_neg c2]
  refine aAb (decide_eq_false c2) ?_
  by_cases c3:k=3
  ·rw[if_pos c3]at q ⊢;rw[if_pos c3]
   exact aA7 (decide_eq_true c3) (aA2 (by rw[hd,decide_eq_true ht];rfl) (aA2 (aLv q rfl) (aA2 (aLw q rfl) rfl)))
  rw[if_neg c3]at q ⊢;rw[if_neg c3]
  refine aAb (decide_eq_false c3) ?_
  by_cases c4:k=4
  ·rw[if_pos c4]at q ⊢;rw[if_pos c4]
   exact aA7 (decide_eq_true c4) (aA2 hd (aA2 (aLv q rfl) (aA2 (aLw q rfl) rfl)))
  rw[if_neg c4]at q ⊢;rw[if_neg c4]
  refine aAb (decide_eq_false c4) ?_
  by_cases c5:k=5
  ·rw[if_pos c5]at q ⊢;rw[if_pos c5]
   exact aA7 (decide_eq_true c5) (aA2 (by rw[hd,hm,hm2];rfl) (aA2 (aLv q rfl) (aA2 (aLw q rfl) rfl)))
  rw[if_neg c5]at q ⊢;rw[if_neg c5]
  refine aAb (decide_eq_false c5) ?_
  by_cases c6:k=6
  ·rw[if_pos c6]at q ⊢;rw[if_pos c6]
   exact aA7 (decide_eq_true c6) (aA2 hd (aA2 (aLv q rfl) (aA2 (aLw q rfl) rfl)))
  rw[if_neg c6]at q ⊢;rw[if_neg c6]
  exact aAb (decide_eq_false c6) (aA2 hd (aA2 (aLv q rfl) (aA2 (aLw q rfl) rfl)))
 ·cases h
noncomputable section
def bEy (n o t:Nat) (left:Int):Int:=aF2 [n,o,t] left
def aUi:Spec:=fun cs=>match cs with
 |[.int .i64 _,.str n,.str o,.str t,.int .i64 left]=>some (decide (0≤left)&&decide (left≤1048576)&&(decide (n.length≤281474976710656)&&(decide (o.length≤281474976710656)&&decide (t.length≤281474976710656))),[.int .i64 (bEy n.length o.length t.length left)])
 |_=>none
def aUc:Spec:=fun cs=>match cs with
 |[.int .i64 k,.str n,.str o,.str t]=>some (true,[.int .i64 k,.str n,.str o,.str t])
 |_=>none
def bL4:Env:=mkE [] []
def bL3:Env:=mkE [] []
def bI3:Spec:=fun cs=>match cs with
 |[.sl ns,.sl es,.sl os,.sl ss,.int .i64 _,.int .i64 _,.int .i64 _,.str n,.str o,.str t]=>some (aLb ns es os ss&&(decide (n.length≤281474976710656)&&(decide (o.length≤281474976710656)&&decide (t.length≤281474976710656))),[.bool true])
 |_=>none
def bOs:Env:=mkE [] [(7,(sg [aO5,pI] [rI]),aN8),(9,(sg [aO5] [aC4]),aN6),(11,(sg [aAs,aAs] [rB]),aNo),(12,(sg [bId,pI] [rI]),aQg),(13,(sg [aAs,pI] [rI]),aQq),(15,(sg [aAs,pOp] [aC4,rI]),aNd),(17,(sg [aAs,pOp] [aC4,rI]),aNd),(14,(sg [pOp,pI] [rI]),aUi),(16,(sg [pOp] [rOp]),aUc)]
end
theorem bEz (H:List Pt→Nat→St→T (List C)) (k:Int) (n:List UInt8) (o:List UInt8) (t:List UInt8) (left:Int):(aAp bL4 aAf (sg [pOp,pI] [rI]) Tryz.f14 H [C.int .i64 k,C.str n,C.str o,C.str t,C.int .i64 left]).eval=((.ask (decide (IntKind.i64.wrap (left-(↑n.length:Int))<(0:Int))) (.ret [C.int .i64 (-1)]) (.ask (decide (IntKind.i64.wrap (IntKind.i64.wrap (left-(↑n.length:Int))-(↑o.length:Int))<(0:Int))) (.ret [C.int .i64 (-1)]) (.ask (decide (IntKind.i64.wrap (IntKind.i64.wrap (IntKind.i64.wrap (left-(↑n.length:Int))-(↑o.length:Int))-(↑t.length:Int))<(0:Int))) (.ret [C.int .i64 (-1)]) (.ret [C.int .i64 (IntKind.i64.wrap (IntKind.i64.wrap (IntKind.i64.wrap (left-(↑n.length:Int))-(↑o.length:Int))-(↑t.length:Int)))])))):T (List C)).eval:=aAg (by kernel_rfl)
theorem bEu (H:List Pt→Nat→St→T (List C)) (k:Int) (n:List UInt8) (o:List UInt8) (t:List UInt8):(aAp bL3 aAf (sg [pOp] [rOp]) Tryz.f16 H [C.int .i64 k,C.str n,C.str o,C.str t]).eval=((.ret [C.int .i64 k,C.str n,C.str o,C.str t]):T (List C)).eval:=aAg (by kernel_rfl)
theorem bJ1 (H:List Pt→Nat→St→T (List C)) (ns:List (List C)) (es:List (List C)) (os:List (List C)) (ss:List (List C)) (r:Int) (x:Int) (k:Int) (n:List UInt8) (o:List UInt8) (t:List UInt8):(aAp bOs aAf (sg [aO5,pOp] [rB]) Tryz.f4 H [C.sl ns,C.sl es,C.sl os,C.sl ss,C.int .i64 r,C.int .i64 x,C.int .i64 k,C.str n,C.str o,C.str t]).eval=((.must (decide ((0:Int)≤(1048576:Int))&&decide ((1048576:Int)≤(1048576:Int))&&(aBp 281474976710656 ns es os ss&&aBo ns es os ss&&aH0 ns es os ss)) (.ask (decide (aHb (nds ns) (ens es) (ens os) (aCp ss) 1048576<(0:Int))) (.ret [C.bool true]) (.must (decide ((0:Int)≤aHb (nds ns) (ens es) (ens os) (aCp ss) 1048576)&&decide (aHb (nds ns) (ens es) (ens os) (aCp ss) 1048576≤(1048576:Int))&&(decide (n.length≤281474976710656)&&(decide (o.length≤281474976710656)&&decide (t.length≤281474976710656)))) (.ask (decide (bEy n.length o.length t.length (aHb (nds ns) (ens es) (ens os) (aCp ss) 1048576)<(0:Int))) (.ret [C.bool true]) (.must (aBp 16777216 ns es os ss&&aBo ns es os ss) (.must ((true&&ns.all fun row=>decide (row.length=3))&&((true&&es.all fun row=>decide (row.length=2))&&((true&&os.all fun row=>decide (row.length=2))&&((true&&ss.all fun row=>decide (row.length=1))&&(decide (0<1)&&true&&(decide (0<1)&&true&&true)))))&&true&&true) (.must (bPk (List.take ns.length ns) (List.take es.length es) (List.take os.length os) (List.take ss.length ss) n o t) (.must ((true&&(aAr {ns:=List.take ns.length ns,es:=List.take es.length es,os:=List.take os.length os,ss:=List.take ss.length ss,r:=r,x:=x} k n o t).ns.all fun row=>decide (row.length=3))&&((true&&(aAr {ns:=List.take ns.length ns,es:=List.take es.length es,os:=List.take os.length os,ss:=List.take ss.length ss,r:=r,x:=x} k n o t).es.all fun row=>decide (row.length=2))&&((true&&(aAr {ns:=List.take ns.length ns,es:=List.take es.length es,os:=List.take os.length os,ss:=List.take ss.length ss,r:=r,x:=x} k n o t).os.all fun row=>decide (row.length=2))&&((true&&(aAr {ns:=List.take ns.length ns,es:=List.take es.length es,os:=List.take os.length os,ss:=List.take ss.length ss,r:=r,x:=x} k n o t).ss.all fun row=>decide (row.length=1))&&(decide (0<1)&&true&&(decide (0<1)&&true&&true)))))&&(decide (0<1)&&true&&true&&true)&&true) (.must (aBp 16777216 ns es os ss&&aBo ns es os ss) (.must ((true&&ns.all fun row=>decide (row.length=3))&&((true&&es.all fun row=>decide (row.length=2))&&((true&&os.all fun row=>decide (row.length=2))&&((true&&ss.all fun row=>decide (row.length=1))&&(decide (0<1)&&true&&(decide (0<1)&&true&&true)))))&&true&&true) (.must (bPk (List.take ns.length ns) (List.take es.length es) (List.take os.length os) (List.take ss.length ss) n o t) (.must ((true&&(aAr {ns:=List.take ns.length ns,es:=List.take es.length es,os:=List.take os.length os,ss:=List.take ss.length ss,r:=r,x:=x} k n o t).ns.all fun row=>decide (row.length=3))&&((true&&(aAr {ns:=List.take ns.length ns,es:=List.take es.length es,os:=List.take os.length os,ss:=List.take ss.length ss,r:=r,x:=x} k n o t).es.all fun row=>decide (row.length=2))&&((true&&(aAr {ns:=List.take ns.length ns,es:=List.take es.length es,os:=List.take os.length os,ss:=List.take ss.length ss,r:=r,x:=x} k n o t).os.all fun row=>decide (row.length=2))&&((true&&(aAr {ns:=List.take ns.length ns,es:=List.take es.length es,os:=List.take os.length os,ss:=List.take ss.length ss,r:=r,x:=x} k n o t).ss.all fun row=>decide (row.length=1))&&(decide (0<1)&&true&&(decide (0<1)&&true&&true)))))&&(decide (0<1)&&true&&true&&true)&&true) (.must (aBp 16777216 (List.take (aAr {ns:=List.take ns.length ns,es:=List.take es.length es,os:=List.take os.length os,ss:=List.take ss.length ss,r:=r,x:=x} k n o t).ns.length (aAr {ns:=List.take ns.length ns,es:=List.take es.length es,os:=List.take os.length os,ss:=List.take ss.length ss,r:=r,x:=x} k n o t).ns) (List.take (aAr {ns:=List.take ns.length ns,es:=List.take es.length es,os:=List.take os.length os,ss:=List.take ss.length ss,r:=r,x:=x} k n o t).es.length (aAr {ns:=List.take ns.length ns,es:=List.take es.length es,os:=List.take os.length os,ss:=List.take ss.length ss,r:=r,x:=x} k n o t).es) (List.take (aAr {ns:=List.take ns.length ns,es:=List.take es.length es,os:=List.take os.length os,ss:=List.take ss.length ss,r:=r,x:=x} k n o t).os.length (aAr {ns:=List.take ns.length ns,es:=List.take es.length es,os:=List.take os.length os,ss:=List.take ss.length ss,r:=r,x:=x} k n o t).os) (List.take (aAr {ns:=List.take ns.length ns,es:=List.take es.length es,os:=List.take os.length os,ss:=List.take ss.length ss,r:=r,x:=x} k n o t).ss.length (aAr {ns:=List.take ns.length ns,es:=List.take es.length es,os:=List.take os.length os,ss:=List.take ss.length ss,r:=r,x:=x} k n o t).ss)&&aBo (List.take (aAr {ns:=List.take ns.length ns,es:=List.take es.length es,os:=List.take os.length os,ss:=List.take ss.length ss,r:=r,x:=x} k n o t).ns.length (aAr {ns:=List.take ns.length ns,es:=List.take es.length es,os:=List.take os.length os,ss:=List.take ss.length ss,r:=r,x:=x} k n o t).ns) (List.take (aAr {ns:=List.take ns.length ns,es:=List.take es.length es,os:=List.take os.length os,ss:=List.take ss.length ss,r:=r,x:=x} k n o t).es.length (aAr {ns:=List.take ns.length ns,es:=List.take es.length es,os:=List.take os.length os,ss:=List.take ss.length ss,r:=r,x:=x} k n o t).es) (List.take (aAr {ns:=List.take ns.length ns,es:=List.take es.length es,os:=List.take os.length os,ss:=List.take ss.length ss,r:=r,x:=x} k n o t).os.length (aAr {ns:=List.take ns.length ns,es:=List.take es.length es,os:=List.take os.length os,ss:=List.take ss.length ss,r:=r,x:=x} k n o t).os) (List.take (aAr {ns:=List.take ns.length ns,es:=List.take es.length es,os:=List.take os.length os,ss:=List.take ss.length ss,r:=r,x:=x} k n o t).ss.length (aAr {ns:=List.take ns.length ns,es:=List.take es.length es,os:=List.take os.length os,ss:=List.take ss.length ss,r:=r,x:=x} k n o t).ss)&&aBo (List.take (aAr {ns:=List.take ns.length ns,es:=List.take es.length es,os:=List.take os.length os,ss:=List.take ss.length ss,r:=r,x:=x} k n o t).ns.length (aAr {ns:=List.take ns.length ns,es:=List.take es.length es,os:=List.take os.length os,ss:=List.take ss.length ss,r:=r,x:=x} k n o t).ns) (List.take (aAr {ns:=List.take ns.length ns,es:=List.take es.length es,os:=List.take os.length os,ss:=List.take ss.length ss,r:=r,x:=x} k n o t).es.length (aAr {ns:=List.take ns.length ns,es:=List.take es.length es,os:=List.take os.length os,ss:=List.take ss.length ss,r:=r,x:=x} k n o t).es) (List.take (aAr {ns:=List.take ns.length ns,es:=List.take es.length es,os:=List.take os.length os,ss:=List.take ss.length ss,r:=r,x:=x} k n o t).os.length (aAr {ns:=List.take ns.length ns,es:=List.take es.length es,os:=List.take os.length os,ss:=List.take ss.length ss,r:=r,x:=x} k n o t).os) (List.take (aAr {ns:=List.take ns.length ns,es:=List.take es.length es,os:=List.take os.length os,ss:=List.take ss.length ss,r:=r,x:=x} k n o t).ss.length (aAr {ns:=List.take ns.length ns,es:=List.take es.length es,os:=List.take os.length os,ss:=List.take ss.length ss,r:=r,x:=x} k n o t).ss)) (.ask (bOn (List.take (aAr {ns:=List.take ns.length ns,es:=List.take es.length es,os:=List.take os.length os,ss:=List.take ss.length ss,r:=r,x:=x} k n o t).ns.length (aAr {ns:=List.take ns.length ns,es:=List.take es.length es,os:=List.take os.length os,ss:=List.take ss.length ss,r:=r,x:=x} k n o t).ns) (List.take (aAr {ns:=List.take ns.length ns,es:=List.take es.length es,os:=List.take os.length os,ss:=List.take ss.length ss,r:=r,x:=x} k n o t).es.length (aAr {ns:=List.take ns.length ns,es:=List.take es.length es,os:=List.take os.length os,ss:=List.take ss.length ss,r:=r,x:=x} k n o t).es) (List.take (aAr {ns:=List.take ns.length ns,es:=List.take es.length es,os:=List.take os.length os,ss:=List.take ss.length ss,r:=r,x:=x} k n o t).os.length (aAr {ns:=List.take ns.length ns,es:=List.take es.length es,os:=List.take os.length os,ss:=List.take ss.length ss,r:=r,x:=x} k n o t).os) (List.take (aAr {ns:=List.take ns.length ns,es:=List.take es.length es,os:=List.take os.length os,ss:=List.take ss.length ss,r:=r,x:=x} k n o t).ss.length (aAr {ns:=List.take ns.length ns,es:=List.take es.length es,os:=List.take os.length os,ss:=List.take ss.length ss,r:=r,x:=x} k n o t).ss) (aAr {ns:=List.take ns.length ns,es:=List.take es.length es,os:=List.take os.length os,ss:=List.take ss.length ss,r:=r,x:=x} k n o t).r (aAr {ns:=List.take ns.length ns,es:=List.take es.length es,os:=List.take os.length os,ss:=List.take ss.length ss,r:=r,x:=x} k n o t).x (List.take (aAr {ns:=List.take ns.length ns,es:=List.take es.length es,os:=List.take os.length os,ss:=List.take ss.length ss,r:=r,x:=x} k n o t).ns.length (aAr {ns:=List.take ns.length ns,es:=List.take es.length es,os:=List.take os.length os,ss:=List.take ss.length ss,r:=r,x:=x} k n o t).ns) (List.take (aAr {ns:=List.take ns.length ns,es:=List.take es.length es,os:=List.take os.length os,ss:=List.take ss.length ss,r:=r,x:=x} k n o t).es.length (aAr {ns:=List.take ns.length ns,es:=List.take es.length es,os:=List.take os.length os,ss:=List.take ss.length ss,r:=r,x:=x} k n o t).es) (List.take (aAr {ns:=List.take ns.length ns,es:=List.take es.length es,os:=List.take os.length os,ss:=List.take ss.length ss,r:=r,x:=x} k n o t).os.length (aAr {ns:=List.take ns.length ns,es:=List.take es.length es,os:=List.take os.length os,ss:=List.take ss.length ss,r:=r,x:=x} k n o t).os) (List.take (aAr {ns:=List.take ns.length ns,es:=List.take es.length es,os:=List.take os.length os,ss:=List.take ss.length ss,r:=r,x:=x} k n o t).ss.length (aAr {ns:=List.take ns.length ns,es:=List.take es.length es,os:=List.take os.length os,ss:=List.take ss.length ss,r:=r,x:=x} k n o t).ss) (aAr {ns:=List.take ns.length ns,es:=List.take es.length es,os:=List.take os.length os,ss:=List.take ss.length ss,r:=r,x:=x} k n o t).r (aAr {ns:=List.take ns.length ns,es:=List.take es.length es,os:=List.take os.length os,ss:=List.take ss.length ss,r:=r,x:=x} k n o t).x) (.ask (bLh {ns:=List.take ns.length ns,es:=List.take es.length es,os:=List.take os.length os,ss:=List.take ss.length ss,r:=r,x:=x} k n o t != bLh {ns:=List.take ns.length ns,es:=List.take es.length es,os:=List.take os.length os,ss:=List.take ss.length ss,r:=r,x:=x} k n o t) (.ret [C.bool false]) (.must (aBp 16777216 ns es os ss&&aBo ns es os ss) (.must ((true&&ns.all fun row=>decide (row.length=3))&&((true&&es.all fun row=>decide (row.length=2))&&((true&&os.all fun row=>decide (row.length=2))&&((true&&ss.all fun row=>decide (row.length=1))&&(decide (0<1)&&true&&(decide (0<1)&&true&&true)))))&&true&&true) (.must (aBp 16777216 (List.take ns.length ns) (List.take es.length es) (List.take os.length os) (List.take ss.length ss)&&aBo (List.take ns.length ns) (List.take es.length es) (List.take os.length os) (List.take ss.length ss)&&aBo (List.take ns.length ns) (List.take es.length es) (List.take os.length os) (List.take ss.length ss)) (.ask (bOn (List.take ns.length ns) (List.take es.length es) (List.take os.length os) (List.take ss.length ss) r x (List.take ns.length ns) (List.take es.length es) (List.take os.length os) (List.take ss.length ss) r x) (.must (true&&(true&&(true&&(true&&(true&&(true&&(true&&true))))))&&(decide (ns.length=ns.length)&&(decide (es.length=es.length)&&(decide (os.length=os.length)&&(decide (ss.length=ss.length)&&true)))&&true)) (.must (aBo ns es os ss&&(aBp 16777216 ns es os ss&&(decide ((0:Int)≤(1:Int))&&decide ((1:Int)≤(1073741824:Int))))) (.must (decide (0<1)&&true&&true&&true&&((decide ((mk mkN 3 1 ns.length).length=ns.length)&&(mk mkN 3 1 ns.length).all fun row=>decide (row.length=3))&&((decide ((mk aG3 2 ((1:Int)+(3:Int)*(↑ns.length:Int)) es.length).length=es.length)&&(mk aG3 2 ((1:Int)+(3:Int)*(↑ns.length:Int)) es.length).all fun row=>decide (row.length=2))&&((decide ((mk aG3 2 ((1:Int)+(3:Int)*(↑ns.length:Int)+(2:Int)*(↑es.length:Int)) os.length).length=os.length)&&(mk aG3 2 ((1:Int)+(3:Int)*(↑ns.length:Int)+(2:Int)*(↑es.length:Int)) os.length).all fun row=>decide (row.length=2))&&((decide ((mk mkS 1 ((1:Int)+(3:Int)*(↑ns.length:Int)+(2:Int)*(↑es.length:Int)+(2:Int)*(↑os.length:Int)) ss.length).length=ss.length)&&(mk mkS 1 ((1:Int)+(3:Int)*(↑ns.length:Int)+(2:Int)*(↑es.length:Int)+(2:Int)*(↑os.length:Int)) ss.length).all fun row=>decide (row.length=1))&&true)))&&true)) (.must (aBp 16777216 (List.take (aAr {ns:=List.take ns.length ns,es:=List.take es.length es,os:=List.take os.length os,ss:=List.take ss.length ss,r:=r,x:=x} k n o t).ns.length (aAr {ns:=List.take ns.length ns,es:=List.take es.length es,os:=List.take os.length os,ss:=List.take ss.length ss,r:=r,x:=x} k n o t).ns) (List.take (aAr {ns:=List.take ns.length ns,es:=List.take es.length es,os:=List.take os.length os,ss:=List.take ss.length ss,r:=r,x:=x} k n o t).es.length (aAr {ns:=List.take ns.length ns,es:=List.take es.length es,os:=List.take os.length os,ss:=List.take ss.length ss,r:=r,x:=x} k n o t).es) (List.take (aAr {ns:=List.take ns.length ns,es:=List.take es.length es,os:=List.take os.length os,ss:=List.take ss.length ss,r:=r,x:=x} k n o t).os.length (aAr {ns:=List.take ns.length ns,es:=List.take es.length es,os:=List.take os.length os,ss:=List.take ss.length ss,r:=r,x:=x} k n o t).os) (List.take (aAr {ns:=List.take ns.length ns,es:=List.take es.length es,os:=List.take os.length os,ss:=List.take ss.length ss,r:=r,x:=x} k n o t).ss.length (aAr {ns:=List.take ns.length ns,es:=List.take es.length es,os:=List.take os.length os,ss:=List.take ss.length ss,r:=r,x:=x} k n o t).ss)&&aBo (List.take (aAr {ns:=List.take ns.length ns,es:=List.take es.length es,os:=List.take os.length os,ss:=List.take ss.length ss,r:=r,x:=x} k n o t).ns.length (aAr {ns:=List.take ns.length ns,es:=List.take es.length es,os:=List.take os.length os,ss:=List.take ss.length ss,r:=r,x:=x} k n o t).ns) (List.take (aAr {ns:=List.take ns.length ns,es:=List.take es.length es,os:=List.take os.length os,ss:=List.take ss.length ss,r:=r,x:=x} k n o t).es.length (aAr {ns:=List.take ns.length ns,es:=List.take es.length es,os:=List.take os.length os,ss:=List.take ss.length ss,r:=r,x:=x} k n o t).es) (List.take (aAr {ns:=List.take ns.length ns,es:=List.take es.length es,os:=List.take os.length os,ss:=List.take ss.length ss,r:=r,x:=x} k n o t).os.length (aAr {ns:=List.take ns.length ns,es:=List.take es.length es,os:=List.take os.length os,ss:=List.take ss.length ss,r:=r,x:=x} k n o t).os) (List.take (aAr {ns:=List.take ns.length ns,es:=List.take es.length es,os:=List.take os.length os,ss:=List.take ss.length ss,r:=r,x:=x} k n o t).ss.length (aAr {ns:=List.take ns.length ns,es:=List.take es.length es,os:=List.take os.length os,ss:=List.take ss.length ss,r:=r,x:=x} k n o t).ss)&&aBo (List.take (aAr {ns:=List.take ns.length ns,es:=List.take es.length es,os:=List.take os.length os,ss:=List.take ss.length ss,r:=r,x:=x} k n o t).ns.length (aAr {ns:=List.take ns.length ns,es:=List.take es.length es,os:=List.take os.length os,ss:=List.take ss.length ss,r:=r,x:=x} k n o t).ns) (List.take (aAr {ns:=List.take ns.length ns,es:=List.take es.length es,os:=List.take os.length os,ss:=List.take ss.length ss,r:=r,x:=x} k n o t).es.length (aAr {ns:=List.take ns.length ns,es:=List.take es.length es,os:=List.take os.length os,ss:=List.take ss.length ss,r:=r,x:=x} k n o t).es) (List.take (aAr {ns:=List.take ns.length ns,es:=List.take es.length es,os:=List.take os.length os,ss:=List.take ss.length ss,r:=r,x:=x} k n o t).os.length (aAr {ns:=List.take ns.length ns,es:=List.take es.length es,os:=List.take os.length os,ss:=List.take ss.length ss,r:=r,x:=x} k n o t).os) (List.take (aAr {ns:=List.take ns.length ns,es:=List.take es.length es,os:=List.take os.length os,ss:=List.take ss.length ss,r:=r,x:=x} k n o t).ss.length (aAr {ns:=List.take ns.length ns,es:=List.take es.length es,os:=List.take os.length os,ss:=List.take ss.length ss,r:=r,x:=x} k n o t).ss)) (.ask (bOn (List.take (aAr {ns:=List.take ns.length ns,es:=List.take es.length es,os:=List.take os.length os,ss:=List.take ss.length ss,r:=r,x:=x} k n o t).ns.length (aAr {ns:=List.take ns.length ns,es:=List.take es.length es,os:=List.take os.length os,ss:=List.take ss.length ss,r:=r,x:=x} k n o t).ns) (List.take (aAr {ns:=List.take ns.length ns,es:=List.take es.length es,os:=List.take os.length os,ss:=List.take ss.length ss,r:=r,x:=x} k n o t).es.length (aAr {ns:=List.take ns.length ns,es:=List.take es.length es,os:=List.take os.length os,ss:=List.take ss.length ss,r:=r,x:=x} k n o t).es) (List.take (aAr {ns:=List.take ns.length ns,es:=List.take es.length es,os:=List.take os.length os,ss:=List.take ss.length ss,r:=r,x:=x} k n o t).os.length (aAr {ns:=List.take ns.length ns,es:=List.take es.length es,os:=List.take os.length os,ss:=List.take ss.length ss,r:=r,x:=x} k n o t).os) (List.take (aAr {ns:=List.take ns.length ns,es:=List.take es.length es,os:=List.take os.length os,ss:=List.take ss.length ss,r:=r,x:=x} k n o t).ss.length (aAr {ns:=List.take ns.length ns,es:=List.take es.length es,os:=List.take os.length os,ss:=List.take ss.length ss,r:=r,x:=x} k n o t).ss) (aAr {ns:=List.take ns.length ns,es:=List.take es.length es,os:=List.take os.length os,ss:=List.take ss.length ss,r:=r,x:=x} k n o t).r (aAr {ns:=List.take ns.length ns,es:=List.take es.length es,os:=List.take os.length os,ss:=List.take ss.length ss,r:=r,x:=x} k n o t).x (List.take (aAr {ns:=List.take ns.length ns,es:=List.take es.length es,os:=List.take os.length os,ss:=List.take ss.length ss,r:=r,x:=x} k n o t).ns.length (aAr {ns:=List.take ns.length ns,es:=List.take es.length es,os:=List.take os.length os,ss:=List.take ss.length ss,r:=r,x:=x} k n o t).ns) (List.take (aAr {ns:=List.take ns.length ns,es:=List.take es.length es,os:=List.take os.length os,ss:=List.take ss.length ss,r:=r,x:=x} k n o t).es.length (aAr {ns:=List.take ns.length ns,es:=List.take es.length es,os:=List.take os.length os,ss:=List.take ss.length ss,r:=r,x:=x} k n o t).es) (List.take (aAr {ns:=List.take ns.length ns,es:=List.take es.length es,os:=List.take os.length os,ss:=List.take ss.length ss,r:=r,x:=x} k n o t).os.length (aAr {ns:=List.take ns.length ns,es:=List.take es.length es,os:=List.take os.length os,ss:=List.take ss.length ss,r:=r,x:=x} k n o t).os) (List.take (aAr {ns:=List.take ns.length ns,es:=List.take es.length es,os:=List.take os.length os,ss:=List.take ss.length ss,r:=r,x:=x} k n o t).ss.length (aAr {ns:=List.take ns.length ns,es:=List.take es.length es,os:=List.take os.length os,ss:=List.take ss.length ss,r:=r,x:=x} k n o t).ss) (aAr {ns:=List.take ns.length ns,es:=List.take es.length es,os:=List.take os.length os,ss:=List.take ss.length ss,r:=r,x:=x} k n o t).r (aAr {ns:=List.take ns.length ns,es:=List.take es.length es,os:=List.take os.length os,ss:=List.take ss.length ss,r:=r,x:=x} k n o t).x) (.ask (bLh {ns:=List.take ns.length ns,es:=List.take es.length es,os:=List.take os.length os,ss:=List.take ss.length ss,r:=r,x:=x} k n o t != bLh {ns:=List.take ns.length ns,es:=List.take es.length es,os:=List.take os.length os,ss:=List.take ss.length ss,r:=r,x:=x} k n o t) (.ret [C.bool false]) (.must (true&&(true&&(true&&(true&&(true&&(true&&(true&&true))))))&&(decide ((aAr {ns:=List.take ns.length ns,es:=List.take es.length es,os:=List.take os.length os,ss:=List.take ss.length ss,r:=r,x:=x} k n o t).ns.length=(aAr {ns:=List.take ns.length ns,es:=List.take es.length es,os:=List.take os.length os,ss:=List.take ss.length ss,r:=r,x:=x} k n o t).ns.length)&&(decide ((aAr {ns:=List.take ns.length ns,es:=List.take es.length es,os:=List.take os.length os,ss:=List.take ss.length ss,r:=r,x:=x} k n o t).es.length=(aAr {ns:=List.take ns.length ns,es:=List.take es.length es,os:=List.take os.length os,ss:=List.take ss.length ss,r:=r,x:=x} k n o t).es.length)&&(decide ((aAr {ns:=List.take ns.length ns,es:=List.take es.length es,os:=List.take os.length os,ss:=List.take ss.length ss,r:=r,x:=x} k n o t).os.length=(aAr {ns:=List.take ns.length ns,es:=List.take es.length es,os:=List.take os.length os,ss:=List.take ss.length ss,r:=r,x:=x} k n o t).os.length)&&(decide ((aAr {ns:=List.take ns.length ns,es:=List.take es.length es,os:=List.take os.length os,ss:=List.take ss.length ss,r:=r,x:=x} k n o t).ss.length=(aAr {ns:=List.take ns.length ns,es:=List.take es.length es,os:=List.take os.length os,ss:=List.take ss.length ss,r:=r,x:=x} k n o t).ss.length)&&true)))&&true)) (.must (aBo (aAr {ns:=List.take ns.length ns,es:=List.take es.length es,os:=List.take os.length os,ss:=List.take ss.length ss,r:=r,x:=x} k n o t).ns (aAr {ns:=List.take ns.length ns,es:=List.take es.length es,os:=List.take os.length os,ss:=List.take ss.length ss,r:=r,x:=x} k n o t).es (aAr {ns:=List.take ns.length ns,es:=List.take es.length es,os:=List.take os.length os,ss:=List.take ss.length ss,r:=r,x:=x} k n o t).os (aAr {ns:=List.take ns.length ns,es:=List.take es.length es,os:=List.take os.length os,ss:=List.take ss.length ss,r:=r,x:=x} k n o t).ss&&(aBp 16777216 (aAr {ns:=List.take ns.length ns,es:=List.take es.length es,os:=List.take os.length os,ss:=List.take ss.length ss,r:=r,x:=x} k n o t).ns (aAr {ns:=List.take ns.length ns,es:=List.take es.length es,os:=List.take os.length os,ss:=List.take ss.length ss,r:=r,x:=x} k n o t).es (aAr {ns:=List.take ns.length ns,es:=List.take es.length es,os:=List.take os.length os,ss:=List.take ss.length ss,r:=r,x:=x} k n o t).os (aAr {ns:=List.take ns.length ns,es:=List.take es.length es,os:=List.take os.length os,ss:=List.take ss.length ss,r:=r,x:=x} k n o t).ss&&(decide ((0:Int)≤(1:Int))&&decide ((1:Int)≤(1073741824:Int))))) (.must (decide (0<1)&&true&&true&&true&&((decide ((mk mkN 3 1 (aAr {ns:=List.take ns.length ns,es:=List.take es.length es,os:=List.take os.length os,ss:=List.take ss.length ss,r:=r,x:=x} k n o t).ns.length).length=(aAr {ns:=List.take ns.length ns,es:=List.take es.length es,os:=List.take os.length os,ss:=List.take ss.length ss,r:=r,x:=x} k n o t).ns.length)&&(mk mkN 3 1 (aAr {ns:=List.take ns.length ns,es:=List.take es.length es,os:=List.take os.length os,ss:=List.take ss.length ss,r:=r,x:=x} k n o t).ns.length).all fun row=>decide (row.length=3))&&((decide ((mk aG3 2 ((1:Int)+(3:Int)*(↑(aAr {ns:=List.take ns.length ns,es:=List.take es.length es,os:=List.take os.length os,ss:=List.take ss.length ss,r:=r,x:=x} k n o t).ns.length:Int)) (aAr {ns:=List.take ns.length ns,es:=List.take es.length es,os:=List.take os.length os,ss:=List.take ss.length ss,r:=r,x:=x} k n o t).es.length).length=(aAr {ns:=List.take ns.length ns,es:=List.take es.length es,os:=List.take os.length os,ss:=List.take ss.length ss,r:=r,x:=x} k n o t).es.length)&&(mk aG3 2 ((1:Int)+(3:Int)*(↑(aAr {ns:=List.take ns.length ns,es:=List.take es.length es,os:=List.take os.length os,ss:=List.take ss.length ss,r:=r,x:=x} k n o t).ns.length:Int)) (aAr {ns:=List.take ns.length ns,es:=List.take es.length es,os:=List.take os.length os,ss:=List.take ss.length ss,r:=r,x:=x} k n o t).es.length).all fun row=>decide (row.length=2))&&((decide ((mk aG3 2 ((1:Int)+(3:Int)*(↑(aAr {ns:=List.take ns.length ns,es:=List.take es.length es,os:=List.take os.length os,ss:=List.take ss.length ss,r:=r,x:=x} k n o t).ns.length:Int)+(2:Int)*(↑(aAr {ns:=List.take ns.length ns,es:=List.take es.length es,os:=List.take os.length os,ss:=List.take ss.length ss,r:=r,x:=x} k n o t).es.length:Int)) (aAr {ns:=List.take ns.length ns,es:=List.take es.length es,os:=List.take os.length os,ss:=List.take ss.length ss,r:=r,x:=x} k n o t).os.length).length=(aAr {ns:=List.take ns.length ns,es:=List.take es.length es,os:=List.take os.length os,ss:=List.take ss.length ss,r:=r,x:=x} k n o t).os.length)&&(mk aG3 2 ((1:Int)+(3:Int)*(↑(aAr {ns:=List.take ns.length ns,es:=List.take es.length es,os:=List.take os.length os,ss:=List.take ss.length ss,r:=r,x:=x} k n o t).ns.length:Int)+(2:Int)*(↑(aAr {ns:=List.take ns.length ns,es:=List.take es.length es,os:=List.take os.length os,ss:=List.take ss.length ss,r:=r,x:=x} k n o t).es.length:Int)) (aAr {ns:=List.take ns.length ns,es:=List.take es.length es,os:=List.take os.length os,ss:=List.take ss.length ss,r:=r,x:=x} k n o t).os.length).all fun row=>decide (row.length=2))&&((decide ((mk mkS 1 ((1:Int)+(3:Int)*(↑(aAr {ns:=List.take ns.length ns,es:=List.take es.length es,os:=List.take os.length os,ss:=List.take ss.length ss,r:=r,x:=x} k n o t).ns.length:Int)+(2:Int)*(↑(aAr {ns:=List.take ns.length ns,es:=List.take es.length es,os:=List.take os.length os,ss:=List.take ss.length ss,r:=r,x:=x} k n o t).es.length:Int)+(2:Int)*(↑(aAr {ns:=List.take ns.length ns,es:=List.take es.length es,os:=List.take os.length os,ss:=List.take ss.length ss,r:=r,x:=x} k n o t).os.length:Int)) (aAr {ns:=List.take ns.length ns,es:=List.take es.length es,os:=List.take os.length os,ss:=List.take ss.length ss,r:=r,x:=x} k n o t).ss.length).length=(aAr {ns:=List.take ns.length ns,es:=List.take es.length es,os:=List.take os.length os,ss:=List.take ss.length ss,r:=r,x:=x} k n o t).ss.length)&&(mk mkS 1 ((1:Int)+(3:Int)*(↑(aAr {ns:=List.take ns.length ns,es:=List.take es.length es,os:=List.take os.length os,ss:=List.take ss.length ss,r:=r,x:=x} k n o t).ns.length:Int)+(2:Int)*(↑(aAr {ns:=List.take ns.length ns,es:=List.take es.length es,os:=List.take os.length os,ss:=List.take ss.length ss,r:=r,x:=x} k n o t).es.length:Int)+(2:Int)*(↑(aAr {ns:=List.take ns.length ns,es:=List.take es.length es,os:=List.take os.length os,ss:=List.take ss.length ss,r:=r,x:=x} k n o t).os.length:Int)) (aAr {ns:=List.take ns.length ns,es:=List.take es.length es,os:=List.take os.length os,ss:=List.take ss.length ss,r:=r,x:=x} k n o t).ss.length).all fun row=>decide (row.length=1))&&true)))&&true)) (.must (bGa (List.take (aAr {ns:=List.take ns.length ns,es:=List.take es.length es,os:=List.take os.length os,ss:=List.take ss.length ss,r:=r,x:=x} k n o t).ns.length (mk mkN 3 1 (aAr {ns:=List.take ns.length ns,es:=List.take es.length es,os:=List.take os.length os,ss:=List.take ss.length ss,r:=r,x:=x} k n o t).ns.length)) (List.take (aAr {ns:=List.take ns.length ns,es:=List.take es.length es,os:=List.take os.length os,ss:=List.take ss.length ss,r:=r,x:=x} k n o t).es.length (mk aG3 2 ((1:Int)+(3:Int)*(↑(aAr {ns:=List.take ns.length ns,es:=List.take es.length es,os:=List.take os.length os,ss:=List.take ss.length ss,r:=r,x:=x} k n o t).ns.length:Int)) (aAr {ns:=List.take ns.length ns,es:=List.take es.length es,os:=List.take os.length os,ss:=List.take ss.length ss,r:=r,x:=x} k n o t).es.length)) (List.take (aAr {ns:=List.take ns.length ns,es:=List.take es.length es,os:=List.take os.length os,ss:=List.take ss.length ss,r:=r,x:=x} k n o t).os.length (mk aG3 2 ((1:Int)+(3:Int)*(↑(aAr {ns:=List.take ns.length ns,es:=List.take es.length es,os:=List.take os.length os,ss:=List.take ss.length ss,r:=r,x:=x} k n o t).ns.length:Int)+(2:Int)*(↑(aAr {ns:=List.take ns.length ns,es:=List.take es.length es,os:=List.take os.length os,ss:=List.take ss.length ss,r:=r,x:=x} k n o t).es.length:Int)) (aAr {ns:=List.take ns.length ns,es:=List.take es.length es,os:=List.take os.length os,ss:=List.take ss.length ss,r:=r,x:=x} k n o t).os.length)) (List.take (aAr {ns:=List.take ns.length ns,es:=List.take es.length es,os:=List.take os.length os,ss:=List.take ss.length ss,r:=r,x:=x} k n o t).ss.length (mk mkS 1 ((1:Int)+(3:Int)*(↑(aAr {ns:=List.take ns.length ns,es:=List.take es.length es,os:=List.take os.length os,ss:=List.take ss.length ss,r:=r,x:=x} k n o t).ns.length:Int)+(2:Int)*(↑(aAr {ns:=List.take ns.length ns,es:=List.take es.length es,os:=List.take os.length os,ss:=List.take ss.length ss,r:=r,x:=x} k n o t).es.length:Int)+(2:Int)*(↑(aAr {ns:=List.take ns.length ns,es:=List.take es.length es,os:=List.take os.length os,ss:=List.take ss.length ss,r:=r,x:=x} k n o t).os.length:Int)) (aAr {ns:=List.take ns.length ns,es:=List.take es.length es,os:=List.take os.length os,ss:=List.take ss.length ss,r:=r,x:=x} k n o t).ss.length)) (1:Int)&&(aBp 16777216 (List.take (aAr {ns:=List.take ns.length ns,es:=List.take es.length es,os:=List.take os.length os,ss:=List.take ss.length ss,r:=r,x:=x} k n o t).ns.length (mk mkN 3 1 (aAr {ns:=List.take ns.length ns,es:=List.take es.length es,os:=List.take os.length os,ss:=List.take ss.length ss,r:=r,x:=x} k n o t).ns.length)) (List.take (aAr {ns:=List.take ns.length ns,es:=List.take es.length es,os:=List.take os.length os,ss:=List.take ss.length ss,r:=r,x:=x} k n o t).es.length (mk aG3 2 ((1:Int)+(3:Int)*(↑(aAr {ns:=List.take ns.length ns,es:=List.take es.length es,os:=List.take os.length os,ss:=List.take ss.length ss,r:=r,x:=x} k n o t).ns.length:Int)) (aAr {ns:=List.take ns.length ns,es:=List.take es.length es,os:=List.take os.length os,ss:=List.take ss.length ss,r:=r,x:=x} k n o t).es.length)) (List.take (aAr {ns:=List.take ns.length ns,es:=List.take es.length es,os:=List.take os.length os,ss:=List.take ss.length ss,r:=r,x:=x} k n o t).os.length (mk aG3 2 ((1:Int)+(3:Int)*(↑(aAr {ns:=List.take ns.length ns,es:=List.take es.length es,os:=List.take os.length os,ss:=List.take ss.length ss,r:=r,x:=x} k n o t).ns.length:Int)+(2:Int)*(↑(aAr {ns:=List.take ns.length ns,es:=List.take es.length es,os:=List.take os.length os,ss:=List.take ss.length ss,r:=r,x:=x} k n o t).es.length:Int)) (aAr {ns:=List.take ns.length ns,es:=List.take es.length es,os:=List.take os.length os,ss:=List.take ss.length ss,r:=r,x:=x} k n o t).os.length)) (List.take (aAr {ns:=List.take ns.length ns,es:=List.take es.length es,os:=List.take os.length os,ss:=List.take ss.length ss,r:=r,x:=x} k n o t).ss.length (mk mkS 1 ((1:Int)+(3:Int)*(↑(aAr {ns:=List.take ns.length ns,es:=List.take es.length es,os:=List.take os.length os,ss:=List.take ss.length ss,r:=r,x:=x} k n o t).ns.length:Int)+(2:Int)*(↑(aAr {ns:=List.take ns.length ns,es:=List.take es.length es,os:=List.take os.length os,ss:=List.take ss.length ss,r:=r,x:=x} k n o t).es.length:Int)+(2:Int)*(↑(aAr {ns:=List.take ns.length ns,es:=List.take es.length es,os:=List.take os.length os,ss:=List.take ss.length ss,r:=r,x:=x} k n o t).os.length:Int)) (aAr {ns:=List.take ns.length ns,es:=List.take es.length es,os:=List.take os.length os,ss:=List.take ss.length ss,r:=r,x:=x} k n o t).ss.length))&&(decide ((0:Int)≤(1:Int))&&decide ((1:Int)≤(1073741824:Int))))) (.ask (aZl 1 (List.take (aAr {ns:=List.take ns.length ns,es:=List.take es.length es,os:=List.take os.length os,ss:=List.take ss.length ss,r:=r,x:=x} k n o t).ns.length (mk mkN 3 1 (aAr {ns:=List.take ns.length ns,es:=List.take es.length es,os:=List.take os.length os,ss:=List.take ss.length ss,r:=r,x:=x} k n o t).ns.length)).length (List.take (aAr {ns:=List.take ns.length ns,es:=List.take es.length es,os:=List.take os.length os,ss:=List.take ss.length ss,r:=r,x:=x} k n o t).es.length (mk aG3 2 ((1:Int)+(3:Int)*(↑(aAr {ns:=List.take ns.length ns,es:=List.take es.length es,os:=List.take os.length os,ss:=List.take ss.length ss,r:=r,x:=x} k n o t).ns.length:Int)) (aAr {ns:=List.take ns.length ns,es:=List.take es.length es,os:=List.take os.length os,ss:=List.take ss.length ss,r:=r,x:=x} k n o t).es.length)).length (List.take (aAr {ns:=List.take ns.length ns,es:=List.take es.length es,os:=List.take os.length os,ss:=List.take ss.length ss,r:=r,x:=x} k n o t).os.length (mk aG3 2 ((1:Int)+(3:Int)*(↑(aAr {ns:=List.take ns.length ns,es:=List.take es.length es,os:=List.take os.length os,ss:=List.take ss.length ss,r:=r,x:=x} k n o t).ns.length:Int)+(2:Int)*(↑(aAr {ns:=List.take ns.length ns,es:=List.take es.length es,os:=List.take os.length os,ss:=List.take ss.length ss,r:=r,x:=x} k n o t).es.length:Int)) (aAr {ns:=List.take ns.length ns,es:=List.take es.length es,os:=List.take os.length os,ss:=List.take ss.length ss,r:=r,x:=x} k n o t).os.length)).length (List.take (aAr {ns:=List.take ns.length ns,es:=List.take es.length es,os:=List.take os.length os,ss:=List.take ss.length ss,r:=r,x:=x} k n o t).ss.length (mk mkS 1 ((1:Int)+(3:Int)*(↑(aAr {ns:=List.take ns.length ns,es:=List.take es.length es,os:=List.take os.length os,ss:=List.take ss.length ss,r:=r,x:=x} k n o t).ns.length:Int)+(2:Int)*(↑(aAr {ns:=List.take ns.length ns,es:=List.take es.length es,os:=List.take os.length os,ss:=List.take ss.length ss,r:=r,x:=x} k n o t).es.length:Int)+(2:Int)*(↑(aAr {ns:=List.take ns.length ns,es:=List.take es.length es,os:=List.take os.length os,ss:=List.take ss.length ss,r:=r,x:=x} k n o t).os.length:Int)) (aAr {ns:=List.take ns.length ns,es:=List.take es.length es,os:=List.take os.length os,ss:=List.take ss.length ss,r:=r,x:=x} k n o t).ss.length)).length != aZl 1 (aAr {ns:=List.take ns.length ns,es:=List.take es.length es,os:=List.take os.length os,ss:=List.take ss.length ss,r:=r,x:=x} k n o t).ns.length (aAr {ns:=List.take ns.length ns,es:=List.take es.length es,os:=List.take os.length os,ss:=List.take ss.length ss,r:=r,x:=x} k n o t).es.length (aAr {ns:=List.take ns.length ns,es:=List.take es.length es,os:=List.take os.length os,ss:=List.take ss.length ss,r:=r,x:=x} k n o t).os.length (aAr {ns:=List.take ns.length ns,es:=List.take es.length es,os:=List.take os.length os,ss:=List.take ss.length ss,r:=r,x:=x} k n o t).ss.length) (.ret [C.bool false]) (.must (aBp 16777216 ns es os ss&&aBo ns es os ss) (.must ((true&&ns.all fun row=>decide (row.length=3))&&((true&&es.all fun row=>decide (row.length=2))&&((true&&os.all fun row=>decide (row.length=2))&&((true&&ss.all fun row=>decide (row.length=1))&&(decide (0<1)&&true&&(decide (0<1)&&true&&true)))))&&true&&true) (.must (bPk (List.take ns.length ns) (List.take es.length es) (List.take os.length os) (List.take ss.length ss) n o t) (.must ((true&&(aAr {ns:=List.take ns.length ns,es:=List.take es.length es,os:=List.take os.length os,ss:=List.take ss.length ss,r:=r,x:=x} k n o t).ns.all fun row=>decide (row.length=3))&&((true&&(aAr {ns:=List.take ns.length ns,es:=List.take es.length es,os:=List.take os.length os,ss:=List.take ss.length ss,r:=r,x:=x} k n o t).es.all fun row=>decide (row.length=2))&&((true&&(aAr {ns:=List.take ns.length ns,es:=List.take es.length es,os:=List.take os.length os,ss:=List.take ss.length ss,r:=r,x:=x} k n o t).os.all fun row=>decide (row.length=2))&&((true&&(aAr {ns:=List.take ns.length ns,es:=List.take es.length es,os:=List.take os.length os,ss:=List.take ss.length ss,r:=r,x:=x} k n o t).ss.all fun row=>decide (row.length=1))&&(decide (0<1)&&true&&(decide (0<1)&&true&&true)))))&&(decide (0<1)&&true&&true&&true)&&true) (.must (aBp 16777216 (List.take (aAr {ns:=List.take ns.length ns,es:=List.take es.length es,os:=List.take os.length os,ss:=List.take ss.length ss,r:=r,x:=x} k n o t).ns.length (aAr {ns:=List.take ns.length ns,es:=List.take es.length es,os:=List.take os.length os,ss:=List.take ss.length ss,r:=r,x:=x} k n o t).ns) (List.take (aAr {ns:=List.take ns.length ns,es:=List.take es.length es,os:=List.take os.length os,ss:=List.take ss.length ss,r:=r,x:=x} k n o t).es.length (aAr {ns:=List.take ns.length ns,es:=List.take es.length es,os:=List.take os.length os,ss:=List.take ss.length ss,r:=r,x:=x} k n o t).es) (List.take (aAr {ns:=List.take ns.length ns,es:=List.take es.length es,os:=List.take os.length os,ss:=List.take ss.length ss,r:=r,x:=x} k n o t).os.length (aAr {ns:=List.take ns.length ns,es:=List.take es.length es,os:=List.take os.length os,ss:=List.take ss.length ss,r:=r,x:=x} k n o t).os) (List.take (aAr {ns:=List.take ns.length ns,es:=List.take es.length es,os:=List.take os.length os,ss:=List.take ss.length ss,r:=r,x:=x} k n o t).ss.length (aAr {ns:=List.take ns.length ns,es:=List.take es.length es,os:=List.take os.length os,ss:=List.take ss.length ss,r:=r,x:=x} k n o t).ss)&&aBo (List.take (aAr {ns:=List.take ns.length ns,es:=List.take es.length es,os:=List.take os.length os,ss:=List.take ss.length ss,r:=r,x:=x} k n o t).ns.length (aAr {ns:=List.take ns.length ns,es:=List.take es.length es,os:=List.take os.length os,ss:=List.take ss.length ss,r:=r,x:=x} k n o t).ns) (List.take (aAr {ns:=List.take ns.length ns,es:=List.take es.length es,os:=List.take os.length os,ss:=List.take ss.length ss,r:=r,x:=x} k n o t).es.length (aAr {ns:=List.take ns.length ns,es:=List.take es.length es,os:=List.take os.length os,ss:=List.take ss.length ss,r:=r,x:=x} k n o t).es) (List.take (aAr {ns:=List.take ns.length ns,es:=List.take es.length es,os:=List.take os.length os,ss:=List.take ss.length ss,r:=r,x:=x} k n o t).os.length (aAr {ns:=List.take ns.length ns,es:=List.take es.length es,os:=List.take os.length os,ss:=List.take ss.length ss,r:=r,x:=x} k n o t).os) (List.take (aAr {ns:=List.take ns.length ns,es:=List.take es.length es,os:=List.take os.length os,ss:=List.take ss.length ss,r:=r,x:=x} k n o t).ss.length (aAr {ns:=List.take ns.length ns,es:=List.take es.length es,os:=List.take os.length os,ss:=List.take ss.length ss,r:=r,x:=x} k n o t).ss)&&aBo (List.take (aAr {ns:=List.take ns.length ns,es:=List.take es.length es,os:=List.take os.length os,ss:=List.take ss.length ss,r:=r,x:=x} k n o t).ns.length (aAr {ns:=List.take ns.length ns,es:=List.take es.length es,os:=List.take os.length os,ss:=List.take ss.length ss,r:=r,x:=x} k n o t).ns) (List.take (aAr {ns:=List.take ns.length ns,es:=List.take es.length es,os:=List.take os.length os,ss:=List.take ss.length ss,r:=r,x:=x} k n o t).es.length (aAr {ns:=List.take ns.length ns,es:=List.take es.length es,os:=List.take os.length os,ss:=List.take ss.length ss,r:=r,x:=x} k n o t).es) (List.take (aAr {ns:=List.take ns.length ns,es:=List.take es.length es,os:=List.take os.length os,ss:=List.take ss.length ss,r:=r,x:=x} k n o t).os.length (aAr {ns:=List.take ns.length ns,es:=List.take es.length es,os:=List.take os.length os,ss:=List.take ss.length ss,r:=r,x:=x} k n o t).os) (List.take (aAr {ns:=List.take ns.length ns,es:=List.take es.length es,os:=List.take os.length os,ss:=List.take ss.length ss,r:=r,x:=x} k n o t).ss.length (aAr {ns:=List.take ns.length ns,es:=List.take es.length es,os:=List.take os.length os,ss:=List.take ss.length ss,r:=r,x:=x} k n o t).ss)) (.ask (bOn (List.take (aAr {ns:=List.take ns.length ns,es:=List.take es.length es,os:=List.take os.length os,ss:=List.take ss.length ss,r:=r,x:=x} k n o t).ns.length (aAr {ns:=List.take ns.length ns,es:=List.take es.length es,os:=List.take os.length os,ss:=List.take ss.length ss,r:=r,x:=x} k n o t).ns) (List.take (aAr {ns:=List.take ns.length ns,es:=List.take es.length es,os:=List.take os.length os,ss:=List.take ss.length ss,r:=r,x:=x} k n o t).es.length (aAr {ns:=List.take ns.length ns,es:=List.take es.length es,os:=List.take os.length os,ss:=List.take ss.length ss,r:=r,x:=x} k n o t).es) (List.take (aAr {ns:=List.take ns.length ns,es:=List.take es.length es,os:=List.take os.length os,ss:=List.take ss.length ss,r:=r,x:=x} k n o t).os.length (aAr {ns:=List.take ns.length ns,es:=List.take es.length es,os:=List.take os.length os,ss:=List.take ss.length ss,r:=r,x:=x} k n o t).os) (List.take (aAr {ns:=List.take ns.length ns,es:=List.take es.length es,os:=List.take os.length os,ss:=List.take ss.length ss,r:=r,x:=x} k n o t).ss.length (aAr {ns:=List.take ns.length ns,es:=List.take es.length es,os:=List.take os.length os,ss:=List.take ss.length ss,r:=r,x:=x} k n o t).ss) (aAr {ns:=List.take ns.length ns,es:=List.take es.length es,os:=List.take os.length os,ss:=List.take ss.length ss,r:=r,x:=x} k n o t).r (aAr {ns:=List.take ns.length ns,es:=List.take es.length es,os:=List.take os.length os,ss:=List.take ss.length ss,r:=r,x:=x} k n o t).x (List.take (aAr {ns:=List.take ns.length ns,es:=List.take es.length es,os:=List.take os.length os,ss:=List.take ss.length ss,r:=r,x:=x} k n o t).ns.length (aAr {ns:=List.take ns.length ns,es:=List.take es.length es,os:=List.take os.length os,ss:=List.take ss.length ss,r:=r,x:=x} k n o t).ns) (List.take (aAr {ns:=List.take ns.length ns,es:=List.take es.length es,os:=List.take os.length os,ss:=List.take ss.length ss,r:=r,x:=x} k n o t).es.length (aAr {ns:=List.take ns.length ns,es:=List.take es.length es,os:=List.take os.length os,ss:=List.take ss.length ss,r:=r,x:=x} k n o t).es) (List.take (aAr {ns:=List.take ns.length ns,es:=List.take es.length es,os:=List.take os.length os,ss:=List.take ss.length ss,r:=r,x:=x} k n o t).os.length (aAr {ns:=List.take ns.length ns,es:=List.take es.length es,os:=List.take os.length os,ss:=List.take ss.length ss,r:=r,x:=x} k n o t).os) (List.take (aAr {ns:=List.take ns.length ns,es:=List.take es.length es,os:=List.take os.length os,ss:=List.take ss.length ss,r:=r,x:=x} k n o t).ss.length (aAr {ns:=List.take ns.length ns,es:=List.take es.length es,os:=List.take os.length os,ss:=List.take ss.length ss,r:=r,x:=x} k n o t).ss) (aAr {ns:=List.take ns.length ns,es:=List.take es.length es,os:=List.take os.length os,ss:=List.take ss.length ss,r:=r,x:=x} k n o t).r (aAr {ns:=List.take ns.length ns,es:=List.take es.length es,os:=List.take os.length os,ss:=List.take ss.length ss,r:=r,x:=x} k n o t).x) (.ask (bLh {ns:=List.take ns.length ns,es:=List.take es.length es,os:=List.take os.length os,ss:=List.take ss.length ss,r:=r,x:=x} k n o t != bLh {ns:=List.take ns.length ns,es:=List.take es.length es,os:=List.take os.length os,ss:=List.take ss.length ss,r:=r,x:=x} k n o t) (.ret [C.bool false]) (.must (bGa (List.take (aAr {ns:=List.take ns.length ns,es:=List.take es.length es,os:=List.take os.length os,ss:=List.take ss.length ss,r:=r,x:=x} k n o t).ns.length (mk mkN 3 1 (aAr {ns:=List.take ns.length ns,es:=List.take es.length es,os:=List.take os.length os,ss:=List.take ss.length ss,r:=r,x:=x} k n o t).ns.length)) (List.take (aAr {ns:=List.take ns.length ns,es:=List.take es.length es,os:=List.take os.length os,ss:=List.take ss.length ss,r:=r,x:=x} k n o t).es.length (mk aG3 2 ((1:Int)+(3:Int)*(↑(aAr {ns:=List.take ns.length ns,es:=List.take es.length es,os:=List.take os.length os,ss:=List.take ss.length ss,r:=r,x:=x} k n o t).ns.length:Int)) (aAr {ns:=List.take ns.length ns,es:=List.take es.length es,os:=List.take os.length os,ss:=List.take ss.length ss,r:=r,x:=x} k n o t).es.length)) (List.take (aAr {ns:=List.take ns.length ns,es:=List.take es.length es,os:=List.take os.length os,ss:=List.take ss.length ss,r:=r,x:=x} k n o t).os.length (mk aG3 2 ((1:Int)+(3:Int)*(↑(aAr {ns:=List.take ns.length ns,es:=List.take es.length es,os:=List.take os.length os,ss:=List.take ss.length ss,r:=r,x:=x} k n o t).ns.length:Int)+(2:Int)*(↑(aAr {ns:=List.take ns.length ns,es:=List.take es.length es,os:=List.take os.length os,ss:=List.take ss.length ss,r:=r,x:=x} k n o t).es.length:Int)) (aAr {ns:=List.take ns.length ns,es:=List.take es.length es,os:=List.take os.length os,ss:=List.take ss.length ss,r:=r,x:=x} k n o t).os.length)) (List.take (aAr {ns:=List.take ns.length ns,es:=List.take es.length es,os:=List.take os.length os,ss:=List.take ss.length ss,r:=r,x:=x} k n o t).ss.length (mk mkS 1 ((1:Int)+(3:Int)*(↑(aAr {ns:=List.take ns.length ns,es:=List.take es.length es,os:=List.take os.length os,ss:=List.take ss.length ss,r:=r,x:=x} k n o t).ns.length:Int)+(2:Int)*(↑(aAr {ns:=List.take ns.length ns,es:=List.take es.length es,os:=List.take os.length os,ss:=List.take ss.length ss,r:=r,x:=x} k n o t).es.length:Int)+(2:Int)*(↑(aAr {ns:=List.take ns.length ns,es:=List.take es.length es,os:=List.take os.length os,ss:=List.take ss.length ss,r:=r,x:=x} k n o t).os.length:Int)) (aAr {ns:=List.take ns.length ns,es:=List.take es.length es,os:=List.take os.length os,ss:=List.take ss.length ss,r:=r,x:=x} k n o t).ss.length)) (1:Int)&&(aBp 16777216 (List.take (aAr {ns:=List.take ns.length ns,es:=List.take es.length es,os:=List.take os.length os,ss:=List.take ss.length ss,r:=r,x:=x} k n o t).ns.length (mk mkN 3 1 (aAr {ns:=List.take ns.length ns,es:=List.take es.length es,os:=List.take os.length os,ss:=List.take ss.length ss,r:=r,x:=x} k n o t).ns.length)) (List.take (aAr {ns:=List.take ns.length ns,es:=List.take es.length es,os:=List.take os.length os,ss:=List.take ss.length ss,r:=r,x:=x} k n o t).es.length (mk aG3 2 ((1:Int)+(3:Int)*(↑(aAr {ns:=List.take ns.length ns,es:=List.take es.length es,os:=List.take os.length os,ss:=List.take ss.length ss,r:=r,x:=x} k n o t).ns.length:Int)) (aAr {ns:=List.take ns.length ns,es:=List.take es.length es,os:=List.take os.length os,ss:=List.take ss.length ss,r:=r,x:=x} k n o t).es.length)) (List.take (aAr {ns:=List.take ns.length ns,es:=List.take es.length es,os:=List.take os.length os,ss:=List.take ss.length ss,r:=r,x:=x} k n o t).os.length (mk aG3 2 ((1:Int)+(3:Int)*(↑(aAr {ns:=List.take ns.length ns,es:=List.take es.length es,os:=List.take os.length os,ss:=List.take ss.length ss,r:=r,x:=x} k n o t).ns.length:Int)+(2:Int)*(↑(aAr {ns:=List.take ns.length ns,es:=List.take es.length es,os:=List.take os.length os,ss:=List.take ss.length ss,r:=r,x:=x} k n o t).es.length:Int)) (aAr {ns:=List.take ns.length ns,es:=List.take es.length es,os:=List.take os.length os,ss:=List.take ss.length ss,r:=r,x:=x} k n o t).os.length)) (List.take (aAr {ns:=List.take ns.length ns,es:=List.take es.length es,os:=List.take os.length os,ss:=List.take ss.length ss,r:=r,x:=x} k n o t).ss.length (mk mkS 1 ((1:Int)+(3:Int)*(↑(aAr {ns:=List.take ns.length ns,es:=List.take es.length es,os:=List.take os.length os,ss:=List.take ss.length ss,r:=r,x:=x} k n o t).ns.length:Int)+(2:Int)*(↑(aAr {ns:=List.take ns.length ns,es:=List.take es.length es,os:=List.take os.length os,ss:=List.take ss.length ss,r:=r,x:=x} k n o t).es.length:Int)+(2:Int)*(↑(aAr {ns:=List.take ns.length ns,es:=List.take es.length es,os:=List.take os.length os,ss:=List.take ss.length ss,r:=r,x:=x} k n o t).os.length:Int)) (aAr {ns:=List.take ns.length ns,es:=List.take es.length es,os:=List.take os.length os,ss:=List.take ss.length ss,r:=r,x:=x} k n o t).ss.length))&&(decide ((0:Int)≤(1:Int))&&decide ((1:Int)≤(1073741824:Int))))) (.ask (aZl 1 (List.take (aAr {ns:=List.take ns.length ns,es:=List.take es.length es,os:=List.take os.length os,ss:=List.take ss.length ss,r:=r,x:=x} k n o t).ns.length (mk mkN 3 1 (aAr {ns:=List.take ns.length ns,es:=List.take es.length es,os:=List.take os.length os,ss:=List.take ss.length ss,r:=r,x:=x} k n o t).ns.length)).length (List.take (aAr {ns:=List.take ns.length ns,es:=List.take es.length es,os:=List.take os.length os,ss:=List.take ss.length ss,r:=r,x:=x} k n o t).es.length (mk aG3 2 ((1:Int)+(3:Int)*(↑(aAr {ns:=List.take ns.length ns,es:=List.take es.length es,os:=List.take os.length os,ss:=List.take ss.length ss,r:=r,x:=x} k n o t).ns.length:Int)) (aAr {ns:=List.take ns.length ns,es:=List.take es.length es,os:=List.take os.length os,ss:=List.take ss.length ss,r:=r,x:=x} k n o t).es.length)).length (List.take (aAr {ns:=List.take ns.length ns,es:=List.take es.length es,os:=List.take os.length os,ss:=List.take ss.length ss,r:=r,x:=x} k n o t).os.length (mk aG3 2 ((1:Int)+(3:Int)*(↑(aAr {ns:=List.take ns.length ns,es:=List.take es.length es,os:=List.take os.length os,ss:=List.take ss.length ss,r:=r,x:=x} k n o t).ns.length:Int)+(2:Int)*(↑(aAr {ns:=List.take ns.length ns,es:=List.take es.length es,os:=List.take os.length os,ss:=List.take ss.length ss,r:=r,x:=x} k n o t).es.length:Int)) (aAr {ns:=List.take ns.length ns,es:=List.take es.length es,os:=List.take os.length os,ss:=List.take ss.length ss,r:=r,x:=x} k n o t).os.length)).length (List.take (aAr {ns:=List.take ns.length ns,es:=List.take es.length es,os:=List.take os.length os,ss:=List.take ss.length ss,r:=r,x:=x} k n o t).ss.length (mk mkS 1 ((1:Int)+(3:Int)*(↑(aAr {ns:=List.take ns.length ns,es:=List.take es.length es,os:=List.take os.length os,ss:=List.take ss.length ss,r:=r,x:=x} k n o t).ns.length:Int)+(2:Int)*(↑(aAr {ns:=List.take ns.length ns,es:=List.take es.length es,os:=List.take os.length os,ss:=List.take ss.length ss,r:=r,x:=x} k n o t).es.length:Int)+(2:Int)*(↑(aAr {ns:=List.take ns.length ns,es:=List.take es.length es,os:=List.take os.length os,ss:=List.take ss.length ss,r:=r,x:=x} k n o t).os.length:Int)) (aAr {ns:=List.take ns.length ns,es:=List.take es.length es,os:=List.take os.length os,ss:=List.take ss.length ss,r:=r,x:=x} k n o t).ss.length)).length != aZl 1 (aAr {ns:=List.take ns.length ns,es:=List.take es.length es,os:=List.take os.length os,ss:=List.take ss.length ss,r:=r,x:=x} k n o t).ns.length (aAr {ns:=List.take ns.length ns,es:=List.take es.length es,os:=List.take os.length os,ss:=List.take ss.length ss,r:=r,x:=x} k n o t).es.length (aAr {ns:=List.take ns.length ns,es:=List.take es.length es,os:=List.take os.length os,ss:=List.take ss.length ss,r:=r,x:=x} k n o t).os.length (aAr {ns:=List.take ns.length ns,es:=List.take es.length es,os:=List.take os.length os,ss:=List.take ss.length ss,r:=r,x:=x} k n o t).ss.length) (.ret [C.bool false]) (.ret [C.bool true])))) (.ret [C.bool false]))))))))))))) (.ret [C.bool false])))))) (.ret [C.bool false])))))) (.ret [C.bool false]))))))))))))))):T (List C)).eval:=aAg (by kernel_rfl)
theorem bP6:aA8 Tryz.prog bL4:=aA9 (by simp[])
theorem bAl:aB0 Tryz.prog 14 (sg [pOp,pI] [rI]) aUi:=aA5 bP6 aAe Tryz.func14 (by kernel_rfl) fun cs outs hk h=>by
 unfold aUi at h
 split at h
 ·simp only[Option.some.injEq,Prod.mk.injEq,Bool.and_eq_true,decide_eq_true_eq]at h
  obtain⟨⟨⟨h1,h2⟩,h3,h4,h5⟩,rfl⟩:=h
  rename_i k n o t left
  rw[aAi,bEz]
  have w:IntKind.i64.wrap (left-(n.length:Int))=left-n.length:=by rw[aAm]<;>omega
  rw[w]
  show _=some [C.int .i64 (if left-(n.length:Int)<0 then -1 else if left-(n.length:Int)-(o.length:Int)<0 then -1 else if left-(n.length:Int)-(o.length:Int)-(t.length:Int)<0 then -1 else left-(n.length:Int)-(o.length:Int)-(t.length:Int))]
  by_cases c1:left-(n.length:Int)<0
  ·rw[if_pos c1];exact aA7 (decide_eq_true c1) rfl
  have w2:IntKind.i64.wrap (left-(n.length:Int)-(o.length:Int))=left-n.length-o.length:=by rw[aAm]<;>omega
  rw[if_neg c1,w2]
  refine aAb (decide_eq_false c1) ?_
  by_cases c2:left-(n.length:Int)-(o.length:Int)<0
  ·rw[if_pos c2];exact aA7 (decide_eq_true c2) rfl
  have w3:IntKind.i64.wrap (left-(n.length:Int)-(o.length:Int)-(t.length:Int))=left-n.length-o.length-t.length:=by rw[aAm]<;>omega
  rw[if_neg c2,w3]
  refine aAb (decide_eq_false c2) ?_
  by_cases c3:left-(n.length:Int)-(o.length:Int)-(t.length:Int)<0
  ·rw[if_pos c3];exact aA7 (decide_eq_true c3) rfl
  ·rw[if_neg c3];exact aAb (decide_eq_false c3) rfl
 ·cases h
theorem bP5:aA8 Tryz.prog bL3:=aA9 (by simp[])
theorem bAg:aB0 Tryz.prog 16 (sg [pOp] [rOp]) aUc:=aA5 bP5 aAe Tryz.func16 (by kernel_rfl) fun cs outs hk h=>by
 unfold aUc at h
 split at h
 ·simp only[Option.some.injEq,Prod.mk.injEq,true_and]at h
  subst h
  rw[aAi,bEu]
  rfl
 ·cases h
theorem bHo (ns:List Nd) (es os:List En) (ss:List (List UInt8)) (left:Int) (h:0≤left):aHb ns es os ss left≤left:=by
 have step:∀ (l:List Nat) (v:Int),v≤left→aGq l v≤left:=fun l v hv=>by
  unfold aGq
  split
  ·omega
  ·rcases aGi l v with h | h<;>omega
 have a:aBi (ns.map fun x=>x.text.length) left≤left:=by rcases aGi (ns.map fun x=>x.text.length) left with h | h<;>omega
 exact step _ _ (step _ _ (step _ _ a))
theorem bLx {n o t:Nat} {left:Int} (h0:0≤left) (h:¬bEy n o t left<0):(n:Int)+o+t≤left:=by
 have:=aSw [n,o,t] left h0 (by unfold bEy at h;omega)
 unfold bEy at h
 simp at this
 omega
theorem DkB.small {ns es os ss:List (List C)} (r x:Int) (hl:aLb ns es os ss=true) (h:¬aHb (nds ns) (ens es) (ens os) (aCp ss) 1048576<0):DkB 1048576 1048576 ⟨ns,es,os,ss,r,x⟩:=by
 obtain⟨_,q2,_,_,_⟩:=aNb hl h
 obtain⟨k1,k2,k3,k4⟩:=aDh.1 q2
 obtain⟨l1,l2,l3,l4,a5,a6,a7,a8,_⟩:=aJf _ _ _ _ h
 exact⟨⟨nds ns,aEt k1,l1,a5⟩,⟨ens es,aCx k2,l2,a6⟩,⟨ens os,aCx k3,l3,a7⟩,⟨aCp ss,aEq k4,l4,a8⟩⟩
theorem bS2:aA8 Tryz.prog bOs:=aA9 (by simp[aUn,aX2,aZh,aYp,aYt,bF9,bG5,bAl,bAg])
theorem bFu:aB0 Tryz.prog 4 (sg [aO5,pOp] [rB]) bI3:=aA5 bS2 aAe Tryz.func4 (by kernel_rfl) fun cs outs hk h=>by
 unfold bI3 at h
 split at h
 ·simp only[Option.some.injEq,Prod.mk.injEq,Bool.and_eq_true,decide_eq_true_eq]at h
  obtain⟨⟨hl,hn,ho,ht⟩,rfl⟩:=h
  rename_i ns es os ss r x k n o t
  rw[aAi,bJ1]
  have hl':=hl
  unfold aLb at hl'
  simp only[Bool.and_eq_true]at hl'
  obtain⟨⟨g1,g2⟩,g3⟩:=hl'
  have d0:decide ((0:Int)≤1048576)=true:=by decide
  have d1:decide ((1048576:Int)≤1048576)=true:=by decide
  have d2:decide (0<1)=true:=by decide
  have le:=bHo (nds ns) (ens es) (ens os) (aCp ss) 1048576 (by omega)
  by_cases hs:aHb (nds ns) (ens es) (ens os) (aCp ss) 1048576<0
  ·simp only[aA3,aA6,aA4,d0,d1,d2,g1,g2,g3,Bool.and_self,if_true,decide_eq_true_eq,hs]
  ·have sml:=DkB.small r x hl hs
   have hd:=bKd hl hs
   obtain⟨_,_,_,q4,_⟩:=aNb hl hs
   obtain⟨r1,r2,r3,r4⟩:=bKb g2
   obtain⟨_,_,l3,l4⟩:=sml.lens
   generalize hZ:aHb (nds ns) (ens es) (ens os) (aCp ss) 1048576=Z at hs le ⊢
   have z0:decide (0≤Z)=true:=decide_eq_true (by omega)
   have z1:decide (Z≤1048576)=true:=decide_eq_true le
   by_cases hq:bEy n.length o.length t.length Z<0
   ·simp only[aA3,aA6,aA4,d0,d1,d2,g1,g2,g3,Bool.and_self,if_true,if_false,decide_eq_true_eq,hs,hq,z0,z1,decide_eq_true hn,decide_eq_true ho,decide_eq_true ht]
   ·have ft:=bLx (by omega) hq
    have hrB:bPk ns es os ss n o t=true:=aUz.2 ⟨hd,aCa.2 ⟨by simp only at l3 l4;omega,by omega⟩,aCa.2 ⟨by simp only at l3 l4;omega,by omega⟩,by omega⟩
    have q:=bPj (sml.mono (Nat.le_refl _) (show 1048576≤4194304 by omega)) k (n:=n) (o:=o) (t:=t) (by omega)
    simp only[aA3,aA6,aA4,d0,d1,d2,g1,g2,g3,Bool.and_self,if_true,if_false,decide_eq_true_eq,hs,hq,z0,z1,decide_eq_true hn,decide_eq_true ho,decide_eq_true ht,List.take_length]
    generalize aAr ⟨ns,es,os,ss,r,x⟩ k n o t=D at q ⊢
    generalize bLh ⟨ns,es,os,ss,r,x⟩ k n o t=K
    obtain⟨b1,b2,b3,b4,_⟩:=q.all
    obtain⟨m1,m2,m3,m4⟩:=q.lens
    have gD:=q.rows
    have qD:aBp 16777216 D.ns D.es D.os D.ss=true:=aE8.2 ⟨by omega,by omega,by omega,by omega⟩
    have d3:decide ((0:Int)≤1)=true:=by decide
    have d4:decide ((1:Int)≤1073741824)=true:=by decide
    have hm:=bN9 1 D.ns.length D.es.length D.os.length D.ss.length
    have qm:∀ (a b c:Int),aBp 16777216 (mk mkN 3 1 D.ns.length) (mk aG3 2 a D.es.length) (mk aG3 2 b D.os.length) (mk mkS 1 c D.ss.length)=true:=fun a b c=>aE8.2 ⟨by rw[aDy];omega,by rw[aDy];omega,by rw[aDy];omega,by rw[aDy];omega⟩
    simp only[hrB,g2,gD,q4,qD,qm,r1,r2,r3,r4,b1,b2,b3,b4,d2,d3,d4,bRf,aDy,bUb,bUc,bUa,hm,bK5,bne_self_eq_false,decide_true,Bool.and_self,Bool.and_true,Bool.true_and,Bool.false_eq_true,if_true,if_false]
 ·cases h
end Go.Proofs.YtigodjkegcibhaaGreatDoor.V
