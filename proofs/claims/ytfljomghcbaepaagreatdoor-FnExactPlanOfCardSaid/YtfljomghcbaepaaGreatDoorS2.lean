/- Functions of the given program and of its reference: what each returns, as an equation over data; by the interpreter. -/
import Derived.Test.YtfljomghcbaepaaGreatDoorS
import Derived.Test.YtfljomghcbaepaaGreatDoorProg
import Derived.KernelRfl
import Derived.Lib.Builder
import Derived.Lib.AppendStr
import Derived.Lib.UnsafeStr
import Derived.Lib.Walk
import Derived.WalkKit
import Derived.RegionTactic
import Derived.Lib.Strings
import Derived.Lib.BufferWrite
import Derived.Laws.MakeOwn
set_option linter.unusedVariables false
set_option linter.unusedSimpArgs false
set_option linter.unusedSectionVars false
set_option linter.deprecated false
namespace Go.Proofs.YtfljomghcbaepaaGreatDoor.V
noncomputable section
def aB2:PTy:=.val true [.slice 70,.slice 97,.slice 97,.slice 9,.int .i64,.int .i64]
def bS8:RTy:=⟨true,[(.slice 70,true),(.slice 97,true),(.slice 97,true),(.slice 9,true),(.int .i64,false),(.int .i64,false)]⟩
def aBe (ns es os ss:List (List C)):Bool:=aAf kNd ns&&aAf kEn es&&aAf kEn os&&aAf [.str] ss
def aE6 (ns es os ss:List (List C)):Bool:=aCq ns&&aCq es&&aCq os&&aCq ss
def aBm (n:Nat) (ns es os ss:List (List C)):Bool:=decide (ns.length≤n)&&decide (es.length≤n)&&decide (os.length≤n)&&decide (ss.length≤n)
def aIn (l:List Nat) (left:Int):Int:=if left<0 then -1 else aBn l left
def aKm (ns:List Nd) (es os:List En) (ss:List (List UInt8)) (left:Int):Int :=
 aIn (ss.map List.length) (aIn (os.map fun x=>x.name.length) (aIn (es.map fun x=>x.name.length) (aBn (ns.map fun x=>x.text.length) left)))
abbrev cAs:List K:=[.slice 92,.slice 95,.slice 95,.slice 9,.int .i64,.int .i64]
def aGn:PTy:=.val true cAs
def aIo:aC3:=fun cs=>match cs with
 |[.sl ns,.sl es,.sl os,.sl ss,.int .i64 _,.int .i64 _,.int .i64 left]=>some (decide (0≤left)&&decide (left≤1048576)&&(aBm 281474976710656 ns es os ss&&aBe ns es os ss&&aE6 ns es os ss),[.int .i64 (aKm (nds ns) (ens es) (ens os) (aCb ss) left)])
 |_=>none
def bI3:Env:=mkE [] [(27,(sg [pSl 9,pI] [rI]),aV0),(25,(sg [pSl 92,pI] [rI]),aOv),(26,(sg [pSl 95,pI] [rI]),aLa)]
def aIm:aC3:=fun cs=>match cs with
 |[.sl ns,.sl es,.sl os,.sl ss,.int .i64 r,.int .i64 x]=>some (aBm 1048576 ns es os ss&&aBe ns es os ss,[.sl ns,.sl es,.sl os,.sl ss,.int .i64 r,.int .i64 x])
 |_=>none
def bNk:Env:=mkE [] [(30,(sg [pSl 9] [rSl 9]),aUu),(28,(sg [pSl 92] [rSl 70]),aOs),(29,(sg [pSl 95] [rSl 97]),aL8)]
def bZg (ns1 es1 os1 ss1:List (List C)) (r1 x1:Int) (ns2 es2 os2 ss2:List (List C)) (r2 x2:Int):Bool :=
 decide (nds ns1=nds ns2)&&decide (ens es1=ens es2)&&decide (ens os1=ens os2)&&decide (aCb ss1=aCb ss2)&&decide (r1=r2)&&decide (x1=x2)
def aJ7:aC3:=fun cs=>match cs with
 |[.sl ns1,.sl es1,.sl os1,.sl ss1,.int .i64 r1,.int .i64 x1,.sl ns2,.sl es2,.sl os2,.sl ss2,.int .i64 r2,.int .i64 x2] =>
  some (aBm 1048576 ns1 es1 os1 ss1&&aBe ns1 es1 os1 ss1&&aBe ns2 es2 os2 ss2,[.bool (bZg ns1 es1 os1 ss1 r1 x1 ns2 es2 os2 ss2 r2 x2)])
 |_=>none
def bO2:Env:=mkE [] [(33,(sg [pSl 9,pSl 9] [rB]),aWy),(31,(sg [pSl 70,pSl 70] [rB]),aP9),(32,(sg [pSl 97,pSl 97] [rB]),aM8)]
end
set_option maxRecDepth 100000
theorem bF7 (H:List Pt→Nat→St→T (List C)) (ns:List (List C)) (es:List (List C)) (os:List (List C)) (ss:List (List C)) (r:Int) (x:Int) (left:Int):(aAg bI3 aAa (sg [aGn,pI] [rI]) Tryz.f7 H [C.sl ns,C.sl es,C.sl os,C.sl ss,C.int .i64 r,C.int .i64 x,C.int .i64 left]).eval=((.must (decide ((0:Int)≤left)&&decide (left≤(1048576:Int))&&(decide (ns.length≤281474976710656)&&(aAf [K.int .i64,K.str,K.int .i64] ns&&aCq ns))) (.ask (decide (aBn (List.map (fun x=>x.2.length) (nds ns)) left<(0:Int))) (.ret [C.int .i64 (-1)]) (.must (decide ((0:Int)≤aBn (List.map (fun x=>x.2.length) (nds ns)) left)&&decide (aBn (List.map (fun x=>x.2.length) (nds ns)) left≤(1048576:Int))&&(decide (es.length≤281474976710656)&&(aAf [K.str,K.int .i64] es&&aCq es))) (.ask (decide (aBn (List.map (fun x=>x.1.length) (ens es)) (aBn (List.map (fun x=>x.2.length) (nds ns)) left)<(0:Int))) (.ret [C.int .i64 (-1)]) (.must (decide ((0:Int)≤aBn (List.map (fun x=>x.1.length) (ens es)) (aBn (List.map (fun x=>x.2.length) (nds ns)) left))&&decide (aBn (List.map (fun x=>x.1.length) (ens es)) (aBn (List.map (fun x=>x.2.length) (nds ns)) left)≤(1048576:Int))&&(decide (os.length≤281474976710656)&&(aAf [K.str,K.int .i64] os&&aCq os))) (.ask (decide (aBn (List.map (fun x=>x.1.length) (ens os)) (aBn (List.map (fun x=>x.1.length) (ens es)) (aBn (List.map (fun x=>x.2.length) (nds ns)) left))<(0:Int))) (.ret [C.int .i64 (-1)]) (.must (decide ((0:Int)≤aBn (List.map (fun x=>x.1.length) (ens os)) (aBn (List.map (fun x=>x.1.length) (ens es)) (aBn (List.map (fun x=>x.2.length) (nds ns)) left)))&&decide (aBn (List.map (fun x=>x.1.length) (ens os)) (aBn (List.map (fun x=>x.1.length) (ens es)) (aBn (List.map (fun x=>x.2.length) (nds ns)) left))≤(1048576:Int))&&(decide (ss.length≤281474976710656)&&(aAf [K.str] ss&&aCq ss))) (.ask (decide (aBn (List.map List.length (aCb ss)) (aBn (List.map (fun x=>x.1.length) (ens os)) (aBn (List.map (fun x=>x.1.length) (ens es)) (aBn (List.map (fun x=>x.2.length) (nds ns)) left)))<(0:Int))) (.ret [C.int .i64 (-1)]) (.ret [C.int .i64 (aBn (List.map List.length (aCb ss)) (aBn (List.map (fun x=>x.1.length) (ens os)) (aBn (List.map (fun x=>x.1.length) (ens es)) (aBn (List.map (fun x=>x.2.length) (nds ns)) left))))]))))))))):T (List C)).eval:=aAc (by kernel_rfl)
theorem bIw (H:List Pt→Nat→St→T (List C)) (ns:List (List C)) (es:List (List C)) (os:List (List C)) (ss:List (List C)) (r:Int) (x:Int):(aAg bNk aAa (sg [aGn] [bS8]) Tryz.f9 H [C.sl ns,C.sl es,C.sl os,C.sl ss,C.int .i64 r,C.int .i64 x]).eval=((.must (decide (ns.length≤1048576)&&aAf [K.int .i64,K.str,K.int .i64] ns) (.must ((true&&ns.all fun row=>decide (row.length=3))&&true&&true&&true) (.must (decide (es.length≤1048576)&&aAf [K.str,K.int .i64] es) (.must ((true&&es.all fun row=>decide (row.length=2))&&true&&true&&true) (.must (decide (os.length≤1048576)&&aAf [K.str,K.int .i64] os) (.must ((true&&os.all fun row=>decide (row.length=2))&&true&&true&&true) (.must (decide (ss.length≤1048576)&&aAf [K.str] ss) (.must ((true&&ss.all fun row=>decide (row.length=1))&&true&&true&&true) (.must (decide (ns.length=ns.length)&&(false||ns.all fun r=>r.all C.flat)&&(decide (es.length=es.length)&&(false||es.all fun r=>r.all C.flat)&&(decide (os.length=os.length)&&(false||os.all fun r=>r.all C.flat)&&(decide (ss.length=ss.length)&&(false||ss.all fun r=>r.all C.flat)&&(true&&(false||true)&&(true&&(false||true)&&true)))))&&true&&true) (.ret [C.sl ns,C.sl es,C.sl os,C.sl ss,C.int .i64 r,C.int .i64 x])))))))))):T (List C)).eval:=aAc (by kernel_rfl)
theorem bM3 (H:List Pt→Nat→St→T (List C)) (ns1:List (List C)) (es1:List (List C)) (os1:List (List C)) (ss1:List (List C)) (r1:Int) (x1:Int) (ns2:List (List C)) (es2:List (List C)) (os2:List (List C)) (ss2:List (List C)) (r2:Int) (x2:Int):(aAg bO2 aAa (sg [aB2,aB2] [rB]) Tryz.f11 H [C.sl ns1,C.sl es1,C.sl os1,C.sl ss1,C.int .i64 r1,C.int .i64 x1,C.sl ns2,C.sl es2,C.sl os2,C.sl ss2,C.int .i64 r2,C.int .i64 x2]).eval=((.must (decide (ns1.length≤1048576)&&(aAf [K.int .i64,K.str,K.int .i64] ns1&&aAf [K.int .i64,K.str,K.int .i64] ns2)) (.ask (decide (nds ns1=nds ns2)) (.must (decide (es1.length≤1048576)&&(aAf [K.str,K.int .i64] es1&&aAf [K.str,K.int .i64] es2)) (.ask (decide (ens es1=ens es2)) (.must (decide (os1.length≤1048576)&&(aAf [K.str,K.int .i64] os1&&aAf [K.str,K.int .i64] os2)) (.ask (decide (ens os1=ens os2)) (.must (decide (ss1.length≤1073741824)&&(aAf [K.str] ss1&&aAf [K.str] ss2)) (.ask (decide (aCb ss1=aCb ss2)) (.ask (r1 != r2) (.ret [C.bool false]) (.ask (x1 != x2) (.ret [C.bool false]) (.ret [C.bool true]))) (.ret [C.bool false]))) (.ret [C.bool false]))) (.ret [C.bool false]))) (.ret [C.bool false]))):T (List C)).eval:=aAc (by kernel_rfl)
theorem bOh (l:List Nat) (left:Int) (h:0≤left):aF9 l left= -1∨(0≤aF9 l left∧aF9 l left≤left):=by
 induction l generalizing left with
 |nil=>exact .inr ⟨h,Int.le_refl _⟩
 |cons n r ih =>
  simp only[aF9]
  split
  ·exact .inl rfl
  ·rcases ih (left-n) (by omega)with h | h
   ·exact .inl h
   ·exact .inr (by omega)
theorem aMk (l:List Nat) (left:Int):aBn l left= -1∨(0≤aBn l left∧aBn l left≤left):=by
 unfold aBn
 split
 ·exact .inl rfl
 ·rcases bOh l (left-l.length) (by omega)with h | h
  ·exact .inl h
  ·exact .inr (by omega)
theorem aF4 {ns es os ss:List (List C)}:aBe ns es os ss=true↔aAf kNd ns=true∧aAf kEn es=true∧aAf kEn os=true∧aAf [.str] ss=true:=by simp[aBe,and_assoc]
theorem bE2 {ns es os ss:List (List C)}:aE6 ns es os ss=true↔aCq ns=true∧aCq es=true∧aCq os=true∧aCq ss=true:=by simp[aE6,and_assoc]
theorem aF5 {n:Nat} {ns es os ss:List (List C)}:aBm n ns es os ss=true↔ns.length≤n∧es.length≤n∧os.length≤n∧ss.length≤n:=by simp[aBm,and_assoc]
theorem aGc {ks:List K} {rows:List (List C)} (h:aAf ks rows=true):(rows.all fun row=>decide (row.length=ks.length))=true:=by
 have key:∀ (ks:List K) (r:List C),aB3 r ks=true→r.length=ks.length:=by
  intro ks
  induction ks with
  |nil=>intro r h;cases r<;>simp[aB3]at h;rfl
  |cons k ks ih =>
   intro r h
   cases r with
   |nil=>simp[aB3]at h
   |cons c r=>simp only[aB3,Bool.and_eq_true]at h;simp[ih r h.2]
 simp only[aAf,List.all_eq_true,decide_eq_true_eq]at h ⊢
 exact fun r hr=>key ks r (h r hr)
theorem bQ9 {rows:List (List C)} (h:aAf kNd rows=true):(rows.all fun r=>r.all C.flat)=true:=by rw[aGt h];exact bN5 _
theorem bA6 {rows:List (List C)} (h:aAf kEn rows=true):(rows.all fun r=>r.all C.flat)=true:=by rw[aFc h];exact bN7 _
theorem bLx {rows:List (List C)} (h:aAf [.str] rows=true):(rows.all fun r=>r.all C.flat)=true:=by rw[aDa h];exact aEl _
theorem bRi:aA6 Tryz.prog bI3:=aA5 (by simp[aUz,bB2,aY8])
theorem aJh:aAn Tryz.prog 7 (sg [aGn,pI] [rI]) aIo:=aA4 bRi aA7 Tryz.func7 (by kernel_rfl) fun cs outs hk h=>by
 unfold aIo at h
 split at h
 ·simp only[Option.some.injEq,Prod.mk.injEq,Bool.and_eq_true,decide_eq_true_eq]at h
  obtain⟨⟨⟨h1,h2⟩,⟨h3,h4⟩,h5⟩,rfl⟩:=h
  rename_i ns es os ss r x left
  rw[aF5]at h3
  rw[aF4]at h4
  rw[bE2]at h5
  obtain⟨l1,l2,l3,l4⟩:=h3
  obtain⟨k1,k2,k3,k4⟩:=h4
  obtain⟨t1,t2,t3,t4⟩:=h5
  rw[aA9,bF7]
  simp only[kNd]at k1
  simp only[kEn]at k2 k3
  unfold aKm
  have e1:(fun (x:Nd)=>x.2.length)=fun x=>x.text.length:=rfl
  have e2:(fun (x:En)=>x.1.length)=fun x=>x.name.length:=rfl
  rw[e1,e2]
  generalize hA:aBn ((nds ns).map fun x=>x.text.length) left=A
  have rA:=aMk ((nds ns).map fun x=>x.text.length) left
  rw[hA]at rA
  simp only[aA0,aA1,aA2,h1,h2,l1,k1,t1,decide_true,Bool.and_self,if_true,decide_eq_true_eq]
  by_cases nA:A<0
  ·simp[nA,aIn]
  ·have cA:0≤A∧A≤1048576:=by omega
   simp only[nA,if_false,cA.1,cA.2,l2,k2,t2,decide_true,Bool.and_self,if_true,aIn]
   generalize hB:aBn ((ens es).map fun x=>x.name.length) A=B
   have rB:=aMk ((ens es).map fun x=>x.name.length) A
   rw[hB]at rB
   by_cases nB:B<0
   ·simp[nB]
   ·have cB:0≤B∧B≤1048576:=by omega
    simp only[nB,if_false,cB.1,cB.2,l3,k3,t3,decide_true,Bool.and_self,if_true]
    generalize hC:aBn ((ens os).map fun x=>x.name.length) B=C'
    have rC:=aMk ((ens os).map fun x=>x.name.length) B
    rw[hC]at rC
    by_cases nC:C'<0
    ·simp[nC]
    ·have cC:0≤C'∧C'≤1048576:=by omega
     simp only[nC,if_false,cC.1,cC.2,l4,k4,t4,decide_true,Bool.and_self,if_true]
     have rD:=aMk ((aCb ss).map List.length) C'
     split
     ·have:aBn ((aCb ss).map List.length) C'= -1:=by omega
      rw[this]
     ·rfl
 ·cases h
theorem bV5:aA6 Tryz.prog bNk:=aA5 (by simp[aUt,bAw,aY2])
theorem aL9:aAn Tryz.prog 9 (sg [aGn] [bS8]) aIm:=aA4 bV5 aA7 Tryz.func9 (by kernel_rfl) fun cs outs hk h=>by
 unfold aIm at h
 split at h
 ·simp only[Option.some.injEq,Prod.mk.injEq,Bool.and_eq_true,decide_eq_true_eq]at h
  obtain⟨⟨h3,h4⟩,rfl⟩:=h
  rename_i ns es os ss r x
  rw[aF5]at h3
  rw[aF4]at h4
  obtain⟨l1,l2,l3,l4⟩:=h3
  obtain⟨k1,k2,k3,k4⟩:=h4
  rw[aA9,bIw]
  have a1:=aGc k1
  have a2:=aGc k2
  have a3:=aGc k3
  have a4:=aGc k4
  have f1:=bQ9 k1
  have f2:=bA6 k2
  have f3:=bA6 k3
  have f4:=bLx k4
  simp only[kNd]at k1
  simp only[kEn]at k2 k3
  simp only[kNd,kEn,List.length_cons,List.length_nil,Nat.zero_add,Nat.reduceAdd]at a1 a2 a3 a4
  simp only[aA0,aA2,l1,l2,l3,l4,k1,k2,k3,k4,a1,a2,a3,a4,f1,f2,f3,f4,decide_true,Bool.and_self,Bool.or_true,if_true]
 ·cases h
theorem bX0:aA6 Tryz.prog bO2:=aA5 (by simp[aWx,bDx,aZg])
theorem aM9:aAn Tryz.prog 11 (sg [aB2,aB2] [rB]) aJ7:=aA4 bX0 aA7 Tryz.func11 (by kernel_rfl) fun cs outs hk h=>by
 unfold aJ7 at h
 split at h
 ·simp only[Option.some.injEq,Prod.mk.injEq,Bool.and_eq_true,decide_eq_true_eq]at h
  obtain⟨⟨⟨h3,h4⟩,h5⟩,rfl⟩:=h
  rename_i ns es os ss r x ns2 es2 os2 ss2 r2 x2
  rw[aF5]at h3
  rw[aF4]at h4 h5
  obtain⟨l1,l2,l3,l4⟩:=h3
  obtain⟨k1,k2,k3,k4⟩:=h4
  obtain⟨q1,q2,q3,q4⟩:=h5
  rw[aA9,bM3]
  simp only[kNd]at k1 q1
  simp only[kEn]at k2 k3 q2 q3
  have l5:ss.length≤1073741824:=by omega
  simp only[aA0,aA1,aA2,l1,l2,l3,l4,l5,k1,k2,k3,k4,q1,q2,q3,q4,decide_true,Bool.and_self,if_true,bZg,bne_iff_ne,ne_eq,decide_eq_true_eq]
  repeat' split
  all_goals first | rfl | (simp_all;done)
 ·cases h
noncomputable section
def aCn {A:Type} (p:A→Bool):List A→Nat→Int
 |[],_=> -1
 |x::r,i=>if p x then (i:Int)else aCn p r (i+1)
def bX2 (nm:List UInt8) (e:En):Bool:=decide (e.name=nm)
def bXr (id:Int) (n:Nd):Bool:=decide (n.id=id)
def aC2 (es:List En) (nm:List UInt8):Int:=aCn (bX2 nm) es 0
def aCp (ns:List Nd) (id:Int):Int:=aCn (bXr id) ns 0
def aFx (es:List En) (nm:List UInt8):Int:=if aC2 es nm<0 then 0 else (es.getD (aC2 es nm).toNat ⟨[],0⟩).id
def aZc (es:List En) (nm:List UInt8):Bool:=decide (0≤aC2 es nm)
def aDl (ns:List Nd) (es:List En) (nm:List UInt8):Int:=if aC2 es nm<0 then -1 else aCp ns (aFx es nm)
def cA2 (ns:List Nd) (es:List En) (nm:List UInt8):Nd:=if aDl ns es nm<0 then⟨0,[],0⟩else ns.getD (aDl ns es nm).toNat ⟨0,[],0⟩
def aZb (ns:List Nd) (es:List En) (nm:List UInt8):Bool:=decide (0≤aDl ns es nm)
def cBv (ns:List Nd) (es:List En) (nm:List UInt8):Int:=(cA2 ns es nm).id
def aEg (ns:List Nd) (es:List En) (nm:List UInt8):List UInt8:=(cA2 ns es nm).text
def aLq (ns:List Nd) (es:List En) (nm:List UInt8):Int:=(cA2 ns es nm).sure
def bHv:Nat:=281474976710656
def aTy:aC3:=fun cs=>match cs with
 |[.str n,.int .i64 _,.pt [.str nm]]=>some (true,[.bool (decide (n=nm))])
 |_=>none
def aTq:aC3:=fun cs=>match cs with
 |[.int .i64 i,.str _,.int .i64 _,.pt [.int .i64 id]]=>some (true,[.bool (decide (i=id))])
 |_=>none
def bCs:aC3:=fun cs=>match cs with
 |[.sl rows,.fn f [.pt [.str nm]]]=>some (decide (f=163)&&(decide (rows.length≤bHv)&&aAf kEn rows),[.int .i64 (aC2 (ens rows) nm)])
 |_=>none
def bCq:aC3:=fun cs=>match cs with
 |[.sl rows,.fn f [.pt [.int .i64 id]]]=>some (decide (f=165)&&(decide (rows.length≤bHv)&&aAf kNd rows),[.int .i64 (aCp (nds rows) id)])
 |_=>none
def aVy:aC3:=fun cs=>match cs with
 |[.sl rows,.str nm]=>some (decide (rows.length≤bHv)&&aAf kEn rows,[.int .i64 (aC2 (ens rows) nm)])
 |_=>none
def aX3:aC3:=fun cs=>match cs with
 |[.sl rows,.str nm]=>some (decide (rows.length≤bHv)&&aAf kEn rows,[.int .i64 (aFx (ens rows) nm)])
 |_=>none
def aWq:aC3:=fun cs=>match cs with
 |[.sl rows,.str nm]=>some (decide (rows.length≤bHv)&&aAf kEn rows,[.bool (aZc (ens rows) nm)])
 |_=>none
def aH1:aC3:=fun cs=>match cs with
 |[.sl ns,.sl _,.sl _,.sl _,.int .i64 _,.int .i64 _,.int .i64 id]=>some (decide (ns.length≤bHv)&&aAf kNd ns,[.int .i64 (aCp (nds ns) id)])
 |_=>none
def bEs (ns es:List (List C)):Bool:=decide (ns.length≤bHv)&&decide (es.length≤bHv)&&aAf kNd ns&&aAf kEn es
def aRs:aC3:=fun cs=>match cs with
 |[.sl ns,.sl es,.sl _,.sl _,.int .i64 _,.int .i64 _,.str nm]=>some (bEs ns es,[.int .i64 (aDl (nds ns) (ens es) nm)])
 |_=>none
def aEx:aC3:=fun cs=>match cs with
 |[.sl ns,.sl es,.sl _,.sl _,.int .i64 _,.int .i64 _,.str nm]=>some (bEs ns es,[.int .i64 (cBv (nds ns) (ens es) nm),.str (aEg (nds ns) (ens es) nm),.int .i64 (aLq (nds ns) (ens es) nm),.bool (aZb (nds ns) (ens es) nm)])
 |_=>none
def aEv:aC3:=fun cs=>match cs with
 |[.sl ns,.sl es,.sl _,.sl _,.int .i64 _,.int .i64 _,.str nm]=>some (bEs ns es,[.str (aEg (nds ns) (ens es) nm),.bool (aZb (nds ns) (ens es) nm)])
 |_=>none
def aB8 (ns:List Nd) (es:List En) (base:Int):List UInt8:=aEg ns es (aAm base)
def aFs:aC3:=fun cs=>match cs with
 |[.sl ns,.sl es,.sl _,.sl _,.int .i64 _,.int .i64 _,.int .i64 base]=>some (bEs ns es,[.str (aB8 (nds ns) (ens es) base)])
 |_=>none
abbrev pF:PTy:=.val false [.func]
abbrev pP:PTy:=.val false [.ptr]
def bNi (r:List (List C)) (nm:List UInt8) (n i:Int):St:=st0 [(0,.l (.sl r)),(1,.l (.fn 163 [.pt [.str nm]])),(7,aAw n),(8,aAw i)]
def bNh (r:List (List C)) (id:Int) (n i:Int):St:=st0 [(0,.l (.sl r)),(1,.l (.fn 165 [.pt [.int .i64 id]])),(7,aAw n),(8,aAw i)]
def aUb (r:List (List C)) (nm:List UInt8) (i:Int):St:=st0 [(0,.l (.sl r)),(1,bEp nm),(5,aAw i)]
def aUa (r:List (List C)) (nm:List UInt8) (i:Int):St:=st0 [(0,.l (.sl r)),(1,bEp nm),(5,aAw i)]
def aQz (ns es os ss:List (List C)) (r x id i:Int):St:={slots:=[(1,aAw id),(2,.l (.ptr 0 0)),(5,aAw i)],heap:=[(0,.box [.sl ns,.sl es,.sl os,.sl ss,.i .i64 r,.i .i64 x])],next:=1,pins:=[]}
def bY5:Env:=mkE [] []
def bY2:Env:=mkE [] []
def bNt:Env:=mkE [(2,[0,1,7,8])] [(163,(sg [aGo,pP] [rB]),aTy)]
def bNs:Env:=mkE [(2,[0,1,7,8])] [(165,(sg [aO0,pP] [rB]),aTq)]
def bAi:Env:=mkE [] [(163,(sg [aGo,pP] [rB]),aTy),(162,(sg [pSl 97,pF] [rI]),bCs)]
def bIa:Env:=mkE [] [(165,(sg [aO0,pP] [rB]),aTq),(164,(sg [pSl 70,pF] [rI]),bCq)]
def aUo:Env:=mkE [(2,[0,1,5])] []
def aUn:Env:=mkE [(2,[0,1,5])] []
def aR5:Env:=mkE [(2,[1,2,5])] []
def bIb:Env:=mkE [] [(124,(sg [pSl 97,pS] [rI]),aVy),(125,(sg [aB2,pI] [rI]),aH1)]
def bI6:Env:=mkE [] [(85,(sg [pSl 97,pS] [rI]),aX3),(86,(sg [pSl 97,pS] [rB]),aWq),(84,(sg [aB2,pI] [rI]),aH1)]
def bIf:Env:=mkE [] [(96,(sg [aB2,pS] [rI]),aRs)]
def aXm:Env:=mkE [] [(50,(sg [aB2,pS] [aVu,rB]),aEx)]
def aXs:Env:=mkE [] [(58,(sg [aB2,pS] [aVu,rB]),aEx)]
def bI4:Env:=mkE [] [(49,(sg [pI] [rS]),aFa),(89,(sg [aB2,pS] [rS,rB]),aEv)]
def bId:Env:=mkE [] [(59,(sg [pI] [rS]),aFa),(119,(sg [aB2,pS] [rS,rB]),aEv)]
end
theorem bTx (H:List Pt→Nat→St→T (List C)) (n:List UInt8) (i:Int) (nm:List UInt8):(aAg bY5 aAa (sg [aGo,pP] [rB]) Tryz.f163 H [C.str n,C.int .i64 i,C.pt [C.str nm]]).eval=((.ask (n==nm) (.ret [C.bool true]) (.ret [C.bool false])):T (List C)).eval:=aAc (by kernel_rfl)
theorem bSq (H:List Pt→Nat→St→T (List C)) (i:Int) (t:List UInt8) (s:Int) (id:Int):(aAg bY2 aAa (sg [aO0,pP] [rB]) Tryz.f165 H [C.int .i64 i,C.str t,C.int .i64 s,C.pt [C.int .i64 id]]).eval=((.ask (decide (i=id)) (.ret [C.bool true]) (.ret [C.bool false])):T (List C)).eval:=aAc (by kernel_rfl)
theorem bT3 (H:List Pt→Nat→St→T (List C)) (r:List (List C)) (nm:List UInt8):(aAg bNt aAa (sg [pSl 97,pF] [rI]) Tryz.f162 H [C.sl r,C.fn 163 [C.pt [C.str nm]]]).eval=((H [Pt.r,Pt.l,Pt.r,Pt.b] 9223372036854775808 (bNi (r) (nm) ((↑r.length:Int)) ((0:Int)))):T (List C)).eval:=aAc (by kernel_rfl)
theorem bSz (H:List Pt→Nat→St→T (List C)) (r:List (List C)) (id:Int):(aAg bNs aAa (sg [pSl 70,pF] [rI]) Tryz.f164 H [C.sl r,C.fn 165 [C.pt [C.int .i64 id]]]).eval=((H [Pt.r,Pt.l,Pt.r,Pt.b] 9223372036854775808 (bNh (r) (id) ((↑r.length:Int)) ((0:Int)))):T (List C)).eval:=aAc (by kernel_rfl)
theorem bC7 (H:List Pt→Nat→St→T (List C)) (r:List (List C)) (nm:List UInt8):(aAg bAi aAa (sg [pSl 97,pS] [rI]) Tryz.f124 H [C.sl r,C.str nm]).eval=((.must (decide (163=163)&&(decide (r.length≤bHv)&&aAf [K.str,K.int .i64] r)) (.ret [C.int .i64 (aC2 (ens r) nm)])):T (List C)).eval:=aAc (by kernel_rfl)
theorem bG6 (H:List Pt→Nat→St→T (List C)) (ns:List (List C)) (es:List (List C)) (os:List (List C)) (ss:List (List C)) (r:Int) (x:Int) (id:Int):(aAg bIa aAa (sg [aB2,pI] [rI]) Tryz.f125 H [C.sl ns,C.sl es,C.sl os,C.sl ss,C.int .i64 r,C.int .i64 x,C.int .i64 id]).eval=((.must (decide (165=165)&&(decide (ns.length≤bHv)&&aAf [K.int .i64,K.str,K.int .i64] ns)) (.ret [C.int .i64 (aCp (nds ns) id)])):T (List C)).eval:=aAc (by kernel_rfl)
theorem bM4 (H:List Pt→Nat→St→T (List C)) (r:List (List C)) (nm:List UInt8):(aAg aUo aAa (sg [pSl 97,pS] [rI]) Tryz.f85 H [C.sl r,C.str nm]).eval=((H [Pt.r,Pt.l,Pt.r,Pt.b] 9223372036854775808 (aUb (r) (nm) ((0:Int)))):T (List C)).eval:=aAc (by kernel_rfl)
theorem bLs (H:List Pt→Nat→St→T (List C)) (r:List (List C)) (nm:List UInt8):(aAg aUn aAa (sg [pSl 97,pS] [rB]) Tryz.f86 H [C.sl r,C.str nm]).eval=((H [Pt.r,Pt.l,Pt.r,Pt.b] 9223372036854775808 (aUa (r) (nm) ((0:Int)))):T (List C)).eval:=aAc (by kernel_rfl)
theorem bFf (H:List Pt→Nat→St→T (List C)) (ns:List (List C)) (es:List (List C)) (os:List (List C)) (ss:List (List C)) (r:Int) (x:Int) (id:Int):(aAg aR5 aAa (sg [aB2,pI] [rI]) Tryz.f84 H [C.sl ns,C.sl es,C.sl os,C.sl ss,C.int .i64 r,C.int .i64 x,C.int .i64 id]).eval=((H [Pt.r,Pt.l,Pt.r,Pt.b] 9223372036854775808 (aQz (ns) (es) (os) (ss) (r) (x) (id) ((0:Int)))):T (List C)).eval:=aAc (by kernel_rfl)
theorem bG7 (H:List Pt→Nat→St→T (List C)) (ns:List (List C)) (es:List (List C)) (os:List (List C)) (ss:List (List C)) (r:Int) (x:Int) (nm:List UInt8):(aAg bIb aAa (sg [aB2,pS] [rI]) Tryz.f96 H [C.sl ns,C.sl es,C.sl os,C.sl ss,C.int .i64 r,C.int .i64 x,C.str nm]).eval=((.must (decide (es.length≤bHv)&&aAf [K.str,K.int .i64] es) (.ask (decide (aC2 (ens es) nm<(0:Int))) (.ret [C.int .i64 (-1)]) (.must (decide ((0:Int)≤aC2 (ens es) nm)&&decide (aC2 (ens es) nm<(↑es.length:Int))&&decide ((es.getD (aC2 (ens es) nm).toNat []).length=2)) (.must (decide (0+1<(es.getD (aC2 (ens es) nm).toNat []).length)&&C.is (K.int .i64) ((es.getD (aC2 (ens es) nm).toNat []).getD (0+1) (C.fn 0 []))&&true) (.must (decide (ns.length≤bHv)&&aAf [K.int .i64,K.str,K.int .i64] ns) (.ret [C.int .i64 (aCp (nds ns) ((es.getD (aC2 (ens es) nm).toNat []).getD (0+1) (C.fn 0 [])).toInt)])))))):T (List C)).eval:=aAc (by kernel_rfl)
theorem bFh (H:List Pt→Nat→St→T (List C)) (ns:List (List C)) (es:List (List C)) (os:List (List C)) (ss:List (List C)) (r:Int) (x:Int) (nm:List UInt8):(aAg bI6 aAa (sg [aB2,pS] [aVu,rB]) Tryz.f50 H [C.sl ns,C.sl es,C.sl os,C.sl ss,C.int .i64 r,C.int .i64 x,C.str nm]).eval=((.must (decide (es.length≤bHv)&&aAf [K.str,K.int .i64] es) (.must (decide (ns.length≤bHv)&&aAf [K.int .i64,K.str,K.int .i64] ns) (.ask (decide (aCp (nds ns) (aFx (ens es) nm)<(0:Int))) (.ret [C.int .i64 0,C.str [],C.int .i64 0,C.bool false]) (.must (decide (es.length≤bHv)&&aAf [K.str,K.int .i64] es) (.ask (aZc (ens es) nm) (.must (decide ((0:Int)≤aCp (nds ns) (aFx (ens es) nm))&&decide (aCp (nds ns) (aFx (ens es) nm)<(↑ns.length:Int))&&decide ((ns.getD (aCp (nds ns) (aFx (ens es) nm)).toNat []).length=3)) (.must (decide (0<(ns.getD (aCp (nds ns) (aFx (ens es) nm)).toNat []).length)&&C.is (K.int .i64) ((ns.getD (aCp (nds ns) (aFx (ens es) nm)).toNat []).getD 0 (C.fn 0 []))&&(decide (0+1<(ns.getD (aCp (nds ns) (aFx (ens es) nm)).toNat []).length)&&C.is K.str ((ns.getD (aCp (nds ns) (aFx (ens es) nm)).toNat []).getD (0+1) (C.fn 0 []))&&(decide (0+1+1<(ns.getD (aCp (nds ns) (aFx (ens es) nm)).toNat []).length)&&C.is (K.int .i64) ((ns.getD (aCp (nds ns) (aFx (ens es) nm)).toNat []).getD (0+1+1) (C.fn 0 []))&&true))) (.ret [C.int .i64 ((ns.getD (aCp (nds ns) (aFx (ens es) nm)).toNat []).getD 0 (C.fn 0 [])).toInt,C.str ((ns.getD (aCp (nds ns) (aFx (ens es) nm)).toNat []).getD (0+1) (C.fn 0 [])).toStr,C.int .i64 ((ns.getD (aCp (nds ns) (aFx (ens es) nm)).toNat []).getD (0+1+1) (C.fn 0 [])).toInt,C.bool true]))) (.ret [C.int .i64 0,C.str [],C.int .i64 0,C.bool false])))))):T (List C)).eval:=aAc (by kernel_rfl)
theorem bGy (H:List Pt→Nat→St→T (List C)) (ns:List (List C)) (es:List (List C)) (os:List (List C)) (ss:List (List C)) (r:Int) (x:Int) (nm:List UInt8):(aAg bIf aAa (sg [aB2,pS] [aVu,rB]) Tryz.f58 H [C.sl ns,C.sl es,C.sl os,C.sl ss,C.int .i64 r,C.int .i64 x,C.str nm]).eval=((.must (bEs ns es) (.ask (decide (aDl (nds ns) (ens es) nm<(0:Int))) (.ret [C.int .i64 0,C.str [],C.int .i64 0,C.bool false]) (.must (decide ((0:Int)≤aDl (nds ns) (ens es) nm)&&decide (aDl (nds ns) (ens es) nm<(↑ns.length:Int))&&decide ((ns.getD (aDl (nds ns) (ens es) nm).toNat []).length=3)) (.must (decide (0<(ns.getD (aDl (nds ns) (ens es) nm).toNat []).length)&&C.is (K.int .i64) ((ns.getD (aDl (nds ns) (ens es) nm).toNat []).getD 0 (C.fn 0 []))&&(decide (0+1<(ns.getD (aDl (nds ns) (ens es) nm).toNat []).length)&&C.is K.str ((ns.getD (aDl (nds ns) (ens es) nm).toNat []).getD (0+1) (C.fn 0 []))&&(decide (0+1+1<(ns.getD (aDl (nds ns) (ens es) nm).toNat []).length)&&C.is (K.int .i64) ((ns.getD (aDl (nds ns) (ens es) nm).toNat []).getD (0+1+1) (C.fn 0 []))&&true))) (.ret [C.int .i64 ((ns.getD (aDl (nds ns) (ens es) nm).toNat []).getD 0 (C.fn 0 [])).toInt,C.str ((ns.getD (aDl (nds ns) (ens es) nm).toNat []).getD (0+1) (C.fn 0 [])).toStr,C.int .i64 ((ns.getD (aDl (nds ns) (ens es) nm).toNat []).getD (0+1+1) (C.fn 0 [])).toInt,C.bool true]))))):T (List C)).eval:=aAc (by kernel_rfl)
theorem aYi (H:List Pt→Nat→St→T (List C)) (ns:List (List C)) (es:List (List C)) (os:List (List C)) (ss:List (List C)) (r:Int) (x:Int) (nm:List UInt8):(aAg aXm aAa (sg [aB2,pS] [rS,rB]) Tryz.f89 H [C.sl ns,C.sl es,C.sl os,C.sl ss,C.int .i64 r,C.int .i64 x,C.str nm]).eval=((.must (bEs ns es) (.ask (aZb (nds ns) (ens es) nm) (.ret [C.str (aEg (nds ns) (ens es) nm),C.bool true]) (.ret [C.str (aEg (nds ns) (ens es) nm),C.bool false]))):T (List C)).eval:=aAc (by kernel_rfl)
theorem aZ4 (H:List Pt→Nat→St→T (List C)) (ns:List (List C)) (es:List (List C)) (os:List (List C)) (ss:List (List C)) (r:Int) (x:Int) (nm:List UInt8):(aAg aXs aAa (sg [aB2,pS] [rS,rB]) Tryz.f119 H [C.sl ns,C.sl es,C.sl os,C.sl ss,C.int .i64 r,C.int .i64 x,C.str nm]).eval=((.must (bEs ns es) (.ask (aZb (nds ns) (ens es) nm) (.ret [C.str (aEg (nds ns) (ens es) nm),C.bool true]) (.ret [C.str (aEg (nds ns) (ens es) nm),C.bool false]))):T (List C)).eval:=aAc (by kernel_rfl)
theorem bFa (H:List Pt→Nat→St→T (List C)) (ns:List (List C)) (es:List (List C)) (os:List (List C)) (ss:List (List C)) (r:Int) (x:Int) (b:Int):(aAg bI4 aAa (sg [aB2,pI] [rS]) Tryz.f54 H [C.sl ns,C.sl es,C.sl os,C.sl ss,C.int .i64 r,C.int .i64 x,C.int .i64 b]).eval=((.must (bEs ns es) (.ask (aZb (nds ns) (ens es) (aAm b)) (.ret [C.str (aEg (nds ns) (ens es) (aAm b))]) (.ret [C.str (aEg (nds ns) (ens es) (aAm b))]))):T (List C)).eval:=aAc (by kernel_rfl)
theorem bGt (H:List Pt→Nat→St→T (List C)) (ns:List (List C)) (es:List (List C)) (os:List (List C)) (ss:List (List C)) (r:Int) (x:Int) (b:Int):(aAg bId aAa (sg [aB2,pI] [rS]) Tryz.f92 H [C.sl ns,C.sl es,C.sl os,C.sl ss,C.int .i64 r,C.int .i64 x,C.int .i64 b]).eval=((.must (bEs ns es) (.ask (aZb (nds ns) (ens es) (aAm b)) (.ret [C.str (aEg (nds ns) (ens es) (aAm b))]) (.ret [C.str (aEg (nds ns) (ens es) (aAm b))]))):T (List C)).eval:=aAc (by kernel_rfl)
theorem bKt (H:List Pt→Nat→St→T (List C)) (r:List (List C)) (nm:List UInt8) (n:Int) (i:Int) (k:Nat):(aB1 bNt aAa (sg [pSl 97,pF] [rI]) Tryz.f162 H [Pt.r,Pt.l,Pt.r,Pt.b] k (bNi r nm n i)).eval=((.ask (decide (i<n)) (.must (decide ((0:Int)≤i)&&decide (i<(↑r.length:Int))&&decide ((r.getD i.toNat []).length=2)) (.must (decide (0<(r.getD i.toNat []).length)&&C.is K.str ((r.getD i.toNat []).getD 0 (C.fn 0 []))&&(decide (0+1<(r.getD i.toNat []).length)&&C.is (K.int .i64) ((r.getD i.toNat []).getD (0+1) (C.fn 0 []))&&true)) (.ask (decide (((r.getD i.toNat []).getD 0 (C.fn 0 [])).toStr=nm)) (.ret [C.int .i64 i]) (H [Pt.r,Pt.l,Pt.r,Pt.b] k (bNi (r) (nm) (n) (IntKind.i64.wrap (i+(1:Int)))))))) (.ret [C.int .i64 (-1)])):T (List C)).eval:=aAc (by kernel_rfl)
theorem bKs (H:List Pt→Nat→St→T (List C)) (r:List (List C)) (id:Int) (n:Int) (i:Int) (k:Nat):(aB1 bNs aAa (sg [pSl 70,pF] [rI]) Tryz.f164 H [Pt.r,Pt.l,Pt.r,Pt.b] k (bNh r id n i)).eval=((.ask (decide (i<n)) (.must (decide ((0:Int)≤i)&&decide (i<(↑r.length:Int))&&decide ((r.getD i.toNat []).length=3)) (.must (decide (0<(r.getD i.toNat []).length)&&C.is (K.int .i64) ((r.getD i.toNat []).getD 0 (C.fn 0 []))&&(decide (0+1<(r.getD i.toNat []).length)&&C.is K.str ((r.getD i.toNat []).getD (0+1) (C.fn 0 []))&&(decide (0+1+1<(r.getD i.toNat []).length)&&C.is (K.int .i64) ((r.getD i.toNat []).getD (0+1+1) (C.fn 0 []))&&true))) (.ask (decide (((r.getD i.toNat []).getD 0 (C.fn 0 [])).toInt=id)) (.ret [C.int .i64 i]) (H [Pt.r,Pt.l,Pt.r,Pt.b] k (bNh (r) (id) (n) (IntKind.i64.wrap (i+(1:Int)))))))) (.ret [C.int .i64 (-1)])):T (List C)).eval:=aAc (by kernel_rfl)
theorem bE1 (H:List Pt→Nat→St→T (List C)) (r:List (List C)) (nm:List UInt8) (i:Int) (k:Nat):(aB1 aUo aAa (sg [pSl 97,pS] [rI]) Tryz.f85 H [Pt.r,Pt.l,Pt.r,Pt.b] k (aUb r nm i)).eval=((.ask (decide (i<(↑r.length:Int))) (.must (decide ((0:Int)≤i)&&decide (i<(↑r.length:Int))&&decide ((r.getD i.toNat []).length=2)) (.must (decide (0+0<(r.getD i.toNat []).length)&&C.is K.str ((r.getD i.toNat []).getD (0+0) (C.fn 0 []))&&true) (.ask (((r.getD i.toNat []).getD (0+0) (C.fn 0 [])).toStr==nm) (.must (decide ((0:Int)≤i)&&decide (i<(↑r.length:Int))&&decide ((r.getD i.toNat []).length=2)) (.must (decide (0+1<(r.getD i.toNat []).length)&&C.is (K.int .i64) ((r.getD i.toNat []).getD (0+1) (C.fn 0 []))&&true) (.ret [C.int .i64 ((r.getD i.toNat []).getD (0+1) (C.fn 0 [])).toInt]))) (H [Pt.r,Pt.l,Pt.r,Pt.b] k (aUb (r) (nm) (IntKind.i64.wrap (i+(1:Int)))))))) (.ret [C.int .i64 0])):T (List C)).eval:=aAc (by kernel_rfl)
theorem bDk (H:List Pt→Nat→St→T (List C)) (r:List (List C)) (nm:List UInt8) (i:Int) (k:Nat):(aB1 aUn aAa (sg [pSl 97,pS] [rB]) Tryz.f86 H [Pt.r,Pt.l,Pt.r,Pt.b] k (aUa r nm i)).eval=((.ask (decide (i<(↑r.length:Int))) (.must (decide ((0:Int)≤i)&&decide (i<(↑r.length:Int))&&decide ((r.getD i.toNat []).length=2)) (.must (decide (0+0<(r.getD i.toNat []).length)&&C.is K.str ((r.getD i.toNat []).getD (0+0) (C.fn 0 []))&&true) (.ask (((r.getD i.toNat []).getD (0+0) (C.fn 0 [])).toStr==nm) (.ret [C.bool true]) (H [Pt.r,Pt.l,Pt.r,Pt.b] k (aUa (r) (nm) (IntKind.i64.wrap (i+(1:Int)))))))) (.ret [C.bool false])):T (List C)).eval:=aAc (by kernel_rfl)
theorem aYm (H:List Pt→Nat→St→T (List C)) (ns:List (List C)) (es:List (List C)) (os:List (List C)) (ss:List (List C)) (r:Int) (x:Int) (id:Int) (i:Int) (k:Nat):(aB1 aR5 aAa (sg [aB2,pI] [rI]) Tryz.f84 H [Pt.r,Pt.l,Pt.r,Pt.b] k (aQz ns es os ss r x id i)).eval=((.ask (decide (i<(↑ns.length:Int))) (.must (decide ((0:Int)≤i)&&decide (i<(↑ns.length:Int))&&decide ((ns.getD i.toNat []).length=3)) (.must (decide (0+0<(ns.getD i.toNat []).length)&&C.is (K.int .i64) ((ns.getD i.toNat []).getD (0+0) (C.fn 0 []))&&true) (.ask (decide (((ns.getD i.toNat []).getD (0+0) (C.fn 0 [])).toInt=id)) (.ret [C.int .i64 i]) (H [Pt.r,Pt.l,Pt.r,Pt.b] k (aQz (ns) (es) (os) (ss) (r) (x) (id) (IntKind.i64.wrap (i+(1:Int)))))))) (.ret [C.int .i64 (-1)])):T (List C)).eval:=aAc (by kernel_rfl)
theorem aJv {A:Type} (p:A→Bool):∀ (l:List A) (i:Nat),aCn p l i= -1∨((i:Int)≤aCn p l i∧aCn p l i<i+l.length)
 |[],i=>.inl rfl
 |x::r,i=>by
  simp only[aCn]
  split
  ·exact .inr ⟨Int.le_refl _,by simp;omega⟩
  ·rcases aJv p r (i+1)with h | h
   ·exact .inl h
   ·exact .inr ⟨by omega,by simp;omega⟩
theorem bJz (es:List En) (nm:List UInt8):aC2 es nm= -1∨(0≤aC2 es nm∧aC2 es nm<es.length):=by
 rcases aJv (bX2 nm) es 0 with h | h
 ·exact .inl h
 ·refine .inr ?_
  unfold aC2
  omega
theorem bPd (ns:List Nd) (id:Int):aCp ns id= -1∨(0≤aCp ns id∧aCp ns id<ns.length):=by
 rcases aJv (bXr id) ns 0 with h | h
 ·exact .inl h
 ·refine .inr ?_
  unfold aCp
  omega
theorem cB3:aA6 Tryz.prog bY5:=aA5 (by simp[])
theorem bA8:aAn Tryz.prog 163 (sg [aGo,pP] [rB]) aTy:=aA4 cB3 aA7 Tryz.func163 (by kernel_rfl) fun cs outs hk h=>by
 unfold aTy at h
 split at h
 ·simp only[Option.some.injEq,Prod.mk.injEq,true_and]at h
  subst h
  rename_i n i nm
  rw[aA9,bTx]
  simp only[aA1,aA2,beq_iff_eq]
  split<;>simp_all
 ·cases h
theorem cAo:aA6 Tryz.prog bY2:=aA5 (by simp[])
theorem aZz:aAn Tryz.prog 165 (sg [aO0,pP] [rB]) aTq:=aA4 cAo aA7 Tryz.func165 (by kernel_rfl) fun cs outs hk h=>by
 unfold aTq at h
 split at h
 ·simp only[Option.some.injEq,Prod.mk.injEq,true_and]at h
  subst h
  rw[aA9,bSq]
  simp only[aA1,aA2,decide_eq_true_eq]
  split<;>simp_all
 ·cases h
theorem bT4 (l:List En) (nm:List UInt8) (hl:l.length≤281474976710656):∀ (n i:Nat),i≤l.length→l.length<i+n →
  (aBf bNt aAa (sg [pSl 97,pF] [rI]) Tryz.f162 [.r,.l,.r,.b] n (bNi (l.map eEn) nm l.length i)).eval=some [.int .i64 (aCn (bX2 nm) (l.drop i) i)]:=by
 intro n
 induction n with
 |zero=>intro i h1 h2;omega
 |succ n ih =>
  intro i h1 h2
  rw[aAi _ _ _ _ _ _ _ (by kernel_rfl),bKt]
  by_cases hi:i<l.length
  ·have g:=aAv eEn l ⟨[],0⟩ i hi
   have w:IntKind.i64.wrap ((i:Int)+1)=((i+1:Nat):Int):=by rw[aAd]<;>omega
   have hz:(0:Int)≤i:=by omega
   have hi':(i:Int)<l.length:=by omega
   rw[aB9 l i ⟨[],0⟩ hi]
   generalize l.getD i ⟨[],0⟩=y at g ⊢
   simp only[aA0,aA1,aA2,if_true,decide_eq_true_eq,Bool.and_eq_true,w,hz,hi',Int.toNat_natCast,List.length_map,g,and_self,List.getD_cons_zero,List.getD_cons_succ,C.toStr,C.toInt,C.is,List.length_cons,List.length_nil,Nat.zero_add,Nat.reduceAdd,Nat.reduceLT,decide_true,beq_self_eq_true,aCn,bX2]
   by_cases hy:y.name=nm
   ·simp only[hy,if_true]
   ·simp only[hy,if_false]
    exact ih (i+1) (by omega) (by omega)
  ·have e:i=l.length:=by omega
   subst e
   have hi':¬((l.length:Int)<(l.length:Int)):=by omega
   simp only[aA1,aA2,decide_eq_true_eq,hi',if_false,List.drop_length,aCn]
theorem cAu:aA6 Tryz.prog bNt:=aA5 (by simp[bA8])
theorem bPo:aAn Tryz.prog 162 (sg [pSl 97,pF] [rI]) bCs:=aA4 cAu aA7 Tryz.func162 (by kernel_rfl) fun cs outs hk h=>by
 unfold bCs at h
 split at h
 ·simp only[Option.some.injEq,Prod.mk.injEq,Bool.and_eq_true,decide_eq_true_eq]at h
  obtain⟨⟨rfl,h1,h2⟩,rfl⟩:=h
  rename_i rows nm
  have hr:=aFc h2
  generalize ens rows=l at hr ⊢
  subst hr
  rw[List.length_map]at h1
  rw[aA9,bT3]
  have:=bT4 l nm h1 9223372036854775808 0 (by omega) (by have:l.length≤281474976710656:=h1;omega)
  rw[show (l.length:Int)=((l.map eEn).length:Int) by rw[List.length_map]]at this
  exact this
 ·cases h
theorem bT0 (l:List Nd) (id:Int) (hl:l.length≤281474976710656):∀ (n i:Nat),i≤l.length→l.length<i+n →
  (aBf bNs aAa (sg [pSl 70,pF] [rI]) Tryz.f164 [.r,.l,.r,.b] n (bNh (l.map eNd) id l.length i)).eval=some [.int .i64 (aCn (bXr id) (l.drop i) i)]:=by
 intro n
 induction n with
 |zero=>intro i h1 h2;omega
 |succ n ih =>
  intro i h1 h2
  rw[aAi _ _ _ _ _ _ _ (by kernel_rfl),bKs]
  by_cases hi:i<l.length
  ·have g:=aAv eNd l ⟨0,[],0⟩ i hi
   have w:IntKind.i64.wrap ((i:Int)+1)=((i+1:Nat):Int):=by rw[aAd]<;>omega
   have hz:(0:Int)≤i:=by omega
   have hi':(i:Int)<l.length:=by omega
   rw[aB9 l i ⟨0,[],0⟩ hi]
   generalize l.getD i ⟨0,[],0⟩=y at g ⊢
   simp only[aA0,aA1,aA2,if_true,decide_eq_true_eq,Bool.and_eq_true,w,hz,hi',Int.toNat_natCast,List.length_map,g,and_self,List.getD_cons_zero,List.getD_cons_succ,C.toStr,C.toInt,C.is,List.length_cons,List.length_nil,Nat.zero_add,Nat.reduceAdd,Nat.reduceLT,decide_true,beq_self_eq_true,aCn,bXr]
   by_cases hy:y.id=id
   ·simp only[hy,if_true]
   ·simp only[hy,if_false]
    exact ih (i+1) (by omega) (by omega)
  ·have e:i=l.length:=by omega
   subst e
   have hi':¬((l.length:Int)<(l.length:Int)):=by omega
   simp only[aA1,aA2,decide_eq_true_eq,hi',if_false,List.drop_length,aCn]
theorem cAt:aA6 Tryz.prog bNs:=aA5 (by simp[aZz])
theorem bPm:aAn Tryz.prog 164 (sg [pSl 70,pF] [rI]) bCq:=aA4 cAt aA7 Tryz.func164 (by kernel_rfl) fun cs outs hk h=>by
 unfold bCq at h
 split at h
 ·simp only[Option.some.injEq,Prod.mk.injEq,Bool.and_eq_true,decide_eq_true_eq]at h
  obtain⟨⟨rfl,h1,h2⟩,rfl⟩:=h
  rename_i rows id
  have hr:=aGt h2
  generalize nds rows=l at hr ⊢
  subst hr
  rw[List.length_map]at h1
  rw[aA9,bSz]
  have:=bT0 l id h1 9223372036854775808 0 (by omega) (by have:l.length≤281474976710656:=h1;omega)
  rw[show (l.length:Int)=((l.map eNd).length:Int) by rw[List.length_map]]at this
  exact this
 ·cases h
theorem bP7:aA6 Tryz.prog bAi:=aA5 (by simp[bA8,bPo])
theorem aYq:aAn Tryz.prog 124 (sg [pSl 97,pS] [rI]) aVy:=aA4 bP7 aA7 Tryz.func124 (by kernel_rfl) fun cs outs hk h=>by
 unfold aVy at h
 split at h
 ·simp only[Option.some.injEq,Prod.mk.injEq,Bool.and_eq_true,decide_eq_true_eq]at h
  obtain⟨⟨h1,h2⟩,rfl⟩:=h
  rw[aA9,bC7]
  simp only[kEn]at h2
  simp only[aA0,aA2,h1,h2,decide_true,Bool.and_self,if_true]
 ·cases h
theorem bSn:aA6 Tryz.prog bIa:=aA5 (by simp[aZz,bPm])
theorem bCc:aAn Tryz.prog 125 (sg [aB2,pI] [rI]) aH1:=aA4 bSn aA7 Tryz.func125 (by kernel_rfl) fun cs outs hk h=>by
 unfold aH1 at h
 split at h
 ·simp only[Option.some.injEq,Prod.mk.injEq,Bool.and_eq_true,decide_eq_true_eq]at h
  obtain⟨⟨h1,h2⟩,rfl⟩:=h
  rw[aA9,bG6]
  simp only[kNd]at h2
  simp only[aA0,aA2,h1,h2,decide_true,Bool.and_self,if_true]
 ·cases h
theorem cB2 (l:List En) (nm:List UInt8) (i:Nat) (hi:i<l.length):aCn (bX2 nm) (l.drop i) i=if (l.getD i ⟨[],0⟩).name=nm then (i:Int)else aCn (bX2 nm) (l.drop (i+1)) (i+1):=by
 rw[aB9 l i ⟨[],0⟩ hi]
 simp only[aCn,bX2,decide_eq_true_eq]
theorem cCi (l:List Nd) (id:Int) (i:Nat) (hi:i<l.length):aCn (bXr id) (l.drop i) i=if (l.getD i ⟨0,[],0⟩).id=id then (i:Int)else aCn (bXr id) (l.drop (i+1)) (i+1):=by
 rw[aB9 l i ⟨0,[],0⟩ hi]
 simp only[aCn,bXr,decide_eq_true_eq]
theorem bM5 (l:List En) (nm:List UInt8) (hl:l.length≤281474976710656):∀ (n i:Nat),i≤l.length→l.length<i+n→aC2 l nm=aCn (bX2 nm) (l.drop i) i →
  (aBf aUo aAa (sg [pSl 97,pS] [rI]) Tryz.f85 [.r,.l,.r,.b] n (aUb (l.map eEn) nm i)).eval=some [.int .i64 (aFx l nm)]:=by
 intro n
 induction n with
 |zero=>intro i h1 h2;omega
 |succ n ih =>
  intro i h1 h2 h3
  rw[aAi _ _ _ _ _ _ _ (by kernel_rfl),bE1]
  by_cases hi:i<l.length
  ·have g:=aAv eEn l ⟨[],0⟩ i hi
   have w:IntKind.i64.wrap ((i:Int)+1)=((i+1:Nat):Int):=by rw[aAd]<;>omega
   have hz:(0:Int)≤i:=by omega
   have hi':(i:Int)<l.length:=by omega
   rw[cB2 l nm i hi]at h3
   simp only[aA0,aA1,aA2,if_true,decide_eq_true_eq,Bool.and_eq_true,w,hz,hi',Int.toNat_natCast,List.length_map,g,and_self,List.getD_cons_zero,List.getD_cons_succ,C.toStr,C.toInt,C.is,List.length_cons,List.length_nil,Nat.zero_add,Nat.add_zero,Nat.reduceAdd,Nat.reduceLT,decide_true,beq_self_eq_true,beq_iff_eq]
   by_cases hy:(l.getD i ⟨[],0⟩).name=nm
   ·simp only[if_pos hy]at h3 ⊢
    have:¬((i:Int)<0):=by omega
    unfold aFx
    rw[h3,if_neg this,Int.toNat_natCast]
   ·simp only[if_neg hy]at h3 ⊢
    exact ih (i+1) (by omega) (by omega) h3
  ·have e:i=l.length:=by omega
   subst e
   have hi':¬((l.length:Int)<(l.length:Int)):=by omega
   rw[List.drop_length]at h3
   simp only[aA1,aA2,decide_eq_true_eq,hi',if_false,List.length_map]
   unfold aFx
   rw[h3]
   rfl
theorem bX1:aA6 Tryz.prog aUo:=aA5 (by simp[])
theorem bHp:aAn Tryz.prog 85 (sg [pSl 97,pS] [rI]) aX3:=aA4 bX1 aA7 Tryz.func85 (by kernel_rfl) fun cs outs hk h=>by
 unfold aX3 at h
 split at h
 ·simp only[Option.some.injEq,Prod.mk.injEq,Bool.and_eq_true,decide_eq_true_eq]at h
  obtain⟨⟨h1,h2⟩,rfl⟩:=h
  rename_i rows nm
  have hr:=aFc h2
  generalize ens rows=l at hr ⊢
  subst hr
  rw[List.length_map]at h1
  rw[aA9,bM4]
  exact bM5 l nm h1 9223372036854775808 0 (by omega) (by have:l.length≤281474976710656:=h1;omega) rfl
 ·cases h
theorem bLt (l:List En) (nm:List UInt8) (hl:l.length≤281474976710656):∀ (n i:Nat),i≤l.length→l.length<i+n→aC2 l nm=aCn (bX2 nm) (l.drop i) i →
  (aBf aUn aAa (sg [pSl 97,pS] [rB]) Tryz.f86 [.r,.l,.r,.b] n (aUa (l.map eEn) nm i)).eval=some [.bool (aZc l nm)]:=by
 intro n
 induction n with
 |zero=>intro i h1 h2;omega
 |succ n ih =>
  intro i h1 h2 h3
  rw[aAi _ _ _ _ _ _ _ (by kernel_rfl),bDk]
  by_cases hi:i<l.length
  ·have g:=aAv eEn l ⟨[],0⟩ i hi
   have w:IntKind.i64.wrap ((i:Int)+1)=((i+1:Nat):Int):=by rw[aAd]<;>omega
   have hz:(0:Int)≤i:=by omega
   have hi':(i:Int)<l.length:=by omega
   rw[cB2 l nm i hi]at h3
   simp only[aA0,aA1,aA2,if_true,decide_eq_true_eq,Bool.and_eq_true,w,hz,hi',Int.toNat_natCast,List.length_map,g,and_self,List.getD_cons_zero,List.getD_cons_succ,C.toStr,C.toInt,C.is,List.length_cons,List.length_nil,Nat.zero_add,Nat.add_zero,Nat.reduceAdd,Nat.reduceLT,decide_true,beq_self_eq_true,beq_iff_eq]
   by_cases hy:(l.getD i ⟨[],0⟩).name=nm
   ·simp only[if_pos hy]at h3 ⊢
    have:(0:Int)≤i:=by omega
    unfold aZc
    rw[h3,decide_eq_true this]
   ·simp only[if_neg hy]at h3 ⊢
    exact ih (i+1) (by omega) (by omega) h3
  ·have e:i=l.length:=by omega
   subst e
   have hi':¬((l.length:Int)<(l.length:Int)):=by omega
   rw[List.drop_length]at h3
   simp only[aA1,aA2,decide_eq_true_eq,hi',if_false,List.length_map]
   unfold aZc
   rw[h3]
   rfl
theorem bWt:aA6 Tryz.prog aUn:=aA5 (by simp[])
theorem bHa:aAn Tryz.prog 86 (sg [pSl 97,pS] [rB]) aWq:=aA4 bWt aA7 Tryz.func86 (by kernel_rfl) fun cs outs hk h=>by
 unfold aWq at h
 split at h
 ·simp only[Option.some.injEq,Prod.mk.injEq,Bool.and_eq_true,decide_eq_true_eq]at h
  obtain⟨⟨h1,h2⟩,rfl⟩:=h
  rename_i rows nm
  have hr:=aFc h2
  generalize ens rows=l at hr ⊢
  subst hr
  rw[List.length_map]at h1
  rw[aA9,bLs]
  exact bLt l nm h1 9223372036854775808 0 (by omega) (by have:l.length≤281474976710656:=h1;omega) rfl
 ·cases h
theorem bFg (l:List Nd) (es os ss:List (List C)) (r x id:Int) (hl:l.length≤281474976710656):∀ (n i:Nat),i≤l.length→l.length<i+n →
  (aBf aR5 aAa (sg [aB2,pI] [rI]) Tryz.f84 [.r,.l,.r,.b] n (aQz (l.map eNd) es os ss r x id i)).eval=some [.int .i64 (aCn (bXr id) (l.drop i) i)]:=by
 intro n
 induction n with
 |zero=>intro i h1 h2;omega
 |succ n ih =>
  intro i h1 h2
  rw[aAi _ _ _ _ _ _ _ (by kernel_rfl),aYm]
  by_cases hi:i<l.length
  ·have g:=aAv eNd l ⟨0,[],0⟩ i hi
   have w:IntKind.i64.wrap ((i:Int)+1)=((i+1:Nat):Int):=by rw[aAd]<;>omega
   have hz:(0:Int)≤i:=by omega
   have hi':(i:Int)<l.length:=by omega
   rw[cCi l id i hi]
   simp only[aA0,aA1,aA2,if_true,decide_eq_true_eq,Bool.and_eq_true,w,hz,hi',Int.toNat_natCast,List.length_map,g,and_self,List.getD_cons_zero,List.getD_cons_succ,C.toStr,C.toInt,C.is,List.length_cons,List.length_nil,Nat.zero_add,Nat.add_zero,Nat.reduceAdd,Nat.reduceLT,decide_true,beq_self_eq_true]
   by_cases hy:(l.getD i ⟨0,[],0⟩).id=id
   ·simp only[if_pos hy]
   ·simp only[if_neg hy]
    exact ih (i+1) (by omega) (by omega)
  ·have e:i=l.length:=by omega
   subst e
   have hi':¬((l.length:Int)<(l.length:Int)):=by omega
   simp only[aA1,aA2,decide_eq_true_eq,hi',if_false,List.drop_length,aCn,List.length_map]
theorem bRp:aA6 Tryz.prog aR5:=aA5 (by simp[])
theorem bBs:aAn Tryz.prog 84 (sg [aB2,pI] [rI]) aH1:=aA4 bRp aA7 Tryz.func84 (by kernel_rfl) fun cs outs hk h=>by
 unfold aH1 at h
 split at h
 ·simp only[Option.some.injEq,Prod.mk.injEq,Bool.and_eq_true,decide_eq_true_eq]at h
  obtain⟨⟨h1,h2⟩,rfl⟩:=h
  rename_i ns es os ss r x id
  have hr:=aGt h2
  generalize nds ns=l at hr ⊢
  subst hr
  rw[List.length_map]at h1
  rw[aA9,bFf]
  exact bFg l es os ss r x id h1 9223372036854775808 0 (by omega) (by have:l.length≤281474976710656:=h1;omega)
 ·cases h
theorem aTp {ns es:List (List C)}:bEs ns es=true↔ns.length≤bHv∧es.length≤bHv∧aAf kNd ns=true∧aAf kEn es=true:=by simp[bEs,and_assoc]
theorem bW0 (es:List En) (nm:List UInt8) (h:¬aC2 es nm<0):(aC2 es nm).toNat<es.length∧0≤aC2 es nm∧aC2 es nm<es.length:=by
 rcases bJz es nm with h1 | h1<;>omega
theorem bK6 (ns:List Nd) (id:Int) (h:¬aCp ns id<0):(aCp ns id).toNat<ns.length∧0≤aCp ns id∧aCp ns id<ns.length:=by
 rcases bPd ns id with h1 | h1<;>omega
theorem bSo:aA6 Tryz.prog bIb:=aA5 (by simp[aYq,bCc])
theorem bCd:aAn Tryz.prog 96 (sg [aB2,pS] [rI]) aRs:=aA4 bSo aA7 Tryz.func96 (by kernel_rfl) fun cs outs hk h=>by
 unfold aRs at h
 split at h
 ·simp only[Option.some.injEq,Prod.mk.injEq,aTp]at h
  obtain⟨⟨h1,h2,h3,h4⟩,rfl⟩:=h
  rename_i ns es os ss r x nm
  have hr:=aFc h4
  rw[aA9,bG7]
  simp only[kNd]at h3
  simp only[kEn]at h4
  simp only[aA0,aA1,aA2,h1,h2,h3,h4,decide_true,Bool.and_self,if_true]
  generalize ens es=l at hr ⊢
  subst hr
  unfold aDl
  simp only[decide_eq_true_eq,List.length_map]
  by_cases hp:aC2 l nm<0
  ·simp only[hp,if_true]
  ·obtain⟨c1,c2,c3⟩:=bW0 l nm hp
   have g:=aAv eEn l ⟨[],0⟩ (aC2 l nm).toNat c1
   unfold aFx
   simp only[hp,if_false,c2,c3,g,List.getD_cons_zero,List.getD_cons_succ,C.toStr,C.toInt,C.is,List.length_cons,List.length_nil,Nat.zero_add,Nat.add_zero,Nat.reduceAdd,Nat.reduceLT,decide_true,beq_self_eq_true,Bool.and_self,if_true]
 ·cases h
theorem bXq (l:List Nd) (i:Nat) (hi:i<l.length):(l.map eNd).getD i []=[.int .i64 (l.getD i ⟨0,[],0⟩).id,.str (l.getD i ⟨0,[],0⟩).text,.int .i64 (l.getD i ⟨0,[],0⟩).sure]:=aAv eNd l ⟨0,[],0⟩ i hi
theorem bH9 (es:List En) (nm:List UInt8):aZc es nm=true↔¬aC2 es nm<0:=by simp[aZc]
theorem bRq:aA6 Tryz.prog bI6:=aA5 (by simp[bHp,bHa,bBs])
theorem aPx:aAn Tryz.prog 50 (sg [aB2,pS] [aVu,rB]) aEx:=aA4 bRq aA7 Tryz.func50 (by kernel_rfl) fun cs outs hk h=>by
 unfold aEx at h
 split at h
 ·simp only[Option.some.injEq,Prod.mk.injEq,aTp]at h
  obtain⟨⟨h1,h2,h3,h4⟩,rfl⟩:=h
  rename_i ns es os ss r x nm
  have hr:=aGt h3
  rw[aA9,bFh]
  simp only[kNd]at h3
  simp only[kEn]at h4
  simp only[aA0,aA1,aA2,h1,h2,h3,h4,decide_true,Bool.and_self,if_true]
  generalize nds ns=l at hr ⊢
  subst hr
  generalize ens es=m
  unfold cBv aEg aLq aZb cA2 aDl
  simp only[decide_eq_true_eq,List.length_map]
  by_cases hp:aC2 m nm<0
  ·have he:aZc m nm=false:=by cases hh:aZc m nm with | false=>rfl | true=>exact absurd hp ((bH9 m nm).1 hh)
   have d1:(-1:Int)<0:=by decide
   have d2:¬(0:Int)≤ -1:=by decide
   simp only[he,hp,if_true,Bool.false_eq_true,if_false,ite_self,d1,d2,decide_false]
  ·have he:aZc m nm=true:=(bH9 m nm).2 hp
   by_cases hn:aCp l (aFx m nm)<0
   ·have:¬(0:Int)≤aCp l (aFx m nm):=by omega
    simp only[hp,hn,if_true,if_false,this,decide_false]
   ·obtain⟨c1,c2,c3⟩:=bK6 l (aFx m nm) hn
    have g:=bXq l (aCp l (aFx m nm)).toNat c1
    simp only[he,hp,hn,if_false,c2,c3,g,List.getD_cons_zero,List.getD_cons_succ,C.toStr,C.toInt,C.is,List.length_cons,List.length_nil,Nat.zero_add,Nat.add_zero,Nat.reduceAdd,Nat.reduceLT,decide_true,beq_self_eq_true,Bool.and_self,if_true]
 ·cases h
theorem bTa:aA6 Tryz.prog bIf:=aA5 (by simp[bCd])
theorem aQc:aAn Tryz.prog 58 (sg [aB2,pS] [aVu,rB]) aEx:=aA4 bTa aA7 Tryz.func58 (by kernel_rfl) fun cs outs hk h=>by
 unfold aEx at h
 split at h
 ·simp only[Option.some.injEq,Prod.mk.injEq]at h
  obtain⟨h0,rfl⟩:=h
  obtain⟨h1,h2,h3,h4⟩:=aTp.1 h0
  rename_i ns es os ss r x nm
  have hr:=aGt h3
  rw[aA9,bGy]
  simp only[aA0,h0,if_true]
  generalize nds ns=l at hr ⊢
  subst hr
  generalize ens es=m
  unfold cBv aEg aLq aZb cA2
  simp only[aA0,aA1,aA2,decide_eq_true_eq,List.length_map]
  by_cases hn:aDl l m nm<0
  ·have:¬(0:Int)≤aDl l m nm:=by omega
   simp only[hn,if_true,this,decide_false]
  ·have hp:¬aC2 m nm<0:=fun hp=>hn (by unfold aDl;rw[if_pos hp];decide)
   have e:aDl l m nm=aCp l (aFx m nm):=if_neg hp
   rw[e]at hn ⊢
   obtain⟨c1,c2,c3⟩:=bK6 l (aFx m nm) hn
   have g:=bXq l (aCp l (aFx m nm)).toNat c1
   simp only[hn,if_false,c2,c3,g,List.getD_cons_zero,List.getD_cons_succ,C.toStr,C.toInt,C.is,List.length_cons,List.length_nil,Nat.zero_add,Nat.add_zero,Nat.reduceAdd,Nat.reduceLT,decide_true,beq_self_eq_true,Bool.and_self,if_true]
 ·cases h
theorem bJ9:aA6 Tryz.prog aXm:=aA5 (by simp[aPx])
theorem aVh:aAn Tryz.prog 89 (sg [aB2,pS] [rS,rB]) aEv:=aA4 bJ9 aA7 Tryz.func89 (by kernel_rfl) fun cs outs hk h=>by
 unfold aEv at h
 split at h
 ·simp only[Option.some.injEq,Prod.mk.injEq]at h
  obtain⟨h0,rfl⟩:=h
  rw[aA9,aYi]
  simp only[aA0,aA1,aA2,h0,if_true]
  split<;>simp_all
 ·cases h
theorem bL8:aA6 Tryz.prog aXs:=aA5 (by simp[aQc])
theorem aWi:aAn Tryz.prog 119 (sg [aB2,pS] [rS,rB]) aEv:=aA4 bL8 aA7 Tryz.func119 (by kernel_rfl) fun cs outs hk h=>by
 unfold aEv at h
 split at h
 ·simp only[Option.some.injEq,Prod.mk.injEq]at h
  obtain⟨h0,rfl⟩:=h
  rw[aA9,aZ4]
  simp only[aA0,aA1,aA2,h0,if_true]
  split<;>simp_all
 ·cases h
theorem bRn:aA6 Tryz.prog bI4:=aA5 (by simp[aCx,aVh])
theorem aPu:aAn Tryz.prog 54 (sg [aB2,pI] [rS]) aFs:=aA4 bRn aA7 Tryz.func54 (by kernel_rfl) fun cs outs hk h=>by
 unfold aFs at h
 split at h
 ·simp only[Option.some.injEq,Prod.mk.injEq]at h
  obtain⟨h0,rfl⟩:=h
  rw[aA9,bFa]
  simp only[aA0,aA1,aA2,h0,if_true,aB8,ite_self]
 ·cases h
theorem bT8:aA6 Tryz.prog bId:=aA5 (by simp[aD1,aWi])
theorem bCz:aAn Tryz.prog 92 (sg [aB2,pI] [rS]) aFs:=aA4 bT8 aA7 Tryz.func92 (by kernel_rfl) fun cs outs hk h=>by
 unfold aFs at h
 split at h
 ·simp only[Option.some.injEq,Prod.mk.injEq]at h
  obtain⟨h0,rfl⟩:=h
  rw[aA9,bGt]
  simp only[aA0,aA1,aA2,h0,if_true,aB8,ite_self]
 ·cases h
noncomputable section
def aTs (l:Int) (r:List UInt8):Int:=(aAs (aIv l) (aAh r.length 4++r):Nat)
def aIf (l:Int) (rs:List (List UInt8)):Int:=rs.foldl aTs l
def aOi (b:List UInt8) (base link:Int):Bool:=aA8 b&&decide (rhB b=base)&&decide (rhL b=link)
def aQ8 (b:List UInt8):Int:=aIf (ifI (aA8 b) (rhL b)) (aAp b)
def aOu (n:Nat) (rows:List (List C)):Bool:=(aCb rows).all fun x=>decide (x.length≤n)
def aF0:aC3:=fun cs=>match cs with
 |[.int .i64 l,.str r]=>some (decide (r.length≤1048576),[.int .i64 (aTs l r)])
 |_=>none
def aP5:aC3:=fun cs=>match cs with
 |[.int .i64 l,.sl rows]=>some (decide (rows.length≤1048576)&&(aAf [.str] rows&&aOu 1048576 rows),[.int .i64 (aIf l (aCb rows))])
 |_=>none
def aH5:aC3:=fun cs=>match cs with
 |[.str b,.int .i64 base,.int .i64 link]=>some (decide (b.length≤1048576),[.bool (aOi b base link)])
 |_=>none
def aJq:aC3:=fun cs=>match cs with
 |[.str b]=>some (decide (b.length≤1048576),[.sl ((aAp b).map aB5)])
 |_=>none
def aJt:aC3:=fun cs=>match cs with
 |[.str b]=>some (decide (b.length≤1048576),[.int .i64 (aQ8 b)])
 |_=>none
def aN8 (l:Int) (r:List (List C)) (n i:Int):St:=st0 [(0,aAw l),(7,.l (.sl r)),(8,aAw n),(9,aAw i)]
def aI5 (ok mk:Bool) (v s q l e:Int) (n:Nat) (r:List (List C)) (m:Nat) (o:List (List C)) (acc i:Int):St:={slots:=[(3,.l (.ptr 0 0)),(4,aAw acc),(5,aAw i)],heap:=[(0,.box [.b ok,.i .i64 v,.i .i64 s,.i .i64 q,.i .i64 l,.ref 1 0 n,.ref 2 0 m,.i .i64 e,.b mk]),(1,.arr 1 r),(2,.arr 1 o)],next:=3,pins:=[]}
def aXn:Env:=mkE [] [(144,(sg [pI,pS] [rI]),aDx),(145,(sg [pI,pI] [rS]),aFj)]
def aXt:Env:=mkE [] [(160,(sg [pI,pS] [rI]),aDx),(161,(sg [pI,pI] [rS]),aFj)]
def aNr:Env:=mkE [(2,[0,7,8,9])] [(123,(sg [pI,pS] [rI]),aF0)]
def bI9:Env:=mkE [] [(112,(sg [pS] [bFx,rB]),aDe)]
def bIi:Env:=mkE [] [(120,(sg [pS] [bFx,rB]),aDe)]
def aSw:Env:=mkE [] [(90,(sg [pS] [aLl]),aGs)]
def aI7:Env:=mkE [(4,[3,4,5])] [(90,(sg [pS] [aLl]),aGs),(110,(sg [pI,pS] [rI]),aF0)]
abbrev Lk:=Int×List UInt8
def aGk (ns:List Nd) (es:List En):Nat→Int→Int→List Lk
 |0,_,_=>[]
 |f+1,base,sum =>
  if aOi (aB8 ns es base) base sum&&decide ((aAp (aB8 ns es base)).length≠0)then
   (base,aB8 ns es base)::aGk ns es f (base+(aAp (aB8 ns es base)).length) (aIf sum (aAp (aB8 ns es base)))
  else[]
def aCe (ns:List Nd) (es:List En):List Lk:=aGk ns es 16 0 0
abbrev eLk (x:Lk):List C:=[.int .i64 x.1,.str x.2,.bool (aA8 x.2),.int .i64 (ifI (aA8 x.2) (rhV x.2)),.int .i64 (ifI (aA8 x.2) (rhS x.2)),.int .i64 (ifI (aA8 x.2) (rhB x.2)),.int .i64 (ifI (aA8 x.2) (rhL x.2)),
 .sl ((aAp x.2).map aB5),.sl ((aEt x.2).map aF3),.int .i64 (bJ1 x.2),.bool (aV8 x.2)]
def aEi (l:List Lk):List (List C):=l.map eLk
def aBd (l:List Lk):List (List C):=l.map fun x=>aF3 x.1
def aI1 (ns es:List (List C)):Bool:=bEs ns es&&(nds ns).all fun x=>decide (x.text.length≤1048576)
def aQ6:aC3:=fun cs=>match cs with
 |[.sl ns,.sl es,.sl _,.sl _,.int .i64 _,.int .i64 _]=>some (aI1 ns es,[.sl (aEi (aCe (nds ns) (ens es)))])
 |_=>none
def aHk:aC3:=fun cs=>match cs with
 |[.sl ns,.sl es,.sl _,.sl _,.int .i64 _,.int .i64 _]=>some (aI1 ns es,[.sl (aBd (aCe (nds ns) (ens es)))])
 |_=>none
abbrev bHq (ns es os ss:List (List C)) (r x:Int):Blk:=.box [.sl ns,.sl es,.sl os,.sl ss,.i .i64 r,.i .i64 x]
def aU1 (ns es os ss:List (List C)) (r x:Int) (n:Nat) (o:List (List C)) (base sum:Int):St:={slots:=[(1,.l (.ptr 0 0)),(3,.l (.ref 1 0 n)),(4,aAw base),(5,aAw sum)],heap:=[(0,bHq ns es os ss r x),(1,.arr 11 o)],next:=2,pins:=[]}
def aU0 (ns es os ss:List (List C)) (r x:Int) (n:Nat) (o:List (List C)) (base sum:Int):St:={slots:=[(1,.l (.ptr 0 0)),(3,.l (.ref 1 0 n)),(4,aAw base),(5,aAw sum)],heap:=[(0,bHq ns es os ss r x),(1,.arr 1 o)],next:=2,pins:=[]}
def aUe:Env:=mkE [(3,[1,3,4,5])] [(93,(sg [pS] [aLl]),aGs),(92,(sg [aB2,pI] [rS]),aFs),(95,(sg [pI,pSl 9] [rI]),aP5),(94,(sg [pS,pI,pI] [rB]),aH5)]
def aUd:Env:=mkE [(4,[1,3,4,5])] [(54,(sg [aB2,pI] [rS]),aFs),(82,(sg [pS,pI,pI] [rB]),aH5),(76,(sg [pS] [rSl 9]),aJq),(83,(sg [pS] [rI]),aJt)]
end
theorem aYn (H:List Pt→Nat→St→T (List C)) (l:Int) (r:List UInt8):(aAg aXn aAa (sg [pI,pS] [rI]) Tryz.f110 H [C.int .i64 l,C.str r]).eval=((.must (decide ((-9223372036854775808:Int)≤(↑r.length:Int))&&decide ((↑r.length:Int)≤(9223372036854775807:Int))) (.must (decide ((aAh (↑r.length:Int) 4).length+r.length≤9223372036854775807)) (.must (decide ((aAh (↑r.length:Int) 4++r).length≤281474976710656)) (.ret [C.int .i64 (Int.ofNat (aAs (aIv l) (aAh (↑r.length:Int) 4++r)))])))):T (List C)).eval:=aAc (by kernel_rfl)
theorem aZ8 (H:List Pt→Nat→St→T (List C)) (l:Int) (r:List UInt8):(aAg aXt aAa (sg [pI,pS] [rI]) Tryz.f123 H [C.int .i64 l,C.str r]).eval=((.must (decide ((-9223372036854775808:Int)≤(↑r.length:Int))&&decide ((↑r.length:Int)≤(9223372036854775807:Int))) (.must (decide ((aAh (↑r.length:Int) 4).length+r.length≤9223372036854775807)) (.must (decide ((aAh (↑r.length:Int) 4++r).length≤281474976710656)) (.ret [C.int .i64 (Int.ofNat (aAs (aIv l) (aAh (↑r.length:Int) 4++r)))])))):T (List C)).eval:=aAc (by kernel_rfl)
theorem bCh (H:List Pt→Nat→St→T (List C)) (l:Int) (r:List (List C)):(aAg aNr aAa (sg [pI,pSl 9] [rI]) Tryz.f95 H [C.int .i64 l,C.sl r]).eval=((H [Pt.r,Pt.l,Pt.r,Pt.b] 9223372036854775808 (aN8 (l) (r) ((↑r.length:Int)) ((0:Int)))):T (List C)).eval:=aAc (by kernel_rfl)
theorem bFo (H:List Pt→Nat→St→T (List C)) (b:List UInt8) (x:Int) (l:Int):(aAg bI9 aAa (sg [pS,pI,pI] [rB]) Tryz.f82 H [C.str b,C.int .i64 x,C.int .i64 l]).eval=((.must (decide (b.length≤281474976710656)) (.ask (aA8 b) (.ask (decide (ifI (aA8 b) (rhB b)=x)) (.ask (decide (ifI (aA8 b) (rhL b)=l)) (.ret [C.bool true]) (.ret [C.bool false])) (.ret [C.bool false])) (.ret [C.bool false]))):T (List C)).eval:=aAc (by kernel_rfl)
theorem bH4 (H:List Pt→Nat→St→T (List C)) (b:List UInt8) (x:Int) (l:Int):(aAg bIi aAa (sg [pS,pI,pI] [rB]) Tryz.f94 H [C.str b,C.int .i64 x,C.int .i64 l]).eval=((.must (decide (b.length≤281474976710656)) (.ask (aA8 b) (.ask (decide (ifI (aA8 b) (rhB b)=x)) (.ask (decide (ifI (aA8 b) (rhL b)=l)) (.ret [C.bool true]) (.ret [C.bool false])) (.ret [C.bool false])) (.ret [C.bool false]))):T (List C)).eval:=aAc (by kernel_rfl)
theorem aVd (H:List Pt→Nat→St→T (List C)) (b:List UInt8):(aAg aSw aAa (sg [pS] [rSl 9]) Tryz.f76 H [C.str b]).eval=((.must (decide (b.length≤1048576)) (.must (decide (0<1)&&true&&(decide (0<1)&&true&&(decide (0<1)&&true&&(decide (0<1)&&true&&(decide (0<1)&&true&&((true&&(List.map aB5 (aAp b)).all fun row=>decide (row.length=1))&&((true&&(List.map aF3 (aEt b)).all fun row=>decide (row.length=1))&&(decide (0<1)&&true&&(decide (0<1)&&true&&true))))))))&&true&&true) (.must (decide ((List.map aB5 (aAp b)).length=(List.map aB5 (aAp b)).length)&&(false||(List.map aB5 (aAp b)).all fun r=>r.all C.flat)&&true&&true&&true) (.ret [C.sl (List.map aB5 (aAp b))])))):T (List C)).eval:=aAc (by kernel_rfl)
theorem aVl (H:List Pt→Nat→St→T (List C)) (b:List UInt8):(aAg aI7 aAa (sg [pS] [rI]) Tryz.f83 H [C.str b]).eval=((.must (decide (b.length≤1048576)) (.must (decide (0<1)&&true&&(decide (0<1)&&true&&(decide (0<1)&&true&&(decide (0<1)&&true&&(decide (0<1)&&true&&((true&&(List.map aB5 (aAp b)).all fun row=>decide (row.length=1))&&((true&&(List.map aF3 (aEt b)).all fun row=>decide (row.length=1))&&(decide (0<1)&&true&&(decide (0<1)&&true&&true))))))))&&true&&true) (H [Pt.r,Pt.r,Pt.r,Pt.l,Pt.r,Pt.b] 9223372036854775808 (aI5 (aA8 b) (aV8 b) (ifI (aA8 b) (rhV b)) (ifI (aA8 b) (rhS b)) (ifI (aA8 b) (rhB b)) (ifI (aA8 b) (rhL b)) (bJ1 b) ((List.map aB5 (aAp b)).length) (List.map aB5 (aAp b)) ((List.map aF3 (aEt b)).length) (List.map aF3 (aEt b)) (ifI (aA8 b) (rhL b)) ((0:Int)))))):T (List C)).eval:=aAc (by kernel_rfl)
theorem aW9 (H:List Pt→Nat→St→T (List C)) (l:Int) (r:List (List C)) (n:Int) (i:Int) (k:Nat):(aB1 aNr aAa (sg [pI,pSl 9] [rI]) Tryz.f95 H [Pt.r,Pt.l,Pt.r,Pt.b] k (aN8 l r n i)).eval=((.ask (decide (i<n)) (.must (decide ((0:Int)≤i)&&decide (i<(↑r.length:Int))&&decide ((r.getD i.toNat []).length=1)) (.must (decide (0<(r.getD i.toNat []).length)&&C.is K.str ((r.getD i.toNat []).getD 0 (C.fn 0 []))&&true) (.must (decide (((r.getD i.toNat []).getD 0 (C.fn 0 [])).toStr.length≤1048576)) (H [Pt.r,Pt.l,Pt.r,Pt.b] k (aN8 (aTs l ((r.getD i.toNat []).getD 0 (C.fn 0 [])).toStr) (r) (n) (IntKind.i64.wrap (i+(1:Int)))))))) (.ret [C.int .i64 l])):T (List C)).eval:=aAc (by kernel_rfl)
theorem aRm (H:List Pt→Nat→St→T (List C)) (ok:Bool) (mk:Bool) (v:Int) (s:Int) (q:Int) (l:Int) (e:Int) (n:Nat) (r:List (List C)) (m2:Nat) (o:List (List C)) (acc:Int) (i:Int) (k:Nat):(aB1 aI7 aAa (sg [pS] [rI]) Tryz.f83 H [Pt.r,Pt.r,Pt.r,Pt.l,Pt.r,Pt.b] k (aI5 ok mk v s q l e n r m2 o acc i)).eval=((.ask (decide (i<(↑n:Int))) (.must (decide ((0:Int)≤i)&&decide (i<(↑n:Int))) (.must (decide (0+i.toNat<r.length)&&(decide (0<(r.getD (0+i.toNat) []).length)&&C.is K.str ((r.getD (0+i.toNat) []).getD 0 (C.fn 0 []))&&true)) (.must (decide (((r.getD (0+i.toNat) []).getD 0 (C.fn 0 [])).toStr.length≤1048576)) (H [Pt.r,Pt.r,Pt.r,Pt.l,Pt.r,Pt.b] k (aI5 (ok) (mk) (v) (s) (q) (l) (e) (n) (r) (m2) (o) (aTs acc ((r.getD (0+i.toNat) []).getD 0 (C.fn 0 [])).toStr) (IntKind.i64.wrap (i+(1:Int)))))))) (.ret [C.int .i64 acc])):T (List C)).eval:=aAc (by kernel_rfl)
theorem bKc (H:List Pt→Nat→St→T (List C)) (ns:List (List C)) (es:List (List C)) (os:List (List C)) (ss:List (List C)) (r:Int) (x:Int):(aAg aUe aAa {params:=[aB2],results:=[rSl 86],nested:=true} Tryz.f57 H [C.sl ns,C.sl es,C.sl os,C.sl ss,C.int .i64 r,C.int .i64 x]).eval=((H [Pt.r,Pt.r,Pt.r,Pt.l,Pt.b] 9223372036854775808 (aU1 (ns) (es) (os) (ss) (r) (x) (0) ([]) ((0:Int)) ((0:Int)))):T (List C)).eval:=aAc (by kernel_rfl)
theorem bJo (H:List Pt→Nat→St→T (List C)) (ns:List (List C)) (es:List (List C)) (os:List (List C)) (ss:List (List C)) (r:Int) (x:Int):(aAg aUd aAa (sg [aB2] [rSl 3]) Tryz.f48 H [C.sl ns,C.sl es,C.sl os,C.sl ss,C.int .i64 r,C.int .i64 x]).eval=((H [Pt.r,Pt.r,Pt.r,Pt.r,Pt.l,Pt.b] 9223372036854775808 (aU0 (ns) (es) (os) (ss) (r) (x) (0) ([]) ((0:Int)) ((0:Int)))):T (List C)).eval:=aAc (by kernel_rfl)
theorem aQ7 (H:List Pt→Nat→St→T (List C)) (ns:List (List C)) (es:List (List C)) (os:List (List C)) (ss:List (List C)) (r:Int) (x:Int) (n:Nat) (o:List (List C)) (base:Int) (sum:Int) (k:Nat):(aB1 aUe aAa {params:=[aB2],results:=[rSl 86],nested:=true} Tryz.f57 H [Pt.r,Pt.r,Pt.r,Pt.l,Pt.b] k (aU1 ns es os ss r x n o base sum)).eval=((.ask (decide ((↑n:Int)<(16:Int))) (.must (bEs ns es) (.must (decide ((aB8 (nds ns) (ens es) base).length≤1048576)) (.must (decide (0<1)&&true&&(decide (0<1)&&true&&(decide (0<1)&&true&&(decide (0<1)&&true&&(decide (0<1)&&true&&((true&&(List.map aB5 (aAp (aB8 (nds ns) (ens es) base))).all fun row=>decide (row.length=1))&&((true&&(List.map aF3 (aEt (aB8 (nds ns) (ens es) base))).all fun row=>decide (row.length=1))&&(decide (0<1)&&true&&(decide (0<1)&&true&&true))))))))&&true&&true) (.must (decide ((aB8 (nds ns) (ens es) base).length≤1048576)) (.ask (aOi (aB8 (nds ns) (ens es) base) base sum) (.ask (decide ((↑(List.map aB5 (aAp (aB8 (nds ns) (ens es) base))).length:Int)=(0:Int))) (.must (decide (n=o.length)&&(true||o.all fun r=>r.all C.flat)&&true&&true&&true) (.ret [C.sl o])) (.must (decide (n=o.length)&&aBb (o.length+1) 128&&(decide (((((((((((Nat.add 1 0).succ.add 0).succ.add 0).succ.add 0).succ.add 0).succ.add 0).succ.add 0).succ.add 0).succ.add 0).succ.add 0).succ=11)&&true)) (.must (decide ((List.take (List.map aB5 (aAp (aB8 (nds ns) (ens es) base))).length (List.map aB5 (aAp (aB8 (nds ns) (ens es) base)))).length≤1048576)&&(aAf [K.str] (List.take (List.map aB5 (aAp (aB8 (nds ns) (ens es) base))).length (List.map aB5 (aAp (aB8 (nds ns) (ens es) base))))&&aOu 1048576 (List.take (List.map aB5 (aAp (aB8 (nds ns) (ens es) base))).length (List.map aB5 (aAp (aB8 (nds ns) (ens es) base)))))) (H [Pt.r,Pt.r,Pt.r,Pt.l,Pt.b] k (aU1 (ns) (es) (os) (ss) (r) (x) (o.length+1) (o.append [[C.int .i64 base,C.str (aB8 (nds ns) (ens es) base),C.bool (aA8 (aB8 (nds ns) (ens es) base)),C.int .i64 (ifI (aA8 (aB8 (nds ns) (ens es) base)) (rhV (aB8 (nds ns) (ens es) base))),C.int .i64 (ifI (aA8 (aB8 (nds ns) (ens es) base)) (rhS (aB8 (nds ns) (ens es) base))),C.int .i64 (ifI (aA8 (aB8 (nds ns) (ens es) base)) (rhB (aB8 (nds ns) (ens es) base))),C.int .i64 (ifI (aA8 (aB8 (nds ns) (ens es) base)) (rhL (aB8 (nds ns) (ens es) base))),C.sl (List.take (List.map aB5 (aAp (aB8 (nds ns) (ens es) base))).length (List.map aB5 (aAp (aB8 (nds ns) (ens es) base)))),C.sl (List.take (List.map aF3 (aEt (aB8 (nds ns) (ens es) base))).length (List.map aF3 (aEt (aB8 (nds ns) (ens es) base)))),C.int .i64 (bJ1 (aB8 (nds ns) (ens es) base)),C.bool (aV8 (aB8 (nds ns) (ens es) base))]]) (IntKind.i64.wrap (base+(↑(List.map aB5 (aAp (aB8 (nds ns) (ens es) base))).length:Int))) (aIf sum (aCb (List.take (List.map aB5 (aAp (aB8 (nds ns) (ens es) base))).length (List.map aB5 (aAp (aB8 (nds ns) (ens es) base))))))))))) (.must (decide (n=o.length)&&(true||o.all fun r=>r.all C.flat)&&true&&true&&true) (.ret [C.sl o]))))))) (.must (decide (n=o.length)&&(true||o.all fun r=>r.all C.flat)&&true&&true&&true) (.ret [C.sl o]))):T (List C)).eval:=aAc (by kernel_rfl)
theorem aPy (H:List Pt→Nat→St→T (List C)) (ns:List (List C)) (es:List (List C)) (os:List (List C)) (ss:List (List C)) (r:Int) (x:Int) (n:Nat) (o:List (List C)) (base:Int) (sum:Int) (k:Nat):(aB1 aUd aAa (sg [aB2] [rSl 3]) Tryz.f48 H [Pt.r,Pt.r,Pt.r,Pt.r,Pt.l,Pt.b] k (aU0 ns es os ss r x n o base sum)).eval=((.ask (decide ((↑n:Int)<(16:Int))) (.must (bEs ns es) (.must (decide ((aB8 (nds ns) (ens es) base).length≤1048576)) (.must ((true&&(List.map aB5 (aAp (aB8 (nds ns) (ens es) base))).all fun row=>decide (row.length=1))&&true&&true&&true) (.ask (decide ((↑(List.map aB5 (aAp (aB8 (nds ns) (ens es) base))).length:Int)=(0:Int))) (.must (decide (n=o.length)&&(false||o.all fun r=>r.all C.flat)&&true&&true&&true) (.ret [C.sl o])) (.must (decide ((aB8 (nds ns) (ens es) base).length≤1048576)) (.ask (aOi (aB8 (nds ns) (ens es) base) base sum) (.must (decide (n=o.length)&&aBb (o.length+1) 8&&(decide (1=1)&&true)) (.must (decide ((aB8 (nds ns) (ens es) base).length≤1048576)) (H [Pt.r,Pt.r,Pt.r,Pt.r,Pt.l,Pt.b] k (aU0 (ns) (es) (os) (ss) (r) (x) (o.length+1) (o.append [[C.int .i64 base]]) (IntKind.i64.wrap (base+(↑(List.map aB5 (aAp (aB8 (nds ns) (ens es) base))).length:Int))) (aQ8 (aB8 (nds ns) (ens es) base)))))) (.must (decide (n=o.length)&&(false||o.all fun r=>r.all C.flat)&&true&&true&&true) (.ret [C.sl o])))))))) (.must (decide (n=o.length)&&(false||o.all fun r=>r.all C.flat)&&true&&true&&true) (.ret [C.sl o]))):T (List C)).eval:=aAc (by kernel_rfl)
theorem bF9 (v p:Int) (b:List UInt8):∀ (f:Nat) (k e:Int) (rs:List (List UInt8)) (os:List Int),(rs.length:Int)≤e→e≤b.length→rs.length=os.length→(∀ r∈rs,r.length≤60) →
  ((aFp v p b f k e rs os).1.length:Int)≤b.length∧(aFp v p b f k e rs os).1.length=(aFp v p b f k e rs os).2.1.length∧∀ r∈(aFp v p b f k e rs os).1,r.length≤60:=by
 intro f
 induction f with
 |zero=>intro k e rs os h1 h2 h3 h4;exact⟨by simp only[aFp];omega,h3,h4⟩
 |succ f ih =>
  intro k e rs os h1 h2 h3 h4
  simp only[aFp]
  split
  ·exact⟨(show (rs.length:Int)≤b.length by omega),h3,h4⟩
  ·split
   ·rename_i hok
    obtain⟨g1,g2,g3⟩:=aQ3 _ _ _ _ hok
    refine ih _ _ _ _ (by simp;omega) g2 (by simp[h3]) fun r hr=>?_
    rcases List.mem_append.1 hr with hr | hr
    ·exact h4 r hr
    ·obtain rfl:=List.mem_singleton.1 hr
     unfold aRn
     rw[if_pos hok]
     unfold bFv at hok
     simp only[Bool.and_eq_true,decide_eq_true_eq]at hok
     unfold aQ2
     simp
     omega
   ·exact⟨(show (rs.length:Int)≤b.length by omega),h3,h4⟩
theorem aIp (b:List UInt8):(aAp b).length≤b.length∧(aAp b).length=(aEt b).length∧∀ r∈aAp b,r.length≤60:=by
 unfold aAp aEt aIq
 by_cases h:aA8 b=true
 ·rw[if_pos h]
  have h24:24≤b.length:=by
   unfold aA8 at h
   simp only[Bool.and_eq_true,decide_eq_true_eq]at h
   exact h.1.1
  obtain⟨a1,a2,a3⟩:=bF9 (rhV b) (rhB b) b (b.length+1) 0 24 [] [] (by simp) (by omega) rfl (fun r hr=>by cases hr)
  exact⟨by omega,a2,a3⟩
 ·rw[if_neg h]
  exact⟨by simp,rfl,fun r hr=>by cases hr⟩
theorem aJo (l:List (List UInt8)):((l.map aB5).all fun row=>decide (row.length=1))=true:=by simp
theorem aKp (l:List Int):((l.map aF3).all fun row=>decide (row.length=1))=true:=by simp
theorem aUy (n:Nat) (l:List (List UInt8)):aOu n (l.map aB5)=true↔∀ x∈l,x.length≤n:=by simp[aOu]
theorem bJi:aA6 Tryz.prog aXn:=aA5 (by simp[aO9,aEh])
theorem aVk:aAn Tryz.prog 110 (sg [pI,pS] [rI]) aF0:=aA4 bJi aA7 Tryz.func110 (by kernel_rfl) fun cs outs hk h=>by
 unfold aF0 at h
 split at h
 ·simp only[Option.some.injEq,Prod.mk.injEq,decide_eq_true_eq]at h
  obtain⟨h1,rfl⟩:=h
  rename_i l r
  rw[aA9,aYn]
  have l1:=aB7 (r.length:Int) 4
  have a1:(-9223372036854775808:Int)≤r.length:=by omega
  have a2:(r.length:Int)≤9223372036854775807:=by omega
  have a3:(aAh (r.length:Int) 4).length+r.length≤9223372036854775807:=by omega
  have a4:(aAh (r.length:Int) 4++r).length≤281474976710656:=by simp;omega
  simp only[aA0,aA2,a1,a2,a3,a4,decide_true,Bool.and_self,if_true]
  rfl
 ·cases h
theorem bLg:aA6 Tryz.prog aXt:=aA5 (by simp[aOf,aEj])
theorem aWk:aAn Tryz.prog 123 (sg [pI,pS] [rI]) aF0:=aA4 bLg aA7 Tryz.func123 (by kernel_rfl) fun cs outs hk h=>by
 unfold aF0 at h
 split at h
 ·simp only[Option.some.injEq,Prod.mk.injEq,decide_eq_true_eq]at h
  obtain⟨h1,rfl⟩:=h
  rename_i l r
  rw[aA9,aZ8]
  have l1:=aB7 (r.length:Int) 4
  have a1:(-9223372036854775808:Int)≤r.length:=by omega
  have a2:(r.length:Int)≤9223372036854775807:=by omega
  have a3:(aAh (r.length:Int) 4).length+r.length≤9223372036854775807:=by omega
  have a4:(aAh (r.length:Int) 4++r).length≤281474976710656:=by simp;omega
  simp only[aA0,aA2,a1,a2,a3,a4,decide_true,Bool.and_self,if_true]
  rfl
 ·cases h
theorem bCi (rs:List (List UInt8)) (h60:∀ x∈rs,x.length≤1048576) (hl:rs.length≤1048576):∀ (n i:Nat) (l:Int),i≤rs.length→rs.length<i+n →
  (aBf aNr aAa (sg [pI,pSl 9] [rI]) Tryz.f95 [.r,.l,.r,.b] n (aN8 l (rs.map aB5) rs.length i)).eval=some [.int .i64 (aIf l (rs.drop i))]:=by
 intro n
 induction n with
 |zero=>intro i l h1 h2;omega
 |succ n ih =>
  intro i l h1 h2
  rw[aAi _ _ _ _ _ _ _ (by kernel_rfl),aW9]
  by_cases hi:i<rs.length
  ·have g:=aAv aB5 rs [] i hi
   have w:IntKind.i64.wrap ((i:Int)+1)=((i+1:Nat):Int):=by rw[aAd]<;>omega
   have hz:(0:Int)≤i:=by omega
   have hi':(i:Int)<rs.length:=by omega
   have hm:rs.getD i []∈rs:=by rw[List.getD_eq_getElem?_getD,List.getElem?_eq_getElem hi];exact List.getElem_mem hi
   have hx:=h60 _ hm
   rw[aB9 rs i [] hi]
   generalize rs.getD i []=y at g hx ⊢
   simp only[aA0,aA1,aA2,if_true,decide_eq_true_eq,Bool.and_eq_true,w,hz,hi',Int.toNat_natCast,List.length_map,g,and_self,List.getD_cons_zero,C.toStr,C.is,List.length_cons,List.length_nil,Nat.zero_add,Nat.zero_lt_succ,hx]
   exact ih (i+1) _ (by omega) (by omega)
  ·have e:i=rs.length:=by omega
   subst e
   have hi':¬((rs.length:Int)<(rs.length:Int)):=by omega
   simp only[aA1,aA2,decide_eq_true_eq,hi',if_false,List.drop_length]
   rfl
theorem bPh:aA6 Tryz.prog aNr:=aA5 (by simp[aWk])
theorem aYs:aAn Tryz.prog 95 (sg [pI,pSl 9] [rI]) aP5:=aA4 bPh aA7 Tryz.func95 (by kernel_rfl) fun cs outs hk h=>by
 unfold aP5 at h
 split at h
 ·simp only[Option.some.injEq,Prod.mk.injEq,Bool.and_eq_true,decide_eq_true_eq]at h
  obtain⟨⟨h1,h2,h3⟩,rfl⟩:=h
  rename_i l rows
  have hr:=aDa h2
  generalize aCb rows=rs at hr ⊢
  subst hr
  rw[List.length_map]at h1
  rw[aUy]at h3
  rw[aA9,bCh]
  have:=bCi rs h3 h1 9223372036854775808 0 l (by omega) (by omega)
  rw[show (rs.length:Int)=((rs.map aB5).length:Int) by rw[List.length_map]]at this
  exact this
 ·cases h
theorem bRt:aA6 Tryz.prog bI9:=aA5 (by simp[aLf])
theorem bBv:aAn Tryz.prog 82 (sg [pS,pI,pI] [rB]) aH5:=aA4 bRt aA7 Tryz.func82 (by kernel_rfl) fun cs outs hk h=>by
 unfold aH5 at h
 split at h
 ·simp only[Option.some.injEq,Prod.mk.injEq,decide_eq_true_eq]at h
  obtain⟨h1,rfl⟩:=h
  rename_i b x l
  rw[aA9,bFo]
  have a1:b.length≤281474976710656:=by omega
  cases hr:aA8 b<;>simp[aA0,aA1,aA2,a1,aOi,hr,ifI]
  repeat' split
  all_goals simp_all
 ·cases h
theorem bTd:aA6 Tryz.prog bIi:=aA5 (by simp[aM2])
theorem bDe:aAn Tryz.prog 94 (sg [pS,pI,pI] [rB]) aH5:=aA4 bTd aA7 Tryz.func94 (by kernel_rfl) fun cs outs hk h=>by
 unfold aH5 at h
 split at h
 ·simp only[Option.some.injEq,Prod.mk.injEq,decide_eq_true_eq]at h
  obtain⟨h1,rfl⟩:=h
  rename_i b x l
  rw[aA9,bH4]
  have a1:b.length≤281474976710656:=by omega
  cases hr:aA8 b<;>simp[aA0,aA1,aA2,a1,aOi,hr,ifI]
  repeat' split
  all_goals simp_all
 ·cases h
theorem bFd:aA6 Tryz.prog aSw:=aA5 (by simp[aH9])
theorem aT7:aAn Tryz.prog 76 (sg [pS] [rSl 9]) aJq:=aA4 bFd aA7 Tryz.func76 (by kernel_rfl) fun cs outs hk h=>by
 unfold aJq at h
 split at h
 ·simp only[Option.some.injEq,Prod.mk.injEq,decide_eq_true_eq]at h
  obtain⟨h1,rfl⟩:=h
  rename_i b
  rw[aA9,aVd]
  have d1:decide (0<1)=true:=by decide
  simp only[aA0,aA2,h1,d1,aJo,aKp,aEl,decide_true,Bool.and_self,Bool.or_true,if_true]
 ·cases h
theorem aVm (rs:List (List UInt8)) (h60:∀ x∈rs,x.length≤60) (hl:rs.length≤1048576) (ok mk:Bool) (v s q l e:Int) (m:Nat) (o:List (List C)):∀ (n i:Nat) (acc:Int),i≤rs.length→rs.length<i+n →
  (aBf aI7 aAa (sg [pS] [rI]) Tryz.f83 [.r,.r,.r,.l,.r,.b] n (aI5 ok mk v s q l e rs.length (rs.map aB5) m o acc i)).eval=some [.int .i64 (aIf acc (rs.drop i))]:=by
 intro n
 induction n with
 |zero=>intro i l h1 h2;omega
 |succ n ih =>
  intro i acc h1 h2
  rw[aAi _ _ _ _ _ _ _ (by kernel_rfl),aRm]
  by_cases hi:i<rs.length
  ·have g:=aAv aB5 rs [] i hi
   have w:IntKind.i64.wrap ((i:Int)+1)=((i+1:Nat):Int):=by rw[aAd]<;>omega
   have hz:(0:Int)≤i:=by omega
   have hi':(i:Int)<rs.length:=by omega
   have hm:rs.getD i []∈rs:=by rw[List.getD_eq_getElem?_getD,List.getElem?_eq_getElem hi];exact List.getElem_mem hi
   have hx:(rs.getD i []).length≤1048576:=by have:=h60 _ hm;omega
   rw[aB9 rs i [] hi]
   generalize rs.getD i []=y at g hx ⊢
   simp only[aA0,aA1,aA2,if_true,decide_eq_true_eq,Bool.and_eq_true,w,hz,hi',hi,Int.toNat_natCast,List.length_map,Nat.zero_add,g,and_self,List.getD_cons_zero,C.toStr,C.is,List.length_cons,List.length_nil,Nat.zero_lt_succ,hx]
   exact ih (i+1) _ (by omega) (by omega)
  ·have e:i=rs.length:=by omega
   subst e
   have hi':¬((rs.length:Int)<(rs.length:Int)):=by omega
   simp only[aA1,aA2,decide_eq_true_eq,hi',if_false,List.drop_length]
   rfl
theorem bFk:aA6 Tryz.prog aI7:=aA5 (by simp[aH9,aVk])
theorem aTc:aAn Tryz.prog 83 (sg [pS] [rI]) aJt:=aA4 bFk aA7 Tryz.func83 (by kernel_rfl) fun cs outs hk h=>by
 unfold aJt at h
 split at h
 ·simp only[Option.some.injEq,Prod.mk.injEq,decide_eq_true_eq]at h
  obtain⟨h1,rfl⟩:=h
  rename_i b
  obtain⟨f1,f2,f3⟩:=aIp b
  rw[aA9,aVl]
  have d1:decide (0<1)=true:=by decide
  have lp:=aVm (aAp b) f3 (by omega) (aA8 b) (aV8 b) (ifI (aA8 b) (rhV b)) (ifI (aA8 b) (rhS b)) (ifI (aA8 b) (rhB b)) (ifI (aA8 b) (rhL b)) (bJ1 b) ((aEt b).map aF3).length ((aEt b).map aF3) 9223372036854775808 0 (ifI (aA8 b) (rhL b)) (by omega) (by omega)
  rw[show (aAp b).length=((aAp b).map aB5).length by rw[List.length_map]]at lp
  simp only[aA0,aA2,h1,d1,aJo,aKp,decide_true,Bool.and_self,if_true]
  exact lp
 ·cases h
theorem aVz {ns es:List (List C)} (h:aI1 ns es=true):bEs ns es=true:=by unfold aI1 at h;simp only[Bool.and_eq_true]at h;exact h.1
theorem aPo {ns es:List (List C)} (h:aI1 ns es=true) (base:Int):(aB8 (nds ns) (ens es) base).length≤1048576:=by
 unfold aI1 at h
 simp only[Bool.and_eq_true,List.all_eq_true,decide_eq_true_eq]at h
 unfold aB8 aEg cA2
 split
 ·simp
 ·rename_i hn
  have hp:¬aC2 (ens es) (aAm base)<0:=fun hp=>hn (by unfold aDl;rw[if_pos hp];decide)
  have e:aDl (nds ns) (ens es) (aAm base)=aCp (nds ns) (aFx (ens es) (aAm base)):=if_neg hp
  rw[e]at hn ⊢
  obtain⟨c1,c2,c3⟩:=bK6 _ _ hn
  refine h.2 _ ?_
  rw[List.getD_eq_getElem?_getD,List.getElem?_eq_getElem c1]
  exact List.getElem_mem c1
theorem cBc (l:List Lk) (x:Lk):(l.map eLk).append [eLk x]=(l++[x]).map eLk:=by simp
theorem bKd (ns es os ss:List (List C)) (r x:Int) (hd:aI1 ns es=true):∀ (k n:Nat) (l:List Lk) (base sum:Int),l.length+k=16→0≤base→base≤(l.length:Int)*1048576→k<n →
  (aBf aUe aAa (⟨[aB2],[rSl 86],true⟩) Tryz.f57 [.r,.r,.r,.l,.b] n (aU1 ns es os ss r x l.length (l.map eLk) base sum)).eval=some [.sl (aEi (l++aGk (nds ns) (ens es) k base sum))]:=by
 have hne:=aVz hd
 intro k
 induction k with
 |zero =>
  intro n l base sum h1 h2 h3 h4
  obtain⟨n,rfl⟩:∃ g,n=g+1:=⟨n-1,by omega⟩
  rw[aAi _ _ _ _ _ _ _ (by kernel_rfl),aQ7]
  have c:¬((l.length:Int)<16):=by omega
  simp only[aA0,aA1,aA2,decide_eq_true_eq,c,if_false,List.length_map,decide_true,Bool.true_or,Bool.and_self,if_true,aGk,List.append_nil]
  rfl
 |succ k ih =>
  intro n l base sum h1 h2 h3 h4
  obtain⟨n,rfl⟩:∃ g,n=g+1:=⟨n-1,by omega⟩
  rw[aAi _ _ _ _ _ _ _ (by kernel_rfl),aQ7]
  have c:((l.length:Int)<16):=by omega
  have ht:=aPo hd base
  simp only[aGk]
  generalize aB8 (nds ns) (ens es) base=t at ht ⊢
  obtain⟨f1,f2,f3⟩:=aIp t
  have d1:decide (0<1)=true:=by decide
  simp only[aA0,aA1,aA2,decide_eq_true_eq,c,if_true,hne,ht,d1,aJo,aKp,decide_true,Bool.and_self,Bool.true_or,List.length_map]
  cases hg:aOi t base sum with
  |false =>
   simp only[Bool.false_eq_true,if_false,Bool.false_and,List.append_nil]
   rfl
  |true =>
   by_cases h0:(aAp t).length=0
   ·have e0:((aAp t).length:Int)=0:=by omega
    simp only[e0,h0,if_true,ne_eq,not_true_eq_false,decide_false,Bool.and_false,Bool.false_eq_true,if_false,List.append_nil]
    rfl
   ·have e0:¬((aAp t).length:Int)=0:=by omega
    have ro:aBb (l.length+1) 128=true:=by simp only[aBb,decide_eq_true_eq];omega
    have tk:List.take (aAp t).length ((aAp t).map aB5)=(aAp t).map aB5:=by rw[List.take_of_length_le];simp
    have tk2:List.take (aEt t).length ((aEt t).map aF3)=(aEt t).map aF3:=by rw[List.take_of_length_le];simp
    have l1:(aAp t).length≤1048576:=by omega
    have tl:aOu 1048576 ((aAp t).map aB5)=true:=(aUy _ _).2 fun y hy=>by have:=f3 y hy;omega
    have w:IntKind.i64.wrap (base+((aAp t).length:Int))=base+(aAp t).length:=by rw[aAd]<;>omega
    have ap:=cBc l (base,t)
    have e:=ih n (l++[(base,t)]) (base+(aAp t).length) (aIf sum (aAp t)) (by simp;omega) (by omega) (by simp;omega) (by omega)
    simp only[List.length_append,List.length_cons,List.length_nil,Nat.zero_add,List.append_assoc,List.cons_append,List.nil_append]at e
    have e11:decide (((((((((((Nat.add 1 0).succ.add 0).succ.add 0).succ.add 0).succ.add 0).succ.add 0).succ.add 0).succ.add 0).succ.add 0).succ.add 0).succ=11)=true:=by decide
    simp only[e0,h0,if_false,ne_eq,not_false_eq_true,decide_true,Bool.and_self,if_true,ro,tk,tk2,List.length_map,l1,aEr,tl,w,aG3,e11]
    rw[←ap]at e
    exact e
theorem bW6:aA6 Tryz.prog aUe:=aA5 (by simp[aLz,bCz,aYs,bDe])
theorem aSp:aAn Tryz.prog 57 (⟨[aB2],[rSl 86],true⟩) aQ6:=aA4 bW6 aA7 Tryz.func57 (by kernel_rfl) fun cs outs hk h=>by
 unfold aQ6 at h
 split at h
 ·simp only[Option.some.injEq,Prod.mk.injEq]at h
  obtain⟨hd,rfl⟩:=h
  rename_i ns es os ss r x
  rw[aA9,bKc]
  exact bKd ns es os ss r x hd 16 9223372036854775808 [] 0 0 rfl (by omega) (by simp) (by omega)
 ·cases h
theorem bLu {b:List UInt8} {base link:Int} (h:aOi b base link=true):aQ8 b=aIf link (aAp b):=by
 unfold aOi at h
 simp only[Bool.and_eq_true,decide_eq_true_eq]at h
 unfold aQ8 ifI
 rw[h.1.1,if_pos rfl,h.2]
theorem bXd (l:List Lk) (x:Lk):(aBd l).append [[C.int .i64 x.1]]=aBd (l++[x]):=by simp[aBd]
theorem aLs (l:List Lk):(aBd l).length=l.length:=by simp[aBd]
theorem bA7 (l:List Lk):((aBd l).all fun r=>r.all C.flat)=true:=by simp[aBd,C.flat]
theorem bJp (ns es os ss:List (List C)) (r x:Int) (hd:aI1 ns es=true):∀ (k n:Nat) (l:List Lk) (base sum:Int),l.length+k=16→0≤base→base≤(l.length:Int)*1048576→k<n →
  (aBf aUd aAa (sg [aB2] [rSl 3]) Tryz.f48 [.r,.r,.r,.r,.l,.b] n (aU0 ns es os ss r x l.length (aBd l) base sum)).eval=some [.sl (aBd (l++aGk (nds ns) (ens es) k base sum))]:=by
 have hne:=aVz hd
 intro k
 induction k with
 |zero =>
  intro n l base sum h1 h2 h3 h4
  obtain⟨n,rfl⟩:∃ g,n=g+1:=⟨n-1,by omega⟩
  rw[aAi _ _ _ _ _ _ _ (by kernel_rfl),aPy]
  have c:¬((l.length:Int)<16):=by omega
  simp only[aA0,aA1,aA2,decide_eq_true_eq,c,if_false,aLs,bA7,decide_true,Bool.or_true,Bool.and_self,if_true,aGk,List.append_nil]
 |succ k ih =>
  intro n l base sum h1 h2 h3 h4
  obtain⟨n,rfl⟩:∃ g,n=g+1:=⟨n-1,by omega⟩
  rw[aAi _ _ _ _ _ _ _ (by kernel_rfl),aPy]
  have c:((l.length:Int)<16):=by omega
  have ht:=aPo hd base
  simp only[aGk]
  generalize aB8 (nds ns) (ens es) base=t at ht ⊢
  obtain⟨f1,f2,f3⟩:=aIp t
  simp only[aA0,aA1,aA2,decide_eq_true_eq,c,if_true,hne,ht,aJo,decide_true,Bool.and_self,aLs,bA7,Bool.or_true,List.length_map]
  by_cases h0:(aAp t).length=0
  ·have e0:((aAp t).length:Int)=0:=by omega
   simp only[e0,if_true]
   simp only[h0,ne_eq,not_true_eq_false,decide_false,Bool.and_false,Bool.false_eq_true,if_false,List.append_nil]
  ·have e0:¬((aAp t).length:Int)=0:=by omega
   cases hg:aOi t base sum with
   |false=>simp only[e0,Bool.false_eq_true,if_false,Bool.false_and,List.append_nil]
   |true =>
    have ro:aBb (l.length+1) 8=true:=by simp only[aBb,decide_eq_true_eq];omega
    have l1:(aAp t).length≤1048576:=by omega
    have w:IntKind.i64.wrap (base+((aAp t).length:Int))=base+(aAp t).length:=by rw[aAd]<;>omega
    have ap:=bXd l (base,t)
    have e:=ih n (l++[(base,t)]) (base+(aAp t).length) (aIf sum (aAp t)) (by simp;omega) (by omega) (by simp;omega) (by omega)
    simp only[List.length_append,List.length_cons,List.length_nil,Nat.zero_add,List.append_assoc,List.cons_append,List.nil_append]at e
    simp only[e0,h0,if_false,ne_eq,not_false_eq_true,decide_true,Bool.and_self,if_true,ro,w,bLu hg]
    rw[←ap]at e
    exact e
theorem bVe:aA6 Tryz.prog aUd:=aA5 (by simp[aPu,bBv,aT7,aTc])
theorem aSi:aAn Tryz.prog 48 (sg [aB2] [rSl 3]) aHk:=aA4 bVe aA7 Tryz.func48 (by kernel_rfl) fun cs outs hk h=>by
 unfold aHk at h
 split at h
 ·simp only[Option.some.injEq,Prod.mk.injEq]at h
  obtain⟨hd,rfl⟩:=h
  rename_i ns es os ss r x
  rw[aA9,bJo]
  exact bJp ns es os ss r x hd 16 9223372036854775808 [] 0 0 rfl (by omega) (by simp) (by omega)
 ·cases h
theorem aMc (ns:List Nd) (es:List En):∀ (k:Nat) (base sum:Int) (x:Lk),x∈aGk ns es k base sum→x.2=aB8 ns es x.1
 |0,_,_,_,h=>by cases h
 |k+1,base,sum,x,h=>by
  simp only[aGk]at h
  split at h
  ·rcases List.mem_cons.1 h with rfl | h
   ·rfl
   ·exact aMc ns es k _ _ x h
  ·cases h
theorem aEs (ns:List Nd) (es:List En):∀ (k:Nat) (base sum:Int),(aGk ns es k base sum).length≤k
 |0,_,_=>Nat.le_refl _
 |k+1,base,sum=>by
  simp only[aGk]
  split
  ·simp only[List.length_cons];have:=aEs ns es k (base+(aAp (aB8 ns es base)).length) (aIf sum (aAp (aB8 ns es base)));omega
  ·simp
theorem bN3 (l:List Lk) (i:Nat) (hi:i<l.length):(aBd l).getD i []=aF3 (l.getD i (0,[])).1:=aAv (fun x:Lk=>aF3 x.1) l (0,[]) i hi
theorem bTh (l:List Lk) (i:Nat) (hi:i<l.length):(aEi l).getD i []=eLk (l.getD i (0,[])):=aAv eLk l (0,[]) i hi
theorem bGf (l:List Lk):(aEi l).length=l.length:=by simp[aEi]
theorem bQl {ns es:List (List C)} (h:aI1 ns es=true):∀ y∈aCe (nds ns) (ens es),y.2.length≤1048576:=fun y hy=>by
 rw[aMc _ _ _ _ _ y hy];exact aPo h _
noncomputable section
def aIg (ns es os ss:List (List C)):Bool:=aBm 281474976710656 ns es os ss&&aBe ns es os ss&&aE6 ns es os ss
def aEf:aC3:=fun cs=>match cs with
 |[.sl ns,.sl es,.sl os,.sl ss,.int .i64 _,.int .i64 _,.int .i64 i]=>some (aIg ns es os ss&&(decide (-9223372036854775808≤i)&&decide (i≤9223372036854775807)),[.bool true])
 |_=>none
end
theorem aW1:∀ (l:List Nat) (x:Nat),x∈l→x≤l.sum
 |[],_,h=>by cases h
 |y::l,x,h=>by
  simp only[List.sum_cons]
  rcases List.mem_cons.1 h with rfl | h
  ·omega
  ·have:=aW1 l x h;omega
theorem aSg (ns:List Nd) (es os:List En) (ss:List (List UInt8)) (h:¬aKm ns es os ss 1048576<0) :
  ns.length≤1048576∧es.length≤1048576∧os.length≤1048576∧ss.length≤1048576∧(∀ x∈ns,x.text.length≤1048576)∧(∀ x∈es,x.name.length≤1048576)∧(∀ x∈os,x.name.length≤1048576)∧(∀ x∈ss,x.length≤1048576) ∧
  (ns.length:Int)+(((ns.map fun x=>x.text.length).sum:Nat):Int)≤1048576:=by
 unfold aKm at h
 generalize hA:aBn (ns.map fun x=>x.text.length) 1048576=A at h
 generalize hB:aIn (es.map fun x=>x.name.length) A=B at h
 generalize hC:aIn (os.map fun x=>x.name.length) B=D at h
 have hC0:¬D<0:=fun hn=>h (by unfold aIn;rw[if_pos hn];decide)
 have hB0:¬B<0:=fun hn=>hC0 (by rw[←hC];unfold aIn;rw[if_pos hn];decide)
 have hA0:¬A<0:=fun hn=>hB0 (by rw[←hB];unfold aIn;rw[if_pos hn];decide)
 have e4:aIn (ss.map List.length) D=aBn (ss.map List.length) D:=if_neg hC0
 have e3:aIn (os.map fun x=>x.name.length) B=aBn (os.map fun x=>x.name.length) B:=if_neg hB0
 have e2:aIn (es.map fun x=>x.name.length) A=aBn (es.map fun x=>x.name.length) A:=if_neg hA0
 rw[e4]at h
 rw[e3]at hC
 rw[e2]at hB
 have s1:=aMj (ns.map fun x=>x.text.length) 1048576 (by omega)
 have s2:=aMj (es.map fun x=>x.name.length) A (by omega)
 have s3:=aMj (os.map fun x=>x.name.length) B (by omega)
 have s4:=aMj (ss.map List.length) D (by omega)
 rw[hA]at s1
 rw[hB]at s2
 rw[hC]at s3
 simp only[List.length_map]at s1 s2 s3 s4
 have m1:∀ x∈ns,x.text.length≤(ns.map fun x=>x.text.length).sum:=fun x hx=>aW1 _ _ (List.mem_map.2 ⟨x,hx,rfl⟩)
 have m2:∀ x∈es,x.name.length≤(es.map fun x=>x.name.length).sum:=fun x hx=>aW1 _ _ (List.mem_map.2 ⟨x,hx,rfl⟩)
 have m3:∀ x∈os,x.name.length≤(os.map fun x=>x.name.length).sum:=fun x hx=>aW1 _ _ (List.mem_map.2 ⟨x,hx,rfl⟩)
 have m4:∀ x∈ss,x.length≤(ss.map List.length).sum:=fun x hx=>aW1 _ _ (List.mem_map.2 ⟨x,hx,rfl⟩)
 generalize (ns.map fun x=>x.text.length).sum=S1 at s1 m1 ⊢
 generalize (es.map fun x=>x.name.length).sum=S2 at s2 m2
 generalize (os.map fun x=>x.name.length).sum=S3 at s3 m3
 generalize (ss.map List.length).sum=S4 at s4 m4
 generalize aBn (ss.map List.length) D=Z at s4 h
 refine⟨by omega,by omega,by omega,by omega,fun x hx=>?_,fun x hx=>?_,fun x hx=>?_,fun x hx=>?_,by omega⟩
 ·have:=m1 x hx;omega
 ·have:=m2 x hx;omega
 ·have:=m3 x hx;omega
 ·have:=m4 x hx;omega
theorem bZ0 (ns:List (List C)):(nds ns).length=ns.length:=by simp[nds]
theorem aX4 (ns:List (List C)):(ens ns).length=ns.length:=by simp[ens]
theorem bV8 (ns:List (List C)):(aCb ns).length=ns.length:=by simp[aCb]
theorem aMl {ns es os ss:List (List C)} (hl:aIg ns es os ss=true) (h:¬aKm (nds ns) (ens es) (ens os) (aCb ss) 1048576<0) :
  aBm 281474976710656 ns es os ss=true∧aBe ns es os ss=true∧aE6 ns es os ss=true∧aBm 1048576 ns es os ss=true∧aI1 ns es=true:=by
 unfold aIg at hl
 simp only[Bool.and_eq_true]at hl
 obtain⟨⟨h1,h2⟩,h3⟩:=hl
 obtain⟨a1,a2,a3,a4,a5,_⟩:=aSg _ _ _ _ h
 rw[bZ0]at a1
 rw[aX4]at a2 a3
 rw[bV8]at a4
 refine⟨h1,h2,h3,aF5.2 ⟨a1,a2,a3,a4⟩,?_⟩
 obtain⟨k1,k2,k3,k4⟩:=aF4.1 h2
 obtain⟨l1,l2,_,_⟩:=aF5.1 h1
 unfold aI1
 simp only[Bool.and_eq_true,List.all_eq_true,decide_eq_true_eq]
 exact⟨aTp.2 ⟨l1,l2,k1,k2⟩,a5⟩
theorem aX5 {ns es os ss:List (List C)} (h:aBe ns es os ss=true) :
  (ns.all fun row=>decide (row.length=3))=true∧(es.all fun row=>decide (row.length=2))=true∧(os.all fun row=>decide (row.length=2))=true∧(ss.all fun row=>decide (row.length=1))=true:=by
 obtain⟨k1,k2,k3,k4⟩:=aF4.1 h
 exact⟨aGc k1,aGc k2,aGc k3,aGc k4⟩
theorem aX2 (ns es os ss:List (List C)) (r x:Int):bZg ns es os ss r x ns es os ss r x=true:=by simp[bZg]
noncomputable section
def bXv:bZu:=⟨144,5,130,131,132⟩
def bUa (g:FuncId):Option Func:=if g=130 then some Tryz.f130 else if g=131 then some Tryz.f131 else if g=132 then some Tryz.f132 else none
def cC9 (t:TypeId):Option TypeId:=if t=144 then some 5 else none
def cBa:TI:=⟨true,[.ptr,.slice 5],[(0,142),(1,107)],32,false⟩
def mkB (lv:List (Nat×List Nat)) (gs:Laws):Env:={mkE lv gs with inl:=bUa,bt:=cC9}
end
theorem bX7:tyB Tryz.prog 144 cBa=true:=by kernel_rfl
theorem bZn:∀ t e,cC9 t=some e→cBh Tryz.prog t:=by
 intro t e h
 unfold cC9 at h
 split at h
 ·rename_i ht
  subst ht
  exact⟨cBa,_,(bR7 bX7).1,rfl,rfl⟩
 ·cases h
theorem bNd:Tryz.prog.follows .mixedOrders=true:=by kernel_rfl
theorem bXa : (Tryz.f130.name == "runtime.NumGoroutine") = false := by kernel_rfl
theorem bX9 : (Tryz.f131.name == "runtime.NumGoroutine") = false := by kernel_rfl
theorem bX8 : (Tryz.f132.name == "runtime.NumGoroutine") = false := by kernel_rfl
theorem bHu {g : FuncId} {fn : Func} (h : bUa g = some fn) : Tryz.prog.funcs[g]? = some fn ∧ (fn.name == "runtime.NumGoroutine") = false := by
 unfold bUa at h
 split at h
 ·rename_i hg;subst hg;obtain rfl:=Option.some.inj h;exact⟨Tryz.func130,bXa⟩
 ·split at h
  ·rename_i hg;subst hg;obtain rfl:=Option.some.inj h;exact⟨Tryz.func131,bX9⟩
  ·split at h
   ·rename_i hg;subst hg;obtain rfl:=Option.some.inj h;exact⟨Tryz.func132,bX8⟩
   ·cases h
theorem bGa {lv:List (Nat×List Nat)} {gs:Laws} (h:∀ p,p∈gs→aAn Tryz.prog p.1 p.2.1 p.2.2):aA6 Tryz.prog (mkB lv gs) :=
 ⟨⟨(aZn aMi).1,fun g fn hh=>(bHu hh).1,fun t m e te h1 h2=>bMe aXb t m e te h1 h2,bTf bDm,bZn⟩,fun g sig spec hl=>h (g,sig,spec) (aEz hl),fun g fn hh=>(bHu hh).2,bNd⟩
theorem bJr {P:Program} {w:World} (t u ty e:TypeId) (i:TypeInfo) (ht:P.underlying t=some (.slice e)) (hu:P.underlying u=some .string) (hi:P.info? e=some i) (hz:i.zero=some (.int .u8 0)) (hsize:i.size=1) (hby:i.bytes=1)
  (v:Value) (bs:List UInt8) (hv:(v=.slice none 0 0∧bs=[])∨∃ g cur,v=.slice (some ⟨g,0,none⟩) bs.length cur.size∧w.heap[g]? =some (.cells cur e (0,0))∧bs.length≤cur.size∧cur.size≤maxLen∧cur.toList.take bs.length=aBu bs)
  (s:ByteArray) (hl:bs.length+s.size≤140737488355328) (h0:0<bs.length+s.size) :
  ∃ g' cur' w',(Builtin.append_ #[t,u] ty #[v,.string s]).run P w=.ok (.slice (some ⟨g',0,none⟩) (bs++s.data.toList).length cur'.size) w'∧w'.heap[g']? =some (.cells cur' e (0,0))∧(bs++s.data.toList).length≤cur'.size∧cur'.size≤maxLen ∧
   cur'.toList.take (bs++s.data.toList).length=aBu (bs++s.data.toList)∧(w.heap.size≤g'∨∃ n c,v=.slice (some ⟨g',0,none⟩) n c)∧w.heap.size≤w'.heap.size∧w'.os=w.os∧w'.output=w.output ∧
   ∀ k,k<w.heap.size→(∀ n c,v≠.slice (some ⟨k,0,none⟩) n c)→w'.heap[k]? =w.heap[k]? :=by
 have hsl:s.data.toList.length=s.size:=Array.length_toList
 have hll:(bs++s.data.toList).length=bs.length+s.size:=by rw[List.length_append,hsl]
 have hbv:aBu bs++Lib.strCells s=aBu (bs++s.data.toList):=by simp[aBu,Lib.strCells]
 have h63:bs.length+s.size≤maxLen:=by unfold maxLen;omega
 have fin:∀ base v' w',(Builtin.append_ #[t,u] ty #[v,.string s]).run P w=.ok v' w'→w'.ownsRow base e 1 v' (bs.length+s.size) (aBu bs++Lib.strCells s)→∃ g' cur',base≤g'∧v'=.slice (some ⟨g',0,none⟩) (bs++s.data.toList).length cur'.size∧w'.heap[g']? =some (.cells cur' e (0,0))∧(bs++s.data.toList).length≤cur'.size∧cur'.size≤maxLen ∧
   cur'.toList.take (bs++s.data.toList).length=aBu (bs++s.data.toList):=by
  rintro base v' w' hr ⟨_,hown⟩
  rcases hown with⟨_,hz0⟩ | ⟨g',cap,cur',rfl,hb,hg,h1,h2,h3,h4⟩
  ·omega
  ·obtain rfl:cur'.size=cap:=by omega
   rw[hbv]at h4
   exact⟨g',cur',hb,by rw[hll],hg,by rw[hll];exact h1,h2,by rw[hll];simpa using h4⟩
 rcases hv with⟨rfl,rfl⟩ | ⟨g,cur,rfl,hg,h1,h2,h3⟩
 ·obtain⟨v',w',hr,hown,hgr,_⟩:=Lib.run_append_own_string (P:=P) w w.heap.size t u ty e i ht hu hi hz hsize hby (.slice none 0 0) 0 [] (World.ownsRow_nil _ _ _ _) s (by simpa using h63) (by simpa using hl) (Nat.le_refl _)
  obtain⟨g',cur',hb,rfl,q1,q2,q3,q4⟩:=fin w.heap.size v' w' hr (by simpa[aBu]using hown)
  exact⟨g',cur',w',hr,q1,q2,q3,q4,.inl hb,hgr.size,hgr.os,hgr.output,fun k hk _=>hgr.block k hk (by simp[Value.ownBlock])⟩
 ·have hown0:w.ownsRow 0 e 1 (.slice (some ⟨g,0,none⟩) bs.length cur.size) bs.length (aBu bs):=⟨by simp[aBu],.inr ⟨g,cur.size,cur,rfl,Nat.zero_le _,hg,h1,h2,by simp,by simpa using h3⟩⟩
  obtain⟨v',w',hr,hown,hgr,_⟩:=Lib.run_append_own_string (P:=P) w 0 t u ty e i ht hu hi hz hsize hby _ _ _ hown0 s h63 hl (Nat.zero_le _)
  obtain⟨g',cur',hb,rfl,q1,q2,q3,q4⟩:=fin 0 v' w' hr hown
  refine⟨g',cur',w',hr,q1,q2,q3,q4,?_,hgr.size,hgr.os,hgr.output,fun k hk hne=>hgr.block k hk (fun he=>?_)⟩
  ·by_cases hroom:bs.length+s.size≤cur.size
   ·have hr2:=Lib.run_append_room_string (P:=P) w t u ty e i ht hu hi hsize g bs.length cur.size cur hg s hroom hroom
    rw[hr]at hr2
    injection hr2 with hr2 _
    injection hr2 with hr2 _ _
    exact .inr ⟨bs.length,cur.size,by rw[hr2]⟩
   ·have hr2:=Lib.run_append_grow_string (P:=P) w t u ty e i (.int .u8 0) ht hu hi hz ⟨g,0,none⟩ bs.length cur.size (aBu bs) (by simp[aBu,hsize]) (hown0.cells (g:=g) rfl) s (by omega) (by omega) (by rw[hby];exact growslice_fits (by omega) (by omega))
    rw[hr]at hr2
    injection hr2 with hr2 _
    injection hr2 with hr2 _ _
    injection hr2 with hr2
    injection hr2 with hr2 _ _
    exact .inl (by omega)
  ·simp only[Value.ownBlock,Option.some.injEq]at he
   exact hne bs.length cur.size (by rw[he])
theorem aXx {P:Program} {w:World} {ops:Array Oper} {rest:List Oper} {o:Oper} {a:Act} {Q:Exit→Act→World→Prop} (hgd:o.guard=none) (sl x:Operand) (t u:TypeId)
  (ho:o.op=.call {callee:=.builtin .append,args:=#[sl,x],argTypes:=#[t,u]})
  (e:TypeId) (i:TypeInfo) (ht:P.underlying t=some (.slice e)) (hu:P.underlying u=some .string) (hi:P.info? e=some i) (hz:i.zero=some (.int .u8 0)) (hsize:i.size=1) (hby:i.bytes=1)
  (v:Value) (bs:List UInt8) (hs:a.eval sl=v) (hv:(v=.slice none 0 0∧bs=[])∨∃ g cur,v=.slice (some ⟨g,0,none⟩) bs.length cur.size∧w.heap[g]? =some (.cells cur e (0,0))∧bs.length≤cur.size∧cur.size≤maxLen∧cur.toList.take bs.length=aBu bs)
  (s:ByteArray) (hx:a.eval x=.string s) (hl:bs.length+s.size≤140737488355328) (h0:0<bs.length+s.size)
  (h:∀ g' cur' w',w'.heap[g']? =some (.cells cur' e (0,0))→(bs++s.data.toList).length≤cur'.size→cur'.size≤maxLen →
   cur'.toList.take (bs++s.data.toList).length=aBu (bs++s.data.toList)→(w.heap.size≤g'∨∃ n c,v=.slice (some ⟨g',0,none⟩) n c)→w.heap.size≤w'.heap.size→w'.os=w.os→w'.output=w.output →
   (∀ k,k<w.heap.size→(∀ n c,v≠.slice (some ⟨k,0,none⟩) n c)→w'.heap[k]? =w.heap[k]?)→wpList P ops Q rest (a.put o.dst (.slice (some ⟨g',0,none⟩) (bs++s.data.toList).length cur'.size)) w'):wpList P ops Q (o::rest) a w:=by
 refine wpList_plain hgd fun K hK=>?_
 obtain⟨g',cur',w',hr,q1,q2,q3,q4,q5,q6,q7,q8,q9⟩:=bJr (P:=P) (w:=w) t u o.type e i ht hu hi hz hsize hby v bs hv s hl h0
 unfold Oper.wp execOp
 simp only[ho,resolve,invoke,builtin,Sem.run_bind,Sem.run_pure,Result.andThen_ok,List.map_toArray,List.map_cons,List.map_nil,hs,hx,hr]
 exact hK _ _ (h g' cur' w' q1 q2 q3 q4 q5 q6 q7 q8 q9)
theorem bU8:∃ j,Tryz.prog.info? 144=some j∧j.size=2:=Option.map_eq_some_iff.1 (by kernel_rfl:(Tryz.prog.info? 144).map (·.size)=some 2)
theorem bZo:liesAt Tryz.prog Tryz.prog.depth 144 (2 / Tryz.prog.cellsOf 144) 0 144 1=true:=by kernel_rfl
theorem bNc:∃ i,Tryz.prog.info? 5=some i∧i.zero=some (.int .u8 0)∧i.size=1∧i.bytes=1:=by
 obtain⟨i,h1,h2⟩:=Option.map_eq_some_iff.1 (by kernel_rfl:(Tryz.prog.info? 5).map (fun i=>(i.zero,i.size,i.bytes))=some (some (.int .u8 0),1,1))
 simp only[Prod.mk.injEq]at h2
 exact⟨i,h1,h2⟩
set_option maxHeartbeats 1000000 in
set_option maxRecDepth 100000 in
theorem bQk (b:Nat) (w:World) (h0:w.cell? ⟨b,0,none⟩=some (.pointer (some ⟨b,0,none⟩))) :
  Calls Tryz.prog 173 #[.pointer (some ⟨b,0,none⟩)] w fun e w'=>e=.returned (.tuple #[])∧w'=w:=by
 obtain⟨j,hj,_⟩:=bU8
 go_enter Tryz.func173,Tryz.ntmps173
 go_wp2
 rw[Lib.run_neq_ptr_same w _ Tryz.underlying142 hj]
 go_wp2
 go_end0
 exact⟨rfl,rfl⟩
set_option maxHeartbeats 1000000 in
set_option maxRecDepth 100000 in
theorem bMa (b:Nat) (w:World) (h0:w.cell? ⟨b,0,none⟩=some (.pointer none)) (hsh:w.shape? b=some (144,2)) (hfz:w.frozen? ⟨b,0,none⟩=false) :
  Calls Tryz.prog 173 #[.pointer (some ⟨b,0,none⟩)] w fun e w'=>e=.returned (.tuple #[])∧w'=w.setCell ⟨b,0,none⟩ (.pointer (some ⟨b,0,none⟩)):=by
 obtain⟨j,hj,hjs⟩:=bU8
 go_enter Tryz.func173,Tryz.ntmps173
 go_wp2
 rw[Lib.run_to_unsafe w ⟨b,0,none⟩ Tryz.underlying142 Tryz.underlying193 hj (by rw[hjs];decide) hsh (Nat.zero_lt_succ 1)]
 simp only[Result.andThen]
 rw[Oper.upon_value]
 go_wp2
 rw[run_callFunc_extern Tryz.func196 (by kernel_rfl) (by kernel_rfl) (by kernel_rfl) (e:=Extern.AbiNoEscape.same) (by kernel_rfl)]
 rw[Lib.run_noEscape]
 simp only[Result.andThen]
 rw[Oper.upon_value]
 go_wp2
 rw[Lib.run_from_unsafe w ⟨b,0,none⟩ Tryz.underlying193 Tryz.underlying142 hj hsh bZo]
 simp only[Result.andThen]
 rw[Oper.upon_value]
 go_wp2
 go_end0
 exact⟨rfl,rfl⟩
theorem bU6 (b:Nat) (p u:Value) (w:World) (hb:w.heap[b]? =some (.cells #[p,u] 144 (0,0))) (hp:p=.pointer none∨p=.pointer (some ⟨b,0,none⟩)) :
  Calls Tryz.prog 173 #[.pointer (some ⟨b,0,none⟩)] w fun e w'=>e=.returned (.tuple #[])∧w'.heap[b]? =some (.cells #[.pointer (some ⟨b,0,none⟩),u] 144 (0,0))∧w'.heap.size=w.heap.size∧w'.os=w.os∧w'.output=w.output ∧
   ∀ k,k≠b→w'.heap[k]? =w.heap[k]? :=by
 have c0:w.cell? ⟨b,0,none⟩=some p:=by rw[Lib.cell_of_heap hb];rfl
 rcases hp with rfl | rfl
 ·refine (bMa b w c0 (by simp[World.shape?,hb]) (Lib.frozen_of_heap hb 0)).mono ?_
  rintro e w' ⟨rfl,rfl⟩
  refine⟨rfl,?_,by simp[World.setCell],rfl,rfl,fun k hk=>RowKit.Below.heap_setCell _ _ _ _ (fun e=>hk (by simp[e]))⟩
  simp[World.setCell,Array.getElem?_modify,hb]
 ·refine (bQk b w c0).mono ?_
  rintro e w' ⟨rfl,rfl⟩
  exact⟨rfl,hb,rfl,rfl,rfl,fun _ _=>rfl⟩
set_option maxHeartbeats 1000000 in
set_option maxRecDepth 100000 in
theorem bZm (b:Nat) (p:Value) (a:Option Addr) (n m:Nat) (w:World) (hb:w.heap[b]? =some (.cells #[p,.slice a n m] 144 (0,0))) :
  Calls Tryz.prog 131 #[.pointer (some ⟨b,0,none⟩)] w fun e w'=>e=.returned (.int .i64 n)∧w'=w:=by
 have c1:w.cell? ⟨b,1,none⟩=some (.slice a n m):=by rw[Lib.cell_of_heap hb];rfl
 go_enter Tryz.func131,Tryz.ntmps131
 go_wp2
 go_ret
 exact⟨rfl,rfl⟩
theorem bLv (w:World) (g n:Nat) (cur:Array Value) (t:TypeId) (h:w.heap[g]? =some (.cells cur t (0,0))):(w.freeze ⟨g,0,none⟩ n).heap.size=w.heap.size∧(w.freeze ⟨g,0,none⟩ n).os=w.os∧(w.freeze ⟨g,0,none⟩ n).output=w.output ∧
  (∃ fr,(w.freeze ⟨g,0,none⟩ n).heap[g]? =some (.cells cur t fr))∧∀ k,k≠g→(w.freeze ⟨g,0,none⟩ n).heap[k]? =w.heap[k]? :=by
 unfold World.freeze
 split
 ·exact⟨rfl,rfl,rfl,⟨_,h⟩,fun _ _=>rfl⟩
 ·refine⟨by simp,rfl,rfl,?_,fun k hk=>?_⟩
  ·simp only[Array.getElem?_modify,if_true,h,Option.map_some]
   exact⟨_,rfl⟩
  ·simp only[Array.getElem?_modify]
   rw[if_neg (fun e=>hk e.symm)]
set_option maxHeartbeats 2000000 in
set_option maxRecDepth 100000 in
theorem cB9 (b:Nat) (p u:Value) (bs:List UInt8) (s:ByteArray) (w:World) (hb:w.heap[b]? =some (.cells #[p,u] 144 (0,0))) (hp:p=.pointer none∨p=.pointer (some ⟨b,0,none⟩)) (hu:bZt bXv w b u bs)
  (hl:bs.length+s.size≤140737488355328) (h0:0<bs.length+s.size) :
  Calls Tryz.prog 130 #[.pointer (some ⟨b,0,none⟩),.string s] w fun e w'=>∃ y,e=.returned (.tuple #[.int .i64 s.size,y])∧w.heap.size≤w'.heap.size∧w'.os=w.os∧w'.output=w.output ∧
   ∃ g' cur',w'.heap[b]? =some (.cells #[.pointer (some ⟨b,0,none⟩),.slice (some ⟨g',0,none⟩) (bs++s.data.toList).length cur'.size] 144 (0,0))∧g'≠b∧w'.heap[g']? =some (.cells cur' 5 (0,0)) ∧
    (bs++s.data.toList).length≤cur'.size∧cur'.size≤maxLen∧cur'.toList.take (bs++s.data.toList).length=aBu (bs++s.data.toList)∧(w.heap.size≤g'∨∃ n c,u=.slice (some ⟨g',0,none⟩) n c) ∧
    ∀ k,k<w.heap.size→k≠b→(∀ n c,u≠.slice (some ⟨k,0,none⟩) n c)→w'.heap[k]? =w.heap[k]? :=by
 obtain⟨i0,hi,hz0,hz1,hz2⟩:=bNc
 have hlt:b<w.heap.size:=by
  rcases Nat.lt_or_ge b w.heap.size with h' | h'
  ·exact h'
  ·simp[Array.getElem?_eq_none h']at hb
 go_enter Tryz.func130,Tryz.ntmps130
 go_wp2_with (go_at_call 173;refine (bU6 b p u _ hb hp).mono ?_)
 rintro e w1 ⟨rfl,hb1,hs1,ho1,hout1,hk1⟩
 have c0:w1.cell? ⟨b,0,none⟩=some (.pointer (some ⟨b,0,none⟩)):=by rw[Lib.cell_of_heap hb1];rfl
 have c1:w1.cell? ⟨b,1,none⟩=some u:=by rw[Lib.cell_of_heap hb1];rfl
 have hu1:(u=.slice none 0 0∧bs=[])∨∃ g cur,u=.slice (some ⟨g,0,none⟩) bs.length cur.size∧w1.heap[g]? =some (.cells cur 5 (0,0))∧bs.length≤cur.size∧cur.size≤maxLen∧cur.toList.take bs.length=aBu bs:=by
  rcases hu with h | ⟨g,cur,h1,h2,h3,h4,h5,h6⟩
  ·exact .inl h
  ·exact .inr ⟨g,cur,h1,by rw[hk1 g h2];exact h3,h4,h5,h6⟩
 have hub:∀ n c,u≠.slice (some ⟨b,0,none⟩) n c:=by
  intro n c he
  rcases hu with⟨h,_⟩ | ⟨g,cur,h1,h2,_⟩
  ·rw[h]at he;cases he
  ·rw[h1]at he
   injection he with he _ _
   injection he with he
   injection he with he _ _
   exact h2 he
 go_wp2_with (at_builtin;refine aXx rfl _ _ 107 9 rfl 5 i0 Tryz.underlying107 Tryz.underlying9 hi hz0 hz1 hz2 _ bs rfl hu1 s rfl hl h0 ?_)
 intro g' cur' w2 q1 q2 q3 q4 q5 q6 q7 q8 q9
 have hb2:w2.heap[b]? =some (.cells #[.pointer (some ⟨b,0,none⟩),u] 144 (0,0)):=by
  rw[q9 b (by omega) hub]
  exact hb1
 have d0:w2.cell? ⟨b,0,none⟩=some (.pointer (some ⟨b,0,none⟩)):=by rw[Lib.cell_of_heap hb2];rfl
 have d1:w2.cell? ⟨b,1,none⟩=some u:=by rw[Lib.cell_of_heap hb2];rfl
 have f1:w2.frozen? ⟨b,1,none⟩=false:=Lib.frozen_of_heap hb2 1
 have hgb:g'≠b:=fun e=>by
  subst e
  rw[hb2]at q1
  simp only[Option.some.injEq,Obj.cells.injEq]at q1
  exact absurd q1.2.1 (by decide)
 have hbl:(bs++s.data.toList).length=bs.length+s.size:=by rw[List.length_append];rfl
 go_wp2
 go_ret2
 refine⟨_,rfl,by simp[World.setCell];omega,q7,q8,g',cur',?_,hgb,?_,by rw[hbl];exact q2,q3,by rw[hbl];exact q4,?_,?_⟩
 ·simp[World.setCell,Array.getElem?_modify,hb2]
 ·rw[RowKit.Below.heap_setCell _ _ _ _ hgb]
  exact q1
 ·exact q5
 ·intro k hk hkb hku
  rw[RowKit.Below.heap_setCell _ _ _ _ hkb,q9 k (by omega) hku,hk1 k hkb]
set_option maxHeartbeats 1000000 in
set_option maxRecDepth 100000 in
theorem bZl (b:Nat) (p:Value) (g:Nat) (cur:Array Value) (bs:List UInt8) (w:World) (hb:w.heap[b]? =some (.cells #[p,.slice (some ⟨g,0,none⟩) bs.length cur.size] 144 (0,0))) (hgb:g≠b) (hg:w.heap[g]? =some (.cells cur 5 (0,0)))
  (h1:bs.length≤cur.size) (h2:cur.size≤maxLen) (h3:cur.toList.take bs.length=aBu bs) (h0:0<bs.length) :
  Calls Tryz.prog 132 #[.pointer (some ⟨b,0,none⟩)] w fun e w'=>e=.returned (.string ⟨bs.toArray⟩)∧w'.heap.size=w.heap.size∧w'.os=w.os∧w'.output=w.output∧(∃ fr,w'.heap[g]? =some (.cells cur 5 fr))∧∀ k,k≠g→w'.heap[k]? =w.heap[k]? :=by
 have hbn:bs≠[]:=fun h=>by rw[h]at h0;simp at h0
 have hown:w.drew.ownsRow 0 5 1 (.slice (some ⟨g,0,none⟩) bs.length cur.size) bs.length (aBu bs):=⟨by simp[aBu],.inr ⟨g,cur.size,cur,rfl,Nat.zero_le _,hg,h1,h2,by simp,by simpa using h3⟩⟩
 have c1:w.drew.cell? ⟨b,1,none⟩=some (.slice (some ⟨g,0,none⟩) bs.length cur.size):=by
  have:w.drew.heap[b]? =some (.cells #[p,.slice (some ⟨g,0,none⟩) bs.length cur.size] 144 (0,0)):=hb
  rw[Lib.cell_of_heap this];rfl
 have hSD:(Builtin.unsafeSliceData_ #[107] 179 #[.slice (some ⟨g,0,none⟩) bs.length cur.size]).run Tryz.prog w.drew=.ok (.pointer (some ⟨g,0,none⟩)) w.drew :=
  Lib.run_unsafeSliceData_row _ _ _ _ _ _ (by omega)
 have hUS:(Builtin.unsafeString_ #[179,3] 9 #[.pointer (some ⟨g,0,none⟩),.int .i64 bs.length]).run Tryz.prog w.drew=.ok (.string ⟨bs.toArray⟩) (w.drew.freeze ⟨g,0,none⟩ bs.length):=by
  refine Lib.run_unsafeString_row w.drew 179 3 9 5 Tryz.underlying179 (by kernel_rfl) g cur.size (by have hg':w.drew.heap[g]? =some (.cells cur 5 (0,0)):=hg;simp[World.shape?,hg']) bs hbn (by omega) (by unfold maxLen at h2;omega) ?_
  intro j x hx
  exact hown.cells (g:=g) rfl j (.int .u8 x.toNat) (by simp[aBu,hx])
 go_enter Tryz.func132,Tryz.ntmps132
 go_wp2
 go_region
 all_goals (go_wp2;go_ret;exact⟨rfl,bLv w.drew g _ cur _ hg⟩)
theorem bU9:bUr Tryz.prog bXv:=⟨fun b p u bs s w h1 h2 h3 h4 h5=>cB9 b p u bs s w h1 h2 h3 h4 h5,fun b p a n m w h=>bZm b p a n m w h,fun b p g cur bs w h1 h2 h3 h4 h5 h6 h7=>bZl b p g cur bs w h1 h2 h3 h4 h5 h6 h7⟩
noncomputable section
abbrev pE:PTy:=.val false [.err]
abbrev rE:RTy:=⟨false,[(.err,false)]⟩
def aX9:aC3:=fun cs=>match cs with
 |[.str s]=>some (decide (s.length≤281474976710656),[.str s])
 |_=>none
def bTs (g:FuncId):Option Func:=if g=177 then some Tryz.f177 else if g=178 then some Tryz.f178 else none
def cAq (lv:List (Nat×List Nat)) (gs:Laws):Env:={mkE lv gs with inl:=bTs}
def aUv:aC3:=fun cs=>match cs with
 |[.str _,.str s,.int .i64 _,.int .i64 _,.err x]=>some (decide (x=.int 180 .i64 1∨x=.int 180 .i64 2)&&decide (s.length≤281474976710656),[.err .any])
 |_=>none
def aXj:Env:=cAq [] [(198,(sg [pS] [rS]),aX9)]
def aMr (c:Nat):Nat:=c|||32
def aVv (c:Nat):Nat:=if 48≤c∧c≤57 then c-48 else if 97≤aMr c∧aMr c≤102 then aMr c-87 else 16
def bFz:List UInt8→Nat→Nat×Int
 |[],n=>(n,0)
 |c::r,n=>if aVv c.toNat<16 then (if 4294967295<n*16+aVv c.toNat then (4294967295,1)else bFz r (n*16+aVv c.toNat))else (0,2)
def pu (l:List UInt8):Nat×Int:=if l=[]then (0,2)else bFz l 0
def aTe (l:List UInt8):Int:=(pu l).1
def aRp (l:List UInt8):Int:=(pu l).2
def bUw (n:Int):Er:=if n=0 then .nil else .int 180 .i64 n
def bLz (n:Int):Er:=if n=0 then .nil else .any
def aW8:aC3:=fun cs=>match cs with
 |[.int .u8 c]=>some (decide (0≤c)&&decide (c<256),[.int .u8 (aMr c.toNat:Nat)])
 |_=>none
def bJx:aC3:=fun cs=>match cs with
 |[.str s,.int .i64 b,.int .i64 z]=>some (decide (b=16)&&(decide (z=32)&&decide (s.length≤1048576)),[.int .u64 (aTe s),.err (bUw (aRp s))])
 |_=>none
def bSa:aC3:=fun cs=>match cs with
 |[.str s,.int .i64 b,.int .i64 z]=>some (decide (b=16)&&(decide (z=32)&&decide (s.length≤1048576)),[.int .u64 (aTe s),.err (bLz (aRp s))])
 |_=>none
abbrev bC5:RTy:=⟨false,[(.int .u64,false)]⟩
def bEe (s:List UInt8) (mx n:Int) (ln:Nat) (l:Int) (r:List (List C)) (i:Int):St:=st1 [(1,aAw 16),(8,.l (.b false)),(9,bEp s),(10,.l (.i .u64 1152921504606846976)),(11,.l (.i .u64 mx)),(12,.l (.b false)),(13,.l (.i .u64 n)),(99,.l (.ref 0 0 ln)),(100,aAw l),(101,aAw i)] 1 r
def bNp:Env:=mkE [] []
def bUj:Env:=mkE [(36,[1,8,9,10,11,12,13,99,100,101])] [(175,(sg [pU8] [rU8]),aW8)]
def cBf:Env:=mkE [] [(136,(sg [pS,pS,pI,pI,pE] [rE]),aUv),(135,(sg [pS,pI,pI] [bC5,rE]),bJx)]
end
theorem bIu (H : List Pt → Nat → St → T (List C)) (a : List UInt8) (s : List UInt8) (b : Int) (c : Int) : (aAg aXj (bT6 aXj (2 : Nat)) (sg [pS, pS, pI, pI, pE] [rE]) Tryz.f136 H
  [C.str a, C.str s, C.int IntKind.i64 b, C.int IntKind.i64 c, C.err (Er.int (180 : TypeId) IntKind.i64 (1 : Int))]).eval =
 ((.must (decide (s.length ≤ (281474976710656 : Nat)))
 (.ret [C.err Er.any])) : T (List C)).eval := aAc (by kernel_rfl)
theorem bIt (H : List Pt → Nat → St → T (List C)) (a : List UInt8) (s : List UInt8) (b : Int) (c : Int) : (aAg aXj (bT6 aXj (2 : Nat)) (sg [pS, pS, pI, pI, pE] [rE]) Tryz.f136 H
  [C.str a, C.str s, C.int IntKind.i64 b, C.int IntKind.i64 c, C.err (Er.int (180 : TypeId) IntKind.i64 (2 : Int))]).eval =
 ((.must (decide (s.length ≤ (281474976710656 : Nat)))
 (.ret [C.err Er.any])) : T (List C)).eval := aAc (by kernel_rfl)
theorem bK9 (H:List Pt→Nat→St→T (List C)) (c:Int):(aAg bNp aAa (sg [pU8] [rU8]) Tryz.f175 H [C.int .u8 c]).eval=((.ret [C.int .u8 (ior .u8 c 32)]):T (List C)).eval:=aAc (by kernel_rfl)
theorem bVo (H:List Pt→Nat→St→T (List C)) (s:List UInt8):(aAg bUj aAa (sg [pS,pI,pI] [bC5,rE]) Tryz.f135 H [C.str s,C.int .i64 16,C.int .i64 32]).eval=((.ask (s==[]) (.ret [C.int .u64 0,C.err (Er.int 180 .i64 2)]) (H [Pt.r,Pt.r,Pt.r,Pt.r,Pt.r,Pt.r,Pt.r,Pt.r,Pt.r,Pt.r,Pt.r,Pt.l,Pt.r,Pt.b] 9223372036854775808 ({slots:=[(1,W.l (L.i .i64 ((16:Int)))),(8,W.l (L.b false)),(9,W.l (L.s s)),(10,W.l (L.i .u64 1152921504606846976)),(11,W.l (L.i .u64 (IntKind.u64.wrap (aXw .u64 1 (IntKind.u64.wrap ((32:Int)))-(1:Int))))),(12,W.l (L.b false)),(13,W.l (L.i .u64 0)),(99,W.l (L.ref 0 0 s.length)),(100,W.l (L.i .i64 (↑s.length:Int))),(101,W.l (L.i .i64 0))],heap:=[(0,Blk.arr 1 (aAb s))],next:=1,pins:=[]}))):T (List C)).eval:=aAc (by kernel_rfl)
theorem bP5 (H:List Pt→Nat→St→T (List C)) (s:List UInt8) (mx:Int) (n:Int) (ln:Nat) (l:Int) (r:List (List C)) (i:Int) (k:Nat):(aB1 bUj aAa (sg [pS,pI,pI] [bC5,rE]) Tryz.f135 H [Pt.r,Pt.r,Pt.r,Pt.r,Pt.r,Pt.r,Pt.r,Pt.r,Pt.r,Pt.r,Pt.r,Pt.l,Pt.r,Pt.b] k (bEe s mx n ln l r i)).eval=((.ask (decide (i<l)) (.must (decide ((0:Int)≤i)&&decide (i<(↑ln:Int))) (.must (decide (0+i.toNat<r.length)&&(decide (0<(r.getD (0+i.toNat) []).length)&&C.is (K.int .u8) ((r.getD (0+i.toNat) []).getD 0 (C.fn 0 []))&&true)) (.ask (decide (((r.getD (0+i.toNat) []).getD 0 (C.fn 0 [])).toInt=(95:Int))) (.ask (decide ((48:Int)≤((r.getD (0+i.toNat) []).getD 0 (C.fn 0 [])).toInt)) (.ask (decide (((r.getD (0+i.toNat) []).getD 0 (C.fn 0 [])).toInt≤(57:Int))) (.ask (decide (IntKind.u8.wrap 16≤IntKind.u8.wrap (((r.getD (0+i.toNat) []).getD 0 (C.fn 0 [])).toInt-(48:Int)))) (.ret [C.int .u64 0,C.err (Er.int 180 .i64 2)]) (.ask (decide ((1152921504606846976:Int)≤n)) (.ret [C.int .u64 mx,C.err (Er.int 180 .i64 1)]) (.ask (decide (IntKind.u64.wrap (IntKind.u64.wrap (n*IntKind.u64.wrap 16)+IntKind.u64.wrap (IntKind.u8.wrap (((r.getD (0+i.toNat) []).getD 0 (C.fn 0 [])).toInt-(48:Int))))<IntKind.u64.wrap (n*IntKind.u64.wrap 16))) (.ret [C.int .u64 mx,C.err (Er.int 180 .i64 1)]) (.ask (decide (mx<IntKind.u64.wrap (IntKind.u64.wrap (n*IntKind.u64.wrap 16)+IntKind.u64.wrap (IntKind.u8.wrap (((r.getD (0+i.toNat) []).getD 0 (C.fn 0 [])).toInt-(48:Int)))))) (.ret [C.int .u64 mx,C.err (Er.int 180 .i64 1)]) (H [Pt.r,Pt.r,Pt.r,Pt.r,Pt.r,Pt.r,Pt.r,Pt.r,Pt.r,Pt.r,Pt.r,Pt.l,Pt.r,Pt.b] k (bEe (s) (mx) (IntKind.u64.wrap (IntKind.u64.wrap (n*IntKind.u64.wrap 16)+IntKind.u64.wrap (IntKind.u8.wrap (((r.getD (0+i.toNat) []).getD 0 (C.fn 0 [])).toInt-(48:Int))))) (ln) (l) (r) (IntKind.i64.wrap (i+(1:Int))))))))) (.must (decide ((0:Int)≤((r.getD (0+i.toNat) []).getD 0 (C.fn 0 [])).toInt)&&decide (((r.getD (0+i.toNat) []).getD 0 (C.fn 0 [])).toInt<(256:Int))) (.ask (decide ((97:Int)≤Int.ofNat (aMr ((r.getD (0+i.toNat) []).getD 0 (C.fn 0 [])).toInt.toNat))) (.must (decide ((0:Int)≤((r.getD (0+i.toNat) []).getD 0 (C.fn 0 [])).toInt)&&decide (((r.getD (0+i.toNat) []).getD 0 (C.fn 0 [])).toInt<(256:Int))) (.ask (decide (Int.ofNat (aMr ((r.getD (0+i.toNat) []).getD 0 (C.fn 0 [])).toInt.toNat)≤(122:Int))) (.must (decide ((0:Int)≤((r.getD (0+i.toNat) []).getD 0 (C.fn 0 [])).toInt)&&decide (((r.getD (0+i.toNat) []).getD 0 (C.fn 0 [])).toInt<(256:Int))) (.ask (decide (IntKind.u8.wrap 16≤IntKind.u8.wrap (IntKind.u8.wrap (Int.ofNat (aMr ((r.getD (0+i.toNat) []).getD 0 (C.fn 0 [])).toInt.toNat)-(97:Int))+(10:Int)))) (.ret [C.int .u64 0,C.err (Er.int 180 .i64 2)]) (.ask (decide ((1152921504606846976:Int)≤n)) (.ret [C.int .u64 mx,C.err (Er.int 180 .i64 1)]) (.ask (decide (IntKind.u64.wrap (IntKind.u64.wrap (n*IntKind.u64.wrap 16)+IntKind.u64.wrap (IntKind.u8.wrap (IntKind.u8.wrap (Int.ofNat (aMr ((r.getD (0+i.toNat) []).getD 0 (C.fn 0 [])).toInt.toNat)-(97:Int))+(10:Int))))<IntKind.u64.wrap (n*IntKind.u64.wrap 16))) (.ret [C.int .u64 mx,C.err (Er.int 180 .i64 1)]) (.ask (decide (mx<IntKind.u64.wrap (IntKind.u64.wrap (n*IntKind.u64.wrap 16)+IntKind.u64.wrap (IntKind.u8.wrap (IntKind.u8.wrap (Int.ofNat (aMr ((r.getD (0+i.toNat) []).getD 0 (C.fn 0 [])).toInt.toNat)-(97:Int))+(10:Int)))))) (.ret [C.int .u64 mx,C.err (Er.int 180 .i64 1)]) (H [Pt.r,Pt.r,Pt.r,Pt.r,Pt.r,Pt.r,Pt.r,Pt.r,Pt.r,Pt.r,Pt.r,Pt.l,Pt.r,Pt.b] k (bEe (s) (mx) (IntKind.u64.wrap (IntKind.u64.wrap (n*IntKind.u64.wrap 16)+IntKind.u64.wrap (IntKind.u8.wrap (IntKind.u8.wrap (Int.ofNat (aMr ((r.getD (0+i.toNat) []).getD 0 (C.fn 0 [])).toInt.toNat)-(97:Int))+(10:Int))))) (ln) (l) (r) (IntKind.i64.wrap (i+(1:Int)))))))))) (.ret [C.int .u64 0,C.err (Er.int 180 .i64 2)]))) (.ret [C.int .u64 0,C.err (Er.int 180 .i64 2)])))) (.must (decide ((0:Int)≤((r.getD (0+i.toNat) []).getD 0 (C.fn 0 [])).toInt)&&decide (((r.getD (0+i.toNat) []).getD 0 (C.fn 0 [])).toInt<(256:Int))) (.ask (decide ((97:Int)≤Int.ofNat (aMr ((r.getD (0+i.toNat) []).getD 0 (C.fn 0 [])).toInt.toNat))) (.must (decide ((0:Int)≤((r.getD (0+i.toNat) []).getD 0 (C.fn 0 [])).toInt)&&decide (((r.getD (0+i.toNat) []).getD 0 (C.fn 0 [])).toInt<(256:Int))) (.ask (decide (Int.ofNat (aMr ((r.getD (0+i.toNat) []).getD 0 (C.fn 0 [])).toInt.toNat)≤(122:Int))) (.must (decide ((0:Int)≤((r.getD (0+i.toNat) []).getD 0 (C.fn 0 [])).toInt)&&decide (((r.getD (0+i.toNat) []).getD 0 (C.fn 0 [])).toInt<(256:Int))) (.ask (decide (IntKind.u8.wrap 16≤IntKind.u8.wrap (IntKind.u8.wrap (Int.ofNat (aMr ((r.getD (0+i.toNat) []).getD 0 (C.fn 0 [])).toInt.toNat)-(97:Int))+(10:Int)))) (.ret [C.int .u64 0,C.err (Er.int 180 .i64 2)]) (.ask (decide ((1152921504606846976:Int)≤n)) (.ret [C.int .u64 mx,C.err (Er.int 180 .i64 1)]) (.ask (decide (IntKind.u64.wrap (IntKind.u64.wrap (n*IntKind.u64.wrap 16)+IntKind.u64.wrap (IntKind.u8.wrap (IntKind.u8.wrap (Int.ofNat (aMr ((r.getD (0+i.toNat) []).getD 0 (C.fn 0 [])).toInt.toNat)-(97:Int))+(10:Int))))<IntKind.u64.wrap (n*IntKind.u64.wrap 16))) (.ret [C.int .u64 mx,C.err (Er.int 180 .i64 1)]) (.ask (decide (mx<IntKind.u64.wrap (IntKind.u64.wrap (n*IntKind.u64.wrap 16)+IntKind.u64.wrap (IntKind.u8.wrap (IntKind.u8.wrap (Int.ofNat (aMr ((r.getD (0+i.toNat) []).getD 0 (C.fn 0 [])).toInt.toNat)-(97:Int))+(10:Int)))))) (.ret [C.int .u64 mx,C.err (Er.int 180 .i64 1)]) (H [Pt.r,Pt.r,Pt.r,Pt.r,Pt.r,Pt.r,Pt.r,Pt.r,Pt.r,Pt.r,Pt.r,Pt.l,Pt.r,Pt.b] k (bEe (s) (mx) (IntKind.u64.wrap (IntKind.u64.wrap (n*IntKind.u64.wrap 16)+IntKind.u64.wrap (IntKind.u8.wrap (IntKind.u8.wrap (Int.ofNat (aMr ((r.getD (0+i.toNat) []).getD 0 (C.fn 0 [])).toInt.toNat)-(97:Int))+(10:Int))))) (ln) (l) (r) (IntKind.i64.wrap (i+(1:Int)))))))))) (.ret [C.int .u64 0,C.err (Er.int 180 .i64 2)]))) (.ret [C.int .u64 0,C.err (Er.int 180 .i64 2)])))) (.ask (decide ((48:Int)≤((r.getD (0+i.toNat) []).getD 0 (C.fn 0 [])).toInt)) (.ask (decide (((r.getD (0+i.toNat) []).getD 0 (C.fn 0 [])).toInt≤(57:Int))) (.ask (decide (IntKind.u8.wrap 16≤IntKind.u8.wrap (((r.getD (0+i.toNat) []).getD 0 (C.fn 0 [])).toInt-(48:Int)))) (.ret [C.int .u64 0,C.err (Er.int 180 .i64 2)]) (.ask (decide ((1152921504606846976:Int)≤n)) (.ret [C.int .u64 mx,C.err (Er.int 180 .i64 1)]) (.ask (decide (IntKind.u64.wrap (IntKind.u64.wrap (n*IntKind.u64.wrap 16)+IntKind.u64.wrap (IntKind.u8.wrap (((r.getD (0+i.toNat) []).getD 0 (C.fn 0 [])).toInt-(48:Int))))<IntKind.u64.wrap (n*IntKind.u64.wrap 16))) (.ret [C.int .u64 mx,C.err (Er.int 180 .i64 1)]) (.ask (decide (mx<IntKind.u64.wrap (IntKind.u64.wrap (n*IntKind.u64.wrap 16)+IntKind.u64.wrap (IntKind.u8.wrap (((r.getD (0+i.toNat) []).getD 0 (C.fn 0 [])).toInt-(48:Int)))))) (.ret [C.int .u64 mx,C.err (Er.int 180 .i64 1)]) (H [Pt.r,Pt.r,Pt.r,Pt.r,Pt.r,Pt.r,Pt.r,Pt.r,Pt.r,Pt.r,Pt.r,Pt.l,Pt.r,Pt.b] k (bEe (s) (mx) (IntKind.u64.wrap (IntKind.u64.wrap (n*IntKind.u64.wrap 16)+IntKind.u64.wrap (IntKind.u8.wrap (((r.getD (0+i.toNat) []).getD 0 (C.fn 0 [])).toInt-(48:Int))))) (ln) (l) (r) (IntKind.i64.wrap (i+(1:Int))))))))) (.must (decide ((0:Int)≤((r.getD (0+i.toNat) []).getD 0 (C.fn 0 [])).toInt)&&decide (((r.getD (0+i.toNat) []).getD 0 (C.fn 0 [])).toInt<(256:Int))) (.ask (decide ((97:Int)≤Int.ofNat (aMr ((r.getD (0+i.toNat) []).getD 0 (C.fn 0 [])).toInt.toNat))) (.must (decide ((0:Int)≤((r.getD (0+i.toNat) []).getD 0 (C.fn 0 [])).toInt)&&decide (((r.getD (0+i.toNat) []).getD 0 (C.fn 0 [])).toInt<(256:Int))) (.ask (decide (Int.ofNat (aMr ((r.getD (0+i.toNat) []).getD 0 (C.fn 0 [])).toInt.toNat)≤(122:Int))) (.must (decide ((0:Int)≤((r.getD (0+i.toNat) []).getD 0 (C.fn 0 [])).toInt)&&decide (((r.getD (0+i.toNat) []).getD 0 (C.fn 0 [])).toInt<(256:Int))) (.ask (decide (IntKind.u8.wrap 16≤IntKind.u8.wrap (IntKind.u8.wrap (Int.ofNat (aMr ((r.getD (0+i.toNat) []).getD 0 (C.fn 0 [])).toInt.toNat)-(97:Int))+(10:Int)))) (.ret [C.int .u64 0,C.err (Er.int 180 .i64 2)]) (.ask (decide ((1152921504606846976:Int)≤n)) (.ret [C.int .u64 mx,C.err (Er.int 180 .i64 1)]) (.ask (decide (IntKind.u64.wrap (IntKind.u64.wrap (n*IntKind.u64.wrap 16)+IntKind.u64.wrap (IntKind.u8.wrap (IntKind.u8.wrap (Int.ofNat (aMr ((r.getD (0+i.toNat) []).getD 0 (C.fn 0 [])).toInt.toNat)-(97:Int))+(10:Int))))<IntKind.u64.wrap (n*IntKind.u64.wrap 16))) (.ret [C.int .u64 mx,C.err (Er.int 180 .i64 1)]) (.ask (decide (mx<IntKind.u64.wrap (IntKind.u64.wrap (n*IntKind.u64.wrap 16)+IntKind.u64.wrap (IntKind.u8.wrap (IntKind.u8.wrap (Int.ofNat (aMr ((r.getD (0+i.toNat) []).getD 0 (C.fn 0 [])).toInt.toNat)-(97:Int))+(10:Int)))))) (.ret [C.int .u64 mx,C.err (Er.int 180 .i64 1)]) (H [Pt.r,Pt.r,Pt.r,Pt.r,Pt.r,Pt.r,Pt.r,Pt.r,Pt.r,Pt.r,Pt.r,Pt.l,Pt.r,Pt.b] k (bEe (s) (mx) (IntKind.u64.wrap (IntKind.u64.wrap (n*IntKind.u64.wrap 16)+IntKind.u64.wrap (IntKind.u8.wrap (IntKind.u8.wrap (Int.ofNat (aMr ((r.getD (0+i.toNat) []).getD 0 (C.fn 0 [])).toInt.toNat)-(97:Int))+(10:Int))))) (ln) (l) (r) (IntKind.i64.wrap (i+(1:Int)))))))))) (.ret [C.int .u64 0,C.err (Er.int 180 .i64 2)]))) (.ret [C.int .u64 0,C.err (Er.int 180 .i64 2)])))) (.must (decide ((0:Int)≤((r.getD (0+i.toNat) []).getD 0 (C.fn 0 [])).toInt)&&decide (((r.getD (0+i.toNat) []).getD 0 (C.fn 0 [])).toInt<(256:Int))) (.ask (decide ((97:Int)≤Int.ofNat (aMr ((r.getD (0+i.toNat) []).getD 0 (C.fn 0 [])).toInt.toNat))) (.must (decide ((0:Int)≤((r.getD (0+i.toNat) []).getD 0 (C.fn 0 [])).toInt)&&decide (((r.getD (0+i.toNat) []).getD 0 (C.fn 0 [])).toInt<(256:Int))) (.ask (decide (Int.ofNat (aMr ((r.getD (0+i.toNat) []).getD 0 (C.fn 0 [])).toInt.toNat)≤(122:Int))) (.must (decide ((0:Int)≤((r.getD (0+i.toNat) []).getD 0 (C.fn 0 [])).toInt)&&decide (((r.getD (0+i.toNat) []).getD 0 (C.fn 0 [])).toInt<(256:Int))) (.ask (decide (IntKind.u8.wrap 16≤IntKind.u8.wrap (IntKind.u8.wrap (Int.ofNat (aMr ((r.getD (0+i.toNat) []).getD 0 (C.fn 0 [])).toInt.toNat)-(97:Int))+(10:Int)))) (.ret [C.int .u64 0,C.err (Er.int 180 .i64 2)]) (.ask (decide ((1152921504606846976:Int)≤n)) (.ret [C.int .u64 mx,C.err (Er.int 180 .i64 1)]) (.ask (decide (IntKind.u64.wrap (IntKind.u64.wrap (n*IntKind.u64.wrap 16)+IntKind.u64.wrap (IntKind.u8.wrap (IntKind.u8.wrap (Int.ofNat (aMr ((r.getD (0+i.toNat) []).getD 0 (C.fn 0 [])).toInt.toNat)-(97:Int))+(10:Int))))<IntKind.u64.wrap (n*IntKind.u64.wrap 16))) (.ret [C.int .u64 mx,C.err (Er.int 180 .i64 1)]) (.ask (decide (mx<IntKind.u64.wrap (IntKind.u64.wrap (n*IntKind.u64.wrap 16)+IntKind.u64.wrap (IntKind.u8.wrap (IntKind.u8.wrap (Int.ofNat (aMr ((r.getD (0+i.toNat) []).getD 0 (C.fn 0 [])).toInt.toNat)-(97:Int))+(10:Int)))))) (.ret [C.int .u64 mx,C.err (Er.int 180 .i64 1)]) (H [Pt.r,Pt.r,Pt.r,Pt.r,Pt.r,Pt.r,Pt.r,Pt.r,Pt.r,Pt.r,Pt.r,Pt.l,Pt.r,Pt.b] k (bEe (s) (mx) (IntKind.u64.wrap (IntKind.u64.wrap (n*IntKind.u64.wrap 16)+IntKind.u64.wrap (IntKind.u8.wrap (IntKind.u8.wrap (Int.ofNat (aMr ((r.getD (0+i.toNat) []).getD 0 (C.fn 0 [])).toInt.toNat)-(97:Int))+(10:Int))))) (ln) (l) (r) (IntKind.i64.wrap (i+(1:Int)))))))))) (.ret [C.int .u64 0,C.err (Er.int 180 .i64 2)]))) (.ret [C.int .u64 0,C.err (Er.int 180 .i64 2)]))))))) (.ret [C.int .u64 n,C.err Er.nil])):T (List C)).eval:=aAc (by kernel_rfl)
theorem bVn (H:List Pt→Nat→St→T (List C)) (s:List UInt8):(aAg cBf aAa (sg [pS,pI,pI] [bC5,rE]) Tryz.f105 H [C.str s,C.int .i64 16,C.int .i64 32]).eval=((.must (decide ((16:Int)=(16:Int))&&(decide ((32:Int)=(32:Int))&&decide (s.length≤1048576))) (.ask (!match bUw (aRp s)with | Er.nil=>true | x=>false) (.must (decide (bUw (aRp s)=Er.int 180 .i64 1∨bUw (aRp s)=Er.int 180 .i64 2)&&decide (s.length≤281474976710656)) (.ret [C.int .u64 (aTe s),C.err Er.any])) (.ret [C.int .u64 (aTe s),C.err Er.nil]))):T (List C)).eval:=aAc (by kernel_rfl)
set_option maxHeartbeats 4000000 in
set_option maxRecDepth 100000 in
theorem bM9 (s:ByteArray) (w:World) (hlim:s.size≤281474976710656) :
  Calls Tryz.prog 198 #[.string s] w fun e w'=>e=.returned (.string s)∧RowKit.Below w.heap.size w w':=by
 have mixed:=bNd
 by_cases h0:s.size=0
 ·have hs:s=⟨#[]⟩:=by
   apply ByteArray.ext
   exact Array.eq_empty_of_size_eq_zero h0
  subst hs
  go_enter Tryz.func198,Tryz.ntmps198
  go_wp2
  go_ret
  exact⟨rfl,RowKit.Below.refl _ _⟩
 ·obtain⟨i0,hi,hz0,hz1,hz2⟩:=bNc
  have hinfo:(Tryz.prog.info? 5).map (·.size)=some 1:=by rw[hi];simp[hz1]
  have hco:Tryz.prog.cellsOf 5=1:=by simp[Program.cellsOf,hi,hz1]
  obtain⟨M,hM⟩:∃ M,M=madeCells (Value.int .u8 0).cells (((s.size:Nat):Int).toNat*i0.size):=⟨_,rfl⟩
  have hMs:M.size=s.size:=by rw[hM,size_madeCells,hz1];simp
  have hmk:∀ W:World,(Instr.makeSlice 107 (.int .i64 (s.size:Int)) (.int .i64 (s.size:Int))).run Tryz.prog W=.ok (.slice (some ⟨W.heap.size,0,none⟩) s.size s.size) (W.alloc (.cells M 5)):=fun W=>by
   have h:=run_make (P:=Tryz.prog) W 107 5 i0 (.int .u8 0) Tryz.underlying107 hi hz0 .i64 .i64 (s.size:Int) (s.size:Int) (by omega) (by omega) (by rw[hz2];omega) (by omega)
   rw[←hM]at h
   simpa using h
  clear hM
  have hcp:=Lib.run_copy_row_string (P:=Tryz.prog) (w.alloc (.cells M 5)) 107 9 3 5 w.heap.size 0 s.size s.size s M 5 Tryz.underlying107 hinfo (heap_alloc_new w _) (Nat.le_refl _) (by omega)
  obtain⟨Y,hY⟩:∃ Y,Y=(M.toList.take 0++Lib.byteCells s.data.toList++M.toList.drop (0+s.size)).toArray:=⟨_,rfl⟩
  rw[←hY]at hcp
  have hYl:Y.toList=Lib.byteCells s.data.toList:=by
   rw[hY,List.toList_toArray,List.take_zero,List.nil_append,List.drop_of_length_le (by rw[Array.length_toList];omega),List.append_nil]
  have hYs:Y.size=s.size:=by rw[←Array.length_toList,hYl,Lib.byteCells_length,←Lib.size_eq]
  have hgY:((w.alloc (.cells M 5)).setRow w.heap.size Y).heap[w.heap.size]? =some (.cells Y 5 (0,0)):=setRow_heap _ _ M _ 5 (0,0) (heap_alloc_new w _)
  have hne:s.data.toList≠[]:=fun e=>h0 (by rw[Lib.size_eq,e];rfl)
  have hUS:=Lib.run_unsafeString_row (P:=Tryz.prog) ((w.alloc (.cells M 5)).setRow w.heap.size Y) 179 3 9 5 Tryz.underlying179 hco w.heap.size Y.size (by unfold World.shape?;rw[hgY]) s.data.toList hne (by rw[←Lib.size_eq];omega) (by rw[←Lib.size_eq];omega)
   (fun j x hx=>Lib.cells_of_row hgY Y.size j _ (by rw[List.take_of_length_le (by rw[Array.length_toList];exact Nat.le_refl _),hYl];simp[Lib.byteCells,hx]))
  rw[←Lib.size_eq]at hUS
  clear hY
  go_enter Tryz.func198,Tryz.ntmps198
  go_wp2
  go_ret
  have hb1:RowKit.Below w.heap.size w (w.alloc (.cells M 5)):=(RowKit.Below.refl _ w).alloc (Nat.le_refl _) _
  have hb2:RowKit.Below w.heap.size (w.alloc (.cells M 5)) ((w.alloc (.cells M 5)).setRow w.heap.size Y):=⟨rfl,rfl,rfl,by simp,fun k hk=>setRow_other _ _ _ _ (by omega)⟩
  exact⟨rfl,Lib.below_freeze (hb1.trans hb2) (p:=⟨w.heap.size,0,none⟩) (Nat.le_refl _) _⟩
theorem bM8:aAn Tryz.prog 198 (sg [pS] [rS]) aX9:=by
 intro w okR pb vals cs outs hok hg hpb ha hk h
 unfold aX9 at h
 split at h
 ·simp only[Option.some.injEq,Prod.mk.injEq,decide_eq_true_eq]at h
  obtain⟨h1,rfl⟩:=h
  rename_i s
  generalize hcs:[C.str s]=cs0 at ha
  cases ha with
  |val l1 r1 a1 =>
   cases a1
   obtain⟨d,rfl,hr⟩:=r1
   simp only[List.append_nil,List.cons.injEq,and_true]at hcs
   subst hcs
   cases hr with
   |str sb =>
    have hlen:sb.size≤281474976710656:=by rw[Lib.size_eq];exact h1
    have hf:=Tryz.func198
    have hn : Tryz.f198.name ≠ "runtime.NumGoroutine" := by
     have : (Tryz.f198.name == "runtime.NumGoroutine") = false := by kernel_rfl
     simpa using this
    obtain⟨cd,hb⟩:∃ cd,Tryz.f198.body=some cd:=⟨_,rfl⟩
    refine .inl ⟨by simp[callFunc,hf,hn,hb,mark],(bM9 sb w hlen).mono ?_⟩
    rintro e w' ⟨rfl,hbl⟩
    exact⟨_,rfl,⟨⟨[.string sb],[],[.str sb.data.toList],[],fun _=>False,fun b hb=>hb.elim,rfl,rfl,.one (cs1:=[.str sb.data.toList]) (cs:=[]) (bs1:=[]) (bs:=[]) rfl (.data (.str sb) .nil) .nil,.val .nil,fun i j b hi=>by simp at hi,fun b hb=>by simp at hb⟩,hbl.size,fun b hb _=>hbl.block b hb,hbl.os,hbl.output⟩⟩
 ·cases h
theorem bWx : (Tryz.f177.name == "runtime.NumGoroutine") = false := by kernel_rfl
theorem bWw : (Tryz.f178.name == "runtime.NumGoroutine") = false := by kernel_rfl
theorem bHj {g : FuncId} {fn : Func} (h : bTs g = some fn) : Tryz.prog.funcs[g]? = some fn ∧ (fn.name == "runtime.NumGoroutine") = false := by
 unfold bTs at h
 split at h
 ·rename_i hg;subst hg;obtain rfl:=Option.some.inj h;exact⟨Tryz.func177,bWx⟩
 ·split at h
  ·rename_i hg;subst hg;obtain rfl:=Option.some.inj h;exact⟨Tryz.func178,bWw⟩
  ·cases h
theorem bK8 {lv:List (Nat×List Nat)} {gs:Laws} (h:∀ p,p∈gs→aAn Tryz.prog p.1 p.2.1 p.2.2):aA6 Tryz.prog (cAq lv gs) :=
 ⟨⟨(aZn aMi).1,fun g fn hh=>(bHj hh).1,fun t m e te h1 h2=>bMe aXb t m e te h1 h2,bTf bDm,fun t e h=>by cases h⟩,fun g sig spec hl=>h (g,sig,spec) (aEz hl),fun g fn hh=>(bHj hh).2,by kernel_rfl⟩
theorem bRa:aA6 Tryz.prog aXj:=bK8 (by simp[bM8])
theorem bIv:aAn Tryz.prog 136 (sg [pS,pS,pI,pI,pE] [rE]) aUv:=aA4 bRa (fun c hc=>bN2 2 (hc▸bRa)) Tryz.func136 (by kernel_rfl) fun cs outs hk h=>by
 unfold aUv at h
 split at h
 ·simp only[Option.some.injEq,Prod.mk.injEq,Bool.and_eq_true,decide_eq_true_eq]at h
  obtain⟨⟨h1,h2⟩,rfl⟩:=h
  rename_i a s b c x
  rcases h1 with rfl | rfl
  ·rw[aA9,bIu]
   simp only[aA0,aA2,h2,decide_true,if_true]
  ·rw[aA9,bIt]
   simp only[aA0,aA2,h2,decide_true,if_true]
 ·cases h
theorem cAr (a:Nat) (ha:a<256):ior .u8 (a:Int) 32=((aMr a:Nat):Int)∧aMr a<256:=by
 have h3:a|||32<256:=Nat.or_lt_two_pow (n:=8) ha (by decide)
 refine⟨?_,h3⟩
 show IntKind.u8.wrap (((BitVec.ofInt 8 (a:Int)|||BitVec.ofInt 8 32).toNat:Nat):Int)=_
 rw[BitVec.toNat_or]
 have h1:(BitVec.ofInt 8 (a:Int)).toNat=a:=by simp[BitVec.toNat_ofInt];omega
 have h2:(BitVec.ofInt 8 32).toNat=32:=by decide
 rw[h1,h2,aL4 (by omega) (by omega)]
 rfl
theorem bW1:aA6 Tryz.prog bNp:=aA5 (by simp[])
theorem bGc:aAn Tryz.prog 175 (sg [pU8] [rU8]) aW8:=aA4 bW1 aA7 Tryz.func175 (by kernel_rfl) fun cs outs hk h=>by
 unfold aW8 at h
 split at h
 ·simp only[Option.some.injEq,Prod.mk.injEq,Bool.and_eq_true,decide_eq_true_eq]at h
  obtain⟨⟨h1,h2⟩,rfl⟩:=h
  rename_i c
  obtain⟨n,rfl⟩:=Int.eq_ofNat_of_zero_le h1
  rw[aA9,bK9]
  have:=(cAr n (by omega)).1
  simp only[aA2,this,Int.toNat_natCast]
 ·cases h
theorem bVp (s:List UInt8) (hl:s.length≤1048576):∀ (k i n:Nat),i≤s.length→s.length<i+k→n≤4294967295 →
  (aBf bUj aAa (sg [pS,pI,pI] [bC5,rE]) Tryz.f135 [.r,.r,.r,.r,.r,.r,.r,.r,.r,.r,.r,.l,.r,.b] k (bEe s 4294967295 n s.length s.length (aAb s) i)).eval=some [.int .u64 ((bFz (s.drop i) n).1:Nat),.err (bUw (bFz (s.drop i) n).2)]:=by
 intro k
 induction k with
 |zero=>intro i n h1 h2;omega
 |succ k ih =>
  intro i n h1 h2 h3
  rw[aAi _ _ _ _ _ _ _ (by kernel_rfl),bP5]
  by_cases hi:i<s.length
  ·have g:=bC0 s i hi
   have w:IntKind.i64.wrap ((i:Int)+1)=((i+1:Nat):Int):=by rw[aAd]<;>omega
   have hz:(0:Int)≤i:=by omega
   have hi':(i:Int)<s.length:=by omega
   have hb:=aGl s i
   rw[aB9 s i 0 hi]
   generalize s.getD i 0=y at g hb ⊢
   obtain⟨hlo,hlo2⟩:=cAr y.toNat hb
   have w16:IntKind.u64.wrap 16=16:=by decide
   have w16b:IntKind.u8.wrap 16=16:=by decide
   have wn:IntKind.u64.wrap ((n:Int)*16)=(n:Int)*16:=by rw[aOo]<;>omega
   have hc0:(0:Int)≤(y.toNat:Int):=by omega
   have hc1:((y.toNat:Nat):Int)<256:=by omega
   have hnn:¬(1152921504606846976:Int)≤(n:Int):=by omega
   -- a figure d that is read
   have step:∀ d:Nat,aVv y.toNat=d→d<256→d<16→∀ D:Int,D=(d:Int) →
     ((T.ask (decide (IntKind.u64.wrap ((n:Int)*16+IntKind.u64.wrap D)<(n:Int)*16)) (.ret [C.int IntKind.u64 4294967295,C.err (Er.int 180 IntKind.i64 1)])
      (.ask (decide ((4294967295:Int)<IntKind.u64.wrap ((n:Int)*16+IntKind.u64.wrap D))) (.ret [C.int IntKind.u64 4294967295,C.err (Er.int 180 IntKind.i64 1)])
       (aBf bUj aAa (sg [pS,pI,pI] [bC5,rE]) Tryz.f135 [.r,.r,.r,.r,.r,.r,.r,.r,.r,.r,.r,.l,.r,.b] k (bEe s 4294967295 (IntKind.u64.wrap ((n:Int)*16+IntKind.u64.wrap D)) s.length s.length (aAb s) ((i+1:Nat):Int)))):T (List C))).eval=some [.int .u64 ((bFz (y::s.drop (i+1)) n).1:Nat),.err (bUw (bFz (y::s.drop (i+1)) n).2)]:=by
    intro d hd _ hd16 D hD
    subst hD
    have w1:IntKind.u64.wrap ((d:Nat):Int)=(d:Int):=by rw[aOo]<;>omega
    have w2:IntKind.u64.wrap ((n:Int)*16+(d:Int))=((n*16+d:Nat):Int):=by rw[aOo]<;>omega
    have c1:¬(((n*16+d:Nat):Int)<(n:Int)*16):=by omega
    simp only[w1,w2,aA1,aA2,decide_eq_true_eq,c1,if_false,bFz,hd,hd16,if_true]
    by_cases hm:4294967295<n*16+d
    ·have hm':(4294967295:Int)<((n*16+d:Nat):Int):=by omega
     simp only[hm,hm',if_true]
     rfl
    ·have hm':¬(4294967295:Int)<((n*16+d:Nat):Int):=by omega
     simp only[hm,hm',if_false]
     exact ih (i+1) (n*16+d) (by omega) (by omega) (by omega)
   have none:aVv y.toNat=16→some [C.int .u64 0,C.err (Er.int 180 .i64 2)]=some [.int .u64 ((bFz (y::s.drop (i+1)) n).1:Nat),.err (bUw (bFz (y::s.drop (i+1)) n).2)]:=fun h=>by
    simp only[bFz,h,Nat.lt_irrefl,if_false]
    rfl
   simp only[aA0,aA1,aA2,decide_eq_true_eq,hi',hz,Int.toNat_natCast,aBa,Nat.zero_add,hi,g,List.getD_cons_zero,List.length_cons,List.length_nil,Nat.zero_lt_one,C.toInt,C.is,beq_self_eq_true,decide_true,Bool.and_self,if_true,w,w16,w16b,wn,hc0,hc1,hnn,if_false,Int.ofNat_eq_natCast,ite_self]at step ⊢
   by_cases hA:48≤y.toNat∧y.toNat≤57
   ·have wA:IntKind.u8.wrap ((y.toNat:Int)-48)=((y.toNat-48:Nat):Int):=by rw[aL4]<;>omega
    have p1:(48:Int)≤(y.toNat:Int):=by omega
    have p2:(y.toNat:Int)≤57:=by omega
    have p3:¬(16:Int)≤((y.toNat-48:Nat):Int):=by omega
    have pd:aVv y.toNat=y.toNat-48:=by unfold aVv;rw[if_pos hA]
    simp only[p1,p2,if_true,wA,p3,if_false]
    exact step (y.toNat-48) pd (by omega) (by omega) _ rfl
   ·have key:∀ (X Z:Option (List C)),(if (48:Int)≤(y.toNat:Int)then (if (y.toNat:Int)≤57 then X else Z)else Z)=Z:=by
     intro X Z
     by_cases p1:(48:Int)≤(y.toNat:Int)
     ·rw[if_pos p1,if_neg (by omega)]
     ·rw[if_neg p1]
    simp only[key]
    have pd:aVv y.toNat=if 97≤aMr y.toNat∧aMr y.toNat≤102 then aMr y.toNat-87 else 16:=by unfold aVv;rw[if_neg hA]
    generalize aMr y.toNat=l at hlo2 pd ⊢
    by_cases hB:97≤l∧l≤122
    ·have q1:(97:Int)≤(l:Int):=by omega
     have q2:(l:Int)≤122:=by omega
     have wB:IntKind.u8.wrap ((l:Int)-97)=((l-97:Nat):Int):=by rw[aL4]<;>omega
     have wB2:IntKind.u8.wrap (((l-97:Nat):Int)+10)=((l-87:Nat):Int):=by rw[aL4]<;>omega
     simp only[q1,q2,if_true,wB,wB2]
     by_cases hC:l≤102
     ·rw[if_pos ⟨hB.1,hC⟩]at pd
      rw[if_neg (by omega)]
      exact step (l-87) pd (by omega) (by omega) _ rfl
     ·rw[if_neg (by omega)]at pd
      rw[if_pos (by omega)]
      exact none pd
    ·rw[if_neg (by omega)]at pd
     by_cases q1:(97:Int)≤(l:Int)
     ·rw[if_pos q1,if_neg (by omega)]
      exact none pd
     ·rw[if_neg q1]
      exact none pd
  ·have e:i=s.length:=by omega
   subst e
   have hi':¬((s.length:Int)<(s.length:Int)):=by omega
   simp only[aA1,aA2,decide_eq_true_eq,hi',if_false,List.drop_length,bFz]
   rfl
theorem bVq:∀ (l:List UInt8) (n:Nat),(bFz l n).2=0∨(bFz l n).2=1∨(bFz l n).2=2:=by
 intro l
 induction l with
 |nil=>intro n;exact .inl rfl
 |cons c r ih =>
  intro n
  simp only[bFz]
  split
  ·split
   ·exact .inr (.inl rfl)
   ·exact ih _
  ·exact .inr (.inr rfl)
theorem cAi (l:List UInt8):aRp l=0∨aRp l=1∨aRp l=2:=by
 unfold aRp pu
 split
 ·exact .inr (.inr rfl)
 ·exact bVq l 0
theorem cBq:aA6 Tryz.prog bUj:=aA5 (by simp[bGc])
theorem bSc:aAn Tryz.prog 135 (sg [pS,pI,pI] [bC5,rE]) bJx:=aA4 cBq aA7 Tryz.func135 (by kernel_rfl) fun cs outs hk h=>by
 unfold bJx at h
 split at h
 ·simp only[Option.some.injEq,Prod.mk.injEq,Bool.and_eq_true,decide_eq_true_eq]at h
  obtain⟨⟨rfl,rfl,h1⟩,rfl⟩:=h
  rename_i s
  rw[aA9,bVo]
  by_cases hs:s=[]
  ·subst hs
   rfl
  ·have e:(s==[])=false:=by simpa using hs
   have lp:=bVp s h1 9223372036854775808 0 0 (by omega) (by omega) (by omega)
   simp only[aA1,e,Bool.false_eq_true,if_false,aTe,aRp,pu,if_neg hs]
   exact lp
 ·cases h
theorem cBp:aA6 Tryz.prog cBf:=aA5 (by simp[bIv,bSc])
theorem bSb:aAn Tryz.prog 105 (sg [pS,pI,pI] [bC5,rE]) bSa:=aA4 cBp aA7 Tryz.func105 (by kernel_rfl) fun cs outs hk h=>by
 unfold bSa at h
 split at h
 ·simp only[Option.some.injEq,Prod.mk.injEq,Bool.and_eq_true,decide_eq_true_eq]at h
  obtain⟨⟨rfl,rfl,h1⟩,rfl⟩:=h
  rename_i s
  rw[aA9,bVn]
  have h2:s.length≤281474976710656:=by omega
  have d1:decide (Int.ofNat 16=(16:Int))=true:=by decide
  have d2:decide (Int.ofNat 32=(32:Int))=true:=by decide
  rcases cAi s with e | e | e
  ·simp[aA0,aA1,aA2,h1,e,bUw,bLz]
  ·simp[aA0,aA1,aA2,h1,h2,e,bUw,bLz]
  ·simp[aA0,aA1,aA2,h1,h2,e,bUw,bLz]
 ·cases h
noncomputable section
def aJs (c:Nat):Nat:=if 48≤c∧c≤57 then c-48 else if 97≤c∧c≤102 then c-87 else 16
def bIn:List UInt8→Nat→Option Nat
 |[],n=>some n
 |c::r,n=>if aJs c.toNat<16 then bIn r (n*16+aJs c.toNat)else none
def rn (s:List UInt8):Int×Int :=
 if 13≤s.length∧s.length≤17 then
  match bIn ((s.take 9).drop 1) 0 with
  |some n=>if aAm n=s then (1,n)else if aB0 n=s then (2,n)else (0,0)
  |none=>(0,0)
 else (0,0)
def aBy (s:List UInt8):Int:=(rn s).1
def aIs (s:List UInt8):Int:=(rn s).2
def aDd:aC3:=fun cs=>match cs with
 |[.str s]=>some (decide (s.length≤1048576),[.int .i64 (aBy s),.int .i64 (aIs s)])
 |_=>none
def aHm (s:List UInt8) (n i:Int):St:=st0 [(0,bEp s),(4,aAw n),(5,aAw i)]
def aKi:Env:=mkE [(5,[0,4,5])] [(53,(sg [pI,pI,pI] [rB]),aE3),(49,(sg [pI] [rS]),aFa),(88,(sg [pI] [rS]),aHq)]
def aXq:Env:=mkE [] [(97,(sg [pI] [rB]),aCh),(59,(sg [pI] [rS]),aFa),(106,(sg [pI] [rS]),aHq),(105,(sg [pS,pI,pI] [bC5,rE]),bSa)]
end
theorem aYf (H:List Pt→Nat→St→T (List C)) (s:List UInt8):(aAg aKi aAa (sg [pS] [rI,rI]) Tryz.f52 H [C.str s]).eval=((.ask (inB (↑s.length:Int) 13 17) (H [Pt.r,Pt.r,Pt.r,Pt.l,Pt.r,Pt.b] 9223372036854775808 (aHm (s) ((0:Int)) ((1:Int)))) (.ret [C.int .i64 0,C.int .i64 0])):T (List C)).eval:=aAc (by kernel_rfl)
theorem aZ2 (H:List Pt→Nat→St→T (List C)) (s:List UInt8):(aAg aXq aAa (sg [pS] [rI,rI]) Tryz.f61 H [C.str s]).eval=((.ask (decide ((↑s.length:Int)<(9:Int))) (.ret [C.int .i64 0,C.int .i64 0]) (.must (decide ((0:Int)≤(9:Int))&&decide ((9:Int)≤(↑s.length:Int))&&(decide ((0:Int)≤(1:Int))&&decide ((1:Int)≤(9:Int)))) (.must (decide ((16:Int)=(16:Int))&&(decide ((32:Int)=(32:Int))&&decide ((List.drop (Int.toNat 1) (List.take (Int.toNat 9) s)).length≤1048576))) (.ask (!match bLz (aRp (List.drop (Int.toNat 1) (List.take (Int.toNat 9) s)))with | Er.nil=>true | x=>false) (.ret [C.int .i64 0,C.int .i64 0]) (.ask (inB (IntKind.i64.wrap (aTe (List.drop (Int.toNat 1) (List.take (Int.toNat 9) s)))) (0:Int) (1000000000:Int)) (.ask (s==aAm (IntKind.i64.wrap (aTe (List.drop (Int.toNat 1) (List.take (Int.toNat 9) s))))) (.ret [C.int .i64 1,C.int .i64 (IntKind.i64.wrap (aTe (List.drop (Int.toNat 1) (List.take (Int.toNat 9) s))))]) (.ask (s==aB0 (IntKind.i64.wrap (aTe (List.drop (Int.toNat 1) (List.take (Int.toNat 9) s))))) (.ret [C.int .i64 2,C.int .i64 (IntKind.i64.wrap (aTe (List.drop (Int.toNat 1) (List.take (Int.toNat 9) s))))]) (.ret [C.int .i64 0,C.int .i64 0]))) (.ret [C.int .i64 0,C.int .i64 0])))))):T (List C)).eval:=aAc (by kernel_rfl)
theorem aT8 (H:List Pt→Nat→St→T (List C)) (s:List UInt8) (n:Int) (i:Int) (k:Nat):(aB1 aKi aAa (sg [pS] [rI,rI]) Tryz.f52 H [Pt.r,Pt.r,Pt.r,Pt.l,Pt.r,Pt.b] k (aHm s n i)).eval=((.ask (decide (i<(9:Int))) (.must (decide ((0:Int)≤i)&&decide (i<(↑s.length:Int))) (.ask (inB (IntKind.i64.wrap (↑(s.getD i.toNat (0:UInt8)).toNat:Int)) (48:Int) (57:Int)) (H [Pt.r,Pt.r,Pt.r,Pt.l,Pt.r,Pt.b] k (aHm (s) (IntKind.i64.wrap (IntKind.i64.wrap (IntKind.i64.wrap ((16:Int)*n)+IntKind.i64.wrap (↑(s.getD i.toNat (0:UInt8)).toNat:Int))-(48:Int))) (IntKind.i64.wrap (i+(1:Int))))) (.ask (inB (IntKind.i64.wrap (↑(s.getD i.toNat (0:UInt8)).toNat:Int)) (97:Int) (102:Int)) (H [Pt.r,Pt.r,Pt.r,Pt.l,Pt.r,Pt.b] k (aHm (s) (IntKind.i64.wrap (IntKind.i64.wrap (IntKind.i64.wrap ((16:Int)*n)+IntKind.i64.wrap (↑(s.getD i.toNat (0:UInt8)).toNat:Int))-(87:Int))) (IntKind.i64.wrap (i+(1:Int))))) (.ret [C.int .i64 0,C.int .i64 0])))) (.ask (aAm n==s) (.ret [C.int .i64 1,C.int .i64 n]) (.ask (aB0 n==s) (.ret [C.int .i64 2,C.int .i64 n]) (.ret [C.int .i64 0,C.int .i64 0])))):T (List C)).eval:=aAc (by kernel_rfl)
theorem aX6 (k n:Nat):(aK5 k n).length=k:=by
 induction k generalizing n with
 |zero=>rfl
 |succ k ih=>simp[aK5,ih]
theorem bSu:∀ n:Nat,aJs (aK1 n).toNat=n % 16:=by
 intro n
 have:∀ m,m<16→aJs (aK1 m).toNat=m:=by decide
 have h:=this (n % 16) (Nat.mod_lt _ (by decide))
 rw[bDu]at h
 exact h
theorem bW5:∀ (l:List UInt8) (c:UInt8) (a:Nat),bIn (l++[c]) a=(bIn l a).bind fun m=>if aJs c.toNat<16 then some (m*16+aJs c.toNat)else none:=by
 intro l
 induction l with
 |nil=>intro c a;rfl
 |cons x r ih =>
  intro c a
  simp only[List.cons_append,bIn]
  split
  ·exact ih c _
  ·rfl
theorem bW4:∀ (k n:Nat),bIn (aK5 k n) 0=some (n % 16^k):=by
 intro k
 induction k with
 |zero=>intro n;simp[aK5,bIn,Nat.mod_one]
 |succ k ih =>
  intro n
  rw[aK5,bW5,ih,bSu]
  have h:n % 16<16:=Nat.mod_lt _ (by decide)
  simp only[Option.bind_some,h,if_true]
  have e:16^(k+1)=16*16^k:=by rw[Nat.pow_succ,Nat.mul_comm]
  rw[e,Nat.mod_mul]
  congr 1
  omega
set_option maxRecDepth 100000 in
theorem bX4:∀ c:UInt8,aJs c.toNat<16→aVv c.toNat=aJs c.toNat:=by
 intro c
 have:∀ n,n<256→aJs n<16→aVv n=aJs n:=by decide
 exact this c.toNat c.toNat_lt
theorem bZ2:∀ (l:List UInt8) (a n:Nat),bIn l a=some n→(a+1)*16^l.length≤4294967296→bFz l a=(n,0):=by
 intro l
 induction l with
 |nil=>intro a n h _;simp only[bIn,Option.some.injEq]at h;subst h;rfl
 |cons c r ih =>
  intro a n h hb
  simp only[bIn]at h
  split at h
  ·rename_i hc
   have h1:0<16^r.length:=Nat.pow_pos (by decide)
   have h2:(a*16+aJs c.toNat+1)*16^r.length≤4294967296:=by
    refine Nat.le_trans (Nat.mul_le_mul_right _ (by omega:a*16+aJs c.toNat+1≤(a+1)*16)) ?_
    rw[List.length_cons,Nat.pow_succ]at hb
    rw[Nat.mul_assoc,Nat.mul_comm 16]
    exact hb
   have h3:a*16+aJs c.toNat+1≤4294967296:=Nat.le_trans (Nat.le_mul_of_pos_right _ h1) h2
   simp only[bFz,bX4 c hc,hc,if_true]
   rw[if_neg (by omega)]
   exact ih _ _ h h2
  ·cases h
theorem aV5 (m:Nat) (hm:m≤1000000000):(aAm (m:Int)).length=13∧((aAm (m:Int)).take 9).drop 1=aK5 8 m∧(aB0 (m:Int)).length=17∧((aB0 (m:Int)).take 9).drop 1=aK5 8 m:=by
 have hb:inB (m:Int) 0 1000000000=true:=by simp only[inB,Bool.and_eq_true,decide_eq_true_eq];omega
 have hd:=aX6 8 m
 have e1:aAm (m:Int)=115::(aK5 8 m++[46,115,101,103]):=by unfold aAm;rw[if_pos hb];simp
 have e2:aB0 (m:Int)=115::(aK5 8 m++[46,115,101,103,46,116,109,112]):=by unfold aB0;rw[if_pos hb,e1];simp
 rw[e1,e2]
 refine⟨by simp[hd],?_,by simp[hd],?_⟩
 ·simp only[List.take_succ_cons,List.drop_succ_cons,List.drop_zero]
  rw[List.take_append_of_le_length (by omega),List.take_of_length_le (by omega)]
 ·simp only[List.take_succ_cons,List.drop_succ_cons,List.drop_zero]
  rw[List.take_append_of_le_length (by omega),List.take_of_length_le (by omega)]
theorem bN9 (m:Nat) (hm:m≤1000000000):bIn (aK5 8 m) 0=some m∧aTe (aK5 8 m)=(m:Int)∧aRp (aK5 8 m)=0:=by
 have h1:bIn (aK5 8 m) 0=some m:=by rw[bW4,Nat.mod_eq_of_lt (by omega)]
 have h2:=bZ2 _ _ _ h1 (by rw[aX6];decide)
 have hne:aK5 8 m≠[]:=fun h=>by have:=aX6 8 m;rw[h]at this;simp at this
 unfold aTe aRp pu
 rw[if_neg hne,h2]
 exact⟨h1,rfl,rfl⟩
theorem bRl (n:Int) (h:¬inB n 0 1000000000=true):aAm n=[]∧aB0 n=[]:=by
 unfold aB0 aAm
 rw[if_neg h,if_neg h]
 exact⟨rfl,rfl⟩
theorem bMu (s:List UInt8):(∃ m:Nat,m≤1000000000∧s=aAm (m:Int))∨(∃ m:Nat,m≤1000000000∧s=aB0 (m:Int))∨((∀ n:Int,s=aAm n→s=[])∧∀ n:Int,s=aB0 n→s=[]):=by
 by_cases h1:∃ m:Nat,m≤1000000000∧s=aAm (m:Int)
 ·exact .inl h1
 ·by_cases h2:∃ m:Nat,m≤1000000000∧s=aB0 (m:Int)
  ·exact .inr (.inl h2)
  ·refine .inr (.inr ⟨fun n hn=>?_,fun n hn=>?_⟩)
   ·by_cases hb:inB n 0 1000000000=true
    ·have hb':=hb
     simp only[inB,Bool.and_eq_true,decide_eq_true_eq]at hb'
     obtain⟨m,rfl⟩:=Int.eq_ofNat_of_zero_le hb'.1
     exact absurd ⟨m,by omega,hn⟩ h1
    ·rw[hn];exact (bRl n hb).1
   ·by_cases hb:inB n 0 1000000000=true
    ·have hb':=hb
     simp only[inB,Bool.and_eq_true,decide_eq_true_eq]at hb'
     obtain⟨m,rfl⟩:=Int.eq_ofNat_of_zero_le hb'.1
     exact absurd ⟨m,by omega,hn⟩ h2
    ·rw[hn];exact (bRl n hb).2
theorem bXn (m:Nat) (hm:m≤1000000000):rn (aAm (m:Int))=(1,(m:Int)):=by
 obtain⟨a1,a2,a3,a4⟩:=aV5 m hm
 unfold rn
 rw[if_pos (by omega),a2,(bN9 m hm).1]
 simp
theorem aV4 (m:Nat) (hm:m≤1000000000):aAm (m:Int)≠aB0 (m:Int):=fun h=>by
 obtain⟨a1,a2,a3,a4⟩:=aV5 m hm
 rw[h]at a1
 omega
theorem bRz (m:Nat) (hm:m≤1000000000):rn (aB0 (m:Int))=(2,(m:Int)):=by
 obtain⟨a1,a2,a3,a4⟩:=aV5 m hm
 unfold rn
 rw[if_pos (by omega),a4,(bN9 m hm).1]
 simp[aV4 m hm]
theorem bS0 (s:List UInt8) (h1:∀ n:Int,s=aAm n→s=[]) (h2:∀ n:Int,s=aB0 n→s=[]):rn s=(0,0):=by
 unfold rn
 split
 ·rename_i hl
  have hne:s≠[]:=fun h=>by rw[h]at hl;simp at hl
  split
  ·rw[if_neg (fun h=>hne (h1 _ h.symm)),if_neg (fun h=>hne (h2 _ h.symm))]
  ·rfl
 ·rfl
theorem bYq (s:List UInt8):aBy s=0∨aBy s=1∨aBy s=2:=by
 unfold aBy
 rcases bMu s with⟨m,hm,rfl⟩ | ⟨m,hm,rfl⟩ | ⟨h1,h2⟩
 ·rw[bXn m hm];exact .inr (.inl rfl)
 ·rw[bRz m hm];exact .inr (.inr rfl)
 ·rw[bS0 s h1 h2];exact .inl rfl
theorem bL6:aA6 Tryz.prog aXq:=aA5 (by simp[aC6,aD1,aLy,bSb])
theorem aM1:aAn Tryz.prog 61 (sg [pS] [rI,rI]) aDd:=aA4 bL6 aA7 Tryz.func61 (by kernel_rfl) fun cs outs hk h=>by
 unfold aDd at h
 split at h
 ·simp only[Option.some.injEq,Prod.mk.injEq,decide_eq_true_eq]at h
  obtain⟨h1,rfl⟩:=h
  rename_i s
  rw[aA9,aZ2]
  have hmid:(List.drop (Int.toNat 1) (List.take (Int.toNat 9) s))=(s.take 9).drop 1:=rfl
  have hml:((s.take 9).drop 1).length≤1048576:=by simp;omega
  rcases bMu s with⟨m,hm,rfl⟩ | ⟨m,hm,rfl⟩ | ⟨q1,q2⟩
  ·obtain⟨a1,a2,a3,a4⟩:=aV5 m hm
   obtain⟨_,b1,b2⟩:=bN9 m hm
   have w:IntKind.i64.wrap (m:Int)=(m:Int):=by rw[aAd]<;>omega
   have hb:inB (m:Int) 0 1000000000=true:=by simp only[inB,Bool.and_eq_true,decide_eq_true_eq];omega
   rw[a2]at hml hmid
   simp only[hmid,b1,b2,w,hb]
   simp[aA0,aA1,aA2,a1,hml,bLz,aBy,aIs,bXn m hm]
  ·obtain⟨a1,a2,a3,a4⟩:=aV5 m hm
   obtain⟨_,b1,b2⟩:=bN9 m hm
   have w:IntKind.i64.wrap (m:Int)=(m:Int):=by rw[aAd]<;>omega
   have hb:inB (m:Int) 0 1000000000=true:=by simp only[inB,Bool.and_eq_true,decide_eq_true_eq];omega
   have hst:=(aV4 m hm).symm
   rw[a4]at hml hmid
   simp only[hmid,b1,b2,w,hb]
   simp[aA0,aA1,aA2,a3,hml,bLz,aBy,aIs,bRz m hm,hst]
  ·have hr:=bS0 s q1 q2
   by_cases h9:s.length<9
   ·have h9':(s.length:Int)<9:=by omega
    simp only[aA1,aA2,decide_eq_true_eq,h9',if_true,aBy,aIs,hr]
   ·have h9':¬(s.length:Int)<9:=by omega
    have h9'':(9:Int)≤(s.length:Int):=by omega
    have hne:s≠[]:=fun h=>by rw[h]at h9;simp at h9
    have n1:∀ n,(s==aAm n)=false:=fun n=>by simpa using fun h=>hne (q1 n h)
    have n2:∀ n,(s==aB0 n)=false:=fun n=>by simpa using fun h=>hne (q2 n h)
    simp only[hmid,n1,n2]
    simp only[aA0,aA1,aA2,decide_eq_true_eq,h9',h9'',hml,if_false,if_true,decide_true,Bool.and_self,Bool.false_eq_true,ite_self,aBy,aIs,hr]
    rfl
 ·cases h
theorem aYg (s:List UInt8) (hl:13≤s.length∧s.length≤17):∀ (k i n:Nat),1≤i→i≤9→9<i+k→n<16^(i-1) →
  (aBf aKi aAa (sg [pS] [rI,rI]) Tryz.f52 [.r,.r,.r,.l,.r,.b] k (aHm s n i)).eval=some (match bIn ((s.take 9).drop i) n with
   |some n=>if aAm n=s then[.int .i64 1,.int .i64 n]else if aB0 n=s then[.int .i64 2,.int .i64 n]else[.int .i64 0,.int .i64 0]
   |none=>[.int .i64 0,.int .i64 0]):=by
 intro k
 induction k with
 |zero=>intro i n h1 h2;omega
 |succ k ih =>
  intro i n h0 h1 h2 h3
  rw[aAi _ _ _ _ _ _ _ (by kernel_rfl),aT8]
  by_cases hi:i<9
  ·have hp:16^(i-1)≤16^7:=Nat.pow_le_pow_right (by decide) (by omega)
   have h16:(16:Nat)^7=268435456:=by decide
   have hp2:16^(i+1-1)=16^(i-1)*16:=by rw[←Nat.pow_succ];congr 1;omega
   have w:IntKind.i64.wrap ((i:Int)+1)=((i+1:Nat):Int):=by rw[aAd]<;>omega
   have hz:(0:Int)≤i:=by omega
   have hi':(i:Int)<9:=by omega
   have hil:(i:Int)<s.length:=by omega
   have hb:=aGl s i
   have hd:(s.take 9).drop i=s.getD i 0::(s.take 9).drop (i+1):=by
    rw[aB9 (s.take 9) i 0 (by simp;omega)]
    congr 1
    simp[List.getD_eq_getElem?_getD,hi]
   rw[hd]
   simp only[Int.toNat_natCast]
   generalize s.getD i 0=y at hb ⊢
   have wy:IntKind.i64.wrap ((y.toNat:Nat):Int)=(y.toNat:Int):=by rw[aAd]<;>omega
   have w1:IntKind.i64.wrap (16*(n:Int))=16*(n:Int):=by rw[aAd]<;>omega
   have w2:IntKind.i64.wrap (16*(n:Int)+(y.toNat:Int))=16*(n:Int)+(y.toNat:Int):=by rw[aAd]<;>omega
   simp only[aA0,aA1,aA2,decide_eq_true_eq,hi',hz,hil,Int.toNat_natCast,decide_true,Bool.and_self,if_true,w,wy,w1,w2,inB,Bool.and_eq_true,bIn]
   by_cases hA:48≤y.toNat∧y.toNat≤57
   ·have pd:aJs y.toNat=y.toNat-48:=by unfold aJs;rw[if_pos hA]
    have w3:IntKind.i64.wrap (16*(n:Int)+(y.toNat:Int)-48)=((n*16+(y.toNat-48):Nat):Int):=by rw[aAd]<;>omega
    rw[if_pos (by omega),w3,pd,if_pos (by omega)]
    exact ih (i+1) _ (by omega) (by omega) (by omega) (by omega)
   ·rw[if_neg (by omega)]
    by_cases hB:97≤y.toNat∧y.toNat≤102
    ·have pd:aJs y.toNat=y.toNat-87:=by unfold aJs;rw[if_neg hA,if_pos hB]
     have w3:IntKind.i64.wrap (16*(n:Int)+(y.toNat:Int)-87)=((n*16+(y.toNat-87):Nat):Int):=by rw[aAd]<;>omega
     rw[if_pos (by omega),w3,pd,if_pos (by omega)]
     exact ih (i+1) _ (by omega) (by omega) (by omega) (by omega)
    ·have pd:aJs y.toNat=16:=by unfold aJs;rw[if_neg hA,if_neg hB]
     rw[if_neg (by omega),pd,if_neg (by omega)]
  ·obtain rfl:i=9:=by omega
   have hd:(s.take 9).drop 9=[]:=by rw[List.drop_eq_nil_iff];simp;omega
   have hi':¬(((9:Nat):Int)<9):=by decide
   rw[hd]
   simp only[aA1,aA2,decide_eq_true_eq,hi',if_false,bIn,beq_iff_eq]
   repeat' split
   all_goals first | rfl | (simp_all;done)
theorem bJ7:aA6 Tryz.prog aKi:=aA5 (by simp[aD9,aCx,aLd])
theorem aLe:aAn Tryz.prog 52 (sg [pS] [rI,rI]) aDd:=aA4 bJ7 aA7 Tryz.func52 (by kernel_rfl) fun cs outs hk h=>by
 unfold aDd at h
 split at h
 ·simp only[Option.some.injEq,Prod.mk.injEq,decide_eq_true_eq]at h
  obtain⟨h1,rfl⟩:=h
  rename_i s
  rw[aA9,aYf]
  by_cases hl:13≤s.length∧s.length≤17
  ·have hb:inB (s.length:Int) 13 17=true:=by simp only[inB,Bool.and_eq_true,decide_eq_true_eq];omega
   have lp:=aYg s hl 9223372036854775808 1 0 (by omega) (by omega) (by omega) (by decide)
   simp only[aA1,hb,if_true]
   refine Eq.trans lp ?_
   unfold aBy aIs rn
   rw[if_pos hl]
   cases hg:bIn ((s.take 9).drop 1) 0 with
   |none=>rfl
   |some n =>
    by_cases g1:aAm (n:Int)=s
    ·simp only[g1,if_true]
    ·by_cases g2:aB0 (n:Int)=s
     ·simp only[g1,g2,if_true,if_false]
     ·simp only[g1,g2,if_false]
  ·have hb:inB (s.length:Int) 13 17=false:=by simp only[inB,Bool.and_eq_false_imp,decide_eq_true_eq,decide_eq_false_iff_not];omega
   simp only[aA1,aA2,hb,Bool.false_eq_true,if_false,aBy,aIs,rn,if_neg hl]
 ·cases h
noncomputable section
def bLr:List Int→Int→Bool
 |[],_=>false
 |x::r,n=>if x=n then true else bLr r n
def aRw (bs:List Int) (s:List UInt8):Bool:=decide (aBy s=2)||(decide (aBy s=1)&& !bLr bs (aIs s))
def aLr (bs:List Int) (l:List (List UInt8)):List (List UInt8):=l.filter (aRw bs)
def aCi (bs:List Int) (s:List UInt8):Bool:=decide (aBy s=0)||(decide (aBy s=1)&&bLr bs (aIs s))
def aC9 (es:List En):List (List UInt8):=es.map fun e=>e.name
def aR8 (es:List (List C)):Bool:=aAf kEn es&&(decide (es.length≤1048576)&&(ens es).all fun e=>decide (e.name.length≤1048576))
def aIj (ns:List Nd) (es:List En):List Int:=(aCe ns es).map fun x=>x.1
def aD7 (ns es:List (List C)):List (List UInt8):=aLr (aIj (nds ns) (ens es)) (aC9 (ens es))
def aIw:aC3:=fun cs=>match cs with
 |[.sl ns,.sl es,.sl _,.sl _,.int .i64 _,.int .i64 _]=>some (aI1 ns es&&aR8 es,[.sl ((aD7 ns es).map aB5)])
 |_=>none
def aMx:aC3:=fun cs=>match cs with
 |[.sl rows,.int .i64 n]=>some (aAf [.int .i64] rows&&decide (rows.length≤1048576),[.bool (bLr (aC1 rows) n)])
 |_=>none
def bEd (r:List (List C)) (n i:Int):St:=st0 [(0,.l (.sl r)),(1,aAw n),(5,aAw i)]
def aKc (ns es os ss:List (List C)) (r x:Int) (n:Nat) (o:List (List C)) (m:Nat) (bs:List (List C)) (i:Int):St:={slots:=[(1,.l (.ptr 0 0)),(3,.l (.ref 1 0 n)),(4,.l (.ref 2 0 m)),(5,aAw i)],heap:=[(0,bHq ns es os ss r x),(1,.arr 1 o),(2,.arr 1 bs)],next:=3,pins:=[]}
def bEk:Env:=mkE [(2,[0,1,5])] []
def aUc:Env:=mkE [(4,[1,3,4,5])] [(48,(sg [aB2] [rSl 3]),aHk),(52,(sg [pS] [rI,rI]),aDd),(87,(sg [pSl 3,pI] [rB]),aMx)]
def bCu:aC3:=fun cs=>match cs with
 |[.sl rows,.int .i64 n]=>some (aAf [.int .i64] rows&&decide (rows.length≤1048576),[.int .i64 (aCn (fun x=>decide (x=n)) (aC1 rows) 0)])
 |_=>none
def aW0:aC3:=fun cs=>match cs with
 |[.sl _,.sl es,.sl _,.sl _,.int .i64 _,.int .i64 _]=>some (aAf kEn es&&decide (es.length≤1048576),[.sl ((aC9 (ens es)).map aB5)])
 |_=>none
def aHe:aC3:=fun cs=>match cs with
 |[.str s,.pt [.sl bs]]=>some (aAf [.int .i64] bs&&(decide (bs.length≤1048576)&&decide (s.length≤1048576)),[.bool (aCi (aC1 bs) s)])
 |_=>none
def bZk (r bs:List (List C)):Bool:=aAf [.str] r&&(decide (r.length≤1048576)&&(aOu 1048576 r&&(aAf [.int .i64] bs&&decide (bs.length≤1048576))))
def aMw:aC3:=fun cs=>match cs with
 |[.sl r,.fn f [.pt [.sl bs]]]=>some (decide (f=103)&&bZk r bs,[.int .i64 (aCn (aCi (aC1 bs)) (aCb r) 0)])
 |_=>none
def cBs (p:List UInt8→Bool) (l:List (List UInt8)):List (List UInt8):=l.filter p++List.replicate (l.length-(l.filter p).length) []
def aGd (bs:List Int) (l:List (List UInt8)):List (List UInt8):=l.filter fun s=> !aCi bs s
def bEq (bs:List Int) (l:List (List UInt8)):List (List UInt8):=cBs (fun s=> !aCi bs s) l
def bM6:aC3:=fun cs=>match cs with
 |[.sl r,.fn f [.pt [.sl bs]]]=>some (decide (f=103)&&bZk r bs,[.sl ((aGd (aC1 bs) (aCb r)).map aB5),.sl ((bEq (aC1 bs) (aCb r)).map aB5)])
 |_=>none
def bXf (r:List (List C)) (n m i:Int):St:=st0 [(0,.l (.sl r)),(1,aAw n),(7,aAw m),(8,aAw i)]
def aU8 (n:Nat) (o es:List (List C)) (m i:Int):St:=st1 [(3,.l (.ref 0 0 n)),(8,.l (.sl es)),(9,aAw m),(10,aAw i)] 1 o
def aU9 (n:Nat) (o:List (List C)) (m:Nat) (ls:List (List C)) (k i:Int):St:={slots:=[(3,.l (.ref 0 0 n)),(8,.l (.ref 1 0 m)),(9,aAw k),(10,aAw i)],heap:=[(0,.arr 1 o),(1,.arr 11 ls)],next:=2,pins:=[]}
def aU7 (r bs:List (List C)) (n i:Int):St:=st0 [(0,.l (.sl r)),(1,.l (.fn 103 [.pt [.sl bs]])),(7,aAw n),(8,aAw i)]
def bI0 (n:Nat) (bs:List (List C)) (i j:Int) (r:List (List C)):St:={slots:=[(0,.l (.ref 0 0 n)),(1,.l (.fn 103 [.pt [.sl bs]])),(5,aAw i),(6,aAw j)],heap:=[(0,.arr 1 r)],next:=1,pins:=[0]}
abbrev cBo (t:TypeId):RTy:=⟨false,[(.slice t,false)]⟩
def bXg:Env:=mkE [(2,[0,1,7,8])] []
def bY6:Env:=mkE [] [(134,(sg [pSl 3,pI] [rI]),bCu)]
def aUl:Env:=mkE [(3,[3,8,9,10])] []
def aUm:Env:=mkE [(3,[3,8,9,10])] [(57,(⟨[aB2],[rSl 86],true⟩),aQ6)]
def bIc:Env:=mkE [] [(61,(sg [pS] [rI,rI]),aDd),(104,(sg [pSl 3,pI] [rB]),aMx)]
def aUk:Env:=mkE [(2,[0,1,7,8])] [(103,(sg [pS,pP] [rB]),aHe)]
def bO3:Env:=mkE [(5,[0,1,5,6])] [(133,(sg [pSl 9,pF] [rI]),aMw),(103,(sg [pS,pP] [rB]),aHe)]
def bNw:Env:=mkE [] [(102,(sg [aB2] [rSl 9]),aW0),(100,(sg [aB2] [rSl 3]),aHk),(103,(sg [pS,pP] [rB]),aHe),(101,(sg [.wr false [(.slice 9,true)],pF] [⟨false,[(.back 9 0,true)]⟩]),bM6)]
end
theorem bOv (H:List Pt→Nat→St→T (List C)) (r:List (List C)) (n:Int):(aAg bEk aAa (sg [pSl 3,pI] [rB]) Tryz.f87 H [C.sl r,C.int .i64 n]).eval=((H [Pt.r,Pt.l,Pt.r,Pt.b] 9223372036854775808 (bEd (r) (n) ((0:Int)))):T (List C)).eval:=aAc (by kernel_rfl)
theorem bJg (H:List Pt→Nat→St→T (List C)) (ns:List (List C)) (es:List (List C)) (os:List (List C)) (ss:List (List C)) (r:Int) (x:Int):(aAg aUc aAa (sg [aB2] [rSl 9]) Tryz.f51 H [C.sl ns,C.sl es,C.sl os,C.sl ss,C.int .i64 r,C.int .i64 x]).eval=((.must (aI1 ns es) (.must ((true&&(aBd (aCe (nds ns) (ens es))).all fun row=>decide (row.length=1))&&true&&true&&true) (H [Pt.r,Pt.r,Pt.r,Pt.l,Pt.r,Pt.b] 9223372036854775808 (aKc (ns) (es) (os) (ss) (r) (x) (0) ([]) ((aBd (aCe (nds ns) (ens es))).length) (aBd (aCe (nds ns) (ens es))) ((0:Int)))))):T (List C)).eval:=aAc (by kernel_rfl)
theorem bFn (H:List Pt→Nat→St→T (List C)) (r:List (List C)) (n:Int) (i:Int) (k:Nat):(aB1 bEk aAa (sg [pSl 3,pI] [rB]) Tryz.f87 H [Pt.r,Pt.l,Pt.r,Pt.b] k (bEd r n i)).eval=((.ask (decide (i<(↑r.length:Int))) (.must (decide ((0:Int)≤i)&&decide (i<(↑r.length:Int))&&decide ((r.getD i.toNat []).length=1)) (.must (decide (0<(r.getD i.toNat []).length)&&C.is (K.int .i64) ((r.getD i.toNat []).getD 0 (C.fn 0 []))&&true) (.ask (decide (((r.getD i.toNat []).getD 0 (C.fn 0 [])).toInt=n)) (.ret [C.bool true]) (H [Pt.r,Pt.l,Pt.r,Pt.b] k (bEd (r) (n) (IntKind.i64.wrap (i+(1:Int)))))))) (.ret [C.bool false])):T (List C)).eval:=aAc (by kernel_rfl)
theorem bBu (H:List Pt→Nat→St→T (List C)) (ns:List (List C)) (es:List (List C)) (os:List (List C)) (ss:List (List C)) (r:Int) (x:Int) (n:Nat) (o:List (List C)) (m2:Nat) (bs:List (List C)) (i:Int) (k:Nat):(aB1 aUc aAa (sg [aB2] [rSl 9]) Tryz.f51 H [Pt.r,Pt.r,Pt.r,Pt.l,Pt.r,Pt.b] k (aKc ns es os ss r x n o m2 bs i)).eval=((.ask (decide (i<(↑es.length:Int))) (.must (decide ((0:Int)≤i)&&decide (i<(↑es.length:Int))&&decide ((es.getD i.toNat []).length=2)) (.must (decide (0+0<(es.getD i.toNat []).length)&&C.is K.str ((es.getD i.toNat []).getD (0+0) (C.fn 0 []))&&true) (.must (decide (((es.getD i.toNat []).getD (0+0) (C.fn 0 [])).toStr.length≤1048576)) (.ask (decide (aBy ((es.getD i.toNat []).getD (0+0) (C.fn 0 [])).toStr=(2:Int))) (.must (decide ((0:Int)≤i)&&decide (i<(↑es.length:Int))&&decide ((es.getD i.toNat []).length=2)) (.must (decide (0+0<(es.getD i.toNat []).length)&&C.is K.str ((es.getD i.toNat []).getD (0+0) (C.fn 0 []))&&true) (.must (decide (n=o.length)&&aBb (o.length+1) 16&&(decide (1=1)&&true)) (H [Pt.r,Pt.r,Pt.r,Pt.l,Pt.r,Pt.b] k (aKc (ns) (es) (os) (ss) (r) (x) (o.length+1) (o.append [[C.str ((es.getD i.toNat []).getD (0+0) (C.fn 0 [])).toStr]]) (m2) (bs) (IntKind.i64.wrap (i+(1:Int)))))))) (.ask (decide (aBy ((es.getD i.toNat []).getD (0+0) (C.fn 0 [])).toStr=(1:Int))) (.must (aAf [K.int .i64] (List.take m2 bs)&&decide ((List.take m2 bs).length≤1048576)) (.ask (bLr (aC1 (List.take m2 bs)) (aIs ((es.getD i.toNat []).getD (0+0) (C.fn 0 [])).toStr)) (H [Pt.r,Pt.r,Pt.r,Pt.l,Pt.r,Pt.b] k (aKc (ns) (es) (os) (ss) (r) (x) (n) (o) (m2) (bs) (IntKind.i64.wrap (i+(1:Int))))) (.must (decide ((0:Int)≤i)&&decide (i<(↑es.length:Int))&&decide ((es.getD i.toNat []).length=2)) (.must (decide (0+0<(es.getD i.toNat []).length)&&C.is K.str ((es.getD i.toNat []).getD (0+0) (C.fn 0 []))&&true) (.must (decide (n=o.length)&&aBb (o.length+1) 16&&(decide (1=1)&&true)) (H [Pt.r,Pt.r,Pt.r,Pt.l,Pt.r,Pt.b] k (aKc (ns) (es) (os) (ss) (r) (x) (o.length+1) (o.append [[C.str ((es.getD i.toNat []).getD (0+0) (C.fn 0 [])).toStr]]) (m2) (bs) (IntKind.i64.wrap (i+(1:Int)))))))))) (H [Pt.r,Pt.r,Pt.r,Pt.l,Pt.r,Pt.b] k (aKc (ns) (es) (os) (ss) (r) (x) (n) (o) (m2) (bs) (IntKind.i64.wrap (i+(1:Int)))))))))) (.must (decide (n=o.length)&&(false||o.all fun r=>r.all C.flat)&&true&&true&&true) (.ret [C.sl o]))):T (List C)).eval:=aAc (by kernel_rfl)
theorem bWd (H:List Pt→Nat→St→T (List C)) (r:List (List C)) (n:Int):(aAg bXg aAa (sg [pSl 3,pI] [rI]) Tryz.f134 H [C.sl r,C.int .i64 n]).eval=((H [Pt.r,Pt.l,Pt.r,Pt.b] 9223372036854775808 (bXf (r) (n) ((↑r.length:Int)) ((0:Int)))):T (List C)).eval:=aAc (by kernel_rfl)
theorem bU3 (H:List Pt→Nat→St→T (List C)) (r:List (List C)) (n:Int):(aAg bY6 aAa (sg [pSl 3,pI] [rB]) Tryz.f104 H [C.sl r,C.int .i64 n]).eval=((.must (aAf [K.int .i64] r&&decide (r.length≤1048576)) (.ask (decide ((0:Int)≤(C.int .i64 (aCn (fun x=>decide (x=n)) (aC1 r) 0)).toInt)) (.ret [C.bool true]) (.ret [C.bool false]))):T (List C)).eval:=aAc (by kernel_rfl)
theorem bLd (H:List Pt→Nat→St→T (List C)) (ns:List (List C)) (es:List (List C)) (os:List (List C)) (ss:List (List C)) (r:Int) (x:Int):(aAg aUl aAa (sg [aB2] [rSl 9]) Tryz.f102 H [C.sl ns,C.sl es,C.sl os,C.sl ss,C.int .i64 r,C.int .i64 x]).eval=((H [Pt.r,Pt.r,Pt.l,Pt.r,Pt.b] 9223372036854775808 (aU8 (0) ([]) (es) ((↑es.length:Int)) ((0:Int)))):T (List C)).eval:=aAc (by kernel_rfl)
theorem bLm (H:List Pt→Nat→St→T (List C)) (ns:List (List C)) (es:List (List C)) (os:List (List C)) (ss:List (List C)) (r:Int) (x:Int):(aAg aUm aAa (sg [aB2] [rSl 3]) Tryz.f100 H [C.sl ns,C.sl es,C.sl os,C.sl ss,C.int .i64 r,C.int .i64 x]).eval=((.must (aI1 ns es) (.must ((true&&(aEi (aCe (nds ns) (ens es))).all fun row=>decide (row.length=11))&&true&&true&&true) (H [Pt.r,Pt.r,Pt.l,Pt.r,Pt.b] 9223372036854775808 (aU9 (0) ([]) ((aEi (aCe (nds ns) (ens es))).length) (aEi (aCe (nds ns) (ens es))) ((↑(aEi (aCe (nds ns) (ens es))).length:Int)) ((0:Int)))))):T (List C)).eval:=aAc (by kernel_rfl)
theorem bGd (H:List Pt→Nat→St→T (List C)) (s:List UInt8) (bs:List (List C)):(aAg bIc aAa (sg [pS,pP] [rB]) Tryz.f103 H [C.str s,C.pt [C.sl bs]]).eval=((.must (decide (s.length≤1048576)) (.ask (decide (aBy s=(0:Int))) (.ret [C.bool true]) (.ask (decide (aBy s=(1:Int))) (.must (aAf [K.int .i64] bs&&decide (bs.length≤1048576)) (.ask (bLr (aC1 bs) (aIs s)) (.ret [C.bool true]) (.ret [C.bool false]))) (.ret [C.bool false])))):T (List C)).eval:=aAc (by kernel_rfl)
theorem bKu (H:List Pt→Nat→St→T (List C)) (r:List (List C)) (bs:List (List C)):(aAg aUk aAa (sg [pSl 9,pF] [rI]) Tryz.f133 H [C.sl r,C.fn 103 [C.pt [C.sl bs]]]).eval=((H [Pt.r,Pt.l,Pt.r,Pt.b] 9223372036854775808 (aU7 (r) (bs) ((↑r.length:Int)) ((0:Int)))):T (List C)).eval:=aAc (by kernel_rfl)
theorem bU0 (H:List Pt→Nat→St→T (List C)) (r:List (List C)) (bs:List (List C)):(aAg bO3 aAa (sg [PTy.wr false [(K.slice 9,true)],pF] [{agg:=false,ls:=[(K.back 9 0,true)]}]) Tryz.f101 H [C.sl r,C.fn 103 [C.pt [C.sl bs]]]).eval=((.must ((true&&r.all fun row=>decide (row.length=1))&&true&&(decide (0<1)&&true&&true)) (.must (decide (103=103)&&bZk (List.take r.length r) bs) (.ask (decide ((C.int .i64 (aCn (aCi (aC1 bs)) (aCb (List.take r.length r)) 0)).toInt=(-1:Int))) (.must (decide (r.length≤r.length)&&true&&true&&((false||r.all fun r=>r.all C.flat)&&true&&true)) (.ret [C.sl (List.take r.length r),C.sl r])) (H [Pt.r,Pt.r,Pt.r,Pt.l,Pt.r,Pt.b] 9223372036854775808 (bI0 (r.length) (bs) ((C.int .i64 (aCn (aCi (aC1 bs)) (aCb (List.take r.length r)) 0)).toInt) (IntKind.i64.wrap ((C.int .i64 (aCn (aCi (aC1 bs)) (aCb (List.take r.length r)) 0)).toInt+(1:Int))) (r)))))):T (List C)).eval:=aAc (by kernel_rfl)
theorem bLf (H:List Pt→Nat→St→T (List C)) (ns:List (List C)) (es:List (List C)) (os:List (List C)) (ss:List (List C)) (r:Int) (x:Int):(aAg bNw aAa {params:=[aB2],results:=[cBo 9],nested:=true} Tryz.f60 H [C.sl ns,C.sl es,C.sl os,C.sl ss,C.int .i64 r,C.int .i64 x]).eval=((.must (aI1 ns es) (.must ((true&&(aBd (aCe (nds ns) (ens es))).all fun row=>decide (row.length=1))&&true&&true&&true) (.must (aAf [K.str,K.int .i64] es&&decide (es.length≤1048576)) (.must ((true&&(List.map aB5 (aC9 (ens es))).all fun row=>decide (row.length=1))&&true&&true&&true) (.must (true&&(true&&true)&&(decide ((List.map aB5 (aC9 (ens es))).length=(List.map aB5 (aC9 (ens es))).length)&&true&&true)) (.must (decide (103=103)&&bZk (List.map aB5 (aC9 (ens es))) (List.take (aBd (aCe (nds ns) (ens es))).length (aBd (aCe (nds ns) (ens es))))) (.must (decide ((List.map aB5 (aGd (aC1 (List.take (aBd (aCe (nds ns) (ens es))).length (aBd (aCe (nds ns) (ens es))))) (aCb (List.map aB5 (aC9 (ens es)))))).length≤(List.map aB5 (aC9 (ens es))).length)&&true&&true&&((decide ((List.map aB5 (bEq (aC1 (List.take (aBd (aCe (nds ns) (ens es))).length (aBd (aCe (nds ns) (ens es))))) (aCb (List.map aB5 (aC9 (ens es)))))).length=(List.map aB5 (aC9 (ens es))).length)&&(List.map aB5 (bEq (aC1 (List.take (aBd (aCe (nds ns) (ens es))).length (aBd (aCe (nds ns) (ens es))))) (aCb (List.map aB5 (aC9 (ens es)))))).all fun row=>decide (row.length=1))&&true&&true)) (.ret [C.sl (List.take (List.map aB5 (aGd (aC1 (List.take (aBd (aCe (nds ns) (ens es))).length (aBd (aCe (nds ns) (ens es))))) (aCb (List.map aB5 (aC9 (ens es)))))).length (List.map aB5 (bEq (aC1 (List.take (aBd (aCe (nds ns) (ens es))).length (aBd (aCe (nds ns) (ens es))))) (aCb (List.map aB5 (aC9 (ens es)))))))])))))))):T (List C)).eval:=aAc (by kernel_rfl)
theorem bPn (H:List Pt→Nat→St→T (List C)) (r:List (List C)) (n:Int) (mm:Int) (i:Int) (k:Nat):(aB1 bXg aAa (sg [pSl 3,pI] [rI]) Tryz.f134 H [Pt.r,Pt.l,Pt.r,Pt.b] k (bXf r n mm i)).eval=((.ask (decide (i<mm)) (.must (decide ((0:Int)≤i)&&decide (i<(↑r.length:Int))&&decide ((r.getD i.toNat []).length=1)) (.must (decide (0<(r.getD i.toNat []).length)&&C.is (K.int .i64) ((r.getD i.toNat []).getD 0 (C.fn 0 []))&&true) (.ask (decide (n=((r.getD i.toNat []).getD 0 (C.fn 0 [])).toInt)) (.ret [C.int .i64 i]) (H [Pt.r,Pt.l,Pt.r,Pt.b] k (bXf (r) (n) (mm) (IntKind.i64.wrap (i+(1:Int)))))))) (.ret [C.int .i64 (-1)])):T (List C)).eval:=aAc (by kernel_rfl)
theorem bDc (H:List Pt→Nat→St→T (List C)) (n:Nat) (o:List (List C)) (es:List (List C)) (mm:Int) (i:Int) (k:Nat):(aB1 aUl aAa (sg [aB2] [rSl 9]) Tryz.f102 H [Pt.r,Pt.r,Pt.l,Pt.r,Pt.b] k (aU8 n o es mm i)).eval=((.ask (decide (i<mm)) (.must (decide ((0:Int)≤i)&&decide (i<(↑es.length:Int))&&decide ((es.getD i.toNat []).length=2)) (.must (decide (0<(es.getD i.toNat []).length)&&C.is K.str ((es.getD i.toNat []).getD 0 (C.fn 0 []))&&(decide (0+1<(es.getD i.toNat []).length)&&C.is (K.int .i64) ((es.getD i.toNat []).getD (0+1) (C.fn 0 []))&&true)) (.must (decide (n=o.length)&&aBb (o.length+1) 16&&(decide (1=1)&&true)) (H [Pt.r,Pt.r,Pt.l,Pt.r,Pt.b] k (aU8 (o.length+1) (o.append [[C.str ((es.getD i.toNat []).getD 0 (C.fn 0 [])).toStr]]) (es) (mm) (IntKind.i64.wrap (i+(1:Int)))))))) (.must (decide (n=o.length)&&(false||o.all fun r=>r.all C.flat)&&true&&true&&true) (.ret [C.sl o]))):T (List C)).eval:=aAc (by kernel_rfl)
theorem bDi (H:List Pt→Nat→St→T (List C)) (n:Nat) (o:List (List C)) (m2:Nat) (ls:List (List C)) (k2:Int) (i:Int) (k:Nat):(aB1 aUm aAa (sg [aB2] [rSl 3]) Tryz.f100 H [Pt.r,Pt.r,Pt.l,Pt.r,Pt.b] k (aU9 n o m2 ls k2 i)).eval=((.ask (decide (i<k2)) (.must (decide ((0:Int)≤i)&&decide (i<(↑m2:Int))) (.must (decide (0+i.toNat<ls.length)&&(decide (0<(ls.getD (0+i.toNat) []).length)&&C.is (K.int .i64) ((ls.getD (0+i.toNat) []).getD 0 (C.fn 0 []))&&(decide (0+1<(ls.getD (0+i.toNat) []).length)&&C.is K.str ((ls.getD (0+i.toNat) []).getD (0+1) (C.fn 0 []))&&(decide (0+1+1<(ls.getD (0+i.toNat) []).length)&&C.is K.bool ((ls.getD (0+i.toNat) []).getD (0+1+1) (C.fn 0 []))&&(decide (0+1+1+1<(ls.getD (0+i.toNat) []).length)&&C.is (K.int .i64) ((ls.getD (0+i.toNat) []).getD (0+1+1+1) (C.fn 0 []))&&(decide (0+1+1+1+1<(ls.getD (0+i.toNat) []).length)&&C.is (K.int .i64) ((ls.getD (0+i.toNat) []).getD (0+1+1+1+1) (C.fn 0 []))&&(decide (0+1+1+1+1+1<(ls.getD (0+i.toNat) []).length)&&C.is (K.int .i64) ((ls.getD (0+i.toNat) []).getD (0+1+1+1+1+1) (C.fn 0 []))&&(decide (0+1+1+1+1+1+1<(ls.getD (0+i.toNat) []).length)&&C.is (K.int .i64) ((ls.getD (0+i.toNat) []).getD (0+1+1+1+1+1+1) (C.fn 0 []))&&(decide (0+1+1+1+1+1+1+1<(ls.getD (0+i.toNat) []).length)&&C.is (K.slice 9) ((ls.getD (0+i.toNat) []).getD (0+1+1+1+1+1+1+1) (C.fn 0 []))&&(decide (0+1+1+1+1+1+1+1+1<(ls.getD (0+i.toNat) []).length)&&C.is (K.slice 3) ((ls.getD (0+i.toNat) []).getD (0+1+1+1+1+1+1+1+1) (C.fn 0 []))&&(decide (0+1+1+1+1+1+1+1+1+1<(ls.getD (0+i.toNat) []).length)&&C.is (K.int .i64) ((ls.getD (0+i.toNat) []).getD (0+1+1+1+1+1+1+1+1+1) (C.fn 0 []))&&(decide (0+1+1+1+1+1+1+1+1+1+1<(ls.getD (0+i.toNat) []).length)&&C.is K.bool ((ls.getD (0+i.toNat) []).getD (0+1+1+1+1+1+1+1+1+1+1) (C.fn 0 []))&&true)))))))))))) (.must (decide (n=o.length)&&aBb (o.length+1) 8&&(decide (1=1)&&true)) (H [Pt.r,Pt.r,Pt.l,Pt.r,Pt.b] k (aU9 (o.length+1) (o.append [[C.int .i64 ((ls.getD (0+i.toNat) []).getD 0 (C.fn 0 [])).toInt]]) (m2) (ls) (k2) (IntKind.i64.wrap (i+(1:Int)))))))) (.must (decide (n=o.length)&&(false||o.all fun r=>r.all C.flat)&&true&&true&&true) (.ret [C.sl o]))):T (List C)).eval:=aAc (by kernel_rfl)
theorem bCt (H:List Pt→Nat→St→T (List C)) (r:List (List C)) (bs:List (List C)) (n:Int) (i:Int) (k:Nat):(aB1 aUk aAa (sg [pSl 9,pF] [rI]) Tryz.f133 H [Pt.r,Pt.l,Pt.r,Pt.b] k (aU7 r bs n i)).eval=((.ask (decide (i<n)) (.must (decide ((0:Int)≤i)&&decide (i<(↑r.length:Int))&&decide ((r.getD i.toNat []).length=1)) (.must (decide (0<(r.getD i.toNat []).length)&&C.is K.str ((r.getD i.toNat []).getD 0 (C.fn 0 []))&&true) (.must (aAf [K.int .i64] bs&&(decide (bs.length≤1048576)&&decide (((r.getD i.toNat []).getD 0 (C.fn 0 [])).toStr.length≤1048576))) (.ask (aCi (aC1 bs) ((r.getD i.toNat []).getD 0 (C.fn 0 [])).toStr) (.ret [C.int .i64 i]) (H [Pt.r,Pt.l,Pt.r,Pt.b] k (aU7 (r) (bs) (n) (IntKind.i64.wrap (i+(1:Int))))))))) (.ret [C.int .i64 (-1)])):T (List C)).eval:=aAc (by kernel_rfl)
theorem bM7 (H:List Pt→Nat→St→T (List C)) (n:Nat) (bs:List (List C)) (i:Int) (j:Int) (r:List (List C)) (k:Nat):(aB1 bO3 aAa (sg [PTy.wr false [(K.slice 9,true)],pF] [{agg:=false,ls:=[(K.back 9 0,true)]}]) Tryz.f101 H [Pt.r,Pt.r,Pt.r,Pt.l,Pt.r,Pt.b] k (bI0 n bs i j r)).eval=((.ask (decide (j<(↑n:Int))) (.must (decide ((0:Int)≤j)&&decide (j<(↑n:Int))) (.must (decide (0+j.toNat<r.length)&&(decide (0<(r.getD (0+j.toNat) []).length)&&C.is K.str ((r.getD (0+j.toNat) []).getD 0 (C.fn 0 []))&&true)) (.must (aAf [K.int .i64] bs&&(decide (bs.length≤1048576)&&decide (((r.getD (0+j.toNat) []).getD 0 (C.fn 0 [])).toStr.length≤1048576))) (.ask (aCi (aC1 bs) ((r.getD (0+j.toNat) []).getD 0 (C.fn 0 [])).toStr) (H [Pt.r,Pt.r,Pt.r,Pt.l,Pt.r,Pt.b] k (bI0 (n) (bs) (i) (IntKind.i64.wrap (j+(1:Int))) (r))) (.must (decide ((0:Int)≤i)&&decide (i<(↑n:Int))) (.must (decide (0+i.toNat<r.length)) (H [Pt.r,Pt.r,Pt.r,Pt.l,Pt.r,Pt.b] k (bI0 (n) (bs) (IntKind.i64.wrap (i+(1:Int))) (IntKind.i64.wrap (j+(1:Int))) (r.set (0+i.toNat) (C.str ((r.getD (0+j.toNat) []).getD 0 (C.fn 0 [])).toStr::List.drop (0+1) (r.getD (0+i.toNat) []))))))))))) (.must (decide ((0:Int)≤i)&&decide (i≤(↑n:Int))) (.must (decide (0<n-i.toNat)&&decide (0+i.toNat+(n-i.toNat)≤r.length)) (.must (decide ((0:Int)≤i)&&decide (i≤(↑n:Int))) (.must (decide (i.toNat-0≤(((List.take (0+i.toNat) r).append (List.replicate (n-i.toNat) [C.str []])).append (List.drop (0+i.toNat+(n-i.toNat)) r)).length)&&true&&true&&((false||(((List.take (0+i.toNat) r).append (List.replicate (n-i.toNat) [C.str []])).append (List.drop (0+i.toNat+(n-i.toNat)) r)).all fun r=>r.all C.flat)&&true&&true)) (.ret [C.sl (List.take (i.toNat-0) (((List.take (0+i.toNat) r).append (List.replicate (n-i.toNat) [C.str []])).append (List.drop (0+i.toNat+(n-i.toNat)) r))),C.sl (((List.take (0+i.toNat) r).append (List.replicate (n-i.toNat) [C.str []])).append (List.drop (0+i.toNat+(n-i.toNat)) r))])))))):T (List C)).eval:=aAc (by kernel_rfl)
theorem bQg (bs:List Int) (s:List UInt8) (h:aBy s=0∨aBy s=1∨aBy s=2):aCi bs s= !aRw bs s:=by
 unfold aCi aRw
 rcases h with h | h | h<;>simp[h]
theorem bTe (l:List Int) (m:Int) (hl:l.length≤1048576):∀ (n i:Nat),i≤l.length→l.length<i+n →
  (aBf bEk aAa (sg [pSl 3,pI] [rB]) Tryz.f87 [.r,.l,.r,.b] n (bEd (l.map aF3) m i)).eval=some [.bool (bLr (l.drop i) m)]:=by
 intro n
 induction n with
 |zero=>intro i h1 h2;omega
 |succ n ih =>
  intro i h1 h2
  rw[aAi _ _ _ _ _ _ _ (by kernel_rfl),bFn]
  by_cases hi:i<l.length
  ·have g:=aAv aF3 l 0 i hi
   have w:IntKind.i64.wrap ((i:Int)+1)=((i+1:Nat):Int):=by rw[aAd]<;>omega
   have hz:(0:Int)≤i:=by omega
   have hi':(i:Int)<l.length:=by omega
   rw[aB9 l i 0 hi]
   generalize l.getD i 0=y at g ⊢
   simp only[aA0,aA1,aA2,if_true,decide_eq_true_eq,Bool.and_eq_true,w,hz,hi',Int.toNat_natCast,List.length_map,g,and_self,List.getD_cons_zero,C.toInt,C.is,List.length_cons,List.length_nil,Nat.zero_add,Nat.zero_lt_succ,decide_true,beq_iff_eq,bLr]
   by_cases hy:y=m
   ·simp only[hy,if_true]
   ·simp only[hy,if_false]
    exact ih (i+1) (by omega) (by omega)
  ·have e:i=l.length:=by omega
   subst e
   have hi':¬((l.length:Int)<(l.length:Int)):=by omega
   simp only[aA1,aA2,decide_eq_true_eq,List.length_map,hi',if_false,List.drop_length,bLr]
theorem bYl:aA6 Tryz.prog bEk:=aA5 (by simp[])
theorem bJl:aAn Tryz.prog 87 (sg [pSl 3,pI] [rB]) aMx:=aA4 bYl aA7 Tryz.func87 (by kernel_rfl) fun cs outs hk h=>by
 unfold aMx at h
 split at h
 ·simp only[Option.some.injEq,Prod.mk.injEq,Bool.and_eq_true,decide_eq_true_eq]at h
  obtain⟨⟨h1,h2⟩,rfl⟩:=h
  rename_i rows m
  have hr:=aIr h1
  generalize aC1 rows=l at hr ⊢
  subst hr
  rw[List.length_map]at h2
  rw[aA9,bOv]
  exact bTe l m h2 9223372036854775808 0 (by omega) (by omega)
 ·cases h
theorem bA0 (e:En) (l:List En):aC9 (e::l)=e.name::aC9 l:=rfl
theorem bPg (bs:List Int) (s:List UInt8) (l:List (List UInt8)):aLr bs (s::l)=(if aRw bs s then[s]else[])++aLr bs l:=by
 unfold aLr
 rw[List.filter_cons]
 split<;>rfl
theorem aTw (es:List (List C)):aR8 es=true↔aAf kEn es=true∧es.length≤1048576∧∀ e∈ens es,e.name.length≤1048576:=by
 simp only[aR8,Bool.and_eq_true,decide_eq_true_eq,List.all_eq_true]
theorem cCc (acc:List (List UInt8)) (y:List UInt8):(acc.map aB5).append [[C.str y]]=(acc++[y]).map aB5:=by simp
theorem bJh (ns os ss:List (List C)) (r x:Int) (l:List En) (hl:l.length≤1048576) (hn:∀ e∈l,e.name.length≤1048576) (bs:List Int) (hb:bs.length≤1048576):∀ (n i:Nat) (acc:List (List UInt8)),i≤l.length→l.length<i+n→acc.length≤i →
  (aBf aUc aAa (sg [aB2] [rSl 9]) Tryz.f51 [.r,.r,.r,.l,.r,.b] n (aKc ns (l.map eEn) os ss r x acc.length (acc.map aB5) bs.length (bs.map aF3) i)).eval=some [.sl ((acc++aLr bs (aC9 (l.drop i))).map aB5)]:=by
 intro n
 induction n with
 |zero=>intro i acc h1 h2;omega
 |succ n ih =>
  intro i acc h1 h2 h3
  rw[aAi _ _ _ _ _ _ _ (by kernel_rfl),bBu]
  by_cases hi:i<l.length
  ·have g:=aAv eEn l ⟨[],0⟩ i hi
   have w:IntKind.i64.wrap ((i:Int)+1)=((i+1:Nat):Int):=by rw[aAd]<;>omega
   have hz:(0:Int)≤i:=by omega
   have hi':(i:Int)<l.length:=by omega
   have hm:l.getD i ⟨[],0⟩∈l:=by rw[List.getD_eq_getElem?_getD,List.getElem?_eq_getElem hi];exact List.getElem_mem hi
   have hx:=hn _ hm
   rw[aB9 l i ⟨[],0⟩ hi,bA0,bPg]
   generalize l.getD i ⟨[],0⟩=y at g hx ⊢
   have ro:aBb (acc.length+1) 16=true:=by simp only[aBb,decide_eq_true_eq];omega
   have tk:List.take bs.length (bs.map aF3)=bs.map aF3:=by rw[List.take_of_length_le];simp
   have e1:=ih (i+1) acc (by omega) (by omega) (by omega)
   have e2:=ih (i+1) (acc++[y.name]) (by omega) (by omega) (by simp;omega)
   rw[List.length_append]at e2
   simp only[List.length_cons,List.length_nil,Nat.zero_add,List.append_assoc]at e2
   simp only[aA0,aA1,if_true,decide_eq_true_eq,Bool.and_eq_true,w,hz,hi',Int.toNat_natCast,List.length_map,g,and_self,List.getD_cons_zero,C.toStr,C.is,List.length_cons,List.length_nil,Nat.zero_add,Nat.reduceAdd,Nat.reduceLT,Nat.zero_lt_succ,decide_true,hx,ro,tk,aJm,aTt,hb,Bool.and_self,cCc,aRw,Bool.or_eq_true]
   by_cases k2:aBy y.name=2
   ·simp only[k2,if_true,true_or]
    exact e2
   ·by_cases k1:aBy y.name=1
    ·simp only[k1,if_true,Int.reduceEq,if_false,false_or,true_and,Bool.not_eq_true']
     cases bLr bs (aIs y.name)with
     |true=>simpa using e1
     |false=>simpa using e2
    ·simp only[k1,k2,if_false,false_or,false_and,List.nil_append]
     exact e1
  ·have e:i=l.length:=by omega
   subst e
   have hi':¬((l.length:Int)<(l.length:Int)):=by omega
   simp only[aA0,aA1,aA2,decide_eq_true_eq,List.length_map,hi',if_false,aEl,decide_true,Bool.or_true,Bool.and_self,if_true,List.drop_length,aC9,List.map_nil,aLr,List.filter_nil,List.append_nil]
theorem bKb (c:List Lk):aBd c=(c.map fun x=>x.1).map aF3:=by simp[aBd,Function.comp_def]
theorem bVb:aA6 Tryz.prog aUc:=aA5 (by simp[aSi,aLe,bJl])
theorem bFj:aAn Tryz.prog 51 (sg [aB2] [rSl 9]) aIw:=aA4 bVb aA7 Tryz.func51 (by kernel_rfl) fun cs outs hk h=>by
 unfold aIw at h
 split at h
 ·simp only[Option.some.injEq,Prod.mk.injEq,Bool.and_eq_true]at h
  obtain⟨⟨hd,he⟩,rfl⟩:=h
  rename_i ns es os ss r x
  obtain⟨h1,h2,h3⟩:=(aTw _).1 he
  rw[aA9,bJg]
  have hn':(aCe (nds ns) (ens es)).length≤16:=aEs (nds ns) (ens es) 16 0 0
  have hr:=aFc h1
  have lp:=bJh ns os ss r x (ens es) (by rw[aX4];exact h2) h3 ((aCe (nds ns) (ens es)).map fun x=>x.1) (by simp;omega) 9223372036854775808 0 [] (by omega) (by rw[aX4];omega) (by simp)
  rw[←hr,←bKb]at lp
  have hb:((aBd (aCe (nds ns) (ens es))).all fun row=>decide (row.length=1))=true:=by simp[aBd]
  simp only[aA0,hd,hb,Bool.and_self,if_true]
  refine Eq.trans ?_ lp
  rw[show (aBd (aCe (nds ns) (ens es))).length=((aCe (nds ns) (ens es)).map fun x=>x.1).length by simp[aBd]]
  rfl
 ·cases h
theorem aJu {A B:Type} (f:A→B) (l:List A):l.length=(l.map f).length:=(List.length_map _).symm
theorem bT7 (m:Int):∀ (l:List Int) (i:Nat),(0≤aCn (fun x=>decide (x=m)) l i)=(bLr l m=true):=by
 intro l
 induction l with
 |nil=>intro i;simp[aCn,bLr]
 |cons x r ih =>
  intro i
  simp only[aCn,bLr,decide_eq_true_eq]
  by_cases h:x=m
  ·simp[h]
  ·simp only[h,if_false]
   exact ih (i+1)
theorem bPr {A:Type} (q:A→Bool):∀ (l:List A) (i:Nat),(aCn q l i= -1∧∀ x∈l,q x=false)∨∃ d,d<l.length∧aCn q l i=((i+d:Nat):Int)∧(l.take (d+1)).filter (fun x=> !q x)=l.take d:=by
 intro l
 induction l with
 |nil=>intro i;exact .inl ⟨rfl,fun x h=>by cases h⟩
 |cons x r ih =>
  intro i
  simp only[aCn]
  cases hx:q x with
  |true=>exact .inr ⟨0,by simp,by simp,by simp[hx]⟩
  |false =>
   simp only[Bool.false_eq_true,if_false]
   rcases ih (i+1)with⟨h1,h2⟩ | ⟨d,h1,h2,h3⟩
   ·exact .inl ⟨h1,fun y hy=>(List.mem_cons.1 hy).elim (fun e=>by rw[e];exact hx) (h2 y)⟩
   ·refine .inr ⟨d+1,by simp;omega,by rw[h2];congr 1;omega,?_⟩
    rw[List.take_succ_cons,List.filter_cons,hx]
    simp only[Bool.not_false,if_true,List.take_succ_cons]
    rw[h3]
theorem bWe (l:List Int) (m:Int) (hl:l.length≤1048576):∀ (n i:Nat),i≤l.length→l.length<i+n →
  (aBf bXg aAa (sg [pSl 3,pI] [rI]) Tryz.f134 [.r,.l,.r,.b] n (bXf (l.map aF3) m l.length i)).eval=some [.int .i64 (aCn (fun x=>decide (x=m)) (l.drop i) i)]:=by
 intro n
 induction n with
 |zero=>intro i h1 h2;omega
 |succ n ih =>
  intro i h1 h2
  rw[aAi _ _ _ _ _ _ _ (by kernel_rfl),bPn]
  by_cases hi:i<l.length
  ·have g:=aAv aF3 l 0 i hi
   have w:IntKind.i64.wrap ((i:Int)+1)=((i+1:Nat):Int):=by rw[aAd]<;>omega
   have hz:(0:Int)≤i:=by omega
   have hi':(i:Int)<l.length:=by omega
   rw[aB9 l i 0 hi]
   generalize l.getD i 0=y at g ⊢
   simp only[aA0,aA1,aA2,if_true,decide_eq_true_eq,Bool.and_eq_true,w,hz,hi',Int.toNat_natCast,List.length_map,g,and_self,List.getD_cons_zero,C.toInt,C.is,List.length_cons,List.length_nil,Nat.zero_add,Nat.zero_lt_succ,decide_true,beq_iff_eq,aCn]
   by_cases hy:y=m
   ·simp only[hy,if_true]
   ·have hy':¬m=y:=fun h=>hy h.symm
    simp only[hy,hy',if_false]
    exact ih (i+1) (by omega) (by omega)
  ·have e:i=l.length:=by omega
   subst e
   have hi':¬((l.length:Int)<(l.length:Int)):=by omega
   simp only[aA1,aA2,decide_eq_true_eq,hi',if_false,List.drop_length,aCn]
theorem cC0:aA6 Tryz.prog bXg:=aA5 (by simp[])
theorem bT2:aAn Tryz.prog 134 (sg [pSl 3,pI] [rI]) bCu:=aA4 cC0 aA7 Tryz.func134 (by kernel_rfl) fun cs outs hk h=>by
 unfold bCu at h
 split at h
 ·simp only[Option.some.injEq,Prod.mk.injEq,Bool.and_eq_true,decide_eq_true_eq]at h
  obtain⟨⟨h1,h2⟩,rfl⟩:=h
  rename_i rows m
  have hr:=aIr h1
  generalize aC1 rows=l at hr ⊢
  subst hr
  rw[List.length_map]at h2
  rw[aA9,bWd]
  have lp:=bWe l m h2 9223372036854775808 0 (by omega) (by omega)
  refine Eq.trans ?_ lp
  rw[aJu aF3 l]
  rfl
 ·cases h
theorem cB8:aA6 Tryz.prog bY6:=aA5 (by simp[bT2])
theorem bQj:aAn Tryz.prog 104 (sg [pSl 3,pI] [rB]) aMx:=aA4 cB8 aA7 Tryz.func104 (by kernel_rfl) fun cs outs hk h=>by
 unfold aMx at h
 split at h
 ·simp only[Option.some.injEq,Prod.mk.injEq,Bool.and_eq_true,decide_eq_true_eq]at h
  obtain⟨⟨h1,h2⟩,rfl⟩:=h
  rename_i rows m
  rw[aA9,bU3]
  simp only[aA0,aA1,aA2,h1,h2,decide_true,Bool.and_self,if_true,C.toInt,decide_eq_true_eq,bT7]
  cases bLr (aC1 rows) m<;>rfl
 ·cases h
theorem bLe (l:List En) (hl:l.length≤1048576):∀ (n i:Nat) (acc:List (List UInt8)),i≤l.length→l.length<i+n→acc.length=i →
  (aBf aUl aAa (sg [aB2] [rSl 9]) Tryz.f102 [.r,.r,.l,.r,.b] n (aU8 acc.length (acc.map aB5) (l.map eEn) l.length i)).eval=some [.sl ((acc++aC9 (l.drop i)).map aB5)]:=by
 intro n
 induction n with
 |zero=>intro i acc h1 h2;omega
 |succ n ih =>
  intro i acc h1 h2 h3
  rw[aAi _ _ _ _ _ _ _ (by kernel_rfl),bDc]
  by_cases hi:i<l.length
  ·have g:=aAv eEn l ⟨[],0⟩ i hi
   have w:IntKind.i64.wrap ((i:Int)+1)=((i+1:Nat):Int):=by rw[aAd]<;>omega
   have hz:(0:Int)≤i:=by omega
   have hi':(i:Int)<l.length:=by omega
   rw[aB9 l i ⟨[],0⟩ hi,bA0]
   generalize l.getD i ⟨[],0⟩=y at g ⊢
   have ro:aBb (acc.length+1) 16=true:=by simp only[aBb,decide_eq_true_eq];omega
   have e2:=ih (i+1) (acc++[y.name]) (by omega) (by omega) (by simp;omega)
   rw[List.length_append]at e2
   simp only[List.length_cons,List.length_nil,Nat.zero_add,List.append_assoc,List.cons_append,List.nil_append]at e2
   simp only[aA0,aA1,if_true,decide_eq_true_eq,Bool.and_eq_true,w,hz,hi',Int.toNat_natCast,List.length_map,g,and_self,List.getD_cons_zero,List.getD_cons_succ,C.toStr,C.is,List.length_cons,List.length_nil,Nat.zero_add,Nat.reduceAdd,Nat.reduceLT,Nat.zero_lt_succ,decide_true,beq_self_eq_true,ro,Bool.and_self,cCc]
   exact e2
  ·have e:i=l.length:=by omega
   subst e
   have hi':¬((l.length:Int)<(l.length:Int)):=by omega
   simp only[aA0,aA1,aA2,decide_eq_true_eq,List.length_map,hi',if_false,aEl,decide_true,Bool.or_true,Bool.and_self,if_true,List.drop_length,aC9,List.map_nil,List.append_nil]
theorem bWl:aA6 Tryz.prog aUl:=aA5 (by simp[])
theorem bGz:aAn Tryz.prog 102 (sg [aB2] [rSl 9]) aW0:=aA4 bWl aA7 Tryz.func102 (by kernel_rfl) fun cs outs hk h=>by
 unfold aW0 at h
 split at h
 ·simp only[Option.some.injEq,Prod.mk.injEq,Bool.and_eq_true,decide_eq_true_eq]at h
  obtain⟨⟨h1,h2⟩,rfl⟩:=h
  rename_i ns es os ss r x
  have hr:=aFc h1
  generalize ens es=l at hr ⊢
  subst hr
  rw[List.length_map]at h2
  rw[aA9,bLd]
  have lp:=bLe l h2 9223372036854775808 0 [] (by omega) (by omega) rfl
  refine Eq.trans ?_ lp
  rw[aJu eEn l]
  rfl
 ·cases h
theorem cCb (acc:List Int) (y:Int):(acc.map aF3).append [[C.int .i64 y]]=(acc++[y]).map aF3:=by simp
theorem bLn (c:List Lk) (hl:c.length≤16):∀ (n i:Nat) (acc:List Int),i≤c.length→c.length<i+n→acc.length=i →
  (aBf aUm aAa (sg [aB2] [rSl 3]) Tryz.f100 [.r,.r,.l,.r,.b] n (aU9 acc.length (acc.map aF3) c.length (aEi c) c.length i)).eval=some [.sl ((acc++(c.drop i).map fun x=>x.1).map aF3)]:=by
 intro n
 induction n with
 |zero=>intro i acc h1 h2;omega
 |succ n ih =>
  intro i acc h1 h2 h3
  rw[aAi _ _ _ _ _ _ _ (by kernel_rfl),bDi]
  by_cases hi:i<c.length
  ·have g:=bTh c i hi
   have w:IntKind.i64.wrap ((i:Int)+1)=((i+1:Nat):Int):=by rw[aAd]<;>omega
   have hz:(0:Int)≤i:=by omega
   have hi':(i:Int)<c.length:=by omega
   rw[aB9 c i (0,[]) hi]
   generalize c.getD i (0,[])=y at g ⊢
   have ro:aBb (acc.length+1) 8=true:=by simp only[aBb,decide_eq_true_eq];omega
   have e2:=ih (i+1) (acc++[y.1]) (by omega) (by omega) (by simp;omega)
   rw[List.length_append]at e2
   simp only[List.length_cons,List.length_nil,Nat.zero_add,List.append_assoc,List.cons_append,List.nil_append]at e2
   simp only[aA0,aA1,if_true,decide_eq_true_eq,Bool.and_eq_true,w,hz,hi',hi,Int.toNat_natCast,bGf,Nat.zero_add,g,and_self,List.getD_cons_zero,List.getD_cons_succ,C.toInt,C.is,List.length_cons,List.length_nil,Nat.reduceAdd,Nat.reduceLT,Nat.zero_lt_succ,decide_true,beq_self_eq_true,ro,Bool.and_self,List.length_map,cCb,List.map_cons]
   exact e2
  ·have e:i=c.length:=by omega
   subst e
   have hi':¬((c.length:Int)<(c.length:Int)):=by omega
   simp only[aA0,aA1,aA2,decide_eq_true_eq,List.length_map,hi',if_false,aWv,decide_true,Bool.or_true,Bool.and_self,if_true,List.drop_length,List.map_nil,List.append_nil]
theorem bWq:aA6 Tryz.prog aUm:=aA5 (by simp[aSp])
theorem bH7:aAn Tryz.prog 100 (sg [aB2] [rSl 3]) aHk:=aA4 bWq aA7 Tryz.func100 (by kernel_rfl) fun cs outs hk h=>by
 unfold aHk at h
 split at h
 ·simp only[Option.some.injEq,Prod.mk.injEq]at h
  obtain⟨hd,rfl⟩:=h
  rename_i ns es os ss r x
  rw[aA9,bLm]
  have hb:((aEi (aCe (nds ns) (ens es))).all fun row=>decide (row.length=11))=true:=by simp[aEi]
  have hn':(aCe (nds ns) (ens es)).length≤16:=aEs (nds ns) (ens es) 16 0 0
  have lp:=bLn (aCe (nds ns) (ens es)) hn' 9223372036854775808 0 [] (by omega) (by omega) rfl
  simp only[aA0,hd,hb,Bool.and_self,if_true]
  rw[bKb]
  refine Eq.trans ?_ lp
  rw[←bGf]
  rfl
 ·cases h
theorem bSt:aA6 Tryz.prog bIc:=aA5 (by simp[aM1,bQj])
theorem aJr:aAn Tryz.prog 103 (sg [pS,pP] [rB]) aHe:=aA4 bSt aA7 Tryz.func103 (by kernel_rfl) fun cs outs hk h=>by
 unfold aHe at h
 split at h
 ·simp only[Option.some.injEq,Prod.mk.injEq,Bool.and_eq_true,decide_eq_true_eq]at h
  obtain⟨⟨h1,h2,h3⟩,rfl⟩:=h
  rename_i s bs
  rw[aA9,bGd]
  simp only[aA0,aA1,aA2,h1,h2,h3,decide_true,Bool.and_self,if_true,decide_eq_true_eq,aCi]
  by_cases k0:aBy s=0
  ·simp[k0]
  ·by_cases k1:aBy s=1
   ·cases bLr (aC1 bs) (aIs s)<;>simp[k1]
   ·simp[k0,k1]
 ·cases h
theorem bE5 (r bs:List (List C)):bZk r bs=true↔aAf [.str] r=true∧r.length≤1048576∧(∀ x∈aCb r,x.length≤1048576)∧aAf [.int .i64] bs=true∧bs.length≤1048576:=by
 simp only[bZk,aOu,Bool.and_eq_true,decide_eq_true_eq,List.all_eq_true]
theorem bKv (l:List (List UInt8)) (bs:List (List C)) (hl:l.length≤1048576) (hr:∀ r∈l,r.length≤1048576) (hb1:aAf [.int .i64] bs=true) (hb2:bs.length≤1048576):∀ (n i:Nat),i≤l.length→l.length<i+n →
  (aBf aUk aAa (sg [pSl 9,pF] [rI]) Tryz.f133 [.r,.l,.r,.b] n (aU7 (l.map aB5) bs l.length i)).eval=some [.int .i64 (aCn (aCi (aC1 bs)) (l.drop i) i)]:=by
 intro n
 induction n with
 |zero=>intro i h1 h2;omega
 |succ n ih =>
  intro i h1 h2
  rw[aAi _ _ _ _ _ _ _ (by kernel_rfl),bCt]
  by_cases hi:i<l.length
  ·have g:=aAv aB5 l [] i hi
   have w:IntKind.i64.wrap ((i:Int)+1)=((i+1:Nat):Int):=by rw[aAd]<;>omega
   have hz:(0:Int)≤i:=by omega
   have hi':(i:Int)<l.length:=by omega
   have hm:l.getD i []∈l:=by rw[List.getD_eq_getElem?_getD,List.getElem?_eq_getElem hi];exact List.getElem_mem hi
   have hx:=hr _ hm
   rw[aB9 l i [] hi]
   generalize l.getD i []=y at g hx ⊢
   simp only[aA0,aA1,aA2,if_true,decide_eq_true_eq,Bool.and_eq_true,w,hz,hi',Int.toNat_natCast,List.length_map,g,and_self,List.getD_cons_zero,C.toStr,C.is,List.length_cons,List.length_nil,Nat.zero_add,Nat.zero_lt_succ,decide_true,hx,hb1,hb2,aCn]
   cases hy:aCi (aC1 bs) y with
   |true=>simp only[if_true]
   |false =>
    simp only[Bool.false_eq_true,if_false]
    exact ih (i+1) (by omega) (by omega)
  ·have e:i=l.length:=by omega
   subst e
   have hi':¬((l.length:Int)<(l.length:Int)):=by omega
   simp only[aA1,aA2,decide_eq_true_eq,hi',if_false,List.drop_length,aCn]
theorem bWf:aA6 Tryz.prog aUk:=aA5 (by simp[aJr])
theorem aSq:aAn Tryz.prog 133 (sg [pSl 9,pF] [rI]) aMw:=aA4 bWf aA7 Tryz.func133 (by kernel_rfl) fun cs outs hk h=>by
 unfold aMw at h
 split at h
 ·simp only[Option.some.injEq,Prod.mk.injEq,Bool.and_eq_true,decide_eq_true_eq]at h
  obtain⟨⟨rfl,h1⟩,rfl⟩:=h
  rename_i rows bs
  obtain⟨h1,h2,h3,h4,h5⟩:=(bE5 _ _).1 h1
  have hr:=aDa h1
  generalize aCb rows=l at hr h3 ⊢
  subst hr
  rw[List.length_map]at h2
  rw[aA9,bKu]
  have lp:=bKv l bs h2 h3 h4 h5 9223372036854775808 0 (by omega) (by omega)
  refine Eq.trans ?_ lp
  rw[aJu aB5 l]
  rfl
 ·cases h
theorem bU1 (l:List (List UInt8)) (bs:List (List C)) (hl:l.length≤1048576) (hr:∀ r∈l,r.length≤1048576) (hb1:aAf [.int .i64] bs=true) (hb2:bs.length≤1048576):∀ (n i j:Nat) (m:List (List UInt8)),j≤l.length→l.length<j+n→i<j→m.length=l.length →
  m.take i=(l.take j).filter (fun s=> !aCi (aC1 bs) s)→m.drop j=l.drop j →
  (aBf bO3 aAa (sg [.wr false [(.slice 9,true)],pF] [⟨false,[(.back 9 0,true)]⟩]) Tryz.f101 [.r,.r,.r,.l,.r,.b] n (bI0 l.length bs i j (m.map aB5))).eval=some [.sl ((aGd (aC1 bs) l).map aB5),.sl ((bEq (aC1 bs) l).map aB5)]:=by
 intro n
 induction n with
 |zero=>intro i j m h1 h2;omega
 |succ n ih =>
  intro i j m h1 h2 h3 h4 h5 h6
  rw[aAi _ _ _ _ _ _ _ (by kernel_rfl),bM7]
  have hz:(0:Int)≤j:=by omega
  have hzi:(0:Int)≤i:=by omega
  have wi:IntKind.i64.wrap ((i:Int)+1)=((i+1:Nat):Int):=by rw[aAd]<;>omega
  have wj:IntKind.i64.wrap ((j:Int)+1)=((j+1:Nat):Int):=by rw[aAd]<;>omega
  by_cases hj:j<l.length
  ·have g:=aAv aB5 m [] j (by omega)
   have gi:=aAv aB5 m [] i (by omega)
   have hjm:m.getD j []=l.getD j []:=by
    have e1:(m.drop j).getD 0 []=(l.drop j).getD 0 []:=by rw[h6]
    simpa[List.getD_eq_getElem?_getD]using e1
   rw[hjm]at g
   have hj':(j:Int)<l.length:=by omega
   have hi':(i:Int)<l.length:=by omega
   have hjl:j<m.length:=by omega
   have hil:i<m.length:=by omega
   have hm:l.getD j []∈l:=by rw[List.getD_eq_getElem?_getD,List.getElem?_eq_getElem hj];exact List.getElem_mem hj
   have hx:=hr _ hm
   have tk:l.take (j+1)=l.take j++[l.getD j []]:=by rw[List.take_succ_eq_append_getElem hj];simp[List.getD_eq_getElem?_getD,hj]
   have dk:m.drop (j+1)=l.drop (j+1):=by rw[←List.drop_drop,h6,List.drop_drop]
   generalize l.getD j []=y at g hx tk
   simp only[aA0,aA1,aA2,if_true,decide_eq_true_eq,Bool.and_eq_true,wi,wj,hz,hzi,hj',hi',hjl,hil,Int.toNat_natCast,List.length_map,Nat.zero_add,g,gi,and_self,List.getD_cons_zero,C.toStr,C.is,List.length_cons,List.length_nil,Nat.zero_lt_succ,decide_true,hx,hb1,hb2,List.drop_succ_cons,List.drop_zero]
   cases hy:aCi (aC1 bs) y with
   |true =>
    simp only[if_true]
    exact ih i (j+1) m (by omega) (by omega) (by omega) h4 (by rw[h5,tk,List.filter_append];simp[hy]) dk
   |false =>
    simp only[Bool.false_eq_true,if_false]
    have es:(m.map aB5).set i [C.str y]=(m.set i y).map aB5:=by rw[List.map_set]
    rw[es]
    exact ih (i+1) (j+1) (m.set i y) (by omega) (by omega) (by omega) (by simpa using h4) (by
     rw[List.take_succ_eq_append_getElem (by simpa using hil),List.take_set_of_le (Nat.le_refl _),h5,tk,List.filter_append]
     simp[hy]) (by rw[List.drop_set_of_lt (by omega)];exact dk)
  ·have e:j=l.length:=by omega
   subst e
   have hj':¬((l.length:Int)<(l.length:Int)):=by omega
   have hil:(i:Int)≤l.length:=by omega
   have hni:0<l.length-i:=by omega
   have hsum:i+(l.length-i)=l.length:=by omega
   rw[List.take_length]at h5
   have hk:aGd (aC1 bs) l=m.take i:=h5.symm
   have hkl:(aGd (aC1 bs) l).length=i:=by rw[hk];simp;omega
   have hd:List.drop l.length (m.map aB5)=[]:=by rw[List.drop_eq_nil_iff];simp;omega
   have hpad:(List.take i (m.map aB5)).append (List.replicate (l.length-i) [C.str []])=(bEq (aC1 bs) l).map aB5:=by
    have e1:bEq (aC1 bs) l=aGd (aC1 bs) l++List.replicate (l.length-(aGd (aC1 bs) l).length) []:=rfl
    rw[e1,hkl,hk]
    simp[List.map_take]
   have hpl:(bEq (aC1 bs) l).length=l.length:=by
    have e1:bEq (aC1 bs) l=aGd (aC1 bs) l++List.replicate (l.length-(aGd (aC1 bs) l).length) []:=rfl
    rw[e1,hkl]
    simp[hkl]
    omega
   have htk:List.take i ((bEq (aC1 bs) l).map aB5)=(aGd (aC1 bs) l).map aB5:=by
    have e1:bEq (aC1 bs) l=aGd (aC1 bs) l++List.replicate (l.length-(aGd (aC1 bs) l).length) []:=rfl
    rw[e1,←List.map_take]
    rw[List.take_append_of_le_length (by omega),List.take_of_length_le (by omega)]
   have hle:i≤l.length:=by omega
   have happ:((bEq (aC1 bs) l).map aB5).append []=(bEq (aC1 bs) l).map aB5:=List.append_nil _
   have hml:l.length≤m.length:=by omega
   simp only[aA0,aA1,aA2,decide_eq_true_eq,hj',if_false,hzi,hil,hni,hsum,Int.toNat_natCast,Nat.zero_add,Nat.sub_zero,List.length_map,hml,hd,hpad,happ,hpl,htk,hle,aEl,decide_true,Bool.and_self,Bool.or_true,Bool.and_true,if_true]
theorem cB6:aA6 Tryz.prog bO3:=aA5 (by simp[aSq,aJr])
theorem bQi:aAn Tryz.prog 101 (sg [.wr false [(.slice 9,true)],pF] [⟨false,[(.back 9 0,true)]⟩]) bM6:=aA4 cB6 aA7 Tryz.func101 (by kernel_rfl) fun cs outs hk h=>by
 unfold bM6 at h
 split at h
 ·simp only[Option.some.injEq,Prod.mk.injEq,Bool.and_eq_true,decide_eq_true_eq]at h
  obtain⟨⟨rfl,h0⟩,rfl⟩:=h
  rename_i rows bs
  obtain⟨h1,h2,h3,h4,h5⟩:=(bE5 _ _).1 h0
  have hr:=aDa h1
  generalize aCb rows=l at hr h3 ⊢
  subst hr
  rw[List.length_map]at h2
  rw[aA9,bU0]
  simp only[List.take_length,h0,aJo,aEl,aG3,aA0,aA1,aA2,decide_true,Bool.and_self,Bool.or_true,Nat.zero_lt_one,Nat.le_refl,if_true,C.toInt,decide_eq_true_eq]
  rcases bPr (aCi (aC1 bs)) l 0 with⟨i1,i2⟩ | ⟨d,i1,i2,i3⟩
  ·have hk:aGd (aC1 bs) l=l:=by
    unfold aGd
    rw[List.filter_eq_self]
    intro x hx
    simp[i2 x hx]
   have hp:bEq (aC1 bs) l=l:=by
    have e1:bEq (aC1 bs) l=aGd (aC1 bs) l++List.replicate (l.length-(aGd (aC1 bs) l).length) []:=rfl
    rw[e1,hk]
    simp
   simp only[i1,if_true,hk,hp]
  ·rw[Nat.zero_add]at i2
   have c:¬((d:Int)= -1):=by omega
   have w:IntKind.i64.wrap ((d:Int)+1)=((d+1:Nat):Int):=by rw[aAd]<;>omega
   have lp:=bU1 l bs h2 h3 h4 h5 9223372036854775808 d (d+1) l (by omega) (by omega) (by omega) rfl i3.symm rfl
   simp only[i2,c,if_false,w]
   refine Eq.trans ?_ lp
   rw[aJu aB5 l]
 ·cases h
theorem bPl (bs:List Int) (l:List (List UInt8)):aGd bs l=aLr bs l:=by
 unfold aGd aLr
 congr 1
 funext s
 rw[bQg bs s (bYq s)]
 simp
theorem bRe (bs:List Int) (l:List (List UInt8)):List.take (aGd bs l).length ((bEq bs l).map aB5)=(aGd bs l).map aB5∧(bEq bs l).length=l.length∧(aGd bs l).length≤l.length:=by
 have e1:bEq bs l=aGd bs l++List.replicate (l.length-(aGd bs l).length) []:=rfl
 have hle:(aGd bs l).length≤l.length:=List.length_filter_le _ _
 refine⟨?_,?_,hle⟩
 ·rw[e1,←List.map_take,List.take_append_of_le_length (Nat.le_refl _),List.take_length]
 ·rw[e1];simp;omega
theorem bWm:aA6 Tryz.prog bNw:=aA5 (by simp[bGz,bH7,aJr,bQi])
theorem bH1:aAn Tryz.prog 60 (⟨[aB2],[cBo 9],true⟩) aIw:=aA4 bWm aA7 Tryz.func60 (by kernel_rfl) fun cs outs hk h=>by
 unfold aIw at h
 split at h
 ·simp only[Option.some.injEq,Prod.mk.injEq,Bool.and_eq_true]at h
  obtain⟨⟨hd,he⟩,rfl⟩:=h
  rename_i ns es os ss r x
  obtain⟨h1,h2,h3⟩:=(aTw _).1 he
  rw[aA9,bLf]
  have hn':(aCe (nds ns) (ens es)).length≤16:=aEs (nds ns) (ens es) 16 0 0
  have ecb:aBd (aCe (nds ns) (ens es))=(aIj (nds ns) (ens es)).map aF3:=bKb _
  have hcl:(aIj (nds ns) (ens es)).length≤1048576:=by unfold aIj;simp;omega
  have hnl:(aC9 (ens es)).length≤1048576:=by unfold aC9;rw[List.length_map,aX4];exact h2
  have hnt:∀ x∈aC9 (ens es),x.length≤1048576:=fun x hx=>by
   obtain⟨e,he1,rfl⟩:=List.mem_map.1 hx
   exact h3 e he1
  have hc:bZk ((aC9 (ens es)).map aB5) ((aIj (nds ns) (ens es)).map aF3)=true:=by
   rw[bE5]
   exact⟨aEr _,by simpa using hnl,by simpa using hnt,aJm _,by simpa using hcl⟩
  have hL:aD7 ns es=aGd (aIj (nds ns) (ens es)) (aC9 (ens es)):=(bPl _ _).symm
  obtain⟨t1,t2,t3⟩:=bRe (aIj (nds ns) (ens es)) (aC9 (ens es))
  rw[hL]
  have tkb:List.take (aIj (nds ns) (ens es)).length ((aIj (nds ns) (ens es)).map aF3)=(aIj (nds ns) (ens es)).map aF3:=by rw[List.take_of_length_le];simp
  simp only[ecb,tkb,List.take_length,List.length_map,aTt,aG3,t1,t2,t3,hc,hd,h1,h2,aJo,aKp,aA0,aA2,decide_true,Bool.and_self,Bool.and_true,Bool.true_and,if_true]
 ·cases h
noncomputable section
def bX5:Nat→Nat→List UInt8→List UInt8
 |0,_,out=>out
 |f+1,k,out=>if k=0 then out else bX5 f (k / 10) (UInt8.ofNat (48+k % 10)::out)
def aC8 (k:Int):List UInt8:=if k≤0 then[109,48]else 109::bX5 20 k.toNat []
def aE0:aC3:=fun cs=>match cs with
 |[.int .i64 k]=>some (decide (k≤4611686018427387904),[.str (aC8 k)])
 |_=>none
def aHo (k:Int) (out:List UInt8):St:=st0 [(0,aAw k),(3,bEp out)]
def aHp:Env:=mkE [(4,[0,3])] []
def mk (f:Int→List C) (s k:Int) (n:Nat):List (List C):=(List.range n).map fun (i:Nat)=>f (k+s*(i:Int))
def mkS (k:Int):List C:=aB5 (aC8 k)
def aW2:aC3:=fun cs=>match cs with
 |[.sl rows,.int .i64 k]=>some (aAf [.str] rows&&(decide (rows.length≤1073741824)&&(decide (0≤k)&&decide (k≤1099511627776))),[.int .i64 (k+rows.length),.sl (mk mkS 1 k rows.length)])
 |_=>none
def aU2 (n:Nat) (r:List (List C)) (k i:Int):St:={slots:=[(0,.l (.ref 0 0 n)),(1,aAw k),(5,aAw i)],heap:=[(0,.arr 1 r)],next:=1,pins:=[0]}
def pWS:PTy:=.wr false [(.slice 9,true)]
def aUf:Env:=mkE [(2,[0,1,5])] [(68,(sg [pI] [rS]),aE0)]
def mkN (k:Int):List C:=[.int .i64 k,.str (aC8 (k+1)),.int .i64 (k+2)]
def aSn (k:Int):List C:=[.str (aC8 k),.int .i64 (k+1)]
def aW4:aC3:=fun cs=>match cs with
 |[.sl rows,.int .i64 k]=>some (aAf kNd rows&&(decide (rows.length≤1048576)&&(decide (0≤k)&&decide (k≤1099511627776))),[.int .i64 (k+3*rows.length),.sl (mk mkN 3 k rows.length)])
 |_=>none
def aW5:aC3:=fun cs=>match cs with
 |[.sl rows,.int .i64 k]=>some (aAf kEn rows&&(decide (rows.length≤1048576)&&(decide (0≤k)&&decide (k≤1099511627776))),[.int .i64 (k+2*rows.length),.sl (mk aSn 2 k rows.length)])
 |_=>none
def pWN:PTy:=.wr false [(.slice 70,true)]
def pWE:PTy:=.wr false [(.slice 97,true)]
def bSg:PTy:=.wr true [(.slice 70,true),(.slice 97,true),(.slice 97,true),(.slice 9,true),(.int .i64,false),(.int .i64,false)]
def cB5 (k:Int) (a b c d:Nat):Int:=k+3*a+2*b+2*c+d
def aW6:aC3:=fun cs=>match cs with
 |[.sl ns,.sl es,.sl os,.sl ss,.int .i64 _,.int .i64 _,.int .i64 k]=>some (aBe ns es os ss&&(aBm 1048576 ns es os ss&&(decide (0≤k)&&decide (k≤1073741824))),[.int .i64 (cB5 k ns.length es.length os.length ss.length),
   .sl (mk mkN 3 k ns.length),.sl (mk aSn 2 (k+3*ns.length) es.length),.sl (mk aSn 2 (k+3*ns.length+2*es.length) os.length),.sl (mk mkS 1 (k+3*ns.length+2*es.length+2*os.length) ss.length)])
 |_=>none
def aU4 (n:Nat) (r:List (List C)) (k i:Int):St:={slots:=[(0,.l (.ref 0 0 n)),(1,aAw k),(5,aAw i)],heap:=[(0,.arr 3 r)],next:=1,pins:=[0]}
def aU5 (n:Nat) (r:List (List C)) (k i:Int):St:={slots:=[(0,.l (.ref 0 0 n)),(1,aAw k),(5,aAw i)],heap:=[(0,.arr 2 r)],next:=1,pins:=[0]}
def aUh:Env:=mkE [(2,[0,1,5])] [(68,(sg [pI] [rS]),aE0)]
def aUi:Env:=mkE [(2,[0,1,5])] [(68,(sg [pI] [rS]),aE0)]
def bNr:Env:=mkE [] [(45,(sg [pWS,pI] [rI]),aW2),(43,(sg [pWN,pI] [rI]),aW4),(44,(sg [pWE,pI] [rI]),aW5)]
end
theorem aYu (H:List Pt→Nat→St→T (List C)) (k:Int):(aAg aHp aAa (sg [pI] [rS]) Tryz.f68 H [C.int .i64 k]).eval=((.ask (decide (k≤(0:Int))) (.ret [C.str [(109:UInt8),48]]) (H [Pt.r,Pt.r,Pt.r,Pt.l,Pt.b] 9223372036854775808 (aHo (k) ([])))):T (List C)).eval:=aAc (by kernel_rfl)
theorem aKt (H:List Pt→Nat→St→T (List C)) (kk:Int) (o:List UInt8) (k:Nat):(aB1 aHp aAa (sg [pI] [rS]) Tryz.f68 H [Pt.r,Pt.r,Pt.r,Pt.l,Pt.b] k (aHo kk o)).eval=((.ask (decide ((0:Int)<kk)) (.must (decide ((aCo [[C.int .u8 (IntKind.u8.wrap (IntKind.i64.wrap ((48:Int)+kk.tmod 10)))]]).length+o.length≤9223372036854775807)) (H [Pt.r,Pt.r,Pt.r,Pt.l,Pt.b] k (aHo (IntKind.i64.wrap (kk.tdiv 10)) (aCo [[C.int .u8 (IntKind.u8.wrap (IntKind.i64.wrap ((48:Int)+kk.tmod 10)))]]++o)))) (.must (decide (1+o.length≤9223372036854775807)) (.ret [C.str ([(109:UInt8)]++o)]))):T (List C)).eval:=aAc (by kernel_rfl)
theorem bKh (H:List Pt→Nat→St→T (List C)) (r:List (List C)) (k:Int):(aAg aUf aAa (sg [pWS,pI] [rI]) Tryz.f45 H [C.sl r,C.int .i64 k]).eval=((.must ((true&&r.all fun row=>decide (row.length=1))&&true&&(decide (0<1)&&true&&true&&true)) (H [Pt.r,Pt.l,Pt.r,Pt.b] 9223372036854775808 (aU2 (r.length) (r) (k) ((0:Int))))):T (List C)).eval:=aAc (by kernel_rfl)
theorem bCl (H:List Pt→Nat→St→T (List C)) (n:Nat) (r:List (List C)) (kk:Int) (i:Int) (k:Nat):(aB1 aUf aAa (sg [pWS,pI] [rI]) Tryz.f45 H [Pt.r,Pt.l,Pt.r,Pt.b] k (aU2 n r kk i)).eval=((.ask (decide (i<(↑n:Int))) (.must (decide (kk≤(4611686018427387904:Int))) (.must (decide ((0:Int)≤i)&&decide (i<(↑n:Int))) (.must (decide (0+i.toNat<r.length)) (H [Pt.r,Pt.l,Pt.r,Pt.b] k (aU2 (n) (r.set (0+i.toNat) (C.str (aC8 kk)::List.drop (0+1) (r.getD (0+i.toNat) []))) (IntKind.i64.wrap (kk+(1:Int))) (IntKind.i64.wrap (i+(1:Int)))))))) (.must (true&&(false||true)&&true&&true&&((false||r.all fun r=>r.all C.flat)&&true&&true)) (.ret [C.int .i64 kk,C.sl r]))):T (List C)).eval:=aAc (by kernel_rfl)
theorem bKl (H:List Pt→Nat→St→T (List C)) (r:List (List C)) (k:Int):(aAg aUh aAa (sg [pWN,pI] [rI]) Tryz.f43 H [C.sl r,C.int .i64 k]).eval=((.must ((true&&r.all fun row=>decide (row.length=3))&&true&&(decide (0<1)&&true&&true&&true)) (H [Pt.r,Pt.l,Pt.r,Pt.b] 9223372036854775808 (aU4 (r.length) (r) (k) ((0:Int))))):T (List C)).eval:=aAc (by kernel_rfl)
theorem bKn (H:List Pt→Nat→St→T (List C)) (r:List (List C)) (k:Int):(aAg aUi aAa (sg [pWE,pI] [rI]) Tryz.f44 H [C.sl r,C.int .i64 k]).eval=((.must ((true&&r.all fun row=>decide (row.length=2))&&true&&(decide (0<1)&&true&&true&&true)) (H [Pt.r,Pt.l,Pt.r,Pt.b] 9223372036854775808 (aU5 (r.length) (r) (k) ((0:Int))))):T (List C)).eval:=aAc (by kernel_rfl)
theorem bCn (H:List Pt→Nat→St→T (List C)) (n:Nat) (r:List (List C)) (kk:Int) (i:Int) (k:Nat):(aB1 aUh aAa (sg [pWN,pI] [rI]) Tryz.f43 H [Pt.r,Pt.l,Pt.r,Pt.b] k (aU4 n r kk i)).eval=((.ask (decide (i<(↑n:Int))) (.must (decide ((0:Int)≤i)&&decide (i<(↑n:Int))) (.must (decide (0+i.toNat<r.length)) (.must (decide (IntKind.i64.wrap (kk+(1:Int))≤(4611686018427387904:Int))) (.must (decide ((0:Int)≤i)&&decide (i<(↑n:Int))) (.must (decide (0+i.toNat<(r.set (0+i.toNat) (C.int .i64 kk::List.drop (0+0+1) (r.getD (0+i.toNat) []))).length)) (.must (decide ((0:Int)≤i)&&decide (i<(↑n:Int))) (.must (decide (0+i.toNat<((r.set (0+i.toNat) (C.int .i64 kk::List.drop (0+0+1) (r.getD (0+i.toNat) []))).set (0+i.toNat) (((List.take (0+1) ((r.set (0+i.toNat) (C.int .i64 kk::List.drop (0+0+1) (r.getD (0+i.toNat) []))).getD (0+i.toNat) [])).append [C.str (aC8 (IntKind.i64.wrap (kk+(1:Int))))]).append (List.drop (0+1+1) ((r.set (0+i.toNat) (C.int .i64 kk::List.drop (0+0+1) (r.getD (0+i.toNat) []))).getD (0+i.toNat) [])))).length)) (H [Pt.r,Pt.l,Pt.r,Pt.b] k (aU4 (n) (((r.set (0+i.toNat) (C.int .i64 kk::List.drop (0+0+1) (r.getD (0+i.toNat) []))).set (0+i.toNat) (((List.take (0+1) ((r.set (0+i.toNat) (C.int .i64 kk::List.drop (0+0+1) (r.getD (0+i.toNat) []))).getD (0+i.toNat) [])).append [C.str (aC8 (IntKind.i64.wrap (kk+(1:Int))))]).append (List.drop (0+1+1) ((r.set (0+i.toNat) (C.int .i64 kk::List.drop (0+0+1) (r.getD (0+i.toNat) []))).getD (0+i.toNat) [])))).set (0+i.toNat) (((List.take (0+2) (((r.set (0+i.toNat) (C.int .i64 kk::List.drop (0+0+1) (r.getD (0+i.toNat) []))).set (0+i.toNat) (((List.take (0+1) ((r.set (0+i.toNat) (C.int .i64 kk::List.drop (0+0+1) (r.getD (0+i.toNat) []))).getD (0+i.toNat) [])).append [C.str (aC8 (IntKind.i64.wrap (kk+(1:Int))))]).append (List.drop (0+1+1) ((r.set (0+i.toNat) (C.int .i64 kk::List.drop (0+0+1) (r.getD (0+i.toNat) []))).getD (0+i.toNat) [])))).getD (0+i.toNat) [])).append [C.int .i64 (IntKind.i64.wrap (IntKind.i64.wrap (kk+(1:Int))+(1:Int)))]).append (List.drop (0+2+1) (((r.set (0+i.toNat) (C.int .i64 kk::List.drop (0+0+1) (r.getD (0+i.toNat) []))).set (0+i.toNat) (((List.take (0+1) ((r.set (0+i.toNat) (C.int .i64 kk::List.drop (0+0+1) (r.getD (0+i.toNat) []))).getD (0+i.toNat) [])).append [C.str (aC8 (IntKind.i64.wrap (kk+(1:Int))))]).append (List.drop (0+1+1) ((r.set (0+i.toNat) (C.int .i64 kk::List.drop (0+0+1) (r.getD (0+i.toNat) []))).getD (0+i.toNat) [])))).getD (0+i.toNat) [])))) (IntKind.i64.wrap (IntKind.i64.wrap (IntKind.i64.wrap (kk+(1:Int))+(1:Int))+(1:Int))) (IntKind.i64.wrap (i+(1:Int)))))))))))) (.must (true&&(false||true)&&true&&true&&((false||r.all fun r=>r.all C.flat)&&true&&true)) (.ret [C.int .i64 kk,C.sl r]))):T (List C)).eval:=aAc (by kernel_rfl)
theorem bCo (H:List Pt→Nat→St→T (List C)) (n:Nat) (r:List (List C)) (kk:Int) (i:Int) (k:Nat):(aB1 aUi aAa (sg [pWE,pI] [rI]) Tryz.f44 H [Pt.r,Pt.l,Pt.r,Pt.b] k (aU5 n r kk i)).eval=((.ask (decide (i<(↑n:Int))) (.must (decide (kk≤(4611686018427387904:Int))) (.must (decide ((0:Int)≤i)&&decide (i<(↑n:Int))) (.must (decide (0+i.toNat<r.length)) (.must (decide ((0:Int)≤i)&&decide (i<(↑n:Int))) (.must (decide (0+i.toNat<(r.set (0+i.toNat) (C.str (aC8 kk)::List.drop (0+0+1) (r.getD (0+i.toNat) []))).length)) (H [Pt.r,Pt.l,Pt.r,Pt.b] k (aU5 (n) ((r.set (0+i.toNat) (C.str (aC8 kk)::List.drop (0+0+1) (r.getD (0+i.toNat) []))).set (0+i.toNat) (((List.take (0+1) ((r.set (0+i.toNat) (C.str (aC8 kk)::List.drop (0+0+1) (r.getD (0+i.toNat) []))).getD (0+i.toNat) [])).append [C.int .i64 (IntKind.i64.wrap (kk+(1:Int)))]).append (List.drop (0+1+1) ((r.set (0+i.toNat) (C.str (aC8 kk)::List.drop (0+0+1) (r.getD (0+i.toNat) []))).getD (0+i.toNat) [])))) (IntKind.i64.wrap (IntKind.i64.wrap (kk+(1:Int))+(1:Int))) (IntKind.i64.wrap (i+(1:Int)))))))))) (.must (true&&(false||true)&&true&&true&&((false||r.all fun r=>r.all C.flat)&&true&&true)) (.ret [C.int .i64 kk,C.sl r]))):T (List C)).eval:=aAc (by kernel_rfl)
theorem bKp (H:List Pt→Nat→St→T (List C)) (ns:List (List C)) (es:List (List C)) (os:List (List C)) (ss:List (List C)) (r:Int) (x:Int) (k:Int):(aAg bNr aAa (sg [bSg,pI] [rI]) Tryz.f17 H [C.sl ns,C.sl es,C.sl os,C.sl ss,C.int .i64 r,C.int .i64 x,C.int .i64 k]).eval=((.must ((true&&ns.all fun row=>decide (row.length=3))&&((true&&es.all fun row=>decide (row.length=2))&&((true&&os.all fun row=>decide (row.length=2))&&((true&&ss.all fun row=>decide (row.length=1))&&(decide (0<1)&&true&&(decide (0<1)&&true&&true)))))&&(decide (0<1)&&true&&true&&true)) (.must (true&&(true&&true)&&(decide (ns.length=ns.length)&&true&&true)) (.must (aAf [K.int .i64,K.str,K.int .i64] ns&&(decide (ns.length≤1048576)&&(decide ((0:Int)≤k)&&decide (k≤(1099511627776:Int))))) (.must (decide (0<1)&&true&&true&&true&&((decide ((mk mkN 3 k ns.length).length=ns.length)&&(mk mkN 3 k ns.length).all fun row=>decide (row.length=3))&&true&&true)) (.must (true&&(true&&true)&&(decide (es.length=es.length)&&true&&true)) (.must (aAf [K.str,K.int .i64] es&&(decide (es.length≤1048576)&&(decide ((0:Int)≤k+(3:Int)*(↑ns.length:Int))&&decide (k+(3:Int)*(↑ns.length:Int)≤(1099511627776:Int))))) (.must (decide (0<1)&&true&&true&&true&&((decide ((mk aSn 2 (k+(3:Int)*(↑ns.length:Int)) es.length).length=es.length)&&(mk aSn 2 (k+(3:Int)*(↑ns.length:Int)) es.length).all fun row=>decide (row.length=2))&&true&&true)) (.must (true&&(true&&true)&&(decide (os.length=os.length)&&true&&true)) (.must (aAf [K.str,K.int .i64] os&&(decide (os.length≤1048576)&&(decide ((0:Int)≤k+(3:Int)*(↑ns.length:Int)+(2:Int)*(↑es.length:Int))&&decide (k+(3:Int)*(↑ns.length:Int)+(2:Int)*(↑es.length:Int)≤(1099511627776:Int))))) (.must (decide (0<1)&&true&&true&&true&&((decide ((mk aSn 2 (k+(3:Int)*(↑ns.length:Int)+(2:Int)*(↑es.length:Int)) os.length).length=os.length)&&(mk aSn 2 (k+(3:Int)*(↑ns.length:Int)+(2:Int)*(↑es.length:Int)) os.length).all fun row=>decide (row.length=2))&&true&&true)) (.must (true&&(true&&true)&&(decide (ss.length=ss.length)&&true&&true)) (.must (aAf [K.str] ss&&(decide (ss.length≤1073741824)&&(decide ((0:Int)≤k+(3:Int)*(↑ns.length:Int)+(2:Int)*(↑es.length:Int)+(2:Int)*(↑os.length:Int))&&decide (k+(3:Int)*(↑ns.length:Int)+(2:Int)*(↑es.length:Int)+(2:Int)*(↑os.length:Int)≤(1099511627776:Int))))) (.must (decide (0<1)&&true&&true&&true&&((decide ((mk mkS 1 (k+(3:Int)*(↑ns.length:Int)+(2:Int)*(↑es.length:Int)+(2:Int)*(↑os.length:Int)) ss.length).length=ss.length)&&(mk mkS 1 (k+(3:Int)*(↑ns.length:Int)+(2:Int)*(↑es.length:Int)+(2:Int)*(↑os.length:Int)) ss.length).all fun row=>decide (row.length=1))&&true&&true)) (.must (true&&(false||true)&&true&&true&&((false||(mk mkN 3 k ns.length).all fun r=>r.all C.flat)&&((false||(mk aSn 2 (k+(3:Int)*(↑ns.length:Int)) es.length).all fun r=>r.all C.flat)&&((false||(mk aSn 2 (k+(3:Int)*(↑ns.length:Int)+(2:Int)*(↑es.length:Int)) os.length).all fun r=>r.all C.flat)&&((false||(mk mkS 1 (k+(3:Int)*(↑ns.length:Int)+(2:Int)*(↑es.length:Int)+(2:Int)*(↑os.length:Int)) ss.length).all fun r=>r.all C.flat)&&true)))&&true)) (.ret [C.int .i64 (k+(3:Int)*(↑ns.length:Int)+(2:Int)*(↑es.length:Int)+(2:Int)*(↑os.length:Int)+(↑ss.length:Int)),C.sl (mk mkN 3 k ns.length),C.sl (mk aSn 2 (k+(3:Int)*(↑ns.length:Int)) es.length),C.sl (mk aSn 2 (k+(3:Int)*(↑ns.length:Int)+(2:Int)*(↑es.length:Int)) os.length),C.sl (mk mkS 1 (k+(3:Int)*(↑ns.length:Int)+(2:Int)*(↑es.length:Int)+(2:Int)*(↑os.length:Int)) ss.length)]))))))))))))))):T (List C)).eval:=aAc (by kernel_rfl)
theorem aYv:∀ (f k:Nat) (o:List UInt8) (n:Nat),k<10^f→f<n→o.length+f≤1000→k≤4611686018427387904 →
  (aBf aHp aAa (sg [pI] [rS]) Tryz.f68 [.r,.r,.r,.l,.b] n (aHo k o)).eval=some [.str (109::bX5 f k o)]:=by
 have stop:∀ (f:Nat) (o:List UInt8) (n:Nat),0<n→o.length≤1000→(aBf aHp aAa (sg [pI] [rS]) Tryz.f68 [.r,.r,.r,.l,.b] n (aHo (0:Nat) o)).eval=some [.str (109::bX5 f 0 o)]:=by
  intro f o n hn ho
  obtain⟨m,rfl⟩:∃ m,n=m+1:=⟨n-1,by omega⟩
  rw[aAi _ _ _ _ _ _ _ (by kernel_rfl),aKt]
  have h1:1+o.length≤9223372036854775807:=by omega
  have h2:bX5 f 0 o=o:=by cases f<;>simp[bX5]
  have h3:¬((0:Int)<((0:Nat):Int)):=by omega
  simp only[aA1,aA0,aA2,decide_eq_true_eq,h3,if_false,h1,if_true,h2]
  rfl
 intro f
 induction f with
 |zero =>
  intro k o n hk hn ho _
  have:k=0:=by simpa using hk
  subst this
  exact stop 0 o n (by omega) (by omega)
 |succ f ih =>
  intro k o n hk hn ho hkk
  by_cases h0:k=0
  ·subst h0;exact stop (f+1) o n (by omega) (by omega)
  ·obtain⟨m,rfl⟩:∃ m,n=m+1:=⟨n-1,by omega⟩
   rw[aAi _ _ _ _ _ _ _ (by kernel_rfl),aKt]
   have hpos:(0:Int)<(k:Int):=by omega
   have e1:(k:Int).tmod 10=((k % 10:Nat):Int):=by rw[Int.tmod_eq_emod_of_nonneg (by omega)];omega
   have e2:(k:Int).tdiv 10=((k / 10:Nat):Int):=by rw[Int.tdiv_eq_ediv_of_nonneg (by omega)];omega
   have w1:IntKind.i64.wrap ((48:Int)+((k % 10:Nat):Int))=((48+k % 10:Nat):Int):=by rw[aAd]<;>omega
   have w2:IntKind.u8.wrap (((48+k % 10:Nat):Int))=((48+k % 10:Nat):Int):=by rw[aL4]<;>omega
   have w3:IntKind.i64.wrap (((k / 10:Nat):Int))=((k / 10:Nat):Int):=by rw[aAd]<;>omega
   have e3:aCo [[C.int IntKind.u8 ((48+k % 10:Nat):Int)]]=[UInt8.ofNat (48+k % 10)]:=by show[UInt8.ofNat (((48+k % 10:Nat):Int)).toNat]=_;rw[Int.toNat_natCast]
   have e4:bX5 (f+1) k o=bX5 f (k / 10) (UInt8.ofNat (48+k % 10)::o):=by simp[bX5,h0]
   rw[e1,w1,w2,e2,w3,e3,e4]
   have h1:1+o.length≤9223372036854775807:=by omega
   simp only[aA1,aA0,decide_eq_true_eq,hpos,if_true,List.length_cons,List.length_nil,Nat.zero_add,h1,List.cons_append,List.nil_append]
   exact ih (k / 10) _ m (by rw[Nat.pow_succ]at hk;omega) (by omega) (by simp;omega) (by omega)
theorem bKg:aA6 Tryz.prog aHp:=aA5 (by simp[])
theorem aE2:aAn Tryz.prog 68 (sg [pI] [rS]) aE0:=aA4 bKg aA7 Tryz.func68 (by kernel_rfl) fun cs outs hk h=>by
 unfold aE0 at h
 split at h
 ·simp only[Option.some.injEq,Prod.mk.injEq,decide_eq_true_eq]at h
  obtain⟨h1,rfl⟩:=h
  rename_i k
  rw[aA9,aYu]
  by_cases hk:k≤0
  ·simp only[aA1,aA2,decide_eq_true_eq,hk,if_true,aC8]
  ·obtain⟨m,rfl⟩:∃ m:Nat,k=m:=⟨k.toNat,by omega⟩
   have:=aYv 20 m [] 9223372036854775808 (by omega) (by omega) (by simp) (by omega)
   simp only[aA1,decide_eq_true_eq,hk,if_false,aC8,Int.toNat_natCast]
   exact this
 ·cases h
theorem aHc (f:Int→List C) (s k:Int) (n:Nat):(mk f s k n).length=n:=by simp[mk]
theorem bCe (f:Int→List C) (s k:Int) (n:Nat):mk f s k (n+1)=mk f s k n++[f (k+s*n)]:=by simp[mk,List.range_succ]
theorem aHd (f:Int→List C) (s k:Int) (n:Nat) (p:List C→Bool) (h:∀ k,p (f k)=true):(mk f s k n).all p=true:=by simp[mk,h]
theorem bB7 {A:Type} (a l:List A) (i:Nat) (x:A) (ha:a.length=i) (hi:i<l.length):(a++l.drop i).set i x=(a++[x])++l.drop (i+1):=by
 rw[List.drop_eq_getElem_cons hi,List.set_append_right _ _ (by omega),ha,Nat.sub_self,List.set_cons_zero,List.append_assoc]
 rfl
theorem aTv {A:Type} (a l:List A) (i:Nat) (d:A) (ha:a.length=i):(a++l.drop i).getD i d=l.getD i d:=by
 simp[List.getD_eq_getElem?_getD,List.getElem?_append_right,ha]
theorem aJx {A:Type} (l:List A) (i:Nat) (x d:A) (hi:i<l.length):(l.set i x).getD i d=x:=by
 simp[List.getD_eq_getElem?_getD,hi]
theorem aJn {ks:List K} {rows:List (List C)} (h:aAf ks rows=true) (i:Nat) (hi:i<rows.length):aB3 (rows.getD i []) ks=true:=by
 simp only[aAf,List.all_eq_true]at h
 exact h _ (by simp[List.getD_eq_getElem?_getD,hi])
theorem aEu {ks:List K} {rows:List (List C)} (h:aAf ks rows=true) (n:Nat) (hn:ks.length=n):(rows.all fun row=>decide (row.length=n))=true:=by
 have kl:∀ (cs:List C) (ks:List K),aB3 cs ks=true→cs.length=ks.length:=by
  intro cs
  induction cs with
  |nil=>intro ks h;cases ks<;>simp[aB3]at h ⊢
  |cons c cs ih=>intro ks h;cases ks<;>simp[aB3]at h ⊢;exact ih _ h.2
 simp only[aAf,List.all_eq_true]at h ⊢
 intro r hr
 simp[kl _ _ (h r hr),hn]
theorem bKi (rows:List (List C)) (k:Int) (hr:aAf [.str] rows=true) (hl:rows.length≤1073741824) (h0:0≤k) (h1:k≤1099511627776):∀ (n i:Nat),i≤rows.length→rows.length<i+n →
  (aBf aUf aAa (sg [pWS,pI] [rI]) Tryz.f45 [.r,.l,.r,.b] n (aU2 rows.length (mk mkS 1 k i++rows.drop i) (k+1*i) i)).eval=some [.int .i64 (k+rows.length),.sl (mk mkS 1 k rows.length)]:=by
 intro n
 induction n with
 |zero=>intro i a b;omega
 |succ n ih =>
  intro i a b
  rw[aAi _ _ _ _ _ _ _ (by kernel_rfl),bCl]
  by_cases hi:i<rows.length
  ·have w:IntKind.i64.wrap ((i:Int)+1)=((i+1:Nat):Int):=by rw[aAd]<;>omega
   have w2:IntKind.i64.wrap (k+1*(i:Int)+1)=k+1*((i+1:Nat):Int):=by rw[aAd]<;>omega
   have hz:(0:Int)≤i:=by omega
   have hi':(i:Int)<rows.length:=by omega
   have hk:k+1*(i:Int)≤4611686018427387904:=by omega
   have g:=bRx (aJn hr i hi)
   have hlen:i<(mk mkS 1 k i++rows.drop i).length:=by simp[aHc];omega
   rw[Nat.zero_add,Int.toNat_natCast,aTv _ _ _ _ (aHc _ _ _ _),g]
   have hd:List.drop (0+1) (aB5 (bMt (rows.getD i [])))=[]:=rfl
   rw[hd,bB7 _ _ _ _ (aHc _ _ _ _) hi]
   have e:mk mkS 1 k i++[[C.str (aC8 (k+1*(i:Int)))]]=mk mkS 1 k (i+1):=(bCe mkS 1 k i).symm
   rw[e]
   simp only[aA0,aA1,decide_eq_true_eq,Bool.and_eq_true,hz,hi',hk,hlen,and_self,if_true,w,w2]
   exact ih (i+1) (by omega) (by omega)
  ·have e:i=rows.length:=by omega
   subst e
   have hi':¬((rows.length:Int)<(rows.length:Int)):=by omega
   have hf:((mk mkS 1 k rows.length).all fun r=>r.all C.flat)=true:=aHd _ _ _ _ _ fun k=>rfl
   simp only[aA1,aA0,aA2,decide_eq_true_eq,hi',if_false,List.drop_length,List.append_nil,hf,Bool.false_or,Bool.or_true,Bool.and_true,Bool.and_self,if_true,Int.one_mul]
theorem bW7:aA6 Tryz.prog aUf:=aA5 (by simp[aE2])
theorem bGj:aAn Tryz.prog 45 (sg [pWS,pI] [rI]) aW2:=aA4 bW7 aA7 Tryz.func45 (by kernel_rfl) fun cs outs hk h=>by
 unfold aW2 at h
 split at h
 ·simp only[Option.some.injEq,Prod.mk.injEq,Bool.and_eq_true,decide_eq_true_eq]at h
  obtain⟨⟨h1,h2,h3,h4⟩,rfl⟩:=h
  rename_i rows k
  rw[aA9,bKh]
  have:=bKi rows k h1 h2 h3 h4 9223372036854775808 0 (by omega) (by omega)
  rw[show mk mkS 1 k 0++rows.drop 0=rows by simp[mk],show k+1*((0:Nat):Int)=k by omega]at this
  have r1:=aEu h1 1 rfl
  simp only[aA0,r1,Bool.and_true,Bool.true_and,Nat.zero_lt_one,decide_true,if_true]
  exact this
 ·cases h
theorem bKm (rows:List (List C)) (k:Int) (hr:aAf kNd rows=true) (hl:rows.length≤1048576) (h0:0≤k) (h1:k≤1099511627776):∀ (n i:Nat),i≤rows.length→rows.length<i+n →
  (aBf aUh aAa (sg [pWN,pI] [rI]) Tryz.f43 [.r,.l,.r,.b] n (aU4 rows.length (mk mkN 3 k i++rows.drop i) (k+3*i) i)).eval=some [.int .i64 (k+3*rows.length),.sl (mk mkN 3 k rows.length)]:=by
 intro n
 induction n with
 |zero=>intro i a b;omega
 |succ n ih =>
  intro i a b
  rw[aAi _ _ _ _ _ _ _ (by kernel_rfl),bCn]
  by_cases hi:i<rows.length
  ·have w:IntKind.i64.wrap ((i:Int)+1)=((i+1:Nat):Int):=by rw[aAd]<;>omega
   have w1:IntKind.i64.wrap (k+3*(i:Int)+1)=k+3*(i:Int)+1:=by rw[aAd]<;>omega
   have w2:IntKind.i64.wrap (k+3*(i:Int)+1+1)=k+3*(i:Int)+2:=by rw[aAd]<;>omega
   have w3:IntKind.i64.wrap (k+3*(i:Int)+2+1)=k+3*(i:Int)+3:=by rw[aAd]<;>omega
   have wk:k+3*(i:Int)+3=k+3*((i+1:Nat):Int):=by omega
   have hz:(0:Int)≤i:=by omega
   have hi':(i:Int)<rows.length:=by omega
   have hk:k+3*(i:Int)≤4611686018427387904:=by omega
   have hk1:k+3*(i:Int)+1≤4611686018427387904:=by omega
   have g:=bXl (aJn hr i hi)
   have hlen:i<(mk mkN 3 k i++rows.drop i).length:=by simp[aHc];omega
   simp only[Nat.zero_add,Nat.add_zero,Int.toNat_natCast,List.set_set,List.length_set,aJx _ _ _ _ hlen,w,w1,w2,w3,List.append_eq]
   simp only[aTv _ _ _ _ (aHc _ _ _ _),bB7 _ _ _ _ (aHc _ _ _ _) hi]
   rw[g]
   simp only[List.drop_succ_cons,List.drop_zero,List.take_succ_cons,List.take_zero,List.cons_append,List.nil_append,List.drop_nil,List.append_nil,List.append_assoc]
   have e:mk mkN 3 k i++[[C.int .i64 (k+3*(i:Int)),C.str (aC8 (k+3*(i:Int)+1)),C.int .i64 (k+3*(i:Int)+2)]]=mk mkN 3 k (i+1):=(bCe mkN 3 k i).symm
   simp only[aA0,aA1,decide_eq_true_eq,Bool.and_eq_true,hz,hi',hk,hk1,hlen,and_self,if_true]
   have:=ih (i+1) (by omega) (by omega)
   rw[←e,←wk,List.append_assoc]at this
   exact this
  ·have e:i=rows.length:=by omega
   subst e
   have hi':¬((rows.length:Int)<(rows.length:Int)):=by omega
   have hf:((mk mkN 3 k rows.length).all fun r=>r.all C.flat)=true:=aHd _ _ _ _ _ fun k=>rfl
   simp only[aA1,aA0,aA2,decide_eq_true_eq,hi',if_false,List.drop_length,List.append_nil,hf,Bool.false_or,Bool.or_true,Bool.and_true,Bool.and_self,if_true]
theorem bW9:aA6 Tryz.prog aUh:=aA5 (by simp[aE2])
theorem bGl:aAn Tryz.prog 43 (sg [pWN,pI] [rI]) aW4:=aA4 bW9 aA7 Tryz.func43 (by kernel_rfl) fun cs outs hk h=>by
 unfold aW4 at h
 split at h
 ·simp only[Option.some.injEq,Prod.mk.injEq,Bool.and_eq_true,decide_eq_true_eq]at h
  obtain⟨⟨h1,h2,h3,h4⟩,rfl⟩:=h
  rename_i rows k
  rw[aA9,bKl]
  have:=bKm rows k h1 h2 h3 h4 9223372036854775808 0 (by omega) (by omega)
  rw[show mk mkN 3 k 0++rows.drop 0=rows by simp[mk],show k+3*((0:Nat):Int)=k by omega]at this
  have r1:=aEu h1 3 rfl
  simp only[aA0,r1,Bool.and_true,Bool.true_and,Nat.zero_lt_one,decide_true,if_true]
  exact this
 ·cases h
theorem bKo (rows:List (List C)) (k:Int) (hr:aAf kEn rows=true) (hl:rows.length≤1048576) (h0:0≤k) (h1:k≤1099511627776):∀ (n i:Nat),i≤rows.length→rows.length<i+n →
  (aBf aUi aAa (sg [pWE,pI] [rI]) Tryz.f44 [.r,.l,.r,.b] n (aU5 rows.length (mk aSn 2 k i++rows.drop i) (k+2*i) i)).eval=some [.int .i64 (k+2*rows.length),.sl (mk aSn 2 k rows.length)]:=by
 intro n
 induction n with
 |zero=>intro i a b;omega
 |succ n ih =>
  intro i a b
  rw[aAi _ _ _ _ _ _ _ (by kernel_rfl),bCo]
  by_cases hi:i<rows.length
  ·have w:IntKind.i64.wrap ((i:Int)+1)=((i+1:Nat):Int):=by rw[aAd]<;>omega
   have w1:IntKind.i64.wrap (k+2*(i:Int)+1)=k+2*(i:Int)+1:=by rw[aAd]<;>omega
   have w2:IntKind.i64.wrap (k+2*(i:Int)+1+1)=k+2*(i:Int)+2:=by rw[aAd]<;>omega
   have w3:IntKind.i64.wrap (k+2*(i:Int)+2+1)=k+2*(i:Int)+3:=by rw[aAd]<;>omega
   have wk:k+2*(i:Int)+2=k+2*((i+1:Nat):Int):=by omega
   have hz:(0:Int)≤i:=by omega
   have hi':(i:Int)<rows.length:=by omega
   have hk:k+2*(i:Int)≤4611686018427387904:=by omega
   have hk1:k+2*(i:Int)+1≤4611686018427387904:=by omega
   have g:=bXm (aJn hr i hi)
   have hlen:i<(mk aSn 2 k i++rows.drop i).length:=by simp[aHc];omega
   simp only[Nat.zero_add,Nat.add_zero,Int.toNat_natCast,List.set_set,List.length_set,aJx _ _ _ _ hlen,w,w1,w2,w3,List.append_eq]
   simp only[aTv _ _ _ _ (aHc _ _ _ _),bB7 _ _ _ _ (aHc _ _ _ _) hi]
   rw[g]
   simp only[List.drop_succ_cons,List.drop_zero,List.take_succ_cons,List.take_zero,List.cons_append,List.nil_append,List.drop_nil,List.append_nil,List.append_assoc]
   have e:mk aSn 2 k i++[[C.str (aC8 (k+2*(i:Int))),C.int .i64 (k+2*(i:Int)+1)]]=mk aSn 2 k (i+1):=(bCe aSn 2 k i).symm
   simp only[aA0,aA1,decide_eq_true_eq,Bool.and_eq_true,hz,hi',hk,hk1,hlen,and_self,if_true]
   have:=ih (i+1) (by omega) (by omega)
   rw[←e,←wk,List.append_assoc]at this
   exact this
  ·have e:i=rows.length:=by omega
   subst e
   have hi':¬((rows.length:Int)<(rows.length:Int)):=by omega
   have hf:((mk aSn 2 k rows.length).all fun r=>r.all C.flat)=true:=aHd _ _ _ _ _ fun k=>rfl
   simp only[aA1,aA0,aA2,decide_eq_true_eq,hi',if_false,List.drop_length,List.append_nil,hf,Bool.false_or,Bool.or_true,Bool.and_true,Bool.and_self,if_true]
theorem bWa:aA6 Tryz.prog aUi:=aA5 (by simp[aE2])
theorem bGm:aAn Tryz.prog 44 (sg [pWE,pI] [rI]) aW5:=aA4 bWa aA7 Tryz.func44 (by kernel_rfl) fun cs outs hk h=>by
 unfold aW5 at h
 split at h
 ·simp only[Option.some.injEq,Prod.mk.injEq,Bool.and_eq_true,decide_eq_true_eq]at h
  obtain⟨⟨h1,h2,h3,h4⟩,rfl⟩:=h
  rename_i rows k
  rw[aA9,bKn]
  have:=bKo rows k h1 h2 h3 h4 9223372036854775808 0 (by omega) (by omega)
  rw[show mk aSn 2 k 0++rows.drop 0=rows by simp[mk],show k+2*((0:Nat):Int)=k by omega]at this
  have r1:=aEu h1 2 rfl
  simp only[aA0,r1,Bool.and_true,Bool.true_and,Nat.zero_lt_one,decide_true,if_true]
  exact this
 ·cases h
theorem bWb:aA6 Tryz.prog bNr:=aA5 (by simp[bGj,bGl,bGm])
theorem bGn:aAn Tryz.prog 17 (sg [bSg,pI] [rI]) aW6:=aA4 bWb aA7 Tryz.func17 (by kernel_rfl) fun cs outs hk h=>by
 unfold aW6 at h
 split at h
 ·simp only[Option.some.injEq,Prod.mk.injEq,Bool.and_eq_true,decide_eq_true_eq]at h
  obtain⟨⟨h1,h2,h3,h4⟩,rfl⟩:=h
  rename_i ns es os ss r x k
  simp only[aBe,Bool.and_eq_true]at h1
  obtain⟨⟨⟨a1,a2⟩,a3⟩,a4⟩:=h1
  simp only[aBm,Bool.and_eq_true,decide_eq_true_eq]at h2
  obtain⟨⟨⟨b1,b2⟩,b3⟩,b4⟩:=h2
  rw[aA9,bKp]
  have c1:=aEu a1 3 rfl
  have c2:=aEu a2 2 rfl
  have c3:=aEu a3 2 rfl
  have c4:=aEu a4 1 rfl
  have l1:∀ k n,((mk mkN 3 k n).all fun r=>decide (r.length=3))=true:=fun k n=>aHd _ _ _ _ _ fun k=>rfl
  have l2:∀ k n,((mk aSn 2 k n).all fun r=>decide (r.length=2))=true:=fun k n=>aHd _ _ _ _ _ fun k=>rfl
  have l3:∀ k n,((mk mkS 1 k n).all fun r=>decide (r.length=1))=true:=fun k n=>aHd _ _ _ _ _ fun k=>rfl
  have f1:∀ k n,((mk mkN 3 k n).all fun r=>r.all C.flat)=true:=fun k n=>aHd _ _ _ _ _ fun k=>rfl
  have f2:∀ k n,((mk aSn 2 k n).all fun r=>r.all C.flat)=true:=fun k n=>aHd _ _ _ _ _ fun k=>rfl
  have f3:∀ k n,((mk mkS 1 k n).all fun r=>r.all C.flat)=true:=fun k n=>aHd _ _ _ _ _ fun k=>rfl
  have b5:ss.length≤1073741824:=by omega
  have k1:k≤1099511627776:=by omega
  have k2:0≤k+3*(ns.length:Int)∧k+3*(ns.length:Int)≤1099511627776:=by omega
  have k3:0≤k+3*(ns.length:Int)+2*(es.length:Int)∧k+3*(ns.length:Int)+2*(es.length:Int)≤1099511627776:=by omega
  have k4:0≤k+3*(ns.length:Int)+2*(es.length:Int)+2*(os.length:Int)∧k+3*(ns.length:Int)+2*(es.length:Int)+2*(os.length:Int)≤1099511627776:=by omega
  simp only[aA0,aA2,a1,a2,a3,a4,b1,b2,b3,b4,b5,c1,c2,c3,c4,l1,l2,l3,f1,f2,f3,h3,k1,k2.1,k2.2,k3.1,k3.2,k4.1,k4.2,aHc,Nat.zero_lt_one,decide_true,Bool.and_self,Bool.false_or,Bool.or_true,Bool.true_and,Bool.and_true,if_true,cB5]
 ·cases h
noncomputable section
abbrev Pl:=Int×Int
def ePl (p:Pl):List C:=[.int .i64 p.1,.int .i64 p.2]
def cBr (r:List C):Pl:=((r.getD 0 (.fn 0 [])).toInt,(r.getD 1 (.fn 0 [])).toInt)
def pls (rows:List (List C)):List Pl:=rows.map cBr
def aBl (s:Int) (os:List Int):Nat→List Pl
 |0=>[]
 |i+1=>aBl s os i++(if (i:Int) % s=0 then[((i:Int),os.getD i 0)]else[])
def aAq (s:Int) (os:List Int):List Pl:=if s<1 then[]else aBl s os os.length
def aH3 (a b:Int):Int:=if a<b∨IntKind.i64.wrap (a-b)<0 then -1 else IntKind.i64.wrap (a-b)
def bJy:Pl→List Pl→Option (List UInt8)
 |_,[]=>some []
 |q,p::r=>if aAr (aH3 p.1 q.1)=[]∨aAr (aH3 p.2 q.2)=[]then none else (bJy p r).map ((aAr (aH3 p.1 q.1)++aAr (aH3 p.2 q.2))++ ·)
def aAx (l:List Pl):List UInt8:=match bJy (0,0) l with
 |some t=>aAr l.length++t
 |none=>[]
def bQs:List Int→List UInt8→List UInt8
 |[],t=>t++[73,68,88,33]
 |x::r,t=>if aAh x 4=[]then[]else bQs r (t++aAh x 4)
def aBi (a b c d:Int):List UInt8:=bQs [a,b,c,d] []
def aBt (v s b l:Int) (os:List Int) (e:Int):List UInt8 :=
 if aD3 v s b l=false∨aAz v (b+os.length)=[]∨aAx (aAq s os)=[]∨aBi e os.length s 0=[]then[]
 else aAz v (b+os.length)++aAx (aAq s os)++aBi e os.length s (aAs 0 (aAz v (b+os.length)++aAx (aAq s os)++(aBi e os.length s 0).take 12):Nat)
def aO8 (v b:Int):Int→List (List UInt8)→List UInt8→List Int→Option (List UInt8×List Int)
 |_,[],t,os=>some (t,os)
 |i,r::rs,t,os=>if 60<r.length then none else aO8 v b (i+1) rs (t++aAe v (b+i) r) (os++[(t.length:Int)])
def aFb (v s b l:Int) (rs:List (List UInt8)):List UInt8 :=
 if aD3 v s b l=false∨1000<rs.length∨1000000000<b+rs.length then[]
 else match aO8 v b 0 rs (aBc v s b l) []with
  |some (t,os)=>t++aBt v s b l os t.length
  |none=>[]
def aEw:aC3:=fun cs=>match cs with
 |[.int .i64 s,.sl os]=>some (aAf [.int .i64] os&&decide (os.length≤1048576),[.sl ((aAq s (aC1 os)).map ePl)])
 |_=>none
def bCj:aC3:=fun cs=>match cs with
 |[.int .i64 a,.int .i64 b]=>some (true,[.int .i64 (aH3 a b)])
 |_=>none
def aIe:aC3:=fun cs=>match cs with
 |[.sl r]=>some (aAf [.int .i64,.int .i64] r&&decide (r.length≤1048576),[.str (aAx (pls r))])
 |_=>none
def aFr:aC3:=fun cs=>match cs with
 |[.int .i64 a,.int .i64 b,.int .i64 c,.int .i64 d]=>some (inB a (-9223372036854775808) 9223372036854775807&&(inB b (-9223372036854775808) 9223372036854775807&&(inB c (-9223372036854775808) 9223372036854775807&&inB d (-9223372036854775808) 9223372036854775807)),[.str (aBi a b c d)])
 |_=>none
def bDo:aC3:=fun cs=>match cs with
 |[.int .i64 v,.int .i64 s,.int .i64 b,.int .i64 l,.sl os,.int .i64 e]=>some (aAf [.int .i64] os&&(decide (os.length≤1048576)&&inB e (-9223372036854775808) 9223372036854775807),[.str (aBt v s b l (aC1 os) e)])
 |_=>none
def bB8:aC3:=fun cs=>match cs with
 |[.int .i64 v,.int .i64 s,.int .i64 b,.int .i64 l,.sl r]=>some (aAf [.str] r&&decide (r.length≤1048576),[.str (aFb v s b l (aCb r))])
 |_=>none
abbrev bIm:PTy:=.val false [.slice 3]
abbrev bEr:PTy:=.val false [.slice 9]
abbrev bUv:PTy:=.val false [.slice 187]
abbrev bUu:RTy:=⟨false,[(.slice 187,true)]⟩
def aHn (s:Int) (o:List (List C)) (n:Nat) (r:List (List C)) (j:Int):St:={slots:=[(0,aAw s),(1,.l (.sl o)),(5,.l (.ref 0 0 n)),(6,aAw j)],heap:=[(0,.arr 2 r)],next:=1,pins:=[]}
def aKj:Env:=mkE [(3,[0,1,5,6])] []
def bUh:Env:=mkE [] []
def aGv (r:List (List C)) (t:List UInt8) (a b j:Int):St:={slots:=[(0,.l (.sl r)),(3,bEp t),(4,.l (.ptr 0 0)),(5,aAw j)],heap:=[(0,.box [.i .i64 a,.i .i64 b])],next:=1,pins:=[]}
def aGx:Env:=mkE [(4,[0,3,4,5])] [(152,(sg [pI] [rS]),aD5),(189,(sg [pI,pI] [rI]),bCj)]
def aN3 (t:List UInt8) (a b c d j:Int):St:={slots:=[(9,bEp t),(10,.l (.ref 0 0 4)),(11,aAw j)],heap:=[(0,.arr 1 [[.int .i64 a],[.int .i64 b],[.int .i64 c],[.int .i64 d]])],next:=1,pins:=[]}
def aNk:Env:=mkE [(4,[9,10,11])] [(145,(sg [pI,pI] [rS]),aFj)]
def bUi:Env:=mkE [] [(151,(sg [pS] [rI]),aDk),(115,(sg [aEd] [rB]),aDp),(149,(sg [pI,pI] [rS]),aE5),(154,(⟨[pI,bIm],[bUu],true⟩),aEw),(153,(⟨[bUv],[rS],true⟩),aIe),(155,(sg [pI,pI,pI,pI] [rS]),aFr)]
def bEc (v s b l:Int) (r:List (List C)) (n:Nat) (x:List (List C)) (q:Nat) (o:List (List C)) (j:Int):St:={slots:=[(1,.l (.sl r)),(2,.l (.ptr 0 0)),(5,.l (.ref 1 0 n)),(6,.l (.ref 2 0 q)),(7,aAw j)],heap:=[(0,.box [.i .i64 v,.i .i64 s,.i .i64 b,.i .i64 l]),(1,.arr 1 x),(2,.arr 1 o)],next:=3,pins:=[]}
def bEi:Env:=mkE [(6,[1,2,5,6,7])] [(115,(sg [aEd] [rB]),aDp),(116,(sg [aEd] [rS]),aDg),(117,(sg [pI,pI,pS] [rS]),aGg),(118,(⟨[aEd,bIm,pI],[rS],true⟩),bDo)]
end
theorem aYj (H:List Pt→Nat→St→T (List C)) (s:Int) (o:List (List C)):(aAg aKj aAa {params:=[pI,bIm],results:=[bUu],nested:=true} Tryz.f154 H [C.int .i64 s,C.sl o]).eval=((H [Pt.r,Pt.r,Pt.l,Pt.r,Pt.b] 9223372036854775808 (aHn (s) (o) (0) ([]) ((0:Int)))):T (List C)).eval:=aAc (by kernel_rfl)
theorem aGj (H:List Pt→Nat→St→T (List C)) (s:Int) (o:List (List C)) (n:Nat) (r:List (List C)) (j:Int) (k:Nat):(aB1 aKj aAa {params:=[pI,bIm],results:=[bUu],nested:=true} Tryz.f154 H [Pt.r,Pt.r,Pt.l,Pt.r,Pt.b] k (aHn s o n r j)).eval=((.ask (decide (j<(↑o.length:Int))) (.ask (decide ((1:Int)≤s)) (.must (decide ¬s=(0:Int)) (.ask (decide (j.tmod s=(0:Int))) (.must (decide ((0:Int)≤j)&&decide (j<(↑o.length:Int))&&decide ((o.getD j.toNat []).length=1)) (.must (decide (0<(o.getD j.toNat []).length)&&C.is (K.int .i64) ((o.getD j.toNat []).getD 0 (C.fn 0 []))&&true) (.must (decide (n=r.length)&&aBb (r.length+1) 16&&(decide ((Nat.add 1 0).succ=2)&&true)) (H [Pt.r,Pt.r,Pt.l,Pt.r,Pt.b] k (aHn (s) (o) (r.length+1) (r.append [[C.int .i64 j,C.int .i64 ((o.getD j.toNat []).getD 0 (C.fn 0 [])).toInt]]) (IntKind.i64.wrap (j+(1:Int)))))))) (H [Pt.r,Pt.r,Pt.l,Pt.r,Pt.b] k (aHn (s) (o) (n) (r) (IntKind.i64.wrap (j+(1:Int))))))) (.must (decide (n=r.length)&&(true||r.all fun r=>r.all C.flat)&&true&&true&&true) (.ret [C.sl r]))) (.must (decide (n=r.length)&&(true||r.all fun r=>r.all C.flat)&&true&&true&&true) (.ret [C.sl r]))):T (List C)).eval:=aAc (by kernel_rfl)
theorem bOu (H:List Pt→Nat→St→T (List C)) (a:Int) (b:Int):(aAg bUh aAa (sg [pI,pI] [rI]) Tryz.f189 H [C.int .i64 a,C.int .i64 b]).eval=((.ask (decide (a<b)) (.ret [C.int .i64 (-1)]) (.ask (decide (IntKind.i64.wrap (a-b)<(0:Int))) (.ret [C.int .i64 (-1)]) (.ret [C.int .i64 (IntKind.i64.wrap (a-b))]))):T (List C)).eval:=aAc (by kernel_rfl)
theorem aTa (H:List Pt→Nat→St→T (List C)) (r:List (List C)):(aAg aGx aAa {params:=[bUv],results:=[rS],nested:=true} Tryz.f153 H [C.sl r]).eval=((H [Pt.r,Pt.r,Pt.r,Pt.l,Pt.r,Pt.b] 9223372036854775808 (aGv (r) (aAr (↑r.length:Int)) ((0:Int)) ((0:Int)) ((0:Int)))):T (List C)).eval:=aAc (by kernel_rfl)
theorem aHt (H:List Pt→Nat→St→T (List C)) (r:List (List C)) (t:List UInt8) (a:Int) (b:Int) (j:Int) (k:Nat):(aB1 aGx aAa {params:=[bUv],results:=[rS],nested:=true} Tryz.f153 H [Pt.r,Pt.r,Pt.r,Pt.l,Pt.r,Pt.b] k (aGv r t a b j)).eval=((.ask (decide (j<(↑r.length:Int))) (.must (decide ((0:Int)≤j)&&decide (j<(↑r.length:Int))&&decide ((r.getD j.toNat []).length=2)) (.must (decide (0<(r.getD j.toNat []).length)&&C.is (K.int .i64) ((r.getD j.toNat []).getD 0 (C.fn 0 []))&&(decide (0+1<(r.getD j.toNat []).length)&&C.is (K.int .i64) ((r.getD j.toNat []).getD (0+1) (C.fn 0 []))&&true)) (.ask (aAr (aH3 ((r.getD j.toNat []).getD 0 (C.fn 0 [])).toInt a)==[]) (.ret [C.str []]) (.ask (aAr (aH3 ((r.getD j.toNat []).getD (0+1) (C.fn 0 [])).toInt b)==[]) (.ret [C.str []]) (.must (decide (t.length+(aAr (aH3 ((r.getD j.toNat []).getD 0 (C.fn 0 [])).toInt a)).length≤9223372036854775807)) (.must (decide ((t++aAr (aH3 ((r.getD j.toNat []).getD 0 (C.fn 0 [])).toInt a)).length+(aAr (aH3 ((r.getD j.toNat []).getD (0+1) (C.fn 0 [])).toInt b)).length≤9223372036854775807)) (H [Pt.r,Pt.r,Pt.r,Pt.l,Pt.r,Pt.b] k (aGv (r) (t++aAr (aH3 ((r.getD j.toNat []).getD 0 (C.fn 0 [])).toInt a)++aAr (aH3 ((r.getD j.toNat []).getD (0+1) (C.fn 0 [])).toInt b)) (((r.getD j.toNat []).getD 0 (C.fn 0 [])).toInt) (((r.getD j.toNat []).getD (0+1) (C.fn 0 [])).toInt) (IntKind.i64.wrap (j+(1:Int))))))))))) (.ret [C.str t])):T (List C)).eval:=aAc (by kernel_rfl)
theorem bBb (H:List Pt→Nat→St→T (List C)) (a:Int) (b:Int) (c:Int) (d:Int):(aAg aNk aAa (sg [pI,pI,pI,pI] [rS]) Tryz.f155 H [C.int .i64 a,C.int .i64 b,C.int .i64 c,C.int .i64 d]).eval=((H [Pt.r,Pt.r,Pt.r,Pt.l,Pt.r,Pt.b] 9223372036854775808 (aN3 ([]) (a) (b) (c) (d) ((0:Int)))):T (List C)).eval:=aAc (by kernel_rfl)
theorem aLc (H:List Pt→Nat→St→T (List C)) (t:List UInt8) (a:Int) (b:Int) (c:Int) (d:Int) (j:Int) (k:Nat):(aB1 aNk aAa (sg [pI,pI,pI,pI] [rS]) Tryz.f155 H [Pt.r,Pt.r,Pt.r,Pt.l,Pt.r,Pt.b] k (aN3 t a b c d j)).eval=((.ask (decide (j<(4:Int))) (.must (decide ((0:Int)≤j)&&decide (j<(↑(4:Nat):Int))) (.must (decide (0+j.toNat<(((Nat.add 1 0).succ.add 0).succ.add 0).succ)&&(decide (0<([[C.int .i64 a],[C.int .i64 b],[C.int .i64 c],[C.int .i64 d]].getD (0+j.toNat) []).length)&&C.is (K.int .i64) (([[C.int .i64 a],[C.int .i64 b],[C.int .i64 c],[C.int .i64 d]].getD (0+j.toNat) []).getD 0 (C.fn 0 []))&&true)) (.must (decide ((-9223372036854775808:Int)≤(([[C.int .i64 a],[C.int .i64 b],[C.int .i64 c],[C.int .i64 d]].getD (0+j.toNat) []).getD 0 (C.fn 0 [])).toInt)&&decide ((([[C.int .i64 a],[C.int .i64 b],[C.int .i64 c],[C.int .i64 d]].getD (0+j.toNat) []).getD 0 (C.fn 0 [])).toInt≤(9223372036854775807:Int))) (.ask (aAh (([[C.int .i64 a],[C.int .i64 b],[C.int .i64 c],[C.int .i64 d]].getD (0+j.toNat) []).getD 0 (C.fn 0 [])).toInt 4==[]) (.ret [C.str []]) (.must (decide (t.length+(aAh (([[C.int .i64 a],[C.int .i64 b],[C.int .i64 c],[C.int .i64 d]].getD (0+j.toNat) []).getD 0 (C.fn 0 [])).toInt 4).length≤9223372036854775807)) (H [Pt.r,Pt.r,Pt.r,Pt.l,Pt.r,Pt.b] k (aN3 (t++aAh (([[C.int .i64 a],[C.int .i64 b],[C.int .i64 c],[C.int .i64 d]].getD (0+j.toNat) []).getD 0 (C.fn 0 [])).toInt 4) (a) (b) (c) (d) (IntKind.i64.wrap (j+(1:Int)))))))))) (.must (decide (t.length+4≤9223372036854775807)) (.ret [C.str (t++[(73:UInt8),68,88,33])]))):T (List C)).eval:=aAc (by kernel_rfl)
theorem bOw (H:List Pt→Nat→St→T (List C)) (v:Int) (s:Int) (b:Int) (l:Int) (o:List (List C)) (e:Int):(aAg bUi aAa {params:=[aEd,bIm,pI],results:=[rS],nested:=true} Tryz.f118 H [C.int .i64 v,C.int .i64 s,C.int .i64 b,C.int .i64 l,C.sl o,C.int .i64 e]).eval=((.ask (aD3 v s b l) (.must (aAf [K.int .i64] o&&decide (o.length≤1048576)) (.must ((true&&(List.map ePl (aAq s (aC1 o))).all fun row=>decide (row.length=2))&&true&&true&&true) (.must (aAf [K.int .i64,K.int .i64] (List.take (List.map ePl (aAq s (aC1 o))).length (List.map ePl (aAq s (aC1 o))))&&decide ((List.take (List.map ePl (aAq s (aC1 o))).length (List.map ePl (aAq s (aC1 o)))).length≤1048576)) (.must (inB e (-9223372036854775808) 9223372036854775807&&(inB (↑o.length:Int) (-9223372036854775808) 9223372036854775807&&(inB s (-9223372036854775808) 9223372036854775807&&inB 0 (-9223372036854775808) 9223372036854775807))) (.ask (aAz v (IntKind.i64.wrap (b+(↑o.length:Int)))==[]) (.ret [C.str []]) (.ask (aAx (pls (List.take (List.map ePl (aAq s (aC1 o))).length (List.map ePl (aAq s (aC1 o)))))==[]) (.ret [C.str []]) (.ask (aBi e (↑o.length:Int) s 0==[]) (.ret [C.str []]) (.must (decide ((aAz v (IntKind.i64.wrap (b+(↑o.length:Int)))).length+(aAx (pls (List.take (List.map ePl (aAq s (aC1 o))).length (List.map ePl (aAq s (aC1 o)))))).length≤9223372036854775807)) (.must (decide ((0:Int)≤(12:Int))&&decide ((12:Int)≤(↑(aBi e (↑o.length:Int) s 0).length:Int))) (.must (decide ((aAz v (IntKind.i64.wrap (b+(↑o.length:Int)))++aAx (pls (List.take (List.map ePl (aAq s (aC1 o))).length (List.map ePl (aAq s (aC1 o)))))).length+(List.drop 0 (List.take (Int.toNat 12) (aBi e (↑o.length:Int) s 0))).length≤9223372036854775807)) (.must (decide ((aAz v (IntKind.i64.wrap (b+(↑o.length:Int)))++aAx (pls (List.take (List.map ePl (aAq s (aC1 o))).length (List.map ePl (aAq s (aC1 o)))))++List.drop 0 (List.take (Int.toNat 12) (aBi e (↑o.length:Int) s 0))).length≤281474976710656)) (.must (decide ((aAz v (IntKind.i64.wrap (b+(↑o.length:Int)))).length+(aAx (pls (List.take (List.map ePl (aAq s (aC1 o))).length (List.map ePl (aAq s (aC1 o)))))).length≤9223372036854775807)) (.must (inB e (-9223372036854775808) 9223372036854775807&&(inB (↑o.length:Int) (-9223372036854775808) 9223372036854775807&&(inB s (-9223372036854775808) 9223372036854775807&&inB (Int.ofNat (aAs 0 (aAz v (IntKind.i64.wrap (b+(↑o.length:Int)))++aAx (pls (List.take (List.map ePl (aAq s (aC1 o))).length (List.map ePl (aAq s (aC1 o)))))++List.drop 0 (List.take (Int.toNat 12) (aBi e (↑o.length:Int) s 0))))) (-9223372036854775808:Int) (9223372036854775807:Int)))) (.must (decide ((aAz v (IntKind.i64.wrap (b+(↑o.length:Int)))++aAx (pls (List.take (List.map ePl (aAq s (aC1 o))).length (List.map ePl (aAq s (aC1 o)))))).length+(aBi e (↑o.length:Int) s (Int.ofNat (aAs 0 (aAz v (IntKind.i64.wrap (b+(↑o.length:Int)))++aAx (pls (List.take (List.map ePl (aAq s (aC1 o))).length (List.map ePl (aAq s (aC1 o)))))++List.drop 0 (List.take (Int.toNat 12) (aBi e (↑o.length:Int) s 0)))))).length≤9223372036854775807)) (.ret [C.str (aAz v (IntKind.i64.wrap (b+(↑o.length:Int)))++aAx (pls (List.take (List.map ePl (aAq s (aC1 o))).length (List.map ePl (aAq s (aC1 o)))))++aBi e (↑o.length:Int) s (Int.ofNat (aAs 0 (aAz v (IntKind.i64.wrap (b+(↑o.length:Int)))++aAx (pls (List.take (List.map ePl (aAq s (aC1 o))).length (List.map ePl (aAq s (aC1 o)))))++List.drop 0 (List.take (Int.toNat 12) (aBi e (↑o.length:Int) s 0))))))]))))))))))))))) (.ret [C.str []])):T (List C)).eval:=aAc (by kernel_rfl)
theorem bOm (H:List Pt→Nat→St→T (List C)) (v:Int) (s:Int) (b:Int) (l:Int) (r:List (List C)):(aAg bEi aAa {params:=[aEd,bEr],results:=[rS],nested:=true} Tryz.f91 H [C.int .i64 v,C.int .i64 s,C.int .i64 b,C.int .i64 l,C.sl r]).eval=((.ask (aD3 v s b l) (.ask (decide ((1000:Int)<(↑r.length:Int))) (.ret [C.str []]) (.ask (decide ((1000000000:Int)<IntKind.i64.wrap (b+(↑r.length:Int)))) (.ret [C.str []]) (H [Pt.r,Pt.r,Pt.r,Pt.r,Pt.l,Pt.r,Pt.b] 9223372036854775808 (bEc (v) (s) (b) (l) (r) ((aBc v s b l).length) (aAb (aBc v s b l)) (0) ([]) ((0:Int)))))) (.ret [C.str []])):T (List C)).eval:=aAc (by kernel_rfl)
theorem aSh (H:List Pt→Nat→St→T (List C)) (v:Int) (s:Int) (b:Int) (l:Int) (r:List (List C)) (n:Nat) (x:List (List C)) (q:Nat) (o:List (List C)) (j:Int) (k:Nat):(aB1 bEi aAa {params:=[aEd,bEr],results:=[rS],nested:=true} Tryz.f91 H [Pt.r,Pt.r,Pt.r,Pt.r,Pt.l,Pt.r,Pt.b] k (bEc v s b l r n x q o j)).eval=((.ask (decide (j<(↑r.length:Int))) (.must (decide ((0:Int)≤j)&&decide (j<(↑r.length:Int))&&decide ((r.getD j.toNat []).length=1)) (.must (decide (0<(r.getD j.toNat []).length)&&C.is K.str ((r.getD j.toNat []).getD 0 (C.fn 0 []))&&true) (.ask (decide ((60:Int)<(↑((r.getD j.toNat []).getD 0 (C.fn 0 [])).toStr.length:Int))) (.ret [C.str []]) (.must (decide (q=o.length)&&aBb (o.length+1) 8&&(decide (1=1)&&true)) (.must (decide ((0:Int)≤j)&&decide (j<(↑r.length:Int))&&decide ((r.getD j.toNat []).length=1)) (.must (decide (0<(r.getD j.toNat []).length)&&C.is K.str ((r.getD j.toNat []).getD 0 (C.fn 0 []))&&true) (.must (decide (((r.getD j.toNat []).getD 0 (C.fn 0 [])).toStr.length≤281474976710656)) (.must (decide (n=x.length)&&aBb (x.length+(aAb (aAe v (IntKind.i64.wrap (b+j)) ((r.getD j.toNat []).getD 0 (C.fn 0 [])).toStr)).length) 1&&(aAb (aAe v (IntKind.i64.wrap (b+j)) ((r.getD j.toNat []).getD 0 (C.fn 0 [])).toStr)).all fun r=>decide (r.length=1)) (H [Pt.r,Pt.r,Pt.r,Pt.r,Pt.l,Pt.r,Pt.b] k (bEc (v) (s) (b) (l) (r) (x.length+(aAb (aAe v (IntKind.i64.wrap (b+j)) ((r.getD j.toNat []).getD 0 (C.fn 0 [])).toStr)).length) (x.append (aAb (aAe v (IntKind.i64.wrap (b+j)) ((r.getD j.toNat []).getD 0 (C.fn 0 [])).toStr))) (o.length+1) (o.append [[C.int .i64 (↑n:Int)]]) (IntKind.i64.wrap (j+(1:Int))))))))))))) (.must (aAf [K.int .i64] (List.take q o)&&(decide ((List.take q o).length≤1048576)&&inB (↑n:Int) (-9223372036854775808) 9223372036854775807)) (.must (decide (n=x.length)&&aBb (x.length+(aAb (aBt v s b l (aC1 (List.take q o)) (↑n:Int))).length) 1&&(aAb (aBt v s b l (aC1 (List.take q o)) (↑n:Int))).all fun r=>decide (r.length=1)) (.must ((List.take (x.length+(aAb (aBt v s b l (aC1 (List.take q o)) (↑n:Int))).length) (x.append (aAb (aBt v s b l (aC1 (List.take q o)) (↑n:Int))))).all aFy) (.ret [C.str (aCo (List.take (x.length+(aAb (aBt v s b l (aC1 (List.take q o)) (↑n:Int))).length) (x.append (aAb (aBt v s b l (aC1 (List.take q o)) (↑n:Int))))))]))))):T (List C)).eval:=aAc (by kernel_rfl)
theorem cAc {r:List C} (h:aB3 r [.int .i64,.int .i64]=true):r=ePl (cBr r):=by
 cases r with
 |nil=>simp[aB3]at h
 |cons c r =>
  cases r with
  |nil=>simp[aB3]at h
  |cons d r =>
   cases r with
   |cons e r=>simp[aB3]at h
   |nil=>cases c<;>simp[aB3,C.is]at h<;>cases d<;>simp[aB3,C.is]at h<;>(obtain⟨rfl,rfl⟩:=h;rfl)
theorem bMr {rows:List (List C)} (h:aAf [.int .i64,.int .i64] rows=true):rows=(pls rows).map ePl:=by
 simp only[aAf,List.all_eq_true]at h
 simp only[pls,List.map_map]
 rw[List.map_congr_left (g:=id)]
 ·simp
 ·intro r hr;exact (cAc (h r hr)).symm
@[simp] theorem bSd (l:List Pl):pls (l.map ePl)=l:=by simp[pls,cBr,ePl,Function.comp_def,C.toInt]
@[simp] theorem aZw (l:List Pl):aAf [.int .i64,.int .i64] (l.map ePl)=true:=by simp[aAf,aB3,C.is,ePl]
theorem bSv (l:List Pl):((l.map ePl).all fun row=>decide (row.length=2))=true:=by simp[ePl]
theorem aHu (s:Int) (os:List Int):∀ i,(aBl s os i).length≤i
 |0=>Nat.le_refl _
 |i+1=>by
  have:=aHu s os i
  simp only[aBl,List.length_append]
  split<;>simp<;>omega
theorem aRr (s:Int) (os:List Int):(aAq s os).length≤os.length:=by
 unfold aAq
 split
 ·simp
 ·exact aHu _ _ _
theorem bMy:∀ (l:List Pl) (q:Pl) (t:List UInt8),bJy q l=some t→t.length≤10*l.length
 |[],q,t,h=>by simp[bJy]at h;subst h;simp
 |p::r,q,t,h=>by
  unfold bJy at h
  split at h
  ·cases h
  ·cases hr:bJy p r with
   |none=>rw[hr]at h;cases h
   |some u =>
    rw[hr]at h
    simp only[Option.map_some,Option.some.injEq]at h
    subst h
    have:=bMy r p u hr
    have h1:=aCl (aH3 p.1 q.1)
    have h2:=aCl (aH3 p.2 q.2)
    simp only[List.length_append,List.length_cons]
    omega
theorem aId (l:List Pl):(aAx l).length≤5+10*l.length:=by
 unfold aAx
 cases h:bJy (0,0) l with
 |none=>simp
 |some t =>
  have:=bMy l _ t h
  have h1:=aCl (l.length:Int)
  simp only[List.length_append]
  omega
theorem bMl:∀ (l:List Int) (t:List UInt8),bQs l t=[]∨(bQs l t).length=t.length+4*l.length+4
 |[],t=>.inr (by simp[bQs])
 |x::r,t=>by
  unfold bQs
  split
  ·exact .inl rfl
  ·rename_i hx
   have hf:(aAh x 4).length=4:=by
    unfold aAh at hx ⊢
    split at hx
    ·rename_i hc;rw[if_pos hc,aC4];rfl
    ·exact absurd rfl hx
   rcases bMl r (t++aAh x 4)with h | h
   ·exact .inl h
   ·right;rw[h];simp[hf];omega
theorem aOr (a b c d:Int):aBi a b c d=[]∨(aBi a b c d).length=20:=bMl [a,b,c,d] []
theorem aRb (a b c d:Int):(aBi a b c d).length≤20:=by
 rcases aOr a b c d with h | h<;>rw[h]<;>simp
theorem aWp (v s b l:Int):(aBc v s b l).length≤60:=by
 unfold aBc aFg
 have h1:=aB7 v 1
 have h2:=aB7 s 1
 have h3:=aB7 b 8
 have h4:=aB7 l 4
 have h5:=fun x:Int=>aB7 x 4
 split
 ·simp only[List.length_append,List.length_cons,List.length_nil]
  have:=h5 ((aAs 0 ([83,69,71,77]++aAh v 1++aAh s 1++[0,0]++aAh b 8++aAh l 4):Nat):Int)
  omega
 ·simp
theorem aWt (v s b l:Int) (os:List Int) (e:Int):(aBt v s b l os e).length≤41+10*os.length:=by
 unfold aBt
 split
 ·simp
 ·have h1:=aK3 v (b+os.length)
  have h2:=aId (aAq s os)
  have h3:=aRr s os
  simp only[List.length_append]
  have h4:=aRb e os.length s (aAs 0 (aAz v (b+os.length)++aAx (aAq s os)++(aBi e os.length s 0).take 12):Nat)
  omega
theorem aYk (s:Int) (os:List Int) (hs:1≤s) (hl:os.length≤1048576):∀ (f n i:Nat),i+f=os.length→f<n →
  (aBf aKj aAa (⟨[pI,bIm],[bUu],true⟩) Tryz.f154 [.r,.r,.l,.r,.b] n (aHn s (os.map aF3) (aBl s os i).length ((aBl s os i).map ePl) i)).eval=some [.sl ((aBl s os os.length).map ePl)]:=by
 intro f
 induction f with
 |zero =>
  intro n i h1 h2
  obtain⟨n,rfl⟩:∃ q,n=q+1:=⟨n-1,by omega⟩
  rw[aAi _ _ _ _ _ _ _ (by kernel_rfl),aGj]
  have c:¬((i:Int)<(os.length:Int)):=by omega
  have ei:i=os.length:=by omega
  simp only[List.length_map,aA1,aA0,aA2,decide_eq_true_eq,c,if_false,decide_true,Bool.true_or,Bool.and_self,if_true]
  rw[ei]
 |succ f ih =>
  intro n i h1 h2
  obtain⟨n,rfl⟩:∃ q,n=q+1:=⟨n-1,by omega⟩
  rw[aAi _ _ _ _ _ _ _ (by kernel_rfl),aGj]
  have hi:i<os.length:=by omega
  have c:(i:Int)<(os.length:Int):=by omega
  have z:(0:Int)≤(i:Int):=by omega
  have ns:¬s=0:=by omega
  have tm:(i:Int).tmod s=(i:Int) % s:=Int.tmod_eq_emod_of_nonneg z
  have g:=aAv aF3 os 0 i hi
  have w:IntKind.i64.wrap ((i:Int)+1)=((i+1:Nat):Int):=by rw[aAd]<;>omega
  have pl:=aHu s os i
  have ro:aBb ((aBl s os i).length+1) 16=true:=by simp only[aBb,decide_eq_true_eq];omega
  have e:=ih n (i+1) (by omega) (by omega)
  simp only[List.length_map,aA1,aA0,decide_eq_true_eq,c,hs,ns,tm,z,Int.toNat_natCast,g,w,ro,not_false_eq_true,if_true,decide_true,Bool.and_true,Bool.true_and,List.length_cons,List.length_nil,Nat.zero_add,Nat.zero_lt_one,C.is,beq_self_eq_true,List.getD_cons_zero,C.toInt]
  by_cases hm:(i:Int) % s=0
  ·have ep:aBl s os (i+1)=aBl s os i++[((i:Int),os.getD i 0)]:=by simp only[aBl,hm,if_true]
   rw[ep,List.map_append,List.length_append]at e
   simp only[hm,if_true]
   exact e
  ·have ep:aBl s os (i+1)=aBl s os i:=by simp only[aBl,hm,if_false,List.append_nil]
   rw[ep]at e
   simp only[hm,if_false]
   exact e
theorem bJf:aA6 Tryz.prog aKj:=aA5 (by simp[])
theorem aVj:aAn Tryz.prog 154 (⟨[pI,bIm],[bUu],true⟩) aEw:=aA4 bJf aA7 Tryz.func154 (by kernel_rfl) fun cs outs hk h=>by
 unfold aEw at h
 split at h
 ·simp only[Option.some.injEq,Prod.mk.injEq,Bool.and_eq_true,decide_eq_true_eq]at h
  obtain⟨⟨h1,h2⟩,rfl⟩:=h
  rename_i s o
  have hr:=aIr h1
  generalize aC1 o=os at hr ⊢
  subst hr
  rw[List.length_map]at h2
  rw[aA9,aYj]
  by_cases hs:1≤s
  ·have e:=aYk s os hs h2 os.length 9223372036854775808 0 (by omega) (by omega)
   have ep:aAq s os=aBl s os os.length:=by unfold aAq;rw[if_neg (by omega)]
   rw[ep]
   exact e
  ·have ep:aAq s os=[]:=by unfold aAq;rw[if_pos (by omega)]
   rw[ep,aAi _ _ _ _ _ 9223372036854775807 _ (by kernel_rfl),aGj]
   by_cases c:(0:Int)<(os.length:Int)
   ·simp only[List.length_map,aA1,aA0,aA2,decide_eq_true_eq,c,hs,if_true,if_false];rfl
   ·simp only[List.length_map,aA1,aA0,aA2,decide_eq_true_eq,c,if_false];rfl
 ·cases h
theorem bYk:aA6 Tryz.prog bUh:=aA5 (by simp[])
theorem bJj:aAn Tryz.prog 189 (sg [pI,pI] [rI]) bCj:=aA4 bYk aA7 Tryz.func189 (by kernel_rfl) fun cs outs hk h=>by
 unfold bCj at h
 split at h
 ·simp only[Option.some.injEq,Prod.mk.injEq,true_and]at h
  rename_i a b
  rw[←h,aA9,bOu]
  unfold aH3
  by_cases c:a<b
  ·simp[aA1,aA2,c]
  ·by_cases d:IntKind.i64.wrap (a-b)<0<;>simp[aA1,aA2,c,d]
 ·cases h
theorem aTb (l:List Pl) (hl:l.length≤1048576):∀ (f n i:Nat) (q:Pl) (t:List UInt8),i+f=l.length→f<n→t.length≤5+10*i →
  (aBf aGx aAa (⟨[bUv],[rS],true⟩) Tryz.f153 [.r,.r,.r,.l,.r,.b] n (aGv (l.map ePl) t q.1 q.2 i)).eval=some [.str (match bJy q (l.drop i)with | some x=>t++x | none=>[])]:=by
 intro f
 induction f with
 |zero =>
  intro n i q t h1 h2 h3
  obtain⟨n,rfl⟩:∃ q,n=q+1:=⟨n-1,by omega⟩
  rw[aAi _ _ _ _ _ _ _ (by kernel_rfl),aHt]
  have c:¬((i:Int)<(l.length:Int)):=by omega
  have hd:l.drop i=[]:=List.drop_eq_nil_of_le (by omega)
  simp only[List.length_map,aA1,aA2,decide_eq_true_eq,c,if_false,hd,bJy,List.append_nil]
 |succ f ih =>
  intro n i q t h1 h2 h3
  obtain⟨n,rfl⟩:∃ q,n=q+1:=⟨n-1,by omega⟩
  rw[aAi _ _ _ _ _ _ _ (by kernel_rfl),aHt]
  have hi:i<l.length:=by omega
  have c:(i:Int)<(l.length:Int):=by omega
  have z:(0:Int)≤(i:Int):=by omega
  have g:=aAv ePl l (0,0) i hi
  have hd:=aB9 l i (0,0) hi
  generalize l.getD i (0,0)=p at g hd
  have w:IntKind.i64.wrap ((i:Int)+1)=((i+1:Nat):Int):=by rw[aAd]<;>omega
  have v1:=aCl (aH3 p.1 q.1)
  have v2:=aCl (aH3 p.2 q.2)
  have m1:t.length+(aAr (aH3 p.1 q.1)).length≤9223372036854775807:=by omega
  have m2:t.length+(aAr (aH3 p.1 q.1)).length+(aAr (aH3 p.2 q.2)).length≤9223372036854775807:=by omega
  have e:=ih n (i+1) p (t++aAr (aH3 p.1 q.1)++aAr (aH3 p.2 q.2)) (by omega) (by omega) (by simp only[List.length_append];omega)
  rw[hd]
  simp only[List.length_map,aA1,aA0,aA2,decide_eq_true_eq,c,z,Int.toNat_natCast,g,w,if_true,decide_true,Bool.and_true,Bool.true_and,ePl,List.length_cons,List.length_nil,C.is,beq_self_eq_true,List.getD_cons_zero,List.getD_cons_succ,C.toInt,Nat.zero_add,Nat.reduceAdd,Nat.reduceLT,beq_iff_eq,List.length_append,m1,m2,bJy]
  by_cases a1:aAr (aH3 p.1 q.1)=[]
  ·simp only[a1,true_or,if_true]
  ·by_cases a2:aAr (aH3 p.2 q.2)=[]
   ·simp only[a1,a2,or_true,if_true,if_false]
   ·simp only[a1,a2,or_self,if_false]
    refine e.trans ?_
    cases bJy p (l.drop (i+1))with
    |none=>rfl
    |some x=>simp only[Option.map_some,List.append_assoc]
theorem bBq:aA6 Tryz.prog aGx:=aA5 (by simp[aIa,bJj])
theorem aRl:aAn Tryz.prog 153 (⟨[bUv],[rS],true⟩) aIe:=aA4 bBq aA7 Tryz.func153 (by kernel_rfl) fun cs outs hk h=>by
 unfold aIe at h
 split at h
 ·simp only[Option.some.injEq,Prod.mk.injEq,Bool.and_eq_true,decide_eq_true_eq]at h
  obtain⟨⟨h1,h2⟩,rfl⟩:=h
  rename_i r
  have hr:=bMr h1
  generalize pls r=l at hr ⊢
  subst hr
  rw[List.length_map]at h2
  rw[aA9,aTa,List.length_map]
  have e:=aTb l h2 l.length 9223372036854775808 0 (0,0) (aAr (l.length:Int)) (by omega) (by omega) (by have:=aCl (l.length:Int);omega)
  exact e
 ·cases h
theorem bTj (a b c d:Int) (i:Nat) (hi:i<4):([[C.int .i64 a],[C.int .i64 b],[C.int .i64 c],[C.int .i64 d]]:List (List C)).getD i []=aF3 (([a,b,c,d]:List Int).getD i 0):=by
 exact aAv aF3 [a,b,c,d] 0 i hi
theorem bBc (a b c d:Int) (hx:∀ i,i<4→ -9223372036854775808≤([a,b,c,d]:List Int).getD i 0∧([a,b,c,d]:List Int).getD i 0≤9223372036854775807):∀ (f n i:Nat) (t:List UInt8),i+f=4→f<n→t.length≤8*i →
  (aBf aNk aAa (sg [pI,pI,pI,pI] [rS]) Tryz.f155 [.r,.r,.r,.l,.r,.b] n (aN3 t a b c d i)).eval=some [.str (bQs (([a,b,c,d]:List Int).drop i) t)]:=by
 intro f
 induction f with
 |zero =>
  intro n i t h1 h2 h3
  obtain⟨n,rfl⟩:∃ q,n=q+1:=⟨n-1,by omega⟩
  rw[aAi _ _ _ _ _ _ _ (by kernel_rfl),aLc]
  have c4:¬((i:Int)<4):=by omega
  have hd:([a,b,c,d]:List Int).drop i=[]:=List.drop_eq_nil_of_le (by simp;omega)
  have m:t.length+4≤9223372036854775807:=by omega
  simp only[aA1,aA0,aA2,decide_eq_true_eq,c4,if_false,hd,bQs,m,if_true]
 |succ f ih =>
  intro n i t h1 h2 h3
  obtain⟨n,rfl⟩:∃ q,n=q+1:=⟨n-1,by omega⟩
  rw[aAi _ _ _ _ _ _ _ (by kernel_rfl),aLc]
  have hi:i<4:=by omega
  have c4:(i:Int)<4:=by omega
  have z:(0:Int)≤(i:Int):=by omega
  have g:=bTj a b c d i hi
  have hd:=aB9 ([a,b,c,d]:List Int) i 0 hi
  have hx1:=hx i hi
  generalize ([a,b,c,d]:List Int).getD i 0=x at g hd hx1
  have w:IntKind.i64.wrap ((i:Int)+1)=((i+1:Nat):Int):=by rw[aAd]<;>omega
  have v1:=aB7 x 4
  have m1:t.length+(aAh x 4).length≤9223372036854775807:=by omega
  have e:=ih n (i+1) (t++aAh x 4) (by omega) (by omega) (by simp only[List.length_append];omega)
  have k1:i<(((Nat.add 1 0).succ.add 0).succ.add 0).succ:=by show i<4;omega
  rw[hd]
  have c4':(i:Int)<((4:Nat):Int):=by omega
  simp only[aA1,aA0,aA2,decide_eq_true_eq,c4,c4',z,Int.toNat_natCast,k1,g,w,if_true,decide_true,Bool.and_true,Bool.true_and,Bool.and_self,List.length_cons,List.length_nil,C.is,beq_self_eq_true,List.getD_cons_zero,C.toInt,Nat.zero_add,Nat.zero_lt_one,hx1.1,hx1.2,beq_iff_eq,m1,bQs]
  by_cases a1:aAh x 4=[]
  ·simp only[a1,if_true]
  ·simp only[a1,if_false]
   exact e
theorem bOj:aA6 Tryz.prog aNk:=aA5 (by simp[aEh])
theorem aY9:aAn Tryz.prog 155 (sg [pI,pI,pI,pI] [rS]) aFr:=aA4 bOj aA7 Tryz.func155 (by kernel_rfl) fun cs outs hk h=>by
 unfold aFr at h
 split at h
 ·simp only[Option.some.injEq,Prod.mk.injEq,Bool.and_eq_true,aBg]at h
  obtain⟨⟨ha,hb,hc,hd⟩,rfl⟩:=h
  rename_i a b c d
  rw[aA9,bBb]
  exact bBc a b c d (fun i hi=>by
   match i,hi with
   |0,_=>exact ha
   |1,_=>exact hb
   |2,_=>exact hc
   |3,_=>exact hd) 4 9223372036854775808 0 [] (by omega) (by omega) (by simp)
 ·cases h
theorem bYm:aA6 Tryz.prog bUi:=aA5 (by simp[aHs,aJj,aOb,aVj,aRl,aY9])
theorem bJn:aAn Tryz.prog 118 (⟨[aEd,bIm,pI],[rS],true⟩) bDo:=aA4 bYm aA7 Tryz.func118 (by kernel_rfl) fun cs outs hk h=>by
 unfold bDo at h
 split at h
 ·simp only[Option.some.injEq,Prod.mk.injEq,Bool.and_eq_true,decide_eq_true_eq,aBg]at h
  obtain⟨⟨h1,h2,h3⟩,rfl⟩:=h
  rename_i v s b l o e
  have hr:=aIr h1
  rw[aA9,bOw]
  generalize aC1 o=os at hr ⊢
  subst hr
  simp only[List.length_map]at h1 h2 ⊢
  by_cases hh:aD3 v s b l=true
  ·obtain⟨hv,hs,hb,hl⟩:=(aF1 v s b l).1 hh
   have w:IntKind.i64.wrap (b+(os.length:Int))=b+os.length:=by rw[aAd]<;>omega
   have pl:=aRr s os
   have tk:List.take (aAq s os).length (List.map ePl (aAq s os))=List.map ePl (aAq s os):=List.take_of_length_le (by simp)
   have i1:inB e (-9223372036854775808) 9223372036854775807=true:=(aBg _ _ _).2 h3
   have i2:inB (os.length:Int) (-9223372036854775808) 9223372036854775807=true:=(aBg _ _ _).2 ⟨by omega,by omega⟩
   have i3:inB s (-9223372036854775808) 9223372036854775807=true:=(aBg _ _ _).2 ⟨by omega,by omega⟩
   have i4:inB 0 (-9223372036854775808) 9223372036854775807=true:=rfl
   have l1:=aK3 v (b+os.length)
   have l2:=aId (aAq s os)
   have p1:(aAq s os).length≤1048576:=by omega
   simp only[aA1,aA0,aA2,hh,if_true,w,tk,bSd,bSv,aZw,h1,h2,i1,i2,i3,i4,List.length_map,p1,decide_true,Bool.and_self,Bool.true_and,beq_iff_eq,List.drop_zero]
   unfold aBt
   by_cases c1:aAz v (b+os.length)=[]
   ·rw[if_pos c1,if_pos (.inr (.inl c1))]
   ·by_cases c2:aAx (aAq s os)=[]
    ·rw[if_neg c1,if_pos c2,if_pos (.inr (.inr (.inl c2)))]
    ·by_cases c3:aBi e os.length s 0=[]
     ·rw[if_neg c1,if_neg c2,if_pos c3,if_pos (.inr (.inr (.inr c3)))]
     ·have t20:(aBi e os.length s 0).length=20:=by
       rcases aOr e os.length s 0 with h | h
       ·exact absurd h c3
       ·exact h
      have hn:¬(aD3 v s b l=false∨aAz v (b+os.length)=[]∨aAx (aAq s os)=[]∨aBi e os.length s 0=[]):=by
       intro h
       rcases h with h | h | h | h
       ·rw[hh]at h;cases h
       ·exact c1 h
       ·exact c2 h
       ·exact c3 h
      rw[if_neg c1,if_neg c2,if_neg c3,if_neg hn]
      have t12:Int.toNat 12=12:=rfl
      have d0:List.drop 0 (List.take 12 (aBi e os.length s 0))=List.take 12 (aBi e os.length s 0):=rfl
      have cl:=aDq 0 (aAz v (b+os.length)++aAx (aAq s os)++(aBi e os.length s 0).take 12) (by omega)
      have i5:∀ z:Nat,z<4294967296→inB (Int.ofNat z) (-9223372036854775808) 9223372036854775807=true:=fun z hz=>(aBg _ _ _).2 ⟨by show _≤(z:Int);omega,by show (z:Int)≤_;omega⟩
      have l3:=aRb e os.length s (Int.ofNat (aAs 0 (aAz v (b+os.length)++aAx (aAq s os)++(aBi e os.length s 0).take 12)))
      rw[t12]
      rw[if_pos (decide_eq_true (by omega)),if_pos (by rw[t20];rfl),if_pos (decide_eq_true (by simp only[List.length_append,List.length_take];omega)),if_pos (decide_eq_true (by simp only[List.length_append,List.length_take];omega)),if_pos (decide_eq_true (by omega)),if_pos (i5 _ cl),if_pos (decide_eq_true (by simp only[List.length_append];omega))]
      rfl
  ·have hh':aD3 v s b l=false:=by simpa using hh
   simp only[aA1,aA2,hh,Bool.false_eq_true,if_false]
   unfold aBt
   rw[if_pos (.inl hh')]
 ·cases h
theorem bOn (v s b l:Int) (rs:List (List UInt8)) (hb:0≤b∧b≤1000000000) (hl:rs.length≤1000):∀ (f n i:Nat) (t:List UInt8) (os:List Int),i+f=rs.length→f<n→os.length=i→t.length≤60+90*i →
  (aBf bEi aAa (⟨[aEd,bEr],[rS],true⟩) Tryz.f91 [.r,.r,.r,.r,.l,.r,.b] n (bEc v s b l (rs.map aB5) t.length (aAb t) os.length (os.map aF3) i)).eval=some [.str (match aO8 v b i (rs.drop i) t os with | some (t',os')=>t'++aBt v s b l os' t'.length | none=>[])]:=by
 intro f
 induction f with
 |zero =>
  intro n i t os h1 h2 h3 h4
  obtain⟨n,rfl⟩:∃ q,n=q+1:=⟨n-1,by omega⟩
  rw[aAi _ _ _ _ _ _ _ (by kernel_rfl),aSh]
  have c:¬((i:Int)<(rs.length:Int)):=by omega
  have hd:rs.drop i=[]:=List.drop_eq_nil_of_le (by omega)
  have tk:List.take os.length (os.map aF3)=os.map aF3:=List.take_of_length_le (by simp)
  have i1:inB (t.length:Int) (-9223372036854775808) 9223372036854775807=true:=(aBg _ _ _).2 ⟨by omega,by omega⟩
  have fl:=aWt v s b l os t.length
  have ro:aBb (t.length+(aBt v s b l os t.length).length) 1=true:=by simp only[aBb,decide_eq_true_eq];omega
  have ap:(aAb t).append (aAb (aBt v s b l os t.length))=aAb (t++aBt v s b l os t.length):=by rw[List.append_eq,aG4]
  have tk2:List.take (t.length+(aBt v s b l os t.length).length) (aAb (t++aBt v s b l os t.length))=aAb (t++aBt v s b l os t.length):=List.take_of_length_le (by rw[aBa,List.length_append];exact Nat.le_refl _)
  have o1:os.length≤1048576:=by omega
  have al:((aAb (aBt v s b l os t.length)).all fun r=>decide (r.length=1))=true:=by simp[aAb]
  simp only[List.length_map,aA1,aA0,aA2,decide_eq_true_eq,c,if_false,hd,aO8,tk,aTt,aJm,i1,aBa,ro,ap,tk2,aE9,aGr,o1,al,decide_true,Bool.and_self,if_true]
 |succ f ih =>
  intro n i t os h1 h2 h3 h4
  obtain⟨n,rfl⟩:∃ q,n=q+1:=⟨n-1,by omega⟩
  rw[aAi _ _ _ _ _ _ _ (by kernel_rfl),aSh]
  have hi:i<rs.length:=by omega
  have c:(i:Int)<(rs.length:Int):=by omega
  have z:(0:Int)≤(i:Int):=by omega
  have g:=aAv aB5 rs [] i hi
  have hd:=aB9 rs i [] hi
  generalize rs.getD i []=r at g hd
  have w:IntKind.i64.wrap ((i:Int)+1)=((i+1:Nat):Int):=by rw[aAd]<;>omega
  have w2:IntKind.i64.wrap (b+(i:Int))=b+i:=by rw[aAd]<;>omega
  have fl:=aGu v (b+i) r
  have ro1:aBb (os.length+1) 8=true:=by simp only[aBb,decide_eq_true_eq];omega
  have ro2:aBb (t.length+(aAe v (b+i) r).length) 1=true:=by simp only[aBb,decide_eq_true_eq];omega
  have ap:(aAb t).append (aAb (aAe v (b+i) r))=aAb (t++aAe v (b+i) r):=by rw[List.append_eq,aG4]
  have ap2:(os.map aF3).append [[C.int .i64 (t.length:Int)]]=(os++[(t.length:Int)]).map aF3:=by simp
  have al:((aAb (aAe v (b+i) r)).all fun r=>decide (r.length=1))=true:=by simp[aAb]
  have e:=ih n (i+1) (t++aAe v (b+i) r) (os++[(t.length:Int)]) (by omega) (by omega) (by simp;omega) (by simp only[List.length_append];omega)
  rw[List.length_append,List.length_append]at e
  rw[hd]
  simp only[List.length_map,aA1,aA0,aA2,decide_eq_true_eq,c,z,Int.toNat_natCast,g,w,w2,if_true,decide_true,Bool.and_true,Bool.true_and,Bool.and_self,List.length_cons,List.length_nil,C.is,List.getD_cons_zero,C.toStr,Nat.zero_add,Nat.zero_lt_one,aBa,ro1,ro2,ap,ap2,al,aO8]
  by_cases h60:(60:Int)<(r.length:Int)
  ·have h60':60<r.length:=by omega
   simp only[h60,h60',if_true]
  ·have h60':¬60<r.length:=by omega
   have hm:r.length≤281474976710656:=by omega
   simp only[h60,h60',hm,if_false,if_true]
   exact e
theorem bYh:aA6 Tryz.prog bEi:=aA5 (by simp[aJj,aLg,aKo,bJn])
theorem bJ4:aAn Tryz.prog 91 (⟨[aEd,bEr],[rS],true⟩) bB8:=aA4 bYh aA7 Tryz.func91 (by kernel_rfl) fun cs outs hk h=>by
 unfold bB8 at h
 split at h
 ·simp only[Option.some.injEq,Prod.mk.injEq,Bool.and_eq_true,decide_eq_true_eq]at h
  obtain⟨⟨h1,h2⟩,rfl⟩:=h
  rename_i v s b l r
  rw[aA9,bOm]
  have hr:=aDa h1
  generalize aCb r=rs at hr ⊢
  subst hr
  rw[List.length_map]at h2 ⊢
  unfold aFb
  by_cases hh:aD3 v s b l=true
  ·obtain⟨hv,hs,hb,hl⟩:=(aF1 v s b l).1 hh
   have w:IntKind.i64.wrap (b+(rs.length:Int))=b+rs.length:=by rw[aAd]<;>omega
   have hh':¬aD3 v s b l=false:=by rw[hh];decide
   simp only[aA1,aA2,hh,if_true,w,decide_eq_true_eq]
   by_cases c1:(1000:Int)<(rs.length:Int)
   ·rw[if_pos c1,if_pos (.inr (.inl (by omega)))]
   ·by_cases c2:(1000000000:Int)<b+(rs.length:Int)
    ·rw[if_neg c1,if_pos c2,if_pos (.inr (.inr c2))]
    ·have hn:¬(true=false∨1000<rs.length∨1000000000<b+(rs.length:Int)):=by
      intro h
      rcases h with h | h | h
      ·cases h
      ·omega
      ·omega
     rw[if_neg c1,if_neg c2,if_neg hn]
     have e:=bOn v s b l rs hb (by omega) rs.length 9223372036854775808 0 (aBc v s b l) [] (by omega) (by omega) rfl (by have:=aWp v s b l;omega)
     exact e
  ·have hh':aD3 v s b l=false:=by simpa using hh
   simp only[aA1,aA2,hh',Bool.false_eq_true,if_false]
   rw[if_pos (.inl trivial)]
 ·cases h
noncomputable section
def aKe (s:Int) (o:List (List C)) (n:Nat) (r:List (List C)) (j:Int):St:={slots:=[(0,aAw s),(1,.l (.sl o)),(5,.l (.ref 0 0 n)),(6,aAw j)],heap:=[(0,.arr 2 r)],next:=1,pins:=[]}
def aKk:Env:=mkE [(5,[0,1,5,6])] []
def aXf:aC3:=fun cs=>match cs with
 |[.int .i64 a,.int .i64 b]=>some (inB a (-9223372036854775808) 9223372036854775807&&inB b (-9223372036854775808) 9223372036854775807,[.str (aAr (aH3 a b))])
 |_=>none
def bNz:Env:=mkE [] [(182,(sg [pI] [rS]),aD5)]
def aGw (r:List (List C)) (t:List UInt8) (a b j:Int):St:={slots:=[(3,.l (.ptr 0 0)),(4,.l (.ptr 1 0)),(15,.l (.sl r)),(16,aAw r.length),(17,aAw j)],heap:=[(0,.bld 144 5 (some 2)),(1,.box [.i .i64 a,.i .i64 b]),(2,.own 5 t)],next:=3,pins:=[]}
def bXp (p:Pl):Bool:=inB p.1 (-9223372036854775808) 9223372036854775807&&inB p.2 (-9223372036854775808) 9223372036854775807
def aHa:aC3:=fun cs=>match cs with
 |[.sl r]=>some (aAf [.int .i64,.int .i64] r&&(decide (r.length≤1048576)&&(pls r).all bXp),[.str (aAx (pls r))])
 |_=>none
def aGy:Env:=mkB [(5,[3,4,15,16,17])] [(182,(sg [pI] [rS]),aD5),(201,(sg [pI,pI] [rS]),aXf)]
def aNa (t:List UInt8) (a b c d j:Int):St:={slots:=[(9,bEp t),(17,.l (.ref 0 0 4)),(18,aAw ((4:Nat):Int)),(19,aAw j)],heap:=[(0,.arr 1 [[.int .i64 a],[.int .i64 b],[.int .i64 c],[.int .i64 d]])],next:=1,pins:=[]}
def aNt:Env:=mkE [(3,[9,17,18,19])] [(161,(sg [pI,pI] [rS]),aFj)]
def okI (x:Int):Bool:=inB x (-9223372036854775808) 9223372036854775807
def aWu:aC3:=fun cs=>match cs with
 |[.int .i64 v,.int .i64 s,.int .i64 b,.int .i64 l,.sl os,.int .i64 e]=>some (aAf [.int .i64] os&&(decide (os.length≤1048576)&&(inB e (-9223372036854775808) 9223372036854775807&&(aC1 os).all okI)),[.str (aBt v s b l (aC1 os) e)])
 |_=>none
def bUo:Env:=mkE [] [(181,(sg [pS] [rI]),aDk),(137,(sg [aEd] [rB]),aDp),(157,(sg [pI,pI] [rS]),aE5),(185,(⟨[pI,bIm],[bUu],true⟩),aEw),(184,(⟨[bUv],[rS],true⟩),aHa),(186,(sg [pI,pI,pI,pI] [rS]),aFr)]
def aMt:aC3:=fun cs=>match cs with
 |[.str r]=>some (decide (r.length≤281474976710656),[.bool (decide (60<r.length))])
 |_=>none
def aKu (r:List UInt8):Bool:=decide (60<r.length)
def bA2 (rs:List (List UInt8)):Int:=aCn aKu rs 0
def aMd (rs:List (List UInt8)):Bool:=decide (0≤bA2 rs)
def aIt (rows:List (List C)):Bool:=aAf [.str] rows&&(decide (rows.length≤1048576)&&(aCb rows).all fun r=>decide (r.length≤1048576))
def aRu:aC3:=fun cs=>match cs with
 |[.sl r,.fn f []]=>some (decide (f=139)&&aIt r,[.int .i64 (bA2 (aCb r))])
 |_=>none
def aPf:aC3:=fun cs=>match cs with
 |[.sl r,.fn f []]=>some (decide (f=139)&&aIt r,[.bool (aMd (aCb r))])
 |_=>none
def aV6:aC3:=fun cs=>match cs with
 |[.int .i64 v,.int .i64 s,.int .i64 b,.int .i64 l,.sl r]=>some (aIt r,[.str (aFb v s b l (aCb r))])
 |_=>none
def aR0 (r:List (List C)) (n i:Int):St:=st0 [(0,.l (.sl r)),(1,.l (.fn 139 [])),(7,aAw n),(8,aAw i)]
def bEf (v s b l:Int) (r:List (List C)) (t:List UInt8) (q:Nat) (o:List (List C)) (j:Int):St:={slots:=[(2,.l (.ptr 0 0)),(5,.l (.ptr 1 0)),(6,.l (.ref 2 0 q)),(35,.l (.sl r)),(36,aAw r.length),(37,aAw j)],heap:=[(0,.box [.i .i64 v,.i .i64 s,.i .i64 b,.i .i64 l]),(1,.bld 144 5 (some 3)),(2,.arr 1 o),(3,.own 5 t)],next:=4,pins:=[]}
def bNq:Env:=mkE [] []
def aR6:Env:=mkE [(2,[0,1,7,8])] [(139,(sg [pS] [rB]),aMt)]
def bAm:Env:=mkE [] [(133,(sg [bEr,pF] [rI]),aRu),(133,(sg [pSl 9,pF] [rI]),aMw)]
def bEl:Env:=mkB [(7,[2,5,6,35,36,37])] [(97,(sg [pI] [rB]),aCh),(137,(sg [aEd] [rB]),aDp),(140,(sg [aEd] [rS]),aDg),(141,(sg [pI,pI,pS] [rS]),aGg),(142,(⟨[aEd,bIm,pI],[rS],true⟩),aWu),(139,(sg [pS] [rB]),aMt),(138,(sg [bEr,pF] [rB]),aPf)]
end
theorem aZ5 (H:List Pt→Nat→St→T (List C)) (s:Int) (o:List (List C)):(aAg aKk aAa {params:=[pI,bIm],results:=[bUu],nested:=true} Tryz.f185 H [C.int .i64 s,C.sl o]).eval=((.ask (decide (s<(1:Int))) (.ret [C.sl []]) (H [Pt.r,Pt.r,Pt.r,Pt.l,Pt.r,Pt.b] 9223372036854775808 (aKe (s) (o) (0) ([]) ((0:Int))))):T (List C)).eval:=aAc (by kernel_rfl)
theorem aKv (H:List Pt→Nat→St→T (List C)) (s:Int) (o:List (List C)) (n:Nat) (r:List (List C)) (j:Int) (k:Nat):(aB1 aKk aAa {params:=[pI,bIm],results:=[bUu],nested:=true} Tryz.f185 H [Pt.r,Pt.r,Pt.r,Pt.l,Pt.r,Pt.b] k (aKe s o n r j)).eval=((.ask (decide (j<(↑o.length:Int))) (.must (decide ((0:Int)≤j)&&decide (j<(↑o.length:Int))&&decide ((o.getD j.toNat []).length=1)) (.must (decide (0<(o.getD j.toNat []).length)&&C.is (K.int .i64) ((o.getD j.toNat []).getD 0 (C.fn 0 []))&&true) (.must (decide (n=r.length)&&aBb (r.length+1) 16&&(decide ((Nat.add 1 0).succ=2)&&true)) (.ask (decide (IntKind.i64.wrap ((↑o.length:Int)-j)<s)) (.must (decide (r.length+1=(r.append [[C.int .i64 j,C.int .i64 ((o.getD j.toNat []).getD 0 (C.fn 0 [])).toInt]]).length)&&(true||(r.append [[C.int .i64 j,C.int .i64 ((o.getD j.toNat []).getD 0 (C.fn 0 [])).toInt]]).all fun r=>r.all C.flat)&&true&&true&&true) (.ret [C.sl (r.append [[C.int .i64 j,C.int .i64 ((o.getD j.toNat []).getD 0 (C.fn 0 [])).toInt]])])) (H [Pt.r,Pt.r,Pt.r,Pt.l,Pt.r,Pt.b] k (aKe (s) (o) (r.length+1) (r.append [[C.int .i64 j,C.int .i64 ((o.getD j.toNat []).getD 0 (C.fn 0 [])).toInt]]) (IntKind.i64.wrap (j+s)))))))) (.must (decide (n=r.length)&&(true||r.all fun r=>r.all C.flat)&&true&&true&&true) (.ret [C.sl r]))):T (List C)).eval:=aAc (by kernel_rfl)
theorem bLo (H:List Pt→Nat→St→T (List C)) (a:Int) (b:Int):(aAg bNz aAa (sg [pI,pI] [rS]) Tryz.f201 H [C.int .i64 a,C.int .i64 b]).eval=((.ask (decide (a<b)) (.ret [C.str []]) (.ask (decide ((1000000000:Int)<IntKind.u64.wrap (IntKind.u64.wrap a-IntKind.u64.wrap b))) (.ret [C.str []]) (.ret [C.str (aAr (IntKind.i64.wrap (a-b)))]))):T (List C)).eval:=aAc (by kernel_rfl)
theorem aTk (H:List Pt→Nat→St→T (List C)) (r:List (List C)):(aAg aGy (bXs bXv) {params:=[bUv],results:=[rS],nested:=true} Tryz.f184 H [C.sl r]).eval=((.must (decide (0+(aAr (↑r.length:Int)).length≤140737488355328)&&decide (0<0+(aAr (↑r.length:Int)).length)) (H [Pt.r,Pt.r,Pt.r,Pt.r,Pt.l,Pt.r,Pt.b] 9223372036854775808 (aGw (r) ([]++aAr (↑r.length:Int)) ((0:Int)) ((0:Int)) ((0:Int))))):T (List C)).eval:=aAc (by kernel_rfl)
theorem aHy (H:List Pt→Nat→St→T (List C)) (r:List (List C)) (t:List UInt8) (a:Int) (b:Int) (j:Int) (k:Nat):(aB1 aGy (bXs bXv) {params:=[bUv],results:=[rS],nested:=true} Tryz.f184 H [Pt.r,Pt.r,Pt.r,Pt.r,Pt.l,Pt.r,Pt.b] k (aGw r t a b j)).eval=((.ask (decide (j<(↑r.length:Int))) (.must (decide ((0:Int)≤j)&&decide (j<(↑r.length:Int))&&decide ((r.getD j.toNat []).length=2)) (.must (decide (0<(r.getD j.toNat []).length)&&C.is (K.int .i64) ((r.getD j.toNat []).getD 0 (C.fn 0 []))&&(decide (0+1<(r.getD j.toNat []).length)&&C.is (K.int .i64) ((r.getD j.toNat []).getD (0+1) (C.fn 0 []))&&true)) (.must (inB ((r.getD j.toNat []).getD 0 (C.fn 0 [])).toInt (-9223372036854775808) 9223372036854775807&&inB a (-9223372036854775808) 9223372036854775807) (.must (inB ((r.getD j.toNat []).getD (0+1) (C.fn 0 [])).toInt (-9223372036854775808) 9223372036854775807&&inB b (-9223372036854775808) 9223372036854775807) (.ask (aAr (aH3 ((r.getD j.toNat []).getD 0 (C.fn 0 [])).toInt a)==[]) (.ret [C.str []]) (.ask (aAr (aH3 ((r.getD j.toNat []).getD (0+1) (C.fn 0 [])).toInt b)==[]) (.ret [C.str []]) (.must (decide ((aAr (aH3 ((r.getD j.toNat []).getD 0 (C.fn 0 [])).toInt a)).length+(aAr (aH3 ((r.getD j.toNat []).getD (0+1) (C.fn 0 [])).toInt b)).length≤9223372036854775807)) (.must (decide (t.length+(aAr (aH3 ((r.getD j.toNat []).getD 0 (C.fn 0 [])).toInt a)++aAr (aH3 ((r.getD j.toNat []).getD (0+1) (C.fn 0 [])).toInt b)).length≤140737488355328)&&decide (0<t.length+(aAr (aH3 ((r.getD j.toNat []).getD 0 (C.fn 0 [])).toInt a)++aAr (aH3 ((r.getD j.toNat []).getD (0+1) (C.fn 0 [])).toInt b)).length)) (H [Pt.r,Pt.r,Pt.r,Pt.r,Pt.l,Pt.r,Pt.b] k (aGw (r) (t++(aAr (aH3 ((r.getD j.toNat []).getD 0 (C.fn 0 [])).toInt a)++aAr (aH3 ((r.getD j.toNat []).getD (0+1) (C.fn 0 [])).toInt b))) (((r.getD j.toNat []).getD 0 (C.fn 0 [])).toInt) (((r.getD j.toNat []).getD (0+1) (C.fn 0 [])).toInt) (IntKind.i64.wrap (j+(1:Int))))))))))))) (.must (decide ¬5=0&&decide (0<t.length)) (.ret [C.str t]))):T (List C)).eval:=aAc (by kernel_rfl)
theorem bCx (H:List Pt→Nat→St→T (List C)) (a:Int) (b:Int) (c:Int) (d:Int):(aAg aNt aAa (sg [pI,pI,pI,pI] [rS]) Tryz.f186 H [C.int .i64 a,C.int .i64 b,C.int .i64 c,C.int .i64 d]).eval=((H [Pt.r,Pt.r,Pt.l,Pt.r,Pt.b] 9223372036854775808 (aNa ([]) (a) (b) (c) (d) ((0:Int)))):T (List C)).eval:=aAc (by kernel_rfl)
theorem aLx (H:List Pt→Nat→St→T (List C)) (t:List UInt8) (a:Int) (b:Int) (c:Int) (d:Int) (j:Int) (k:Nat):(aB1 aNt aAa (sg [pI,pI,pI,pI] [rS]) Tryz.f186 H [Pt.r,Pt.r,Pt.l,Pt.r,Pt.b] k (aNa t a b c d j)).eval=((.ask (decide (j<(↑(4:Nat):Int))) (.must (decide ((0:Int)≤j)&&decide (j<(↑(4:Nat):Int))) (.must (decide (0+j.toNat<(((Nat.add 1 0).succ.add 0).succ.add 0).succ)&&(decide (0<([[C.int .i64 a],[C.int .i64 b],[C.int .i64 c],[C.int .i64 d]].getD (0+j.toNat) []).length)&&C.is (K.int .i64) (([[C.int .i64 a],[C.int .i64 b],[C.int .i64 c],[C.int .i64 d]].getD (0+j.toNat) []).getD 0 (C.fn 0 []))&&true)) (.must (decide ((-9223372036854775808:Int)≤(([[C.int .i64 a],[C.int .i64 b],[C.int .i64 c],[C.int .i64 d]].getD (0+j.toNat) []).getD 0 (C.fn 0 [])).toInt)&&decide ((([[C.int .i64 a],[C.int .i64 b],[C.int .i64 c],[C.int .i64 d]].getD (0+j.toNat) []).getD 0 (C.fn 0 [])).toInt≤(9223372036854775807:Int))) (.ask (aAh (([[C.int .i64 a],[C.int .i64 b],[C.int .i64 c],[C.int .i64 d]].getD (0+j.toNat) []).getD 0 (C.fn 0 [])).toInt 4==[]) (.ret [C.str []]) (.must (decide (t.length+(aAh (([[C.int .i64 a],[C.int .i64 b],[C.int .i64 c],[C.int .i64 d]].getD (0+j.toNat) []).getD 0 (C.fn 0 [])).toInt 4).length≤9223372036854775807)) (H [Pt.r,Pt.r,Pt.l,Pt.r,Pt.b] k (aNa (t++aAh (([[C.int .i64 a],[C.int .i64 b],[C.int .i64 c],[C.int .i64 d]].getD (0+j.toNat) []).getD 0 (C.fn 0 [])).toInt 4) (a) (b) (c) (d) (IntKind.i64.wrap (j+(1:Int)))))))))) (.must (decide (t.length+4≤9223372036854775807)) (.ret [C.str (t++[(73:UInt8),68,88,33])]))):T (List C)).eval:=aAc (by kernel_rfl)
theorem bQ4 (H:List Pt→Nat→St→T (List C)) (v:Int) (s:Int) (b:Int) (l:Int) (o:List (List C)) (e:Int):(aAg bUo aAa {params:=[aEd,bIm,pI],results:=[rS],nested:=true} Tryz.f142 H [C.int .i64 v,C.int .i64 s,C.int .i64 b,C.int .i64 l,C.sl o,C.int .i64 e]).eval=((.ask (aD3 v s b l) (.must (aAf [K.int .i64] o&&decide (o.length≤1048576)) (.must ((true&&(List.map ePl (aAq s (aC1 o))).all fun row=>decide (row.length=2))&&true&&true&&true) (.must (aAf [K.int .i64,K.int .i64] (List.take (List.map ePl (aAq s (aC1 o))).length (List.map ePl (aAq s (aC1 o))))&&(decide ((List.take (List.map ePl (aAq s (aC1 o))).length (List.map ePl (aAq s (aC1 o)))).length≤1048576)&&(pls (List.take (List.map ePl (aAq s (aC1 o))).length (List.map ePl (aAq s (aC1 o))))).all bXp)) (.must (inB e (-9223372036854775808) 9223372036854775807&&(inB (↑o.length:Int) (-9223372036854775808) 9223372036854775807&&(inB s (-9223372036854775808) 9223372036854775807&&inB 0 (-9223372036854775808) 9223372036854775807))) (.ask (aAz v (IntKind.i64.wrap (b+(↑o.length:Int)))==[]) (.ret [C.str []]) (.ask (aAx (pls (List.take (List.map ePl (aAq s (aC1 o))).length (List.map ePl (aAq s (aC1 o)))))==[]) (.ret [C.str []]) (.ask (aBi e (↑o.length:Int) s 0==[]) (.ret [C.str []]) (.must (decide ((aAz v (IntKind.i64.wrap (b+(↑o.length:Int)))).length+(aAx (pls (List.take (List.map ePl (aAq s (aC1 o))).length (List.map ePl (aAq s (aC1 o)))))).length≤9223372036854775807)) (.must (decide ((0:Int)≤(12:Int))&&decide ((12:Int)≤(↑(aBi e (↑o.length:Int) s 0).length:Int))) (.must (decide ((aAz v (IntKind.i64.wrap (b+(↑o.length:Int)))++aAx (pls (List.take (List.map ePl (aAq s (aC1 o))).length (List.map ePl (aAq s (aC1 o)))))).length+(List.drop 0 (List.take (Int.toNat 12) (aBi e (↑o.length:Int) s 0))).length≤9223372036854775807)) (.must (decide ((aAz v (IntKind.i64.wrap (b+(↑o.length:Int)))++aAx (pls (List.take (List.map ePl (aAq s (aC1 o))).length (List.map ePl (aAq s (aC1 o)))))++List.drop 0 (List.take (Int.toNat 12) (aBi e (↑o.length:Int) s 0))).length≤281474976710656)) (.must (decide ((aAz v (IntKind.i64.wrap (b+(↑o.length:Int)))).length+(aAx (pls (List.take (List.map ePl (aAq s (aC1 o))).length (List.map ePl (aAq s (aC1 o)))))).length≤9223372036854775807)) (.must (inB e (-9223372036854775808) 9223372036854775807&&(inB (↑o.length:Int) (-9223372036854775808) 9223372036854775807&&(inB s (-9223372036854775808) 9223372036854775807&&inB (Int.ofNat (aAs 0 (aAz v (IntKind.i64.wrap (b+(↑o.length:Int)))++aAx (pls (List.take (List.map ePl (aAq s (aC1 o))).length (List.map ePl (aAq s (aC1 o)))))++List.drop 0 (List.take (Int.toNat 12) (aBi e (↑o.length:Int) s 0))))) (-9223372036854775808:Int) (9223372036854775807:Int)))) (.must (decide ((aAz v (IntKind.i64.wrap (b+(↑o.length:Int)))++aAx (pls (List.take (List.map ePl (aAq s (aC1 o))).length (List.map ePl (aAq s (aC1 o)))))).length+(aBi e (↑o.length:Int) s (Int.ofNat (aAs 0 (aAz v (IntKind.i64.wrap (b+(↑o.length:Int)))++aAx (pls (List.take (List.map ePl (aAq s (aC1 o))).length (List.map ePl (aAq s (aC1 o)))))++List.drop 0 (List.take (Int.toNat 12) (aBi e (↑o.length:Int) s 0)))))).length≤9223372036854775807)) (.ret [C.str (aAz v (IntKind.i64.wrap (b+(↑o.length:Int)))++aAx (pls (List.take (List.map ePl (aAq s (aC1 o))).length (List.map ePl (aAq s (aC1 o)))))++aBi e (↑o.length:Int) s (Int.ofNat (aAs 0 (aAz v (IntKind.i64.wrap (b+(↑o.length:Int)))++aAx (pls (List.take (List.map ePl (aAq s (aC1 o))).length (List.map ePl (aAq s (aC1 o)))))++List.drop 0 (List.take (Int.toNat 12) (aBi e (↑o.length:Int) s 0))))))]))))))))))))))) (.ret [C.str []])):T (List C)).eval:=aAc (by kernel_rfl)
theorem bKa (H:List Pt→Nat→St→T (List C)) (r:List UInt8):(aAg bNq aAa (sg [pS] [rB]) Tryz.f139 H [C.str r]).eval=((.ask (decide ((60:Int)<(↑r.length:Int))) (.ret [C.bool true]) (.ret [C.bool false])):T (List C)).eval:=aAc (by kernel_rfl)
theorem bGp (H:List Pt→Nat→St→T (List C)) (r:List (List C)):(aAg aR6 aAa (sg [bEr,pF] [rI]) Tryz.f133 H [C.sl r,C.fn 139 []]).eval=((H [Pt.r,Pt.l,Pt.r,Pt.b] 9223372036854775808 (aR0 (r) ((↑r.length:Int)) ((0:Int)))):T (List C)).eval:=aAc (by kernel_rfl)
theorem bEa (H:List Pt→Nat→St→T (List C)) (r:List (List C)):(aAg bAm aAa (sg [bEr,pF] [rB]) Tryz.f138 H [C.sl r,C.fn 139 []]).eval=((.must (decide (139=139)&&aIt r) (.ask (decide ((0:Int)≤bA2 (aCb r))) (.ret [C.bool true]) (.ret [C.bool false]))):T (List C)).eval:=aAc (by kernel_rfl)
theorem bPw (H:List Pt→Nat→St→T (List C)) (v:Int) (s:Int) (b:Int) (l:Int) (r:List (List C)):(aAg bEl (bXs bXv) {params:=[aEd,bEr],results:=[rS],nested:=true} Tryz.f107 H [C.int .i64 v,C.int .i64 s,C.int .i64 b,C.int .i64 l,C.sl r]).eval=((.ask (aD3 v s b l) (.ask (decide ((1000:Int)<(↑r.length:Int))) (.ret [C.str []]) (.ask (inB (IntKind.i64.wrap (b+(↑r.length:Int))) (0:Int) (1000000000:Int)) (.must (decide (139=139)&&aIt r) (.ask (aMd (aCb r)) (.ret [C.str []]) (.must (decide (0+(aBc v s b l).length≤140737488355328)&&decide (0<0+(aBc v s b l).length)) (H [Pt.r,Pt.r,Pt.r,Pt.r,Pt.r,Pt.l,Pt.r,Pt.b] 9223372036854775808 (bEf (v) (s) (b) (l) (r) ([]++aBc v s b l) (0) ([]) ((0:Int))))))) (.ret [C.str []]))) (.ret [C.str []])):T (List C)).eval:=aAc (by kernel_rfl)
theorem aYw (H:List Pt→Nat→St→T (List C)) (r:List (List C)) (n:Int) (i:Int) (k:Nat):(aB1 aR6 aAa (sg [bEr,pF] [rI]) Tryz.f133 H [Pt.r,Pt.l,Pt.r,Pt.b] k (aR0 r n i)).eval=((.ask (decide (i<n)) (.must (decide ((0:Int)≤i)&&decide (i<(↑r.length:Int))&&decide ((r.getD i.toNat []).length=1)) (.must (decide (0<(r.getD i.toNat []).length)&&C.is K.str ((r.getD i.toNat []).getD 0 (C.fn 0 []))&&true) (.must (decide (((r.getD i.toNat []).getD 0 (C.fn 0 [])).toStr.length≤281474976710656)) (.ask (decide (60<((r.getD i.toNat []).getD 0 (C.fn 0 [])).toStr.length)) (.ret [C.int .i64 i]) (H [Pt.r,Pt.l,Pt.r,Pt.b] k (aR0 (r) (n) (IntKind.i64.wrap (i+(1:Int))))))))) (.ret [C.int .i64 (-1)])):T (List C)).eval:=aAc (by kernel_rfl)
theorem aSs (H:List Pt→Nat→St→T (List C)) (v:Int) (s:Int) (b:Int) (l:Int) (r:List (List C)) (t:List UInt8) (q:Nat) (o:List (List C)) (j:Int) (k:Nat):(aB1 bEl (bXs bXv) {params:=[aEd,bEr],results:=[rS],nested:=true} Tryz.f107 H [Pt.r,Pt.r,Pt.r,Pt.r,Pt.r,Pt.l,Pt.r,Pt.b] k (bEf v s b l r t q o j)).eval=((.ask (decide (j<(↑r.length:Int))) (.must (decide ((0:Int)≤j)&&decide (j<(↑r.length:Int))&&decide ((r.getD j.toNat []).length=1)) (.must (decide (0<(r.getD j.toNat []).length)&&C.is K.str ((r.getD j.toNat []).getD 0 (C.fn 0 []))&&true) (.must (decide (q=o.length)&&aBb (o.length+1) 8&&(decide (1=1)&&true)) (.must (decide (((r.getD j.toNat []).getD 0 (C.fn 0 [])).toStr.length≤281474976710656)) (.must (decide (t.length+(aAe v (IntKind.i64.wrap (b+j)) ((r.getD j.toNat []).getD 0 (C.fn 0 [])).toStr).length≤140737488355328)&&decide (0<t.length+(aAe v (IntKind.i64.wrap (b+j)) ((r.getD j.toNat []).getD 0 (C.fn 0 [])).toStr).length)) (H [Pt.r,Pt.r,Pt.r,Pt.r,Pt.r,Pt.l,Pt.r,Pt.b] k (bEf (v) (s) (b) (l) (r) (t++aAe v (IntKind.i64.wrap (b+j)) ((r.getD j.toNat []).getD 0 (C.fn 0 [])).toStr) (o.length+1) (o.append [[C.int .i64 (↑t.length:Int)]]) (IntKind.i64.wrap (j+(1:Int)))))))))) (.must (decide ¬5=0&&decide (0<t.length)) (.must (aAf [K.int .i64] (List.take q o)&&(decide ((List.take q o).length≤1048576)&&(inB (↑t.length:Int) (-9223372036854775808) 9223372036854775807&&(aC1 (List.take q o)).all okI))) (.must (decide (t.length+(aBt v s b l (aC1 (List.take q o)) (↑t.length:Int)).length≤9223372036854775807)) (.ret [C.str (t++aBt v s b l (aC1 (List.take q o)) (↑t.length:Int))]))))):T (List C)).eval:=aAc (by kernel_rfl)
end Go.Proofs.YtfljomghcbaepaaGreatDoor.V
