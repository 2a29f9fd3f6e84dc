/- Functions of the given program and of its reference: what each returns, as an equation over data; by the interpreter. -/
import Derived.Test.YtigodjkegcibhaaGreatDoorS
import Derived.Test.YtigodjkegcibhaaGreatDoorProg
import Derived.KernelRfl
import Derived.Shelf.Spec.SlicesInsertGrow
import Derived.Lib.SlicesDelete
import Derived.Deep.RegionLaw
import Derived.Deep.LoopGhost
import Derived.Below
import Derived.Shelf.LaysM
import Derived.Shelf.Strconv.Itoa3
import Derived.Shelf.LaysC
import Derived.Shelf.Strconv.AtoiAll
import Derived.Lib.AppendIntMem
import Derived.Lib.Bytealg
import Derived.Sort.Walk0
set_option linter.unusedVariables false
set_option linter.unusedSimpArgs false
set_option linter.unusedSectionVars false
set_option linter.deprecated false
namespace Go.Proofs.YtigodjkegcibhaaGreatDoor.V
noncomputable section
def aAy:PTy:=.val true [.slice 66,.slice 92,.slice 92,.slice 9,.int .i64,.int .i64]
def aKa:RTy:=⟨true,[(.slice 66,true),(.slice 92,true),(.slice 92,true),(.slice 9,true),(.int .i64,false),(.int .i64,false)]⟩
def aBa (ns es os ss:List (List C)):Bool:=aAf kNd ns&&aAf kEn es&&aAf kEn os&&aAf [.str] ss
def aF8 (ns es os ss:List (List C)):Bool:=aCp ns&&aCp es&&aCp os&&aCp ss
def aBd (n:Nat) (ns es os ss:List (List C)):Bool:=decide (ns.length≤n)&&decide (es.length≤n)&&decide (os.length≤n)&&decide (ss.length≤n)
def aIa (l:List Nat) (left:Int):Int:=if left<0 then -1 else aBm l left
def aNn (ns:List Nd) (es os:List En) (ss:List (List UInt8)) (left:Int):Int :=
 aIa (ss.map List.length) (aIa (os.map fun x=>x.name.length) (aIa (es.map fun x=>x.name.length) (aBm (ns.map fun x=>x.text.length) left)))
abbrev cAc:List K:=[.slice 82,.slice 85,.slice 85,.slice 9,.int .i64,.int .i64]
def aK1:PTy:=.val true cAc
def aLy:Spec:=fun cs=>match cs with
 |[.sl ns,.sl es,.sl os,.sl ss,.int .i64 _,.int .i64 _,.int .i64 left]=>some (decide (0≤left)&&decide (left≤1048576)&&(aBd 281474976710656 ns es os ss&&aBa ns es os ss&&aF8 ns es os ss),[.int .i64 (aNn (nds ns) (ens es) (ens os) (aDa ss) left)])
 |_=>none
def bH5:Env:=mkE [] [(31,(sg [pSl 9,pI] [rI]),aU7),(29,(sg [pSl 82,pI] [rI]),aO8),(30,(sg [pSl 85,pI] [rI]),aKl)]
def aLv:Spec:=fun cs=>match cs with
 |[.sl ns,.sl es,.sl os,.sl ss,.int .i64 r,.int .i64 x]=>some (aBd 1048576 ns es os ss&&aBa ns es os ss,[.sl ns,.sl es,.sl os,.sl ss,.int .i64 r,.int .i64 x])
 |_=>none
def bM9:Env:=mkE [] [(40,(sg [pSl 9] [rSl 9]),aU1),(38,(sg [pSl 82] [rSl 66]),aO6),(39,(sg [pSl 85] [rSl 92]),aKk)]
def bVq (ns1 es1 os1 ss1:List (List C)) (r1 x1:Int) (ns2 es2 os2 ss2:List (List C)) (r2 x2:Int):Bool :=
 decide (nds ns1=nds ns2)&&decide (ens es1=ens es2)&&decide (ens os1=ens os2)&&decide (aDa ss1=aDa ss2)&&decide (r1=r2)&&decide (x1=x2)
def aMh:Spec:=fun cs=>match cs with
 |[.sl ns1,.sl es1,.sl os1,.sl ss1,.int .i64 r1,.int .i64 x1,.sl ns2,.sl es2,.sl os2,.sl ss2,.int .i64 r2,.int .i64 x2] =>
  some (aBd 1048576 ns1 es1 os1 ss1&&aBa ns1 es1 os1 ss1&&aBa ns2 es2 os2 ss2,[.bool (bVq ns1 es1 os1 ss1 r1 x1 ns2 es2 os2 ss2 r2 x2)])
 |_=>none
def bMn:Env:=mkE [] [(26,(sg [pSl 9,pSl 9] [rB]),aPy),(45,(sg [pSl 66,pSl 66] [rB]),aOk),(46,(sg [pSl 92,pSl 92] [rB]),aLf)]
end
set_option maxRecDepth 100000
theorem bDt (H:List Pt→Nat→St→T (List C)) (ns:List (List C)) (es:List (List C)) (os:List (List C)) (ss:List (List C)) (r:Int) (x:Int) (left:Int):(aAi bH5 aAa (sg [aK1,pI] [rI]) Tryz.f7 H [C.sl ns,C.sl es,C.sl os,C.sl ss,C.int .i64 r,C.int .i64 x,C.int .i64 left]).eval=((.must (decide ((0:Int)≤left)&&decide (left≤(1048576:Int))&&(decide (ns.length≤281474976710656)&&(aAf [K.int .i64,K.str,K.int .i64] ns&&aCp ns))) (.ask (decide (aBm (List.map (fun x=>x.2.length) (nds ns)) left<(0:Int))) (.ret [C.int .i64 (-1)]) (.must (decide ((0:Int)≤aBm (List.map (fun x=>x.2.length) (nds ns)) left)&&decide (aBm (List.map (fun x=>x.2.length) (nds ns)) left≤(1048576:Int))&&(decide (es.length≤281474976710656)&&(aAf [K.str,K.int .i64] es&&aCp es))) (.ask (decide (aBm (List.map (fun x=>x.1.length) (ens es)) (aBm (List.map (fun x=>x.2.length) (nds ns)) left)<(0:Int))) (.ret [C.int .i64 (-1)]) (.must (decide ((0:Int)≤aBm (List.map (fun x=>x.1.length) (ens es)) (aBm (List.map (fun x=>x.2.length) (nds ns)) left))&&decide (aBm (List.map (fun x=>x.1.length) (ens es)) (aBm (List.map (fun x=>x.2.length) (nds ns)) left)≤(1048576:Int))&&(decide (os.length≤281474976710656)&&(aAf [K.str,K.int .i64] os&&aCp os))) (.ask (decide (aBm (List.map (fun x=>x.1.length) (ens os)) (aBm (List.map (fun x=>x.1.length) (ens es)) (aBm (List.map (fun x=>x.2.length) (nds ns)) left))<(0:Int))) (.ret [C.int .i64 (-1)]) (.must (decide ((0:Int)≤aBm (List.map (fun x=>x.1.length) (ens os)) (aBm (List.map (fun x=>x.1.length) (ens es)) (aBm (List.map (fun x=>x.2.length) (nds ns)) left)))&&decide (aBm (List.map (fun x=>x.1.length) (ens os)) (aBm (List.map (fun x=>x.1.length) (ens es)) (aBm (List.map (fun x=>x.2.length) (nds ns)) left))≤(1048576:Int))&&(decide (ss.length≤281474976710656)&&(aAf [K.str] ss&&aCp ss))) (.ask (decide (aBm (List.map List.length (aDa ss)) (aBm (List.map (fun x=>x.1.length) (ens os)) (aBm (List.map (fun x=>x.1.length) (ens es)) (aBm (List.map (fun x=>x.2.length) (nds ns)) left)))<(0:Int))) (.ret [C.int .i64 (-1)]) (.ret [C.int .i64 (aBm (List.map List.length (aDa ss)) (aBm (List.map (fun x=>x.1.length) (ens os)) (aBm (List.map (fun x=>x.1.length) (ens es)) (aBm (List.map (fun x=>x.2.length) (nds ns)) left))))]))))))))):T (List C)).eval:=aAh (by kernel_rfl)
theorem bHs (H:List Pt→Nat→St→T (List C)) (ns:List (List C)) (es:List (List C)) (os:List (List C)) (ss:List (List C)) (r:Int) (x:Int):(aAi bM9 aAa (sg [aK1] [aKa]) Tryz.f9 H [C.sl ns,C.sl es,C.sl os,C.sl ss,C.int .i64 r,C.int .i64 x]).eval=((.must (decide (ns.length≤1048576)&&aAf [K.int .i64,K.str,K.int .i64] ns) (.must ((true&&ns.all fun row=>decide (row.length=3))&&true&&true&&true) (.must (decide (es.length≤1048576)&&aAf [K.str,K.int .i64] es) (.must ((true&&es.all fun row=>decide (row.length=2))&&true&&true&&true) (.must (decide (os.length≤1048576)&&aAf [K.str,K.int .i64] os) (.must ((true&&os.all fun row=>decide (row.length=2))&&true&&true&&true) (.must (decide (ss.length≤1048576)&&aAf [K.str] ss) (.must ((true&&ss.all fun row=>decide (row.length=1))&&true&&true&&true) (.must (decide (ns.length=ns.length)&&(false||ns.all fun r=>r.all C.flat)&&(decide (es.length=es.length)&&(false||es.all fun r=>r.all C.flat)&&(decide (os.length=os.length)&&(false||os.all fun r=>r.all C.flat)&&(decide (ss.length=ss.length)&&(false||ss.all fun r=>r.all C.flat)&&(true&&(false||true)&&(true&&(false||true)&&true)))))&&true&&true) (.ret [C.sl ns,C.sl es,C.sl os,C.sl ss,C.int .i64 r,C.int .i64 x])))))))))):T (List C)).eval:=aAh (by kernel_rfl)
theorem bKh (H:List Pt→Nat→St→T (List C)) (ns1:List (List C)) (es1:List (List C)) (os1:List (List C)) (ss1:List (List C)) (r1:Int) (x1:Int) (ns2:List (List C)) (es2:List (List C)) (os2:List (List C)) (ss2:List (List C)) (r2:Int) (x2:Int):(aAi bMn aAa (sg [aAy,aAy] [rB]) Tryz.f11 H [C.sl ns1,C.sl es1,C.sl os1,C.sl ss1,C.int .i64 r1,C.int .i64 x1,C.sl ns2,C.sl es2,C.sl os2,C.sl ss2,C.int .i64 r2,C.int .i64 x2]).eval=((.must (decide (ns1.length≤1048576)&&(aAf [K.int .i64,K.str,K.int .i64] ns1&&aAf [K.int .i64,K.str,K.int .i64] ns2)) (.ask (decide (nds ns1=nds ns2)) (.must (decide (es1.length≤1048576)&&(aAf [K.str,K.int .i64] es1&&aAf [K.str,K.int .i64] es2)) (.ask (decide (ens es1=ens es2)) (.must (decide (os1.length≤1048576)&&(aAf [K.str,K.int .i64] os1&&aAf [K.str,K.int .i64] os2)) (.ask (decide (ens os1=ens os2)) (.must (decide (ss1.length≤1073741824)&&(aAf [K.str] ss1&&aAf [K.str] ss2)) (.ask (decide (aDa ss1=aDa ss2)) (.ask (r1 != r2) (.ret [C.bool false]) (.ask (x1 != x2) (.ret [C.bool false]) (.ret [C.bool true]))) (.ret [C.bool false]))) (.ret [C.bool false]))) (.ret [C.bool false]))) (.ret [C.bool false]))):T (List C)).eval:=aAh (by kernel_rfl)
theorem bMz (l:List Nat) (left:Int) (h:0≤left):aEy l left= -1∨(0≤aEy l left∧aEy l left≤left):=by
 induction l generalizing left with
 |nil=>exact .inr ⟨h,Int.le_refl _⟩
 |cons n r ih =>
  simp only[aEy]
  split
  ·exact .inl rfl
  ·rcases ih (left-n) (by omega)with h | h
   ·exact .inl h
   ·exact .inr (by omega)
theorem aLx (l:List Nat) (left:Int):aBm l left= -1∨(0≤aBm l left∧aBm l left≤left):=by
 unfold aBm
 split
 ·exact .inl rfl
 ·rcases bMz l (left-l.length) (by omega)with h | h
  ·exact .inl h
  ·exact .inr (by omega)
theorem aDh {ns es os ss:List (List C)}:aBa ns es os ss=true↔aAf kNd ns=true∧aAf kEn es=true∧aAf kEn os=true∧aAf [.str] ss=true:=by simp[aBa,and_assoc]
theorem bCw {ns es os ss:List (List C)}:aF8 ns es os ss=true↔aCp ns=true∧aCp es=true∧aCp os=true∧aCp ss=true:=by simp[aF8,and_assoc]
theorem aD3 {n:Nat} {ns es os ss:List (List C)}:aBd n ns es os ss=true↔ns.length≤n∧es.length≤n∧os.length≤n∧ss.length≤n:=by simp[aBd,and_assoc]
theorem aGa {ks:List K} {rows:List (List C)} (h:aAf ks rows=true):(rows.all fun row=>decide (row.length=ks.length))=true:=by
 have key:∀ (ks:List K) (r:List C),aBo r ks=true→r.length=ks.length:=by
  intro ks
  induction ks with
  |nil=>intro r h;cases r<;>simp[aBo]at h;rfl
  |cons k ks ih =>
   intro r h
   cases r with
   |nil=>simp[aBo]at h
   |cons c r=>simp only[aBo,Bool.and_eq_true]at h;simp[ih r h.2]
 simp only[aAf,List.all_eq_true,decide_eq_true_eq]at h ⊢
 exact fun r hr=>key ks r (h r hr)
theorem bOw {rows:List (List C)} (h:aAf kNd rows=true):(rows.all fun r=>r.all C.flat)=true:=by rw[aE6 h];exact aMg _
theorem aZd {rows:List (List C)} (h:aAf kEn rows=true):(rows.all fun r=>r.all C.flat)=true:=by rw[aDi h];exact aF7 _
theorem bK9 {rows:List (List C)} (h:aAf [.str] rows=true):(rows.all fun r=>r.all C.flat)=true:=by rw[aEe h];exact aEf _
theorem bQ1:aA8 Tryz.prog bH5:=aA6 (by simp[aU6,bAa,aXf])
theorem aP3:aAs Tryz.prog 7 (sg [aK1,pI] [rI]) aLy:=aA5 bQ1 aA9 Tryz.func7 (by kernel_rfl) fun cs outs hk h=>by
 unfold aLy at h
 split at h
 ·simp only[Option.some.injEq,Prod.mk.injEq,Bool.and_eq_true,decide_eq_true_eq]at h
  obtain⟨⟨⟨h1,h2⟩,⟨h3,h4⟩,h5⟩,rfl⟩:=h
  rename_i ns es os ss r x left
  rw[aD3]at h3
  rw[aDh]at h4
  rw[bCw]at h5
  obtain⟨l1,l2,l3,l4⟩:=h3
  obtain⟨k1,k2,k3,k4⟩:=h4
  obtain⟨t1,t2,t3,t4⟩:=h5
  rw[aAb,bDt]
  simp only[kNd]at k1
  simp only[kEn]at k2 k3
  unfold aNn
  have e1:(fun (x:Nd)=>x.2.length)=fun x=>x.text.length:=rfl
  have e2:(fun (x:En)=>x.1.length)=fun x=>x.name.length:=rfl
  rw[e1,e2]
  generalize hA:aBm ((nds ns).map fun x=>x.text.length) left=A
  have rA:=aLx ((nds ns).map fun x=>x.text.length) left
  rw[hA]at rA
  simp only[aA0,aA2,aA1,h1,h2,l1,k1,t1,decide_true,Bool.and_self,if_true,decide_eq_true_eq]
  by_cases nA:A<0
  ·simp[nA,aIa]
  ·have cA:0≤A∧A≤1048576:=by omega
   simp only[nA,if_false,cA.1,cA.2,l2,k2,t2,decide_true,Bool.and_self,if_true,aIa]
   generalize hB:aBm ((ens es).map fun x=>x.name.length) A=B
   have rB:=aLx ((ens es).map fun x=>x.name.length) A
   rw[hB]at rB
   by_cases nB:B<0
   ·simp[nB]
   ·have cB:0≤B∧B≤1048576:=by omega
    simp only[nB,if_false,cB.1,cB.2,l3,k3,t3,decide_true,Bool.and_self,if_true]
    generalize hC:aBm ((ens os).map fun x=>x.name.length) B=C'
    have rC:=aLx ((ens os).map fun x=>x.name.length) B
    rw[hC]at rC
    by_cases nC:C'<0
    ·simp[nC]
    ·have cC:0≤C'∧C'≤1048576:=by omega
     simp only[nC,if_false,cC.1,cC.2,l4,k4,t4,decide_true,Bool.and_self,if_true]
     have rD:=aLx ((aDa ss).map List.length) C'
     split
     ·have:aBm ((aDa ss).map List.length) C'= -1:=by omega
      rw[this]
     ·rfl
 ·cases h
theorem bTt:aA8 Tryz.prog bM9:=aA6 (by simp[aU0,bA6,aX9])
theorem aRt:aAs Tryz.prog 9 (sg [aK1] [aKa]) aLv:=aA5 bTt aA9 Tryz.func9 (by kernel_rfl) fun cs outs hk h=>by
 unfold aLv at h
 split at h
 ·simp only[Option.some.injEq,Prod.mk.injEq,Bool.and_eq_true,decide_eq_true_eq]at h
  obtain⟨⟨h3,h4⟩,rfl⟩:=h
  rename_i ns es os ss r x
  rw[aD3]at h3
  rw[aDh]at h4
  obtain⟨l1,l2,l3,l4⟩:=h3
  obtain⟨k1,k2,k3,k4⟩:=h4
  rw[aAb,bHs]
  have a1:=aGa k1
  have a2:=aGa k2
  have a3:=aGa k3
  have a4:=aGa k4
  have f1:=bOw k1
  have f2:=aZd k2
  have f3:=aZd k3
  have f4:=bK9 k4
  simp only[kNd]at k1
  simp only[kEn]at k2 k3
  simp only[kNd,kEn,List.length_cons,List.length_nil,Nat.zero_add,Nat.reduceAdd]at a1 a2 a3 a4
  simp only[aA0,aA1,l1,l2,l3,l4,k1,k2,k3,k4,a1,a2,a3,a4,f1,f2,f3,f4,decide_true,Bool.and_self,Bool.or_true,if_true]
 ·cases h
theorem bVr:aA8 Tryz.prog bMn:=aA6 (by simp[aLe,bCp,aYf])
theorem aS7:aAs Tryz.prog 11 (sg [aAy,aAy] [rB]) aMh:=aA5 bVr aA9 Tryz.func11 (by kernel_rfl) fun cs outs hk h=>by
 unfold aMh at h
 split at h
 ·simp only[Option.some.injEq,Prod.mk.injEq,Bool.and_eq_true,decide_eq_true_eq]at h
  obtain⟨⟨⟨h3,h4⟩,h5⟩,rfl⟩:=h
  rename_i ns es os ss r x ns2 es2 os2 ss2 r2 x2
  rw[aD3]at h3
  rw[aDh]at h4 h5
  obtain⟨l1,l2,l3,l4⟩:=h3
  obtain⟨k1,k2,k3,k4⟩:=h4
  obtain⟨q1,q2,q3,q4⟩:=h5
  rw[aAb,bKh]
  simp only[kNd]at k1 q1
  simp only[kEn]at k2 k3 q2 q3
  have l5:ss.length≤1073741824:=by omega
  simp only[aA0,aA2,aA1,l1,l2,l3,l4,l5,k1,k2,k3,k4,q1,q2,q3,q4,decide_true,Bool.and_self,if_true,bVq,bne_iff_ne,ne_eq,decide_eq_true_eq]
  repeat' split
  all_goals first | rfl | (simp_all;done)
 ·cases h
noncomputable section
def aD1 {A:Type} (p:A→Bool):List A→Nat→Int
 |[],_=> -1
 |x::r,i=>if p x then (i:Int)else aD1 p r (i+1)
def bKl (nm:List UInt8) (e:En):Bool:=decide (e.name=nm)
def bWo (id:Int) (n:Nd):Bool:=decide (n.id=id)
def aA4 (es:List En) (nm:List UInt8):Int:=aD1 (bKl nm) es 0
def aAt (ns:List Nd) (id:Int):Int:=aD1 (bWo id) ns 0
def aB4 (es:List En) (nm:List UInt8):Int:=if aA4 es nm<0 then 0 else (es.getD (aA4 es nm).toNat ⟨[],0⟩).id
def aGn (es:List En) (nm:List UInt8):Bool:=decide (0≤aA4 es nm)
def aB1 (ns:List Nd) (es:List En) (nm:List UInt8):Int:=if aA4 es nm<0 then -1 else aAt ns (aB4 es nm)
def bYc (ns:List Nd) (es:List En) (nm:List UInt8):Nd:=if aB1 ns es nm<0 then⟨0,[],0⟩else ns.getD (aB1 ns es nm).toNat ⟨0,[],0⟩
def aW8 (ns:List Nd) (es:List En) (nm:List UInt8):Bool:=decide (0≤aB1 ns es nm)
def cBo (ns:List Nd) (es:List En) (nm:List UInt8):Int:=(bYc ns es nm).id
def aGb (ns:List Nd) (es:List En) (nm:List UInt8):List UInt8:=(bYc ns es nm).text
def bR6 (ns:List Nd) (es:List En) (nm:List UInt8):Int:=(bYc ns es nm).sure
def aHh:Nat:=281474976710656
def aT7:Spec:=fun cs=>match cs with
 |[.str n,.int .i64 _,.pt [.str nm]]=>some (true,[.bool (decide (n=nm))])
 |_=>none
def aT2:Spec:=fun cs=>match cs with
 |[.int .i64 i,.str _,.int .i64 _,.pt [.int .i64 id]]=>some (true,[.bool (decide (i=id))])
 |_=>none
def bBs:Spec:=fun cs=>match cs with
 |[.sl rows,.fn f [.pt [.str nm]]]=>some (decide (f=111)&&(decide (rows.length≤aHh)&&aAf kEn rows),[.int .i64 (aA4 (ens rows) nm)])
 |_=>none
def bBq:Spec:=fun cs=>match cs with
 |[.sl rows,.fn f [.pt [.int .i64 id]]]=>some (decide (f=113)&&(decide (rows.length≤aHh)&&aAf kNd rows),[.int .i64 (aAt (nds rows) id)])
 |_=>none
def aKy:Spec:=fun cs=>match cs with
 |[.sl rows,.str nm]=>some (decide (rows.length≤aHh)&&aAf kEn rows,[.int .i64 (aA4 (ens rows) nm)])
 |_=>none
def aGh:Spec:=fun cs=>match cs with
 |[.sl rows,.str nm]=>some (decide (rows.length≤aHh)&&aAf kEn rows,[.int .i64 (aB4 (ens rows) nm)])
 |_=>none
def aPt:Spec:=fun cs=>match cs with
 |[.sl rows,.str nm]=>some (decide (rows.length≤aHh)&&aAf kEn rows,[.bool (aGn (ens rows) nm)])
 |_=>none
def aE9:Spec:=fun cs=>match cs with
 |[.sl ns,.sl _,.sl _,.sl _,.int .i64 _,.int .i64 _,.int .i64 id]=>some (decide (ns.length≤aHh)&&aAf kNd ns,[.int .i64 (aAt (nds ns) id)])
 |_=>none
def aZ4 (ns es:List (List C)):Bool:=decide (ns.length≤aHh)&&decide (es.length≤aHh)&&aAf kNd ns&&aAf kEn es
def aM6:Spec:=fun cs=>match cs with
 |[.sl ns,.sl es,.sl _,.sl _,.int .i64 _,.int .i64 _,.str nm]=>some (aZ4 ns es,[.int .i64 (aB1 (nds ns) (ens es) nm)])
 |_=>none
def aGz:Spec:=fun cs=>match cs with
 |[.sl ns,.sl es,.sl _,.sl _,.int .i64 _,.int .i64 _,.str nm]=>some (aZ4 ns es,[.int .i64 (cBo (nds ns) (ens es) nm),.str (aGb (nds ns) (ens es) nm),.int .i64 (bR6 (nds ns) (ens es) nm),.bool (aW8 (nds ns) (ens es) nm)])
 |_=>none
def aE1:Spec:=fun cs=>match cs with
 |[.sl ns,.sl es,.sl _,.sl _,.int .i64 _,.int .i64 _,.str nm]=>some (aZ4 ns es,[.str (aGb (nds ns) (ens es) nm),.bool (aW8 (nds ns) (ens es) nm)])
 |_=>none
def aB6 (ns:List Nd) (es:List En) (base:Int):List UInt8:=aGb ns es (aB9 base)
def aFi:Spec:=fun cs=>match cs with
 |[.sl ns,.sl es,.sl _,.sl _,.int .i64 _,.int .i64 _,.int .i64 base]=>some (aZ4 ns es,[.str (aB6 (nds ns) (ens es) base)])
 |_=>none
abbrev pF:PTy:=.val false [.func]
abbrev pP:PTy:=.val false [.ptr]
def bM7 (r:List (List C)) (nm:List UInt8) (n i:Int):St:=st0 [(0,.l (.sl r)),(1,.l (.fn 111 [.pt [.str nm]])),(7,aB5 n),(8,aB5 i)]
def bM5 (r:List (List C)) (id:Int) (n i:Int):St:=st0 [(0,.l (.sl r)),(1,.l (.fn 113 [.pt [.int .i64 id]])),(7,aB5 n),(8,aB5 i)]
def aTj (r:List (List C)) (nm:List UInt8) (i:Int):St:=st0 [(0,.l (.sl r)),(1,aYj nm),(5,aB5 i)]
def aTi (r:List (List C)) (nm:List UInt8) (i:Int):St:=st0 [(0,.l (.sl r)),(1,aYj nm),(5,aB5 i)]
def aQ9 (ns es os ss:List (List C)) (r x id i:Int):St:={slots:=[(1,aB5 id),(2,.l (.ptr 0 0)),(5,aB5 i)],heap:=[(0,.box [.sl ns,.sl es,.sl os,.sl ss,.i .i64 r,.i .i64 x])],next:=1,pins:=[]}
def bXc:Env:=mkE [] []
def bX5:Env:=mkE [] []
def bMg:Env:=mkE [(2,[0,1,7,8])] [(111,(sg [aDe,pP] [rB]),aT7)]
def bMe:Env:=mkE [(2,[0,1,7,8])] [(113,(sg [aNi,pP] [rB]),aT2)]
def aZv:Env:=mkE [] [(111,(sg [aDe,pP] [rB]),aT7),(110,(sg [pSl 92,pF] [rI]),bBs)]
def bHb:Env:=mkE [] [(113,(sg [aNi,pP] [rB]),aT2),(112,(sg [pSl 66,pF] [rI]),bBq)]
def aTw:Env:=mkE [(2,[0,1,5])] []
def aTv:Env:=mkE [(2,[0,1,5])] []
def aQg:Env:=mkE [(2,[1,2,5])] []
def bHc:Env:=mkE [] [(83,(sg [pSl 92,pS] [rI]),aKy),(84,(sg [aAy,pI] [rI]),aE9)]
def bH7:Env:=mkE [] [(37,(sg [pSl 92,pS] [rI]),aGh),(93,(sg [pSl 92,pS] [rB]),aPt),(36,(sg [aAy,pI] [rI]),aE9)]
def bHe:Env:=mkE [] [(42,(sg [aAy,pS] [rI]),aM6)]
def aWv:Env:=mkE [] [(73,(sg [aAy,pS] [bB6,rB]),aGz)]
def aX0:Env:=mkE [] [(174,(sg [aAy,pS] [bB6,rB]),aGz)]
def bH6:Env:=mkE [] [(68,(sg [pI] [rS]),aKn),(33,(sg [aAy,pS] [rS,rB]),aE1)]
def bHd:Env:=mkE [] [(70,(sg [pI] [rS]),aKn),(148,(sg [aAy,pS] [rS,rB]),aE1)]
end
theorem bSj (H:List Pt→Nat→St→T (List C)) (n:List UInt8) (i:Int) (nm:List UInt8):(aAi bXc aAa (sg [aDe,pP] [rB]) Tryz.f111 H [C.str n,C.int .i64 i,C.pt [C.str nm]]).eval=((.ask (n==nm) (.ret [C.bool true]) (.ret [C.bool false])):T (List C)).eval:=aAh (by kernel_rfl)
theorem bR7 (H:List Pt→Nat→St→T (List C)) (i:Int) (t:List UInt8) (s:Int) (id:Int):(aAi bX5 aAa (sg [aNi,pP] [rB]) Tryz.f113 H [C.int .i64 i,C.str t,C.int .i64 s,C.pt [C.int .i64 id]]).eval=((.ask (decide (i=id)) (.ret [C.bool true]) (.ret [C.bool false])):T (List C)).eval:=aAh (by kernel_rfl)
theorem bRm (H:List Pt→Nat→St→T (List C)) (r:List (List C)) (nm:List UInt8):(aAi bMg aAa (sg [pSl 92,pF] [rI]) Tryz.f110 H [C.sl r,C.fn 111 [C.pt [C.str nm]]]).eval=((H [Pt.r,Pt.l,Pt.r,Pt.b] 9223372036854775808 (bM7 (r) (nm) ((↑r.length:Int)) ((0:Int)))):T (List C)).eval:=aAh (by kernel_rfl)
theorem bRh (H:List Pt→Nat→St→T (List C)) (r:List (List C)) (id:Int):(aAi bMe aAa (sg [pSl 66,pF] [rI]) Tryz.f112 H [C.sl r,C.fn 113 [C.pt [C.int .i64 id]]]).eval=((H [Pt.r,Pt.l,Pt.r,Pt.b] 9223372036854775808 (bM5 (r) (id) ((↑r.length:Int)) ((0:Int)))):T (List C)).eval:=aAh (by kernel_rfl)
theorem bB9 (H:List Pt→Nat→St→T (List C)) (r:List (List C)) (nm:List UInt8):(aAi aZv aAa (sg [pSl 92,pS] [rI]) Tryz.f83 H [C.sl r,C.str nm]).eval=((.must (decide (111=111)&&(decide (r.length≤aHh)&&aAf [K.str,K.int .i64] r)) (.ret [C.int .i64 (aA4 (ens r) nm)])):T (List C)).eval:=aAh (by kernel_rfl)
theorem bF6 (H:List Pt→Nat→St→T (List C)) (ns:List (List C)) (es:List (List C)) (os:List (List C)) (ss:List (List C)) (r:Int) (x:Int) (id:Int):(aAi bHb aAa (sg [aAy,pI] [rI]) Tryz.f84 H [C.sl ns,C.sl es,C.sl os,C.sl ss,C.int .i64 r,C.int .i64 x,C.int .i64 id]).eval=((.must (decide (113=113)&&(decide (ns.length≤aHh)&&aAf [K.int .i64,K.str,K.int .i64] ns)) (.ret [C.int .i64 (aAt (nds ns) id)])):T (List C)).eval:=aAh (by kernel_rfl)
theorem bKi (H:List Pt→Nat→St→T (List C)) (r:List (List C)) (nm:List UInt8):(aAi aTw aAa (sg [pSl 92,pS] [rI]) Tryz.f37 H [C.sl r,C.str nm]).eval=((H [Pt.r,Pt.l,Pt.r,Pt.b] 9223372036854775808 (aTj (r) (nm) ((0:Int)))):T (List C)).eval:=aAh (by kernel_rfl)
theorem bK5 (H:List Pt→Nat→St→T (List C)) (r:List (List C)) (nm:List UInt8):(aAi aTv aAa (sg [pSl 92,pS] [rB]) Tryz.f93 H [C.sl r,C.str nm]).eval=((H [Pt.r,Pt.l,Pt.r,Pt.b] 9223372036854775808 (aTi (r) (nm) ((0:Int)))):T (List C)).eval:=aAh (by kernel_rfl)
theorem bE7 (H:List Pt→Nat→St→T (List C)) (ns:List (List C)) (es:List (List C)) (os:List (List C)) (ss:List (List C)) (r:Int) (x:Int) (id:Int):(aAi aQg aAa (sg [aAy,pI] [rI]) Tryz.f36 H [C.sl ns,C.sl es,C.sl os,C.sl ss,C.int .i64 r,C.int .i64 x,C.int .i64 id]).eval=((H [Pt.r,Pt.l,Pt.r,Pt.b] 9223372036854775808 (aQ9 (ns) (es) (os) (ss) (r) (x) (id) ((0:Int)))):T (List C)).eval:=aAh (by kernel_rfl)
theorem bF8 (H:List Pt→Nat→St→T (List C)) (ns:List (List C)) (es:List (List C)) (os:List (List C)) (ss:List (List C)) (r:Int) (x:Int) (nm:List UInt8):(aAi bHc aAa (sg [aAy,pS] [rI]) Tryz.f42 H [C.sl ns,C.sl es,C.sl os,C.sl ss,C.int .i64 r,C.int .i64 x,C.str nm]).eval=((.must (decide (es.length≤aHh)&&aAf [K.str,K.int .i64] es) (.ask (decide (aA4 (ens es) nm<(0:Int))) (.ret [C.int .i64 (-1)]) (.must (decide ((0:Int)≤aA4 (ens es) nm)&&decide (aA4 (ens es) nm<(↑es.length:Int))&&decide ((es.getD (aA4 (ens es) nm).toNat []).length=2)) (.must (decide (0+1<(es.getD (aA4 (ens es) nm).toNat []).length)&&C.is (K.int .i64) ((es.getD (aA4 (ens es) nm).toNat []).getD (0+1) (C.fn 0 []))&&true) (.must (decide (ns.length≤aHh)&&aAf [K.int .i64,K.str,K.int .i64] ns) (.ret [C.int .i64 (aAt (nds ns) ((es.getD (aA4 (ens es) nm).toNat []).getD (0+1) (C.fn 0 [])).toInt)])))))):T (List C)).eval:=aAh (by kernel_rfl)
theorem bE9 (H:List Pt→Nat→St→T (List C)) (ns:List (List C)) (es:List (List C)) (os:List (List C)) (ss:List (List C)) (r:Int) (x:Int) (nm:List UInt8):(aAi bH7 aAa (sg [aAy,pS] [bB6,rB]) Tryz.f73 H [C.sl ns,C.sl es,C.sl os,C.sl ss,C.int .i64 r,C.int .i64 x,C.str nm]).eval=((.must (decide (es.length≤aHh)&&aAf [K.str,K.int .i64] es) (.must (decide (ns.length≤aHh)&&aAf [K.int .i64,K.str,K.int .i64] ns) (.ask (decide (aAt (nds ns) (aB4 (ens es) nm)<(0:Int))) (.ret [C.int .i64 0,C.str [],C.int .i64 0,C.bool false]) (.must (decide (es.length≤aHh)&&aAf [K.str,K.int .i64] es) (.ask (aGn (ens es) nm) (.must (decide ((0:Int)≤aAt (nds ns) (aB4 (ens es) nm))&&decide (aAt (nds ns) (aB4 (ens es) nm)<(↑ns.length:Int))&&decide ((ns.getD (aAt (nds ns) (aB4 (ens es) nm)).toNat []).length=3)) (.must (decide (0<(ns.getD (aAt (nds ns) (aB4 (ens es) nm)).toNat []).length)&&C.is (K.int .i64) ((ns.getD (aAt (nds ns) (aB4 (ens es) nm)).toNat []).getD 0 (C.fn 0 []))&&(decide (0+1<(ns.getD (aAt (nds ns) (aB4 (ens es) nm)).toNat []).length)&&C.is K.str ((ns.getD (aAt (nds ns) (aB4 (ens es) nm)).toNat []).getD (0+1) (C.fn 0 []))&&(decide (0+1+1<(ns.getD (aAt (nds ns) (aB4 (ens es) nm)).toNat []).length)&&C.is (K.int .i64) ((ns.getD (aAt (nds ns) (aB4 (ens es) nm)).toNat []).getD (0+1+1) (C.fn 0 []))&&true))) (.ret [C.int .i64 ((ns.getD (aAt (nds ns) (aB4 (ens es) nm)).toNat []).getD 0 (C.fn 0 [])).toInt,C.str ((ns.getD (aAt (nds ns) (aB4 (ens es) nm)).toNat []).getD (0+1) (C.fn 0 [])).toStr,C.int .i64 ((ns.getD (aAt (nds ns) (aB4 (ens es) nm)).toNat []).getD (0+1+1) (C.fn 0 [])).toInt,C.bool true]))) (.ret [C.int .i64 0,C.str [],C.int .i64 0,C.bool false])))))):T (List C)).eval:=aAh (by kernel_rfl)
theorem bFt (H:List Pt→Nat→St→T (List C)) (ns:List (List C)) (es:List (List C)) (os:List (List C)) (ss:List (List C)) (r:Int) (x:Int) (nm:List UInt8):(aAi bHe aAa (sg [aAy,pS] [bB6,rB]) Tryz.f174 H [C.sl ns,C.sl es,C.sl os,C.sl ss,C.int .i64 r,C.int .i64 x,C.str nm]).eval=((.must (aZ4 ns es) (.ask (decide (aB1 (nds ns) (ens es) nm<(0:Int))) (.ret [C.int .i64 0,C.str [],C.int .i64 0,C.bool false]) (.must (decide ((0:Int)≤aB1 (nds ns) (ens es) nm)&&decide (aB1 (nds ns) (ens es) nm<(↑ns.length:Int))&&decide ((ns.getD (aB1 (nds ns) (ens es) nm).toNat []).length=3)) (.must (decide (0<(ns.getD (aB1 (nds ns) (ens es) nm).toNat []).length)&&C.is (K.int .i64) ((ns.getD (aB1 (nds ns) (ens es) nm).toNat []).getD 0 (C.fn 0 []))&&(decide (0+1<(ns.getD (aB1 (nds ns) (ens es) nm).toNat []).length)&&C.is K.str ((ns.getD (aB1 (nds ns) (ens es) nm).toNat []).getD (0+1) (C.fn 0 []))&&(decide (0+1+1<(ns.getD (aB1 (nds ns) (ens es) nm).toNat []).length)&&C.is (K.int .i64) ((ns.getD (aB1 (nds ns) (ens es) nm).toNat []).getD (0+1+1) (C.fn 0 []))&&true))) (.ret [C.int .i64 ((ns.getD (aB1 (nds ns) (ens es) nm).toNat []).getD 0 (C.fn 0 [])).toInt,C.str ((ns.getD (aB1 (nds ns) (ens es) nm).toNat []).getD (0+1) (C.fn 0 [])).toStr,C.int .i64 ((ns.getD (aB1 (nds ns) (ens es) nm).toNat []).getD (0+1+1) (C.fn 0 [])).toInt,C.bool true]))))):T (List C)).eval:=aAh (by kernel_rfl)
theorem aXl (H:List Pt→Nat→St→T (List C)) (ns:List (List C)) (es:List (List C)) (os:List (List C)) (ss:List (List C)) (r:Int) (x:Int) (nm:List UInt8):(aAi aWv aAa (sg [aAy,pS] [rS,rB]) Tryz.f33 H [C.sl ns,C.sl es,C.sl os,C.sl ss,C.int .i64 r,C.int .i64 x,C.str nm]).eval=((.must (aZ4 ns es) (.ask (aW8 (nds ns) (ens es) nm) (.ret [C.str (aGb (nds ns) (ens es) nm),C.bool true]) (.ret [C.str (aGb (nds ns) (ens es) nm),C.bool false]))):T (List C)).eval:=aAh (by kernel_rfl)
theorem aY5 (H:List Pt→Nat→St→T (List C)) (ns:List (List C)) (es:List (List C)) (os:List (List C)) (ss:List (List C)) (r:Int) (x:Int) (nm:List UInt8):(aAi aX0 aAa (sg [aAy,pS] [rS,rB]) Tryz.f148 H [C.sl ns,C.sl es,C.sl os,C.sl ss,C.int .i64 r,C.int .i64 x,C.str nm]).eval=((.must (aZ4 ns es) (.ask (aW8 (nds ns) (ens es) nm) (.ret [C.str (aGb (nds ns) (ens es) nm),C.bool true]) (.ret [C.str (aGb (nds ns) (ens es) nm),C.bool false]))):T (List C)).eval:=aAh (by kernel_rfl)
theorem bDy (H:List Pt→Nat→St→T (List C)) (ns:List (List C)) (es:List (List C)) (os:List (List C)) (ss:List (List C)) (r:Int) (x:Int) (b:Int):(aAi bH6 aAa (sg [aAy,pI] [rS]) Tryz.f105 H [C.sl ns,C.sl es,C.sl os,C.sl ss,C.int .i64 r,C.int .i64 x,C.int .i64 b]).eval=((.must (aZ4 ns es) (.ask (aW8 (nds ns) (ens es) (aB9 b)) (.ret [C.str (aGb (nds ns) (ens es) (aB9 b))]) (.ret [C.str (aGb (nds ns) (ens es) (aB9 b))]))):T (List C)).eval:=aAh (by kernel_rfl)
theorem bFo (H:List Pt→Nat→St→T (List C)) (ns:List (List C)) (es:List (List C)) (os:List (List C)) (ss:List (List C)) (r:Int) (x:Int) (b:Int):(aAi bHd aAa (sg [aAy,pI] [rS]) Tryz.f126 H [C.sl ns,C.sl es,C.sl os,C.sl ss,C.int .i64 r,C.int .i64 x,C.int .i64 b]).eval=((.must (aZ4 ns es) (.ask (aW8 (nds ns) (ens es) (aB9 b)) (.ret [C.str (aGb (nds ns) (ens es) (aB9 b))]) (.ret [C.str (aGb (nds ns) (ens es) (aB9 b))]))):T (List C)).eval:=aAh (by kernel_rfl)
theorem bJi (H:List Pt→Nat→St→T (List C)) (r:List (List C)) (nm:List UInt8) (n:Int) (i:Int) (k:Nat):(aB7 bMg aAa (sg [pSl 92,pF] [rI]) Tryz.f110 H [Pt.r,Pt.l,Pt.r,Pt.b] k (bM7 r nm n i)).eval=((.ask (decide (i<n)) (.must (decide ((0:Int)≤i)&&decide (i<(↑r.length:Int))&&decide ((r.getD i.toNat []).length=2)) (.must (decide (0<(r.getD i.toNat []).length)&&C.is K.str ((r.getD i.toNat []).getD 0 (C.fn 0 []))&&(decide (0+1<(r.getD i.toNat []).length)&&C.is (K.int .i64) ((r.getD i.toNat []).getD (0+1) (C.fn 0 []))&&true)) (.ask (decide (((r.getD i.toNat []).getD 0 (C.fn 0 [])).toStr=nm)) (.ret [C.int .i64 i]) (H [Pt.r,Pt.l,Pt.r,Pt.b] k (bM7 (r) (nm) (n) (IntKind.i64.wrap (i+(1:Int)))))))) (.ret [C.int .i64 (-1)])):T (List C)).eval:=aAh (by kernel_rfl)
theorem bJg (H:List Pt→Nat→St→T (List C)) (r:List (List C)) (id:Int) (n:Int) (i:Int) (k:Nat):(aB7 bMe aAa (sg [pSl 66,pF] [rI]) Tryz.f112 H [Pt.r,Pt.l,Pt.r,Pt.b] k (bM5 r id n i)).eval=((.ask (decide (i<n)) (.must (decide ((0:Int)≤i)&&decide (i<(↑r.length:Int))&&decide ((r.getD i.toNat []).length=3)) (.must (decide (0<(r.getD i.toNat []).length)&&C.is (K.int .i64) ((r.getD i.toNat []).getD 0 (C.fn 0 []))&&(decide (0+1<(r.getD i.toNat []).length)&&C.is K.str ((r.getD i.toNat []).getD (0+1) (C.fn 0 []))&&(decide (0+1+1<(r.getD i.toNat []).length)&&C.is (K.int .i64) ((r.getD i.toNat []).getD (0+1+1) (C.fn 0 []))&&true))) (.ask (decide (((r.getD i.toNat []).getD 0 (C.fn 0 [])).toInt=id)) (.ret [C.int .i64 i]) (H [Pt.r,Pt.l,Pt.r,Pt.b] k (bM5 (r) (id) (n) (IntKind.i64.wrap (i+(1:Int)))))))) (.ret [C.int .i64 (-1)])):T (List C)).eval:=aAh (by kernel_rfl)
theorem bCu (H:List Pt→Nat→St→T (List C)) (r:List (List C)) (nm:List UInt8) (i:Int) (k:Nat):(aB7 aTw aAa (sg [pSl 92,pS] [rI]) Tryz.f37 H [Pt.r,Pt.l,Pt.r,Pt.b] k (aTj r nm i)).eval=((.ask (decide (i<(↑r.length:Int))) (.must (decide ((0:Int)≤i)&&decide (i<(↑r.length:Int))&&decide ((r.getD i.toNat []).length=2)) (.must (decide (0+0<(r.getD i.toNat []).length)&&C.is K.str ((r.getD i.toNat []).getD (0+0) (C.fn 0 []))&&true) (.ask (((r.getD i.toNat []).getD (0+0) (C.fn 0 [])).toStr==nm) (.must (decide ((0:Int)≤i)&&decide (i<(↑r.length:Int))&&decide ((r.getD i.toNat []).length=2)) (.must (decide (0+1<(r.getD i.toNat []).length)&&C.is (K.int .i64) ((r.getD i.toNat []).getD (0+1) (C.fn 0 []))&&true) (.ret [C.int .i64 ((r.getD i.toNat []).getD (0+1) (C.fn 0 [])).toInt]))) (H [Pt.r,Pt.l,Pt.r,Pt.b] k (aTj (r) (nm) (IntKind.i64.wrap (i+(1:Int)))))))) (.ret [C.int .i64 0])):T (List C)).eval:=aAh (by kernel_rfl)
theorem bCd (H:List Pt→Nat→St→T (List C)) (r:List (List C)) (nm:List UInt8) (i:Int) (k:Nat):(aB7 aTv aAa (sg [pSl 92,pS] [rB]) Tryz.f93 H [Pt.r,Pt.l,Pt.r,Pt.b] k (aTi r nm i)).eval=((.ask (decide (i<(↑r.length:Int))) (.must (decide ((0:Int)≤i)&&decide (i<(↑r.length:Int))&&decide ((r.getD i.toNat []).length=2)) (.must (decide (0+0<(r.getD i.toNat []).length)&&C.is K.str ((r.getD i.toNat []).getD (0+0) (C.fn 0 []))&&true) (.ask (((r.getD i.toNat []).getD (0+0) (C.fn 0 [])).toStr==nm) (.ret [C.bool true]) (H [Pt.r,Pt.l,Pt.r,Pt.b] k (aTi (r) (nm) (IntKind.i64.wrap (i+(1:Int)))))))) (.ret [C.bool false])):T (List C)).eval:=aAh (by kernel_rfl)
theorem aXm (H:List Pt→Nat→St→T (List C)) (ns:List (List C)) (es:List (List C)) (os:List (List C)) (ss:List (List C)) (r:Int) (x:Int) (id:Int) (i:Int) (k:Nat):(aB7 aQg aAa (sg [aAy,pI] [rI]) Tryz.f36 H [Pt.r,Pt.l,Pt.r,Pt.b] k (aQ9 ns es os ss r x id i)).eval=((.ask (decide (i<(↑ns.length:Int))) (.must (decide ((0:Int)≤i)&&decide (i<(↑ns.length:Int))&&decide ((ns.getD i.toNat []).length=3)) (.must (decide (0+0<(ns.getD i.toNat []).length)&&C.is (K.int .i64) ((ns.getD i.toNat []).getD (0+0) (C.fn 0 []))&&true) (.ask (decide (((ns.getD i.toNat []).getD (0+0) (C.fn 0 [])).toInt=id)) (.ret [C.int .i64 i]) (H [Pt.r,Pt.l,Pt.r,Pt.b] k (aQ9 (ns) (es) (os) (ss) (r) (x) (id) (IntKind.i64.wrap (i+(1:Int)))))))) (.ret [C.int .i64 (-1)])):T (List C)).eval:=aAh (by kernel_rfl)
theorem aJh {A:Type} (p:A→Bool):∀ (l:List A) (i:Nat),aD1 p l i= -1∨((i:Int)≤aD1 p l i∧aD1 p l i<i+l.length)
 |[],i=>.inl rfl
 |x::r,i=>by
  simp only[aD1]
  split
  ·exact .inr ⟨Int.le_refl _,by simp;omega⟩
  ·rcases aJh p r (i+1)with h | h
   ·exact .inl h
   ·exact .inr ⟨by omega,by simp;omega⟩
theorem aEo (es:List En) (nm:List UInt8):aA4 es nm= -1∨(0≤aA4 es nm∧aA4 es nm<es.length):=by
 rcases aJh (bKl nm) es 0 with h | h
 ·exact .inl h
 ·refine .inr ?_
  unfold aA4
  omega
theorem aZ2 (ns:List Nd) (id:Int):aAt ns id= -1∨(0≤aAt ns id∧aAt ns id<ns.length):=by
 rcases aJh (bWo id) ns 0 with h | h
 ·exact .inl h
 ·refine .inr ?_
  unfold aAt
  omega
theorem cAw:aA8 Tryz.prog bXc:=aA6 (by simp[])
theorem aZf:aAs Tryz.prog 111 (sg [aDe,pP] [rB]) aT7:=aA5 cAw aA9 Tryz.func111 (by kernel_rfl) fun cs outs hk h=>by
 unfold aT7 at h
 split at h
 ·simp only[Option.some.injEq,Prod.mk.injEq,true_and]at h
  subst h
  rename_i n i nm
  rw[aAb,bSj]
  simp only[aA2,aA1,beq_iff_eq]
  split<;>simp_all
 ·cases h
theorem cA6:aA8 Tryz.prog bX5:=aA6 (by simp[])
theorem aZ5:aAs Tryz.prog 113 (sg [aNi,pP] [rB]) aT2:=aA5 cA6 aA9 Tryz.func113 (by kernel_rfl) fun cs outs hk h=>by
 unfold aT2 at h
 split at h
 ·simp only[Option.some.injEq,Prod.mk.injEq,true_and]at h
  subst h
  rw[aAb,bR7]
  simp only[aA2,aA1,decide_eq_true_eq]
  split<;>simp_all
 ·cases h
theorem bRn (l:List En) (nm:List UInt8) (hl:l.length≤281474976710656):∀ (n i:Nat),i≤l.length→l.length<i+n →
  (aBh bMg aAa (sg [pSl 92,pF] [rI]) Tryz.f110 [.r,.l,.r,.b] n (bM7 (l.map eEn) nm l.length i)).eval=some [.int .i64 (aD1 (bKl nm) (l.drop i) i)]:=by
 intro n
 induction n with
 |zero=>intro i h1 h2;omega
 |succ n ih =>
  intro i h1 h2
  rw[aAv _ _ _ _ _ _ _ (by kernel_rfl),bJi]
  by_cases hi:i<l.length
  ·have g:=aAx eEn l ⟨[],0⟩ i hi
   have w:IntKind.i64.wrap ((i:Int)+1)=((i+1:Nat):Int):=by rw[aAg]<;>omega
   have hz:(0:Int)≤i:=by omega
   have hi':(i:Int)<l.length:=by omega
   rw[aBx l i ⟨[],0⟩ hi]
   generalize l.getD i ⟨[],0⟩=y at g ⊢
   simp only[aA0,aA2,aA1,if_true,decide_eq_true_eq,Bool.and_eq_true,w,hz,hi',Int.toNat_natCast,List.length_map,g,and_self,List.getD_cons_zero,List.getD_cons_succ,C.toStr,C.toInt,C.is,List.length_cons,List.length_nil,Nat.zero_add,Nat.reduceAdd,Nat.reduceLT,decide_true,beq_self_eq_true,aD1,bKl]
   by_cases hy:y.name=nm
   ·simp only[hy,if_true]
   ·simp only[hy,if_false]
    exact ih (i+1) (by omega) (by omega)
  ·have e:i=l.length:=by omega
   subst e
   have hi':¬((l.length:Int)<(l.length:Int)):=by omega
   simp only[aA2,aA1,decide_eq_true_eq,hi',if_false,List.drop_length,aD1]
theorem cAf:aA8 Tryz.prog bMg:=aA6 (by simp[aZf])
theorem bO8:aAs Tryz.prog 110 (sg [pSl 92,pF] [rI]) bBs:=aA5 cAf aA9 Tryz.func110 (by kernel_rfl) fun cs outs hk h=>by
 unfold bBs at h
 split at h
 ·simp only[Option.some.injEq,Prod.mk.injEq,Bool.and_eq_true,decide_eq_true_eq]at h
  obtain⟨⟨rfl,h1,h2⟩,rfl⟩:=h
  rename_i rows nm
  have hr:=aDi h2
  generalize ens rows=l at hr ⊢
  subst hr
  rw[List.length_map]at h1
  rw[aAb,bRm]
  have:=bRn l nm h1 9223372036854775808 0 (by omega) (by have:l.length≤281474976710656:=h1;omega)
  rw[show (l.length:Int)=((l.map eEn).length:Int) by rw[List.length_map]]at this
  exact this
 ·cases h
theorem bRi (l:List Nd) (id:Int) (hl:l.length≤281474976710656):∀ (n i:Nat),i≤l.length→l.length<i+n →
  (aBh bMe aAa (sg [pSl 66,pF] [rI]) Tryz.f112 [.r,.l,.r,.b] n (bM5 (l.map eNd) id l.length i)).eval=some [.int .i64 (aD1 (bWo id) (l.drop i) i)]:=by
 intro n
 induction n with
 |zero=>intro i h1 h2;omega
 |succ n ih =>
  intro i h1 h2
  rw[aAv _ _ _ _ _ _ _ (by kernel_rfl),bJg]
  by_cases hi:i<l.length
  ·have g:=aAx eNd l ⟨0,[],0⟩ i hi
   have w:IntKind.i64.wrap ((i:Int)+1)=((i+1:Nat):Int):=by rw[aAg]<;>omega
   have hz:(0:Int)≤i:=by omega
   have hi':(i:Int)<l.length:=by omega
   rw[aBx l i ⟨0,[],0⟩ hi]
   generalize l.getD i ⟨0,[],0⟩=y at g ⊢
   simp only[aA0,aA2,aA1,if_true,decide_eq_true_eq,Bool.and_eq_true,w,hz,hi',Int.toNat_natCast,List.length_map,g,and_self,List.getD_cons_zero,List.getD_cons_succ,C.toStr,C.toInt,C.is,List.length_cons,List.length_nil,Nat.zero_add,Nat.reduceAdd,Nat.reduceLT,decide_true,beq_self_eq_true,aD1,bWo]
   by_cases hy:y.id=id
   ·simp only[hy,if_true]
   ·simp only[hy,if_false]
    exact ih (i+1) (by omega) (by omega)
  ·have e:i=l.length:=by omega
   subst e
   have hi':¬((l.length:Int)<(l.length:Int)):=by omega
   simp only[aA2,aA1,decide_eq_true_eq,hi',if_false,List.drop_length,aD1]
theorem cAd:aA8 Tryz.prog bMe:=aA6 (by simp[aZ5])
theorem bO6:aAs Tryz.prog 112 (sg [pSl 66,pF] [rI]) bBq:=aA5 cAd aA9 Tryz.func112 (by kernel_rfl) fun cs outs hk h=>by
 unfold bBq at h
 split at h
 ·simp only[Option.some.injEq,Prod.mk.injEq,Bool.and_eq_true,decide_eq_true_eq]at h
  obtain⟨⟨rfl,h1,h2⟩,rfl⟩:=h
  rename_i rows id
  have hr:=aE6 h2
  generalize nds rows=l at hr ⊢
  subst hr
  rw[List.length_map]at h1
  rw[aAb,bRh]
  have:=bRi l id h1 9223372036854775808 0 (by omega) (by have:l.length≤281474976710656:=h1;omega)
  rw[show (l.length:Int)=((l.map eNd).length:Int) by rw[List.length_map]]at this
  exact this
 ·cases h
theorem bNs:aA8 Tryz.prog aZv:=aA6 (by simp[aZf,bO8])
theorem aI2:aAs Tryz.prog 83 (sg [pSl 92,pS] [rI]) aKy:=aA5 bNs aA9 Tryz.func83 (by kernel_rfl) fun cs outs hk h=>by
 unfold aKy at h
 split at h
 ·simp only[Option.some.injEq,Prod.mk.injEq,Bool.and_eq_true,decide_eq_true_eq]at h
  obtain⟨⟨h1,h2⟩,rfl⟩:=h
  rw[aAb,bB9]
  simp only[kEn]at h2
  simp only[aA0,aA1,h1,h2,decide_true,Bool.and_self,if_true]
 ·cases h
theorem bR2:aA8 Tryz.prog bHb:=aA6 (by simp[aZ5,bO6])
theorem aPf:aAs Tryz.prog 84 (sg [aAy,pI] [rI]) aE9:=aA5 bR2 aA9 Tryz.func84 (by kernel_rfl) fun cs outs hk h=>by
 unfold aE9 at h
 split at h
 ·simp only[Option.some.injEq,Prod.mk.injEq,Bool.and_eq_true,decide_eq_true_eq]at h
  obtain⟨⟨h1,h2⟩,rfl⟩:=h
  rw[aAb,bF6]
  simp only[kNd]at h2
  simp only[aA0,aA1,h1,h2,decide_true,Bool.and_self,if_true]
 ·cases h
theorem cAu (l:List En) (nm:List UInt8) (i:Nat) (hi:i<l.length):aD1 (bKl nm) (l.drop i) i=if (l.getD i ⟨[],0⟩).name=nm then (i:Int)else aD1 (bKl nm) (l.drop (i+1)) (i+1):=by
 rw[aBx l i ⟨[],0⟩ hi]
 simp only[aD1,bKl,decide_eq_true_eq]
theorem cCg (l:List Nd) (id:Int) (i:Nat) (hi:i<l.length):aD1 (bWo id) (l.drop i) i=if (l.getD i ⟨0,[],0⟩).id=id then (i:Int)else aD1 (bWo id) (l.drop (i+1)) (i+1):=by
 rw[aBx l i ⟨0,[],0⟩ hi]
 simp only[aD1,bWo,decide_eq_true_eq]
theorem bKj (l:List En) (nm:List UInt8) (hl:l.length≤281474976710656):∀ (n i:Nat),i≤l.length→l.length<i+n→aA4 l nm=aD1 (bKl nm) (l.drop i) i →
  (aBh aTw aAa (sg [pSl 92,pS] [rI]) Tryz.f37 [.r,.l,.r,.b] n (aTj (l.map eEn) nm i)).eval=some [.int .i64 (aB4 l nm)]:=by
 intro n
 induction n with
 |zero=>intro i h1 h2;omega
 |succ n ih =>
  intro i h1 h2 h3
  rw[aAv _ _ _ _ _ _ _ (by kernel_rfl),bCu]
  by_cases hi:i<l.length
  ·have g:=aAx eEn l ⟨[],0⟩ i hi
   have w:IntKind.i64.wrap ((i:Int)+1)=((i+1:Nat):Int):=by rw[aAg]<;>omega
   have hz:(0:Int)≤i:=by omega
   have hi':(i:Int)<l.length:=by omega
   rw[cAu l nm i hi]at h3
   simp only[aA0,aA2,aA1,if_true,decide_eq_true_eq,Bool.and_eq_true,w,hz,hi',Int.toNat_natCast,List.length_map,g,and_self,List.getD_cons_zero,List.getD_cons_succ,C.toStr,C.toInt,C.is,List.length_cons,List.length_nil,Nat.zero_add,Nat.add_zero,Nat.reduceAdd,Nat.reduceLT,decide_true,beq_self_eq_true,beq_iff_eq]
   by_cases hy:(l.getD i ⟨[],0⟩).name=nm
   ·simp only[if_pos hy]at h3 ⊢
    have:¬((i:Int)<0):=by omega
    unfold aB4
    rw[h3,if_neg this,Int.toNat_natCast]
   ·simp only[if_neg hy]at h3 ⊢
    exact ih (i+1) (by omega) (by omega) h3
  ·have e:i=l.length:=by omega
   subst e
   have hi':¬((l.length:Int)<(l.length:Int)):=by omega
   rw[List.drop_length]at h3
   simp only[aA2,aA1,decide_eq_true_eq,hi',if_false,List.length_map]
   unfold aB4
   rw[h3]
   rfl
theorem bVs:aA8 Tryz.prog aTw:=aA6 (by simp[])
theorem aLg:aAs Tryz.prog 37 (sg [pSl 92,pS] [rI]) aGh:=aA5 bVs aA9 Tryz.func37 (by kernel_rfl) fun cs outs hk h=>by
 unfold aGh at h
 split at h
 ·simp only[Option.some.injEq,Prod.mk.injEq,Bool.and_eq_true,decide_eq_true_eq]at h
  obtain⟨⟨h1,h2⟩,rfl⟩:=h
  rename_i rows nm
  have hr:=aDi h2
  generalize ens rows=l at hr ⊢
  subst hr
  rw[List.length_map]at h1
  rw[aAb,bKi]
  exact bKj l nm h1 9223372036854775808 0 (by omega) (by have:l.length≤281474976710656:=h1;omega) rfl
 ·cases h
theorem bK6 (l:List En) (nm:List UInt8) (hl:l.length≤281474976710656):∀ (n i:Nat),i≤l.length→l.length<i+n→aA4 l nm=aD1 (bKl nm) (l.drop i) i →
  (aBh aTv aAa (sg [pSl 92,pS] [rB]) Tryz.f93 [.r,.l,.r,.b] n (aTi (l.map eEn) nm i)).eval=some [.bool (aGn l nm)]:=by
 intro n
 induction n with
 |zero=>intro i h1 h2;omega
 |succ n ih =>
  intro i h1 h2 h3
  rw[aAv _ _ _ _ _ _ _ (by kernel_rfl),bCd]
  by_cases hi:i<l.length
  ·have g:=aAx eEn l ⟨[],0⟩ i hi
   have w:IntKind.i64.wrap ((i:Int)+1)=((i+1:Nat):Int):=by rw[aAg]<;>omega
   have hz:(0:Int)≤i:=by omega
   have hi':(i:Int)<l.length:=by omega
   rw[cAu l nm i hi]at h3
   simp only[aA0,aA2,aA1,if_true,decide_eq_true_eq,Bool.and_eq_true,w,hz,hi',Int.toNat_natCast,List.length_map,g,and_self,List.getD_cons_zero,List.getD_cons_succ,C.toStr,C.toInt,C.is,List.length_cons,List.length_nil,Nat.zero_add,Nat.add_zero,Nat.reduceAdd,Nat.reduceLT,decide_true,beq_self_eq_true,beq_iff_eq]
   by_cases hy:(l.getD i ⟨[],0⟩).name=nm
   ·simp only[if_pos hy]at h3 ⊢
    have:(0:Int)≤i:=by omega
    unfold aGn
    rw[h3,decide_eq_true this]
   ·simp only[if_neg hy]at h3 ⊢
    exact ih (i+1) (by omega) (by omega) h3
  ·have e:i=l.length:=by omega
   subst e
   have hi':¬((l.length:Int)<(l.length:Int)):=by omega
   rw[List.drop_length]at h3
   simp only[aA2,aA1,decide_eq_true_eq,hi',if_false,List.length_map]
   unfold aGn
   rw[h3]
   rfl
theorem bVi:aA8 Tryz.prog aTv:=aA6 (by simp[])
theorem aS4:aAs Tryz.prog 93 (sg [pSl 92,pS] [rB]) aPt:=aA5 bVi aA9 Tryz.func93 (by kernel_rfl) fun cs outs hk h=>by
 unfold aPt at h
 split at h
 ·simp only[Option.some.injEq,Prod.mk.injEq,Bool.and_eq_true,decide_eq_true_eq]at h
  obtain⟨⟨h1,h2⟩,rfl⟩:=h
  rename_i rows nm
  have hr:=aDi h2
  generalize ens rows=l at hr ⊢
  subst hr
  rw[List.length_map]at h1
  rw[aAb,bK5]
  exact bK6 l nm h1 9223372036854775808 0 (by omega) (by have:l.length≤281474976710656:=h1;omega) rfl
 ·cases h
theorem bE8 (l:List Nd) (es os ss:List (List C)) (r x id:Int) (hl:l.length≤281474976710656):∀ (n i:Nat),i≤l.length→l.length<i+n →
  (aBh aQg aAa (sg [aAy,pI] [rI]) Tryz.f36 [.r,.l,.r,.b] n (aQ9 (l.map eNd) es os ss r x id i)).eval=some [.int .i64 (aD1 (bWo id) (l.drop i) i)]:=by
 intro n
 induction n with
 |zero=>intro i h1 h2;omega
 |succ n ih =>
  intro i h1 h2
  rw[aAv _ _ _ _ _ _ _ (by kernel_rfl),aXm]
  by_cases hi:i<l.length
  ·have g:=aAx eNd l ⟨0,[],0⟩ i hi
   have w:IntKind.i64.wrap ((i:Int)+1)=((i+1:Nat):Int):=by rw[aAg]<;>omega
   have hz:(0:Int)≤i:=by omega
   have hi':(i:Int)<l.length:=by omega
   rw[cCg l id i hi]
   simp only[aA0,aA2,aA1,if_true,decide_eq_true_eq,Bool.and_eq_true,w,hz,hi',Int.toNat_natCast,List.length_map,g,and_self,List.getD_cons_zero,List.getD_cons_succ,C.toStr,C.toInt,C.is,List.length_cons,List.length_nil,Nat.zero_add,Nat.add_zero,Nat.reduceAdd,Nat.reduceLT,decide_true,beq_self_eq_true]
   by_cases hy:(l.getD i ⟨0,[],0⟩).id=id
   ·simp only[if_pos hy]
   ·simp only[if_neg hy]
    exact ih (i+1) (by omega) (by omega)
  ·have e:i=l.length:=by omega
   subst e
   have hi':¬((l.length:Int)<(l.length:Int)):=by omega
   simp only[aA2,aA1,decide_eq_true_eq,hi',if_false,List.drop_length,aD1,List.length_map]
theorem bQ8:aA8 Tryz.prog aQg:=aA6 (by simp[])
theorem aJ9:aAs Tryz.prog 36 (sg [aAy,pI] [rI]) aE9:=aA5 bQ8 aA9 Tryz.func36 (by kernel_rfl) fun cs outs hk h=>by
 unfold aE9 at h
 split at h
 ·simp only[Option.some.injEq,Prod.mk.injEq,Bool.and_eq_true,decide_eq_true_eq]at h
  obtain⟨⟨h1,h2⟩,rfl⟩:=h
  rename_i ns es os ss r x id
  have hr:=aE6 h2
  generalize nds ns=l at hr ⊢
  subst hr
  rw[List.length_map]at h1
  rw[aAb,bE7]
  exact bE8 l es os ss r x id h1 9223372036854775808 0 (by omega) (by have:l.length≤281474976710656:=h1;omega)
 ·cases h
theorem aM7 {ns es:List (List C)}:aZ4 ns es=true↔ns.length≤aHh∧es.length≤aHh∧aAf kNd ns=true∧aAf kEn es=true:=by simp[aZ4,and_assoc]
theorem bUq (es:List En) (nm:List UInt8) (h:¬aA4 es nm<0):(aA4 es nm).toNat<es.length∧0≤aA4 es nm∧aA4 es nm<es.length:=by
 rcases aEo es nm with h1 | h1<;>omega
theorem bIu (ns:List Nd) (id:Int) (h:¬aAt ns id<0):(aAt ns id).toNat<ns.length∧0≤aAt ns id∧aAt ns id<ns.length:=by
 rcases aZ2 ns id with h1 | h1<;>omega
theorem bR3:aA8 Tryz.prog bHc:=aA6 (by simp[aI2,aPf])
theorem aPg:aAs Tryz.prog 42 (sg [aAy,pS] [rI]) aM6:=aA5 bR3 aA9 Tryz.func42 (by kernel_rfl) fun cs outs hk h=>by
 unfold aM6 at h
 split at h
 ·simp only[Option.some.injEq,Prod.mk.injEq,aM7]at h
  obtain⟨⟨h1,h2,h3,h4⟩,rfl⟩:=h
  rename_i ns es os ss r x nm
  have hr:=aDi h4
  rw[aAb,bF8]
  simp only[kNd]at h3
  simp only[kEn]at h4
  simp only[aA0,aA2,aA1,h1,h2,h3,h4,decide_true,Bool.and_self,if_true]
  generalize ens es=l at hr ⊢
  subst hr
  unfold aB1
  simp only[decide_eq_true_eq,List.length_map]
  by_cases hp:aA4 l nm<0
  ·simp only[hp,if_true]
  ·obtain⟨c1,c2,c3⟩:=bUq l nm hp
   have g:=aAx eEn l ⟨[],0⟩ (aA4 l nm).toNat c1
   unfold aB4
   simp only[hp,if_false,c2,c3,g,List.getD_cons_zero,List.getD_cons_succ,C.toStr,C.toInt,C.is,List.length_cons,List.length_nil,Nat.zero_add,Nat.add_zero,Nat.reduceAdd,Nat.reduceLT,decide_true,beq_self_eq_true,Bool.and_self,if_true]
 ·cases h
theorem bWm (l:List Nd) (i:Nat) (hi:i<l.length):(l.map eNd).getD i []=[.int .i64 (l.getD i ⟨0,[],0⟩).id,.str (l.getD i ⟨0,[],0⟩).text,.int .i64 (l.getD i ⟨0,[],0⟩).sure]:=aAx eNd l ⟨0,[],0⟩ i hi
theorem bG5 (es:List En) (nm:List UInt8):aGn es nm=true↔¬aA4 es nm<0:=by simp[aGn]
theorem bQ9:aA8 Tryz.prog bH7:=aA6 (by simp[aLg,aS4,aJ9])
theorem bAs:aAs Tryz.prog 73 (sg [aAy,pS] [bB6,rB]) aGz:=aA5 bQ9 aA9 Tryz.func73 (by kernel_rfl) fun cs outs hk h=>by
 unfold aGz at h
 split at h
 ·simp only[Option.some.injEq,Prod.mk.injEq,aM7]at h
  obtain⟨⟨h1,h2,h3,h4⟩,rfl⟩:=h
  rename_i ns es os ss r x nm
  have hr:=aE6 h3
  rw[aAb,bE9]
  simp only[kNd]at h3
  simp only[kEn]at h4
  simp only[aA0,aA2,aA1,h1,h2,h3,h4,decide_true,Bool.and_self,if_true]
  generalize nds ns=l at hr ⊢
  subst hr
  generalize ens es=m
  unfold cBo aGb bR6 aW8 bYc aB1
  simp only[decide_eq_true_eq,List.length_map]
  by_cases hp:aA4 m nm<0
  ·have he:aGn m nm=false:=by cases hh:aGn m nm with | false=>rfl | true=>exact absurd hp ((bG5 m nm).1 hh)
   have d1:(-1:Int)<0:=by decide
   have d2:¬(0:Int)≤ -1:=by decide
   simp only[he,hp,if_true,Bool.false_eq_true,if_false,ite_self,d1,d2,decide_false]
  ·have he:aGn m nm=true:=(bG5 m nm).2 hp
   by_cases hn:aAt l (aB4 m nm)<0
   ·have:¬(0:Int)≤aAt l (aB4 m nm):=by omega
    simp only[hp,hn,if_true,if_false,this,decide_false]
   ·obtain⟨c1,c2,c3⟩:=bIu l (aB4 m nm) hn
    have g:=bWm l (aAt l (aB4 m nm)).toNat c1
    simp only[he,hp,hn,if_false,c2,c3,g,List.getD_cons_zero,List.getD_cons_succ,C.toStr,C.toInt,C.is,List.length_cons,List.length_nil,Nat.zero_add,Nat.add_zero,Nat.reduceAdd,Nat.reduceLT,decide_true,beq_self_eq_true,Bool.and_self,if_true]
 ·cases h
theorem bRx:aA8 Tryz.prog bHe:=aA6 (by simp[aPg])
theorem bC4:aAs Tryz.prog 174 (sg [aAy,pS] [bB6,rB]) aGz:=aA5 bRx aA9 Tryz.func174 (by kernel_rfl) fun cs outs hk h=>by
 unfold aGz at h
 split at h
 ·simp only[Option.some.injEq,Prod.mk.injEq]at h
  obtain⟨h0,rfl⟩:=h
  obtain⟨h1,h2,h3,h4⟩:=aM7.1 h0
  rename_i ns es os ss r x nm
  have hr:=aE6 h3
  rw[aAb,bFt]
  simp only[aA0,h0,if_true]
  generalize nds ns=l at hr ⊢
  subst hr
  generalize ens es=m
  unfold cBo aGb bR6 aW8 bYc
  simp only[aA0,aA2,aA1,decide_eq_true_eq,List.length_map]
  by_cases hn:aB1 l m nm<0
  ·have:¬(0:Int)≤aB1 l m nm:=by omega
   simp only[hn,if_true,this,decide_false]
  ·have hp:¬aA4 m nm<0:=fun hp=>hn (by unfold aB1;rw[if_pos hp];decide)
   have e:aB1 l m nm=aAt l (aB4 m nm):=if_neg hp
   rw[e]at hn ⊢
   obtain⟨c1,c2,c3⟩:=bIu l (aB4 m nm) hn
   have g:=bWm l (aAt l (aB4 m nm)).toNat c1
   simp only[hn,if_false,c2,c3,g,List.getD_cons_zero,List.getD_cons_succ,C.toStr,C.toInt,C.is,List.length_cons,List.length_nil,Nat.zero_add,Nat.add_zero,Nat.reduceAdd,Nat.reduceLT,decide_true,beq_self_eq_true,Bool.and_self,if_true]
 ·cases h
theorem bIb:aA8 Tryz.prog aWv:=aA6 (by simp[bAs])
theorem aKs:aAs Tryz.prog 33 (sg [aAy,pS] [rS,rB]) aE1:=aA5 bIb aA9 Tryz.func33 (by kernel_rfl) fun cs outs hk h=>by
 unfold aE1 at h
 split at h
 ·simp only[Option.some.injEq,Prod.mk.injEq]at h
  obtain⟨h0,rfl⟩:=h
  rw[aAb,aXl]
  simp only[aA0,aA2,aA1,h0,if_true]
  split<;>simp_all
 ·cases h
theorem bJv:aA8 Tryz.prog aX0:=aA6 (by simp[bC4])
theorem aVy:aAs Tryz.prog 148 (sg [aAy,pS] [rS,rB]) aE1:=aA5 bJv aA9 Tryz.func148 (by kernel_rfl) fun cs outs hk h=>by
 unfold aE1 at h
 split at h
 ·simp only[Option.some.injEq,Prod.mk.injEq]at h
  obtain⟨h0,rfl⟩:=h
  rw[aAb,aY5]
  simp only[aA0,aA2,aA1,h0,if_true]
  split<;>simp_all
 ·cases h
theorem bQ6:aA8 Tryz.prog bH6:=aA6 (by simp[aHp,aKs])
theorem aP8:aAs Tryz.prog 105 (sg [aAy,pI] [rS]) aFi:=aA5 bQ6 aA9 Tryz.func105 (by kernel_rfl) fun cs outs hk h=>by
 unfold aFi at h
 split at h
 ·simp only[Option.some.injEq,Prod.mk.injEq]at h
  obtain⟨h0,rfl⟩:=h
  rw[aAb,bDy]
  simp only[aA0,aA2,aA1,h0,if_true,aB6,ite_self]
 ·cases h
theorem bRu:aA8 Tryz.prog bHd:=aA6 (by simp[aHr,aVy])
theorem bBv:aAs Tryz.prog 126 (sg [aAy,pI] [rS]) aFi:=aA5 bRu aA9 Tryz.func126 (by kernel_rfl) fun cs outs hk h=>by
 unfold aFi at h
 split at h
 ·simp only[Option.some.injEq,Prod.mk.injEq]at h
  obtain⟨h0,rfl⟩:=h
  rw[aAb,bFo]
  simp only[aA0,aA2,aA1,h0,if_true,aB6,ite_self]
 ·cases h
noncomputable section
def aT4 (l:Int) (r:List UInt8):Int:=(aAz (aIf l) (aAk r.length 4++r):Nat)
def aI4 (l:Int) (rs:List (List UInt8)):Int:=rs.foldl aT4 l
def aNy (b:List UInt8) (base link:Int):Bool:=aAe b&&decide (rhB b=base)&&decide (rhL b=link)
def aPl (b:List UInt8):Int:=aI4 (ifI (aAe b) (rhL b)) (aB2 b)
def aU5 (n:Nat) (rows:List (List C)):Bool:=(aDa rows).all fun x=>decide (x.length≤n)
def aEr:Spec:=fun cs=>match cs with
 |[.int .i64 l,.str r]=>some (decide (r.length≤1048576),[.int .i64 (aT4 l r)])
 |_=>none
def aOi:Spec:=fun cs=>match cs with
 |[.int .i64 l,.sl rows]=>some (decide (rows.length≤16777216)&&(aAf [.str] rows&&aU5 1048576 rows),[.int .i64 (aI4 l (aDa rows))])
 |_=>none
def aH4:Spec:=fun cs=>match cs with
 |[.str b,.int .i64 base,.int .i64 link]=>some (decide (b.length≤1048576),[.bool (aNy b base link)])
 |_=>none
def aGu:Spec:=fun cs=>match cs with
 |[.str b]=>some (decide (b.length≤1048576),[.sl ((aB2 b).map aCd)])
 |_=>none
def aJf:Spec:=fun cs=>match cs with
 |[.str b]=>some (decide (b.length≤1048576),[.int .i64 (aPl b)])
 |_=>none
def aMu (l:Int) (r:List (List C)) (n i:Int):St:=st0 [(0,aB5 l),(7,.l (.sl r)),(8,aB5 n),(9,aB5 i)]
def aHv (ok mk:Bool) (v s q l e:Int) (n:Nat) (r:List (List C)) (m:Nat) (o:List (List C)) (acc i:Int):St:={slots:=[(3,.l (.ptr 0 0)),(4,aB5 acc),(5,aB5 i)],heap:=[(0,.box [.b ok,.i .i64 v,.i .i64 s,.i .i64 q,.i .i64 l,.ref 1 0 n,.ref 2 0 m,.i .i64 e,.b mk]),(1,.arr 1 r),(2,.arr 1 o)],next:=3,pins:=[]}
def aWw:Env:=mkE [] [(169,(sg [pI,pS] [rI]),aDx),(170,(sg [pI,pI] [rS]),aGo)]
def aX1:Env:=mkE [] [(181,(sg [pI,pS] [rI]),aDx),(182,(sg [pI,pI] [rS]),aGo)]
def aN9:Env:=mkE [(2,[0,7,8,9])] [(152,(sg [pI,pS] [rI]),aEr)]
def bHa:Env:=mkE [] [(144,(sg [pS] [bEu,rB]),aDd)]
def bHh:Env:=mkE [] [(149,(sg [pS] [bEu,rB]),aDd)]
def aSa:Env:=mkE [] [(125,(sg [pS] [aOh]),aJ8)]
def aHx:Env:=mkE [(4,[3,4,5])] [(125,(sg [pS] [aOh]),aJ8),(145,(sg [pI,pS] [rI]),aEr)]
abbrev Lk:=Int×List UInt8
def aGp (ns:List Nd) (es:List En):Nat→Int→Int→List Lk
 |0,_,_=>[]
 |f+1,base,sum =>
  if aNy (aB6 ns es base) base sum&&decide ((aB2 (aB6 ns es base)).length≠0)then
   (base,aB6 ns es base)::aGp ns es f (base+(aB2 (aB6 ns es base)).length) (aI4 sum (aB2 (aB6 ns es base)))
  else[]
def aEh (ns:List Nd) (es:List En):List Lk:=aGp ns es 16 0 0
abbrev eLk (x:Lk):List C:=[.int .i64 x.1,.str x.2,.bool (aAe x.2),.int .i64 (ifI (aAe x.2) (rhV x.2)),.int .i64 (ifI (aAe x.2) (rhS x.2)),.int .i64 (ifI (aAe x.2) (rhB x.2)),.int .i64 (ifI (aAe x.2) (rhL x.2)),
 .sl ((aB2 x.2).map aCd),.sl ((aFf x.2).map aS8),.int .i64 (bI1 x.2),.bool (aUi x.2)]
def aK4 (l:List Lk):List (List C):=l.map eLk
def aDk (l:List Lk):List (List C):=l.map fun x=>aS8 x.1
def aD0 (l:List Lk):List (List UInt8):=l.flatMap fun x=>aB2 x.2
def aSx (ns es:List (List C)):Bool:=aZ4 ns es&&(nds ns).all fun x=>decide (x.text.length≤1048576)
def aVl:Spec:=fun cs=>match cs with
 |[.sl ns,.sl es,.sl _,.sl _,.int .i64 _,.int .i64 _]=>some (aSx ns es,[.sl (aK4 (aEh (nds ns) (ens es)))])
 |_=>none
def aWi:Spec:=fun cs=>match cs with
 |[.sl ns,.sl es,.sl _,.sl _,.int .i64 _,.int .i64 _]=>some (aSx ns es,[.sl (aDk (aEh (nds ns) (ens es)))])
 |_=>none
def aIc:Spec:=fun cs=>match cs with
 |[.sl ns,.sl es,.sl _,.sl _,.int .i64 _,.int .i64 _]=>some (aSx ns es,[.sl ((aD0 (aEh (nds ns) (ens es))).map aCd)])
 |_=>none
abbrev aYg (ns es os ss:List (List C)) (r x:Int):Blk:=.box [.sl ns,.sl es,.sl os,.sl ss,.i .i64 r,.i .i64 x]
def aTa (ns es os ss:List (List C)) (r x:Int) (n:Nat) (o:List (List C)) (base sum:Int):St:={slots:=[(1,.l (.ptr 0 0)),(3,.l (.ref 1 0 n)),(4,aB5 base),(5,aB5 sum)],heap:=[(0,aYg ns es os ss r x),(1,.arr 11 o)],next:=2,pins:=[]}
def aT9 (ns es os ss:List (List C)) (r x:Int) (n:Nat) (o:List (List C)) (base sum:Int):St:={slots:=[(1,.l (.ptr 0 0)),(3,.l (.ref 1 0 n)),(4,aB5 base),(5,aB5 sum)],heap:=[(0,aYg ns es os ss r x),(1,.arr 1 o)],next:=2,pins:=[]}
def aT8 (ns es os ss:List (List C)) (r x:Int) (n:Nat) (o:List (List C)) (m:Nat) (bs:List (List C)) (i:Int):St:={slots:=[(1,.l (.ptr 0 0)),(3,.l (.ref 1 0 n)),(4,.l (.ref 2 0 m)),(5,aB5 i)],heap:=[(0,aYg ns es os ss r x),(1,.arr 1 o),(2,.arr 1 bs)],next:=3,pins:=[]}
def aTh (n:Nat) (o:List (List C)) (m:Nat) (ls:List (List C)) (k i:Int):St:={slots:=[(3,.l (.ref 0 0 n)),(8,.l (.ref 1 0 m)),(9,aB5 k),(10,aB5 i)],heap:=[(0,.arr 1 o),(1,.arr 11 ls)],next:=2,pins:=[]}
def aTm:Env:=mkE [(3,[1,3,4,5])] [(127,(sg [pS] [aOh]),aJ8),(126,(sg [aAy,pI] [rS]),aFi),(129,(sg [pI,pSl 9] [rI]),aOi),(128,(sg [pS,pI,pI] [rB]),aH4)]
def aTl:Env:=mkE [(4,[1,3,4,5])] [(105,(sg [aAy,pI] [rS]),aFi),(123,(sg [pS,pI,pI] [rB]),aH4),(104,(sg [pS] [rSl 9]),aGu),(124,(sg [pS] [rI]),aJf)]
def aTk:Env:=mkE [(4,[1,3,4,5])] [(105,(sg [aAy,pI] [rS]),aFi),(104,(sg [pS] [rSl 9]),aGu),(103,(sg [aAy] [rSl 3]),aWi)]
def aTt:Env:=mkE [(3,[3,8,9,10])] [(106,(⟨[aAy],[rSl 122],true⟩),aVl)]
end
theorem aXo (H:List Pt→Nat→St→T (List C)) (l:Int) (r:List UInt8):(aAi aWw aAa (sg [pI,pS] [rI]) Tryz.f145 H [C.int .i64 l,C.str r]).eval=((.must (decide ((-9223372036854775808:Int)≤(↑r.length:Int))&&decide ((↑r.length:Int)≤(9223372036854775807:Int))) (.must (decide ((aAk (↑r.length:Int) 4).length+r.length≤9223372036854775807)) (.must (decide ((aAk (↑r.length:Int) 4++r).length≤281474976710656)) (.ret [C.int .i64 (Int.ofNat (aAz (aIf l) (aAk (↑r.length:Int) 4++r)))])))):T (List C)).eval:=aAh (by kernel_rfl)
theorem aY7 (H:List Pt→Nat→St→T (List C)) (l:Int) (r:List UInt8):(aAi aX1 aAa (sg [pI,pS] [rI]) Tryz.f152 H [C.int .i64 l,C.str r]).eval=((.must (decide ((-9223372036854775808:Int)≤(↑r.length:Int))&&decide ((↑r.length:Int)≤(9223372036854775807:Int))) (.must (decide ((aAk (↑r.length:Int) 4).length+r.length≤9223372036854775807)) (.must (decide ((aAk (↑r.length:Int) 4++r).length≤281474976710656)) (.ret [C.int .i64 (Int.ofNat (aAz (aIf l) (aAk (↑r.length:Int) 4++r)))])))):T (List C)).eval:=aAh (by kernel_rfl)
theorem bBi (H:List Pt→Nat→St→T (List C)) (l:Int) (r:List (List C)):(aAi aN9 aAa (sg [pI,pSl 9] [rI]) Tryz.f129 H [C.int .i64 l,C.sl r]).eval=((H [Pt.r,Pt.l,Pt.r,Pt.b] 9223372036854775808 (aMu (l) (r) ((↑r.length:Int)) ((0:Int)))):T (List C)).eval:=aAh (by kernel_rfl)
theorem bEg (H:List Pt→Nat→St→T (List C)) (b:List UInt8) (x:Int) (l:Int):(aAi bHa aAa (sg [pS,pI,pI] [rB]) Tryz.f123 H [C.str b,C.int .i64 x,C.int .i64 l]).eval=((.must (decide (b.length≤281474976710656)) (.ask (aAe b) (.ask (decide (ifI (aAe b) (rhB b)=x)) (.ask (decide (ifI (aAe b) (rhL b)=l)) (.ret [C.bool true]) (.ret [C.bool false])) (.ret [C.bool false])) (.ret [C.bool false]))):T (List C)).eval:=aAh (by kernel_rfl)
theorem bFz (H:List Pt→Nat→St→T (List C)) (b:List UInt8) (x:Int) (l:Int):(aAi bHh aAa (sg [pS,pI,pI] [rB]) Tryz.f128 H [C.str b,C.int .i64 x,C.int .i64 l]).eval=((.must (decide (b.length≤281474976710656)) (.ask (aAe b) (.ask (decide (ifI (aAe b) (rhB b)=x)) (.ask (decide (ifI (aAe b) (rhL b)=l)) (.ret [C.bool true]) (.ret [C.bool false])) (.ret [C.bool false])) (.ret [C.bool false]))):T (List C)).eval:=aAh (by kernel_rfl)
theorem aUp (H:List Pt→Nat→St→T (List C)) (b:List UInt8):(aAi aSa aAa (sg [pS] [rSl 9]) Tryz.f104 H [C.str b]).eval=((.must (decide (b.length≤1048576)) (.must (decide (0<1)&&true&&(decide (0<1)&&true&&(decide (0<1)&&true&&(decide (0<1)&&true&&(decide (0<1)&&true&&((true&&(List.map aCd (aB2 b)).all fun row=>decide (row.length=1))&&((true&&(List.map aS8 (aFf b)).all fun row=>decide (row.length=1))&&(decide (0<1)&&true&&(decide (0<1)&&true&&true))))))))&&true&&true) (.must (decide ((List.map aCd (aB2 b)).length=(List.map aCd (aB2 b)).length)&&(false||(List.map aCd (aB2 b)).all fun r=>r.all C.flat)&&true&&true&&true) (.ret [C.sl (List.map aCd (aB2 b))])))):T (List C)).eval:=aAh (by kernel_rfl)
theorem aUu (H:List Pt→Nat→St→T (List C)) (b:List UInt8):(aAi aHx aAa (sg [pS] [rI]) Tryz.f124 H [C.str b]).eval=((.must (decide (b.length≤1048576)) (.must (decide (0<1)&&true&&(decide (0<1)&&true&&(decide (0<1)&&true&&(decide (0<1)&&true&&(decide (0<1)&&true&&((true&&(List.map aCd (aB2 b)).all fun row=>decide (row.length=1))&&((true&&(List.map aS8 (aFf b)).all fun row=>decide (row.length=1))&&(decide (0<1)&&true&&(decide (0<1)&&true&&true))))))))&&true&&true) (H [Pt.r,Pt.r,Pt.r,Pt.l,Pt.r,Pt.b] 9223372036854775808 (aHv (aAe b) (aUi b) (ifI (aAe b) (rhV b)) (ifI (aAe b) (rhS b)) (ifI (aAe b) (rhB b)) (ifI (aAe b) (rhL b)) (bI1 b) ((List.map aCd (aB2 b)).length) (List.map aCd (aB2 b)) ((List.map aS8 (aFf b)).length) (List.map aS8 (aFf b)) (ifI (aAe b) (rhL b)) ((0:Int)))))):T (List C)).eval:=aAh (by kernel_rfl)
theorem aVm (H:List Pt→Nat→St→T (List C)) (l:Int) (r:List (List C)) (n:Int) (i:Int) (k:Nat):(aB7 aN9 aAa (sg [pI,pSl 9] [rI]) Tryz.f129 H [Pt.r,Pt.l,Pt.r,Pt.b] k (aMu l r n i)).eval=((.ask (decide (i<n)) (.must (decide ((0:Int)≤i)&&decide (i<(↑r.length:Int))&&decide ((r.getD i.toNat []).length=1)) (.must (decide (0<(r.getD i.toNat []).length)&&C.is K.str ((r.getD i.toNat []).getD 0 (C.fn 0 []))&&true) (.must (decide (((r.getD i.toNat []).getD 0 (C.fn 0 [])).toStr.length≤1048576)) (H [Pt.r,Pt.l,Pt.r,Pt.b] k (aMu (aT4 l ((r.getD i.toNat []).getD 0 (C.fn 0 [])).toStr) (r) (n) (IntKind.i64.wrap (i+(1:Int)))))))) (.ret [C.int .i64 l])):T (List C)).eval:=aAh (by kernel_rfl)
theorem aQz (H:List Pt→Nat→St→T (List C)) (ok:Bool) (mk:Bool) (v:Int) (s:Int) (q:Int) (l:Int) (e:Int) (n:Nat) (r:List (List C)) (m2:Nat) (o:List (List C)) (acc:Int) (i:Int) (k:Nat):(aB7 aHx aAa (sg [pS] [rI]) Tryz.f124 H [Pt.r,Pt.r,Pt.r,Pt.l,Pt.r,Pt.b] k (aHv ok mk v s q l e n r m2 o acc i)).eval=((.ask (decide (i<(↑n:Int))) (.must (decide ((0:Int)≤i)&&decide (i<(↑n:Int))) (.must (decide (0+i.toNat<r.length)&&(decide (0<(r.getD (0+i.toNat) []).length)&&C.is K.str ((r.getD (0+i.toNat) []).getD 0 (C.fn 0 []))&&true)) (.must (decide (((r.getD (0+i.toNat) []).getD 0 (C.fn 0 [])).toStr.length≤1048576)) (H [Pt.r,Pt.r,Pt.r,Pt.l,Pt.r,Pt.b] k (aHv (ok) (mk) (v) (s) (q) (l) (e) (n) (r) (m2) (o) (aT4 acc ((r.getD (0+i.toNat) []).getD 0 (C.fn 0 [])).toStr) (IntKind.i64.wrap (i+(1:Int)))))))) (.ret [C.int .i64 acc])):T (List C)).eval:=aAh (by kernel_rfl)
theorem bIy (H:List Pt→Nat→St→T (List C)) (ns:List (List C)) (es:List (List C)) (os:List (List C)) (ss:List (List C)) (r:Int) (x:Int):(aAi aTm aAa {params:=[aAy],results:=[rSl 122],nested:=true} Tryz.f106 H [C.sl ns,C.sl es,C.sl os,C.sl ss,C.int .i64 r,C.int .i64 x]).eval=((H [Pt.r,Pt.r,Pt.r,Pt.l,Pt.b] 9223372036854775808 (aTa (ns) (es) (os) (ss) (r) (x) (0) ([]) ((0:Int)) ((0:Int)))):T (List C)).eval:=aAh (by kernel_rfl)
theorem bIg (H:List Pt→Nat→St→T (List C)) (ns:List (List C)) (es:List (List C)) (os:List (List C)) (ss:List (List C)) (r:Int) (x:Int):(aAi aTl aAa (sg [aAy] [rSl 3]) Tryz.f103 H [C.sl ns,C.sl es,C.sl os,C.sl ss,C.int .i64 r,C.int .i64 x]).eval=((H [Pt.r,Pt.r,Pt.r,Pt.r,Pt.l,Pt.b] 9223372036854775808 (aT9 (ns) (es) (os) (ss) (r) (x) (0) ([]) ((0:Int)) ((0:Int)))):T (List C)).eval:=aAh (by kernel_rfl)
theorem bI8 (H:List Pt→Nat→St→T (List C)) (ns:List (List C)) (es:List (List C)) (os:List (List C)) (ss:List (List C)) (r:Int) (x:Int):(aAi aTk aAa (sg [aAy] [rSl 9]) Tryz.f67 H [C.sl ns,C.sl es,C.sl os,C.sl ss,C.int .i64 r,C.int .i64 x]).eval=((.must (aSx ns es) (.must ((true&&(aDk (aEh (nds ns) (ens es))).all fun row=>decide (row.length=1))&&true&&true&&true) (H [Pt.r,Pt.r,Pt.r,Pt.l,Pt.r,Pt.b] 9223372036854775808 (aT8 (ns) (es) (os) (ss) (r) (x) (0) ([]) ((aDk (aEh (nds ns) (ens es))).length) (aDk (aEh (nds ns) (ens es))) ((0:Int)))))):T (List C)).eval:=aAh (by kernel_rfl)
theorem bJs (H:List Pt→Nat→St→T (List C)) (ns:List (List C)) (es:List (List C)) (os:List (List C)) (ss:List (List C)) (r:Int) (x:Int):(aAi aTt aAa (sg [aAy] [rSl 9]) Tryz.f69 H [C.sl ns,C.sl es,C.sl os,C.sl ss,C.int .i64 r,C.int .i64 x]).eval=((.must (aSx ns es) (.must ((true&&(aK4 (aEh (nds ns) (ens es))).all fun row=>decide (row.length=11))&&true&&true&&true) (H [Pt.r,Pt.r,Pt.l,Pt.r,Pt.b] 9223372036854775808 (aTh (0) ([]) ((aK4 (aEh (nds ns) (ens es))).length) (aK4 (aEh (nds ns) (ens es))) ((↑(aK4 (aEh (nds ns) (ens es))).length:Int)) ((0:Int)))))):T (List C)).eval:=aAh (by kernel_rfl)
theorem aPk (H:List Pt→Nat→St→T (List C)) (ns:List (List C)) (es:List (List C)) (os:List (List C)) (ss:List (List C)) (r:Int) (x:Int) (n:Nat) (o:List (List C)) (base:Int) (sum:Int) (k:Nat):(aB7 aTm aAa {params:=[aAy],results:=[rSl 122],nested:=true} Tryz.f106 H [Pt.r,Pt.r,Pt.r,Pt.l,Pt.b] k (aTa ns es os ss r x n o base sum)).eval=((.ask (decide ((↑n:Int)<(16:Int))) (.must (aZ4 ns es) (.must (decide ((aB6 (nds ns) (ens es) base).length≤1048576)) (.must (decide (0<1)&&true&&(decide (0<1)&&true&&(decide (0<1)&&true&&(decide (0<1)&&true&&(decide (0<1)&&true&&((true&&(List.map aCd (aB2 (aB6 (nds ns) (ens es) base))).all fun row=>decide (row.length=1))&&((true&&(List.map aS8 (aFf (aB6 (nds ns) (ens es) base))).all fun row=>decide (row.length=1))&&(decide (0<1)&&true&&(decide (0<1)&&true&&true))))))))&&true&&true) (.must (decide ((aB6 (nds ns) (ens es) base).length≤1048576)) (.ask (aNy (aB6 (nds ns) (ens es) base) base sum) (.ask (decide ((↑(List.map aCd (aB2 (aB6 (nds ns) (ens es) base))).length:Int)=(0:Int))) (.must (decide (n=o.length)&&(true||o.all fun r=>r.all C.flat)&&true&&true&&true) (.ret [C.sl o])) (.must (decide (n=o.length)&&aBc (o.length+1) 128&&(decide (((((((((((Nat.add 1 0).succ.add 0).succ.add 0).succ.add 0).succ.add 0).succ.add 0).succ.add 0).succ.add 0).succ.add 0).succ.add 0).succ=11)&&true)) (.must (decide ((List.take (List.map aCd (aB2 (aB6 (nds ns) (ens es) base))).length (List.map aCd (aB2 (aB6 (nds ns) (ens es) base)))).length≤16777216)&&(aAf [K.str] (List.take (List.map aCd (aB2 (aB6 (nds ns) (ens es) base))).length (List.map aCd (aB2 (aB6 (nds ns) (ens es) base))))&&aU5 1048576 (List.take (List.map aCd (aB2 (aB6 (nds ns) (ens es) base))).length (List.map aCd (aB2 (aB6 (nds ns) (ens es) base)))))) (H [Pt.r,Pt.r,Pt.r,Pt.l,Pt.b] k (aTa (ns) (es) (os) (ss) (r) (x) (o.length+1) (o.append [[C.int .i64 base,C.str (aB6 (nds ns) (ens es) base),C.bool (aAe (aB6 (nds ns) (ens es) base)),C.int .i64 (ifI (aAe (aB6 (nds ns) (ens es) base)) (rhV (aB6 (nds ns) (ens es) base))),C.int .i64 (ifI (aAe (aB6 (nds ns) (ens es) base)) (rhS (aB6 (nds ns) (ens es) base))),C.int .i64 (ifI (aAe (aB6 (nds ns) (ens es) base)) (rhB (aB6 (nds ns) (ens es) base))),C.int .i64 (ifI (aAe (aB6 (nds ns) (ens es) base)) (rhL (aB6 (nds ns) (ens es) base))),C.sl (List.take (List.map aCd (aB2 (aB6 (nds ns) (ens es) base))).length (List.map aCd (aB2 (aB6 (nds ns) (ens es) base)))),C.sl (List.take (List.map aS8 (aFf (aB6 (nds ns) (ens es) base))).length (List.map aS8 (aFf (aB6 (nds ns) (ens es) base)))),C.int .i64 (bI1 (aB6 (nds ns) (ens es) base)),C.bool (aUi (aB6 (nds ns) (ens es) base))]]) (IntKind.i64.wrap (base+(↑(List.map aCd (aB2 (aB6 (nds ns) (ens es) base))).length:Int))) (aI4 sum (aDa (List.take (List.map aCd (aB2 (aB6 (nds ns) (ens es) base))).length (List.map aCd (aB2 (aB6 (nds ns) (ens es) base))))))))))) (.must (decide (n=o.length)&&(true||o.all fun r=>r.all C.flat)&&true&&true&&true) (.ret [C.sl o]))))))) (.must (decide (n=o.length)&&(true||o.all fun r=>r.all C.flat)&&true&&true&&true) (.ret [C.sl o]))):T (List C)).eval:=aAh (by kernel_rfl)
theorem aP9 (H:List Pt→Nat→St→T (List C)) (ns:List (List C)) (es:List (List C)) (os:List (List C)) (ss:List (List C)) (r:Int) (x:Int) (n:Nat) (o:List (List C)) (base:Int) (sum:Int) (k:Nat):(aB7 aTl aAa (sg [aAy] [rSl 3]) Tryz.f103 H [Pt.r,Pt.r,Pt.r,Pt.r,Pt.l,Pt.b] k (aT9 ns es os ss r x n o base sum)).eval=((.ask (decide ((↑n:Int)<(16:Int))) (.must (aZ4 ns es) (.must (decide ((aB6 (nds ns) (ens es) base).length≤1048576)) (.must ((true&&(List.map aCd (aB2 (aB6 (nds ns) (ens es) base))).all fun row=>decide (row.length=1))&&true&&true&&true) (.ask (decide ((↑(List.map aCd (aB2 (aB6 (nds ns) (ens es) base))).length:Int)=(0:Int))) (.must (decide (n=o.length)&&(false||o.all fun r=>r.all C.flat)&&true&&true&&true) (.ret [C.sl o])) (.must (decide ((aB6 (nds ns) (ens es) base).length≤1048576)) (.ask (aNy (aB6 (nds ns) (ens es) base) base sum) (.must (decide (n=o.length)&&aBc (o.length+1) 8&&(decide (1=1)&&true)) (.must (decide ((aB6 (nds ns) (ens es) base).length≤1048576)) (H [Pt.r,Pt.r,Pt.r,Pt.r,Pt.l,Pt.b] k (aT9 (ns) (es) (os) (ss) (r) (x) (o.length+1) (o.append [[C.int .i64 base]]) (IntKind.i64.wrap (base+(↑(List.map aCd (aB2 (aB6 (nds ns) (ens es) base))).length:Int))) (aPl (aB6 (nds ns) (ens es) base)))))) (.must (decide (n=o.length)&&(false||o.all fun r=>r.all C.flat)&&true&&true&&true) (.ret [C.sl o])))))))) (.must (decide (n=o.length)&&(false||o.all fun r=>r.all C.flat)&&true&&true&&true) (.ret [C.sl o]))):T (List C)).eval:=aAh (by kernel_rfl)
theorem bAn (H:List Pt→Nat→St→T (List C)) (ns:List (List C)) (es:List (List C)) (os:List (List C)) (ss:List (List C)) (r:Int) (x:Int) (n:Nat) (o:List (List C)) (m2:Nat) (bs:List (List C)) (i:Int) (k:Nat):(aB7 aTk aAa (sg [aAy] [rSl 9]) Tryz.f67 H [Pt.r,Pt.r,Pt.r,Pt.l,Pt.r,Pt.b] k (aT8 ns es os ss r x n o m2 bs i)).eval=((.ask (decide (i<(↑m2:Int))) (.must (decide ((0:Int)≤i)&&decide (i<(↑m2:Int))) (.must (decide (0+i.toNat<bs.length)&&(decide (0<(bs.getD (0+i.toNat) []).length)&&C.is (K.int .i64) ((bs.getD (0+i.toNat) []).getD 0 (C.fn 0 []))&&true)) (.must (aZ4 ns es) (.must (decide ((aB6 (nds ns) (ens es) ((bs.getD (0+i.toNat) []).getD 0 (C.fn 0 [])).toInt).length≤1048576)) (.must ((true&&(List.map aCd (aB2 (aB6 (nds ns) (ens es) ((bs.getD (0+i.toNat) []).getD 0 (C.fn 0 [])).toInt))).all fun row=>decide (row.length=1))&&true&&true&&true) (.must (decide (n=o.length)&&aBc (o.length+(List.take (List.map aCd (aB2 (aB6 (nds ns) (ens es) ((bs.getD (0+i.toNat) []).getD 0 (C.fn 0 [])).toInt))).length (List.map aCd (aB2 (aB6 (nds ns) (ens es) ((bs.getD (0+i.toNat) []).getD 0 (C.fn 0 [])).toInt)))).length) 16&&(List.take (List.map aCd (aB2 (aB6 (nds ns) (ens es) ((bs.getD (0+i.toNat) []).getD 0 (C.fn 0 [])).toInt))).length (List.map aCd (aB2 (aB6 (nds ns) (ens es) ((bs.getD (0+i.toNat) []).getD 0 (C.fn 0 [])).toInt)))).all fun r=>decide (r.length=1)) (H [Pt.r,Pt.r,Pt.r,Pt.l,Pt.r,Pt.b] k (aT8 (ns) (es) (os) (ss) (r) (x) (o.length+(List.take (List.map aCd (aB2 (aB6 (nds ns) (ens es) ((bs.getD (0+i.toNat) []).getD 0 (C.fn 0 [])).toInt))).length (List.map aCd (aB2 (aB6 (nds ns) (ens es) ((bs.getD (0+i.toNat) []).getD 0 (C.fn 0 [])).toInt)))).length) (o.append (List.take (List.map aCd (aB2 (aB6 (nds ns) (ens es) ((bs.getD (0+i.toNat) []).getD 0 (C.fn 0 [])).toInt))).length (List.map aCd (aB2 (aB6 (nds ns) (ens es) ((bs.getD (0+i.toNat) []).getD 0 (C.fn 0 [])).toInt))))) (m2) (bs) (IntKind.i64.wrap (i+(1:Int))))))))))) (.must (decide (n=o.length)&&(false||o.all fun r=>r.all C.flat)&&true&&true&&true) (.ret [C.sl o]))):T (List C)).eval:=aAh (by kernel_rfl)
theorem bBy (H:List Pt→Nat→St→T (List C)) (n:Nat) (o:List (List C)) (m2:Nat) (ls:List (List C)) (k2:Int) (i:Int) (k:Nat):(aB7 aTt aAa (sg [aAy] [rSl 9]) Tryz.f69 H [Pt.r,Pt.r,Pt.l,Pt.r,Pt.b] k (aTh n o m2 ls k2 i)).eval=((.ask (decide (i<k2)) (.must (decide ((0:Int)≤i)&&decide (i<(↑m2:Int))) (.must (decide (0+i.toNat<ls.length)&&(decide (0<(ls.getD (0+i.toNat) []).length)&&C.is (K.int .i64) ((ls.getD (0+i.toNat) []).getD 0 (C.fn 0 []))&&(decide (0+1<(ls.getD (0+i.toNat) []).length)&&C.is K.str ((ls.getD (0+i.toNat) []).getD (0+1) (C.fn 0 []))&&(decide (0+1+1<(ls.getD (0+i.toNat) []).length)&&C.is K.bool ((ls.getD (0+i.toNat) []).getD (0+1+1) (C.fn 0 []))&&(decide (0+1+1+1<(ls.getD (0+i.toNat) []).length)&&C.is (K.int .i64) ((ls.getD (0+i.toNat) []).getD (0+1+1+1) (C.fn 0 []))&&(decide (0+1+1+1+1<(ls.getD (0+i.toNat) []).length)&&C.is (K.int .i64) ((ls.getD (0+i.toNat) []).getD (0+1+1+1+1) (C.fn 0 []))&&(decide (0+1+1+1+1+1<(ls.getD (0+i.toNat) []).length)&&C.is (K.int .i64) ((ls.getD (0+i.toNat) []).getD (0+1+1+1+1+1) (C.fn 0 []))&&(decide (0+1+1+1+1+1+1<(ls.getD (0+i.toNat) []).length)&&C.is (K.int .i64) ((ls.getD (0+i.toNat) []).getD (0+1+1+1+1+1+1) (C.fn 0 []))&&(decide (0+1+1+1+1+1+1+1<(ls.getD (0+i.toNat) []).length)&&C.is (K.slice 9) ((ls.getD (0+i.toNat) []).getD (0+1+1+1+1+1+1+1) (C.fn 0 []))&&(decide (0+1+1+1+1+1+1+1+1<(ls.getD (0+i.toNat) []).length)&&C.is (K.slice 3) ((ls.getD (0+i.toNat) []).getD (0+1+1+1+1+1+1+1+1) (C.fn 0 []))&&(decide (0+1+1+1+1+1+1+1+1+1<(ls.getD (0+i.toNat) []).length)&&C.is (K.int .i64) ((ls.getD (0+i.toNat) []).getD (0+1+1+1+1+1+1+1+1+1) (C.fn 0 []))&&(decide (0+1+1+1+1+1+1+1+1+1+1<(ls.getD (0+i.toNat) []).length)&&C.is K.bool ((ls.getD (0+i.toNat) []).getD (0+1+1+1+1+1+1+1+1+1+1) (C.fn 0 []))&&true)))))))))))) (.must (decide (n=o.length)&&aBc (o.length+((ls.getD (0+i.toNat) []).getD (0+1+1+1+1+1+1+1) (C.fn 0 [])).toRows.length) 16&&((ls.getD (0+i.toNat) []).getD (0+1+1+1+1+1+1+1) (C.fn 0 [])).toRows.all fun r=>decide (r.length=1)) (H [Pt.r,Pt.r,Pt.l,Pt.r,Pt.b] k (aTh (o.length+((ls.getD (0+i.toNat) []).getD (0+1+1+1+1+1+1+1) (C.fn 0 [])).toRows.length) (o.append ((ls.getD (0+i.toNat) []).getD (0+1+1+1+1+1+1+1) (C.fn 0 [])).toRows) (m2) (ls) (k2) (IntKind.i64.wrap (i+(1:Int)))))))) (.must (decide (n=o.length)&&(false||o.all fun r=>r.all C.flat)&&true&&true&&true) (.ret [C.sl o]))):T (List C)).eval:=aAh (by kernel_rfl)
theorem bDw (v p:Int) (b:List UInt8):∀ (f:Nat) (k e:Int) (rs:List (List UInt8)) (os:List Int),(rs.length:Int)≤e→e≤b.length→rs.length=os.length→(∀ r∈rs,r.length≤60) →
  ((aFe v p b f k e rs os).1.length:Int)≤b.length∧(aFe v p b f k e rs os).1.length=(aFe v p b f k e rs os).2.1.length∧∀ r∈(aFe v p b f k e rs os).1,r.length≤60:=by
 intro f
 induction f with
 |zero=>intro k e rs os h1 h2 h3 h4;exact⟨by simp only[aFe];omega,h3,h4⟩
 |succ f ih =>
  intro k e rs os h1 h2 h3 h4
  simp only[aFe]
  split
  ·exact⟨(show (rs.length:Int)≤b.length by omega),h3,h4⟩
  ·split
   ·rename_i hok
    obtain⟨g1,g2,g3⟩:=aPd _ _ _ _ hok
    refine ih _ _ _ _ (by simp;omega) g2 (by simp[h3]) fun r hr=>?_
    rcases List.mem_append.1 hr with hr | hr
    ·exact h4 r hr
    ·obtain rfl:=List.mem_singleton.1 hr
     unfold aR0
     rw[if_pos hok]
     unfold bEr at hok
     simp only[Bool.and_eq_true,decide_eq_true_eq]at hok
     unfold aPc
     simp
     omega
   ·exact⟨(show (rs.length:Int)≤b.length by omega),h3,h4⟩
theorem aGy (b:List UInt8):(aB2 b).length≤b.length∧(aB2 b).length=(aFf b).length∧∀ r∈aB2 b,r.length≤60:=by
 unfold aB2 aFf aIb
 by_cases h:aAe b=true
 ·rw[if_pos h]
  have h24:24≤b.length:=by
   unfold aAe at h
   simp only[Bool.and_eq_true,decide_eq_true_eq]at h
   exact h.1.1
  obtain⟨a1,a2,a3⟩:=bDw (rhV b) (rhB b) b (b.length+1) 0 24 [] [] (by simp) (by omega) rfl (fun r hr=>by cases hr)
  exact⟨by omega,a2,a3⟩
 ·rw[if_neg h]
  exact⟨by simp,rfl,fun r hr=>by cases hr⟩
theorem aKu (l:List (List UInt8)):((l.map aCd).all fun row=>decide (row.length=1))=true:=by simp
theorem bQj (l:List Int):((l.map aS8).all fun row=>decide (row.length=1))=true:=by simp
theorem aU4 (n:Nat) (l:List (List UInt8)):aU5 n (l.map aCd)=true↔∀ x∈l,x.length≤n:=by simp[aU5]
theorem bIc:aA8 Tryz.prog aWw:=aA6 (by simp[aNp,aFy])
theorem aUt:aAs Tryz.prog 145 (sg [pI,pS] [rI]) aEr:=aA5 bIc aA9 Tryz.func145 (by kernel_rfl) fun cs outs hk h=>by
 unfold aEr at h
 split at h
 ·simp only[Option.some.injEq,Prod.mk.injEq,decide_eq_true_eq]at h
  obtain⟨h1,rfl⟩:=h
  rename_i l r
  rw[aAb,aXo]
  have l1:=aBj (r.length:Int) 4
  have a1:(-9223372036854775808:Int)≤r.length:=by omega
  have a2:(r.length:Int)≤9223372036854775807:=by omega
  have a3:(aAk (r.length:Int) 4).length+r.length≤9223372036854775807:=by omega
  have a4:(aAk (r.length:Int) 4++r).length≤281474976710656:=by simp;omega
  simp only[aA0,aA1,a1,a2,a3,a4,decide_true,Bool.and_self,if_true]
  rfl
 ·cases h
theorem bJy:aA8 Tryz.prog aX1:=aA6 (by simp[aNw,aG0])
theorem aVz:aAs Tryz.prog 152 (sg [pI,pS] [rI]) aEr:=aA5 bJy aA9 Tryz.func152 (by kernel_rfl) fun cs outs hk h=>by
 unfold aEr at h
 split at h
 ·simp only[Option.some.injEq,Prod.mk.injEq,decide_eq_true_eq]at h
  obtain⟨h1,rfl⟩:=h
  rename_i l r
  rw[aAb,aY7]
  have l1:=aBj (r.length:Int) 4
  have a1:(-9223372036854775808:Int)≤r.length:=by omega
  have a2:(r.length:Int)≤9223372036854775807:=by omega
  have a3:(aAk (r.length:Int) 4).length+r.length≤9223372036854775807:=by omega
  have a4:(aAk (r.length:Int) 4++r).length≤281474976710656:=by simp;omega
  simp only[aA0,aA1,a1,a2,a3,a4,decide_true,Bool.and_self,if_true]
  rfl
 ·cases h
theorem bBj (rs:List (List UInt8)) (h60:∀ x∈rs,x.length≤1048576) (hl:rs.length≤16777216):∀ (n i:Nat) (l:Int),i≤rs.length→rs.length<i+n →
  (aBh aN9 aAa (sg [pI,pSl 9] [rI]) Tryz.f129 [.r,.l,.r,.b] n (aMu l (rs.map aCd) rs.length i)).eval=some [.int .i64 (aI4 l (rs.drop i))]:=by
 intro n
 induction n with
 |zero=>intro i l h1 h2;omega
 |succ n ih =>
  intro i l h1 h2
  rw[aAv _ _ _ _ _ _ _ (by kernel_rfl),aVm]
  by_cases hi:i<rs.length
  ·have g:=aAx aCd rs [] i hi
   have w:IntKind.i64.wrap ((i:Int)+1)=((i+1:Nat):Int):=by rw[aAg]<;>omega
   have hz:(0:Int)≤i:=by omega
   have hi':(i:Int)<rs.length:=by omega
   have hm:rs.getD i []∈rs:=by rw[List.getD_eq_getElem?_getD,List.getElem?_eq_getElem hi];exact List.getElem_mem hi
   have hx:=h60 _ hm
   rw[aBx rs i [] hi]
   generalize rs.getD i []=y at g hx ⊢
   simp only[aA0,aA2,aA1,if_true,decide_eq_true_eq,Bool.and_eq_true,w,hz,hi',Int.toNat_natCast,List.length_map,g,and_self,List.getD_cons_zero,C.toStr,C.is,List.length_cons,List.length_nil,Nat.zero_add,Nat.zero_lt_succ,hx]
   exact ih (i+1) _ (by omega) (by omega)
  ·have e:i=rs.length:=by omega
   subst e
   have hi':¬((rs.length:Int)<(rs.length:Int)):=by omega
   simp only[aA2,aA1,decide_eq_true_eq,hi',if_false,List.drop_length]
   rfl
theorem bO1:aA8 Tryz.prog aN9:=aA6 (by simp[aVz])
theorem aXw:aAs Tryz.prog 129 (sg [pI,pSl 9] [rI]) aOi:=aA5 bO1 aA9 Tryz.func129 (by kernel_rfl) fun cs outs hk h=>by
 unfold aOi at h
 split at h
 ·simp only[Option.some.injEq,Prod.mk.injEq,Bool.and_eq_true,decide_eq_true_eq]at h
  obtain⟨⟨h1,h2,h3⟩,rfl⟩:=h
  rename_i l rows
  have hr:=aEe h2
  generalize aDa rows=rs at hr ⊢
  subst hr
  rw[List.length_map]at h1
  rw[aU4]at h3
  rw[aAb,bBi]
  have:=bBj rs h3 h1 9223372036854775808 0 l (by omega) (by omega)
  rw[show (rs.length:Int)=((rs.map aCd).length:Int) by rw[List.length_map]]at this
  exact this
 ·cases h
theorem bQd:aA8 Tryz.prog bHa:=aA6 (by simp[aKr])
theorem bAv:aAs Tryz.prog 123 (sg [pS,pI,pI] [rB]) aH4:=aA5 bQd aA9 Tryz.func123 (by kernel_rfl) fun cs outs hk h=>by
 unfold aH4 at h
 split at h
 ·simp only[Option.some.injEq,Prod.mk.injEq,decide_eq_true_eq]at h
  obtain⟨h1,rfl⟩:=h
  rename_i b x l
  rw[aAb,bEg]
  have a1:b.length≤281474976710656:=by omega
  cases hr:aAe b<;>simp[aA0,aA2,aA1,a1,aNy,hr,ifI]
  repeat' split
  all_goals simp_all
 ·cases h
theorem bS1:aA8 Tryz.prog bHh:=aA6 (by simp[aLa])
theorem bC7:aAs Tryz.prog 128 (sg [pS,pI,pI] [rB]) aH4:=aA5 bS1 aA9 Tryz.func128 (by kernel_rfl) fun cs outs hk h=>by
 unfold aH4 at h
 split at h
 ·simp only[Option.some.injEq,Prod.mk.injEq,decide_eq_true_eq]at h
  obtain⟨h1,rfl⟩:=h
  rename_i b x l
  rw[aAb,bFz]
  have a1:b.length≤281474976710656:=by omega
  cases hr:aAe b<;>simp[aA0,aA2,aA1,a1,aNy,hr,ifI]
  repeat' split
  all_goals simp_all
 ·cases h
theorem bE3:aA8 Tryz.prog aSa:=aA6 (by simp[aKq])
theorem aJy:aAs Tryz.prog 104 (sg [pS] [rSl 9]) aGu:=aA5 bE3 aA9 Tryz.func104 (by kernel_rfl) fun cs outs hk h=>by
 unfold aGu at h
 split at h
 ·simp only[Option.some.injEq,Prod.mk.injEq,decide_eq_true_eq]at h
  obtain⟨h1,rfl⟩:=h
  rename_i b
  rw[aAb,aUp]
  have d1:decide (0<1)=true:=by decide
  simp only[aA0,aA1,h1,d1,aKu,bQj,aEf,decide_true,Bool.and_self,Bool.or_true,if_true]
 ·cases h
theorem aUv (rs:List (List UInt8)) (h60:∀ x∈rs,x.length≤60) (hl:rs.length≤1048576) (ok mk:Bool) (v s q l e:Int) (m:Nat) (o:List (List C)):∀ (n i:Nat) (acc:Int),i≤rs.length→rs.length<i+n →
  (aBh aHx aAa (sg [pS] [rI]) Tryz.f124 [.r,.r,.r,.l,.r,.b] n (aHv ok mk v s q l e rs.length (rs.map aCd) m o acc i)).eval=some [.int .i64 (aI4 acc (rs.drop i))]:=by
 intro n
 induction n with
 |zero=>intro i l h1 h2;omega
 |succ n ih =>
  intro i acc h1 h2
  rw[aAv _ _ _ _ _ _ _ (by kernel_rfl),aQz]
  by_cases hi:i<rs.length
  ·have g:=aAx aCd rs [] i hi
   have w:IntKind.i64.wrap ((i:Int)+1)=((i+1:Nat):Int):=by rw[aAg]<;>omega
   have hz:(0:Int)≤i:=by omega
   have hi':(i:Int)<rs.length:=by omega
   have hm:rs.getD i []∈rs:=by rw[List.getD_eq_getElem?_getD,List.getElem?_eq_getElem hi];exact List.getElem_mem hi
   have hx:(rs.getD i []).length≤1048576:=by have:=h60 _ hm;omega
   rw[aBx rs i [] hi]
   generalize rs.getD i []=y at g hx ⊢
   simp only[aA0,aA2,aA1,if_true,decide_eq_true_eq,Bool.and_eq_true,w,hz,hi',hi,Int.toNat_natCast,List.length_map,Nat.zero_add,g,and_self,List.getD_cons_zero,C.toStr,C.is,List.length_cons,List.length_nil,Nat.zero_lt_succ,hx]
   exact ih (i+1) _ (by omega) (by omega)
  ·have e:i=rs.length:=by omega
   subst e
   have hi':¬((rs.length:Int)<(rs.length:Int)):=by omega
   simp only[aA2,aA1,decide_eq_true_eq,hi',if_false,List.drop_length]
   rfl
theorem bEd:aA8 Tryz.prog aHx:=aA6 (by simp[aKq,aUt])
theorem aSn:aAs Tryz.prog 124 (sg [pS] [rI]) aJf:=aA5 bEd aA9 Tryz.func124 (by kernel_rfl) fun cs outs hk h=>by
 unfold aJf at h
 split at h
 ·simp only[Option.some.injEq,Prod.mk.injEq,decide_eq_true_eq]at h
  obtain⟨h1,rfl⟩:=h
  rename_i b
  obtain⟨f1,f2,f3⟩:=aGy b
  rw[aAb,aUu]
  have d1:decide (0<1)=true:=by decide
  have lp:=aUv (aB2 b) f3 (by omega) (aAe b) (aUi b) (ifI (aAe b) (rhV b)) (ifI (aAe b) (rhS b)) (ifI (aAe b) (rhB b)) (ifI (aAe b) (rhL b)) (bI1 b) ((aFf b).map aS8).length ((aFf b).map aS8) 9223372036854775808 0 (ifI (aAe b) (rhL b)) (by omega) (by omega)
  rw[show (aB2 b).length=((aB2 b).map aCd).length by rw[List.length_map]]at lp
  simp only[aA0,aA1,h1,d1,aKu,bQj,decide_true,Bool.and_self,if_true]
  exact lp
 ·cases h
theorem bIv {ns es:List (List C)} (h:aSx ns es=true):aZ4 ns es=true:=by unfold aSx at h;simp only[Bool.and_eq_true]at h;exact h.1
theorem aP1 {ns es:List (List C)} (h:aSx ns es=true) (base:Int):(aB6 (nds ns) (ens es) base).length≤1048576:=by
 unfold aSx at h
 simp only[Bool.and_eq_true,List.all_eq_true,decide_eq_true_eq]at h
 unfold aB6 aGb bYc
 split
 ·simp
 ·rename_i hn
  have hp:¬aA4 (ens es) (aB9 base)<0:=fun hp=>hn (by unfold aB1;rw[if_pos hp];decide)
  have e:aB1 (nds ns) (ens es) (aB9 base)=aAt (nds ns) (aB4 (ens es) (aB9 base)):=if_neg hp
  rw[e]at hn ⊢
  obtain⟨c1,c2,c3⟩:=bIu _ _ hn
  refine h.2 _ ?_
  rw[List.getD_eq_getElem?_getD,List.getElem?_eq_getElem c1]
  exact List.getElem_mem c1
theorem cB4 (l:List Lk) (x:Lk):(l.map eLk).append [eLk x]=(l++[x]).map eLk:=by simp
theorem bIz (ns es os ss:List (List C)) (r x:Int) (hd:aSx ns es=true):∀ (k n:Nat) (l:List Lk) (base sum:Int),l.length+k=16→0≤base→base≤(l.length:Int)*1048576→k<n →
  (aBh aTm aAa (⟨[aAy],[rSl 122],true⟩) Tryz.f106 [.r,.r,.r,.l,.b] n (aTa ns es os ss r x l.length (l.map eLk) base sum)).eval=some [.sl (aK4 (l++aGp (nds ns) (ens es) k base sum))]:=by
 have hne:=bIv hd
 intro k
 induction k with
 |zero =>
  intro n l base sum h1 h2 h3 h4
  obtain⟨n,rfl⟩:∃ g,n=g+1:=⟨n-1,by omega⟩
  rw[aAv _ _ _ _ _ _ _ (by kernel_rfl),aPk]
  have c:¬((l.length:Int)<16):=by omega
  simp only[aA0,aA2,aA1,decide_eq_true_eq,c,if_false,List.length_map,decide_true,Bool.true_or,Bool.and_self,if_true,aGp,List.append_nil]
  rfl
 |succ k ih =>
  intro n l base sum h1 h2 h3 h4
  obtain⟨n,rfl⟩:∃ g,n=g+1:=⟨n-1,by omega⟩
  rw[aAv _ _ _ _ _ _ _ (by kernel_rfl),aPk]
  have c:((l.length:Int)<16):=by omega
  have ht:=aP1 hd base
  simp only[aGp]
  generalize aB6 (nds ns) (ens es) base=t at ht ⊢
  obtain⟨f1,f2,f3⟩:=aGy t
  have d1:decide (0<1)=true:=by decide
  simp only[aA0,aA2,aA1,decide_eq_true_eq,c,if_true,hne,ht,d1,aKu,bQj,decide_true,Bool.and_self,Bool.true_or,List.length_map]
  cases hg:aNy t base sum with
  |false =>
   simp only[Bool.false_eq_true,if_false,Bool.false_and,List.append_nil]
   rfl
  |true =>
   by_cases h0:(aB2 t).length=0
   ·have e0:((aB2 t).length:Int)=0:=by omega
    simp only[e0,h0,if_true,ne_eq,not_true_eq_false,decide_false,Bool.and_false,Bool.false_eq_true,if_false,List.append_nil]
    rfl
   ·have e0:¬((aB2 t).length:Int)=0:=by omega
    have ro:aBc (l.length+1) 128=true:=by simp only[aBc,decide_eq_true_eq];omega
    have tk:List.take (aB2 t).length ((aB2 t).map aCd)=(aB2 t).map aCd:=by rw[List.take_of_length_le];simp
    have tk2:List.take (aFf t).length ((aFf t).map aS8)=(aFf t).map aS8:=by rw[List.take_of_length_le];simp
    have l1:(aB2 t).length≤16777216:=by omega
    have tl:aU5 1048576 ((aB2 t).map aCd)=true:=(aU4 _ _).2 fun y hy=>by have:=f3 y hy;omega
    have w:IntKind.i64.wrap (base+((aB2 t).length:Int))=base+(aB2 t).length:=by rw[aAg]<;>omega
    have ap:=cB4 l (base,t)
    have e:=ih n (l++[(base,t)]) (base+(aB2 t).length) (aI4 sum (aB2 t)) (by simp;omega) (by omega) (by simp;omega) (by omega)
    simp only[List.length_append,List.length_cons,List.length_nil,Nat.zero_add,List.append_assoc,List.cons_append,List.nil_append]at e
    have e11:decide (((((((((((Nat.add 1 0).succ.add 0).succ.add 0).succ.add 0).succ.add 0).succ.add 0).succ.add 0).succ.add 0).succ.add 0).succ.add 0).succ=11)=true:=by decide
    simp only[e0,h0,if_false,ne_eq,not_false_eq_true,decide_true,Bool.and_self,if_true,ro,tk,tk2,List.length_map,l1,aV6,tl,w,bTw,e11]
    rw[←ap]at e
    exact e
theorem bUt:aA8 Tryz.prog aTm:=aA6 (by simp[aVt,bBv,aXw,bC7])
theorem bFc:aAs Tryz.prog 106 (⟨[aAy],[rSl 122],true⟩) aVl:=aA5 bUt aA9 Tryz.func106 (by kernel_rfl) fun cs outs hk h=>by
 unfold aVl at h
 split at h
 ·simp only[Option.some.injEq,Prod.mk.injEq]at h
  obtain⟨hd,rfl⟩:=h
  rename_i ns es os ss r x
  rw[aAb,bIy]
  exact bIz ns es os ss r x hd 16 9223372036854775808 [] 0 0 rfl (by omega) (by simp) (by omega)
 ·cases h
theorem bK7 {b:List UInt8} {base link:Int} (h:aNy b base link=true):aPl b=aI4 link (aB2 b):=by
 unfold aNy at h
 simp only[Bool.and_eq_true,decide_eq_true_eq]at h
 unfold aPl ifI
 rw[h.1.1,if_pos rfl,h.2]
theorem bW3 (l:List Lk) (x:Lk):(aDk l).append [[C.int .i64 x.1]]=aDk (l++[x]):=by simp[aDk]
theorem aL3 (l:List Lk):(aDk l).length=l.length:=by simp[aDk]
theorem aZe (l:List Lk):((aDk l).all fun r=>r.all C.flat)=true:=by simp[aDk,C.flat]
theorem bIh (ns es os ss:List (List C)) (r x:Int) (hd:aSx ns es=true):∀ (k n:Nat) (l:List Lk) (base sum:Int),l.length+k=16→0≤base→base≤(l.length:Int)*1048576→k<n →
  (aBh aTl aAa (sg [aAy] [rSl 3]) Tryz.f103 [.r,.r,.r,.r,.l,.b] n (aT9 ns es os ss r x l.length (aDk l) base sum)).eval=some [.sl (aDk (l++aGp (nds ns) (ens es) k base sum))]:=by
 have hne:=bIv hd
 intro k
 induction k with
 |zero =>
  intro n l base sum h1 h2 h3 h4
  obtain⟨n,rfl⟩:∃ g,n=g+1:=⟨n-1,by omega⟩
  rw[aAv _ _ _ _ _ _ _ (by kernel_rfl),aP9]
  have c:¬((l.length:Int)<16):=by omega
  simp only[aA0,aA2,aA1,decide_eq_true_eq,c,if_false,aL3,aZe,decide_true,Bool.or_true,Bool.and_self,if_true,aGp,List.append_nil]
 |succ k ih =>
  intro n l base sum h1 h2 h3 h4
  obtain⟨n,rfl⟩:∃ g,n=g+1:=⟨n-1,by omega⟩
  rw[aAv _ _ _ _ _ _ _ (by kernel_rfl),aP9]
  have c:((l.length:Int)<16):=by omega
  have ht:=aP1 hd base
  simp only[aGp]
  generalize aB6 (nds ns) (ens es) base=t at ht ⊢
  obtain⟨f1,f2,f3⟩:=aGy t
  simp only[aA0,aA2,aA1,decide_eq_true_eq,c,if_true,hne,ht,aKu,decide_true,Bool.and_self,aL3,aZe,Bool.or_true,List.length_map]
  by_cases h0:(aB2 t).length=0
  ·have e0:((aB2 t).length:Int)=0:=by omega
   simp only[e0,if_true]
   simp only[h0,ne_eq,not_true_eq_false,decide_false,Bool.and_false,Bool.false_eq_true,if_false,List.append_nil]
  ·have e0:¬((aB2 t).length:Int)=0:=by omega
   cases hg:aNy t base sum with
   |false=>simp only[e0,Bool.false_eq_true,if_false,Bool.false_and,List.append_nil]
   |true =>
    have ro:aBc (l.length+1) 8=true:=by simp only[aBc,decide_eq_true_eq];omega
    have l1:(aB2 t).length≤1048576:=by omega
    have w:IntKind.i64.wrap (base+((aB2 t).length:Int))=base+(aB2 t).length:=by rw[aAg]<;>omega
    have ap:=bW3 l (base,t)
    have e:=ih n (l++[(base,t)]) (base+(aB2 t).length) (aI4 sum (aB2 t)) (by simp;omega) (by omega) (by simp;omega) (by omega)
    simp only[List.length_append,List.length_cons,List.length_nil,Nat.zero_add,List.append_assoc,List.cons_append,List.nil_append]at e
    simp only[e0,h0,if_false,ne_eq,not_false_eq_true,decide_true,Bool.and_self,if_true,ro,w,bK7 hg]
    rw[←ap]at e
    exact e
theorem bU6:aA8 Tryz.prog aTl:=aA6 (by simp[aP8,bAv,aJy,aSn])
theorem bEl:aAs Tryz.prog 103 (sg [aAy] [rSl 3]) aWi:=aA5 bU6 aA9 Tryz.func103 (by kernel_rfl) fun cs outs hk h=>by
 unfold aWi at h
 split at h
 ·simp only[Option.some.injEq,Prod.mk.injEq]at h
  obtain⟨hd,rfl⟩:=h
  rename_i ns es os ss r x
  rw[aAb,bIg]
  exact bIh ns es os ss r x hd 16 9223372036854775808 [] 0 0 rfl (by omega) (by simp) (by omega)
 ·cases h
theorem aLm (ns:List Nd) (es:List En):∀ (k:Nat) (base sum:Int) (x:Lk),x∈aGp ns es k base sum→x.2=aB6 ns es x.1
 |0,_,_,_,h=>by cases h
 |k+1,base,sum,x,h=>by
  simp only[aGp]at h
  split at h
  ·rcases List.mem_cons.1 h with rfl | h
   ·rfl
   ·exact aLm ns es k _ _ x h
  ·cases h
theorem aFr (ns:List Nd) (es:List En):∀ (k:Nat) (base sum:Int),(aGp ns es k base sum).length≤k
 |0,_,_=>Nat.le_refl _
 |k+1,base,sum=>by
  simp only[aGp]
  split
  ·simp only[List.length_cons];have:=aFr ns es k (base+(aB2 (aB6 ns es base)).length) (aI4 sum (aB2 (aB6 ns es base)));omega
  ·simp
theorem aMb:∀ (l:List Lk),(∀ x∈l,x.2.length≤1048576)→(aD0 l).length≤l.length*1048576
 |[],_=>by simp[aD0]
 |x::l,h=>by
  have h1:=aMb l fun y hy=>h y (List.mem_cons_of_mem _ hy)
  have h2:=(aGy x.2).1
  have h3:=h x List.mem_cons_self
  unfold aD0 at h1 ⊢
  simp only[List.flatMap_cons,List.length_append,List.length_cons]
  omega
theorem bPx {A:Type} (l:List A) (i:Nat) (d:A) (hi:i<l.length):l.take (i+1)=l.take i++[l.getD i d]:=by
 rw[List.take_succ_eq_append_getElem hi];simp[List.getD_eq_getElem?_getD,hi]
theorem aVk (l:List Lk) (i:Nat) (d:Lk) (hi:i<l.length):aD0 (l.take (i+1))=aD0 (l.take i)++aB2 (l.getD i d).2:=by
 rw[bPx l i d hi];simp[aD0]
theorem bVk (l:List Lk) (i:Nat) (hi:i<l.length):(aDk l).getD i []=aS8 (l.getD i (0,[])).1:=aAx (fun x:Lk=>aS8 x.1) l (0,[]) i hi
theorem bM2 (a b:List (List UInt8)):(a.map aCd).append (b.map aCd)=(a++b).map aCd:=by simp
theorem bI9 (ns es os ss:List (List C)) (r x:Int) (hd:aSx ns es=true) (c:List Lk) (hc:∀ y∈c,y.2=aB6 (nds ns) (ens es) y.1) (hl:c.length≤16):∀ (n i:Nat),i≤c.length→c.length<i+n →
  (aBh aTk aAa (sg [aAy] [rSl 9]) Tryz.f67 [.r,.r,.r,.l,.r,.b] n (aT8 ns es os ss r x (aD0 (c.take i)).length ((aD0 (c.take i)).map aCd) c.length (aDk c) i)).eval=some [.sl ((aD0 c).map aCd)]:=by
 have hne:=bIv hd
 have ht2:∀ y∈c,y.2.length≤1048576:=fun y hy=>by rw[hc y hy];exact aP1 hd _
 intro n
 induction n with
 |zero=>intro i h1 h2;omega
 |succ n ih =>
  intro i h1 h2
  rw[aAv _ _ _ _ _ _ _ (by kernel_rfl),bAn]
  by_cases hi:i<c.length
  ·have g:=bVk c i hi
   have w:IntKind.i64.wrap ((i:Int)+1)=((i+1:Nat):Int):=by rw[aAg]<;>omega
   have hz:(0:Int)≤i:=by omega
   have hi':(i:Int)<c.length:=by omega
   have hm:c.getD i (0,[])∈c:=by rw[List.getD_eq_getElem?_getD,List.getElem?_eq_getElem hi];exact List.getElem_mem hi
   have hx:=hc _ hm
   have hx2:=ht2 _ hm
   have e:=ih (i+1) (by omega) (by omega)
   rw[aVk c i (0,[]) hi]at e
   have hlen:(aD0 (c.take i)).length≤16777216:=by
    have h4:=aMb (c.take i) fun y hy=>ht2 y (List.mem_of_mem_take hy)
    have h3:(c.take i).length≤16:=by rw[List.length_take];omega
    clear e
    omega
   have hne2:(aDk c).getD (0+i) []=aS8 (c.getD i (0,[])).1:=by rw[Nat.zero_add];exact g
   generalize c.getD i (0,[])=y at g hx hx2 e hne2 ⊢
   rw[hx]at e hx2
   obtain⟨f1,f2,f3⟩:=aGy (aB6 (nds ns) (ens es) y.1)
   have tk:List.take (aB2 (aB6 (nds ns) (ens es) y.1)).length ((aB2 (aB6 (nds ns) (ens es) y.1)).map aCd)=(aB2 (aB6 (nds ns) (ens es) y.1)).map aCd:=by rw[List.take_of_length_le];simp
   have ro:aBc ((aD0 (c.take i)).length+(aB2 (aB6 (nds ns) (ens es) y.1)).length) 16=true:=by simp only[aBc,decide_eq_true_eq];omega
   simp only[List.length_append]at e
   have hlb:i<(aDk c).length:=by rw[aL3];exact hi
   simp only[aA0,aA2,aA1,if_true,decide_eq_true_eq,w,hz,hi',hi,Int.toNat_natCast,aL3,Nat.zero_add,g,hne,hx2,aKu,tk,ro,decide_true,Bool.and_self,List.getD_cons_zero,C.toInt,C.is,List.length_cons,List.length_nil,Nat.zero_lt_succ,beq_self_eq_true,List.length_map,bM2]
   exact e
  ·have e:i=c.length:=by omega
   subst e
   have hi':¬((c.length:Int)<(c.length:Int)):=by omega
   rw[List.take_length]
   simp only[aA0,aA2,aA1,decide_eq_true_eq,hi',if_false,List.length_map,aEf,decide_true,Bool.or_true,Bool.and_self,if_true]
theorem bU4:aA8 Tryz.prog aTk:=aA6 (by simp[aP8,aJy,bEl])
theorem bE2:aAs Tryz.prog 67 (sg [aAy] [rSl 9]) aIc:=aA5 bU4 aA9 Tryz.func67 (by kernel_rfl) fun cs outs hk h=>by
 unfold aIc at h
 split at h
 ·simp only[Option.some.injEq,Prod.mk.injEq]at h
  obtain⟨hd,rfl⟩:=h
  rename_i ns es os ss r x
  rw[aAb,bI8]
  have hb:((aDk (aEh (nds ns) (ens es))).all fun row=>decide (row.length=1))=true:=by simp[aDk]
  have lp:=bI9 ns es os ss r x hd (aEh (nds ns) (ens es)) (fun y hy=>aLm _ _ _ _ _ y hy) (aFr _ _ _ _ _) 9223372036854775808 0 (by omega) (by have:=aFr (nds ns) (ens es) 16 0 0;unfold aEh;omega)
  rw[←aL3]at lp
  simp only[aA0,hd,hb,decide_true,Bool.and_self,if_true]
  exact lp
 ·cases h
theorem cAo (l:List Lk) (i:Nat) (hi:i<l.length):(aK4 l).getD i []=eLk (l.getD i (0,[])):=aAx eLk l (0,[]) i hi
theorem bWs (l:List Lk):(aK4 l).length=l.length:=by simp[aK4]
theorem bJt (c:List Lk) (ht2:∀ y∈c,y.2.length≤1048576) (hl:c.length≤16):∀ (n i:Nat),i≤c.length→c.length<i+n →
  (aBh aTt aAa (sg [aAy] [rSl 9]) Tryz.f69 [.r,.r,.l,.r,.b] n (aTh (aD0 (c.take i)).length ((aD0 (c.take i)).map aCd) c.length (aK4 c) c.length i)).eval=some [.sl ((aD0 c).map aCd)]:=by
 intro n
 induction n with
 |zero=>intro i h1 h2;omega
 |succ n ih =>
  intro i h1 h2
  rw[aAv _ _ _ _ _ _ _ (by kernel_rfl),bBy]
  by_cases hi:i<c.length
  ·have g:=cAo c i hi
   have w:IntKind.i64.wrap ((i:Int)+1)=((i+1:Nat):Int):=by rw[aAg]<;>omega
   have hz:(0:Int)≤i:=by omega
   have hi':(i:Int)<c.length:=by omega
   have hm:c.getD i (0,[])∈c:=by rw[List.getD_eq_getElem?_getD,List.getElem?_eq_getElem hi];exact List.getElem_mem hi
   have hx2:=ht2 _ hm
   have e:=ih (i+1) (by omega) (by omega)
   rw[aVk c i (0,[]) hi]at e
   have hlen:(aD0 (c.take i)).length≤16777216:=by
    have h4:=aMb (c.take i) fun y hy=>ht2 y (List.mem_of_mem_take hy)
    have h3:(c.take i).length≤16:=by rw[List.length_take];omega
    clear e
    omega
   generalize c.getD i (0,[])=y at g hx2 e ⊢
   obtain⟨f1,f2,f3⟩:=aGy y.2
   have ro:aBc ((aD0 (c.take i)).length+(aB2 y.2).length) 16=true:=by simp only[aBc,decide_eq_true_eq];omega
   simp only[List.length_append]at e
   simp only[aA0,aA2,aA1,if_true,decide_eq_true_eq,w,hz,hi',hi,Int.toNat_natCast,bWs,Nat.zero_add,Nat.reduceAdd,Nat.reduceLT,g,aKu,ro,decide_true,Bool.and_self,List.getD_cons_zero,List.getD_cons_succ,C.toInt,C.toRows,C.is,List.length_cons,List.length_nil,Nat.zero_lt_succ,beq_self_eq_true,List.length_map,bM2]
   exact e
  ·have e:i=c.length:=by omega
   subst e
   have hi':¬((c.length:Int)<(c.length:Int)):=by omega
   rw[List.take_length]
   simp only[aA0,aA2,aA1,decide_eq_true_eq,hi',if_false,List.length_map,aEf,decide_true,Bool.or_true,Bool.and_self,if_true]
theorem aZo {ns es:List (List C)} (h:aSx ns es=true):∀ y∈aEh (nds ns) (ens es),y.2.length≤1048576:=fun y hy=>by
 rw[aLm _ _ _ _ _ y hy];exact aP1 h _
theorem bVb:aA8 Tryz.prog aTt:=aA6 (by simp[bFc])
theorem bFq:aAs Tryz.prog 69 (sg [aAy] [rSl 9]) aIc:=aA5 bVb aA9 Tryz.func69 (by kernel_rfl) fun cs outs hk h=>by
 unfold aIc at h
 split at h
 ·simp only[Option.some.injEq,Prod.mk.injEq]at h
  obtain⟨hd,rfl⟩:=h
  rename_i ns es os ss r x
  rw[aAb,bJs]
  have hb:((aK4 (aEh (nds ns) (ens es))).all fun row=>decide (row.length=11))=true:=by simp[aK4]
  have lp:=bJt (aEh (nds ns) (ens es)) (aZo hd) (aFr _ _ _ _ _) 9223372036854775808 0 (by omega) (by have:=aFr (nds ns) (ens es) 16 0 0;unfold aEh;omega)
  rw[←bWs]at lp
  simp only[aA0,hd,hb,decide_true,Bool.and_self,if_true]
  exact lp
 ·cases h
noncomputable section
def aJg (ns es os ss:List (List C)):Bool:=aBd 281474976710656 ns es os ss&&aBa ns es os ss&&aF8 ns es os ss
end
theorem aVg:∀ (l:List Nat) (x:Nat),x∈l→x≤l.sum
 |[],_,h=>by cases h
 |y::l,x,h=>by
  simp only[List.sum_cons]
  rcases List.mem_cons.1 h with rfl | h
  ·omega
  ·have:=aVg l x h;omega
theorem aRu (ns:List Nd) (es os:List En) (ss:List (List UInt8)) (h:¬aNn ns es os ss 1048576<0) :
  ns.length≤1048576∧es.length≤1048576∧os.length≤1048576∧ss.length≤1048576∧(∀ x∈ns,x.text.length≤1048576)∧(∀ x∈es,x.name.length≤1048576)∧(∀ x∈os,x.name.length≤1048576)∧(∀ x∈ss,x.length≤1048576) ∧
  (ns.length:Int)+(((ns.map fun x=>x.text.length).sum:Nat):Int)≤1048576:=by
 unfold aNn at h
 generalize hA:aBm (ns.map fun x=>x.text.length) 1048576=A at h
 generalize hB:aIa (es.map fun x=>x.name.length) A=B at h
 generalize hC:aIa (os.map fun x=>x.name.length) B=D at h
 have hC0:¬D<0:=fun hn=>h (by unfold aIa;rw[if_pos hn];decide)
 have hB0:¬B<0:=fun hn=>hC0 (by rw[←hC];unfold aIa;rw[if_pos hn];decide)
 have hA0:¬A<0:=fun hn=>hB0 (by rw[←hB];unfold aIa;rw[if_pos hn];decide)
 have e4:aIa (ss.map List.length) D=aBm (ss.map List.length) D:=if_neg hC0
 have e3:aIa (os.map fun x=>x.name.length) B=aBm (os.map fun x=>x.name.length) B:=if_neg hB0
 have e2:aIa (es.map fun x=>x.name.length) A=aBm (es.map fun x=>x.name.length) A:=if_neg hA0
 rw[e4]at h
 rw[e3]at hC
 rw[e2]at hB
 have s1:=aLw (ns.map fun x=>x.text.length) 1048576 (by omega)
 have s2:=aLw (es.map fun x=>x.name.length) A (by omega)
 have s3:=aLw (os.map fun x=>x.name.length) B (by omega)
 have s4:=aLw (ss.map List.length) D (by omega)
 rw[hA]at s1
 rw[hB]at s2
 rw[hC]at s3
 simp only[List.length_map]at s1 s2 s3 s4
 have m1:∀ x∈ns,x.text.length≤(ns.map fun x=>x.text.length).sum:=fun x hx=>aVg _ _ (List.mem_map.2 ⟨x,hx,rfl⟩)
 have m2:∀ x∈es,x.name.length≤(es.map fun x=>x.name.length).sum:=fun x hx=>aVg _ _ (List.mem_map.2 ⟨x,hx,rfl⟩)
 have m3:∀ x∈os,x.name.length≤(os.map fun x=>x.name.length).sum:=fun x hx=>aVg _ _ (List.mem_map.2 ⟨x,hx,rfl⟩)
 have m4:∀ x∈ss,x.length≤(ss.map List.length).sum:=fun x hx=>aVg _ _ (List.mem_map.2 ⟨x,hx,rfl⟩)
 generalize (ns.map fun x=>x.text.length).sum=S1 at s1 m1 ⊢
 generalize (es.map fun x=>x.name.length).sum=S2 at s2 m2
 generalize (os.map fun x=>x.name.length).sum=S3 at s3 m3
 generalize (ss.map List.length).sum=S4 at s4 m4
 generalize aBm (ss.map List.length) D=Z at s4 h
 refine⟨by omega,by omega,by omega,by omega,fun x hx=>?_,fun x hx=>?_,fun x hx=>?_,fun x hx=>?_,by omega⟩
 ·have:=m1 x hx;omega
 ·have:=m2 x hx;omega
 ·have:=m3 x hx;omega
 ·have:=m4 x hx;omega
theorem bYb (ns:List (List C)):(nds ns).length=ns.length:=by simp[nds]
theorem bZ2 (ns:List (List C)):(ens ns).length=ns.length:=by simp[ens]
theorem bTx (ns:List (List C)):(aDa ns).length=ns.length:=by simp[aDa]
theorem aQt {ns es os ss:List (List C)} (hl:aJg ns es os ss=true) (h:¬aNn (nds ns) (ens es) (ens os) (aDa ss) 1048576<0) :
  aBd 281474976710656 ns es os ss=true∧aBa ns es os ss=true∧aF8 ns es os ss=true∧aBd 1048576 ns es os ss=true∧aSx ns es=true:=by
 unfold aJg at hl
 simp only[Bool.and_eq_true]at hl
 obtain⟨⟨h1,h2⟩,h3⟩:=hl
 obtain⟨a1,a2,a3,a4,a5,_⟩:=aRu _ _ _ _ h
 rw[bYb]at a1
 rw[bZ2]at a2 a3
 rw[bTx]at a4
 refine⟨h1,h2,h3,aD3.2 ⟨a1,a2,a3,a4⟩,?_⟩
 obtain⟨k1,k2,k3,k4⟩:=aDh.1 h2
 obtain⟨l1,l2,_,_⟩:=aD3.1 h1
 unfold aSx
 simp only[Bool.and_eq_true,List.all_eq_true,decide_eq_true_eq]
 exact⟨aM7.2 ⟨l1,l2,k1,k2⟩,a5⟩
theorem bGo {ns es os ss:List (List C)} (h:aBa ns es os ss=true) :
  (ns.all fun row=>decide (row.length=3))=true∧(es.all fun row=>decide (row.length=2))=true∧(os.all fun row=>decide (row.length=2))=true∧(ss.all fun row=>decide (row.length=1))=true:=by
 obtain⟨k1,k2,k3,k4⟩:=aDh.1 h
 exact⟨aGa k1,aGa k2,aGa k3,aGa k4⟩
theorem bGl (ns es os ss:List (List C)) (r x:Int):bVq ns es os ss r x ns es os ss r x=true:=by simp[bVq]
noncomputable section
def bVu:Nat→Nat→List UInt8→List UInt8
 |0,_,out=>out
 |f+1,k,out=>if k=0 then out else bVu f (k / 10) (UInt8.ofNat (48+k % 10)::out)
def aGk (k:Int):List UInt8:=if k≤0 then[109,48]else 109::bVu 20 k.toNat []
def aDf:Spec:=fun cs=>match cs with
 |[.int .i64 k]=>some (decide (k≤4611686018427387904),[.str (aGk k)])
 |_=>none
def aHk (k:Int) (out:List UInt8):St:=st0 [(0,aB5 k),(3,aYj out)]
def aHl:Env:=mkE [(4,[0,3])] []
def mk (f:Int→List C) (s k:Int) (n:Nat):List (List C):=(List.range n).map fun (i:Nat)=>f (k+s*(i:Int))
def mkS (k:Int):List C:=aCd (aGk k)
def aPi:Spec:=fun cs=>match cs with
 |[.sl rows,.int .i64 k]=>some (aAf [.str] rows&&(decide (rows.length≤1073741824)&&(decide (0≤k)&&decide (k≤1099511627776))),[.int .i64 (k+rows.length),.sl (mk mkS 1 k rows.length)])
 |_=>none
def aTb (n:Nat) (r:List (List C)) (k i:Int):St:={slots:=[(0,.l (.ref 0 0 n)),(1,aB5 k),(5,aB5 i)],heap:=[(0,.arr 1 r)],next:=1,pins:=[0]}
def pWS:PTy:=.wr false [(.slice 9,true)]
def aTn:Env:=mkE [(2,[0,1,5])] [(66,(sg [pI] [rS]),aDf)]
def aNj:List (List UInt8)→Int→Int
 |[],k=>k
 |x::r,k=>if x=aGk k then aNj r (k+1)else -1
def aPr:Spec:=fun cs=>match cs with
 |[.sl rows,.int .i64 k]=>some (aAf [.str] rows&&(decide (rows.length≤1073741824)&&(decide (0≤k)&&decide (k≤1099511627776))),[.int .i64 (aNj (aDa rows) k)])
 |_=>none
def aTe (r:List (List C)) (k i:Int):St:=st0 [(0,.l (.sl r)),(1,aB5 k),(5,aB5 i)]
def aTq:Env:=mkE [(2,[0,1,5])] [(66,(sg [pI] [rS]),aDf)]
def mkN (k:Int):List C:=[.int .i64 k,.str (aGk (k+1)),.int .i64 (k+2)]
def aFa (k:Int):List C:=[.str (aGk k),.int .i64 (k+1)]
def aVh:Spec:=fun cs=>match cs with
 |[.sl rows,.int .i64 k]=>some (aAf kNd rows&&(decide (rows.length≤1048576)&&(decide (0≤k)&&decide (k≤1099511627776))),[.int .i64 (k+3*rows.length),.sl (mk mkN 3 k rows.length)])
 |_=>none
def aVi:Spec:=fun cs=>match cs with
 |[.sl rows,.int .i64 k]=>some (aAf kEn rows&&(decide (rows.length≤1048576)&&(decide (0≤k)&&decide (k≤1099511627776))),[.int .i64 (k+2*rows.length),.sl (mk aFa 2 k rows.length)])
 |_=>none
def pWN:PTy:=.wr false [(.slice 66,true)]
def pWE:PTy:=.wr false [(.slice 92,true)]
def bLi:PTy:=.wr true [(.slice 66,true),(.slice 92,true),(.slice 92,true),(.slice 9,true),(.int .i64,false),(.int .i64,false)]
def bGp (k:Int) (a b c d:Nat):Int:=k+3*a+2*b+2*c+d
def aPj:Spec:=fun cs=>match cs with
 |[.sl ns,.sl es,.sl os,.sl ss,.int .i64 _,.int .i64 _,.int .i64 k]=>some (aBa ns es os ss&&(aBd 1048576 ns es os ss&&(decide (0≤k)&&decide (k≤1073741824))),[.int .i64 (bGp k ns.length es.length os.length ss.length),
   .sl (mk mkN 3 k ns.length),.sl (mk aFa 2 (k+3*ns.length) es.length),.sl (mk aFa 2 (k+3*ns.length+2*es.length) os.length),.sl (mk mkS 1 (k+3*ns.length+2*es.length+2*os.length) ss.length)])
 |_=>none
def aTc (n:Nat) (r:List (List C)) (k i:Int):St:={slots:=[(0,.l (.ref 0 0 n)),(1,aB5 k),(5,aB5 i)],heap:=[(0,.arr 3 r)],next:=1,pins:=[0]}
def aTd (n:Nat) (r:List (List C)) (k i:Int):St:={slots:=[(0,.l (.ref 0 0 n)),(1,aB5 k),(5,aB5 i)],heap:=[(0,.arr 2 r)],next:=1,pins:=[0]}
def aTo:Env:=mkE [(2,[0,1,5])] [(66,(sg [pI] [rS]),aDf)]
def aTp:Env:=mkE [(2,[0,1,5])] [(66,(sg [pI] [rS]),aDf)]
def bMc:Env:=mkE [] [(27,(sg [pWS,pI] [rI]),aPi),(47,(sg [pWN,pI] [rI]),aVh),(48,(sg [pWE,pI] [rI]),aVi)]
def aRj:Spec:=fun cs=>match cs with
 |[.sl rows]=>some (aAf [.str] rows&&decide (rows.length≤1099511627776),[.sl rows])
 |_=>none
def bDa:Env:=mkE [] []
end
theorem aXx (H:List Pt→Nat→St→T (List C)) (k:Int):(aAi aHl aAa (sg [pI] [rS]) Tryz.f66 H [C.int .i64 k]).eval=((.ask (decide (k≤(0:Int))) (.ret [C.str [(109:UInt8),48]]) (H [Pt.r,Pt.r,Pt.r,Pt.l,Pt.b] 9223372036854775808 (aHk (k) ([])))):T (List C)).eval:=aAh (by kernel_rfl)
theorem aK5 (H:List Pt→Nat→St→T (List C)) (kk:Int) (o:List UInt8) (k:Nat):(aB7 aHl aAa (sg [pI] [rS]) Tryz.f66 H [Pt.r,Pt.r,Pt.r,Pt.l,Pt.b] k (aHk kk o)).eval=((.ask (decide ((0:Int)<kk)) (.must (decide ((aC2 [[C.int .u8 (IntKind.u8.wrap (IntKind.i64.wrap ((48:Int)+kk.tmod 10)))]]).length+o.length≤9223372036854775807)) (H [Pt.r,Pt.r,Pt.r,Pt.l,Pt.b] k (aHk (IntKind.i64.wrap (kk.tdiv 10)) (aC2 [[C.int .u8 (IntKind.u8.wrap (IntKind.i64.wrap ((48:Int)+kk.tmod 10)))]]++o)))) (.must (decide (1+o.length≤9223372036854775807)) (.ret [C.str ([(109:UInt8)]++o)]))):T (List C)).eval:=aAh (by kernel_rfl)
theorem bJ2 (H:List Pt→Nat→St→T (List C)) (r:List (List C)) (k:Int):(aAi aTn aAa (sg [pWS,pI] [rI]) Tryz.f27 H [C.sl r,C.int .i64 k]).eval=((.must ((true&&r.all fun row=>decide (row.length=1))&&true&&(decide (0<1)&&true&&true&&true)) (H [Pt.r,Pt.l,Pt.r,Pt.b] 9223372036854775808 (aTb (r.length) (r) (k) ((0:Int))))):T (List C)).eval:=aAh (by kernel_rfl)
theorem bBk (H:List Pt→Nat→St→T (List C)) (n:Nat) (r:List (List C)) (kk:Int) (i:Int) (k:Nat):(aB7 aTn aAa (sg [pWS,pI] [rI]) Tryz.f27 H [Pt.r,Pt.l,Pt.r,Pt.b] k (aTb n r kk i)).eval=((.ask (decide (i<(↑n:Int))) (.must (decide (kk≤(4611686018427387904:Int))) (.must (decide ((0:Int)≤i)&&decide (i<(↑n:Int))) (.must (decide (0+i.toNat<r.length)) (H [Pt.r,Pt.l,Pt.r,Pt.b] k (aTb (n) (r.set (0+i.toNat) (C.str (aGk kk)::List.drop (0+1) (r.getD (0+i.toNat) []))) (IntKind.i64.wrap (kk+(1:Int))) (IntKind.i64.wrap (i+(1:Int)))))))) (.must (true&&(false||true)&&true&&true&&((false||r.all fun r=>r.all C.flat)&&true&&true)) (.ret [C.int .i64 kk,C.sl r]))):T (List C)).eval:=aAh (by kernel_rfl)
theorem bJ9 (H:List Pt→Nat→St→T (List C)) (r:List (List C)) (k:Int):(aAi aTq aAa (sg [pSl 9,pI] [rI]) Tryz.f28 H [C.sl r,C.int .i64 k]).eval=((H [Pt.r,Pt.l,Pt.r,Pt.b] 9223372036854775808 (aTe (r) (k) ((0:Int)))):T (List C)).eval:=aAh (by kernel_rfl)
theorem bBn (H:List Pt→Nat→St→T (List C)) (r:List (List C)) (kk:Int) (i:Int) (k:Nat):(aB7 aTq aAa (sg [pSl 9,pI] [rI]) Tryz.f28 H [Pt.r,Pt.l,Pt.r,Pt.b] k (aTe r kk i)).eval=((.ask (decide (i<(↑r.length:Int))) (.must (decide ((0:Int)≤i)&&decide (i<(↑r.length:Int))&&decide ((r.getD i.toNat []).length=1)) (.must (decide (0<(r.getD i.toNat []).length)&&C.is K.str ((r.getD i.toNat []).getD 0 (C.fn 0 []))&&true) (.must (decide (kk≤(4611686018427387904:Int))) (.ask (!((r.getD i.toNat []).getD 0 (C.fn 0 [])).toStr==aGk kk) (.ret [C.int .i64 (-1)]) (H [Pt.r,Pt.l,Pt.r,Pt.b] k (aTe (r) (IntKind.i64.wrap (kk+(1:Int))) (IntKind.i64.wrap (i+(1:Int))))))))) (.ret [C.int .i64 kk])):T (List C)).eval:=aAh (by kernel_rfl)
theorem bJ4 (H:List Pt→Nat→St→T (List C)) (r:List (List C)) (k:Int):(aAi aTo aAa (sg [pWN,pI] [rI]) Tryz.f47 H [C.sl r,C.int .i64 k]).eval=((.must ((true&&r.all fun row=>decide (row.length=3))&&true&&(decide (0<1)&&true&&true&&true)) (H [Pt.r,Pt.l,Pt.r,Pt.b] 9223372036854775808 (aTc (r.length) (r) (k) ((0:Int))))):T (List C)).eval:=aAh (by kernel_rfl)
theorem bJ6 (H:List Pt→Nat→St→T (List C)) (r:List (List C)) (k:Int):(aAi aTp aAa (sg [pWE,pI] [rI]) Tryz.f48 H [C.sl r,C.int .i64 k]).eval=((.must ((true&&r.all fun row=>decide (row.length=2))&&true&&(decide (0<1)&&true&&true&&true)) (H [Pt.r,Pt.l,Pt.r,Pt.b] 9223372036854775808 (aTd (r.length) (r) (k) ((0:Int))))):T (List C)).eval:=aAh (by kernel_rfl)
theorem bBl (H:List Pt→Nat→St→T (List C)) (n:Nat) (r:List (List C)) (kk:Int) (i:Int) (k:Nat):(aB7 aTo aAa (sg [pWN,pI] [rI]) Tryz.f47 H [Pt.r,Pt.l,Pt.r,Pt.b] k (aTc n r kk i)).eval=((.ask (decide (i<(↑n:Int))) (.must (decide ((0:Int)≤i)&&decide (i<(↑n:Int))) (.must (decide (0+i.toNat<r.length)) (.must (decide (IntKind.i64.wrap (kk+(1:Int))≤(4611686018427387904:Int))) (.must (decide ((0:Int)≤i)&&decide (i<(↑n:Int))) (.must (decide (0+i.toNat<(r.set (0+i.toNat) (C.int .i64 kk::List.drop (0+0+1) (r.getD (0+i.toNat) []))).length)) (.must (decide ((0:Int)≤i)&&decide (i<(↑n:Int))) (.must (decide (0+i.toNat<((r.set (0+i.toNat) (C.int .i64 kk::List.drop (0+0+1) (r.getD (0+i.toNat) []))).set (0+i.toNat) (((List.take (0+1) ((r.set (0+i.toNat) (C.int .i64 kk::List.drop (0+0+1) (r.getD (0+i.toNat) []))).getD (0+i.toNat) [])).append [C.str (aGk (IntKind.i64.wrap (kk+(1:Int))))]).append (List.drop (0+1+1) ((r.set (0+i.toNat) (C.int .i64 kk::List.drop (0+0+1) (r.getD (0+i.toNat) []))).getD (0+i.toNat) [])))).length)) (H [Pt.r,Pt.l,Pt.r,Pt.b] k (aTc (n) (((r.set (0+i.toNat) (C.int .i64 kk::List.drop (0+0+1) (r.getD (0+i.toNat) []))).set (0+i.toNat) (((List.take (0+1) ((r.set (0+i.toNat) (C.int .i64 kk::List.drop (0+0+1) (r.getD (0+i.toNat) []))).getD (0+i.toNat) [])).append [C.str (aGk (IntKind.i64.wrap (kk+(1:Int))))]).append (List.drop (0+1+1) ((r.set (0+i.toNat) (C.int .i64 kk::List.drop (0+0+1) (r.getD (0+i.toNat) []))).getD (0+i.toNat) [])))).set (0+i.toNat) (((List.take (0+2) (((r.set (0+i.toNat) (C.int .i64 kk::List.drop (0+0+1) (r.getD (0+i.toNat) []))).set (0+i.toNat) (((List.take (0+1) ((r.set (0+i.toNat) (C.int .i64 kk::List.drop (0+0+1) (r.getD (0+i.toNat) []))).getD (0+i.toNat) [])).append [C.str (aGk (IntKind.i64.wrap (kk+(1:Int))))]).append (List.drop (0+1+1) ((r.set (0+i.toNat) (C.int .i64 kk::List.drop (0+0+1) (r.getD (0+i.toNat) []))).getD (0+i.toNat) [])))).getD (0+i.toNat) [])).append [C.int .i64 (IntKind.i64.wrap (IntKind.i64.wrap (kk+(1:Int))+(1:Int)))]).append (List.drop (0+2+1) (((r.set (0+i.toNat) (C.int .i64 kk::List.drop (0+0+1) (r.getD (0+i.toNat) []))).set (0+i.toNat) (((List.take (0+1) ((r.set (0+i.toNat) (C.int .i64 kk::List.drop (0+0+1) (r.getD (0+i.toNat) []))).getD (0+i.toNat) [])).append [C.str (aGk (IntKind.i64.wrap (kk+(1:Int))))]).append (List.drop (0+1+1) ((r.set (0+i.toNat) (C.int .i64 kk::List.drop (0+0+1) (r.getD (0+i.toNat) []))).getD (0+i.toNat) [])))).getD (0+i.toNat) [])))) (IntKind.i64.wrap (IntKind.i64.wrap (IntKind.i64.wrap (kk+(1:Int))+(1:Int))+(1:Int))) (IntKind.i64.wrap (i+(1:Int)))))))))))) (.must (true&&(false||true)&&true&&true&&((false||r.all fun r=>r.all C.flat)&&true&&true)) (.ret [C.int .i64 kk,C.sl r]))):T (List C)).eval:=aAh (by kernel_rfl)
theorem bBm (H:List Pt→Nat→St→T (List C)) (n:Nat) (r:List (List C)) (kk:Int) (i:Int) (k:Nat):(aB7 aTp aAa (sg [pWE,pI] [rI]) Tryz.f48 H [Pt.r,Pt.l,Pt.r,Pt.b] k (aTd n r kk i)).eval=((.ask (decide (i<(↑n:Int))) (.must (decide (kk≤(4611686018427387904:Int))) (.must (decide ((0:Int)≤i)&&decide (i<(↑n:Int))) (.must (decide (0+i.toNat<r.length)) (.must (decide ((0:Int)≤i)&&decide (i<(↑n:Int))) (.must (decide (0+i.toNat<(r.set (0+i.toNat) (C.str (aGk kk)::List.drop (0+0+1) (r.getD (0+i.toNat) []))).length)) (H [Pt.r,Pt.l,Pt.r,Pt.b] k (aTd (n) ((r.set (0+i.toNat) (C.str (aGk kk)::List.drop (0+0+1) (r.getD (0+i.toNat) []))).set (0+i.toNat) (((List.take (0+1) ((r.set (0+i.toNat) (C.str (aGk kk)::List.drop (0+0+1) (r.getD (0+i.toNat) []))).getD (0+i.toNat) [])).append [C.int .i64 (IntKind.i64.wrap (kk+(1:Int)))]).append (List.drop (0+1+1) ((r.set (0+i.toNat) (C.str (aGk kk)::List.drop (0+0+1) (r.getD (0+i.toNat) []))).getD (0+i.toNat) [])))) (IntKind.i64.wrap (IntKind.i64.wrap (kk+(1:Int))+(1:Int))) (IntKind.i64.wrap (i+(1:Int)))))))))) (.must (true&&(false||true)&&true&&true&&((false||r.all fun r=>r.all C.flat)&&true&&true)) (.ret [C.int .i64 kk,C.sl r]))):T (List C)).eval:=aAh (by kernel_rfl)
theorem bJ8 (H:List Pt→Nat→St→T (List C)) (ns:List (List C)) (es:List (List C)) (os:List (List C)) (ss:List (List C)) (r:Int) (x:Int) (k:Int):(aAi bMc aAa (sg [bLi,pI] [rI]) Tryz.f12 H [C.sl ns,C.sl es,C.sl os,C.sl ss,C.int .i64 r,C.int .i64 x,C.int .i64 k]).eval=((.must ((true&&ns.all fun row=>decide (row.length=3))&&((true&&es.all fun row=>decide (row.length=2))&&((true&&os.all fun row=>decide (row.length=2))&&((true&&ss.all fun row=>decide (row.length=1))&&(decide (0<1)&&true&&(decide (0<1)&&true&&true)))))&&(decide (0<1)&&true&&true&&true)) (.must (true&&(true&&true)&&(decide (ns.length=ns.length)&&true&&true)) (.must (aAf [K.int .i64,K.str,K.int .i64] ns&&(decide (ns.length≤1048576)&&(decide ((0:Int)≤k)&&decide (k≤(1099511627776:Int))))) (.must (decide (0<1)&&true&&true&&true&&((decide ((mk mkN 3 k ns.length).length=ns.length)&&(mk mkN 3 k ns.length).all fun row=>decide (row.length=3))&&true&&true)) (.must (true&&(true&&true)&&(decide (es.length=es.length)&&true&&true)) (.must (aAf [K.str,K.int .i64] es&&(decide (es.length≤1048576)&&(decide ((0:Int)≤k+(3:Int)*(↑ns.length:Int))&&decide (k+(3:Int)*(↑ns.length:Int)≤(1099511627776:Int))))) (.must (decide (0<1)&&true&&true&&true&&((decide ((mk aFa 2 (k+(3:Int)*(↑ns.length:Int)) es.length).length=es.length)&&(mk aFa 2 (k+(3:Int)*(↑ns.length:Int)) es.length).all fun row=>decide (row.length=2))&&true&&true)) (.must (true&&(true&&true)&&(decide (os.length=os.length)&&true&&true)) (.must (aAf [K.str,K.int .i64] os&&(decide (os.length≤1048576)&&(decide ((0:Int)≤k+(3:Int)*(↑ns.length:Int)+(2:Int)*(↑es.length:Int))&&decide (k+(3:Int)*(↑ns.length:Int)+(2:Int)*(↑es.length:Int)≤(1099511627776:Int))))) (.must (decide (0<1)&&true&&true&&true&&((decide ((mk aFa 2 (k+(3:Int)*(↑ns.length:Int)+(2:Int)*(↑es.length:Int)) os.length).length=os.length)&&(mk aFa 2 (k+(3:Int)*(↑ns.length:Int)+(2:Int)*(↑es.length:Int)) os.length).all fun row=>decide (row.length=2))&&true&&true)) (.must (true&&(true&&true)&&(decide (ss.length=ss.length)&&true&&true)) (.must (aAf [K.str] ss&&(decide (ss.length≤1073741824)&&(decide ((0:Int)≤k+(3:Int)*(↑ns.length:Int)+(2:Int)*(↑es.length:Int)+(2:Int)*(↑os.length:Int))&&decide (k+(3:Int)*(↑ns.length:Int)+(2:Int)*(↑es.length:Int)+(2:Int)*(↑os.length:Int)≤(1099511627776:Int))))) (.must (decide (0<1)&&true&&true&&true&&((decide ((mk mkS 1 (k+(3:Int)*(↑ns.length:Int)+(2:Int)*(↑es.length:Int)+(2:Int)*(↑os.length:Int)) ss.length).length=ss.length)&&(mk mkS 1 (k+(3:Int)*(↑ns.length:Int)+(2:Int)*(↑es.length:Int)+(2:Int)*(↑os.length:Int)) ss.length).all fun row=>decide (row.length=1))&&true&&true)) (.must (true&&(false||true)&&true&&true&&((false||(mk mkN 3 k ns.length).all fun r=>r.all C.flat)&&((false||(mk aFa 2 (k+(3:Int)*(↑ns.length:Int)) es.length).all fun r=>r.all C.flat)&&((false||(mk aFa 2 (k+(3:Int)*(↑ns.length:Int)+(2:Int)*(↑es.length:Int)) os.length).all fun r=>r.all C.flat)&&((false||(mk mkS 1 (k+(3:Int)*(↑ns.length:Int)+(2:Int)*(↑es.length:Int)+(2:Int)*(↑os.length:Int)) ss.length).all fun r=>r.all C.flat)&&true)))&&true)) (.ret [C.int .i64 (k+(3:Int)*(↑ns.length:Int)+(2:Int)*(↑es.length:Int)+(2:Int)*(↑os.length:Int)+(↑ss.length:Int)),C.sl (mk mkN 3 k ns.length),C.sl (mk aFa 2 (k+(3:Int)*(↑ns.length:Int)) es.length),C.sl (mk aFa 2 (k+(3:Int)*(↑ns.length:Int)+(2:Int)*(↑es.length:Int)) os.length),C.sl (mk mkS 1 (k+(3:Int)*(↑ns.length:Int)+(2:Int)*(↑es.length:Int)+(2:Int)*(↑os.length:Int)) ss.length)]))))))))))))))):T (List C)).eval:=aAh (by kernel_rfl)
theorem bSt (r : List (List C)) : aOz bDa aAa [false] (sg [pSl (9 : TypeId)] [rSl (9 : TypeId)]) Tryz.f82 [C.sl r] =
 (.must true
 (.ask (false)
  (.must true
   (.ret [C.sl []]))
  (.must (decide ((0 : Nat) = (0 : Nat)) && aBc ((0 : Nat) + r.length) (16 : Nat) &&
  r.all fun r => decide (r.length = (1 : Nat)))
   (.must (decide ((0 : Nat) + r.length = r.length) && (false || r.all fun r => r.all C.flat) && true && true && true)
    (.ret [C.sl r]))))) := by kernel_rfl
theorem bP8 (z : Nat) : aOz bDa aAa [true] (sg [pSl (9 : TypeId)] [rSl (9 : TypeId)]) Tryz.f82 [C.sl []] =
 (.must true
 (.ask true
  (.must true
   (.ret [C.sl []]))
  (.must true
   (.must true
    (.ret [C.sl []]))))) := by kernel_rfl
theorem aXy:∀ (f k:Nat) (o:List UInt8) (n:Nat),k<10^f→f<n→o.length+f≤1000→k≤4611686018427387904 →
  (aBh aHl aAa (sg [pI] [rS]) Tryz.f66 [.r,.r,.r,.l,.b] n (aHk k o)).eval=some [.str (109::bVu f k o)]:=by
 have stop:∀ (f:Nat) (o:List UInt8) (n:Nat),0<n→o.length≤1000→(aBh aHl aAa (sg [pI] [rS]) Tryz.f66 [.r,.r,.r,.l,.b] n (aHk (0:Nat) o)).eval=some [.str (109::bVu f 0 o)]:=by
  intro f o n hn ho
  obtain⟨m,rfl⟩:∃ m,n=m+1:=⟨n-1,by omega⟩
  rw[aAv _ _ _ _ _ _ _ (by kernel_rfl),aK5]
  have h1:1+o.length≤9223372036854775807:=by omega
  have h2:bVu f 0 o=o:=by cases f<;>simp[bVu]
  have h3:¬((0:Int)<((0:Nat):Int)):=by omega
  simp only[aA2,aA0,aA1,decide_eq_true_eq,h3,if_false,h1,if_true,h2]
  rfl
 intro f
 induction f with
 |zero =>
  intro k o n hk hn ho _
  have:k=0:=by simpa using hk
  subst this
  exact stop 0 o n (by omega) (by omega)
 |succ f ih =>
  intro k o n hk hn ho hkk
  by_cases h0:k=0
  ·subst h0;exact stop (f+1) o n (by omega) (by omega)
  ·obtain⟨m,rfl⟩:∃ m,n=m+1:=⟨n-1,by omega⟩
   rw[aAv _ _ _ _ _ _ _ (by kernel_rfl),aK5]
   have hpos:(0:Int)<(k:Int):=by omega
   have e1:(k:Int).tmod 10=((k % 10:Nat):Int):=by rw[Int.tmod_eq_emod_of_nonneg (by omega)];omega
   have e2:(k:Int).tdiv 10=((k / 10:Nat):Int):=by rw[Int.tdiv_eq_ediv_of_nonneg (by omega)];omega
   have w1:IntKind.i64.wrap ((48:Int)+((k % 10:Nat):Int))=((48+k % 10:Nat):Int):=by rw[aAg]<;>omega
   have w2:IntKind.u8.wrap (((48+k % 10:Nat):Int))=((48+k % 10:Nat):Int):=by rw[aOv]<;>omega
   have w3:IntKind.i64.wrap (((k / 10:Nat):Int))=((k / 10:Nat):Int):=by rw[aAg]<;>omega
   have e3:aC2 [[C.int IntKind.u8 ((48+k % 10:Nat):Int)]]=[UInt8.ofNat (48+k % 10)]:=by show[UInt8.ofNat (((48+k % 10:Nat):Int)).toNat]=_;rw[Int.toNat_natCast]
   have e4:bVu (f+1) k o=bVu f (k / 10) (UInt8.ofNat (48+k % 10)::o):=by simp[bVu,h0]
   rw[e1,w1,w2,e2,w3,e3,e4]
   have h1:1+o.length≤9223372036854775807:=by omega
   simp only[aA2,aA0,decide_eq_true_eq,hpos,if_true,List.length_cons,List.length_nil,Nat.zero_add,h1,List.cons_append,List.nil_append]
   exact ih (k / 10) _ m (by rw[Nat.pow_succ]at hk;omega) (by omega) (by simp;omega) (by omega)
theorem bJ1:aA8 Tryz.prog aHl:=aA6 (by simp[])
theorem aD6:aAs Tryz.prog 66 (sg [pI] [rS]) aDf:=aA5 bJ1 aA9 Tryz.func66 (by kernel_rfl) fun cs outs hk h=>by
 unfold aDf at h
 split at h
 ·simp only[Option.some.injEq,Prod.mk.injEq,decide_eq_true_eq]at h
  obtain⟨h1,rfl⟩:=h
  rename_i k
  rw[aAb,aXx]
  by_cases hk:k≤0
  ·simp only[aA2,aA1,decide_eq_true_eq,hk,if_true,aGk]
  ·obtain⟨m,rfl⟩:∃ m:Nat,k=m:=⟨k.toNat,by omega⟩
   have:=aXy 20 m [] 9223372036854775808 (by omega) (by omega) (by simp) (by omega)
   simp only[aA2,decide_eq_true_eq,hk,if_false,aGk,Int.toNat_natCast]
   exact this
 ·cases h
theorem aDn (f:Int→List C) (s k:Int) (n:Nat):(mk f s k n).length=n:=by simp[mk]
theorem bIx (f:Int→List C) (s k:Int) (n:Nat):mk f s k (n+1)=mk f s k n++[f (k+s*n)]:=by simp[mk,List.range_succ]
theorem aHb (f:Int→List C) (s k:Int) (n:Nat) (p:List C→Bool) (h:∀ k,p (f k)=true):(mk f s k n).all p=true:=by simp[mk,h]
theorem bI0 {A:Type} (a l:List A) (i:Nat) (x:A) (ha:a.length=i) (hi:i<l.length):(a++l.drop i).set i x=(a++[x])++l.drop (i+1):=by
 rw[List.drop_eq_getElem_cons hi,List.set_append_right _ _ (by omega),ha,Nat.sub_self,List.set_cons_zero,List.append_assoc]
 rfl
theorem bCg {A:Type} (a l:List A) (i:Nat) (d:A) (ha:a.length=i):(a++l.drop i).getD i d=l.getD i d:=by
 simp[List.getD_eq_getElem?_getD,List.getElem?_append_right,ha]
theorem aJi {A:Type} (l:List A) (i:Nat) (x d:A) (hi:i<l.length):(l.set i x).getD i d=x:=by
 simp[List.getD_eq_getElem?_getD,hi]
theorem aOe {ks:List K} {rows:List (List C)} (h:aAf ks rows=true) (i:Nat) (hi:i<rows.length):aBo (rows.getD i []) ks=true:=by
 simp only[aAf,List.all_eq_true]at h
 exact h _ (by simp[List.getD_eq_getElem?_getD,hi])
theorem aDq {ks:List K} {rows:List (List C)} (h:aAf ks rows=true) (n:Nat) (hn:ks.length=n):(rows.all fun row=>decide (row.length=n))=true:=by
 have kl:∀ (cs:List C) (ks:List K),aBo cs ks=true→cs.length=ks.length:=by
  intro cs
  induction cs with
  |nil=>intro ks h;cases ks<;>simp[aBo]at h ⊢
  |cons c cs ih=>intro ks h;cases ks<;>simp[aBo]at h ⊢;exact ih _ h.2
 simp only[aAf,List.all_eq_true]at h ⊢
 intro r hr
 simp[kl _ _ (h r hr),hn]
theorem bJ3 (rows:List (List C)) (k:Int) (hr:aAf [.str] rows=true) (hl:rows.length≤1073741824) (h0:0≤k) (h1:k≤1099511627776):∀ (n i:Nat),i≤rows.length→rows.length<i+n →
  (aBh aTn aAa (sg [pWS,pI] [rI]) Tryz.f27 [.r,.l,.r,.b] n (aTb rows.length (mk mkS 1 k i++rows.drop i) (k+1*i) i)).eval=some [.int .i64 (k+rows.length),.sl (mk mkS 1 k rows.length)]:=by
 intro n
 induction n with
 |zero=>intro i a b;omega
 |succ n ih =>
  intro i a b
  rw[aAv _ _ _ _ _ _ _ (by kernel_rfl),bBk]
  by_cases hi:i<rows.length
  ·have w:IntKind.i64.wrap ((i:Int)+1)=((i+1:Nat):Int):=by rw[aAg]<;>omega
   have w2:IntKind.i64.wrap (k+1*(i:Int)+1)=k+1*((i+1:Nat):Int):=by rw[aAg]<;>omega
   have hz:(0:Int)≤i:=by omega
   have hi':(i:Int)<rows.length:=by omega
   have hk:k+1*(i:Int)≤4611686018427387904:=by omega
   have g:=bIj (aOe hr i hi)
   have hlen:i<(mk mkS 1 k i++rows.drop i).length:=by simp[aDn];omega
   rw[Nat.zero_add,Int.toNat_natCast,bCg _ _ _ _ (aDn _ _ _ _),g]
   have hd:List.drop (0+1) (aCd (bEq (rows.getD i [])))=[]:=rfl
   rw[hd,bI0 _ _ _ _ (aDn _ _ _ _) hi]
   have e:mk mkS 1 k i++[[C.str (aGk (k+1*(i:Int)))]]=mk mkS 1 k (i+1):=(bIx mkS 1 k i).symm
   rw[e]
   simp only[aA0,aA2,decide_eq_true_eq,Bool.and_eq_true,hz,hi',hk,hlen,and_self,if_true,w,w2]
   exact ih (i+1) (by omega) (by omega)
  ·have e:i=rows.length:=by omega
   subst e
   have hi':¬((rows.length:Int)<(rows.length:Int)):=by omega
   have hf:((mk mkS 1 k rows.length).all fun r=>r.all C.flat)=true:=aHb _ _ _ _ _ fun k=>rfl
   simp only[aA2,aA0,aA1,decide_eq_true_eq,hi',if_false,List.drop_length,List.append_nil,hf,Bool.false_or,Bool.or_true,Bool.and_true,Bool.and_self,if_true,Int.one_mul]
theorem bUu:aA8 Tryz.prog aTn:=aA6 (by simp[aD6])
theorem aRz:aAs Tryz.prog 27 (sg [pWS,pI] [rI]) aPi:=aA5 bUu aA9 Tryz.func27 (by kernel_rfl) fun cs outs hk h=>by
 unfold aPi at h
 split at h
 ·simp only[Option.some.injEq,Prod.mk.injEq,Bool.and_eq_true,decide_eq_true_eq]at h
  obtain⟨⟨h1,h2,h3,h4⟩,rfl⟩:=h
  rename_i rows k
  rw[aAb,bJ2]
  have:=bJ3 rows k h1 h2 h3 h4 9223372036854775808 0 (by omega) (by omega)
  rw[show mk mkS 1 k 0++rows.drop 0=rows by simp[mk],show k+1*((0:Nat):Int)=k by omega]at this
  have r1:=aDq h1 1 rfl
  simp only[aA0,r1,Bool.and_true,Bool.true_and,Nat.zero_lt_one,decide_true,if_true]
  exact this
 ·cases h
theorem bJa (l:List (List UInt8)) (hl:l.length≤1073741824):∀ (n i:Nat) (k:Int),0≤k→k≤1099511627776+i→i≤l.length→l.length<i+n →
  (aBh aTq aAa (sg [pSl 9,pI] [rI]) Tryz.f28 [.r,.l,.r,.b] n (aTe (l.map aCd) k i)).eval=some [.int .i64 (aNj (l.drop i) k)]:=by
 intro n
 induction n with
 |zero=>intro i k _ _ a b;omega
 |succ n ih =>
  intro i k k0 k1 a b
  rw[aAv _ _ _ _ _ _ _ (by kernel_rfl),bBn]
  by_cases hi:i<l.length
  ·have g:=aAx aCd l [] i hi
   have w:IntKind.i64.wrap ((i:Int)+1)=((i+1:Nat):Int):=by rw[aAg]<;>omega
   have w2:IntKind.i64.wrap (k+1)=k+1:=by rw[aAg]<;>omega
   have hz:(0:Int)≤i:=by omega
   have hi':(i:Int)<l.length:=by omega
   have hk:k≤4611686018427387904:=by omega
   rw[aBx l i [] hi]
   generalize l.getD i []=y at g ⊢
   simp only[aA0,aA2,aA1,if_true,decide_eq_true_eq,Bool.and_eq_true,w,w2,hz,hi',hk,Int.toNat_natCast,List.length_map,g,and_self,List.getD_cons_zero,C.toStr,C.is,List.length_cons,List.length_nil,Nat.zero_add,Nat.zero_lt_succ,decide_true,Bool.not_eq_true',beq_eq_false_iff_ne,ne_eq,aNj]
   by_cases hy:y=aGk k
   ·simp only[hy,not_true,if_false,if_true]
    exact ih (i+1) (k+1) (by omega) (by omega) (by omega) (by omega)
   ·simp only[hy,not_false_iff,if_true,if_false]
  ·have e:i=l.length:=by omega
   subst e
   have hi':¬((l.length:Int)<(l.length:Int)):=by omega
   simp only[aA2,aA1,decide_eq_true_eq,List.length_map,hi',if_false,List.drop_length,aNj]
theorem bUy:aA8 Tryz.prog aTq:=aA6 (by simp[aD6])
theorem aS1:aAs Tryz.prog 28 (sg [pSl 9,pI] [rI]) aPr:=aA5 bUy aA9 Tryz.func28 (by kernel_rfl) fun cs outs hk h=>by
 unfold aPr at h
 split at h
 ·simp only[Option.some.injEq,Prod.mk.injEq,Bool.and_eq_true,decide_eq_true_eq]at h
  obtain⟨⟨h1,h2,h3,h4⟩,rfl⟩:=h
  rename_i rows k
  have hr:=aEe h1
  generalize aDa rows=l at hr ⊢
  subst hr
  rw[List.length_map]at h2
  rw[aAb,bJ9]
  exact bJa l h2 9223372036854775808 0 k h3 (by omega) (by omega) (by omega)
 ·cases h
theorem bYw (k:Int):∀ (n i:Nat),aNj ((List.range' i n).map fun (j:Nat)=>aGk (k+1*(j:Int))) (k+i)=k+i+n:=by
 intro n
 induction n with
 |zero=>intro i;simp[aNj]
 |succ n ih =>
  intro i
  have:=ih (i+1)
  have e:k+((i+1:Nat):Int)=k+i+1:=by omega
  rw[e]at this
  simp only[List.range'_succ,List.map_cons,aNj,Int.one_mul,if_true]at this ⊢
  rw[this]
  omega
theorem aZ9 (k:Int) (n:Nat):aNj (aDa (mk mkS 1 k n)) k=k+n:=by
 have:=bYw k n 0
 rw[show aDa (mk mkS 1 k n)=(List.range' 0 n).map fun (j:Nat)=>aGk (k+1*(j:Int)) by simp[aDa,mk,bEq,mkS,C.toStr,List.range_eq_range',Function.comp_def]]
 have e:k+((0:Nat):Int)=k:=by omega
 rw[e]at this
 exact this
theorem bJ5 (rows:List (List C)) (k:Int) (hr:aAf kNd rows=true) (hl:rows.length≤1048576) (h0:0≤k) (h1:k≤1099511627776):∀ (n i:Nat),i≤rows.length→rows.length<i+n →
  (aBh aTo aAa (sg [pWN,pI] [rI]) Tryz.f47 [.r,.l,.r,.b] n (aTc rows.length (mk mkN 3 k i++rows.drop i) (k+3*i) i)).eval=some [.int .i64 (k+3*rows.length),.sl (mk mkN 3 k rows.length)]:=by
 intro n
 induction n with
 |zero=>intro i a b;omega
 |succ n ih =>
  intro i a b
  rw[aAv _ _ _ _ _ _ _ (by kernel_rfl),bBl]
  by_cases hi:i<rows.length
  ·have w:IntKind.i64.wrap ((i:Int)+1)=((i+1:Nat):Int):=by rw[aAg]<;>omega
   have w1:IntKind.i64.wrap (k+3*(i:Int)+1)=k+3*(i:Int)+1:=by rw[aAg]<;>omega
   have w2:IntKind.i64.wrap (k+3*(i:Int)+1+1)=k+3*(i:Int)+2:=by rw[aAg]<;>omega
   have w3:IntKind.i64.wrap (k+3*(i:Int)+2+1)=k+3*(i:Int)+3:=by rw[aAg]<;>omega
   have wk:k+3*(i:Int)+3=k+3*((i+1:Nat):Int):=by omega
   have hz:(0:Int)≤i:=by omega
   have hi':(i:Int)<rows.length:=by omega
   have hk:k+3*(i:Int)≤4611686018427387904:=by omega
   have hk1:k+3*(i:Int)+1≤4611686018427387904:=by omega
   have g:=bWe (aOe hr i hi)
   have hlen:i<(mk mkN 3 k i++rows.drop i).length:=by simp[aDn];omega
   simp only[Nat.zero_add,Nat.add_zero,Int.toNat_natCast,List.set_set,List.length_set,aJi _ _ _ _ hlen,w,w1,w2,w3,List.append_eq]
   simp only[bCg _ _ _ _ (aDn _ _ _ _),bI0 _ _ _ _ (aDn _ _ _ _) hi]
   rw[g]
   simp only[List.drop_succ_cons,List.drop_zero,List.take_succ_cons,List.take_zero,List.cons_append,List.nil_append,List.drop_nil,List.append_nil,List.append_assoc]
   have e:mk mkN 3 k i++[[C.int .i64 (k+3*(i:Int)),C.str (aGk (k+3*(i:Int)+1)),C.int .i64 (k+3*(i:Int)+2)]]=mk mkN 3 k (i+1):=(bIx mkN 3 k i).symm
   simp only[aA0,aA2,decide_eq_true_eq,Bool.and_eq_true,hz,hi',hk,hk1,hlen,and_self,if_true]
   have:=ih (i+1) (by omega) (by omega)
   rw[←e,←wk,List.append_assoc]at this
   exact this
  ·have e:i=rows.length:=by omega
   subst e
   have hi':¬((rows.length:Int)<(rows.length:Int)):=by omega
   have hf:((mk mkN 3 k rows.length).all fun r=>r.all C.flat)=true:=aHb _ _ _ _ _ fun k=>rfl
   simp only[aA2,aA0,aA1,decide_eq_true_eq,hi',if_false,List.drop_length,List.append_nil,hf,Bool.false_or,Bool.or_true,Bool.and_true,Bool.and_self,if_true]
theorem bUv:aA8 Tryz.prog aTo:=aA6 (by simp[aD6])
theorem bFg:aAs Tryz.prog 47 (sg [pWN,pI] [rI]) aVh:=aA5 bUv aA9 Tryz.func47 (by kernel_rfl) fun cs outs hk h=>by
 unfold aVh at h
 split at h
 ·simp only[Option.some.injEq,Prod.mk.injEq,Bool.and_eq_true,decide_eq_true_eq]at h
  obtain⟨⟨h1,h2,h3,h4⟩,rfl⟩:=h
  rename_i rows k
  rw[aAb,bJ4]
  have:=bJ5 rows k h1 h2 h3 h4 9223372036854775808 0 (by omega) (by omega)
  rw[show mk mkN 3 k 0++rows.drop 0=rows by simp[mk],show k+3*((0:Nat):Int)=k by omega]at this
  have r1:=aDq h1 3 rfl
  simp only[aA0,r1,Bool.and_true,Bool.true_and,Nat.zero_lt_one,decide_true,if_true]
  exact this
 ·cases h
theorem bJ7 (rows:List (List C)) (k:Int) (hr:aAf kEn rows=true) (hl:rows.length≤1048576) (h0:0≤k) (h1:k≤1099511627776):∀ (n i:Nat),i≤rows.length→rows.length<i+n →
  (aBh aTp aAa (sg [pWE,pI] [rI]) Tryz.f48 [.r,.l,.r,.b] n (aTd rows.length (mk aFa 2 k i++rows.drop i) (k+2*i) i)).eval=some [.int .i64 (k+2*rows.length),.sl (mk aFa 2 k rows.length)]:=by
 intro n
 induction n with
 |zero=>intro i a b;omega
 |succ n ih =>
  intro i a b
  rw[aAv _ _ _ _ _ _ _ (by kernel_rfl),bBm]
  by_cases hi:i<rows.length
  ·have w:IntKind.i64.wrap ((i:Int)+1)=((i+1:Nat):Int):=by rw[aAg]<;>omega
   have w1:IntKind.i64.wrap (k+2*(i:Int)+1)=k+2*(i:Int)+1:=by rw[aAg]<;>omega
   have w2:IntKind.i64.wrap (k+2*(i:Int)+1+1)=k+2*(i:Int)+2:=by rw[aAg]<;>omega
   have w3:IntKind.i64.wrap (k+2*(i:Int)+2+1)=k+2*(i:Int)+3:=by rw[aAg]<;>omega
   have wk:k+2*(i:Int)+2=k+2*((i+1:Nat):Int):=by omega
   have hz:(0:Int)≤i:=by omega
   have hi':(i:Int)<rows.length:=by omega
   have hk:k+2*(i:Int)≤4611686018427387904:=by omega
   have hk1:k+2*(i:Int)+1≤4611686018427387904:=by omega
   have g:=bWf (aOe hr i hi)
   have hlen:i<(mk aFa 2 k i++rows.drop i).length:=by simp[aDn];omega
   simp only[Nat.zero_add,Nat.add_zero,Int.toNat_natCast,List.set_set,List.length_set,aJi _ _ _ _ hlen,w,w1,w2,w3,List.append_eq]
   simp only[bCg _ _ _ _ (aDn _ _ _ _),bI0 _ _ _ _ (aDn _ _ _ _) hi]
   rw[g]
   simp only[List.drop_succ_cons,List.drop_zero,List.take_succ_cons,List.take_zero,List.cons_append,List.nil_append,List.drop_nil,List.append_nil,List.append_assoc]
   have e:mk aFa 2 k i++[[C.str (aGk (k+2*(i:Int))),C.int .i64 (k+2*(i:Int)+1)]]=mk aFa 2 k (i+1):=(bIx aFa 2 k i).symm
   simp only[aA0,aA2,decide_eq_true_eq,Bool.and_eq_true,hz,hi',hk,hk1,hlen,and_self,if_true]
   have:=ih (i+1) (by omega) (by omega)
   rw[←e,←wk,List.append_assoc]at this
   exact this
  ·have e:i=rows.length:=by omega
   subst e
   have hi':¬((rows.length:Int)<(rows.length:Int)):=by omega
   have hf:((mk aFa 2 k rows.length).all fun r=>r.all C.flat)=true:=aHb _ _ _ _ _ fun k=>rfl
   simp only[aA2,aA0,aA1,decide_eq_true_eq,hi',if_false,List.drop_length,List.append_nil,hf,Bool.false_or,Bool.or_true,Bool.and_true,Bool.and_self,if_true]
theorem bUw:aA8 Tryz.prog aTp:=aA6 (by simp[aD6])
theorem bFh:aAs Tryz.prog 48 (sg [pWE,pI] [rI]) aVi:=aA5 bUw aA9 Tryz.func48 (by kernel_rfl) fun cs outs hk h=>by
 unfold aVi at h
 split at h
 ·simp only[Option.some.injEq,Prod.mk.injEq,Bool.and_eq_true,decide_eq_true_eq]at h
  obtain⟨⟨h1,h2,h3,h4⟩,rfl⟩:=h
  rename_i rows k
  rw[aAb,bJ6]
  have:=bJ7 rows k h1 h2 h3 h4 9223372036854775808 0 (by omega) (by omega)
  rw[show mk aFa 2 k 0++rows.drop 0=rows by simp[mk],show k+2*((0:Nat):Int)=k by omega]at this
  have r1:=aDq h1 2 rfl
  simp only[aA0,r1,Bool.and_true,Bool.true_and,Nat.zero_lt_one,decide_true,if_true]
  exact this
 ·cases h
theorem bUx:aA8 Tryz.prog bMc:=aA6 (by simp[aRz,bFg,bFh])
theorem aS0:aAs Tryz.prog 12 (sg [bLi,pI] [rI]) aPj:=aA5 bUx aA9 Tryz.func12 (by kernel_rfl) fun cs outs hk h=>by
 unfold aPj at h
 split at h
 ·simp only[Option.some.injEq,Prod.mk.injEq,Bool.and_eq_true,decide_eq_true_eq]at h
  obtain⟨⟨h1,h2,h3,h4⟩,rfl⟩:=h
  rename_i ns es os ss r x k
  simp only[aBa,Bool.and_eq_true]at h1
  obtain⟨⟨⟨a1,a2⟩,a3⟩,a4⟩:=h1
  simp only[aBd,Bool.and_eq_true,decide_eq_true_eq]at h2
  obtain⟨⟨⟨b1,b2⟩,b3⟩,b4⟩:=h2
  rw[aAb,bJ8]
  have c1:=aDq a1 3 rfl
  have c2:=aDq a2 2 rfl
  have c3:=aDq a3 2 rfl
  have c4:=aDq a4 1 rfl
  have l1:∀ k n,((mk mkN 3 k n).all fun r=>decide (r.length=3))=true:=fun k n=>aHb _ _ _ _ _ fun k=>rfl
  have l2:∀ k n,((mk aFa 2 k n).all fun r=>decide (r.length=2))=true:=fun k n=>aHb _ _ _ _ _ fun k=>rfl
  have l3:∀ k n,((mk mkS 1 k n).all fun r=>decide (r.length=1))=true:=fun k n=>aHb _ _ _ _ _ fun k=>rfl
  have f1:∀ k n,((mk mkN 3 k n).all fun r=>r.all C.flat)=true:=fun k n=>aHb _ _ _ _ _ fun k=>rfl
  have f2:∀ k n,((mk aFa 2 k n).all fun r=>r.all C.flat)=true:=fun k n=>aHb _ _ _ _ _ fun k=>rfl
  have f3:∀ k n,((mk mkS 1 k n).all fun r=>r.all C.flat)=true:=fun k n=>aHb _ _ _ _ _ fun k=>rfl
  have b5:ss.length≤1073741824:=by omega
  have k1:k≤1099511627776:=by omega
  have k2:0≤k+3*(ns.length:Int)∧k+3*(ns.length:Int)≤1099511627776:=by omega
  have k3:0≤k+3*(ns.length:Int)+2*(es.length:Int)∧k+3*(ns.length:Int)+2*(es.length:Int)≤1099511627776:=by omega
  have k4:0≤k+3*(ns.length:Int)+2*(es.length:Int)+2*(os.length:Int)∧k+3*(ns.length:Int)+2*(es.length:Int)+2*(os.length:Int)≤1099511627776:=by omega
  simp only[aA0,aA1,a1,a2,a3,a4,b1,b2,b3,b4,b5,c1,c2,c3,c4,l1,l2,l3,f1,f2,f3,h3,k1,k2.1,k2.2,k3.1,k3.2,k4.1,k4.2,aDn,Nat.zero_lt_one,decide_true,Bool.and_self,Bool.false_or,Bool.or_true,Bool.true_and,Bool.and_true,if_true,bGp]
 ·cases h
theorem bVw:aA8 Tryz.prog bDa:=aA6 (by simp)
theorem bGv:aAs Tryz.prog 82 (sg [pSl 9] [rSl 9]) aRj:=aKi bVw aA9 Tryz.func82 (by kernel_rfl) rfl fun cs outs hk h bs hb=>by
 unfold aRj at h
 split at h
 ·simp only[Option.some.injEq,Prod.mk.injEq,Bool.and_eq_true,decide_eq_true_eq]at h
  obtain⟨⟨h1,h2⟩,rfl⟩:=h
  rename_i rows
  have r1:=aDq h1 1 rfl
  match bs,hb with
  |[true],hb =>
   have:rows=[]:=by simpa[aIe]using hb
   subst this
   rw[bP8 0]
   rfl
  |[false],_ =>
   rw[bSt]
   have hroom:aBc rows.length 16=true:=by unfold aBc;simp;omega
   have hf:(rows.all fun r=>r.all C.flat)=true:=by
    simp only[aAf,List.all_eq_true]at h1 ⊢
    intro r hr c hc
    have:=bIj (h1 r hr)
    rw[this]at hc
    obtain rfl:=List.mem_singleton.1 hc
    rfl
   simp only[aA0,aA2,aA1,r1,hroom,hf,Nat.zero_add,decide_true,Bool.and_self,Bool.or_true,Bool.and_true,if_true,Bool.false_eq_true,if_false]
  |[],hb=>simp[aIe]at hb
  |_::_::_,hb=>simp[aIe]at hb
 ·cases h
noncomputable section
def bWx (x:Int):Int:=if x<10 then 48+x else 87+x
def cAq (d:Nat):UInt8:=UInt8.ofNat (48+d)
def bGu:Nat→Nat→List UInt8→List UInt8
 |0,_,s=>s
 |f+1,n,s=>if n=0 then s else bGu f (n / 10) (cAq (n % 10)::s)
def aIp (n:Int):List UInt8:=if n=0 then[48]else bGu 20 n.toNat []
def bEt:List UInt8→Int→Option Int
 |[],n=>some n
 |c::r,n=>if (c.toNat:Int)<48 then none else if (c.toNat:Int)>57 then none else bEt r (10*n+c.toNat-48)
def aM3 (t:List UInt8):Bool:=decide (t.length≤10)&&match bEt t 0 with | some n=>decide (n≤1000000000)&&decide (aIp n=t) | none=>false
def aD8 (t:List UInt8):Int:=if aM3 t then (bEt t 0).getD 0 else 0
def bKc:Spec:=fun cs=>match cs with
 |[.int .i64 x]=>some (inB x 0 15,[.int .u8 (bWx x)])
 |_=>none
def bKo:Spec:=fun cs=>match cs with
 |[.int .i64 x]=>some (inB x 0 9223372036854775807,[.str (aIp x)])
 |_=>none
def aYz:Spec:=fun cs=>match cs with
 |[.str t]=>some (decide (t.length≤281474976710656),[.int .i64 (aD8 t),.bool (aM3 t)])
 |_=>none
def bXb:Env:=mkE [] []
def bZe (n:Int) (s:List UInt8):St:=st0 [(0,aB5 n),(3,.l (.b true)),(4,aYj s)]
def bH2 (n:Int) (s:List UInt8):St:=st0 [(0,aB5 n),(3,.l (.b false)),(4,aYj s)]
def bMo:Env:=mkE [(5,[0,3,4])] [(119,(sg [pI] [rU8]),bKc)]
def bW4 (t:List UInt8) (n i:Int):St:=st0 [(0,aYj t),(4,aB5 n),(5,aB5 i)]
def bW6:Env:=mkE [(5,[0,4,5])] [(98,(sg [pI] [rS]),bKo)]
def aL2 (c:UInt8):Bool:=inB (c.toNat:Int) 97 122||inB (c.toNat:Int) 48 57||decide ((c.toNat:Int)=46)||decide ((c.toNat:Int)=45)
def aBf (t:List UInt8):Bool:=t.all aL2&&inB t.length 1 20
def aGv:Spec:=fun cs=>match cs with
 |[.str t]=>some (decide (t.length≤281474976710656),[.bool (aBf t)])
 |_=>none
def aHj (t:List UInt8) (i:Int):St:=st0 [(0,aYj t),(3,aB5 i)]
def aQh:Env:=mkE [(2,[0,3])] [(74,(sg [pI,pI,pI] [rB]),aDo)]
abbrev dN:Nat:=16777216
def aRx (ns:List (List C)):Bool:=aAf kNd ns&&decide (ns.length≤dN)&&(nds ns).all fun x=>decide (x.text.length≤dN)
def aI7 (es:List (List C)):Bool:=aAf kEn es&&decide (es.length≤dN)&&(ens es).all fun x=>decide (x.name.length≤dN)
def bXl (ss:List (List C)):Bool:=aAf [.str] ss&&decide (ss.length≤dN)&&(aDa ss).all fun x=>decide (x.length≤dN)
def aCn (ns:List Nd):Nat:=(ns.map fun x=>x.text.length).sum
def aHn:Spec:=fun cs=>match cs with
 |[.sl ns,.sl _,.sl _,.sl _,.int .i64 _,.int .i64 _]=>some (aRx ns,[.int .i64 (aCn (nds ns))])
 |_=>none
def aWo (ns es os ss:List (List C)) (r x n i:Int):St:={slots:=[(1,.l (.ptr 0 0)),(3,aB5 n),(4,aB5 i)],heap:=[(0,aYg ns es os ss r x)],next:=1,pins:=[]}
def aWs:Env:=mkE [(3,[1,3,4])] []
def aIo (ns:List Nd):List En→Option (List UInt8)→Bool
 |[],_=>true
 |e::r,p=>aBf e.name&&decide (0≤aAt ns e.id)&&(match p with | none=>true | some q=>Op.bytesLess q e.name)&&aIo ns r (some e.name)
def aC3 (ns:List Nd) (l:List En):Bool:=aIo ns l none&&decide (l.length≤16)
def aFp:Spec:=fun cs=>match cs with
 |[.sl ns,.sl _,.sl _,.sl _,.int .i64 _,.int .i64 _,.sl l]=>some (aRx ns&&aI7 l,[.bool (aC3 (nds ns) (ens l))])
 |_=>none
def aIw (ns es os ss:List (List C)) (r x:Int) (l:List (List C)) (i:Int):St:={slots:=[(1,.l (.sl l)),(2,.l (.ptr 0 0)),(5,aB5 i)],heap:=[(0,aYg ns es os ss r x)],next:=1,pins:=[]}
def aN8:Env:=mkE [(2,[1,2,5])] [(36,(sg [aAy,pI] [rI]),aE9),(96,(sg [pS] [rB]),aGv)]
def aLz:Spec:=fun cs=>match cs with
 |[.sl a,.sl b]=>some (aI7 a&&aI7 b,[.bool (decide (ens a=ens b))])
 |_=>none
def bD6 (a b:List (List C)) (i:Int):St:=st0 [(0,.l (.sl a)),(1,.l (.sl b)),(5,aB5 i)]
def bD8:Env:=mkE [(4,[0,1,5])] []
def geB (a b:List UInt8):Bool:= !Op.bytesLess a b
def aEn (e:En):List En→Bool→List En
 |[],done=>if done then[]else[e]
 |x::r,done=>(if done then[]else if geB x.name e.name then[e]else[])++(if x.name=e.name then[]else[x])++aEn e r (done||geB x.name e.name)
def aSp (l:List En) (e:En):List En:=aEn e l false
def aDg (l:List En) (nm:List UInt8):List En:=l.filter fun x=> !decide (x.name=nm)
def aQj (l:List (List C)) (nm:List UInt8) (id:Int):List (List C):=(aSp (ens l) ⟨nm,id⟩).map eEn
def aCo (l:List (List C)) (nm:List UInt8):List (List C):=(aDg (ens l) nm).map eEn
def bIn:Spec:=fun cs=>match cs with
 |[.sl l,.str nm,.int .i64 id]=>some (aI7 l,[.sl (aQj l nm id)])
 |_=>none
def bCv:Spec:=fun cs=>match cs with
 |[.sl l,.str nm]=>some (aI7 l,[.sl (aCo l nm)])
 |_=>none
def aWp (l:List (List C)) (nm:List UInt8) (id:Int) (n:Nat) (o:List (List C)) (i:Int):St:={slots:=[(0,.l (.sl l)),(3,.l (.ptr 0 0)),(5,.l (.ref 1 0 n)),(6,.l (.b false)),(7,aB5 i)],heap:=[(0,.box [.s nm,.i .i64 id]),(1,.arr 2 o)],next:=2,pins:=[]}
def aRn (l:List (List C)) (nm:List UInt8) (id:Int) (n:Nat) (o:List (List C)) (i:Int):St:={slots:=[(0,.l (.sl l)),(3,.l (.ptr 0 0)),(5,.l (.ref 1 0 n)),(6,.l (.b true)),(7,aB5 i)],heap:=[(0,.box [.s nm,.i .i64 id]),(1,.arr 2 o)],next:=2,pins:=[]}
def aZs:Env:=mkE [(4,[0,3,5,6,7])] []
def aWq (l:List (List C)) (nm:List UInt8) (n:Nat) (o:List (List C)) (i:Int):St:=st1 [(0,.l (.sl l)),(1,aYj nm),(5,.l (.ref 0 0 n)),(6,aB5 i)] 2 o
def bD9:Env:=mkE [(3,[0,1,5,6])] []
def aB3 (s:List UInt8):Int:=((s.getD 0 0).toNat:Int)
def aL6 (c:UInt8):Bool:=decide (c.toNat=58)
def aIq (s:List UInt8):Int:=aD1 aL6 (s.drop 1) 1
def aDb (s:List UInt8):Bool:=decide (2≤s.length)&&(decide (aB3 s=43)||decide (aB3 s=45)||decide (aB3 s=62))
def aDz (s:List UInt8):List UInt8:=(s.take (aIq s).toNat).drop 1
def aDy (s:List UInt8):List UInt8:=s.drop ((aIq s).toNat+1)
def aAq (s:List UInt8):List UInt8:=if aDb s then (if aB3 s=45 then s.drop 1 else if aIq s<0 then[]else aDz s)else[]
def aNg (s:List UInt8):List UInt8:=if aDb s&&decide (aB3 s=62)&&decide (0≤aIq s)then aDy s else[]
def aOt (s:List UInt8):Int:=if aDb s&&decide (aB3 s=43)&&decide (0≤aIq s)then aD8 (aDy s)else 0
def aDc (s:List UInt8):Bool:=aDb s&&(decide (aB3 s=45)||decide (0≤aIq s)&&(if aB3 s=62 then aBf (aDy s)&& !decide (aDz s=aDy s)else aM3 (aDy s)&&aBf (aDz s)))
def bAe:Spec:=fun cs=>match cs with
 |[.str s]=>some (decide (s.length≤281474976710656),[.str (aAq s),.str (aNg s),.int .i64 (aOt s),.bool (aDc s)])
 |_=>none
def aLn (s:List UInt8) (i:Int):St:=st0 [(0,aYj s),(6,aB5 i)]
def aWt:Env:=mkE [(6,[0,6])] [(137,(sg [pS] [rI,rB]),aYz),(96,(sg [pS] [rB]),aGv)]
end
theorem bSc (H:List Pt→Nat→St→T (List C)) (x:Int):(aAi bXb aAa (sg [pI] [rU8]) Tryz.f119 H [C.int .i64 x]).eval=((.ask (decide (x<(10:Int))) (.ret [C.int .u8 (IntKind.u8.wrap (IntKind.i64.wrap ((48:Int)+x)))]) (.ret [C.int .u8 (IntKind.u8.wrap (IntKind.i64.wrap (IntKind.i64.wrap ((97:Int)+x)-(10:Int))))])):T (List C)).eval:=aAh (by kernel_rfl)
theorem bSp (H:List Pt→Nat→St→T (List C)) (x:Int):(aAi bMo aAa (sg [pI] [rS]) Tryz.f98 H [C.int .i64 x]).eval=((.ask (decide (x=(0:Int))) (.ret [C.str [(48:UInt8)]]) (.ask (decide (x<(0:Int))) (H [Pt.r,Pt.r,Pt.r,Pt.r,Pt.l,Pt.b] 9223372036854775808 (bZe (x) ([]))) (H [Pt.r,Pt.r,Pt.r,Pt.r,Pt.l,Pt.b] 9223372036854775808 (bH2 (x) ([]))))):T (List C)).eval:=aAh (by kernel_rfl)
theorem aWf (H:List Pt→Nat→St→T (List C)) (n:Int) (s:List UInt8) (k:Nat):(aB7 bMo aAa (sg [pI] [rS]) Tryz.f98 H [Pt.r,Pt.r,Pt.r,Pt.r,Pt.l,Pt.b] k (bH2 n s)).eval=((.ask (n != (0:Int)) (.ask (decide (n.tmod 10<(0:Int))) (.must (inB (IntKind.i64.wrap ((0:Int)-n.tmod 10)) (0:Int) (15:Int)) (.must (decide ((aC2 [[C.int .u8 (bWx (IntKind.i64.wrap ((0:Int)-n.tmod 10)))]]).length+s.length≤9223372036854775807)) (H [Pt.r,Pt.r,Pt.r,Pt.r,Pt.l,Pt.b] k (bH2 (IntKind.i64.wrap (n.tdiv 10)) (aC2 [[C.int .u8 (bWx (IntKind.i64.wrap ((0:Int)-n.tmod 10)))]]++s))))) (.must (inB (n.tmod 10) 0 15) (.must (decide ((aC2 [[C.int .u8 (bWx (n.tmod 10))]]).length+s.length≤9223372036854775807)) (H [Pt.r,Pt.r,Pt.r,Pt.r,Pt.l,Pt.b] k (bH2 (IntKind.i64.wrap (n.tdiv 10)) (aC2 [[C.int .u8 (bWx (n.tmod 10))]]++s)))))) (.ret [C.str s])):T (List C)).eval:=aAh (by kernel_rfl)
theorem bUb (H:List Pt→Nat→St→T (List C)) (t:List UInt8):(aAi bW6 aAa (sg [pS] [rI,rB]) Tryz.f137 H [C.str t]).eval=((.ask (decide ((10:Int)<(↑t.length:Int))) (.ret [C.int .i64 0,C.bool false]) (H [Pt.r,Pt.r,Pt.r,Pt.l,Pt.r,Pt.b] 9223372036854775808 (bW4 (t) ((0:Int)) ((0:Int))))):T (List C)).eval:=aAh (by kernel_rfl)
theorem bNr (H:List Pt→Nat→St→T (List C)) (t:List UInt8) (n:Int) (i:Int) (k:Nat):(aB7 bW6 aAa (sg [pS] [rI,rB]) Tryz.f137 H [Pt.r,Pt.r,Pt.r,Pt.l,Pt.r,Pt.b] k (bW4 t n i)).eval=((.ask (decide (i<(↑t.length:Int))) (.must (decide ((0:Int)≤i)&&decide (i<(↑t.length:Int))) (.ask (decide ((↑(t.getD i.toNat (0:UInt8)).toNat:Int)<(48:Int))) (.ret [C.int .i64 0,C.bool false]) (.must (decide ((0:Int)≤i)&&decide (i<(↑t.length:Int))) (.ask (decide ((57:Int)<(↑(t.getD i.toNat (0:UInt8)).toNat:Int))) (.ret [C.int .i64 0,C.bool false]) (.must (decide ((0:Int)≤i)&&decide (i<(↑t.length:Int))) (H [Pt.r,Pt.r,Pt.r,Pt.l,Pt.r,Pt.b] k (bW4 (t) (IntKind.i64.wrap (IntKind.i64.wrap (IntKind.i64.wrap ((10:Int)*n)+IntKind.i64.wrap (↑(t.getD i.toNat (0:UInt8)).toNat:Int))-(48:Int))) (IntKind.i64.wrap (i+(1:Int)))))))))) (.ask (decide ((1000000000:Int)<n)) (.ret [C.int .i64 0,C.bool false]) (.must (inB n 0 9223372036854775807) (.ask (!aIp n==t) (.ret [C.int .i64 0,C.bool false]) (.ret [C.int .i64 n,C.bool true]))))):T (List C)).eval:=aAh (by kernel_rfl)
theorem bEa (H:List Pt→Nat→St→T (List C)) (t:List UInt8):(aAi aQh aAa (sg [pS] [rB]) Tryz.f96 H [C.str t]).eval=((H [Pt.r,Pt.l,Pt.r,Pt.b] 9223372036854775808 (aHj (t) ((0:Int)))):T (List C)).eval:=aAh (by kernel_rfl)
theorem aXn (H:List Pt→Nat→St→T (List C)) (t:List UInt8) (i:Int) (k:Nat):(aB7 aQh aAa (sg [pS] [rB]) Tryz.f96 H [Pt.r,Pt.l,Pt.r,Pt.b] k (aHj t i)).eval=((.ask (decide (i<(↑t.length:Int))) (.must (decide ((0:Int)≤i)&&decide (i<(↑t.length:Int))) (.ask (inB (IntKind.i64.wrap (↑(t.getD i.toNat (0:UInt8)).toNat:Int)) (97:Int) (122:Int)) (H [Pt.r,Pt.l,Pt.r,Pt.b] k (aHj (t) (IntKind.i64.wrap (i+(1:Int))))) (.ask (inB (IntKind.i64.wrap (↑(t.getD i.toNat (0:UInt8)).toNat:Int)) (48:Int) (57:Int)) (H [Pt.r,Pt.l,Pt.r,Pt.b] k (aHj (t) (IntKind.i64.wrap (i+(1:Int))))) (.ask (IntKind.i64.wrap (↑(t.getD i.toNat (0:UInt8)).toNat:Int) != (46:Int)) (.ask (IntKind.i64.wrap (↑(t.getD i.toNat (0:UInt8)).toNat:Int) != (45:Int)) (.ret [C.bool false]) (H [Pt.r,Pt.l,Pt.r,Pt.b] k (aHj (t) (IntKind.i64.wrap (i+(1:Int)))))) (H [Pt.r,Pt.l,Pt.r,Pt.b] k (aHj (t) (IntKind.i64.wrap (i+(1:Int))))))))) (.ask (inB (↑t.length:Int) 1 20) (.ret [C.bool true]) (.ret [C.bool false]))):T (List C)).eval:=aAh (by kernel_rfl)
theorem bN2 (H:List Pt→Nat→St→T (List C)) (ns:List (List C)) (es:List (List C)) (os:List (List C)) (ss:List (List C)) (r:Int) (x:Int):(aAi aWs aAa (sg [aAy] [rI]) Tryz.f35 H [C.sl ns,C.sl es,C.sl os,C.sl ss,C.int .i64 r,C.int .i64 x]).eval=((H [Pt.r,Pt.r,Pt.l,Pt.r,Pt.b] 9223372036854775808 (aWo (ns) (es) (os) (ss) (r) (x) ((0:Int)) ((0:Int)))):T (List C)).eval:=aAh (by kernel_rfl)
theorem bDx (H:List Pt→Nat→St→T (List C)) (ns:List (List C)) (es:List (List C)) (os:List (List C)) (ss:List (List C)) (r:Int) (x:Int) (n:Int) (i:Int) (k:Nat):(aB7 aWs aAa (sg [aAy] [rI]) Tryz.f35 H [Pt.r,Pt.r,Pt.l,Pt.r,Pt.b] k (aWo ns es os ss r x n i)).eval=((.ask (decide (i<(↑ns.length:Int))) (.must (decide ((0:Int)≤i)&&decide (i<(↑ns.length:Int))&&decide ((ns.getD i.toNat []).length=3)) (.must (decide (0+1<(ns.getD i.toNat []).length)&&C.is K.str ((ns.getD i.toNat []).getD (0+1) (C.fn 0 []))&&true) (H [Pt.r,Pt.r,Pt.l,Pt.r,Pt.b] k (aWo (ns) (es) (os) (ss) (r) (x) (IntKind.i64.wrap (n+(↑((ns.getD i.toNat []).getD (0+1) (C.fn 0 [])).toStr.length:Int))) (IntKind.i64.wrap (i+(1:Int))))))) (.ret [C.int .i64 n])):T (List C)).eval:=aAh (by kernel_rfl)
theorem bAy (H:List Pt→Nat→St→T (List C)) (ns:List (List C)) (es:List (List C)) (os:List (List C)) (ss:List (List C)) (r:Int) (x:Int) (l:List (List C)):(aAi aN8 aAa (sg [aAy,pSl 92] [rB]) Tryz.f76 H [C.sl ns,C.sl es,C.sl os,C.sl ss,C.int .i64 r,C.int .i64 x,C.sl l]).eval=((H [Pt.r,Pt.l,Pt.r,Pt.b] 9223372036854775808 (aIw (ns) (es) (os) (ss) (r) (x) (l) ((0:Int)))):T (List C)).eval:=aAh (by kernel_rfl)
theorem aV0 (H:List Pt→Nat→St→T (List C)) (ns:List (List C)) (es:List (List C)) (os:List (List C)) (ss:List (List C)) (r:Int) (x:Int) (l:List (List C)) (i:Int) (k:Nat):(aB7 aN8 aAa (sg [aAy,pSl 92] [rB]) Tryz.f76 H [Pt.r,Pt.l,Pt.r,Pt.b] k (aIw ns es os ss r x l i)).eval=((.ask (decide (i<(↑l.length:Int))) (.must (decide ((0:Int)≤i)&&decide (i<(↑l.length:Int))&&decide ((l.getD i.toNat []).length=2)) (.must (decide (0+0<(l.getD i.toNat []).length)&&C.is K.str ((l.getD i.toNat []).getD (0+0) (C.fn 0 []))&&true) (.must (decide (((l.getD i.toNat []).getD (0+0) (C.fn 0 [])).toStr.length≤281474976710656)) (.ask (aBf ((l.getD i.toNat []).getD (0+0) (C.fn 0 [])).toStr) (.must (decide ((0:Int)≤i)&&decide (i<(↑l.length:Int))&&decide ((l.getD i.toNat []).length=2)) (.must (decide (0+1<(l.getD i.toNat []).length)&&C.is (K.int .i64) ((l.getD i.toNat []).getD (0+1) (C.fn 0 []))&&true) (.must (decide (ns.length≤aHh)&&aAf [K.int .i64,K.str,K.int .i64] ns) (.ask (decide (aAt (nds ns) ((l.getD i.toNat []).getD (0+1) (C.fn 0 [])).toInt<(0:Int))) (.ret [C.bool false]) (.ask (decide ((0:Int)<i)) (.must (decide ((0:Int)≤IntKind.i64.wrap (i-(1:Int)))&&decide (IntKind.i64.wrap (i-(1:Int))<(↑l.length:Int))&&decide ((l.getD (IntKind.i64.wrap (i-(1:Int))).toNat []).length=2)) (.must (decide (0+0<(l.getD (IntKind.i64.wrap (i-(1:Int))).toNat []).length)&&C.is K.str ((l.getD (IntKind.i64.wrap (i-(1:Int))).toNat []).getD (0+0) (C.fn 0 []))&&true) (.must (decide ((0:Int)≤i)&&decide (i<(↑l.length:Int))&&decide ((l.getD i.toNat []).length=2)) (.must (decide (0+0<(l.getD i.toNat []).length)&&C.is K.str ((l.getD i.toNat []).getD (0+0) (C.fn 0 []))&&true) (.ask (!Op.bytesLess ((l.getD (IntKind.i64.wrap (i-(1:Int))).toNat []).getD (0+0) (C.fn 0 [])).toStr ((l.getD i.toNat []).getD (0+0) (C.fn 0 [])).toStr) (.ret [C.bool false]) (H [Pt.r,Pt.l,Pt.r,Pt.b] k (aIw (ns) (es) (os) (ss) (r) (x) (l) (IntKind.i64.wrap (i+(1:Int)))))))))) (H [Pt.r,Pt.l,Pt.r,Pt.b] k (aIw (ns) (es) (os) (ss) (r) (x) (l) (IntKind.i64.wrap (i+(1:Int)))))))))) (.ret [C.bool false]))))) (.ask (decide ((↑l.length:Int)≤(16:Int))) (.ret [C.bool true]) (.ret [C.bool false]))):T (List C)).eval:=aAh (by kernel_rfl)
theorem bN8 (H:List Pt→Nat→St→T (List C)) (a:List (List C)) (b:List (List C)):(aAi bD8 aAa (sg [pSl 92,pSl 92] [rB]) Tryz.f77 H [C.sl a,C.sl b]).eval=((.ask ((↑a.length:Int) != (↑b.length:Int)) (.ret [C.bool false]) (H [Pt.r,Pt.r,Pt.l,Pt.r,Pt.b] 9223372036854775808 (bD6 (a) (b) ((0:Int))))):T (List C)).eval:=aAh (by kernel_rfl)
theorem bE1 (H:List Pt→Nat→St→T (List C)) (a:List (List C)) (b:List (List C)) (i:Int) (k:Nat):(aB7 bD8 aAa (sg [pSl 92,pSl 92] [rB]) Tryz.f77 H [Pt.r,Pt.r,Pt.l,Pt.r,Pt.b] k (bD6 a b i)).eval=((.ask (decide (i<(↑a.length:Int))) (.must (decide ((0:Int)≤i)&&decide (i<(↑a.length:Int))&&decide ((a.getD i.toNat []).length=2)) (.must (decide (0<(a.getD i.toNat []).length)&&C.is K.str ((a.getD i.toNat []).getD 0 (C.fn 0 []))&&(decide (0+1<(a.getD i.toNat []).length)&&C.is (K.int .i64) ((a.getD i.toNat []).getD (0+1) (C.fn 0 []))&&true)) (.must (decide ((0:Int)≤i)&&decide (i<(↑b.length:Int))&&decide ((b.getD i.toNat []).length=2)) (.must (decide (0<(b.getD i.toNat []).length)&&C.is K.str ((b.getD i.toNat []).getD 0 (C.fn 0 []))&&(decide (0+1<(b.getD i.toNat []).length)&&C.is (K.int .i64) ((b.getD i.toNat []).getD (0+1) (C.fn 0 []))&&true)) (.ask (!(((a.getD i.toNat []).getD 0 (C.fn 0 [])).toStr==((b.getD i.toNat []).getD 0 (C.fn 0 [])).toStr&&(decide (((a.getD i.toNat []).getD (0+1) (C.fn 0 [])).toInt=((b.getD i.toNat []).getD (0+1) (C.fn 0 [])).toInt)&&true))) (.ret [C.bool false]) (H [Pt.r,Pt.r,Pt.l,Pt.r,Pt.b] k (bD6 (a) (b) (IntKind.i64.wrap (i+(1:Int)))))))))) (.ret [C.bool true])):T (List C)).eval:=aAh (by kernel_rfl)
theorem bQ7 (H:List Pt→Nat→St→T (List C)) (l:List (List C)) (nm:List UInt8) (id:Int):(aAi aZs aAa (sg [pSl 92,aDe] [rSl 92]) Tryz.f97 H [C.sl l,C.str nm,C.int .i64 id]).eval=((H [Pt.r,Pt.r,Pt.r,Pt.l,Pt.r,Pt.b] 9223372036854775808 (aWp (l) (nm) (id) (0) ([]) ((0:Int)))):T (List C)).eval:=aAh (by kernel_rfl)
theorem bE6 (H:List Pt→Nat→St→T (List C)) (l:List (List C)) (nm:List UInt8) (id:Int) (n:Nat) (o:List (List C)) (i:Int) (k:Nat):(aB7 aZs aAa (sg [pSl 92,aDe] [rSl 92]) Tryz.f97 H [Pt.r,Pt.r,Pt.r,Pt.l,Pt.r,Pt.b] k (aWp l nm id n o i)).eval=((.ask (decide (i<(↑l.length:Int))) (.must (decide ((0:Int)≤i)&&decide (i<(↑l.length:Int))&&decide ((l.getD i.toNat []).length=2)) (.must (decide (0+0<(l.getD i.toNat []).length)&&C.is K.str ((l.getD i.toNat []).getD (0+0) (C.fn 0 []))&&true) (.ask (!Op.bytesLess ((l.getD i.toNat []).getD (0+0) (C.fn 0 [])).toStr nm) (.must (decide (n=o.length)&&aBc (o.length+1) 24&&(decide ((Nat.add 1 0).succ=2)&&true)) (.must (decide ((0:Int)≤i)&&decide (i<(↑l.length:Int))&&decide ((l.getD i.toNat []).length=2)) (.must (decide (0+0<(l.getD i.toNat []).length)&&C.is K.str ((l.getD i.toNat []).getD (0+0) (C.fn 0 []))&&true) (.ask (!((l.getD i.toNat []).getD (0+0) (C.fn 0 [])).toStr==nm) (.must (decide ((0:Int)≤i)&&decide (i<(↑l.length:Int))&&decide ((l.getD i.toNat []).length=2)) (.must (decide (0<(l.getD i.toNat []).length)&&C.is K.str ((l.getD i.toNat []).getD 0 (C.fn 0 []))&&(decide (0+1<(l.getD i.toNat []).length)&&C.is (K.int .i64) ((l.getD i.toNat []).getD (0+1) (C.fn 0 []))&&true)) (.must (decide (o.length+1=(o.append [[C.str nm,C.int .i64 id]]).length)&&aBc ((o.append [[C.str nm,C.int .i64 id]]).length+1) 24&&(decide ((Nat.add 1 0).succ=2)&&true)) (H [Pt.r,Pt.r,Pt.r,Pt.l,Pt.r,Pt.b] k (aRn (l) (nm) (id) ((o.append [[C.str nm,C.int .i64 id]]).length+1) ((o.append [[C.str nm,C.int .i64 id]]).append [[C.str ((l.getD i.toNat []).getD 0 (C.fn 0 [])).toStr,C.int .i64 ((l.getD i.toNat []).getD (0+1) (C.fn 0 [])).toInt]]) (IntKind.i64.wrap (i+(1:Int)))))))) (H [Pt.r,Pt.r,Pt.r,Pt.l,Pt.r,Pt.b] k (aRn (l) (nm) (id) (o.length+1) (o.append [[C.str nm,C.int .i64 id]]) (IntKind.i64.wrap (i+(1:Int))))))))) (.must (decide ((0:Int)≤i)&&decide (i<(↑l.length:Int))&&decide ((l.getD i.toNat []).length=2)) (.must (decide (0+0<(l.getD i.toNat []).length)&&C.is K.str ((l.getD i.toNat []).getD (0+0) (C.fn 0 []))&&true) (.ask (!((l.getD i.toNat []).getD (0+0) (C.fn 0 [])).toStr==nm) (.must (decide ((0:Int)≤i)&&decide (i<(↑l.length:Int))&&decide ((l.getD i.toNat []).length=2)) (.must (decide (0<(l.getD i.toNat []).length)&&C.is K.str ((l.getD i.toNat []).getD 0 (C.fn 0 []))&&(decide (0+1<(l.getD i.toNat []).length)&&C.is (K.int .i64) ((l.getD i.toNat []).getD (0+1) (C.fn 0 []))&&true)) (.must (decide (n=o.length)&&aBc (o.length+1) 24&&(decide ((Nat.add 1 0).succ=2)&&true)) (H [Pt.r,Pt.r,Pt.r,Pt.l,Pt.r,Pt.b] k (aWp (l) (nm) (id) (o.length+1) (o.append [[C.str ((l.getD i.toNat []).getD 0 (C.fn 0 [])).toStr,C.int .i64 ((l.getD i.toNat []).getD (0+1) (C.fn 0 [])).toInt]]) (IntKind.i64.wrap (i+(1:Int)))))))) (H [Pt.r,Pt.r,Pt.r,Pt.l,Pt.r,Pt.b] k (aWp (l) (nm) (id) (n) (o) (IntKind.i64.wrap (i+(1:Int))))))))))) (.must (decide (n=o.length)&&aBc (o.length+1) 24&&(decide ((Nat.add 1 0).succ=2)&&true)) (.must (decide (o.length+1=(o.append [[C.str nm,C.int .i64 id]]).length)&&(false||(o.append [[C.str nm,C.int .i64 id]]).all fun r=>r.all C.flat)&&true&&true&&true) (.ret [C.sl (o.append [[C.str nm,C.int .i64 id]])])))):T (List C)).eval:=aAh (by kernel_rfl)
theorem bE5 (H:List Pt→Nat→St→T (List C)) (l:List (List C)) (nm:List UInt8) (id:Int) (n:Nat) (o:List (List C)) (i:Int) (k:Nat):(aB7 aZs aAa (sg [pSl 92,aDe] [rSl 92]) Tryz.f97 H [Pt.r,Pt.r,Pt.r,Pt.l,Pt.r,Pt.b] k (aRn l nm id n o i)).eval=((.ask (decide (i<(↑l.length:Int))) (.must (decide ((0:Int)≤i)&&decide (i<(↑l.length:Int))&&decide ((l.getD i.toNat []).length=2)) (.must (decide (0+0<(l.getD i.toNat []).length)&&C.is K.str ((l.getD i.toNat []).getD (0+0) (C.fn 0 []))&&true) (.ask (!((l.getD i.toNat []).getD (0+0) (C.fn 0 [])).toStr==nm) (.must (decide ((0:Int)≤i)&&decide (i<(↑l.length:Int))&&decide ((l.getD i.toNat []).length=2)) (.must (decide (0<(l.getD i.toNat []).length)&&C.is K.str ((l.getD i.toNat []).getD 0 (C.fn 0 []))&&(decide (0+1<(l.getD i.toNat []).length)&&C.is (K.int .i64) ((l.getD i.toNat []).getD (0+1) (C.fn 0 []))&&true)) (.must (decide (n=o.length)&&aBc (o.length+1) 24&&(decide ((Nat.add 1 0).succ=2)&&true)) (H [Pt.r,Pt.r,Pt.r,Pt.l,Pt.r,Pt.b] k (aRn (l) (nm) (id) (o.length+1) (o.append [[C.str ((l.getD i.toNat []).getD 0 (C.fn 0 [])).toStr,C.int .i64 ((l.getD i.toNat []).getD (0+1) (C.fn 0 [])).toInt]]) (IntKind.i64.wrap (i+(1:Int)))))))) (H [Pt.r,Pt.r,Pt.r,Pt.l,Pt.r,Pt.b] k (aRn (l) (nm) (id) (n) (o) (IntKind.i64.wrap (i+(1:Int)))))))) (.must (decide (n=o.length)&&(false||o.all fun r=>r.all C.flat)&&true&&true&&true) (.ret [C.sl o]))):T (List C)).eval:=aAh (by kernel_rfl)
theorem bNi (H:List Pt→Nat→St→T (List C)) (l:List (List C)) (nm:List UInt8):(aAi bD9 aAa (sg [pSl 92,pS] [rSl 92]) Tryz.f94 H [C.sl l,C.str nm]).eval=((H [Pt.r,Pt.r,Pt.l,Pt.r,Pt.b] 9223372036854775808 (aWq (l) (nm) (0) ([]) ((0:Int)))):T (List C)).eval:=aAh (by kernel_rfl)
theorem bEi (H:List Pt→Nat→St→T (List C)) (l:List (List C)) (nm:List UInt8) (n:Nat) (o:List (List C)) (i:Int) (k:Nat):(aB7 bD9 aAa (sg [pSl 92,pS] [rSl 92]) Tryz.f94 H [Pt.r,Pt.r,Pt.l,Pt.r,Pt.b] k (aWq l nm n o i)).eval=((.ask (decide (i<(↑l.length:Int))) (.must (decide ((0:Int)≤i)&&decide (i<(↑l.length:Int))&&decide ((l.getD i.toNat []).length=2)) (.must (decide (0+0<(l.getD i.toNat []).length)&&C.is K.str ((l.getD i.toNat []).getD (0+0) (C.fn 0 []))&&true) (.ask (!((l.getD i.toNat []).getD (0+0) (C.fn 0 [])).toStr==nm) (.must (decide ((0:Int)≤i)&&decide (i<(↑l.length:Int))&&decide ((l.getD i.toNat []).length=2)) (.must (decide (0<(l.getD i.toNat []).length)&&C.is K.str ((l.getD i.toNat []).getD 0 (C.fn 0 []))&&(decide (0+1<(l.getD i.toNat []).length)&&C.is (K.int .i64) ((l.getD i.toNat []).getD (0+1) (C.fn 0 []))&&true)) (.must (decide (n=o.length)&&aBc (o.length+1) 24&&(decide ((Nat.add 1 0).succ=2)&&true)) (H [Pt.r,Pt.r,Pt.l,Pt.r,Pt.b] k (aWq (l) (nm) (o.length+1) (o.append [[C.str ((l.getD i.toNat []).getD 0 (C.fn 0 [])).toStr,C.int .i64 ((l.getD i.toNat []).getD (0+1) (C.fn 0 [])).toInt]]) (IntKind.i64.wrap (i+(1:Int)))))))) (H [Pt.r,Pt.r,Pt.l,Pt.r,Pt.b] k (aWq (l) (nm) (n) (o) (IntKind.i64.wrap (i+(1:Int)))))))) (.must (decide (n=o.length)&&(false||o.all fun r=>r.all C.flat)&&true&&true&&true) (.ret [C.sl o]))):T (List C)).eval:=aAh (by kernel_rfl)
theorem bN6 (H:List Pt→Nat→St→T (List C)) (s:List UInt8):(aAi aWt aAa (sg [pS] [rS,rS,rI,rB]) Tryz.f109 H [C.str s]).eval=((.ask (decide ((↑s.length:Int)<(2:Int))) (.ret [C.str [],C.str [],C.int .i64 0,C.bool false]) (.must (decide ((0:Int)≤(0:Int))&&decide ((0:Int)<(↑s.length:Int))) (.ask ((↑(s.getD (Int.toNat 0) (0:UInt8)).toNat:Int) != (43:Int)) (.must (decide ((0:Int)≤(0:Int))&&decide ((0:Int)<(↑s.length:Int))) (.ask ((↑(s.getD (Int.toNat 0) (0:UInt8)).toNat:Int) != (45:Int)) (.must (decide ((0:Int)≤(0:Int))&&decide ((0:Int)<(↑s.length:Int))) (.ask ((↑(s.getD (Int.toNat 0) (0:UInt8)).toNat:Int) != (62:Int)) (.ret [C.str [],C.str [],C.int .i64 0,C.bool false]) (.must (decide ((0:Int)≤(0:Int))&&decide ((0:Int)<(↑s.length:Int))) (.ask (decide ((↑(s.getD (Int.toNat 0) (0:UInt8)).toNat:Int)=(45:Int))) (.must (decide ((0:Int)≤(1:Int))&&decide ((1:Int)≤(↑s.length:Int))) (.ret [C.str (List.drop (Int.toNat 1) (List.take s.length s)),C.str [],C.int .i64 0,C.bool true])) (H [Pt.r,Pt.r,Pt.r,Pt.l,Pt.r,Pt.b] 9223372036854775808 (aLn (s) ((1:Int)))))))) (.must (decide ((0:Int)≤(0:Int))&&decide ((0:Int)<(↑s.length:Int))) (.ask (decide ((↑(s.getD (Int.toNat 0) (0:UInt8)).toNat:Int)=(45:Int))) (.must (decide ((0:Int)≤(1:Int))&&decide ((1:Int)≤(↑s.length:Int))) (.ret [C.str (List.drop (Int.toNat 1) (List.take s.length s)),C.str [],C.int .i64 0,C.bool true])) (H [Pt.r,Pt.r,Pt.r,Pt.l,Pt.r,Pt.b] 9223372036854775808 (aLn (s) ((1:Int)))))))) (.must (decide ((0:Int)≤(0:Int))&&decide ((0:Int)<(↑s.length:Int))) (.ask (decide ((↑(s.getD (Int.toNat 0) (0:UInt8)).toNat:Int)=(45:Int))) (.must (decide ((0:Int)≤(1:Int))&&decide ((1:Int)≤(↑s.length:Int))) (.ret [C.str (List.drop (Int.toNat 1) (List.take s.length s)),C.str [],C.int .i64 0,C.bool true])) (H [Pt.r,Pt.r,Pt.r,Pt.l,Pt.r,Pt.b] 9223372036854775808 (aLn (s) ((1:Int))))))))):T (List C)).eval:=aAh (by kernel_rfl)
theorem bE0 (H:List Pt→Nat→St→T (List C)) (s:List UInt8) (i:Int) (k:Nat):(aB7 aWt aAa (sg [pS] [rS,rS,rI,rB]) Tryz.f109 H [Pt.r,Pt.r,Pt.r,Pt.l,Pt.r,Pt.b] k (aLn s i)).eval=((.ask (decide (i<(↑s.length:Int))) (.must (decide ((0:Int)≤i)&&decide (i<(↑s.length:Int))) (.ask (decide ((↑(s.getD i.toNat (0:UInt8)).toNat:Int)=(58:Int))) (.must (decide ((0:Int)≤(0:Int))&&decide ((0:Int)<(↑s.length:Int))) (.ask (decide ((↑(s.getD (Int.toNat 0) (0:UInt8)).toNat:Int)=(62:Int))) (.must (decide ((0:Int)≤i)&&decide (i≤(↑s.length:Int))&&(decide ((0:Int)≤(1:Int))&&decide ((1:Int)≤i))) (.must (decide ((0:Int)≤IntKind.i64.wrap (i+(1:Int)))&&decide (IntKind.i64.wrap (i+(1:Int))≤(↑s.length:Int))) (.must (decide ((0:Int)≤IntKind.i64.wrap (i+(1:Int)))&&decide (IntKind.i64.wrap (i+(1:Int))≤(↑s.length:Int))) (.must (decide ((List.drop (IntKind.i64.wrap (i+(1:Int))).toNat (List.take s.length s)).length≤281474976710656)) (.ask (aBf (List.drop (IntKind.i64.wrap (i+(1:Int))).toNat (List.take s.length s))) (.must (decide ((0:Int)≤i)&&decide (i≤(↑s.length:Int))&&(decide ((0:Int)≤(1:Int))&&decide ((1:Int)≤i))) (.must (decide ((0:Int)≤IntKind.i64.wrap (i+(1:Int)))&&decide (IntKind.i64.wrap (i+(1:Int))≤(↑s.length:Int))) (.ask (!List.drop (Int.toNat 1) (List.take i.toNat s)==List.drop (IntKind.i64.wrap (i+(1:Int))).toNat (List.take s.length s)) (.ret [C.str (List.drop (Int.toNat 1) (List.take i.toNat s)),C.str (List.drop (IntKind.i64.wrap (i+(1:Int))).toNat (List.take s.length s)),C.int .i64 0,C.bool true]) (.ret [C.str (List.drop (Int.toNat 1) (List.take i.toNat s)),C.str (List.drop (IntKind.i64.wrap (i+(1:Int))).toNat (List.take s.length s)),C.int .i64 0,C.bool false])))) (.ret [C.str (List.drop (Int.toNat 1) (List.take i.toNat s)),C.str (List.drop (IntKind.i64.wrap (i+(1:Int))).toNat (List.take s.length s)),C.int .i64 0,C.bool false])))))) (.must (decide ((0:Int)≤i)&&decide (i<(↑s.length:Int))) (.ask (decide ((↑(s.getD i.toNat (0:UInt8)).toNat:Int)=(58:Int))) (.must (decide ((0:Int)≤IntKind.i64.wrap (i+(1:Int)))&&decide (IntKind.i64.wrap (i+(1:Int))≤(↑s.length:Int))) (.must (decide ((List.drop (IntKind.i64.wrap (i+(1:Int))).toNat (List.take s.length s)).length≤281474976710656)) (.ask (aM3 (List.drop (IntKind.i64.wrap (i+(1:Int))).toNat (List.take s.length s))) (.must (decide ((0:Int)≤i)&&decide (i≤(↑s.length:Int))&&(decide ((0:Int)≤(1:Int))&&decide ((1:Int)≤i))) (.must (decide ((0:Int)≤i)&&decide (i≤(↑s.length:Int))&&(decide ((0:Int)≤(1:Int))&&decide ((1:Int)≤i))) (.must (decide ((List.drop (Int.toNat 1) (List.take i.toNat s)).length≤281474976710656)) (.ask (aBf (List.drop (Int.toNat 1) (List.take i.toNat s))) (.ret [C.str (List.drop (Int.toNat 1) (List.take i.toNat s)),C.str [],C.int .i64 (aD8 (List.drop (IntKind.i64.wrap (i+(1:Int))).toNat (List.take s.length s))),C.bool true]) (.ret [C.str (List.drop (Int.toNat 1) (List.take i.toNat s)),C.str [],C.int .i64 (aD8 (List.drop (IntKind.i64.wrap (i+(1:Int))).toNat (List.take s.length s))),C.bool false]))))) (.must (decide ((0:Int)≤i)&&decide (i≤(↑s.length:Int))&&(decide ((0:Int)≤(1:Int))&&decide ((1:Int)≤i))) (.ret [C.str (List.drop (Int.toNat 1) (List.take i.toNat s)),C.str [],C.int .i64 (aD8 (List.drop (IntKind.i64.wrap (i+(1:Int))).toNat (List.take s.length s))),C.bool false]))))) (H [Pt.r,Pt.r,Pt.r,Pt.l,Pt.r,Pt.b] k (aLn (s) (IntKind.i64.wrap (i+(1:Int))))))))) (.must (decide ((0:Int)≤i)&&decide (i<(↑s.length:Int))) (.ask (decide ((↑(s.getD i.toNat (0:UInt8)).toNat:Int)=(58:Int))) (.must (decide ((0:Int)≤IntKind.i64.wrap (i+(1:Int)))&&decide (IntKind.i64.wrap (i+(1:Int))≤(↑s.length:Int))) (.must (decide ((List.drop (IntKind.i64.wrap (i+(1:Int))).toNat (List.take s.length s)).length≤281474976710656)) (.ask (aM3 (List.drop (IntKind.i64.wrap (i+(1:Int))).toNat (List.take s.length s))) (.must (decide ((0:Int)≤i)&&decide (i≤(↑s.length:Int))&&(decide ((0:Int)≤(1:Int))&&decide ((1:Int)≤i))) (.must (decide ((0:Int)≤i)&&decide (i≤(↑s.length:Int))&&(decide ((0:Int)≤(1:Int))&&decide ((1:Int)≤i))) (.must (decide ((List.drop (Int.toNat 1) (List.take i.toNat s)).length≤281474976710656)) (.ask (aBf (List.drop (Int.toNat 1) (List.take i.toNat s))) (.ret [C.str (List.drop (Int.toNat 1) (List.take i.toNat s)),C.str [],C.int .i64 (aD8 (List.drop (IntKind.i64.wrap (i+(1:Int))).toNat (List.take s.length s))),C.bool true]) (.ret [C.str (List.drop (Int.toNat 1) (List.take i.toNat s)),C.str [],C.int .i64 (aD8 (List.drop (IntKind.i64.wrap (i+(1:Int))).toNat (List.take s.length s))),C.bool false]))))) (.must (decide ((0:Int)≤i)&&decide (i≤(↑s.length:Int))&&(decide ((0:Int)≤(1:Int))&&decide ((1:Int)≤i))) (.ret [C.str (List.drop (Int.toNat 1) (List.take i.toNat s)),C.str [],C.int .i64 (aD8 (List.drop (IntKind.i64.wrap (i+(1:Int))).toNat (List.take s.length s))),C.bool false]))))) (H [Pt.r,Pt.r,Pt.r,Pt.l,Pt.r,Pt.b] k (aLn (s) (IntKind.i64.wrap (i+(1:Int))))))))) (.ret [C.str [],C.str [],C.int .i64 0,C.bool false])):T (List C)).eval:=aAh (by kernel_rfl)
theorem cAp:aA8 Tryz.prog bXb:=aA6 (by simp[])
theorem bOy:aAs Tryz.prog 119 (sg [pI] [rU8]) bKc:=aA5 cAp aA9 Tryz.func119 (by kernel_rfl) fun cs outs hk h=>by
 unfold bKc at h
 split at h
 ·simp only[Option.some.injEq,Prod.mk.injEq,aBr]at h
  obtain⟨h1,rfl⟩:=h
  rename_i x
  rw[aAb,bSc]
  unfold bWx
  by_cases c:x<10
  ·have w:IntKind.u8.wrap (IntKind.i64.wrap (48+x))=48+x:=by rw[aAg,aOv]<;>omega
   rw[if_pos c,w]
   exact aAc (decide_eq_true c) rfl
  ·have w:IntKind.u8.wrap (IntKind.i64.wrap (IntKind.i64.wrap (97+x)-10))=87+x:=by
    have a:IntKind.i64.wrap (97+x)=97+x:=by rw[aAg]<;>omega
    rw[a,aAg,aOv]<;>omega
   rw[if_neg c,w]
   exact aAj (decide_eq_false c) rfl
 ·cases h
theorem bZ5 (n:Nat):aC2 [[C.int .u8 (bWx ((n % 10:Nat):Int))]]=[cAq (n % 10)]:=by
 have h:((n % 10:Nat):Int)<10:=by omega
 unfold bWx cAq
 rw[if_pos h]
 show[UInt8.ofNat (48+((n % 10:Nat):Int)).toNat]=_
 have e:(48+((n % 10:Nat):Int)).toNat=48+n % 10:=by omega
 rw[e]
theorem bSq:∀ (f N n:Nat) (s:List UInt8),n<10^f→n≤9223372036854775807→f<N→s.length+f≤100 →
  (aBh bMo aAa (sg [pI] [rS]) Tryz.f98 [.r,.r,.r,.r,.l,.b] N (bH2 n s)).eval=some [.str (bGu f n s)]:=by
 intro f
 induction f with
 |zero =>
  intro N n s h1 h0 h2 h3
  obtain⟨N,rfl⟩:∃ q,N=q+1:=⟨N-1,by omega⟩
  have:n=0:=by simpa using h1
  subst this
  rw[aAv _ _ _ _ _ _ _ (by kernel_rfl),aWf]
  exact aAj rfl rfl
 |succ f ih =>
  intro N n s h1 h0 h2 h3
  obtain⟨N,rfl⟩:∃ q,N=q+1:=⟨N-1,by omega⟩
  rw[aAv _ _ _ _ _ _ _ (by kernel_rfl),aWf]
  by_cases hn:n=0
  ·subst hn
   exact aAj rfl rfl
  ·have m1:(n:Int).tmod 10=((n % 10:Nat):Int):=by rw[Int.tmod_eq_emod_of_nonneg (by omega)];omega
   have m2:(n:Int).tdiv 10=((n / 10:Nat):Int):=by rw[Int.tdiv_eq_ediv_of_nonneg (by omega)];omega
   have w:IntKind.i64.wrap ((n / 10:Nat):Int)=((n / 10:Nat):Int):=by rw[aAg]<;>omega
   have hi:inB ((n % 10:Nat):Int) 0 15=true:=by rw[aBr];omega
   have hd:n / 10<10^f:=by rw[Nat.div_lt_iff_lt_mul (by omega)];rw[Nat.pow_succ]at h1;exact h1
   have e:=ih N (n / 10) (cAq (n % 10)::s) hd (by omega) (by omega) (by simp;omega)
   rw[m1,m2,w,bZ5]
   unfold bGu
   rw[if_neg hn]
   exact aAc (by simp;omega) (aAj (decide_eq_false (by omega)) (aA7 hi (aA7 (decide_eq_true (by simp;omega)) e)))
theorem cAz:aA8 Tryz.prog bMo:=aA6 (by simp[bOy])
theorem bP5:aAs Tryz.prog 98 (sg [pI] [rS]) bKo:=aA5 cAz aA9 Tryz.func98 (by kernel_rfl) fun cs outs hk h=>by
 unfold bKo at h
 split at h
 ·simp only[Option.some.injEq,Prod.mk.injEq,aBr]at h
  obtain⟨h1,rfl⟩:=h
  rename_i x
  obtain⟨n,rfl⟩:=Int.eq_ofNat_of_zero_le h1.1
  rw[aAb,bSp]
  unfold aIp
  by_cases c:(n:Int)=0
  ·rw[if_pos c]
   exact aAc (decide_eq_true c) rfl
  ·rw[if_neg c]
   refine aAj (decide_eq_false c) (aAj (decide_eq_false (by omega)) ?_)
   exact bSq 20 9223372036854775808 n [] (by omega) (by omega) (by omega) (by simp)
 ·cases h
theorem bQo {t:List UInt8} (h:bEt t 0=none):aM3 t=false∧aD8 t=0:=by
 have:aM3 t=false:=by unfold aM3;rw[h];simp
 exact⟨this,by unfold aD8;rw[this];rfl⟩
theorem bUc (t:List UInt8) (ht:t.length≤10):∀ (N i n:Nat),i≤t.length→t.length<i+N→n<10^i→bEt t 0=bEt (t.drop i) n →
  (aBh bW6 aAa (sg [pS] [rI,rB]) Tryz.f137 [.r,.r,.r,.l,.r,.b] N (bW4 t n i)).eval=some [.int .i64 (aD8 t),.bool (aM3 t)]:=by
 intro N
 induction N with
 |zero=>intro i n h1 h2;omega
 |succ N ih =>
  intro i n h1 h2 h3 h4
  have p:10^i≤10^10:=Nat.pow_le_pow_right (by omega) (by omega)
  rw[aAv _ _ _ _ _ _ _ (by kernel_rfl),bNr]
  by_cases hi:i<t.length
  ·have hb:=aFs t i
   rw[aBx t i 0 hi]at h4
   have m:(decide ((0:Int)≤i)&&decide ((i:Int)<t.length))=true:=by rw[decide_eq_true (by omega),decide_eq_true (by omega)];rfl
   rw[Int.toNat_natCast]
   simp only[bEt]at h4
   refine aAc (decide_eq_true (by omega)) (aA7 m ?_)
   by_cases c1:((t.getD i 0).toNat:Int)<48
   ·rw[if_pos c1]at h4
    obtain⟨e1,e2⟩:=bQo h4
    rw[e1,e2]
    exact aAc (decide_eq_true c1) rfl
   ·rw[if_neg c1]at h4
    refine aAj (decide_eq_false c1) (aA7 m ?_)
    by_cases c2:((t.getD i 0).toNat:Int)>57
    ·rw[if_pos c2]at h4
     obtain⟨e1,e2⟩:=bQo h4
     rw[e1,e2]
     exact aAc (decide_eq_true c2) rfl
    ·rw[if_neg c2]at h4
     refine aAj (decide_eq_false c2) (aA7 m ?_)
     have w:IntKind.i64.wrap (IntKind.i64.wrap (IntKind.i64.wrap (10*(n:Int))+IntKind.i64.wrap ((t.getD i 0).toNat:Int))-48)=((10*n+(t.getD i 0).toNat-48:Nat):Int):=by
      have a1:IntKind.i64.wrap (10*(n:Int))=10*(n:Int):=by rw[aAg]<;>omega
      have a2:IntKind.i64.wrap ((t.getD i 0).toNat:Int)=((t.getD i 0).toNat:Int):=by rw[aAg]<;>omega
      have a3:IntKind.i64.wrap (10*(n:Int)+((t.getD i 0).toNat:Int))=10*(n:Int)+((t.getD i 0).toNat:Int):=by rw[aAg]<;>omega
      rw[a1,a2,a3,aAg]<;>omega
     have w2:IntKind.i64.wrap ((i:Int)+1)=((i+1:Nat):Int):=by rw[aAg]<;>omega
     rw[w,w2]
     refine ih (i+1) _ (by omega) (by omega) (by rw[Nat.pow_succ];omega) ?_
     rw[h4]
     congr 1
     omega
  ·have e:i=t.length:=by omega
   subst e
   rw[List.drop_length]at h4
   simp only[bEt]at h4
   have hi':¬((t.length:Int)<(t.length:Int)):=by omega
   refine aAj (decide_eq_false hi') ?_
   have ok:aM3 t=(decide ((n:Int)≤1000000000)&&decide (aIp n=t)):=by unfold aM3;rw[h4,decide_eq_true ht];rfl
   have vl:aD8 t=if aM3 t then (n:Int)else 0:=by unfold aD8;rw[h4];rfl
   rw[vl,ok]
   by_cases c1:(1000000000:Int)<n
   ·rw[decide_eq_false (show ¬(n:Int)≤1000000000 by omega)]
    exact aAc (decide_eq_true c1) rfl
   ·rw[decide_eq_true (show (n:Int)≤1000000000 by omega)]
    refine aAj (decide_eq_false c1) (aA7 (by rw[aBr];omega) ?_)
    by_cases c2:aIp n=t
    ·rw[decide_eq_true c2]
     exact aAj (by rw[c2];simp) rfl
    ·rw[decide_eq_false c2]
     exact aAc (by simpa using c2) rfl
theorem cBn:aA8 Tryz.prog bW6:=aA6 (by simp[bP5])
theorem bQp:aAs Tryz.prog 137 (sg [pS] [rI,rB]) aYz:=aA5 cBn aA9 Tryz.func137 (by kernel_rfl) fun cs outs hk h=>by
 unfold aYz at h
 split at h
 ·simp only[Option.some.injEq,Prod.mk.injEq,decide_eq_true_eq]at h
  obtain⟨h1,rfl⟩:=h
  rename_i t
  rw[aAb,bUb]
  by_cases c:(10:Int)<t.length
  ·have e:aM3 t=false:=by unfold aM3;rw[decide_eq_false (by omega)];rfl
   have e2:aD8 t=0:=by unfold aD8;rw[e];rfl
   rw[e,e2]
   exact aAc (decide_eq_true c) rfl
  ·exact aAj (decide_eq_false c) (bUc t (by omega) 9223372036854775808 0 0 (by omega) (by omega) (by omega) rfl)
 ·cases h
theorem bEb (t:List UInt8) (ht:t.length≤281474976710656):∀ (N i:Nat),i≤t.length→t.length<i+N →
  (aBh aQh aAa (sg [pS] [rB]) Tryz.f96 [.r,.l,.r,.b] N (aHj t i)).eval=some [.bool ((t.drop i).all aL2&&inB t.length 1 20)]:=by
 intro N
 induction N with
 |zero=>intro i h1 h2;omega
 |succ N ih =>
  intro i h1 h2
  rw[aAv _ _ _ _ _ _ _ (by kernel_rfl),aXn]
  by_cases hi:i<t.length
  ·have hb:=aFs t i
   have m:(decide ((0:Int)≤i)&&decide ((i:Int)<t.length))=true:=by rw[decide_eq_true (by omega),decide_eq_true (by omega)];rfl
   have e:=ih (i+1) (by omega) (by omega)
   have w2:IntKind.i64.wrap ((i:Int)+1)=((i+1:Nat):Int):=by rw[aAg]<;>omega
   rw[Int.toNat_natCast,aBx t i 0 hi,List.all_cons]
   generalize t.getD i 0=x at hb ⊢
   have w:IntKind.i64.wrap (x.toNat:Int)=x.toNat:=by rw[aAg]<;>omega
   rw[w,w2]
   refine aAc (decide_eq_true (by omega)) (aA7 m ?_)
   have nb:aL2 x=(inB (x.toNat:Int) 97 122||inB (x.toNat:Int) 48 57||decide ((x.toNat:Int)=46)||decide ((x.toNat:Int)=45)):=rfl
   rw[nb]
   cases c1:inB (x.toNat:Int) 97 122
   ·refine aAj rfl ?_
    cases c2:inB (x.toNat:Int) 48 57
    ·refine aAj rfl ?_
     by_cases c3:(x.toNat:Int)=46
     ·rw[decide_eq_true c3]
      refine aAj (by simp[c3]) ?_
      simpa using e
     ·rw[decide_eq_false c3]
      refine aAc (by simpa using c3) ?_
      by_cases c4:(x.toNat:Int)=45
      ·rw[decide_eq_true c4]
       refine aAj (by simp[c4]) ?_
       simpa using e
      ·rw[decide_eq_false c4]
       exact aAc (by simpa using c4) rfl
    ·refine aAc rfl ?_
     simpa using e
   ·refine aAc rfl ?_
    simpa using e
  ·have e:i=t.length:=by omega
   subst e
   have hi':¬((t.length:Int)<(t.length:Int)):=by omega
   rw[List.drop_length]
   refine aAj (decide_eq_false hi') ?_
   cases c:inB (t.length:Int) 1 20
   ·exact aAj rfl rfl
   ·exact aAc rfl rfl
theorem bQa:aA8 Tryz.prog aQh:=aA6 (by simp[aDm])
theorem aJa:aAs Tryz.prog 96 (sg [pS] [rB]) aGv:=aA5 bQa aA9 Tryz.func96 (by kernel_rfl) fun cs outs hk h=>by
 unfold aGv at h
 split at h
 ·simp only[Option.some.injEq,Prod.mk.injEq,decide_eq_true_eq]at h
  obtain⟨h1,rfl⟩:=h
  rename_i t
  rw[aAb,bEa]
  exact bEb t h1 9223372036854775808 0 (by omega) (by omega)
 ·cases h
theorem aFz {ns:List (List C)}:aRx ns=true↔aAf kNd ns=true∧ns.length≤16777216∧∀ x∈nds ns,x.text.length≤16777216:=by simp only[aRx,dN,Bool.and_eq_true,decide_eq_true_eq,List.all_eq_true,and_assoc]
theorem aGw {es:List (List C)}:aI7 es=true↔aAf kEn es=true∧es.length≤16777216∧∀ x∈ens es,x.name.length≤16777216:=by simp only[aI7,dN,Bool.and_eq_true,decide_eq_true_eq,List.all_eq_true,and_assoc]
theorem aJ6 {ss:List (List C)}:bXl ss=true↔aAf [.str] ss=true∧ss.length≤16777216∧∀ x∈aDa ss,x.length≤16777216:=by simp only[bXl,dN,Bool.and_eq_true,decide_eq_true_eq,List.all_eq_true,and_assoc]
theorem bBg {l:List Nd}:aRx (l.map eNd)=true↔l.length≤16777216∧∀ x∈l,x.text.length≤16777216:=by rw[aFz,bNo,aGj,List.length_map];simp
theorem aPz {l:List En}:aI7 (l.map eEn)=true↔l.length≤16777216∧∀ x∈l,x.name.length≤16777216:=by rw[aGw,aM0,aJn,List.length_map];simp
theorem aI3 {ns:List (List C)} (h:aRx ns=true):∃ l:List Nd,ns=l.map eNd∧nds ns=l∧l.length≤16777216∧∀ x∈l,x.text.length≤16777216:=by
 have hr:=aE6 (aFz.1 h).1
 refine⟨nds ns,hr,rfl,?_,(aFz.1 h).2.2⟩
 have:=(aFz.1 h).2.1
 rw[hr,List.length_map]at this
 exact this
theorem aEp {es:List (List C)} (h:aI7 es=true):∃ l:List En,es=l.map eEn∧ens es=l∧l.length≤16777216∧∀ x∈l,x.name.length≤16777216:=by
 have hr:=aDi (aGw.1 h).1
 refine⟨ens es,hr,rfl,?_,(aGw.1 h).2.2⟩
 have:=(aGw.1 h).2.1
 rw[hr,List.length_map]at this
 exact this
theorem aU9 {ss:List (List C)} (h:bXl ss=true):∃ l:List (List UInt8),ss=l.map aCd∧aDa ss=l∧l.length≤16777216∧∀ x∈l,x.length≤16777216:=by
 have hr:=aEe (aJ6.1 h).1
 refine⟨aDa ss,hr,rfl,?_,(aJ6.1 h).2.2⟩
 have:=(aJ6.1 h).2.1
 rw[hr,List.length_map]at this
 exact this
theorem aJj {A:Type} {l:List A} {i:Nat} {d:A} (h:i<l.length):l.getD i d∈l:=by rw[List.getD_eq_getElem?_getD,List.getElem?_eq_getElem h];exact List.getElem_mem h
theorem at2 (n:Nat) (i:Nat) (h:i<n) (k m:Nat) (hk:k=m):(decide ((0:Int)≤i)&&decide ((i:Int)<n)&&decide (k=m))=true:=by
 rw[decide_eq_true (by omega),decide_eq_true (by omega),decide_eq_true hk];rfl
theorem bL1 (l:List Nd) (h:∀ x∈l,x.text.length≤16777216):aCn l≤l.length*16777216:=by
 unfold aCn
 induction l with
 |nil=>simp
 |cons x l ih =>
  have h1:=h x List.mem_cons_self
  have h2:=ih fun y hy=>h y (List.mem_cons_of_mem _ hy)
  simp only[List.map_cons,List.sum_cons,List.length_cons]
  omega
theorem aQn (l:List Nd) (i:Nat) (hi:i<l.length):aCn (l.take (i+1))=aCn (l.take i)+(l.getD i ⟨0,[],0⟩).text.length:=by
 unfold aCn
 rw[List.take_add_one,List.map_append,List.sum_append]
 simp[List.getD_eq_getElem?_getD,hi]
theorem aQm (l:List Nd) (i:Nat):aCn (l.take i)≤aCn l:=by
 unfold aCn
 have:l.map (fun x=>x.text.length)=(l.take i).map (fun x=>x.text.length)++(l.drop i).map (fun x=>x.text.length):=by rw[←List.map_append,List.take_append_drop]
 rw[this,List.sum_append]
 omega
theorem bN3 (l:List Nd) (es os ss:List (List C)) (r x:Int) (hl:l.length≤16777216) (ht:∀ x∈l,x.text.length≤16777216):∀ (N i:Nat),i≤l.length→l.length<i+N →
  (aBh aWs aAa (sg [aAy] [rI]) Tryz.f35 [.r,.r,.l,.r,.b] N (aWo (l.map eNd) es os ss r x (aCn (l.take i)) i)).eval=some [.int .i64 (aCn l)]:=by
 intro N
 induction N with
 |zero=>intro i h1 h2;omega
 |succ N ih =>
  intro i h1 h2
  rw[aAv _ _ _ _ _ _ _ (by kernel_rfl),bDx]
  by_cases hi:i<l.length
  ·have g:=aAx eNd l ⟨0,[],0⟩ i hi
   have e:=ih (i+1) (by omega) (by omega)
   have u:=aQn l i hi
   have u2:=aQm l (i+1)
   have u3:=bL1 l ht
   have w2:IntKind.i64.wrap ((i:Int)+1)=((i+1:Nat):Int):=by rw[aAg]<;>omega
   have w:IntKind.i64.wrap ((aCn (l.take i):Int)+((l.getD i ⟨0,[],0⟩).text.length:Int))=((aCn (l.take (i+1)):Nat):Int):=by rw[aAg]<;>omega
   rw[List.length_map,Int.toNat_natCast,g,w2]
   refine aAc (decide_eq_true (by omega)) (aA7 (at2 _ _ hi _ _ rfl) (aA7 rfl ?_))
   show (aBh aWs aAa (sg [aAy] [rI]) Tryz.f35 [.r,.r,.l,.r,.b] N (aWo (l.map eNd) es os ss r x (IntKind.i64.wrap ((aCn (l.take i):Int)+((l.getD i ⟨0,[],0⟩).text.length:Int))) ((i+1:Nat):Int))).eval=_
   rw[w]
   exact e
  ·have e:i=l.length:=by omega
   subst e
   have hi':¬((l.length:Int)<(l.length:Int)):=by omega
   rw[List.take_length,List.length_map]
   exact aAj (decide_eq_false hi') rfl
theorem bXq:aA8 Tryz.prog aWs:=aA6 (by simp[])
theorem aUk:aAs Tryz.prog 35 (sg [aAy] [rI]) aHn:=aA5 bXq aA9 Tryz.func35 (by kernel_rfl) fun cs outs hk h=>by
 unfold aHn at h
 split at h
 ·simp only[Option.some.injEq,Prod.mk.injEq]at h
  obtain⟨h1,rfl⟩:=h
  rename_i ns es os ss r x
  obtain⟨l,rfl,e,hl,ht⟩:=aI3 h1
  rw[e,aAb,bN2]
  exact bN3 l es os ss r x hl ht 9223372036854775808 0 (by omega) (by omega)
 ·cases h
def aV8 (l:List En) (i:Nat):Option (List UInt8):=if i=0 then none else some (l.getD (i-1) ⟨[],0⟩).name
theorem bR5 {ns:List (List C)} (h:aRx ns=true):(decide (ns.length≤aHh)&&aAf [K.int .i64,K.str,K.int .i64] ns)=true:=by
 obtain⟨h1,h2,_⟩:=aFz.1 h
 rw[decide_eq_true (show ns.length≤aHh from Nat.le_trans h2 (by decide))]
 exact h1
theorem bAz (ns es os ss:List (List C)) (r x:Int) (l:List En) (hn:aRx ns=true) (hl:l.length≤16777216) (ht:∀ x∈l,x.name.length≤16777216):∀ (N i:Nat),i≤l.length→l.length<i+N →
  (aBh aN8 aAa (sg [aAy,pSl 92] [rB]) Tryz.f76 [.r,.l,.r,.b] N (aIw ns es os ss r x (l.map eEn) i)).eval=some [.bool (aIo (nds ns) (l.drop i) (aV8 l i)&&decide (l.length≤16))]:=by
 intro N
 induction N with
 |zero=>intro i h1 h2;omega
 |succ N ih =>
  intro i h1 h2
  rw[aAv _ _ _ _ _ _ _ (by kernel_rfl),aV0]
  by_cases hi:i<l.length
  ·have g:=aAx eEn l ⟨[],0⟩ i hi
   have e:=ih (i+1) (by omega) (by omega)
   have w2:IntKind.i64.wrap ((i:Int)+1)=((i+1:Nat):Int):=by rw[aAg]<;>omega
   have hm:=ht _ (aJj (d:=⟨[],0⟩) hi)
   have pv:aV8 l (i+1)=some (l.getD i ⟨[],0⟩).name:=by unfold aV8;rw[if_neg (by omega),Nat.add_sub_cancel]
   rw[pv]at e
   rw[List.length_map,Int.toNat_natCast,g,w2,aBx l i ⟨[],0⟩ hi]
   have sp:∀ y q,aIo (nds ns) (y::l.drop (i+1)) q=(aBf y.name&&decide (0≤aAt (nds ns) y.id)&&(match q with | none=>true | some q=>Op.bytesLess q y.name)&&aIo (nds ns) (l.drop (i+1)) (some y.name)):=fun _ _=>rfl
   rw[sp]
   generalize l.getD i ⟨[],0⟩=y at hm e ⊢
   refine aAc (decide_eq_true (by omega)) (aA7 (at2 _ _ hi _ _ rfl) (aA7 rfl (aA7 (decide_eq_true (show y.name.length≤281474976710656 by omega)) ?_)))
   show (T.ask (aBf y.name) _ _).eval=_
   cases c1:aBf y.name
   ·exact aAj rfl rfl
   ·refine aAc rfl (aA7 (at2 _ _ hi _ _ rfl) (aA7 rfl (aA7 (bR5 hn) ?_)))
    show (T.ask (decide (aAt (nds ns) y.id<0)) _ _).eval=_
    by_cases c2:aAt (nds ns) y.id<0
    ·rw[decide_eq_false (show ¬0≤aAt (nds ns) y.id by omega)]
     exact aAc (decide_eq_true c2) rfl
    ·rw[decide_eq_true (show 0≤aAt (nds ns) y.id by omega)]
     refine aAj (decide_eq_false c2) ?_
     by_cases c3:i=0
     ·subst c3
      refine aAj rfl ?_
      simpa[aV8]using e
     ·have hj:i-1<l.length:=by omega
      have w3:IntKind.i64.wrap ((i:Int)-1)=((i-1:Nat):Int):=by rw[aAg]<;>omega
      have g2:=aAx eEn l ⟨[],0⟩ (i-1) hj
      rw[w3,Int.toNat_natCast,g2]
      have pv2:aV8 l i=some (l.getD (i-1) ⟨[],0⟩).name:=by unfold aV8;rw[if_neg c3]
      rw[pv2]
      generalize l.getD (i-1) ⟨[],0⟩=z
      refine aAc (decide_eq_true (by omega)) (aA7 (at2 _ _ hj _ _ rfl) (aA7 rfl (aA7 (at2 _ _ hi _ _ rfl) (aA7 rfl ?_))))
      show (T.ask (!Op.bytesLess z.name y.name) _ _).eval=some [C.bool (true&&true&&Op.bytesLess z.name y.name&&_&&_)]
      cases c4:Op.bytesLess z.name y.name
      ·exact aAc rfl rfl
      ·refine aAj rfl ?_
       simpa using e
  ·have e:i=l.length:=by omega
   subst e
   have hi':¬((l.length:Int)<(l.length:Int)):=by omega
   rw[List.drop_length,List.length_map]
   refine aAj (decide_eq_false hi') ?_
   by_cases c:(l.length:Int)≤16
   ·rw[decide_eq_true (show l.length≤16 by omega)]
    exact aAc (decide_eq_true c) rfl
   ·rw[decide_eq_false (show ¬l.length≤16 by omega)]
    exact aAj (decide_eq_false c) rfl
theorem bNg:aA8 Tryz.prog aN8:=aA6 (by simp[aJ9,aJa])
theorem aXq:aAs Tryz.prog 76 (sg [aAy,pSl 92] [rB]) aFp:=aA5 bNg aA9 Tryz.func76 (by kernel_rfl) fun cs outs hk h=>by
 unfold aFp at h
 split at h
 ·simp only[Option.some.injEq,Prod.mk.injEq,Bool.and_eq_true]at h
  obtain⟨⟨h1,h2⟩,rfl⟩:=h
  rename_i ns es os ss r x l0
  obtain⟨l,rfl,e,hl,ht⟩:=aEp h2
  rw[e,aAb,bAy]
  exact bAz ns es os ss r x l h1 hl ht 9223372036854775808 0 (by omega) (by omega)
 ·cases h
theorem cAv {u v:En} (h:¬u=v):(!(u.name==v.name&&(decide (u.id=v.id)&&true)))=true:=by
 cases u;cases v
 simp at h ⊢
 exact Decidable.or_iff_not_imp_left.2 (fun c=>h (Decidable.not_not.1 c))
theorem bN9 (x y:List En) (hx:x.length≤16777216) (hl:x.length=y.length):∀ (n i:Nat),i≤x.length→x.length<i+n→x.take i=y.take i →
  (aBh bD8 aAa (sg [pSl 92,pSl 92] [rB]) Tryz.f77 [.r,.r,.l,.r,.b] n (bD6 (x.map eEn) (y.map eEn) i)).eval=some [.bool (decide (x=y))]:=by
 intro n
 induction n with
 |zero=>intro i h1 h2;omega
 |succ n ih =>
  intro i h1 h2 h3
  rw[aAv _ _ _ _ _ _ _ (by kernel_rfl),bE1]
  by_cases hi:i<x.length
  ·have hi2:i<y.length:=by omega
   have w:IntKind.i64.wrap ((i:Int)+1)=((i+1:Nat):Int):=by rw[aAg]<;>omega
   have g:=aAx eEn x ⟨[],0⟩ i hi
   have g2:=aAx eEn y ⟨[],0⟩ i hi2
   rw[List.length_map,List.length_map,Int.toNat_natCast,g,g2,w]
   refine aAc (decide_eq_true (by omega)) (aA7 (at2 _ _ hi _ _ rfl) (aA7 rfl (aA7 (at2 _ _ hi2 _ _ rfl) (aA7 rfl ?_))))
   show (T.ask (!((x.getD i ⟨[],0⟩).name==(y.getD i ⟨[],0⟩).name&&(decide ((x.getD i ⟨[],0⟩).id=(y.getD i ⟨[],0⟩).id)&&true))) _ _).eval=_
   by_cases hxy:x.getD i ⟨[],0⟩=y.getD i ⟨[],0⟩
   ·have e:=ih (i+1) (by omega) (by omega) (aG8 ⟨[],0⟩ hi hi2 h3 hxy)
    exact aAj (by rw[hxy];simp) e
   ·have:x≠y:=fun h=>hxy (by rw[h])
    rw[decide_eq_false this]
    exact aAc (cAv hxy) rfl
  ·have e1:i=x.length:=by omega
   have:x=y:=by
    rw[e1,List.take_length,hl,List.take_length]at h3
    exact h3
   rw[decide_eq_true this,List.length_map]
   exact aAj (decide_eq_false (by omega)) rfl
theorem bXs:aA8 Tryz.prog bD8:=aA6 (by simp[])
theorem bI7:aAs Tryz.prog 77 (sg [pSl 92,pSl 92] [rB]) aLz:=aA5 bXs aA9 Tryz.func77 (by kernel_rfl) fun cs outs hk h=>by
 unfold aLz at h
 split at h
 ·simp only[Option.some.injEq,Prod.mk.injEq,Bool.and_eq_true]at h
  obtain⟨⟨h1,h2⟩,rfl⟩:=h
  rename_i x0 y0
  obtain⟨x,rfl,e,hl,ht⟩:=aEp h1
  obtain⟨y,rfl,e2,hl2,ht2⟩:=aEp h2
  rw[e,e2,aAb,bN8,List.length_map,List.length_map]
  by_cases c:x.length=y.length
  ·exact aAj (by simp[c]) (bN9 x y hl c _ 0 (by omega) (by omega) rfl)
  ·have:x≠y:=fun h=>c (by rw[h])
   rw[decide_eq_false this]
   exact aAc (by simp;omega) rfl
 ·cases h
theorem bEx (e:En):∀ (l:List En) (d:Bool),(aEn e l d).length≤l.length+(if d then 0 else 1)
 |[],d=>by cases d<;>simp[aEn]
 |x::r,d=>by
  have h:=bEx e r (d||geB x.name e.name)
  unfold aEn
  simp only[List.length_append,List.length_cons]
  cases d
  ·cases c:geB x.name e.name
   ·rw[c]at h
    simp only[Bool.or_false,Bool.false_eq_true,if_false,List.length_nil]at h ⊢
    split<;>simp<;>omega
   ·rw[c]at h
    simp only[Bool.or_true,if_true,Bool.false_eq_true,if_false,List.length_cons,List.length_nil]at h ⊢
    split<;>simp<;>omega
  ·simp only[Bool.true_or,if_true,List.length_nil]at h ⊢
   split<;>simp<;>omega
theorem bEw (e:En):∀ (l:List En) (d:Bool) (y:En),y∈aEn e l d→y=e∨y∈l
 |[],d,y,h=>by cases d<;>simp[aEn]at h;exact .inl h
 |x::r,d,y,h=>by
  unfold aEn at h
  simp only[List.mem_append]at h
  rcases h with (h | h) | h
  ·left
   split at h
   ·cases h
   ·split at h
    ·simpa using h
    ·cases h
  ·right
   split at h
   ·cases h
   ·simp at h;rw[h];exact List.mem_cons_self
  ·rcases bEw e r _ y h with h | h
   ·exact .inl h
   ·exact .inr (List.mem_cons_of_mem _ h)
theorem bEz (l:List En) (e:En):(aSp l e).length≤l.length+1:=bEx e l false
theorem bEy {l:List En} {e y:En} (h:y∈aSp l e):y=e∨y∈l:=bEw e l false y h
theorem aZg (l:List En) (nm:List UInt8):(aDg l nm).length≤l.length:=List.length_filter_le _ _
theorem aRf {l:List En} {nm:List UInt8} {y:En} (h:y∈aDg l nm):y∈l:=(List.mem_filter.1 h).1
theorem cB5 (o:List En) (nm:List UInt8) (id:Int):(o.map eEn).append [[C.str nm,C.int .i64 id]]=(o++[(⟨nm,id⟩:En)]).map eEn:=by simp
theorem aYy (o:List En) (h:o.length≤100000000):(decide (o.length=(o.map eEn).length)&&aBc ((o.map eEn).length+1) 24&&(decide ((Nat.add 1 0).succ=2)&&true))=true:=by
 have r:aBc ((o.map eEn).length+1) 24=true:=by rw[List.length_map];simp only[aBc,decide_eq_true_eq];omega
 rw[r,decide_eq_true (List.length_map _).symm];rfl
theorem bY0 (o:List En):(decide (o.length=(o.map eEn).length)&&(false||(o.map eEn).all fun r=>r.all C.flat)&&true&&true&&true)=true:=by
 rw[aF7,decide_eq_true (List.length_map _).symm];rfl
theorem bNd (l:List En) (nm:List UInt8) (id:Int) (hl:l.length≤16777216):∀ (N i:Nat) (o:List En),i≤l.length→l.length<i+N→o.length≤i+1 →
  (aBh aZs aAa (sg [pSl 92,aDe] [rSl 92]) Tryz.f97 [.r,.r,.r,.l,.r,.b] N (aRn (l.map eEn) nm id o.length (o.map eEn) i)).eval=some [.sl ((o++aEn ⟨nm,id⟩ (l.drop i) true).map eEn)]:=by
 intro N
 induction N with
 |zero=>intro i o h1 h2;omega
 |succ N ih =>
  intro i o h1 h2 h3
  rw[aAv _ _ _ _ _ _ _ (by kernel_rfl),bE5]
  by_cases hi:i<l.length
  ·have g:=aAx eEn l ⟨[],0⟩ i hi
   have w2:IntKind.i64.wrap ((i:Int)+1)=((i+1:Nat):Int):=by rw[aAg]<;>omega
   have e:=fun q:List En=>ih (i+1) q (by omega) (by omega)
   have sp:∀ x,aEn ⟨nm,id⟩ (x::l.drop (i+1)) true=[]++(if x.name=nm then[]else[x])++aEn ⟨nm,id⟩ (l.drop (i+1)) true:=fun x=>rfl
   rw[List.length_map,Int.toNat_natCast,g,w2,aBx l i ⟨[],0⟩ hi,sp]
   generalize l.getD i ⟨[],0⟩=y
   refine aAc (decide_eq_true (by omega)) (aA7 (at2 _ _ hi _ _ rfl) (aA7 rfl ?_))
   show (T.ask (!y.name==nm) _ _).eval=_
   by_cases c:y.name=nm
   ·rw[if_pos c]
    exact aAj (by simp[c]) (e o (by omega))
   ·rw[if_neg c]
    refine aAc (by simpa using c) (aA7 (at2 _ _ hi _ _ rfl) (aA7 rfl (aA7 (aYy o (by omega)) ?_)))
    have e2:=e (o++[y]) (by simp;omega)
    have ap:=cB5 o y.name y.id
    rw[←List.length_map (f:=eEn),←ap]at e2
    rw[show (o++([]++[y]++aEn ⟨nm,id⟩ (l.drop (i+1)) true))=o++[y]++aEn ⟨nm,id⟩ (l.drop (i+1)) true by simp]
    rw[←e2]
    simp[C.toStr,C.toInt]
  ·have e:i=l.length:=by omega
   subst e
   rw[List.drop_length,List.length_map]
   refine aAj (decide_eq_false (by omega)) (aA7 (bY0 o) ?_)
   simp[aEn]
   rfl
theorem bNe (l:List En) (nm:List UInt8) (id:Int) (hl:l.length≤16777216):∀ (N i:Nat) (o:List En),i≤l.length→l.length<i+N→o.length≤i →
  (aBh aZs aAa (sg [pSl 92,aDe] [rSl 92]) Tryz.f97 [.r,.r,.r,.l,.r,.b] N (aWp (l.map eEn) nm id o.length (o.map eEn) i)).eval=some [.sl ((o++aEn ⟨nm,id⟩ (l.drop i) false).map eEn)]:=by
 intro N
 induction N with
 |zero=>intro i o h1 h2;omega
 |succ N ih =>
  intro i o h1 h2 h3
  have ap:=cB5 o nm id
  have al:(o++[(⟨nm,id⟩:En)]).length=o.length+1:=by simp
  rw[aAv _ _ _ _ _ _ _ (by kernel_rfl),bE6]
  by_cases hi:i<l.length
  ·have g:=aAx eEn l ⟨[],0⟩ i hi
   have w2:IntKind.i64.wrap ((i:Int)+1)=((i+1:Nat):Int):=by rw[aAg]<;>omega
   have e:=fun q:List En=>ih (i+1) q (by omega) (by omega)
   have eb:=fun q:List En=>bNd l nm id hl N (i+1) q (by omega) (by omega)
   have sp:∀ x,aEn ⟨nm,id⟩ (x::l.drop (i+1)) false=(if geB x.name nm then[⟨nm,id⟩]else[])++(if x.name=nm then[]else[x])++aEn ⟨nm,id⟩ (l.drop (i+1)) (geB x.name nm):=fun x=>rfl
   rw[List.length_map,Int.toNat_natCast,g,w2,aBx l i ⟨[],0⟩ hi,sp,ap]
   generalize l.getD i ⟨[],0⟩=y
   refine aAc (decide_eq_true (by omega)) (aA7 (at2 _ _ hi _ _ rfl) (aA7 rfl ?_))
   show (T.ask (geB y.name nm) _ _).eval=_
   cases c1:geB y.name nm
   ·refine aAj rfl (aA7 (at2 _ _ hi _ _ rfl) (aA7 rfl ?_))
    show (T.ask (!y.name==nm) _ _).eval=_
    by_cases c:y.name=nm
    ·rw[if_pos c]
     exact aAj (by simp[c]) (e o (by omega))
    ·rw[if_neg c]
     refine aAc (by simpa using c) (aA7 (at2 _ _ hi _ _ rfl) (aA7 rfl (aA7 (aYy o (by omega)) ?_)))
     have e2:=e (o++[y]) (by simp;omega)
     have ap:=cB5 o y.name y.id
     rw[←List.length_map (f:=eEn),←ap]at e2
     simp only[Bool.false_eq_true,if_false]
     rw[show (o++([]++[y]++aEn ⟨nm,id⟩ (l.drop (i+1)) false))=o++[y]++aEn ⟨nm,id⟩ (l.drop (i+1)) false by simp]
     rw[←e2]
     simp[C.toStr,C.toInt]
   ·refine aAc rfl (aA7 (aYy o (by omega)) (aA7 (at2 _ _ hi _ _ rfl) (aA7 rfl ?_)))
    show (T.ask (!y.name==nm) _ _).eval=_
    rw[if_pos rfl]
    by_cases c:y.name=nm
    ·rw[if_pos c]
     refine aAj (by simp[c]) ?_
     have e2:=eb (o++[⟨nm,id⟩]) (by simp;omega)
     rw[List.length_append]at e2
     simp only[List.append_nil]
     rw[show (o++([⟨nm,id⟩]++aEn ⟨nm,id⟩ (l.drop (i+1)) true))=o++[⟨nm,id⟩]++aEn ⟨nm,id⟩ (l.drop (i+1)) true by simp]
     rw[←e2,List.length_map]
     rfl
    ·rw[if_neg c]
     have r2:=aYy (o++[⟨nm,id⟩]) (by simp;omega)
     have r3:(decide ((o.map eEn).length+1=((o++[(⟨nm,id⟩:En)]).map eEn).length)&&aBc (((o++[(⟨nm,id⟩:En)]).map eEn).length+1) 24&&(decide ((Nat.add 1 0).succ=2)&&true))=true:=by
      rw[al]at r2;rw[List.length_map];exact r2
     refine aAc (by simpa using c) (aA7 (at2 _ _ hi _ _ rfl) (aA7 rfl (aA7 r3 ?_)))
     have e2:=eb (o++[⟨nm,id⟩]++[y]) (by simp;omega)
     have ap:=cB5 (o++[⟨nm,id⟩]) y.name y.id
     rw[←List.length_map (f:=eEn),←ap]at e2
     rw[show (o++([⟨nm,id⟩]++[y]++aEn ⟨nm,id⟩ (l.drop (i+1)) true))=o++[⟨nm,id⟩]++[y]++aEn ⟨nm,id⟩ (l.drop (i+1)) true by simp]
     rw[←e2]
     simp[C.toStr,C.toInt]
  ·have e:i=l.length:=by omega
   subst e
   rw[List.drop_length,List.length_map,ap]
   refine aAj (decide_eq_false (by omega)) (aA7 (aYy o (by omega)) (aA7 ?_ ?_))
   ·have r2:=bY0 (o++[⟨nm,id⟩])
    rw[al]at r2
    rw[List.length_map]
    exact r2
   ·simp[aEn]
    rfl
theorem bZu:aA8 Tryz.prog aZs:=aA6 (by simp[])
theorem bNc:aAs Tryz.prog 97 (sg [pSl 92,aDe] [rSl 92]) bIn:=aA5 bZu aA9 Tryz.func97 (by kernel_rfl) fun cs outs hk h=>by
 unfold bIn at h
 split at h
 ·simp only[Option.some.injEq,Prod.mk.injEq]at h
  obtain⟨h1,rfl⟩:=h
  rename_i l0 nm id
  obtain⟨l,rfl,e,hl,ht⟩:=aEp h1
  unfold aQj aSp
  rw[e,aAb,bQ7]
  exact bNe l nm id hl 9223372036854775808 0 [] (by omega) (by omega) (by simp)
 ·cases h
theorem bNj (l:List En) (nm:List UInt8) (hl:l.length≤16777216):∀ (N i:Nat) (o:List En),i≤l.length→l.length<i+N→o.length≤i →
  (aBh bD9 aAa (sg [pSl 92,pS] [rSl 92]) Tryz.f94 [.r,.r,.l,.r,.b] N (aWq (l.map eEn) nm o.length (o.map eEn) i)).eval=some [.sl ((o++aDg (l.drop i) nm).map eEn)]:=by
 intro N
 induction N with
 |zero=>intro i o h1 h2;omega
 |succ N ih =>
  intro i o h1 h2 h3
  rw[aAv _ _ _ _ _ _ _ (by kernel_rfl),bEi]
  by_cases hi:i<l.length
  ·have g:=aAx eEn l ⟨[],0⟩ i hi
   have w2:IntKind.i64.wrap ((i:Int)+1)=((i+1:Nat):Int):=by rw[aAg]<;>omega
   have e:=fun q:List En=>ih (i+1) q (by omega) (by omega)
   have sp:∀ x,aDg (x::l.drop (i+1)) nm=(if x.name=nm then[]else[x])++aDg (l.drop (i+1)) nm:=fun x=>by
    unfold aDg
    rw[List.filter_cons]
    by_cases c:x.name=nm<;>simp[c]
   rw[List.length_map,Int.toNat_natCast,g,w2,aBx l i ⟨[],0⟩ hi,sp]
   generalize l.getD i ⟨[],0⟩=y
   refine aAc (decide_eq_true (by omega)) (aA7 (at2 _ _ hi _ _ rfl) (aA7 rfl ?_))
   show (T.ask (!y.name==nm) _ _).eval=_
   by_cases c:y.name=nm
   ·rw[if_pos c]
    exact aAj (by simp[c]) (e o (by omega))
   ·rw[if_neg c]
    refine aAc (by simpa using c) (aA7 (at2 _ _ hi _ _ rfl) (aA7 rfl (aA7 (aYy o (by omega)) ?_)))
    have e2:=e (o++[y]) (by simp;omega)
    have ap:=cB5 o y.name y.id
    rw[←List.length_map (f:=eEn),←ap]at e2
    rw[show (o++([y]++aDg (l.drop (i+1)) nm))=o++[y]++aDg (l.drop (i+1)) nm by simp]
    rw[←e2]
    simp[C.toStr,C.toInt]
  ·have e:i=l.length:=by omega
   subst e
   rw[List.drop_length,List.length_map]
   refine aAj (decide_eq_false (by omega)) (aA7 (bY0 o) ?_)
   simp[aDg]
   rfl
theorem bXt:aA8 Tryz.prog bD9:=aA6 (by simp[])
theorem bIe:aAs Tryz.prog 94 (sg [pSl 92,pS] [rSl 92]) bCv:=aA5 bXt aA9 Tryz.func94 (by kernel_rfl) fun cs outs hk h=>by
 unfold bCv at h
 split at h
 ·simp only[Option.some.injEq,Prod.mk.injEq]at h
  obtain⟨h1,rfl⟩:=h
  rename_i l0 nm
  obtain⟨l,rfl,e,hl,ht⟩:=aEp h1
  unfold aCo
  rw[e,aAb,bNi]
  exact bNj l nm hl 9223372036854775808 0 [] (by omega) (by omega) (by simp)
 ·cases h
theorem bN7 (s:List UInt8) (hs:aDb s=true) (h45:¬aB3 s=45) (hl:s.length≤281474976710656):∀ (N i:Nat),1≤i→i≤s.length→s.length<i+N→aIq s=aD1 aL6 (s.drop i) i →
  (aBh aWt aAa (sg [pS] [rS,rS,rI,rB]) Tryz.f109 [.r,.r,.r,.l,.r,.b] N (aLn s i)).eval=some [.str (aAq s),.str (aNg s),.int .i64 (aOt s),.bool (aDc s)]:=by
 have h2:2≤s.length:=by
  unfold aDb at hs
  simp only[Bool.and_eq_true,decide_eq_true_eq]at hs
  exact hs.1
 intro N
 induction N with
 |zero=>intro i h1 h2;omega
 |succ N ih =>
  intro i h0 h1 h3 hc
  rw[aAv _ _ _ _ _ _ _ (by kernel_rfl),bE0]
  by_cases hi:i<s.length
  ·have w2:IntKind.i64.wrap ((i:Int)+1)=((i+1:Nat):Int):=by rw[aAg]<;>omega
   have m:(decide ((0:Int)≤i)&&decide ((i:Int)<s.length))=true:=by rw[decide_eq_true (by omega),decide_eq_true (by omega)];rfl
   have m0:(decide ((0:Int)≤0)&&decide ((0:Int)<s.length))=true:=by rw[decide_eq_true (by omega),decide_eq_true (by omega)];rfl
   have m1:(decide ((0:Int)≤i)&&decide ((i:Int)≤s.length)&&(decide ((0:Int)≤1)&&decide ((1:Int)≤i)))=true:=by
    rw[decide_eq_true (by omega),decide_eq_true (by omega),decide_eq_true (by omega),decide_eq_true (by omega)];rfl
   have m2:(decide ((0:Int)≤((i+1:Nat):Int))&&decide (((i+1:Nat):Int)≤s.length))=true:=by rw[decide_eq_true (by omega),decide_eq_true (by omega)];rfl
   have d1:(s.drop (i+1)).length≤281474976710656:=by rw[List.length_drop];omega
   have d2:((s.take i).drop 1).length≤281474976710656:=by rw[List.length_drop,List.length_take];omega
   rw[aBx s i 0 hi]at hc
   simp only[aD1]at hc
   rw[w2,Int.toNat_natCast,Int.toNat_natCast,List.take_length]
   refine aAc (decide_eq_true (by omega)) (aA7 m ?_)
   by_cases c:((s.getD i 0).toNat:Int)=58
   ·have c':(s.getD i 0).toNat=58:=by omega
    rw[if_pos (show aL6 (s.getD i 0)=true from decide_eq_true c')]at hc
    have cn:¬aIq s<0:=by omega
    have cp:0≤aIq s:=by omega
    have fr:aDz s=(s.take i).drop 1:=by unfold aDz;rw[hc,Int.toNat_natCast]
    have re:aDy s=s.drop (i+1):=by unfold aDy;rw[hc,Int.toNat_natCast]
    have nm:aAq s=(s.take i).drop 1:=by unfold aAq;rw[if_pos hs,if_neg h45,if_neg cn,fr]
    refine aAc (decide_eq_true c) (aA7 m0 ?_)
    show (T.ask (decide (aB3 s=62)) _ _).eval=_
    by_cases c2:aB3 s=62
    ·have to:aNg s=s.drop (i+1):=by unfold aNg;rw[hs,decide_eq_true c2,decide_eq_true cp,re];rfl
     have id0:aOt s=0:=by unfold aOt;rw[hs,decide_eq_false (show ¬aB3 s=43 by omega)];rfl
     have gd:aDc s=(aBf (s.drop (i+1))&& !decide ((s.take i).drop 1=s.drop (i+1))):=by
      unfold aDc;rw[hs,decide_eq_false h45,decide_eq_true cp,if_pos c2,fr,re];rfl
     rw[nm,to,id0,gd]
     refine aAc (decide_eq_true c2) (aA7 m1 (aA7 m2 (aA7 m2 (aA7 (decide_eq_true d1) ?_))))
     cases c3:aBf (s.drop (i+1))
     ·exact aAj rfl rfl
     ·refine aAc rfl (aA7 m1 (aA7 m2 ?_))
      by_cases c4:(s.take i).drop 1=s.drop (i+1)
      ·rw[decide_eq_true c4]
       refine aAj ?_ rfl
       show (!(List.drop 1 (List.take i s)==List.drop (i+1) s))=false
       rw[c4];simp
      ·rw[decide_eq_false c4]
       refine aAc ?_ rfl
       show (!(List.drop 1 (List.take i s)==List.drop (i+1) s))=true
       simpa using c4
    ·have c43:aB3 s=43:=by
      unfold aDb at hs
      simp only[Bool.and_eq_true,Bool.or_eq_true,decide_eq_true_eq]at hs
      omega
     have to:aNg s=[]:=by unfold aNg;rw[hs,decide_eq_false c2];rfl
     have id0:aOt s=aD8 (s.drop (i+1)):=by unfold aOt;rw[hs,decide_eq_true c43,decide_eq_true cp,re];rfl
     have gd:aDc s=(aM3 (s.drop (i+1))&&aBf ((s.take i).drop 1)):=by
      unfold aDc;rw[hs,decide_eq_false h45,decide_eq_true cp,if_neg c2,fr,re];rfl
     rw[nm,to,id0,gd]
     refine aAj (decide_eq_false c2) (aA7 m (aAc (decide_eq_true c) (aA7 m2 (aA7 (decide_eq_true d1) ?_))))
     cases c3:aM3 (s.drop (i+1))
     ·exact aAj rfl (aA7 m1 rfl)
     ·refine aAc rfl (aA7 m1 (aA7 m1 (aA7 (decide_eq_true d2) ?_)))
      show (T.ask (aBf ((s.take i).drop 1)) _ _).eval=_
      cases c4:aBf ((s.take i).drop 1)
      ·exact aAj rfl rfl
      ·exact aAc rfl rfl
   ·have c':¬(s.getD i 0).toNat=58:=by omega
    rw[if_neg (show ¬aL6 (s.getD i 0)=true by unfold aL6;simpa using c')]at hc
    exact aAj (decide_eq_false c) (aA7 m (aAj (decide_eq_false c) (ih (i+1) (by omega) (by omega) (by omega) hc)))
  ·have e:i=s.length:=by omega
   subst e
   rw[List.drop_length]at hc
   have cn:aIq s= -1:=hc
   have nm:aAq s=[]:=by unfold aAq;rw[if_pos hs,if_neg h45,if_pos (by omega)]
   have to:aNg s=[]:=by unfold aNg;rw[decide_eq_false (show ¬0≤aIq s by omega)];simp
   have id0:aOt s=0:=by unfold aOt;rw[decide_eq_false (show ¬0≤aIq s by omega)];simp
   have gd:aDc s=false:=by unfold aDc;rw[decide_eq_false h45,decide_eq_false (show ¬0≤aIq s by omega)];simp
   rw[nm,to,id0,gd]
   exact aAj (decide_eq_false (by omega)) rfl
theorem bL4 {s:List UInt8} (h:aDb s=false):aAq s=[]∧aNg s=[]∧aOt s=0∧aDc s=false:=by
 refine⟨?_,?_,?_,?_⟩
 ·unfold aAq;rw[h];rfl
 ·unfold aNg;rw[h];rfl
 ·unfold aOt;rw[h];rfl
 ·unfold aDc;rw[h];rfl
theorem bXr:aA8 Tryz.prog aWt:=aA6 (by simp[bQp,aJa])
theorem bI5:aAs Tryz.prog 109 (sg [pS] [rS,rS,rI,rB]) bAe:=aA5 bXr aA9 Tryz.func109 (by kernel_rfl) fun cs outs hk h=>by
 unfold bAe at h
 split at h
 ·simp only[Option.some.injEq,Prod.mk.injEq,decide_eq_true_eq]at h
  obtain⟨h1,rfl⟩:=h
  rename_i s
  rw[aAb,bN6,List.take_length]
  by_cases c:(s.length:Int)<2
  ·have hn:aDb s=false:=by unfold aDb;rw[decide_eq_false (by omega)];rfl
   obtain⟨e1,e2,e3,e4⟩:=bL4 hn
   rw[e1,e2,e3,e4]
   exact aAc (decide_eq_true c) rfl
  ·have m0:(decide ((0:Int)≤0)&&decide ((0:Int)<s.length))=true:=by rw[decide_eq_true (by omega),decide_eq_true (by omega)];rfl
   have m1:(decide ((0:Int)≤1)&&decide ((1:Int)≤s.length))=true:=by rw[decide_eq_true (by omega),decide_eq_true (by omega)];rfl
   have go:¬aB3 s=45→aDb s=true→(aBh aWt aAa (sg [pS] [rS,rS,rI,rB]) Tryz.f109 [.r,.r,.r,.l,.r,.b] 9223372036854775808 (aLn s 1)).eval=some [.str (aAq s),.str (aNg s),.int .i64 (aOt s),.bool (aDc s)]:=fun a b=>bN7 s b a h1 9223372036854775808 1 (by omega) (by omega) (by omega) rfl
   have is:aDb s=(decide (aB3 s=43)||decide (aB3 s=45)||decide (aB3 s=62)):=by unfold aDb;rw[decide_eq_true (by omega)];rfl
   have minus:aB3 s=45→aAq s=s.drop 1∧aNg s=[]∧aOt s=0∧aDc s=true:=fun h45=>by
    have hi:aDb s=true:=by rw[is,decide_eq_true h45];simp
    refine⟨?_,?_,?_,?_⟩
    ·unfold aAq;rw[if_pos hi,if_pos h45]
    ·unfold aNg;rw[decide_eq_false (show ¬aB3 s=62 by omega)];simp
    ·unfold aOt;rw[decide_eq_false (show ¬aB3 s=43 by omega)];simp
    ·unfold aDc;rw[hi,decide_eq_true h45];rfl
   refine aAj (decide_eq_false c) (aA7 m0 ?_)
   show (T.ask (aB3 s != 43) _ _).eval=_
   by_cases c43:aB3 s=43
   ·refine aAj (by rw[c43];rfl) (aA7 m0 ?_)
    show (T.ask (decide (aB3 s=45)) _ _).eval=_
    exact aAj (decide_eq_false (by omega)) (go (by omega) (by rw[is,decide_eq_true c43];rfl))
   ·refine aAc (by simpa using c43) (aA7 m0 ?_)
    show (T.ask (aB3 s != 45) _ _).eval=_
    by_cases c45:aB3 s=45
    ·refine aAj (by rw[c45];rfl) (aA7 m0 ?_)
     show (T.ask (decide (aB3 s=45)) _ _).eval=_
     obtain⟨e1,e2,e3,e4⟩:=minus c45
     rw[e1,e2,e3,e4]
     exact aAc (decide_eq_true c45) (aA7 m1 rfl)
    ·refine aAc (by simpa using c45) (aA7 m0 ?_)
     show (T.ask (aB3 s != 62) _ _).eval=_
     by_cases c62:aB3 s=62
     ·refine aAj (by rw[c62];rfl) (aA7 m0 ?_)
      show (T.ask (decide (aB3 s=45)) _ _).eval=_
      exact aAj (decide_eq_false c45) (go c45 (by rw[is,decide_eq_true c62];simp))
     ·have hn:aDb s=false:=by rw[is,decide_eq_false c43,decide_eq_false c45,decide_eq_false c62];rfl
      obtain⟨e1,e2,e3,e4⟩:=bL4 hn
      rw[e1,e2,e3,e4]
      exact aAc (by simpa using c62) rfl
 ·cases h
noncomputable section
def aEg (l:List En) (s:List UInt8):List En :=
 let l1:=if aB3 s=43 then l else aDg l (aAq s)
 let nm:=if aB3 s=43 then aAq s else aNg s
 let id:=if aB3 s=62 then aB4 l (aAq s)else aOt s
 if aB3 s=45 then l1 else aSp l1 ⟨nm,id⟩
def aBe (l:List En) (s:List UInt8):Bool:=aDc s&&aBf (aAq s)&&(decide (aB3 s=43)||aGn l (aAq s))
def aDs:List (List UInt8)→List En→Option (List En)
 |[],l=>some l
 |s::r,l=>if aBe l s then aDs r (aEg l s)else none
def aP4 (ss:List (List UInt8)) (n:Int):Nat:=(aHg n 0 ss.length).toNat
def bWd (os:List En) (ss:List (List UInt8)) (n:Int):Bool:=(aDs (ss.take (aP4 ss n)) os).isSome
def sdL (os:List En) (ss:List (List UInt8)) (n:Int):List En:=(aDs (ss.take (aP4 ss n)) os).getD []
def sdR (os ss:List (List C)) (n:Int):List (List C):=(sdL (ens os) (aDa ss) n).map eEn
def stB (os ss:List (List C)):Bool:=aI7 os&&bXl ss&&decide (os.length+ss.length≤dN)
def aUa:Spec:=fun cs=>match cs with
 |[.sl os,.sl ss,.int .i64 n]=>some (stB os ss,[.sl (sdR os ss n),.bool (bWd (ens os) (aDa ss) n)])
 |_=>none
def aCk (ss:List (List C)) (n:Int) (m:Nat) (l:List (List C)) (i:Int):St:=st1 [(1,.l (.sl ss)),(2,aB5 n),(8,.l (.ref 0 0 m)),(9,aB5 i)] 2 l
def aQf:Env:=mkE [(4,[1,2,8,9])] [(63,(sg [pI,pI,pI] [rI]),aOp),(37,(sg [pSl 92,pS] [rI]),aGh),(93,(sg [pSl 92,pS] [rB]),aPt),(96,(sg [pS] [rB]),aGv),(97,(sg [pSl 92,aDe] [rSl 92]),bIn),(94,(sg [pSl 92,pS] [rSl 92]),bCv),(109,(sg [pS] [rS,rS,rI,rB]),bAe)]
def aFn (next:Int):List Nd→Option Int→Bool
 |[],_=>true
 |x::r,p=>inB x.id 1 (next-1)&&(match p with | none=>true | some q=>decide (q<x.id))&&inB x.sure 0 x.text.length&&aFn next r (some x.id)
def aFj (ns:List Nd) (es os:List En) (ss:List (List UInt8)) (k:Nat):Bool :=
 bWd os ss k&&aC3 ns (sdL os ss k)&&(!decide (k=ss.length)||decide (sdL os ss k=es))
def bCx (ns:List Nd) (es os:List En) (ss:List (List UInt8)) (room next:Int):Bool :=
 decide (ns.length≤64)&&inB room 0 1000000000&&inB next 1 1000000000&&decide ((aCn ns:Int)≤room)&&aFn next ns none&&(List.range (ss.length+1)).all (aFj ns es os ss)
def aK7 (ns es os ss:List (List C)) (room next:Int):Bool:=bCx (nds ns) (ens es) (ens os) (aDa ss) room next
def aQk (ns es os ss:List (List C)):Bool:=aRx ns&&aI7 es&&stB os ss
def aH6:Spec:=fun cs=>match cs with
 |[.sl ns,.sl es,.sl os,.sl ss,.int .i64 r,.int .i64 x]=>some (aQk ns es os ss,[.bool (aK7 ns es os ss r x)])
 |_=>none
def aLp (ns es os ss:List (List C)) (r x i:Int):St:={slots:=[(1,.l (.ptr 0 0)),(3,aB5 i)],heap:=[(0,aYg ns es os ss r x)],next:=1,pins:=[]}
def aIx (ns es os ss:List (List C)) (r x i:Int):St:={slots:=[(1,.l (.ptr 0 0)),(5,aB5 i)],heap:=[(0,aYg ns es os ss r x)],next:=1,pins:=[]}
def aJ0:Env:=mkE [(4,[1,3]),(10,[1,5])] [(74,(sg [pI,pI,pI] [rB]),aDo),(35,(sg [aAy] [rI]),aHn),(76,(sg [aAy,pSl 92] [rB]),aFp),(77,(sg [pSl 92,pSl 92] [rB]),aLz),(75,(sg [pSl 92,pSl 9,pI] [rSl 92,rB]),aUa)]
end
theorem bI3 (H:List Pt→Nat→St→T (List C)) (os:List (List C)) (ss:List (List C)) (n:Int):(aAi aQf aAa (sg [pSl 92,pSl 9,pI] [rSl 92,rB]) Tryz.f75 H [C.sl os,C.sl ss,C.int .i64 n]).eval=((.must (decide (0=0)&&aBc (0+os.length) 24&&os.all fun r=>decide (r.length=2)) (H [Pt.r,Pt.r,Pt.r,Pt.l,Pt.r,Pt.b] 9223372036854775808 (aCk (ss) (aHg n 0 (↑ss.length:Int)) (0+os.length) (os) ((0:Int))))):T (List C)).eval:=aAh (by kernel_rfl)
theorem bAm (H:List Pt→Nat→St→T (List C)) (ss:List (List C)) (n:Int) (m2:Nat) (l:List (List C)) (i:Int) (k:Nat):(aB7 aQf aAa (sg [pSl 92,pSl 9,pI] [rSl 92,rB]) Tryz.f75 H [Pt.r,Pt.r,Pt.r,Pt.l,Pt.r,Pt.b] k (aCk ss n m2 l i)).eval=((.ask (decide (i<n)) (.must (decide ((0:Int)≤i)&&decide (i<(↑ss.length:Int))&&decide ((ss.getD i.toNat []).length=1)) (.must (decide (0<(ss.getD i.toNat []).length)&&C.is K.str ((ss.getD i.toNat []).getD 0 (C.fn 0 []))&&true) (.must (decide (((ss.getD i.toNat []).getD 0 (C.fn 0 [])).toStr.length≤281474976710656)) (.ask (aDc ((ss.getD i.toNat []).getD 0 (C.fn 0 [])).toStr) (.must (decide ((aAq ((ss.getD i.toNat []).getD 0 (C.fn 0 [])).toStr).length≤281474976710656)) (.ask (aBf (aAq ((ss.getD i.toNat []).getD 0 (C.fn 0 [])).toStr)) (.must (decide ((0:Int)≤i)&&decide (i<(↑ss.length:Int))&&decide ((ss.getD i.toNat []).length=1)) (.must (decide (0<(ss.getD i.toNat []).length)&&C.is K.str ((ss.getD i.toNat []).getD 0 (C.fn 0 []))&&true) (.must (decide ((0:Int)≤(0:Int))&&decide ((0:Int)<(↑((ss.getD i.toNat []).getD 0 (C.fn 0 [])).toStr.length:Int))) (.ask ((↑(((ss.getD i.toNat []).getD 0 (C.fn 0 [])).toStr.getD (Int.toNat 0) (0:UInt8)).toNat:Int) != (43:Int)) (.must (decide ((List.take m2 l).length≤aHh)&&aAf [K.str,K.int .i64] (List.take m2 l)) (.ask (aGn (ens (List.take m2 l)) (aAq ((ss.getD i.toNat []).getD 0 (C.fn 0 [])).toStr)) (.must (decide ((0:Int)≤i)&&decide (i<(↑ss.length:Int))&&decide ((ss.getD i.toNat []).length=1)) (.must (decide (0<(ss.getD i.toNat []).length)&&C.is K.str ((ss.getD i.toNat []).getD 0 (C.fn 0 []))&&true) (.must (decide ((0:Int)≤(0:Int))&&decide ((0:Int)<(↑((ss.getD i.toNat []).getD 0 (C.fn 0 [])).toStr.length:Int))) (.ask (decide ((↑(((ss.getD i.toNat []).getD 0 (C.fn 0 [])).toStr.getD (Int.toNat 0) (0:UInt8)).toNat:Int)=(62:Int))) (.must (decide ((List.take m2 l).length≤aHh)&&aAf [K.str,K.int .i64] (List.take m2 l)) (.must (decide ((0:Int)≤i)&&decide (i<(↑ss.length:Int))&&decide ((ss.getD i.toNat []).length=1)) (.must (decide (0<(ss.getD i.toNat []).length)&&C.is K.str ((ss.getD i.toNat []).getD 0 (C.fn 0 []))&&true) (.must (decide ((0:Int)≤(0:Int))&&decide ((0:Int)<(↑((ss.getD i.toNat []).getD 0 (C.fn 0 [])).toStr.length:Int))) (.ask ((↑(((ss.getD i.toNat []).getD 0 (C.fn 0 [])).toStr.getD (Int.toNat 0) (0:UInt8)).toNat:Int) != (43:Int)) (.must (aI7 (List.take m2 l)) (.must ((true&&(aCo (List.take m2 l) (aAq ((ss.getD i.toNat []).getD 0 (C.fn 0 [])).toStr)).all fun row=>decide (row.length=2))&&true&&true&&true) (.must (decide ((0:Int)≤i)&&decide (i<(↑ss.length:Int))&&decide ((ss.getD i.toNat []).length=1)) (.must (decide (0<(ss.getD i.toNat []).length)&&C.is K.str ((ss.getD i.toNat []).getD 0 (C.fn 0 []))&&true) (.must (decide ((0:Int)≤(0:Int))&&decide ((0:Int)<(↑((ss.getD i.toNat []).getD 0 (C.fn 0 [])).toStr.length:Int))) (.ask ((↑(((ss.getD i.toNat []).getD 0 (C.fn 0 [])).toStr.getD (Int.toNat 0) (0:UInt8)).toNat:Int) != (45:Int)) (.must (aI7 (List.take (aCo (List.take m2 l) (aAq ((ss.getD i.toNat []).getD 0 (C.fn 0 [])).toStr)).length (aCo (List.take m2 l) (aAq ((ss.getD i.toNat []).getD 0 (C.fn 0 [])).toStr)))) (.must ((true&&(aQj (List.take (aCo (List.take m2 l) (aAq ((ss.getD i.toNat []).getD 0 (C.fn 0 [])).toStr)).length (aCo (List.take m2 l) (aAq ((ss.getD i.toNat []).getD 0 (C.fn 0 [])).toStr))) (aNg ((ss.getD i.toNat []).getD 0 (C.fn 0 [])).toStr) (aB4 (ens (List.take m2 l)) (aAq ((ss.getD i.toNat []).getD 0 (C.fn 0 [])).toStr))).all fun row=>decide (row.length=2))&&true&&true&&true) (H [Pt.r,Pt.r,Pt.r,Pt.l,Pt.r,Pt.b] k (aCk (ss) (n) ((aQj (List.take (aCo (List.take m2 l) (aAq ((ss.getD i.toNat []).getD 0 (C.fn 0 [])).toStr)).length (aCo (List.take m2 l) (aAq ((ss.getD i.toNat []).getD 0 (C.fn 0 [])).toStr))) (aNg ((ss.getD i.toNat []).getD 0 (C.fn 0 [])).toStr) (aB4 (ens (List.take m2 l)) (aAq ((ss.getD i.toNat []).getD 0 (C.fn 0 [])).toStr))).length) (aQj (List.take (aCo (List.take m2 l) (aAq ((ss.getD i.toNat []).getD 0 (C.fn 0 [])).toStr)).length (aCo (List.take m2 l) (aAq ((ss.getD i.toNat []).getD 0 (C.fn 0 [])).toStr))) (aNg ((ss.getD i.toNat []).getD 0 (C.fn 0 [])).toStr) (aB4 (ens (List.take m2 l)) (aAq ((ss.getD i.toNat []).getD 0 (C.fn 0 [])).toStr))) (IntKind.i64.wrap (i+(1:Int))))))) (H [Pt.r,Pt.r,Pt.r,Pt.l,Pt.r,Pt.b] k (aCk (ss) (n) ((aCo (List.take m2 l) (aAq ((ss.getD i.toNat []).getD 0 (C.fn 0 [])).toStr)).length) (aCo (List.take m2 l) (aAq ((ss.getD i.toNat []).getD 0 (C.fn 0 [])).toStr)) (IntKind.i64.wrap (i+(1:Int))))))))))) (.must (decide ((0:Int)≤i)&&decide (i<(↑ss.length:Int))&&decide ((ss.getD i.toNat []).length=1)) (.must (decide (0<(ss.getD i.toNat []).length)&&C.is K.str ((ss.getD i.toNat []).getD 0 (C.fn 0 []))&&true) (.must (decide ((0:Int)≤(0:Int))&&decide ((0:Int)<(↑((ss.getD i.toNat []).getD 0 (C.fn 0 [])).toStr.length:Int))) (.ask ((↑(((ss.getD i.toNat []).getD 0 (C.fn 0 [])).toStr.getD (Int.toNat 0) (0:UInt8)).toNat:Int) != (45:Int)) (.must (aI7 (List.take m2 l)) (.must ((true&&(aQj (List.take m2 l) (aAq ((ss.getD i.toNat []).getD 0 (C.fn 0 [])).toStr) (aB4 (ens (List.take m2 l)) (aAq ((ss.getD i.toNat []).getD 0 (C.fn 0 [])).toStr))).all fun row=>decide (row.length=2))&&true&&true&&true) (H [Pt.r,Pt.r,Pt.r,Pt.l,Pt.r,Pt.b] k (aCk (ss) (n) ((aQj (List.take m2 l) (aAq ((ss.getD i.toNat []).getD 0 (C.fn 0 [])).toStr) (aB4 (ens (List.take m2 l)) (aAq ((ss.getD i.toNat []).getD 0 (C.fn 0 [])).toStr))).length) (aQj (List.take m2 l) (aAq ((ss.getD i.toNat []).getD 0 (C.fn 0 [])).toStr) (aB4 (ens (List.take m2 l)) (aAq ((ss.getD i.toNat []).getD 0 (C.fn 0 [])).toStr))) (IntKind.i64.wrap (i+(1:Int))))))) (H [Pt.r,Pt.r,Pt.r,Pt.l,Pt.r,Pt.b] k (aCk (ss) (n) (m2) (l) (IntKind.i64.wrap (i+(1:Int)))))))))))))) (.must (decide ((0:Int)≤i)&&decide (i<(↑ss.length:Int))&&decide ((ss.getD i.toNat []).length=1)) (.must (decide (0<(ss.getD i.toNat []).length)&&C.is K.str ((ss.getD i.toNat []).getD 0 (C.fn 0 []))&&true) (.must (decide ((0:Int)≤(0:Int))&&decide ((0:Int)<(↑((ss.getD i.toNat []).getD 0 (C.fn 0 [])).toStr.length:Int))) (.ask ((↑(((ss.getD i.toNat []).getD 0 (C.fn 0 [])).toStr.getD (Int.toNat 0) (0:UInt8)).toNat:Int) != (43:Int)) (.must (aI7 (List.take m2 l)) (.must ((true&&(aCo (List.take m2 l) (aAq ((ss.getD i.toNat []).getD 0 (C.fn 0 [])).toStr)).all fun row=>decide (row.length=2))&&true&&true&&true) (.must (decide ((0:Int)≤i)&&decide (i<(↑ss.length:Int))&&decide ((ss.getD i.toNat []).length=1)) (.must (decide (0<(ss.getD i.toNat []).length)&&C.is K.str ((ss.getD i.toNat []).getD 0 (C.fn 0 []))&&true) (.must (decide ((0:Int)≤(0:Int))&&decide ((0:Int)<(↑((ss.getD i.toNat []).getD 0 (C.fn 0 [])).toStr.length:Int))) (.ask ((↑(((ss.getD i.toNat []).getD 0 (C.fn 0 [])).toStr.getD (Int.toNat 0) (0:UInt8)).toNat:Int) != (45:Int)) (.must (aI7 (List.take (aCo (List.take m2 l) (aAq ((ss.getD i.toNat []).getD 0 (C.fn 0 [])).toStr)).length (aCo (List.take m2 l) (aAq ((ss.getD i.toNat []).getD 0 (C.fn 0 [])).toStr)))) (.must ((true&&(aQj (List.take (aCo (List.take m2 l) (aAq ((ss.getD i.toNat []).getD 0 (C.fn 0 [])).toStr)).length (aCo (List.take m2 l) (aAq ((ss.getD i.toNat []).getD 0 (C.fn 0 [])).toStr))) (aNg ((ss.getD i.toNat []).getD 0 (C.fn 0 [])).toStr) (aOt ((ss.getD i.toNat []).getD 0 (C.fn 0 [])).toStr)).all fun row=>decide (row.length=2))&&true&&true&&true) (H [Pt.r,Pt.r,Pt.r,Pt.l,Pt.r,Pt.b] k (aCk (ss) (n) ((aQj (List.take (aCo (List.take m2 l) (aAq ((ss.getD i.toNat []).getD 0 (C.fn 0 [])).toStr)).length (aCo (List.take m2 l) (aAq ((ss.getD i.toNat []).getD 0 (C.fn 0 [])).toStr))) (aNg ((ss.getD i.toNat []).getD 0 (C.fn 0 [])).toStr) (aOt ((ss.getD i.toNat []).getD 0 (C.fn 0 [])).toStr)).length) (aQj (List.take (aCo (List.take m2 l) (aAq ((ss.getD i.toNat []).getD 0 (C.fn 0 [])).toStr)).length (aCo (List.take m2 l) (aAq ((ss.getD i.toNat []).getD 0 (C.fn 0 [])).toStr))) (aNg ((ss.getD i.toNat []).getD 0 (C.fn 0 [])).toStr) (aOt ((ss.getD i.toNat []).getD 0 (C.fn 0 [])).toStr)) (IntKind.i64.wrap (i+(1:Int))))))) (H [Pt.r,Pt.r,Pt.r,Pt.l,Pt.r,Pt.b] k (aCk (ss) (n) ((aCo (List.take m2 l) (aAq ((ss.getD i.toNat []).getD 0 (C.fn 0 [])).toStr)).length) (aCo (List.take m2 l) (aAq ((ss.getD i.toNat []).getD 0 (C.fn 0 [])).toStr)) (IntKind.i64.wrap (i+(1:Int))))))))))) (.must (decide ((0:Int)≤i)&&decide (i<(↑ss.length:Int))&&decide ((ss.getD i.toNat []).length=1)) (.must (decide (0<(ss.getD i.toNat []).length)&&C.is K.str ((ss.getD i.toNat []).getD 0 (C.fn 0 []))&&true) (.must (decide ((0:Int)≤(0:Int))&&decide ((0:Int)<(↑((ss.getD i.toNat []).getD 0 (C.fn 0 [])).toStr.length:Int))) (.ask ((↑(((ss.getD i.toNat []).getD 0 (C.fn 0 [])).toStr.getD (Int.toNat 0) (0:UInt8)).toNat:Int) != (45:Int)) (.must (aI7 (List.take m2 l)) (.must ((true&&(aQj (List.take m2 l) (aAq ((ss.getD i.toNat []).getD 0 (C.fn 0 [])).toStr) (aOt ((ss.getD i.toNat []).getD 0 (C.fn 0 [])).toStr)).all fun row=>decide (row.length=2))&&true&&true&&true) (H [Pt.r,Pt.r,Pt.r,Pt.l,Pt.r,Pt.b] k (aCk (ss) (n) ((aQj (List.take m2 l) (aAq ((ss.getD i.toNat []).getD 0 (C.fn 0 [])).toStr) (aOt ((ss.getD i.toNat []).getD 0 (C.fn 0 [])).toStr)).length) (aQj (List.take m2 l) (aAq ((ss.getD i.toNat []).getD 0 (C.fn 0 [])).toStr) (aOt ((ss.getD i.toNat []).getD 0 (C.fn 0 [])).toStr)) (IntKind.i64.wrap (i+(1:Int))))))) (H [Pt.r,Pt.r,Pt.r,Pt.l,Pt.r,Pt.b] k (aCk (ss) (n) (m2) (l) (IntKind.i64.wrap (i+(1:Int))))))))))))))))) (.ret [C.sl [],C.bool false]))) (.must (decide ((0:Int)≤i)&&decide (i<(↑ss.length:Int))&&decide ((ss.getD i.toNat []).length=1)) (.must (decide (0<(ss.getD i.toNat []).length)&&C.is K.str ((ss.getD i.toNat []).getD 0 (C.fn 0 []))&&true) (.must (decide ((0:Int)≤(0:Int))&&decide ((0:Int)<(↑((ss.getD i.toNat []).getD 0 (C.fn 0 [])).toStr.length:Int))) (.ask (decide ((↑(((ss.getD i.toNat []).getD 0 (C.fn 0 [])).toStr.getD (Int.toNat 0) (0:UInt8)).toNat:Int)=(62:Int))) (.must (decide ((List.take m2 l).length≤aHh)&&aAf [K.str,K.int .i64] (List.take m2 l)) (.must (decide ((0:Int)≤i)&&decide (i<(↑ss.length:Int))&&decide ((ss.getD i.toNat []).length=1)) (.must (decide (0<(ss.getD i.toNat []).length)&&C.is K.str ((ss.getD i.toNat []).getD 0 (C.fn 0 []))&&true) (.must (decide ((0:Int)≤(0:Int))&&decide ((0:Int)<(↑((ss.getD i.toNat []).getD 0 (C.fn 0 [])).toStr.length:Int))) (.ask ((↑(((ss.getD i.toNat []).getD 0 (C.fn 0 [])).toStr.getD (Int.toNat 0) (0:UInt8)).toNat:Int) != (43:Int)) (.must (aI7 (List.take m2 l)) (.must ((true&&(aCo (List.take m2 l) (aAq ((ss.getD i.toNat []).getD 0 (C.fn 0 [])).toStr)).all fun row=>decide (row.length=2))&&true&&true&&true) (.must (decide ((0:Int)≤i)&&decide (i<(↑ss.length:Int))&&decide ((ss.getD i.toNat []).length=1)) (.must (decide (0<(ss.getD i.toNat []).length)&&C.is K.str ((ss.getD i.toNat []).getD 0 (C.fn 0 []))&&true) (.must (decide ((0:Int)≤(0:Int))&&decide ((0:Int)<(↑((ss.getD i.toNat []).getD 0 (C.fn 0 [])).toStr.length:Int))) (.ask ((↑(((ss.getD i.toNat []).getD 0 (C.fn 0 [])).toStr.getD (Int.toNat 0) (0:UInt8)).toNat:Int) != (45:Int)) (.must (aI7 (List.take (aCo (List.take m2 l) (aAq ((ss.getD i.toNat []).getD 0 (C.fn 0 [])).toStr)).length (aCo (List.take m2 l) (aAq ((ss.getD i.toNat []).getD 0 (C.fn 0 [])).toStr)))) (.must ((true&&(aQj (List.take (aCo (List.take m2 l) (aAq ((ss.getD i.toNat []).getD 0 (C.fn 0 [])).toStr)).length (aCo (List.take m2 l) (aAq ((ss.getD i.toNat []).getD 0 (C.fn 0 [])).toStr))) (aNg ((ss.getD i.toNat []).getD 0 (C.fn 0 [])).toStr) (aB4 (ens (List.take m2 l)) (aAq ((ss.getD i.toNat []).getD 0 (C.fn 0 [])).toStr))).all fun row=>decide (row.length=2))&&true&&true&&true) (H [Pt.r,Pt.r,Pt.r,Pt.l,Pt.r,Pt.b] k (aCk (ss) (n) ((aQj (List.take (aCo (List.take m2 l) (aAq ((ss.getD i.toNat []).getD 0 (C.fn 0 [])).toStr)).length (aCo (List.take m2 l) (aAq ((ss.getD i.toNat []).getD 0 (C.fn 0 [])).toStr))) (aNg ((ss.getD i.toNat []).getD 0 (C.fn 0 [])).toStr) (aB4 (ens (List.take m2 l)) (aAq ((ss.getD i.toNat []).getD 0 (C.fn 0 [])).toStr))).length) (aQj (List.take (aCo (List.take m2 l) (aAq ((ss.getD i.toNat []).getD 0 (C.fn 0 [])).toStr)).length (aCo (List.take m2 l) (aAq ((ss.getD i.toNat []).getD 0 (C.fn 0 [])).toStr))) (aNg ((ss.getD i.toNat []).getD 0 (C.fn 0 [])).toStr) (aB4 (ens (List.take m2 l)) (aAq ((ss.getD i.toNat []).getD 0 (C.fn 0 [])).toStr))) (IntKind.i64.wrap (i+(1:Int))))))) (H [Pt.r,Pt.r,Pt.r,Pt.l,Pt.r,Pt.b] k (aCk (ss) (n) ((aCo (List.take m2 l) (aAq ((ss.getD i.toNat []).getD 0 (C.fn 0 [])).toStr)).length) (aCo (List.take m2 l) (aAq ((ss.getD i.toNat []).getD 0 (C.fn 0 [])).toStr)) (IntKind.i64.wrap (i+(1:Int))))))))))) (.must (decide ((0:Int)≤i)&&decide (i<(↑ss.length:Int))&&decide ((ss.getD i.toNat []).length=1)) (.must (decide (0<(ss.getD i.toNat []).length)&&C.is K.str ((ss.getD i.toNat []).getD 0 (C.fn 0 []))&&true) (.must (decide ((0:Int)≤(0:Int))&&decide ((0:Int)<(↑((ss.getD i.toNat []).getD 0 (C.fn 0 [])).toStr.length:Int))) (.ask ((↑(((ss.getD i.toNat []).getD 0 (C.fn 0 [])).toStr.getD (Int.toNat 0) (0:UInt8)).toNat:Int) != (45:Int)) (.must (aI7 (List.take m2 l)) (.must ((true&&(aQj (List.take m2 l) (aAq ((ss.getD i.toNat []).getD 0 (C.fn 0 [])).toStr) (aB4 (ens (List.take m2 l)) (aAq ((ss.getD i.toNat []).getD 0 (C.fn 0 [])).toStr))).all fun row=>decide (row.length=2))&&true&&true&&true) (H [Pt.r,Pt.r,Pt.r,Pt.l,Pt.r,Pt.b] k (aCk (ss) (n) ((aQj (List.take m2 l) (aAq ((ss.getD i.toNat []).getD 0 (C.fn 0 [])).toStr) (aB4 (ens (List.take m2 l)) (aAq ((ss.getD i.toNat []).getD 0 (C.fn 0 [])).toStr))).length) (aQj (List.take m2 l) (aAq ((ss.getD i.toNat []).getD 0 (C.fn 0 [])).toStr) (aB4 (ens (List.take m2 l)) (aAq ((ss.getD i.toNat []).getD 0 (C.fn 0 [])).toStr))) (IntKind.i64.wrap (i+(1:Int))))))) (H [Pt.r,Pt.r,Pt.r,Pt.l,Pt.r,Pt.b] k (aCk (ss) (n) (m2) (l) (IntKind.i64.wrap (i+(1:Int)))))))))))))) (.must (decide ((0:Int)≤i)&&decide (i<(↑ss.length:Int))&&decide ((ss.getD i.toNat []).length=1)) (.must (decide (0<(ss.getD i.toNat []).length)&&C.is K.str ((ss.getD i.toNat []).getD 0 (C.fn 0 []))&&true) (.must (decide ((0:Int)≤(0:Int))&&decide ((0:Int)<(↑((ss.getD i.toNat []).getD 0 (C.fn 0 [])).toStr.length:Int))) (.ask ((↑(((ss.getD i.toNat []).getD 0 (C.fn 0 [])).toStr.getD (Int.toNat 0) (0:UInt8)).toNat:Int) != (43:Int)) (.must (aI7 (List.take m2 l)) (.must ((true&&(aCo (List.take m2 l) (aAq ((ss.getD i.toNat []).getD 0 (C.fn 0 [])).toStr)).all fun row=>decide (row.length=2))&&true&&true&&true) (.must (decide ((0:Int)≤i)&&decide (i<(↑ss.length:Int))&&decide ((ss.getD i.toNat []).length=1)) (.must (decide (0<(ss.getD i.toNat []).length)&&C.is K.str ((ss.getD i.toNat []).getD 0 (C.fn 0 []))&&true) (.must (decide ((0:Int)≤(0:Int))&&decide ((0:Int)<(↑((ss.getD i.toNat []).getD 0 (C.fn 0 [])).toStr.length:Int))) (.ask ((↑(((ss.getD i.toNat []).getD 0 (C.fn 0 [])).toStr.getD (Int.toNat 0) (0:UInt8)).toNat:Int) != (45:Int)) (.must (aI7 (List.take (aCo (List.take m2 l) (aAq ((ss.getD i.toNat []).getD 0 (C.fn 0 [])).toStr)).length (aCo (List.take m2 l) (aAq ((ss.getD i.toNat []).getD 0 (C.fn 0 [])).toStr)))) (.must ((true&&(aQj (List.take (aCo (List.take m2 l) (aAq ((ss.getD i.toNat []).getD 0 (C.fn 0 [])).toStr)).length (aCo (List.take m2 l) (aAq ((ss.getD i.toNat []).getD 0 (C.fn 0 [])).toStr))) (aNg ((ss.getD i.toNat []).getD 0 (C.fn 0 [])).toStr) (aOt ((ss.getD i.toNat []).getD 0 (C.fn 0 [])).toStr)).all fun row=>decide (row.length=2))&&true&&true&&true) (H [Pt.r,Pt.r,Pt.r,Pt.l,Pt.r,Pt.b] k (aCk (ss) (n) ((aQj (List.take (aCo (List.take m2 l) (aAq ((ss.getD i.toNat []).getD 0 (C.fn 0 [])).toStr)).length (aCo (List.take m2 l) (aAq ((ss.getD i.toNat []).getD 0 (C.fn 0 [])).toStr))) (aNg ((ss.getD i.toNat []).getD 0 (C.fn 0 [])).toStr) (aOt ((ss.getD i.toNat []).getD 0 (C.fn 0 [])).toStr)).length) (aQj (List.take (aCo (List.take m2 l) (aAq ((ss.getD i.toNat []).getD 0 (C.fn 0 [])).toStr)).length (aCo (List.take m2 l) (aAq ((ss.getD i.toNat []).getD 0 (C.fn 0 [])).toStr))) (aNg ((ss.getD i.toNat []).getD 0 (C.fn 0 [])).toStr) (aOt ((ss.getD i.toNat []).getD 0 (C.fn 0 [])).toStr)) (IntKind.i64.wrap (i+(1:Int))))))) (H [Pt.r,Pt.r,Pt.r,Pt.l,Pt.r,Pt.b] k (aCk (ss) (n) ((aCo (List.take m2 l) (aAq ((ss.getD i.toNat []).getD 0 (C.fn 0 [])).toStr)).length) (aCo (List.take m2 l) (aAq ((ss.getD i.toNat []).getD 0 (C.fn 0 [])).toStr)) (IntKind.i64.wrap (i+(1:Int))))))))))) (.must (decide ((0:Int)≤i)&&decide (i<(↑ss.length:Int))&&decide ((ss.getD i.toNat []).length=1)) (.must (decide (0<(ss.getD i.toNat []).length)&&C.is K.str ((ss.getD i.toNat []).getD 0 (C.fn 0 []))&&true) (.must (decide ((0:Int)≤(0:Int))&&decide ((0:Int)<(↑((ss.getD i.toNat []).getD 0 (C.fn 0 [])).toStr.length:Int))) (.ask ((↑(((ss.getD i.toNat []).getD 0 (C.fn 0 [])).toStr.getD (Int.toNat 0) (0:UInt8)).toNat:Int) != (45:Int)) (.must (aI7 (List.take m2 l)) (.must ((true&&(aQj (List.take m2 l) (aAq ((ss.getD i.toNat []).getD 0 (C.fn 0 [])).toStr) (aOt ((ss.getD i.toNat []).getD 0 (C.fn 0 [])).toStr)).all fun row=>decide (row.length=2))&&true&&true&&true) (H [Pt.r,Pt.r,Pt.r,Pt.l,Pt.r,Pt.b] k (aCk (ss) (n) ((aQj (List.take m2 l) (aAq ((ss.getD i.toNat []).getD 0 (C.fn 0 [])).toStr) (aOt ((ss.getD i.toNat []).getD 0 (C.fn 0 [])).toStr)).length) (aQj (List.take m2 l) (aAq ((ss.getD i.toNat []).getD 0 (C.fn 0 [])).toStr) (aOt ((ss.getD i.toNat []).getD 0 (C.fn 0 [])).toStr)) (IntKind.i64.wrap (i+(1:Int))))))) (H [Pt.r,Pt.r,Pt.r,Pt.l,Pt.r,Pt.b] k (aCk (ss) (n) (m2) (l) (IntKind.i64.wrap (i+(1:Int))))))))))))))))))))) (.ret [C.sl [],C.bool false]))) (.ret [C.sl [],C.bool false]))))) (.must (decide (m2=l.length)&&(false||l.all fun r=>r.all C.flat)&&true&&(true&&(false||true)&&true&&true)&&true) (.ret [C.sl l,C.bool true]))):T (List C)).eval:=aAh (by kernel_rfl)
theorem bEj (H:List Pt→Nat→St→T (List C)) (ns:List (List C)) (es:List (List C)) (os:List (List C)) (ss:List (List C)) (r:Int) (x:Int):(aAi aJ0 aAa (sg [aAy] [rB]) Tryz.f34 H [C.sl ns,C.sl es,C.sl os,C.sl ss,C.int .i64 r,C.int .i64 x]).eval=((.ask (decide ((64:Int)<(↑ns.length:Int))) (.ret [C.bool false]) (.ask (inB r 0 1000000000) (.ask (inB x 1 1000000000) (.must (aRx ns) (.ask (decide (r<Int.ofNat (aCn (nds ns)))) (.ret [C.bool false]) (H [Pt.r,Pt.r,Pt.l,Pt.r,Pt.b] 9223372036854775808 (aLp (ns) (es) (os) (ss) (r) (x) ((0:Int)))))) (.ret [C.bool false])) (.ret [C.bool false]))):T (List C)).eval:=aAh (by kernel_rfl)
theorem aXs (H:List Pt→Nat→St→T (List C)) (ns:List (List C)) (es:List (List C)) (os:List (List C)) (ss:List (List C)) (r:Int) (x:Int) (i:Int) (k:Nat):(aB7 aJ0 aAa (sg [aAy] [rB]) Tryz.f34 H [Pt.r,Pt.r,Pt.l,Pt.r,Pt.b] k (aLp ns es os ss r x i)).eval=((.ask (decide (i<(↑ns.length:Int))) (.must (decide ((0:Int)≤i)&&decide (i<(↑ns.length:Int))&&decide ((ns.getD i.toNat []).length=3)) (.must (decide (0<(ns.getD i.toNat []).length)&&C.is (K.int .i64) ((ns.getD i.toNat []).getD 0 (C.fn 0 []))&&(decide (0+1<(ns.getD i.toNat []).length)&&C.is K.str ((ns.getD i.toNat []).getD (0+1) (C.fn 0 []))&&(decide (0+1+1<(ns.getD i.toNat []).length)&&C.is (K.int .i64) ((ns.getD i.toNat []).getD (0+1+1) (C.fn 0 []))&&true))) (.ask (inB ((ns.getD i.toNat []).getD 0 (C.fn 0 [])).toInt 1 (IntKind.i64.wrap (x-(1:Int)))) (.ask (decide ((0:Int)<i)) (.must (decide ((0:Int)≤IntKind.i64.wrap (i-(1:Int)))&&decide (IntKind.i64.wrap (i-(1:Int))<(↑ns.length:Int))&&decide ((ns.getD (IntKind.i64.wrap (i-(1:Int))).toNat []).length=3)) (.must (decide (0+0<(ns.getD (IntKind.i64.wrap (i-(1:Int))).toNat []).length)&&C.is (K.int .i64) ((ns.getD (IntKind.i64.wrap (i-(1:Int))).toNat []).getD (0+0) (C.fn 0 []))&&true) (.ask (decide (((ns.getD i.toNat []).getD 0 (C.fn 0 [])).toInt≤((ns.getD (IntKind.i64.wrap (i-(1:Int))).toNat []).getD (0+0) (C.fn 0 [])).toInt)) (.ret [C.bool false]) (.ask (inB ((ns.getD i.toNat []).getD (0+1+1) (C.fn 0 [])).toInt 0 (↑((ns.getD i.toNat []).getD (0+1) (C.fn 0 [])).toStr.length:Int)) (H [Pt.r,Pt.r,Pt.l,Pt.r,Pt.b] k (aLp (ns) (es) (os) (ss) (r) (x) (IntKind.i64.wrap (i+(1:Int))))) (.ret [C.bool false]))))) (.ask (inB ((ns.getD i.toNat []).getD (0+1+1) (C.fn 0 [])).toInt 0 (↑((ns.getD i.toNat []).getD (0+1) (C.fn 0 [])).toStr.length:Int)) (H [Pt.r,Pt.r,Pt.l,Pt.r,Pt.b] k (aLp (ns) (es) (os) (ss) (r) (x) (IntKind.i64.wrap (i+(1:Int))))) (.ret [C.bool false]))) (.ret [C.bool false])))) (H [Pt.r,Pt.r,Pt.r,Pt.l,Pt.r,Pt.b] 9223372036854775808 (aIx (ns) (es) (os) (ss) (r) (x) ((0:Int))))):T (List C)).eval:=aAh (by kernel_rfl)
theorem aV1 (H:List Pt→Nat→St→T (List C)) (ns:List (List C)) (es:List (List C)) (os:List (List C)) (ss:List (List C)) (r:Int) (x:Int) (i:Int) (k:Nat):(aB7 aJ0 aAa (sg [aAy] [rB]) Tryz.f34 H [Pt.r,Pt.r,Pt.r,Pt.l,Pt.r,Pt.b] k (aIx ns es os ss r x i)).eval=((.ask (decide (i≤(↑ss.length:Int))) (.must (stB os ss) (.must ((true&&(sdR os ss i).all fun row=>decide (row.length=2))&&true&&(decide (0<1)&&true&&true&&true)&&true) (.ask (bWd (ens os) (aDa ss) i) (.must (aRx ns&&aI7 (List.take (sdR os ss i).length (sdR os ss i))) (.ask (aC3 (nds ns) (ens (List.take (sdR os ss i).length (sdR os ss i)))) (.ask (decide (i=(↑ss.length:Int))) (.must (aI7 (List.take (sdR os ss i).length (sdR os ss i))&&aI7 es) (.ask (decide (ens (List.take (sdR os ss i).length (sdR os ss i))=ens es)) (H [Pt.r,Pt.r,Pt.r,Pt.l,Pt.r,Pt.b] k (aIx (ns) (es) (os) (ss) (r) (x) (IntKind.i64.wrap (i+(1:Int))))) (.ret [C.bool false]))) (H [Pt.r,Pt.r,Pt.r,Pt.l,Pt.r,Pt.b] k (aIx (ns) (es) (os) (ss) (r) (x) (IntKind.i64.wrap (i+(1:Int)))))) (.ret [C.bool false]))) (.ret [C.bool false])))) (.ret [C.bool true])):T (List C)).eval:=aAh (by kernel_rfl)
theorem aJ7 {os ss:List (List C)}:stB os ss=true↔aI7 os=true∧bXl ss=true∧os.length+ss.length≤16777216:=by simp only[stB,dN,Bool.and_eq_true,decide_eq_true_eq,and_assoc]
theorem bSl (l:List En) (nm:List UInt8):aCo (l.map eEn) nm=(aDg l nm).map eEn:=by unfold aCo;rw[aJn]
theorem bB7 (l:List En) (nm:List UInt8) (id:Int):aQj (l.map eEn) nm id=(aSp l ⟨nm,id⟩).map eEn:=by unfold aQj;rw[aJn]
theorem en2 (l:List En):((l.map eEn).all fun row=>decide (row.length=2))=true:=by simp
theorem aYs (s:List UInt8):(aAq s).length≤s.length:=by
 unfold aAq aDz
 split
 ·split
  ·rw[List.length_drop];omega
  ·split
   ·simp
   ·rw[List.length_drop,List.length_take];omega
 ·simp
theorem bTy (s:List UInt8):(aNg s).length≤s.length:=by
 unfold aNg aDy
 split
 ·rw[List.length_drop];omega
 ·simp
theorem bGn (l:List En) (s:List UInt8) (B:Nat) (hs:s.length≤B) (hl:∀ x∈l,x.name.length≤B):(aEg l s).length≤l.length+1∧∀ x∈aEg l s,x.name.length≤B:=by
 have h1:=aYs s
 have h2:=bTy s
 have d1:=aZg l (aAq s)
 unfold aEg
 by_cases c43:aB3 s=43
 ·have c45:¬aB3 s=45:=by omega
  have c62:¬aB3 s=62:=by omega
  simp only[if_pos c43,if_neg c45,if_neg c62]
  refine⟨bEz _ _,fun x hx=>?_⟩
  rcases bEy hx with rfl | hx
  ·show (aAq s).length≤B;omega
  ·exact hl x hx
 ·simp only[if_neg c43]
  by_cases c45:aB3 s=45
  ·simp only[if_pos c45]
   exact⟨by omega,fun x hx=>hl x (aRf hx)⟩
  ·simp only[if_neg c45]
   refine⟨by have:=bEz (aDg l (aAq s)) ⟨aNg s,if aB3 s=62 then aB4 l (aAq s)else aOt s⟩;omega,fun x hx=>?_⟩
   rcases bEy hx with rfl | hx
   ·show (aNg s).length≤B;omega
   ·exact hl x (aRf hx)
theorem aYr (B:Nat):∀ (t:List (List UInt8)) (l l':List En),aDs t l=some l'→(∀ s∈t,s.length≤B)→(∀ x∈l,x.name.length≤B)→l'.length≤l.length+t.length∧∀ x∈l',x.name.length≤B
 |[],l,l',h,_,hl=>by
  obtain rfl:=Option.some.inj h
  exact⟨by simp,hl⟩
 |s::t,l,l',h,ht,hl=>by
  unfold aDs at h
  split at h
  ·obtain⟨a,b⟩:=bGn l s B (ht s List.mem_cons_self) hl
   obtain⟨c,d⟩:=aYr B t _ l' h (fun x hx=>ht x (List.mem_cons_of_mem _ hx)) b
   exact⟨by simp only[List.length_cons];omega,d⟩
  ·cases h
theorem bQ2 (ss:List (List UInt8)) (n:Int):aP4 ss n≤ss.length∧((aP4 ss n:Nat):Int)=aHg n 0 ss.length:=by
 unfold aP4 aHg
 split
 ·exact⟨by simp,by simp⟩
 ·split
  ·exact⟨by simp,by simp⟩
  ·exact⟨by omega,by omega⟩
theorem bU0 {os ss:List (List C)} (h:stB os ss=true) (n:Int):(sdL (ens os) (aDa ss) n).length≤16777216∧∀ x∈sdL (ens os) (aDa ss) n,x.name.length≤16777216:=by
 obtain⟨h1,h2,h3⟩:=aJ7.1 h
 obtain⟨l,rfl,e,_,ht⟩:=aEp h1
 obtain⟨t,rfl,e2,_,ht2⟩:=aU9 h2
 rw[e,e2]
 simp only[List.length_map]at h3
 unfold sdL
 cases hg:aDs (t.take (aP4 t n)) l with
 |none=>exact⟨by simp,fun x hx=>by simp at hx⟩
 |some l' =>
  obtain⟨a,b⟩:=aYr 16777216 _ l l' hg (fun s hs=>ht2 s (List.mem_of_mem_take hs)) ht
  rw[List.length_take]at a
  exact⟨by show l'.length≤_;omega,b⟩
theorem bZs {os ss:List (List C)} (h:stB os ss=true) (n:Int):aI7 (sdR os ss n)=true:=aPz.2 (bU0 h n)
theorem bKm (l:List En) (h:l.length≤16777216):(decide (l.length≤aHh)&&aAf [K.str,K.int .i64] (l.map eEn))=true:=by
 rw[decide_eq_true (Nat.le_trans h (by decide))]
 exact aM0 l
theorem bVj {s:List UInt8} (h:aDc s=true):2≤s.length∧(aB3 s=43∨aB3 s=45∨aB3 s=62):=by
 unfold aDc aDb at h
 simp only[Bool.and_eq_true,Bool.or_eq_true,decide_eq_true_eq]at h
 exact⟨h.1.1,by omega⟩
theorem bI4 (ss:List (List UInt8)) (n:Nat) (hn:n≤ss.length) (hl:ss.length≤16777216) (hss:∀ x∈ss,x.length≤16777216):∀ (N i:Nat) (l:List En),i≤n→n<i+N→l.length+(n-i)≤16777216→(∀ x∈l,x.name.length≤16777216) →
  (aBh aQf aAa (sg [pSl 92,pSl 9,pI] [rSl 92,rB]) Tryz.f75 [.r,.r,.r,.l,.r,.b] N (aCk (ss.map aCd) n l.length (l.map eEn) i)).eval=some [.sl (((aDs ((ss.take n).drop i) l).getD []).map eEn),.bool (aDs ((ss.take n).drop i) l).isSome]:=by
 intro N
 induction N with
 |zero=>intro i l h1 h2;omega
 |succ N ih =>
  intro i l h1 h2 h3 h4
  rw[aAv _ _ _ _ _ _ _ (by kernel_rfl),bAm]
  by_cases hi:i<n
  ·have hi2:i<ss.length:=by omega
   have g:=aAx aCd ss [] i hi2
   have w2:IntKind.i64.wrap ((i:Int)+1)=((i+1:Nat):Int):=by rw[aAg]<;>omega
   have hlen:(ss.take n).length=n:=by rw[List.length_take];omega
   have gt:(ss.take n).getD i []=ss.getD i []:=by simp[List.getD_eq_getElem?_getD,List.getElem?_take,hi]
   rw[aBx (ss.take n) i [] (by omega),gt]
   have hb:=hss _ (aJj (d:=[]) hi2)
   generalize ss.getD i []=s at g hb ⊢
   have tk:List.take l.length (l.map eEn)=l.map eEn:=by rw[List.take_of_length_le];simp
   have m1:=at2 ss.length i hi2 1 1 rfl
   have eb:aI7 (l.map eEn)=true:=aPz.2 ⟨by omega,h4⟩
   have big:=bKm l (by omega)
   have nl:=aYs s
   have go:∀ q:List En,aBe l s=true→aEg l s=q→q.length+(n-(i+1))≤16777216→(∀ x∈q,x.name.length≤16777216)→(aBh aQf aAa (sg [pSl 92,pSl 9,pI] [rSl 92,rB]) Tryz.f75 [.r,.r,.r,.l,.r,.b] N (aCk (ss.map aCd) n q.length (q.map eEn) ((i+1:Nat):Int))).eval=some [.sl (((aDs (s::(ss.take n).drop (i+1)) l).getD []).map eEn),.bool (aDs (s::(ss.take n).drop (i+1)) l).isSome]:=fun q hf hq b1 b2=>by
    have:=ih (i+1) q (by omega) (by omega) b1 b2
    rw[this]
    have e:aDs (s::(ss.take n).drop (i+1)) l=aDs ((ss.take n).drop (i+1)) q:=by show (if aBe l s then _ else none)=_;rw[if_pos hf,hq]
    rw[e]
   have bad:aBe l s=false→(some [C.sl [],C.bool false]:Option (List C))=some [.sl (((aDs (s::(ss.take n).drop (i+1)) l).getD []).map eEn),.bool (aDs (s::(ss.take n).drop (i+1)) l).isSome]:=fun hf=>by
    have e:aDs (s::(ss.take n).drop (i+1)) l=none:=by show (if aBe l s then _ else none)=_;rw[hf];rfl
    rw[e];rfl
   obtain⟨q1,q2⟩:=bGn l s 16777216 hb h4
   have d1:=aZg l (aAq s)
   have eb2:aI7 ((aDg l (aAq s)).map eEn)=true:=aPz.2 ⟨by omega,fun x hx=>h4 x (aRf hx)⟩
   have r2:=fun q:List En=>en2 q
   simp only[List.length_map,Int.toNat_natCast,g,tk,aJn,List.getD_cons_zero,C.toStr,bSl,bB7,w2]at *
   refine aAc (decide_eq_true (by omega)) (aA7 m1 (aA7 rfl (aA7 (decide_eq_true (by omega)) ?_)))
   cases c1:aDc s
   ·exact aAj rfl (bad (by unfold aBe;rw[c1];rfl))
   ·obtain⟨sl,sm⟩:=bVj c1
    refine aAc rfl (aA7 (decide_eq_true (by omega)) ?_)
    cases c2:aBf (aAq s)
    ·exact aAj rfl (bad (by unfold aBe;rw[c2];simp))
    ·have m0:(decide ((0:Int)≤0)&&decide ((0:Int)<s.length))=true:=by rw[decide_eq_true (by omega),decide_eq_true (by omega)];rfl
     refine aAc rfl (aA7 m1 (aA7 rfl (aA7 m0 ?_)))
     show (T.ask (aB3 s != 43) _ _).eval=_
     rcases sm with c43 | c45 | c62
     ·have f1:(aB3 s != 43)=false:=by rw[c43];rfl
      have f2:decide (aB3 s=62)=false:=by rw[c43];rfl
      have f3:(aB3 s != 45)=true:=by rw[c43];rfl
      have hf:aBe l s=true:=by unfold aBe;rw[c1,c2,decide_eq_true c43];rfl
      have hd:aEg l s=aSp l ⟨aAq s,aOt s⟩:=by unfold aEg;simp only[if_pos c43,if_neg (show ¬aB3 s=45 by omega),if_neg (show ¬aB3 s=62 by omega)]
      rw[hd]at q1 q2
      refine aAj f1 (aA7 m1 (aA7 rfl (aA7 m0 (aAj f2 (aA7 m1 (aA7 rfl (aA7 m0 (aAj f1 (aA7 m1 (aA7 rfl (aA7 m0 (aAc f3 (aA7 eb (aA7 ?_ ?_))))))))))))))
      ·rw[r2];rfl
      ·exact go _ hf hd (by omega) q2
     ·have f1:(aB3 s != 43)=true:=by rw[c45];rfl
      have f2:decide (aB3 s=62)=false:=by rw[c45];rfl
      have f3:(aB3 s != 45)=false:=by rw[c45];rfl
      refine aAc f1 (aA7 big ?_)
      cases c3:aGn l (aAq s)
      ·exact aAj rfl (bad (by unfold aBe;rw[c3,decide_eq_false (show ¬aB3 s=43 by omega)];simp))
      ·have hf:aBe l s=true:=by unfold aBe;rw[c1,c2,c3];simp
       have hd:aEg l s=aDg l (aAq s):=by unfold aEg;simp only[if_pos c45,if_neg (show ¬aB3 s=43 by omega)]
       rw[hd]at q1 q2
       refine aAc rfl (aA7 m1 (aA7 rfl (aA7 m0 (aAj f2 (aA7 m1 (aA7 rfl (aA7 m0 (aAc f1 (aA7 eb (aA7 ?_ (aA7 m1 (aA7 rfl (aA7 m0 (aAj f3 ?_))))))))))))))
       ·rw[r2];rfl
       ·exact go _ hf hd (by omega) q2
     ·have f1:(aB3 s != 43)=true:=by rw[c62];rfl
      have f2:decide (aB3 s=62)=true:=by rw[c62];rfl
      have f3:(aB3 s != 45)=true:=by rw[c62];rfl
      refine aAc f1 (aA7 big ?_)
      cases c3:aGn l (aAq s)
      ·exact aAj rfl (bad (by unfold aBe;rw[c3,decide_eq_false (show ¬aB3 s=43 by omega)];simp))
      ·have hf:aBe l s=true:=by unfold aBe;rw[c1,c2,c3];simp
       have hd:aEg l s=aSp (aDg l (aAq s)) ⟨aNg s,aB4 l (aAq s)⟩:=by unfold aEg;simp only[if_pos c62,if_neg (show ¬aB3 s=45 by omega),if_neg (show ¬aB3 s=43 by omega)]
       rw[hd]at q1 q2
       have tk2:List.take (aDg l (aAq s)).length ((aDg l (aAq s)).map eEn)=(aDg l (aAq s)).map eEn:=by rw[List.take_of_length_le];simp
       refine aAc rfl (aA7 m1 (aA7 rfl (aA7 m0 (aAc f2 (aA7 big (aA7 m1 (aA7 rfl (aA7 m0 (aAc f1 (aA7 eb (aA7 ?_ (aA7 m1 (aA7 rfl (aA7 m0 (aAc f3 (aA7 ?_ (aA7 ?_ ?_)))))))))))))))))
       ·rw[r2];rfl
       ·rw[tk2];exact eb2
       ·rw[tk2,bB7,r2];rfl
       ·rw[tk2,bB7,List.length_map]
        exact go _ hf hd (by omega) q2
  ·have e:i=n:=by omega
   subst e
   have:(ss.take i).drop i=[]:=by rw[List.drop_eq_nil_iff,List.length_take];omega
   rw[this]
   refine aAj (decide_eq_false (by omega)) (aA7 ?_ rfl)
   rw[aF7,decide_eq_true (List.length_map _).symm];rfl
theorem bU3:aA8 Tryz.prog aQf:=aA6 (by simp[aXt,aLg,aS4,aJa,bNc,bIe,bI5])
theorem bDz:aAs Tryz.prog 75 (sg [pSl 92,pSl 9,pI] [rSl 92,rB]) aUa:=aA5 bU3 aA9 Tryz.func75 (by kernel_rfl) fun cs outs hk h=>by
 unfold aUa at h
 split at h
 ·simp only[Option.some.injEq,Prod.mk.injEq]at h
  obtain⟨h1,rfl⟩:=h
  rename_i os ss n
  obtain⟨a1,a2,a3⟩:=aJ7.1 h1
  obtain⟨l,rfl,e,hl,ht⟩:=aEp a1
  obtain⟨t,rfl,e2,hl2,ht2⟩:=aU9 a2
  unfold sdR bWd sdL
  obtain⟨b1,b2⟩:=bQ2 t n
  simp only[List.length_map]at a3
  have lp:=bI4 t (aP4 t n) b1 hl2 ht2 9223372036854775808 0 l (by omega) (by omega) (by omega) ht
  rw[e,e2,aAb,bI3]
  rw[List.length_map,Nat.zero_add,List.length_map,←b2]
  refine aA7 ?_ lp
  have ro:aBc l.length 24=true:=by simp only[aBc,decide_eq_true_eq];omega
  rw[ro,en2];rfl
 ·cases h
theorem aEa {ns es os ss:List (List C)}:aQk ns es os ss=true↔aRx ns=true∧aI7 es=true∧stB os ss=true:=by simp only[aQk,Bool.and_eq_true,and_assoc]
def aXu (l:List Nd) (i:Nat):Option Int:=if i=0 then none else some (l.getD (i-1) ⟨0,[],0⟩).id
theorem bQq {p:Nat→Bool} (n k:Nat) (h:k<n):(List.range' k (n-k)).all p=(p k&&(List.range' (k+1) (n-(k+1))).all p):=by
 obtain⟨m,hm⟩:∃ m,n-k=m+1:=⟨n-k-1,by omega⟩
 rw[hm,List.range'_succ,List.all_cons,show n-(k+1)=m by omega]
theorem bB2 (ns es os ss:List (List C)) (r x:Int) (hd:aQk ns es os ss=true):∀ (N k:Nat),k≤ss.length+1→ss.length+1<k+N →
  (aBh aJ0 aAa (sg [aAy] [rB]) Tryz.f34 [.r,.r,.r,.l,.r,.b] N (aIx ns es os ss r x k)).eval=some [.bool ((List.range' k (ss.length+1-k)).all (aFj (nds ns) (ens es) (ens os) (aDa ss)))]:=by
 obtain⟨d1,d2,d3⟩:=aEa.1 hd
 have hl:=(aJ6.1 (aJ7.1 d3).2.1).2.1
 intro N
 induction N with
 |zero=>intro k h1 h2;omega
 |succ N ih =>
  intro k h1 h2
  rw[aAv _ _ _ _ _ _ _ (by kernel_rfl),aV1]
  by_cases hk:k<ss.length+1
  ·have w2:IntKind.i64.wrap ((k:Int)+1)=((k+1:Nat):Int):=by rw[aAg]<;>omega
   have e:=ih (k+1) (by omega) (by omega)
   have sk:aDa ss=aDa ss:=rfl
   have sle:(aDa ss).length=ss.length:=by unfold aDa;rw[List.length_map]
   have so:=bZs d3 k
   rw[bQq _ _ hk,w2,List.take_length]
   have st:aFj (nds ns) (ens es) (ens os) (aDa ss) k=(bWd (ens os) (aDa ss) k&&aC3 (nds ns) (sdL (ens os) (aDa ss) k)&&(!decide (k=(aDa ss).length)||decide (sdL (ens os) (aDa ss) k=ens es))):=rfl
   have er:ens (sdR os ss k)=sdL (ens os) (aDa ss) k:=by unfold sdR;rw[aJn]
   rw[st,er,sle]
   refine aAc (decide_eq_true (by omega)) (aA7 d3 (aA7 ?_ ?_))
   ·unfold sdR;rw[en2];rfl
   ·cases c1:bWd (ens os) (aDa ss) k
    ·exact aAj rfl rfl
    ·refine aAc rfl (aA7 (by rw[d1,so];rfl) ?_)
     cases c2:aC3 (nds ns) (sdL (ens os) (aDa ss) k)
     ·exact aAj rfl rfl
     ·refine aAc rfl ?_
      by_cases c3:k=ss.length
      ·rw[decide_eq_true c3]
       refine aAc (decide_eq_true (by omega)) (aA7 (by rw[so,d2];rfl) ?_)
       by_cases c4:sdL (ens os) (aDa ss) k=ens es
       ·rw[decide_eq_true c4]
        exact aAc rfl e
       ·rw[decide_eq_false c4]
        exact aAj rfl rfl
      ·rw[decide_eq_false c3]
       refine aAj (decide_eq_false (by omega)) ?_
       simpa using e
  ·have e:k=ss.length+1:=by omega
   subst e
   rw[Nat.sub_self]
   exact aAj (decide_eq_false (by omega)) rfl
theorem bEk (l:List Nd) (es os ss:List (List C)) (r x:Int) (hx:1≤x∧x≤1000000000) (hd:aQk (l.map eNd) es os ss=true):∀ (N i:Nat),i≤l.length→l.length<i+N →
  (aBh aJ0 aAa (sg [aAy] [rB]) Tryz.f34 [.r,.r,.l,.r,.b] N (aLp (l.map eNd) es os ss r x i)).eval=some [.bool (aFn x (l.drop i) (aXu l i)&&(List.range (ss.length+1)).all (aFj l (ens es) (ens os) (aDa ss)))]:=by
 obtain⟨d1,d2,d3⟩:=aEa.1 hd
 have hl:=(bBg.1 d1).1
 have hsl:=(aJ6.1 (aJ7.1 d3).2.1).2.1
 intro N
 induction N with
 |zero=>intro i h1 h2;omega
 |succ N ih =>
  intro i h1 h2
  rw[aAv _ _ _ _ _ _ _ (by kernel_rfl),aXs]
  by_cases hi:i<l.length
  ·have g:=aAx eNd l ⟨0,[],0⟩ i hi
   have w2:IntKind.i64.wrap ((i:Int)+1)=((i+1:Nat):Int):=by rw[aAg]<;>omega
   have w3:IntKind.i64.wrap (x-1)=x-1:=by rw[aAg]<;>omega
   have e:=ih (i+1) (by omega) (by omega)
   have pv:aXu l (i+1)=some (l.getD i ⟨0,[],0⟩).id:=by unfold aXu;rw[if_neg (by omega),Nat.add_sub_cancel]
   rw[pv]at e
   rw[List.length_map,Int.toNat_natCast,g,w2,w3,aBx l i ⟨0,[],0⟩ hi]
   have sp:∀ y q,aFn x (y::l.drop (i+1)) q=(inB y.id 1 (x-1)&&(match q with | none=>true | some q=>decide (q<y.id))&&inB y.sure 0 y.text.length&&aFn x (l.drop (i+1)) (some y.id)):=fun _ _=>rfl
   rw[sp]
   generalize l.getD i ⟨0,[],0⟩=y at e ⊢
   refine aAc (decide_eq_true (by omega)) (aA7 (at2 _ _ hi _ _ rfl) (aA7 rfl ?_))
   show (T.ask (inB y.id 1 (x-1)) _ _).eval=_
   cases c1:inB y.id 1 (x-1)
   ·exact aAj rfl rfl
   ·refine aAc rfl ?_
    by_cases c3:i=0
    ·subst c3
     refine aAj rfl ?_
     show (T.ask (inB y.sure 0 (y.text.length:Int)) _ _).eval=some [C.bool (true&&true&&inB y.sure 0 (y.text.length:Int)&&_&&_)]
     cases c4:inB y.sure 0 (y.text.length:Int)
     ·exact aAj rfl rfl
     ·refine aAc rfl ?_
      simpa using e
    ·have hj:i-1<l.length:=by omega
     have w4:IntKind.i64.wrap ((i:Int)-1)=((i-1:Nat):Int):=by rw[aAg]<;>omega
     have g2:=aAx eNd l ⟨0,[],0⟩ (i-1) hj
     rw[w4,Int.toNat_natCast,g2]
     have pv2:aXu l i=some (l.getD (i-1) ⟨0,[],0⟩).id:=by unfold aXu;rw[if_neg c3]
     rw[pv2]
     generalize l.getD (i-1) ⟨0,[],0⟩=z
     refine aAc (decide_eq_true (by omega)) (aA7 (at2 _ _ hj _ _ rfl) (aA7 rfl ?_))
     show (T.ask (decide (y.id≤z.id)) _ _).eval=some [C.bool (true&&decide (z.id<y.id)&&inB y.sure 0 (y.text.length:Int)&&_&&_)]
     by_cases c5:y.id≤z.id
     ·rw[decide_eq_false (show ¬z.id<y.id by omega)]
      exact aAc (decide_eq_true c5) rfl
     ·rw[decide_eq_true (show z.id<y.id by omega)]
      refine aAj (decide_eq_false c5) ?_
      show (T.ask (inB y.sure 0 (y.text.length:Int)) _ _).eval=_
      cases c4:inB y.sure 0 (y.text.length:Int)
      ·exact aAj rfl rfl
      ·refine aAc rfl ?_
       simpa using e
  ·have e:i=l.length:=by omega
   subst e
   rw[List.drop_length,List.length_map]
   refine aAj (decide_eq_false (by omega)) ?_
   have:=bB2 (l.map eNd) es os ss r x hd 9223372036854775808 0 (by omega) (by omega)
   rw[aGj]at this
   rw[List.range_eq_range']
   exact this
theorem bQe:aA8 Tryz.prog aJ0:=aA6 (by simp[aDm,aUk,aXq,bI7,bDz])
theorem bB1:aAs Tryz.prog 34 (sg [aAy] [rB]) aH6:=aA5 bQe aA9 Tryz.func34 (by kernel_rfl) fun cs outs hk h=>by
 unfold aH6 at h
 split at h
 ·simp only[Option.some.injEq,Prod.mk.injEq]at h
  obtain⟨hd,rfl⟩:=h
  rename_i ns es os ss r x
  obtain⟨d1,d2,d3⟩:=aEa.1 hd
  obtain⟨l,rfl,e,hl,ht⟩:=aI3 d1
  have sle:(aDa ss).length=ss.length:=by unfold aDa;rw[List.length_map]
  unfold aK7 bCx
  rw[aAb,bEj,aGj,List.length_map,sle]
  by_cases c1:(64:Int)<l.length
  ·rw[decide_eq_false (show ¬l.length≤64 by omega)]
   exact aAc (decide_eq_true c1) rfl
  ·rw[decide_eq_true (show l.length≤64 by omega)]
   refine aAj (decide_eq_false c1) ?_
   cases c2:inB r 0 1000000000
   ·exact aAj rfl rfl
   ·refine aAc rfl ?_
    cases c3:inB x 1 1000000000
    ·exact aAj rfl rfl
    ·refine aAc rfl (aA7 d1 ?_)
     by_cases c4:r<(aCn l:Int)
     ·rw[decide_eq_false (show ¬(aCn l:Int)≤r by omega)]
      exact aAc (decide_eq_true c4) rfl
     ·rw[decide_eq_true (show (aCn l:Int)≤r by omega)]
      refine aAj (decide_eq_false c4) ?_
      exact bEk l es os ss r x ((aBr _ _ _).1 c3) hd 9223372036854775808 0 (by omega) (by omega)
 ·cases h
theorem bSa {os:List (List C)} (h:aI7 os=true):(os.all fun r=>r.all C.flat)=true:=by obtain⟨l,rfl,_⟩:=aEp h;exact aF7 l
theorem bYy {ss:List (List C)} (h:bXl ss=true):(ss.all fun r=>r.all C.flat)=true:=by obtain⟨l,rfl,_⟩:=aU9 h;exact aEf l
theorem bWr {os:List (List C)} (h:aI7 os=true):(os.all fun row=>decide (row.length=2))=true:=by obtain⟨l,rfl,_⟩:=aEp h;exact en2 l
theorem cAa {ss:List (List C)} (h:bXl ss=true):(ss.all fun row=>decide (row.length=1))=true:=by obtain⟨l,rfl,_⟩:=aU9 h;simp
theorem bLn {ns:List (List C)} (h:aRx ns=true):(ns.all fun row=>decide (row.length=3))=true:=by obtain⟨l,rfl,_⟩:=aI3 h;simp
noncomputable section
def aMl:Spec:=fun cs=>match cs with
 |[.sl ns,.sl es,.sl os,.sl ss,.int .i64 r,.int .i64 x]=>some (aQk ns es os ss,[.sl ns,.sl es,.sl os,.sl ss,.int .i64 r,.int .i64 x])
 |_=>none
def bT8:Env:=mkE [] []
def cBm (ns es os ss:List (List C)) (r x:Int) (nm:List UInt8):Bool:=aK7 ns es os ss r x&&aGn (ens es) nm
def ss1 (ss:List (List C)) (s:List UInt8):List (List C):=ss++[aCd s]
def ndK (ns es:List (List C)) (nm:List UInt8):Int:=aAt (nds ns) (aB4 (ens es) nm)
end
theorem bNl (H:List Pt→Nat→St→T (List C)) (ns:List (List C)) (es:List (List C)) (os:List (List C)) (ss:List (List C)) (r:Int) (x:Int):(aAi bT8 aAa (sg [aAy] [aKa]) Tryz.f32 H [C.sl ns,C.sl es,C.sl os,C.sl ss,C.int .i64 r,C.int .i64 x]).eval=((.must (decide (0=0)&&aBc (0+ns.length) 32&&ns.all fun r=>decide (r.length=3)) (.must (decide (0=0)&&aBc (0+es.length) 24&&es.all fun r=>decide (r.length=2)) (.must (decide (0=0)&&aBc (0+os.length) 24&&os.all fun r=>decide (r.length=2)) (.must (decide (0=0)&&aBc (0+ss.length) 16&&ss.all fun r=>decide (r.length=1)) (.must (decide (0+ns.length=ns.length)&&(false||ns.all fun r=>r.all C.flat)&&(decide (0+es.length=es.length)&&(false||es.all fun r=>r.all C.flat)&&(decide (0+os.length=os.length)&&(false||os.all fun r=>r.all C.flat)&&(decide (0+ss.length=ss.length)&&(false||ss.all fun r=>r.all C.flat)&&(true&&(false||true)&&(true&&(false||true)&&true)))))&&true&&true) (.ret [C.sl ns,C.sl es,C.sl os,C.sl ss,C.int .i64 r,C.int .i64 x])))))):T (List C)).eval:=aAh (by kernel_rfl)
theorem aJe (n b:Nat) (h:n≤16777217) (hb:b≤32):aBc n b=true:=by
 simp only[aBc,decide_eq_true_eq]
 calc (n+n / 4+192)*b≤(16777217+16777217 / 4+192)*32:=Nat.mul_le_mul (by omega) hb
  _≤281474976710656:=by decide
theorem bYz {ns:List (List C)} (h:aRx ns=true):(ns.all fun r=>r.all C.flat)=true:=by obtain⟨l,rfl,_⟩:=aI3 h;exact aMg l
theorem aMi {ns es os ss:List (List C)} (h:aQk ns es os ss=true):(ns.all fun row=>decide (row.length=3))=true∧(es.all fun row=>decide (row.length=2))=true∧(os.all fun row=>decide (row.length=2))=true∧(ss.all fun row=>decide (row.length=1))=true ∧
  (ns.all fun r=>r.all C.flat)=true∧(es.all fun r=>r.all C.flat)=true∧(os.all fun r=>r.all C.flat)=true∧(ss.all fun r=>r.all C.flat)=true:=by
 obtain⟨d1,d2,d3⟩:=aEa.1 h
 obtain⟨s1,s2,s3⟩:=aJ7.1 d3
 exact⟨bLn d1,bWr d2,bWr s1,cAa s2,bYz d1,bSa d2,bSa s1,bYy s2⟩
theorem bGr {ns es os ss:List (List C)} (h:aQk ns es os ss=true):ns.length≤16777216∧es.length≤16777216∧os.length≤16777216∧ss.length≤16777216∧os.length+ss.length≤16777216:=by
 obtain⟨d1,d2,d3⟩:=aEa.1 h
 obtain⟨s1,s2,s3⟩:=aJ7.1 d3
 exact⟨(aFz.1 d1).2.1,(aGw.1 d2).2.1,by omega,by omega,s3⟩
theorem bXu:aA8 Tryz.prog bT8:=aA6 (by simp[])
theorem bIf:aAs Tryz.prog 32 (sg [aAy] [aKa]) aMl:=aA5 bXu aA9 Tryz.func32 (by kernel_rfl) fun cs outs hk h=>by
 unfold aMl at h
 split at h
 ·simp only[Option.some.injEq,Prod.mk.injEq]at h
  obtain⟨hd,rfl⟩:=h
  rename_i ns es os ss r x
  obtain⟨n3,e2,o2,s1,nf,ef,of',sf⟩:=aMi hd
  obtain⟨l1,l2,l3,l4,_⟩:=bGr hd
  rw[aAb,bNl]
  have r1:=aJe ns.length 32 (by omega) (by omega)
  have r2:=aJe es.length 24 (by omega) (by omega)
  have r3:=aJe os.length 24 (by omega) (by omega)
  have r4:=aJe ss.length 16 (by omega) (by omega)
  simp only[aA0,aA2,aA1,List.take_length,List.append_eq,decide_true,Bool.and_self,Bool.and_true,Bool.true_and,Bool.or_true,Bool.false_or,if_true,Nat.zero_add,Nat.le_refl,Nat.reduceLT,n3,e2,o2,s1,nf,ef,of',sf,r1,r2,r3,r4]
 ·cases h
theorem cAr {es:List (List C)} (h:aI7 es=true):(decide (es.length≤aHh)&&aAf [K.str,K.int .i64] es)=true:=by
 obtain⟨l,rfl,e,hl,_⟩:=aEp h
 rw[List.length_map]
 exact bKm l hl
theorem aLh {ns es os ss:List (List C)} {r x:Int} (hd:aQk ns es os ss=true) (h:aK7 ns es os ss r x=true):ns.length≤64∧es.length≤16∧(0≤r∧r≤1000000000)∧(1≤x∧x≤1000000000)∧(aCn (nds ns):Int)≤r∧∀ e∈ens es,0≤aAt (nds ns) e.id:=by
 have nl:(nds ns).length=ns.length:=by unfold nds;rw[List.length_map]
 have el:(ens es).length=es.length:=by unfold ens;rw[List.length_map]
 unfold aK7 bCx at h
 simp only[Bool.and_eq_true,decide_eq_true_eq,List.all_eq_true]at h
 obtain⟨⟨⟨⟨⟨h1,h2⟩,h3⟩,h4⟩,_⟩,h6⟩:=h
 have hk:=h6 (aDa ss).length (List.mem_range.2 (by omega))
 unfold aFj at hk
 simp only[decide_true,Bool.not_true,Bool.false_or,Bool.and_eq_true,decide_eq_true_eq]at hk
 obtain⟨⟨_,k2⟩,k3⟩:=hk
 rw[k3]at k2
 unfold aC3 at k2
 simp only[Bool.and_eq_true,decide_eq_true_eq]at k2
 have all:∀ (l:List En) (q:Option (List UInt8)),aIo (nds ns) l q=true→∀ e∈l,0≤aAt (nds ns) e.id:=by
  intro l
  induction l with
  |nil=>intro q _ e he;cases he
  |cons y l ih =>
   intro q hq e he
   unfold aIo at hq
   simp only[Bool.and_eq_true,decide_eq_true_eq]at hq
   rcases List.mem_cons.1 he with rfl | he
   ·exact hq.1.1.2
   ·exact ih _ hq.2 e he
 exact⟨by omega,by omega,(aBr _ _ _).1 h2,(aBr _ _ _).1 h3,h4,all _ _ k2.1⟩
theorem bFm {A:Type} (p:A→Bool):∀ (l:List A) (i:Nat) (d:A),0≤aD1 p l i→i≤(aD1 p l i).toNat∧(aD1 p l i).toNat<i+l.length∧l.getD ((aD1 p l i).toNat-i) d∈l∧p (l.getD ((aD1 p l i).toNat-i) d)=true
 |[],i,d,h=>by simp[aD1]at h
 |x::r,i,d,h=>by
  unfold aD1 at h ⊢
  by_cases c:p x=true
  ·rw[if_pos c]at h ⊢
   simp[c]
  ·rw[if_neg c]at h ⊢
   obtain⟨a1,a2,a3,a4⟩:=bFm p r (i+1) d h
   have e:(aD1 p r (i+1)).toNat-i=((aD1 p r (i+1)).toNat-(i+1))+1:=by omega
   rw[e,List.getD_cons_succ]
   exact⟨by omega,by simp;omega,List.mem_cons_of_mem _ a3,a4⟩
theorem bWn {ns es os ss:List (List C)} {r x:Int} {nm:List UInt8} (hd:aQk ns es os ss=true) (h:aK7 ns es os ss r x=true) (hh:aGn (ens es) nm=true):0≤aAt (nds ns) (aB4 (ens es) nm)∧aAt (nds ns) (aB4 (ens es) nm)<ns.length:=by
 obtain⟨_,_,_,_,_,f⟩:=aLh hd h
 unfold aGn at hh
 simp only[decide_eq_true_eq]at hh
 have hit:=bFm (bKl nm) (ens es) 0 ⟨[],0⟩ hh
 have e:aB4 (ens es) nm=((ens es).getD (aA4 (ens es) nm).toNat ⟨[],0⟩).id:=by unfold aB4;rw[if_neg (by omega)]
 have nl:(nds ns).length=ns.length:=by unfold nds;rw[List.length_map]
 have k:=f _ hit.2.2.1
 rw[Nat.sub_zero]at k
 rw[e]
 refine⟨k,?_⟩
 rcases aZ2 (nds ns) ((ens es).getD (aA4 (ens es) nm).toNat ⟨[],0⟩).id with q | q
 ·have:aAt (nds ns) ((ens es).getD (aD1 (bKl nm) (ens es) 0).toNat ⟨[],0⟩).id= -1:=q
  omega
 ·rw[nl]at q;exact q.2
theorem bDj {l:List Nd} {k:Nat} (h:k<l.length):(l.getD k ⟨0,[],0⟩).text.length≤aCn l:=by
 have h1:=aQn l k h
 have h2:=aQm l (k+1)
 omega
theorem bZr {l:List Nd} {k:Nat} {y:Nd} (h:aRx (l.map eNd)=true) (hy:y.text.length≤16777216):aRx ((l.set k y).map eNd)=true:=by
 obtain⟨a,b⟩:=bBg.1 h
 refine bBg.2 ⟨by rw[List.length_set];exact a,fun z hz=>?_⟩
 rcases List.mem_or_eq_of_mem_set hz with hz | rfl
 ·exact b z hz
 ·exact hy
theorem cA7 {ns:List (List C)} (h:aRx ns=true):(decide (ns.length≤aHh)&&aAf [K.int .i64,K.str,K.int .i64] ns)=true:=bR5 h
theorem aM9 (l:List Nd) (k:Nat) (y:Nd):(l.map eNd).set k (eNd y)=(l.set k y).map eNd:=(List.map_set).symm
noncomputable section
def aIr:Spec:=fun cs=>match cs with
 |[.sl rows]=>some (aAf kEn rows&&decide (rows.length≤1099511627776),[.sl rows])
 |_=>none
def bDc:Env:=mkE [] []
def aRk:Spec:=fun cs=>match cs with
 |[.sl rows]=>some (aAf kNd rows&&decide (rows.length≤1099511627776),[.sl rows])
 |_=>none
def bDb:Env:=mkE [] []
end
theorem bSv (r : List (List C)) : aOz bDc aAa [false] (sg [pSl (92 : TypeId)] [rSl (92 : TypeId)]) Tryz.f81 [C.sl r] =
 (.must true
 (.ask (false)
  (.must true
   (.ret [C.sl []]))
  (.must (decide ((0 : Nat) = (0 : Nat)) && aBc ((0 : Nat) + r.length) (24 : Nat) &&
  r.all fun r => decide (r.length = (2 : Nat)))
   (.must (decide ((0 : Nat) + r.length = r.length) && (false || r.all fun r => r.all C.flat) && true && true && true)
    (.ret [C.sl r]))))) := by kernel_rfl
theorem bPa (z : Nat) : aOz bDc aAa [true] (sg [pSl (92 : TypeId)] [rSl (92 : TypeId)]) Tryz.f81 [C.sl []] =
 (.must true
 (.ask true
  (.must true
   (.ret [C.sl []]))
  (.must true
   (.must true
    (.ret [C.sl []]))))) := by kernel_rfl
theorem bSu (r : List (List C)) : aOz bDb aAa [false] (sg [pSl (66 : TypeId)] [rSl (66 : TypeId)]) Tryz.f80 [C.sl r] =
 (.must true
 (.ask (false)
  (.must true
   (.ret [C.sl []]))
  (.must (decide ((0 : Nat) = (0 : Nat)) && aBc ((0 : Nat) + r.length) (32 : Nat) &&
  r.all fun r => decide (r.length = (3 : Nat)))
   (.must (decide ((0 : Nat) + r.length = r.length) && (false || r.all fun r => r.all C.flat) && true && true && true)
    (.ret [C.sl r]))))) := by kernel_rfl
theorem bP9 (z : Nat) : aOz bDb aAa [true] (sg [pSl (66 : TypeId)] [rSl (66 : TypeId)]) Tryz.f80 [C.sl []] =
 (.must true
 (.ask true
  (.must true
   (.ret [C.sl []]))
  (.must true
   (.must true
    (.ret [C.sl []]))))) := by kernel_rfl
theorem bVy:aA8 Tryz.prog bDc:=aA6 (by simp)
theorem aLl:aAs Tryz.prog 81 (sg [pSl 92] [rSl 92]) aIr:=aKi bVy aA9 Tryz.func81 (by kernel_rfl) rfl fun cs outs hk h bs hb=>by
 unfold aIr at h
 split at h
 ·simp only[Option.some.injEq,Prod.mk.injEq,Bool.and_eq_true,decide_eq_true_eq]at h
  obtain⟨⟨h1,h2⟩,rfl⟩:=h
  rename_i rows
  have r1:=aDq h1 2 rfl
  match bs,hb with
  |[true],hb =>
   have:rows=[]:=by simpa[aIe]using hb
   subst this
   rw[bPa 0]
   rfl
  |[false],_ =>
   rw[bSv]
   have hroom:aBc rows.length 24=true:=by unfold aBc;simp;omega
   have hf:(rows.all fun r=>r.all C.flat)=true:=by
    rw[aDi h1];exact aF7 _
   simp only[aA0,aA2,aA1,r1,hroom,hf,Nat.zero_add,decide_true,Bool.and_self,Bool.or_true,Bool.and_true,if_true,Bool.false_eq_true,if_false]
  |[],hb=>simp[aIe]at hb
  |_::_::_,hb=>simp[aIe]at hb
 ·cases h
theorem bVx:aA8 Tryz.prog bDb:=aA6 (by simp)
theorem bGw:aAs Tryz.prog 80 (sg [pSl 66] [rSl 66]) aRk:=aKi bVx aA9 Tryz.func80 (by kernel_rfl) rfl fun cs outs hk h bs hb=>by
 unfold aRk at h
 split at h
 ·simp only[Option.some.injEq,Prod.mk.injEq,Bool.and_eq_true,decide_eq_true_eq]at h
  obtain⟨⟨h1,h2⟩,rfl⟩:=h
  rename_i rows
  have r1:=aDq h1 3 rfl
  match bs,hb with
  |[true],hb =>
   have:rows=[]:=by simpa[aIe]using hb
   subst this
   rw[bP9 0]
   rfl
  |[false],_ =>
   rw[bSu]
   have hroom:aBc rows.length 32=true:=by unfold aBc;simp;omega
   have hf:(rows.all fun r=>r.all C.flat)=true:=by
    rw[aE6 h1];exact aMg _
   simp only[aA0,aA2,aA1,r1,hroom,hf,Nat.zero_add,decide_true,Bool.and_self,Bool.or_true,Bool.and_true,if_true,Bool.false_eq_true,if_false]
  |[],hb=>simp[aIe]at hb
  |_::_::_,hb=>simp[aIe]at hb
 ·cases h
noncomputable section
def cCb:cBh:=⟨141,142,[.str,.int .i64],24⟩
end
theorem aPp:Tryz.prog.follows .mixedOrders=true:=by kernel_rfl
theorem aRe:∃ i,Tryz.prog.info? 92=some i∧i.zero=some (.agg #[.string ⟨#[]⟩,.int .i64 0])∧i.size=2∧i.bytes=24:=by
 obtain⟨i,h1,h2⟩:=Option.map_eq_some_iff.1 (by kernel_rfl:(Tryz.prog.info? 92).map (fun i=>(i.zero,i.size,i.bytes))=some (some (.agg #[.string ⟨#[]⟩,.int .i64 0]),2,24))
 simp only[Prod.mk.injEq]at h2
 exact⟨i,h1,h2⟩
theorem aJd {P:Program} (w:World) (dT sT ty elem:TypeId) (sz b o dLen dCap:Nat) (a:Addr) (sLen sCap q:Nat) (cs:List Value)
  (hu:P.underlying dT=some (.slice elem)) (hs:(P.info? elem).map (·.size)=some sz) (hq:Nat.min sLen dLen=q) (hn:cs.length=q*sz)
  (hsrc:∀ j v,cs[j]? =some v→w.cell? (a.add j)=some v) (hc:∀ j,j<cs.length→(w.cell? ⟨b,o+j,none⟩).isSome=true) (hf:∀ j,j<cs.length→w.frozen? ⟨b,o+j,none⟩=false) (h1:∀ v∈cs,v.oneCell'=true) :
  (Builtin.copy_ #[dT,sT] ty #[.slice (some ⟨b,o,none⟩) dLen dCap,.slice (some a) sLen sCap]).run P w=.ok (goInt q) (w.setCells b o cs):=by
 have hl:=run_loadCells_list (P:=P) w a cs hsrc
 have hst:=run_storeCells_cells (P:=P) b o cs 0 w (by simpa using hc) (by simpa using hf) h1
 cases hi:P.info? elem with
 |none=>simp[hi]at hs
 |some i =>
  have hi2:i.size=sz:=by simpa[hi]using hs
  simp[Builtin.copy_,run_underlying hu,Builtin.lenOf,Builtin.firstCells,sizeOf,typeInfo,hi,hi2,hq,←hn,hl,hst]
set_option maxHeartbeats 4000000 in
set_option maxRecDepth 100000 in
theorem bOc (b n c vb vc:Nat) (vs:List Value) (w:World) (hroom:n+1≤c) (hc63:n+1≤281474976710656) (hvl:vs.length=2)
  (hsp:∀ j,j<2→(w.cell? ⟨b,n*2+j,none⟩).isSome=true) (hfz:∀ j,j<2→w.frozen? ⟨b,n*2+j,none⟩=false)
  (hvs:∀ j v,vs[j]? =some v→w.cell? ⟨vb,0+j,none⟩=some v) (h1v:∀ v∈vs,v.oneCell'=true) :
  Calls Tryz.prog 141 #[.slice (some ⟨b,0,none⟩) n c,.int .i64 n,.slice (some ⟨vb,0,none⟩) 1 vc] w fun e w' =>
   e=.returned (.slice (some ⟨b,0,none⟩) (n+1) c)∧w'=w.setCells b (n*2) vs:=by
 have mixed:=aPp
 obtain⟨i0,hi0,hz0,hzs,hzb⟩:=aRe
 have hsrc:Src Tryz.prog i0.size 29 (.slice (some ⟨vb,0,none⟩) 1 vc) 1 vs w:=by rw[hzs];exact Src.ofSlice w Tryz.underlying29 ⟨vb,0,none⟩ 1 vc vs (by omega) (fun j u hj=>by rw[Addr.add_lit];exact hvs j u hj) h1v
 have hrun:∀ ty,(Builtin.append_ #[29,29] ty #[.slice (some ⟨b,0,none⟩) n c,.slice (some ⟨vb,0,none⟩) 1 vc]).run Tryz.prog w=.ok (.slice (some ⟨b,0,none⟩) (n+1) c) (w.setCells b (n*2) vs):=fun ty=>by
  have h:=run_append_room_src w 29 29 ty 92 i0 Tryz.underlying29 hi0 b 0 n c _ 1 vs hsrc hroom (by rw[hvl,hzs,Nat.zero_add];exact hsp) (by rw[hvl,hzs,Nat.zero_add];exact hfz)
  rw[hzs,Nat.zero_add]at h
  exact h
 go_enter Tryz.func141,Tryz.ntmps141
 go_wp2_with (at_builtin;refine Lib.wpList_append_run _ rfl _ _ _ _ rfl _ _ rfl rfl _ _ (hrun _) ?_)
 go_ret
 exact⟨rfl,rfl⟩
set_option maxHeartbeats 4000000 in
set_option maxRecDepth 100000 in
theorem bOd (base:Option Addr) (n c vb vc:Nat) (cs vs:List Value) (w:World) (hnc:n≤c) (hroom:c<n+1) (hfit:Builtin.nextslicecap (n+1) c*24≤281474976710656) (h48:(n+1)*24≤281474976710656)
  (hcl:cs.length=n*2) (hvl:vs.length=2) (hnil:base=none→n=0)
  (hcs:∀ a,base=some a→∀ j v,cs[j]? =some v→w.cell? (a.add j)=some v)
  (hvs:∀ j v,vs[j]? =some v→w.cell? ⟨vb,0+j,none⟩=some v) (h1v:∀ v∈vs,v.oneCell'=true) :
  Calls Tryz.prog 141 #[.slice base n c,.int .i64 n,.slice (some ⟨vb,0,none⟩) 1 vc] w fun e w' =>
   e=.returned (.slice (some ⟨w.heap.size,0,none⟩) (n+1) (grownCap w (n+1) c 92)) ∧
   w'=w.drew.alloc (.cells ((cs++vs).toArray++Builtin.zeroCells (Value.agg #[.string ⟨#[]⟩,.int .i64 0]).cells (grownCap w (n+1) c 92-(n+1))) 92):=by
 have mixed:=aPp
 obtain⟨i0,hi0,hz0,hzs,hzb⟩:=aRe
 have hsrc:Src Tryz.prog i0.size 29 (.slice (some ⟨vb,0,none⟩) 1 vc) 1 vs w:=by
  rw[hzs]
  exact Src.ofSlice w Tryz.underlying29 ⟨vb,0,none⟩ 1 vc vs (by omega) (fun j u hj=>by rw[Addr.add_lit];exact hvs j u hj) h1v
 have hold:(Builtin.firstCells i0.size n (.slice base n c)).run Tryz.prog w.drew=.ok cs.toArray w.drew:=by
  rw[hzs]
  cases base with
  |none =>
   have h0:=hnil rfl
   subst h0
   rw[List.length_eq_zero_iff.1 (by omega:cs.length=0)]
   exact run_firstCells_none w.drew 2 0 0 c
  |some a=>exact run_firstCells_some w.drew 2 n a n c cs (by omega) (fun j v hj=>hcs a rfl j v hj)
 have hrun:∀ ty,(Builtin.append_ #[29,29] ty #[.slice base n c,.slice (some ⟨vb,0,none⟩) 1 vc]).run Tryz.prog w=_:=fun ty =>
  run_append_grow_src w 29 29 ty 92 i0 _ Tryz.underlying29 hi0 hz0 base n c cs hold _ 1 vs hsrc hroom (by omega) (by rw[hzb];exact hfit)
 go_enter Tryz.func141,Tryz.ntmps141
 cases base with
 |none =>
  have h0:=hnil rfl
  subst h0
  go_wp2_with (at_builtin;refine Lib.wpList_append_run _ rfl _ _ _ _ rfl _ _ rfl rfl _ _ (hrun _) ?_)
  go_ret
  exact⟨rfl,rfl⟩
 |some a =>
  obtain⟨ab,ao,asp⟩:=a
  go_wp2_with (at_builtin;refine Lib.wpList_append_run _ rfl _ _ _ _ rfl _ _ rfl rfl _ _ (hrun _) ?_)
  all_goals (go_ret;exact⟨rfl,rfl⟩)
set_option maxHeartbeats 4000000 in
set_option maxRecDepth 100000 in
theorem bV6 (b n c i vb vc:Nat) (cs vs:List Value) (w:World) (hi:i<n) (hroom:n+1≤c) (hc63:n+1≤281474976710656) (hvb:vb≠b)
  (hcl:cs.length=n*2) (hvl:vs.length=2)
  (hcs:∀ j v,cs[j]? =some v→w.cell? ⟨b,j,none⟩=some v) (hsp:∀ j,j<(n+1)*2→(w.cell? ⟨b,j,none⟩).isSome=true) (hfz:∀ j,j<(n+1)*2→w.frozen? ⟨b,j,none⟩=false)
  (hvs:∀ j v,vs[j]? =some v→w.cell? ⟨vb,0+j,none⟩=some v) (h1c:∀ v∈cs,v.oneCell'=true) (h1v:∀ v∈vs,v.oneCell'=true)
  (tA tB:TypeId) (kA kB:Nat) (hsa:w.shape? vb=some (tA,kA)) (hsb:w.shape? b=some (tB,kB)) (hkB:kB≠0) (hfa:w.frozen? ⟨vb,0,none⟩=false) (hfe:w.frozen? ⟨vb,kA,none⟩=false) :
  Calls Tryz.prog 141 #[.slice (some ⟨b,0,none⟩) n c,.int .i64 i,.slice (some ⟨vb,0,none⟩) 1 vc] w fun e w' =>
   e=.returned (.slice (some ⟨b,0,none⟩) (n+1) c)∧w'=(w.drew.setCells b ((i+1)*2) (cs.drop (i*2))).setCells b (i*2) vs:=by
 obtain⟨i0,hi0,hz0,hzs,hzb⟩:=aRe
 have hz2:¬((i:Int)=(n:Int)):=by omega
 have hsz:(Tryz.prog.info? 92).map (·.size)=some 2:=by rw[hi0];simp[hzs]
 have z9:∀ w,(Go.sizeOf 92).run Tryz.prog w=.ok 2 w:=fun w=>by simp[sizeOf,typeInfo,hi0,hzs]
 have hov:∀ lb cb,(callFunc 165 #[.slice (some ⟨vb,0,none⟩) 1 vc,.slice (some ⟨b,(i+1)*2,none⟩) lb cb]).run Tryz.prog w=.ok (.value (.bool false)) w:=fun lb cb=>by
  rw[run_callFunc_extern Tryz.func165 (by kernel_rfl) (by kernel_rfl) (by kernel_rfl) (e:=Extern.SlicesOverlaps.overlaps #[29,29] #[4]) (by kernel_rfl),
   Lib.run_overlaps_apart w 29 4 92 Tryz.underlying29 2 z9 ⟨vb,0,none⟩ ⟨b,(i+1)*2,none⟩ 1 vc lb cb hvb tA tB kA kB hsa hsb hkB hfa hfe]
  rfl
 have hdl:(cs.drop (i*2)).length=(n-i)*2:=by rw[List.length_drop,hcl];omega
 have mixed:=aPp
 have hw1:IntKind.i64.wrap ((i:Int)+1)=(i:Int)+1:=by rw[IntKind.wrap_i64];omega
 have hb1:(0:Int)≤(i:Int)+1:=by omega
 have hin:i≤n:=by omega
 have htn:((i:Int)+1).toNat=i+1:=by omega
 have hb2:¬(c=i+1):=by omega
 have hb3:(i:Int)≤(n:Int)+1:=by omega
 have hb4:¬(c=i):=by omega
 have hcp1:∀ ty dc sc,(Builtin.copy_ #[29,29] ty #[.slice (some ⟨b,(i+1)*2,none⟩) (n-i) dc,.slice (some ⟨b,i*2,none⟩) (n+1-i) sc]).run Tryz.prog w.drew=.ok (goInt ((n-i:Nat):Int)) (w.drew.setCells b ((i+1)*2) (cs.drop (i*2))):=fun ty dc sc =>
  aJd w.drew _ _ ty 92 2 b ((i+1)*2) (n-i) dc ⟨b,i*2,none⟩ (n+1-i) sc (n-i) (cs.drop (i*2)) Tryz.underlying29 hsz (by simp only[Nat.min_def];split<;>omega) hdl
   (fun j v hj=>by rw[Addr.add_lit];exact hcs (i*2+j) v (by rwa [List.getElem?_drop]at hj))
   (fun j hj=>hsp _ (by omega)) (fun j hj=>hfz _ (by omega)) (fun v hv=>h1c v (List.mem_of_mem_drop hv))
 obtain⟨W1,hW1⟩:∃ W1,W1=w.drew.setCells b ((i+1)*2) (cs.drop (i*2)):=⟨_,rfl⟩
 have hsp1:∀ k,k<(n+1)*2→(W1.cell? ⟨b,k,none⟩).isSome=true:=fun k hk=>by
  rw[hW1]
  exact isSome_setCells b (cs.drop (i*2)) ((i+1)*2) w.drew (fun j hj=>hsp _ (by omega)) k (hsp k hk)
 have hcp2:∀ (W:World),(∀ x,W.cell? x=W1.cell? x)→(∀ x,W.frozen? x=W1.frozen? x)→∀ ty dc,(Builtin.copy_ #[29,29] ty #[.slice (some ⟨b,i*2,none⟩) (n+1-i) dc,.slice (some ⟨vb,0,none⟩) 1 vc]).run Tryz.prog W=.ok (goInt 1) (W.setCells b (i*2) vs):=fun W hWc hWf ty dc =>
  aJd W _ _ ty 92 2 b (i*2) (n+1-i) dc ⟨vb,0,none⟩ 1 vc 1 vs Tryz.underlying29 hsz (by simp only[Nat.min_def];split<;>omega) (by omega)
   (fun j v hj=>by
    rw[Addr.add_lit,hWc,hW1,World.cell?_setCells_out b _ _ _ _ (fun h _=>absurd h hvb)]
    exact hvs j v hj)
   (fun j hj=>by rw[hWc];exact hsp1 _ (by omega)) (fun j hj=>by rw[hWf,hW1,World.frozen?_setCells];exact hfz _ (by omega)) h1v
 rw[←hW1]at hcp1
 go_enter Tryz.func141,Tryz.ntmps141
 go_wp2_with (simp only[hov])
 go_region_law_o (refine step_copy_runI rfl _ _ 29 29 rfl _ _ (by simp[Act.eval,Act.put]) (by simp[Act.eval,Act.put]) (hcp1 _ _ _) ?_)
 go_wp2_with (at_builtin;refine wpList_copy_runI _ rfl _ _ 29 29 rfl _ _ rfl rfl (hcp2 _ (fun _=>rfl) (fun _=>rfl) _ _) ?_)
 go_ret
 first | exact⟨rfl,rfl⟩ | exact⟨rfl,by rw[hW1]⟩
set_option maxHeartbeats 4000000 in
set_option maxRecDepth 100000 in
theorem bYo (b n c i vb vc:Nat) (cs vs:List Value) (w:World) (hi:i<n) (hnc:n≤c) (hroom:c<n+1) (hfit:Builtin.nextslicecap (n+1) c*24≤281474976710656) (h48:(n+1)*24≤281474976710656)
  (hcl:cs.length=n*2) (hvl:vs.length=2)
  (hcs:∀ j v,cs[j]? =some v→w.cell? ⟨b,j,none⟩=some v)
  (hvs:∀ j v,vs[j]? =some v→w.cell? ⟨vb,0+j,none⟩=some v) (h1c:∀ v∈cs,v.oneCell'=true) (h1v:∀ v∈vs,v.oneCell'=true) :
  Calls Tryz.prog 141 #[.slice (some ⟨b,0,none⟩) n c,.int .i64 i,.slice (some ⟨vb,0,none⟩) 1 vc] w fun e w' =>
   e=.returned (.slice (some ⟨w.heap.size,0,none⟩) (n+1) (grownCap w (n+1) c 92)) ∧
   w'=(((w.alloc (.cells ((cs.take (i*2)).toArray++Builtin.zeroCells (Value.agg #[.string ⟨#[]⟩,.int .i64 0]).cells (n+1-i)++Builtin.zeroCells (Value.agg #[.string ⟨#[]⟩,.int .i64 0]).cells (grownCap w (n+1) c 92-(n+1))) 92)).drew.setCells w.heap.size (i*2) vs).drew).setCells w.heap.size ((i+1)*2) (cs.drop (i*2)):=by
 have mixed:=aPp
 obtain⟨i0,hi0,hz0,hzs,hzb⟩:=aRe
 have hz2:¬((i:Int)=(n:Int)):=by omega
 have hz3:(c:Int)<(n:Int)+1:=by omega
 have hsz:(Tryz.prog.info? 92).map (·.size)=some 2:=by rw[hi0];simp[hzs]
 have hbw:b<w.heap.size:=block_lt_of_cell (hcs 0 _ (List.getElem?_eq_getElem (by omega)))
 have hvw:vb<w.heap.size:=block_lt_of_cell (hvs 0 _ (List.getElem?_eq_getElem (by omega)))
 have hkk:(n:Int)+1-(i:Int)=((n+1-i:Nat):Int):=by omega
 have hik:i+(n+1-i)=n+1:=by omega
 have hold:(Builtin.firstCells i0.size i (.slice (some ⟨b,0,none⟩) i c)).run Tryz.prog w.drew=.ok (cs.take (i*2)).toArray w.drew:=by
  rw[hzs]
  exact run_firstCells_some w.drew 2 i ⟨b,0,none⟩ i c (cs.take (i*2)) (by rw[List.length_take];omega) (fun j v hj=>by
   rw[Addr.add_lit,Nat.zero_add]
   rw[List.getElem?_take]at hj
   split at hj
   ·exact hcs j v hj
   ·cases hj)
 have hrz:∀ ty,(Builtin.append_ #[29,3] ty #[.slice (some ⟨b,0,none⟩) i c,.int .i64 ((n:Int)+1-(i:Int))]).run Tryz.prog w =
   .ok (.slice (some ⟨w.heap.size,0,none⟩) (n+1) (grownCap w (n+1) c 92)) (w.drew.alloc (.cells ((cs.take (i*2)).toArray++Builtin.zeroCells (Value.agg #[.string ⟨#[]⟩,.int .i64 0]).cells (n+1-i)++Builtin.zeroCells (Value.agg #[.string ⟨#[]⟩,.int .i64 0]).cells (grownCap w (n+1) c 92-(n+1))) 92)):=fun ty=>by
  have h:=Lib.run_append_grow_zeros w 29 3 ty 92 i0 _ .i64 .i64 Tryz.underlying29 Tryz.underlying3 hi0 hz0 (some ⟨b,0,none⟩) i c (cs.take (i*2)) hold (n+1-i) (by omega) (by omega) (by omega) (by omega) (by rw[hzb];omega) (by rw[hzb,hik];exact hfit)
  rw[hik]at h
  rw[hkk]
  exact h
 obtain⟨G,hG⟩:∃ G,G=grownCap w (n+1) c 92:=⟨_,rfl⟩
 obtain⟨ROW,hROW⟩:∃ ROW:Array Value,ROW=(cs.take (i*2)).toArray++Builtin.zeroCells (Value.agg #[.string ⟨#[]⟩,.int .i64 0]).cells (n+1-i)++Builtin.zeroCells (Value.agg #[.string ⟨#[]⟩,.int .i64 0]).cells (G-(n+1)):=⟨_,rfl⟩
 rw[←hG]at hrz ⊢
 rw[←hROW]at hrz ⊢
 have hRl:(n+1)*2≤ROW.size:=by
  rw[hROW]
  simp[Builtin.zeroCells,Value.cells]
  omega
 obtain⟨W1,hW1⟩:∃ W1,W1=w.drew.alloc (.cells ROW 92):=⟨_,rfl⟩
 rw[←hW1]at hrz
 have hN:∀ j,j<(n+1)*2→(W1.cell? ⟨w.heap.size,j,none⟩).isSome=true:=fun j hj=>by
  rw[hW1,World.cell?_alloc_at (w:=w.drew) ROW _ w.heap.size j rfl,Array.getElem?_eq_getElem (by omega)];rfl
 have hNf:∀ j,W1.frozen? ⟨w.heap.size,j,none⟩=false:=fun j=>by rw[hW1];exact World.frozen?_alloc_at (w:=w.drew) ROW _ w.heap.size j rfl
 have hOb:∀ j v,w.cell? ⟨b,j,none⟩=some v→W1.cell? ⟨b,j,none⟩=some v:=fun j v h=>by rw[hW1,World.cell?_alloc_past (w:=w.drew) _ b j hbw];exact h
 have hOv:∀ j v,w.cell? ⟨vb,j,none⟩=some v→W1.cell? ⟨vb,j,none⟩=some v:=fun j v h=>by rw[hW1,World.cell?_alloc_past (w:=w.drew) _ vb j hvw];exact h
 have hcpA:∀ (W:World),(∀ x,W.cell? x=W1.cell? x)→(∀ x,W.frozen? x=W1.frozen? x)→∀ ty dc,(Builtin.copy_ #[29,29] ty #[.slice (some ⟨w.heap.size,i*2,none⟩) (n+1-i) dc,.slice (some ⟨vb,0,none⟩) 1 vc]).run Tryz.prog W=.ok (goInt 1) (W.setCells w.heap.size (i*2) vs):=fun W hWc hWf ty dc =>
  aJd W _ _ ty 92 2 w.heap.size (i*2) (n+1-i) dc ⟨vb,0,none⟩ 1 vc 1 vs Tryz.underlying29 hsz (by simp only[Nat.min_def];split<;>omega) (by omega)
   (fun j v hj=>by rw[Addr.add_lit,hWc];exact hOv _ v (hvs j v hj))
   (fun j hj=>by rw[hWc];exact hN _ (by omega)) (fun j hj=>by rw[hWf];exact hNf _) h1v
 have hGn:n+1≤G:=by rw[hG];exact grownCap_ge w _ _ _
 have hG63:G≤9223372036854775807:=by
  have:=grownCap_le_maxLen w (n+1) c 92 (by unfold maxLen;omega)
  rw[←hG]at this
  unfold maxLen at this
  omega
 have hGi:¬(G=i):=by omega
 have hGim:¬(G=i+1):=by omega
 have hci:¬(c=i):=by omega
 have hbN:b≠w.heap.size:=by omega
 have hdl:(cs.drop (i*2)).length=(n-i)*2:=by rw[List.length_drop,hcl];omega
 have hcpB:∀ (W:World),(∀ x,W.cell? x=(W1.setCells w.heap.size (i*2) vs).cell? x)→(∀ x,W.frozen? x=(W1.setCells w.heap.size (i*2) vs).frozen? x)→∀ ty dc sc,(Builtin.copy_ #[29,29] ty #[.slice (some ⟨w.heap.size,(i+1)*2,none⟩) (n-i) dc,.slice (some ⟨b,i*2,none⟩) (n-i) sc]).run Tryz.prog W=.ok (goInt ((n-i:Nat):Int)) (W.setCells w.heap.size ((i+1)*2) (cs.drop (i*2))):=fun W hWc hWf ty dc sc =>
  aJd W _ _ ty 92 2 w.heap.size ((i+1)*2) (n-i) dc ⟨b,i*2,none⟩ (n-i) sc (n-i) (cs.drop (i*2)) Tryz.underlying29 hsz (by simp only[Nat.min_def];split<;>omega) hdl
   (fun j v hj=>by
    rw[Addr.add_lit,hWc,World.cell?_setCells_out _ _ _ _ _ (fun h _=>absurd h hbN)]
    exact hOb _ v (hcs (i*2+j) v (by rwa [List.getElem?_drop]at hj)))
   (fun j hj=>by rw[hWc];exact isSome_setCells w.heap.size vs (i*2) W1 (fun t ht=>hN _ (by omega)) _ (hN _ (by omega)))
   (fun j hj=>by rw[hWf,World.frozen?_setCells];exact hNf _) (fun v hv=>h1c v (List.mem_of_mem_drop hv))
 subst hW1
 have hE1:∀ x,((w.alloc (.cells ROW 92)).drew).cell? x=(w.drew.alloc (.cells ROW 92)).cell? x:=fun x=>rfl
 have hE2:∀ x,((w.alloc (.cells ROW 92)).drew).frozen? x=(w.drew.alloc (.cells ROW 92)).frozen? x:=fun x=>rfl
 have hF1:∀ x,(((w.alloc (.cells ROW 92)).drew.setCells w.heap.size (i*2) vs).drew).cell? x=((w.drew.alloc (.cells ROW 92)).setCells w.heap.size (i*2) vs).cell? x:=fun x=>rfl
 have hF2:∀ x,(((w.alloc (.cells ROW 92)).drew.setCells w.heap.size (i*2) vs).drew).frozen? x=((w.drew.alloc (.cells ROW 92)).setCells w.heap.size (i*2) vs).frozen? x:=fun x=>rfl
 have hw1:IntKind.i64.wrap ((i:Int)+1)=(i:Int)+1:=by rw[IntKind.wrap_i64];omega
 have hb1:(0:Int)≤(i:Int)+1:=by omega
 have hin:i≤n:=by omega
 have htn:((i:Int)+1).toNat=i+1:=by omega
 have hb3:(i:Int)≤(n:Int):=by omega
 clear hkk hik hold hROW hG hRl
 go_enter Tryz.func141,Tryz.ntmps141
 go_wp2_with (first
  |(at_builtin;refine Lib.wpList_append_run _ rfl _ _ _ _ rfl _ _ rfl rfl _ _ (hrz _) ?_)
  |(at_builtin;refine wpList_copy_runI _ rfl _ _ 29 29 rfl _ _ rfl rfl (hcpA _ hE1 hE2 _ _) ?_)
  |(at_builtin;refine wpList_copy_runI _ rfl _ _ 29 29 rfl _ _ rfl rfl (hcpB _ (fun _=>rfl) (fun _=>rfl) _ _ _) ?_))
 go_region_law_o (refine step_copy_runI rfl _ _ 29 29 rfl (.slice (some ⟨w.heap.size,(i+1)*2,none⟩) (n-i) (G-(i+1))) (.slice (some ⟨b,i*2,none⟩) (n-i) (c-i)) (by simp[Act.eval,Act.put]) (by simp[Act.eval,Act.put]) (hcpB _ hF1 hF2 3 (G-(i+1)) (c-i)) ?_)
 go_wp2
 go_ret
 exact⟨rfl,rfl⟩
theorem enZ (n:Nat):∃ LL:List Value,(Builtin.zeroCells (Value.agg #[.string ⟨#[]⟩,.int .i64 0]).cells 1).toList=[.string ⟨#[]⟩,.int .i64 0]:=⟨[],by kernel_rfl⟩
theorem bVz (w:World) (b o c:Nat) (hc:∀ j,j<2→(w.cell? ⟨b,o+j,none⟩).isSome=true) (hf:∀ j,j<2→w.frozen? ⟨b,o+j,none⟩=false) (ty:TypeId) :
  (Builtin.clear_ #[29] ty #[.slice (some ⟨b,o,none⟩) 1 c]).run Tryz.prog w=.ok (.tuple #[]) (w.setCells b o [.string ⟨#[]⟩,.int .i64 0]):=by
 obtain⟨i0,hi0,hz0,hzs,hzb⟩:=aRe
 have hst:=run_storeCells_cells (P:=Tryz.prog) b o [.string ⟨#[]⟩,.int .i64 0] 0 w (by simpa using hc) (by simpa using hf) (by simp[Value.oneCell'])
 obtain⟨_,hzz⟩:=enZ 0
 have hzv:(zeroValue 92).run Tryz.prog w=.ok (.agg #[.string ⟨#[]⟩,.int .i64 0]) w:=by simp[zeroValue,typeInfo,hi0,hz0]
 simp only[Nat.add_zero]at hst
 rw[←hzz]at hst ⊢
 simp[Builtin.clear_,run_underlying Tryz.underlying29,hzv,hst]
set_option maxHeartbeats 4000000 in
set_option maxRecDepth 1000000 in
theorem cBz (b n c i:Nat) (cs:List Value) (w:World) (hi:i<n) (hnc:n≤c) (hc63:n+1≤281474976710656) (hcl:cs.length=n*2)
  (hcs:∀ j v,cs[j]? =some v→w.cell? ⟨b,j,none⟩=some v) (hfz:∀ j,j<n*2→w.frozen? ⟨b,j,none⟩=false) (h1c:∀ v∈cs,v.oneCell'=true) :
  Calls Tryz.prog 142 #[.slice (some ⟨b,0,none⟩) n c,.int .i64 i,.int .i64 ((i:Int)+1)] w fun e w' =>
   e=.returned (.slice (some ⟨b,0,none⟩) (n-1) c)∧w'=(w.drew.setCells b (i*2) (cs.drop ((i+1)*2))).setCells b ((n-1)*2) [.string ⟨#[]⟩,.int .i64 0]:=by
 have mixed:=aPp
 obtain⟨i0,hi0,hz0,hzs,hzb⟩:=aRe
 obtain⟨news,hnews⟩:∃ news,news=cs.drop ((i+1)*2):=⟨_,rfl⟩
 have hlen:news.length=(n-(i+1))*2:=by rw[hnews,List.length_drop,hcl];omega
 obtain⟨A,hA,hsrc⟩:∃ A:Addr,(if c=i+1 then some (⟨b,0,none⟩:Addr)else some ⟨b,(i+1)*2,none⟩)=some A∧RowKit.Hid (∀ t u,news[t]? =some u→w.drew.cell? (A.add t)=some u):=by
  by_cases h:c=i+1
  ·refine⟨⟨b,0,none⟩,by simp[h],fun t u hu=>?_⟩
   have h0:news.length=0:=by rw[hlen];omega
   rw[List.length_eq_zero_iff.1 h0]at hu
   simp at hu
  ·refine⟨⟨b,(i+1)*2,none⟩,by simp[h],fun t u hu=>?_⟩
   rw[Addr.add_lit]
   rw[hnews,List.getElem?_drop]at hu
   exact hcs _ u hu
 have hsome:∀ j,j<n*2→(w.cell? ⟨b,j,none⟩).isSome=true:=fun j hj=>by rw[hcs j _ (List.getElem?_eq_getElem (by omega))];rfl
 have s1:RowKit.Hid (news.length=(n-(i+1))*2):=hlen
 have s2:RowKit.Hid (∀ u∈news,u.oneCell'=true):=fun u hu=>by rw[hnews]at hu;exact h1c u (List.mem_of_mem_drop hu)
 have s3:RowKit.Hid (∀ t,t<news.length→(w.drew.cell? ⟨b,0+i*2+t,none⟩).isSome=true∧w.drew.frozen? ⟨b,0+i*2+t,none⟩=false):=by
  intro t ht
  rw[hlen]at ht
  rw[Nat.zero_add]
  exact⟨hsome _ (by omega),hfz _ (by omega)⟩
 obtain⟨W1,hW1⟩:∃ W1,W1=w.drew.setCells b (0+i*2) news:=⟨_,rfl⟩
 have hcl1:∀ ty,(Builtin.clear_ #[29] ty #[.slice (some ⟨b,(i+(n-(i+1)))*2,none⟩) (n-(i+(n-(i+1)))) (c-(i+(n-(i+1))))]).run Tryz.prog W1=.ok (.tuple #[]) (W1.setCells b ((n-1)*2) [.string ⟨#[]⟩,.int .i64 0]):=fun ty=>by
  rw[show n-(i+(n-(i+1)))=1 by omega,show i+(n-(i+1))=n-1 by omega]
  exact bVz W1 b ((n-1)*2) _ (fun j hj=>by rw[hW1];exact isSome_setCells b news (0+i*2) w.drew (fun t ht=>(s3 t ht).1) _ (hsome _ (by omega))) (fun j hj=>by rw[hW1,World.frozen?_setCells];exact hfz _ (by omega)) ty
 have hW:RowKit.Hid (W1=w.drew.setCells b (0+i*2) news):=hW1
 have X:Aside (W1=w.drew.setCells b (0+i*2) news):=hW1
 have Y:Aside (news=cs.drop ((i+1)*2)):=hnews
 have hic:i≤c:=by omega
 have hin:i≤n:=by omega
 have hb1:(0:Int)≤(i:Int)+1:=by omega
 have htn:((i:Int)+1).toNat=i+1:=by omega
 have hjn:(i:Int)+1≤n:=by omega
 have hjc:(i:Int)+1≤c:=by omega
 have hne:¬((i:Int)=(i:Int)+1):=by omega
 have hij:(i:Int)≤(i:Int)+1:=by omega
 clear hW1 hnews hlen hcs hfz hsome h1c
 go_enter Tryz.func142,Tryz.ntmps142
 go_wp2_with fail
 go_region_law_o (refine step_append_room rfl (.tmp 22) (.tmp 25) 29 rfl 92 i0 2 Tryz.underlying29 hi0 hzs b 0 i c (by simp[Act.eval,Act.put]) A (n-(i+1)) (c-(i+1)) news (by simp[Act.eval,Act.put]) s1.out hsrc.out s2.out (by omega) s3.out ?_;rw[←hW.out])
 go_wp2
 go_ret
 refine⟨by rw[show i+(n-(i+1))=n-1 by omega];rfl,?_⟩
 rw[X.out,Y.out,Nat.zero_add]
theorem bV7 {m c:Nat} (h:aBc m 24=true) (hg:c<m):Builtin.nextslicecap m c*24≤281474976710656∧m*24≤281474976710656:=by
 have h2:(m+m / 4+192)*24≤281474976710656:=of_decide_eq_true h
 refine⟨growslice_fits_wide (need:=m) (old:=c) (bytes:=24) hg h2,Nat.le_trans (Nat.mul_le_mul_right 24 ?_) h2⟩
 omega
theorem bWh {m:Nat} (h:aBc m 24=true):m+1≤281474976710656:=by
 have h2:(m+m / 4+192)*24≤281474976710656:=of_decide_eq_true h
 omega
theorem bRb (cs vs:List Value) (i:Nat) (hv:vs.length=2) (hi:i*2≤cs.length) (k:Nat) (u:Value) (h:(cs.take (i*2)++vs++cs.drop (i*2))[k]? =some u) :
  (k<i*2∧cs[k]? =some u)∨(i*2≤k∧k<(i+1)*2∧vs[k-i*2]? =some u)∨((i+1)*2≤k∧(cs.drop (i*2))[k-(i+1)*2]? =some u):=by
 have hl:(cs.take (i*2)).length=i*2:=by rw[List.length_take];omega
 rw[List.append_assoc]at h
 by_cases h1:k<i*2
 ·rw[List.getElem?_append_left (by omega),List.getElem?_take,if_pos h1]at h
  exact .inl ⟨h1,h⟩
 ·rw[List.getElem?_append_right (by omega),hl]at h
  by_cases h2:k<(i+1)*2
  ·rw[List.getElem?_append_left (by omega)]at h
   exact .inr (.inl ⟨by omega,h2,h⟩)
  ·rw[List.getElem?_append_right (by omega),hv,show k-i*2-2=k-(i+1)*2 by omega]at h
   exact .inr (.inr ⟨by omega,h⟩)
theorem bRs : bT5 Tryz.prog cCb := by
  refine ⟨by decide, rfl, ?_, ?_⟩
  · intro w ob v n i vb vc olds news curv Ev frv hhd hol ho1 hoc hnl hn1 hwv hthv hsv hvc hnv hob hin hro
    change olds.length = n * 2 at hol
    change news.length = 2 at hnl
    change aG7 (bd 2 curv.size) frv at hthv
    change vc * 2 ≤ curv.size at hsv
    show Calls Tryz.prog 141 _ w _
    have hnvc : ∀ j u, news[j]? = some u → w.cell? ⟨vb, 0 + j, none⟩ = some u := fun j u hj => by
      rw [Nat.zero_add, cell_of_row w vb j curv Ev frv hwv]
      exact hnv j u hj
    by_cases hroom : ∃ b c cur E fr, ob = some b ∧ v = .slice (some ⟨b, 0 * 2, none⟩) n c ∧ n ≤ c ∧ w.heap[b]? = some (.cells cur E fr) ∧ aG7 (bd 2 cur.size) fr ∧ (0 + c) * 2 ≤ cur.size ∧ n + 1 ≤ c
    · obtain ⟨b, c, cur, E, fr, hb, rfl, hnc, hw, hth, hsz, hr⟩ := hroom
      have hvb : vb ≠ b := fun e => hob (by rw [hb, e])
      have hfz : ∀ j, j < cur.size → w.frozen? ⟨b, j, none⟩ = false := fun j hj => by
        simp only [World.frozen?, hw]
        have hh := hth.lt j hj
        simp only [Bool.and_eq_false_imp, decide_eq_true_eq, decide_eq_false_iff_not]
        omega
      have hfv : ∀ j, j < curv.size + 1 → w.frozen? ⟨vb, j, none⟩ = false := fun j hj => by
        simp only [World.frozen?, hwv]
        have hh := hthv j hj
        simp only [Bool.and_eq_false_imp, decide_eq_true_eq, decide_eq_false_iff_not]
        omega
      have hsp : ∀ j, j < cur.size → (w.cell? ⟨b, j, none⟩).isSome = true := fun j hj => by
        rw [cell_of_row w b j cur E fr hw, Array.getElem?_eq_getElem hj]; rfl
      have hcs : ∀ j u, olds[j]? = some u → w.cell? ⟨b, j, none⟩ = some u := fun j u hj => by
        rw [cell_of_row w b j cur E fr hw]
        exact hoc b cur E fr hb hw j u hj
      have hc63 : n + 1 ≤ 281474976710656 := Nat.le_trans (Nat.le_succ _) (bWh hro)
      by_cases hi : i = n
      · subst hi
        refine (bOc b i c vb vc news w hr hc63 hnl (fun j hj => hsp _ (by omega)) (fun j hj => hfz _ (by omega)) hnvc hn1).mono ?_
        rintro e w' ⟨rfl, rfl⟩
        obtain ⟨cur', a1, a2, a3, a4, a5, a6, a7⟩ := aBu b news (i * 2) w cur E fr hw (by omega)
        refine .inl ⟨b, c, cur, cur', E, fr, hb, rfl, hw, rfl, hr, a1, a2, a4, a5, a6, a7, fun k u hk => ?_⟩
        rw [a3 k]
        rcases bRb olds news i hnl (by omega) k u hk with ⟨h1, h2⟩ | ⟨h1, h2, h3⟩ | ⟨h1, h2⟩
        · rw [if_neg (by omega)]; exact hoc b cur E fr hb hw k u h2
        · rw [if_pos (by omega)]; exact h3
        · rw [List.drop_eq_nil_iff.2 (by omega)] at h2; cases h2
      · have hin2 : i < n := by omega
        refine (bV6 b n c i vb vc olds news w hin2 hr hc63 hvb hol hnl hcs (fun j hj => hsp _ (by omega)) (fun j hj => hfz _ (by omega)) hnvc ho1 hn1 Ev E curv.size cur.size (by unfold World.shape?; rw [hwv]) (by unfold World.shape?; rw [hw]) (by omega) (hfv 0 (by omega)) (hfv curv.size (by omega))).mono ?_
        rintro e w' ⟨rfl, rfl⟩
        have hdl : (olds.drop (i * 2)).length = (n - i) * 2 := by rw [List.length_drop, hol]; omega
        obtain ⟨cur1, b1, b2, b3, b4, b5, b6, b7⟩ := aBu b (olds.drop (i * 2)) ((i + 1) * 2) w.drew cur E fr hw (by omega)
        obtain ⟨cur', a1, a2, a3, a4, a5, a6, a7⟩ := aBu b news (i * 2) (w.drew.setCells b ((i + 1) * 2) (olds.drop (i * 2))) cur1 E fr b1 (by omega)
        refine .inl ⟨b, c, cur, cur', E, fr, hb, rfl, hw, rfl, hr, a1, by omega, fun d hd => (a4 d hd).trans (b4 d hd), a5.trans b5, a6.trans b6, a7.trans b7, fun k u hk => ?_⟩
        rw [a3 k]
        rcases bRb olds news i hnl (by omega) k u hk with ⟨h1, h2⟩ | ⟨h1, h2, h3⟩ | ⟨h1, h2⟩
        · rw [if_neg (by omega), b3 k, if_neg (by omega)]; exact hoc b cur E fr hb hw k u h2
        · rw [if_pos (by omega)]; exact h3
        · have hk2 := (List.getElem?_eq_some_iff.1 h2).1
          rw [if_neg (by omega), b3 k, if_pos (by omega)]; exact h2
    · have grow : ∀ (base : Option Addr) (c : Nat), v = .slice base n c → n ≤ c → c < n + 1 → (∀ a, base = some a → ∀ j u, olds[j]? = some u → w.cell? (a.add j) = some u) → (i < n → ∃ b, base = some ⟨b, 0, none⟩) →
          Calls Tryz.prog 141 #[v, .int .i64 i, .slice (some ⟨vb, 0, none⟩) 1 vc] w fun e w' =>
            ∃ (b c : Nat) (cur' : Array Value) (E : TypeId), w.heap.size ≤ b ∧ b < w'.heap.size ∧ e = .returned (.slice (some ⟨b, 0, none⟩) (n + 1) c) ∧ n + 1 ≤ c ∧ c * 2 ≤ cur'.size ∧ w'.heap[b]? = some (.cells cur' E (0, 0)) ∧ w.heap.size ≤ w'.heap.size ∧
              (∀ (d : Nat), d < w.heap.size → w'.heap[d]? = w.heap[d]?) ∧ w'.os = w.os ∧ w'.output = w.output ∧ ∀ (k : Nat) (u : Value), (olds.take (i * 2) ++ news ++ olds.drop (i * 2))[k]? = some u → cur'[k]? = some u := by
        rintro base c rfl hnc hr hbc hbi
        obtain ⟨r1, r2⟩ := bV7 hro hr
        have hge := grownCap_ge w (n + 1) c 92
        by_cases hi : i = n
        · subst hi
          refine (bOd base i c vb vc olds news w hnc hr r1 r2 hol hnl (fun h => ?_) hbc hnvc hn1).mono ?_
          · rcases hhd with ⟨_, _, h0⟩ | ⟨_, _, _, _, _, _, h0, _⟩
            · exact h0
            · rw [h] at h0; cases h0
          rintro e w' ⟨rfl, rfl⟩
          refine ⟨w.heap.size, _, _, _, Nat.le_refl _, by show _ < (w.heap.push _).size; simp, rfl, hge, ?_, heap_alloc_new w.drew _, by show _ ≤ (w.heap.push _).size; simp, fun d hd => aCc w _ d hd, rfl, rfl, fun k u hk => ?_⟩
          · simp [Builtin.zeroCells, Value.cells, hol, hnl]; omega
          · have hk2 := (List.getElem?_eq_some_iff.1 hk).1
            rw [List.take_of_length_le (by omega), List.drop_eq_nil_iff.2 (by omega), List.append_nil] at hk hk2
            rw [Array.getElem?_append_left (by simpa using hk2)]
            simpa using hk
        · have hin2 : i < n := by omega
          obtain ⟨b, rfl⟩ := hbi hin2
          have hcs : ∀ j u, olds[j]? = some u → w.cell? ⟨b, j, none⟩ = some u := fun j u hj => by
            have := hbc _ rfl j u hj
            rwa [Addr.add_lit, Nat.zero_add] at this
          refine (bYo b n c i vb vc olds news w hin2 hnc hr r1 r2 hol hnl hcs hnvc ho1 hn1).mono ?_
          rintro e w' ⟨rfl, rfl⟩
          obtain ⟨ROW, hROW⟩ : ∃ ROW : Array Value, ROW = (olds.take (i * 2)).toArray ++ Builtin.zeroCells (Value.agg #[.string ⟨#[]⟩, .int .i64 0]).cells (n + 1 - i) ++ Builtin.zeroCells (Value.agg #[.string ⟨#[]⟩, .int .i64 0]).cells (grownCap w (n + 1) c 92 - (n + 1)) := ⟨_, rfl⟩
          have hRs : ROW.size = grownCap w (n + 1) c 92 * 2 := by
            rw [hROW]
            simp [Builtin.zeroCells, Value.cells, hol]
            omega
          have hRg : ∀ k, k < i * 2 → ∀ u, olds[k]? = some u → ROW[k]? = some u := fun k hk u hu => by
            have hl : (olds.take (i * 2)).length = i * 2 := by rw [List.length_take]; omega
            rw [hROW, Array.append_assoc, Array.getElem?_append_left (by simp [hol]; omega)]
            simp [List.getElem?_take, hk, hu]
          rw [← hROW]
          have hdl : (olds.drop (i * 2)).length = (n - i) * 2 := by rw [List.length_drop, hol]; omega
          obtain ⟨cur1, b1, b2, b3, b4, b5, b6, b7⟩ := aBu w.heap.size news (i * 2) (w.alloc (.cells ROW 92)).drew ROW 92 (0, 0) (heap_alloc_new w _) (by omega)
          obtain ⟨cur', a1, a2, a3, a4, a5, a6, a7⟩ := aBu w.heap.size (olds.drop (i * 2)) ((i + 1) * 2) ((w.alloc (.cells ROW 92)).drew.setCells w.heap.size (i * 2) news).drew cur1 92 (0, 0) b1 (by omega)
          have hs1 : (w.alloc (.cells ROW 92)).drew.heap.size = w.heap.size + 1 := by show (w.heap.push _).size = _; simp
          have hs2 := a5.trans b5
          refine ⟨w.heap.size, _, cur', _, Nat.le_refl _, by omega, rfl, hge, by omega, a1, by omega, fun d hd => ?_, a6.trans b6, a7.trans b7, fun k u hk => ?_⟩
          · rw [a4 d (by omega)]
            show ((w.alloc (.cells ROW 92)).drew.setCells w.heap.size (i * 2) news).heap[d]? = _
            rw [b4 d (by omega)]
            exact aCc w _ d hd
          · rw [a3 k]
            rcases bRb olds news i hnl (by omega) k u hk with ⟨h1, h2⟩ | ⟨h1, h2, h3⟩ | ⟨h1, h2⟩
            · rw [if_neg (by omega), b3 k, if_neg (by omega)]; exact hRg k h1 u h2
            · rw [if_neg (by omega), b3 k, if_pos (by omega)]; exact h3
            · have hk2 := (List.getElem?_eq_some_iff.1 h2).1
              rw [if_pos (by omega)]; exact h2
      rcases hhd with ⟨a, h0, h1⟩ | ⟨b, c, cur, E, fr, hb, h0, hnc, hw, hth, hsz⟩
      · subst h1
        exact (grow a 0 h0 (Nat.le_refl _) (by omega) (fun a _ j u hj => by rw [List.length_eq_zero_iff.1 (by omega : olds.length = 0)] at hj; cases hj) (fun h => by omega)).mono fun e w' h => Or.inr h
      · have hr : c < n + 1 := by
          rcases Nat.lt_or_ge c (n + 1) with h | h
          · exact h
          · exact absurd ⟨b, c, cur, E, fr, hb, h0, hnc, hw, hth, hsz, h⟩ hroom
        refine (grow (some ⟨b, 0 * 2, none⟩) c h0 hnc hr (fun a ha j u hj => ?_) (fun _ => ⟨b, by rw [Nat.zero_mul]⟩)).mono fun e w' h => Or.inr h
        obtain rfl := Option.some.inj ha
        rw [Addr.add_lit, Nat.zero_mul, Nat.zero_add, cell_of_row w b j cur E fr hw]
        exact hoc b cur E fr hb hw j u hj
  · intro w b n c i olds cur E fr hw hth hsz hnc hol ho1 hoc hi hro
    change olds.length = n * 2 at hol
    change c * 2 ≤ cur.size at hsz
    show Calls Tryz.prog 142 _ w _
    have hn48 : n + 1 ≤ 281474976710656 := bWh hro
    refine (cBz b n c i olds w hi hnc hn48 hol (fun j u hj => by rw [cell_of_row w b j cur E fr hw]; exact hoc j u hj) (fun j hj => by
      simp only [World.frozen?, hw]
      have hh := hth.lt j (by omega)
      simp only [Bool.and_eq_false_imp, decide_eq_true_eq, decide_eq_false_iff_not]
      omega) ho1).mono ?_
    rintro e w' ⟨rfl, rfl⟩
    have hdl : (olds.drop ((i + 1) * 2)).length = (n - (i + 1)) * 2 := by rw [List.length_drop, hol]; omega
    obtain ⟨cur1, b1, b2, b3, b4, b5, b6, b7⟩ := aBu b (olds.drop ((i + 1) * 2)) (i * 2) w.drew cur E fr hw (by omega)
    obtain ⟨cur', a1, a2, a3, a4, a5, a6, a7⟩ := aBu b [.string ⟨#[]⟩, .int .i64 0] ((n - 1) * 2) (w.drew.setCells b (i * 2) (olds.drop ((i + 1) * 2))) cur1 E fr b1 (by simp; omega)
    refine ⟨rfl, cur', a1, by omega, fun d hd => (a4 d hd).trans (b4 d hd), a5.trans b5, a6.trans b6, a7.trans b7, fun k u hk => ?_⟩
    have hl : (olds.take (i * 2)).length = i * 2 := by rw [List.length_take]; omega
    change (olds.take (i * 2) ++ olds.drop ((i + 1) * 2) ++ [.string ⟨#[]⟩, .int .i64 0])[k]? = some u at hk
    rw [a3 k]
    have hll : (olds.take (i * 2) ++ olds.drop ((i + 1) * 2)).length = (n - 1) * 2 := by rw [List.length_append, hl, hdl]; omega
    by_cases h1 : k < (n - 1) * 2
    · rw [List.getElem?_append_left (by omega)] at hk
      rw [if_neg (by omega), b3 k]
      by_cases h2 : k < i * 2
      · rw [List.getElem?_append_left (by omega), List.getElem?_take, if_pos h2] at hk
        rw [if_neg (by omega)]
        exact hoc k u hk
      · rw [List.getElem?_append_right (by omega), hl] at hk
        rw [if_pos (by omega)]
        exact hk
    · have hk2 := (List.getElem?_eq_some_iff.1 hk).1
      rw [List.length_append, hll] at hk2
      rw [List.getElem?_append_right (by omega), hll] at hk
      rw [if_pos ⟨by omega, hk2⟩]
      exact hk
noncomputable section
end
end Go.Proofs.YtigodjkegcibhaaGreatDoor.V
