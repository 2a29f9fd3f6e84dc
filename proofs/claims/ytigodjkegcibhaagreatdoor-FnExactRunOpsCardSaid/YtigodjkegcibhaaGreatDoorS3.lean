/- Functions of the given program and of its reference: what each returns, as an equation over data; by the interpreter. -/
import Derived.Test.YtigodjkegcibhaaGreatDoorS2
import Derived.Test.YtigodjkegcibhaaGreatDoorProg
import Derived.KernelRfl
import Derived.Shelf.Spec.SlicesInsertGrow
import Derived.Lib.SlicesDelete
import Derived.Deep.RegionLaw
import Derived.Deep.LoopGhost
import Derived.Below
import Derived.Shelf.LaysM
import Derived.Shelf.Strconv.Itoa3
import Derived.Shelf.LaysC
import Derived.Shelf.Strconv.AtoiAll
import Derived.Lib.AppendIntMem
import Derived.Lib.Bytealg
import Derived.Sort.Walk0
set_option linter.unusedVariables false
set_option linter.unusedSimpArgs false
set_option linter.unusedSectionVars false
set_option linter.deprecated false
namespace Go.Proofs.YtigodjkegcibhaaGreatDoor.V
noncomputable section
noncomputable def bT1 (g:FuncId):Option Func:=if g=99 then some Tryz.f99 else if g=102 then some Tryz.f102 else none
def bU7 (lv:List (Nat×List Nat)) (gs:Laws):Env:={mkE lv gs with inl:=bT1}
def bPp (g:FuncId):Bool:=g==102
def bFq:bW2:=⟨102,WS,aNl⟩
def bBi:Env:=mkE [] [(42,(sg [aAq,pS] [rI]),aKj),(44,(sg [aAq] [rI]),aHa),(43,(sg [aAq] [rB]),aCf),(41,(sg [aAq] [aBk]),aCj)]
def bNb:Env:=mkE [] [(42,(sg [aAq,pS] [rI]),aKj),(43,(sg [aAq] [rB]),aCf),(41,(sg [aAq] [aBk]),aCj)]
def aSc:Env:=bU7 [] [(90,(sg [pSl 92,pS] [rSl 92,rB]),aGv),(43,(sg [aAq] [rB]),aCf),(41,(sg [aAq] [aBk]),aCj),(83,(sg [pSl 92,pS] [rI]),aG4)]
def aSb:Env:=bU7 [] [(90,(sg [pSl 92,pS] [rSl 92,rB]),aGv),(43,(sg [aAq] [rB]),aCf),(41,(sg [aAq] [aBk]),aCj),(83,(sg [pSl 92,pS] [rI]),aG4),(100,(sg [pS] [rB]),aEk)]
def aSf:Env:=bU7 [] [(90,(sg [pSl 92,pS] [rSl 92,rB]),aGv),(43,(sg [aAq] [rB]),aCf),(41,(sg [aAq] [aBk]),aCj),(83,(sg [pSl 92,pS] [rI]),aG4),(100,(sg [pS] [rB]),aEk),(101,(sg [pI] [rS]),aIk)]
def aK8:Env:=bU7 [] [(43,(sg [aAq] [rB]),aCf),(41,(sg [aAq] [aBk]),aCj),(81,(sg [pSl 92] [rSl 92]),aGs)]
end
set_option maxRecDepth 100000
theorem bAm (H:List Pt→Nat→St→T (List C)) (ns:List (List C)) (es:List (List C)) (os:List (List C)) (ss:List (List C)) (r:Int) (x:Int) (nm:List UInt8) (t:List UInt8):(aAo bBi aAe (sg [aAq,pS,pS] [aBk,rI]) Tryz.f59 H [C.sl ns,C.sl es,C.sl os,C.sl ss,C.int .i64 r,C.int .i64 x,C.str nm,C.str t]).eval=((.must (aCx ns es os ss) (.must ((true&&ns.all fun row=>decide (row.length=3))&&((true&&es.all fun row=>decide (row.length=2))&&((true&&os.all fun row=>decide (row.length=2))&&((true&&ss.all fun row=>decide (row.length=1))&&(decide (0<1)&&true&&(decide (0<1)&&true&&true)))))&&true&&true) (.must (bQj ns es) (.must (aCx ns es os ss) (.ask (aC8 ns es os ss r x) (.ask (decide (aBa (nds ns) (ens es) nm<(0:Int))) (.must (decide (ns.length=ns.length)&&(false||ns.all fun r=>r.all C.flat)&&(decide (es.length=es.length)&&(false||es.all fun r=>r.all C.flat)&&(decide (os.length=os.length)&&(false||os.all fun r=>r.all C.flat)&&(decide (ss.length=ss.length)&&(false||ss.all fun r=>r.all C.flat)&&(true&&(false||true)&&(true&&(false||true)&&true)))))&&(true&&(false||true)&&true&&true)&&true) (.ret [C.sl ns,C.sl es,C.sl os,C.sl ss,C.int .i64 r,C.int .i64 x,C.int .i64 3])) (.must (aJa ns) (.must (decide ((0:Int)≤aBa (nds ns) (ens es) nm)&&decide (aBa (nds ns) (ens es) nm<(↑ns.length:Int))) (.must (decide (0+(aBa (nds ns) (ens es) nm).toNat<ns.length)&&(decide (0+1<(ns.getD (0+(aBa (nds ns) (ens es) nm).toNat) []).length)&&C.is K.str ((ns.getD (0+(aBa (nds ns) (ens es) nm).toNat) []).getD (0+1) (C.fn 0 []))&&true)) (.must (decide ((0:Int)≤aXw (↑t.length:Int) (IntKind.i64.wrap (r-Int.ofNat (aBz (nds ns)))))&&decide (aXw (↑t.length:Int) (IntKind.i64.wrap (r-Int.ofNat (aBz (nds ns))))≤(↑t.length:Int))) (.must (decide (((ns.getD (0+(aBa (nds ns) (ens es) nm).toNat) []).getD (0+1) (C.fn 0 [])).toStr.length+(List.drop 0 (List.take (aXw (↑t.length:Int) (IntKind.i64.wrap (r-Int.ofNat (aBz (nds ns))))).toNat t)).length≤9223372036854775807)) (.must (decide ((0:Int)≤aBa (nds ns) (ens es) nm)&&decide (aBa (nds ns) (ens es) nm<(↑ns.length:Int))) (.must (decide (0+(aBa (nds ns) (ens es) nm).toNat<ns.length)) (.ask (decide (aXw (↑t.length:Int) (IntKind.i64.wrap (r-Int.ofNat (aBz (nds ns))))<(↑t.length:Int))) (.must (decide (ns.length=(ns.set (0+(aBa (nds ns) (ens es) nm).toNat) (((List.take (0+1) (ns.getD (0+(aBa (nds ns) (ens es) nm).toNat) [])).append [C.str (((ns.getD (0+(aBa (nds ns) (ens es) nm).toNat) []).getD (0+1) (C.fn 0 [])).toStr++List.drop 0 (List.take (aXw (↑t.length:Int) (IntKind.i64.wrap (r-Int.ofNat (aBz (nds ns))))).toNat t))]).append (List.drop (0+1+1) (ns.getD (0+(aBa (nds ns) (ens es) nm).toNat) [])))).length)&&(false||(ns.set (0+(aBa (nds ns) (ens es) nm).toNat) (((List.take (0+1) (ns.getD (0+(aBa (nds ns) (ens es) nm).toNat) [])).append [C.str (((ns.getD (0+(aBa (nds ns) (ens es) nm).toNat) []).getD (0+1) (C.fn 0 [])).toStr++List.drop 0 (List.take (aXw (↑t.length:Int) (IntKind.i64.wrap (r-Int.ofNat (aBz (nds ns))))).toNat t))]).append (List.drop (0+1+1) (ns.getD (0+(aBa (nds ns) (ens es) nm).toNat) [])))).all fun r=>r.all C.flat)&&(decide (es.length=es.length)&&(false||es.all fun r=>r.all C.flat)&&(decide (os.length=os.length)&&(false||os.all fun r=>r.all C.flat)&&(decide (ss.length=ss.length)&&(false||ss.all fun r=>r.all C.flat)&&(true&&(false||true)&&(true&&(false||true)&&true)))))&&(true&&(false||true)&&true&&true)&&true) (.ret [C.sl (ns.set (0+(aBa (nds ns) (ens es) nm).toNat) (((List.take (0+1) (ns.getD (0+(aBa (nds ns) (ens es) nm).toNat) [])).append [C.str (((ns.getD (0+(aBa (nds ns) (ens es) nm).toNat) []).getD (0+1) (C.fn 0 [])).toStr++List.drop 0 (List.take (aXw (↑t.length:Int) (IntKind.i64.wrap (r-Int.ofNat (aBz (nds ns))))).toNat t))]).append (List.drop (0+1+1) (ns.getD (0+(aBa (nds ns) (ens es) nm).toNat) [])))),C.sl es,C.sl os,C.sl ss,C.int .i64 r,C.int .i64 x,C.int .i64 5])) (.must (decide (ns.length=(ns.set (0+(aBa (nds ns) (ens es) nm).toNat) (((List.take (0+1) (ns.getD (0+(aBa (nds ns) (ens es) nm).toNat) [])).append [C.str (((ns.getD (0+(aBa (nds ns) (ens es) nm).toNat) []).getD (0+1) (C.fn 0 [])).toStr++List.drop 0 (List.take (aXw (↑t.length:Int) (IntKind.i64.wrap (r-Int.ofNat (aBz (nds ns))))).toNat t))]).append (List.drop (0+1+1) (ns.getD (0+(aBa (nds ns) (ens es) nm).toNat) [])))).length)&&(false||(ns.set (0+(aBa (nds ns) (ens es) nm).toNat) (((List.take (0+1) (ns.getD (0+(aBa (nds ns) (ens es) nm).toNat) [])).append [C.str (((ns.getD (0+(aBa (nds ns) (ens es) nm).toNat) []).getD (0+1) (C.fn 0 [])).toStr++List.drop 0 (List.take (aXw (↑t.length:Int) (IntKind.i64.wrap (r-Int.ofNat (aBz (nds ns))))).toNat t))]).append (List.drop (0+1+1) (ns.getD (0+(aBa (nds ns) (ens es) nm).toNat) [])))).all fun r=>r.all C.flat)&&(decide (es.length=es.length)&&(false||es.all fun r=>r.all C.flat)&&(decide (os.length=os.length)&&(false||os.all fun r=>r.all C.flat)&&(decide (ss.length=ss.length)&&(false||ss.all fun r=>r.all C.flat)&&(true&&(false||true)&&(true&&(false||true)&&true)))))&&(true&&(false||true)&&true&&true)&&true) (.ret [C.sl (ns.set (0+(aBa (nds ns) (ens es) nm).toNat) (((List.take (0+1) (ns.getD (0+(aBa (nds ns) (ens es) nm).toNat) [])).append [C.str (((ns.getD (0+(aBa (nds ns) (ens es) nm).toNat) []).getD (0+1) (C.fn 0 [])).toStr++List.drop 0 (List.take (aXw (↑t.length:Int) (IntKind.i64.wrap (r-Int.ofNat (aBz (nds ns))))).toNat t))]).append (List.drop (0+1+1) (ns.getD (0+(aBa (nds ns) (ens es) nm).toNat) [])))),C.sl es,C.sl os,C.sl ss,C.int .i64 r,C.int .i64 x,C.int .i64 0]))))))))))) (.must (decide (ns.length=ns.length)&&(false||ns.all fun r=>r.all C.flat)&&(decide (es.length=es.length)&&(false||es.all fun r=>r.all C.flat)&&(decide (os.length=os.length)&&(false||os.all fun r=>r.all C.flat)&&(decide (ss.length=ss.length)&&(false||ss.all fun r=>r.all C.flat)&&(true&&(false||true)&&(true&&(false||true)&&true)))))&&(true&&(false||true)&&true&&true)&&true) (.ret [C.sl ns,C.sl es,C.sl os,C.sl ss,C.int .i64 r,C.int .i64 x,C.int .i64 3]))))))):T (List C)).eval:=aAg (by kernel_rfl)
theorem bHw (H:List Pt→Nat→St→T (List C)) (ns:List (List C)) (es:List (List C)) (os:List (List C)) (ss:List (List C)) (r:Int) (x:Int) (nm:List UInt8):(aAo bNb aAe (sg [aAq,pS] [aBk,rI]) Tryz.f60 H [C.sl ns,C.sl es,C.sl os,C.sl ss,C.int .i64 r,C.int .i64 x,C.str nm]).eval=((.must (aCx ns es os ss) (.must ((true&&ns.all fun row=>decide (row.length=3))&&((true&&es.all fun row=>decide (row.length=2))&&((true&&os.all fun row=>decide (row.length=2))&&((true&&ss.all fun row=>decide (row.length=1))&&(decide (0<1)&&true&&(decide (0<1)&&true&&true)))))&&true&&true) (.must (bQj ns es) (.must (aCx ns es os ss) (.ask (aC8 ns es os ss r x) (.ask (decide (aBa (nds ns) (ens es) nm<(0:Int))) (.must (decide (ns.length=ns.length)&&(false||ns.all fun r=>r.all C.flat)&&(decide (es.length=es.length)&&(false||es.all fun r=>r.all C.flat)&&(decide (os.length=os.length)&&(false||os.all fun r=>r.all C.flat)&&(decide (ss.length=ss.length)&&(false||ss.all fun r=>r.all C.flat)&&(true&&(false||true)&&(true&&(false||true)&&true)))))&&(true&&(false||true)&&true&&true)&&true) (.ret [C.sl ns,C.sl es,C.sl os,C.sl ss,C.int .i64 r,C.int .i64 x,C.int .i64 3])) (.must (decide ((0:Int)≤aBa (nds ns) (ens es) nm)&&decide (aBa (nds ns) (ens es) nm<(↑ns.length:Int))) (.must (decide (0+(aBa (nds ns) (ens es) nm).toNat<ns.length)&&(decide (0+1<(ns.getD (0+(aBa (nds ns) (ens es) nm).toNat) []).length)&&C.is K.str ((ns.getD (0+(aBa (nds ns) (ens es) nm).toNat) []).getD (0+1) (C.fn 0 []))&&true)) (.must (decide ((0:Int)≤aBa (nds ns) (ens es) nm)&&decide (aBa (nds ns) (ens es) nm<(↑ns.length:Int))) (.must (decide (0+(aBa (nds ns) (ens es) nm).toNat<ns.length)) (.must (decide (ns.length=(ns.set (0+(aBa (nds ns) (ens es) nm).toNat) (((List.take (0+2) (ns.getD (0+(aBa (nds ns) (ens es) nm).toNat) [])).append [C.int .i64 (↑((ns.getD (0+(aBa (nds ns) (ens es) nm).toNat) []).getD (0+1) (C.fn 0 [])).toStr.length:Int)]).append (List.drop (0+2+1) (ns.getD (0+(aBa (nds ns) (ens es) nm).toNat) [])))).length)&&(false||(ns.set (0+(aBa (nds ns) (ens es) nm).toNat) (((List.take (0+2) (ns.getD (0+(aBa (nds ns) (ens es) nm).toNat) [])).append [C.int .i64 (↑((ns.getD (0+(aBa (nds ns) (ens es) nm).toNat) []).getD (0+1) (C.fn 0 [])).toStr.length:Int)]).append (List.drop (0+2+1) (ns.getD (0+(aBa (nds ns) (ens es) nm).toNat) [])))).all fun r=>r.all C.flat)&&(decide (es.length=es.length)&&(false||es.all fun r=>r.all C.flat)&&(decide (os.length=os.length)&&(false||os.all fun r=>r.all C.flat)&&(decide (ss.length=ss.length)&&(false||ss.all fun r=>r.all C.flat)&&(true&&(false||true)&&(true&&(false||true)&&true)))))&&(true&&(false||true)&&true&&true)&&true) (.ret [C.sl (ns.set (0+(aBa (nds ns) (ens es) nm).toNat) (((List.take (0+2) (ns.getD (0+(aBa (nds ns) (ens es) nm).toNat) [])).append [C.int .i64 (↑((ns.getD (0+(aBa (nds ns) (ens es) nm).toNat) []).getD (0+1) (C.fn 0 [])).toStr.length:Int)]).append (List.drop (0+2+1) (ns.getD (0+(aBa (nds ns) (ens es) nm).toNat) [])))),C.sl es,C.sl os,C.sl ss,C.int .i64 r,C.int .i64 x,C.int .i64 0]))))))) (.must (decide (ns.length=ns.length)&&(false||ns.all fun r=>r.all C.flat)&&(decide (es.length=es.length)&&(false||es.all fun r=>r.all C.flat)&&(decide (os.length=os.length)&&(false||os.all fun r=>r.all C.flat)&&(decide (ss.length=ss.length)&&(false||ss.all fun r=>r.all C.flat)&&(true&&(false||true)&&(true&&(false||true)&&true)))))&&(true&&(false||true)&&true&&true)&&true) (.ret [C.sl ns,C.sl es,C.sl os,C.sl ss,C.int .i64 r,C.int .i64 x,C.int .i64 3]))))))):T (List C)).eval:=aAg (by kernel_rfl)
theorem bAb (H:List Pt→Nat→St→T (List C)) (ns:List (List C)) (es:List (List C)) (os:List (List C)) (ss:List (List C)) (r:Int) (x:Int) (nm:List UInt8):(aAo aSc (bP9 (wI E0 bFq) bPp aSc 2) (sg [aAq,pS] [aBk,rI]) Tryz.f57 H [C.sl ns,C.sl es,C.sl os,C.sl ss,C.int .i64 r,C.int .i64 x,C.str nm]).eval=((.must (aCx ns es os ss) (.must ((true&&ns.all fun row=>decide (row.length=3))&&((true&&es.all fun row=>decide (row.length=2))&&((true&&os.all fun row=>decide (row.length=2))&&((true&&ss.all fun row=>decide (row.length=1))&&(decide (0<1)&&true&&(decide (0<1)&&true&&true)))))&&true&&true) (.must (aCx ns es os ss) (.ask (aC8 ns es os ss r x) (.must (decide (es.length≤aFz)&&aAa [K.str,K.int .i64] es) (.ask (decide (aA2 (ens es) nm<(0:Int))) (.must (decide (ns.length=ns.length)&&(false||ns.all fun r=>r.all C.flat)&&(decide (es.length=es.length)&&(false||es.all fun r=>r.all C.flat)&&(decide (os.length=os.length)&&(false||os.all fun r=>r.all C.flat)&&(decide (ss.length=ss.length)&&(false||ss.all fun r=>r.all C.flat)&&(true&&(false||true)&&(true&&(false||true)&&true)))))&&(true&&(false||true)&&true&&true)&&true) (.ret [C.sl ns,C.sl es,C.sl os,C.sl ss,C.int .i64 r,C.int .i64 x,C.int .i64 3])) (.must (decide (1+nm.length≤9223372036854775807)) (.must (decide (ss.length=ss.length)&&aC0 (ss.length+1) 16&&(decide (1=1)&&true)) (.must (aFc (List.take es.length es)&&decide ((List.take es.length es).length<16777216)&&decide (([(45:UInt8)]++nm).length≤16777216)) (.must ((true&&(aAs (List.take es.length es) ([(45:UInt8)]++nm)).all fun row=>decide (row.length=2))&&true&&(decide (0<1)&&true&&true&&true)&&true) (.ask (aG5 (List.take es.length es) ([(45:UInt8)]++nm)) (.must (true&&(true&&(true&&(true&&(true&&(true&&true)))))&&(decide (ns.length=ns.length)&&(decide ((aAs (List.take es.length es) ([(45:UInt8)]++nm)).length=(aAs (List.take es.length es) ([(45:UInt8)]++nm)).length)&&(decide (os.length=os.length)&&(decide (ss.length+1=(ss.append [[C.str ([(45:UInt8)]++nm)]]).length)&&true))))) (.must (aCx ns (aAs (List.take es.length es) ([(45:UInt8)]++nm)) os (ss.append [[C.str ([(45:UInt8)]++nm)]])) (.must ((true&&(aBf ns os (ss.append [[C.str ([(45:UInt8)]++nm)]])).all fun row=>decide (row.length=3))&&((true&&(aAs (List.take es.length es) ([(45:UInt8)]++nm)).all fun row=>decide (row.length=2))&&((true&&os.all fun row=>decide (row.length=2))&&((true&&(ss.append [[C.str ([(45:UInt8)]++nm)]]).all fun row=>decide (row.length=1))&&(decide (0<1)&&true&&(decide (0<1)&&true&&true)))))) (.must (decide ((aBf ns os (ss.append [[C.str ([(45:UInt8)]++nm)]])).length=(aBf ns os (ss.append [[C.str ([(45:UInt8)]++nm)]])).length)&&(false||(aBf ns os (ss.append [[C.str ([(45:UInt8)]++nm)]])).all fun r=>r.all C.flat)&&(decide ((aAs (List.take es.length es) ([(45:UInt8)]++nm)).length=(aAs (List.take es.length es) ([(45:UInt8)]++nm)).length)&&(false||(aAs (List.take es.length es) ([(45:UInt8)]++nm)).all fun r=>r.all C.flat)&&(decide (os.length=os.length)&&(false||os.all fun r=>r.all C.flat)&&(decide ((ss.append [[C.str ([(45:UInt8)]++nm)]]).length=(ss.append [[C.str ([(45:UInt8)]++nm)]]).length)&&(false||(ss.append [[C.str ([(45:UInt8)]++nm)]]).all fun r=>r.all C.flat)&&(true&&(false||true)&&(true&&(false||true)&&true)))))&&(true&&(false||true)&&true&&true)&&true) (.ret [C.sl (aBf ns os (ss.append [[C.str ([(45:UInt8)]++nm)]])),C.sl (aAs (List.take es.length es) ([(45:UInt8)]++nm)),C.sl os,C.sl (ss.append [[C.str ([(45:UInt8)]++nm)]]),C.int .i64 r,C.int .i64 x,C.int .i64 0]))))) (.must (true&&(true&&(true&&(true&&(true&&(true&&true)))))&&(decide (ns.length=ns.length)&&(decide ((aAs (List.take es.length es) ([(45:UInt8)]++nm)).length=(aAs (List.take es.length es) ([(45:UInt8)]++nm)).length)&&(decide (os.length=os.length)&&(decide (ss.length+1=(ss.append [[C.str ([(45:UInt8)]++nm)]]).length)&&true))))) (.must (aCx ns (aAs (List.take es.length es) ([(45:UInt8)]++nm)) os (ss.append [[C.str ([(45:UInt8)]++nm)]])) (.must ((true&&(aBf ns os (ss.append [[C.str ([(45:UInt8)]++nm)]])).all fun row=>decide (row.length=3))&&((true&&(aAs (List.take es.length es) ([(45:UInt8)]++nm)).all fun row=>decide (row.length=2))&&((true&&os.all fun row=>decide (row.length=2))&&((true&&(ss.append [[C.str ([(45:UInt8)]++nm)]]).all fun row=>decide (row.length=1))&&(decide (0<1)&&true&&(decide (0<1)&&true&&true)))))) (.must (decide ((aBf ns os (ss.append [[C.str ([(45:UInt8)]++nm)]])).length=(aBf ns os (ss.append [[C.str ([(45:UInt8)]++nm)]])).length)&&(false||(aBf ns os (ss.append [[C.str ([(45:UInt8)]++nm)]])).all fun r=>r.all C.flat)&&(decide ((aAs (List.take es.length es) ([(45:UInt8)]++nm)).length=(aAs (List.take es.length es) ([(45:UInt8)]++nm)).length)&&(false||(aAs (List.take es.length es) ([(45:UInt8)]++nm)).all fun r=>r.all C.flat)&&(decide (os.length=os.length)&&(false||os.all fun r=>r.all C.flat)&&(decide ((ss.append [[C.str ([(45:UInt8)]++nm)]]).length=(ss.append [[C.str ([(45:UInt8)]++nm)]]).length)&&(false||(ss.append [[C.str ([(45:UInt8)]++nm)]]).all fun r=>r.all C.flat)&&(true&&(false||true)&&(true&&(false||true)&&true)))))&&(true&&(false||true)&&true&&true)&&true) (.ret [C.sl (aBf ns os (ss.append [[C.str ([(45:UInt8)]++nm)]])),C.sl (aAs (List.take es.length es) ([(45:UInt8)]++nm)),C.sl os,C.sl (ss.append [[C.str ([(45:UInt8)]++nm)]]),C.int .i64 r,C.int .i64 x,C.int .i64 0])))))))))))) (.must (decide (ns.length=ns.length)&&(false||ns.all fun r=>r.all C.flat)&&(decide (es.length=es.length)&&(false||es.all fun r=>r.all C.flat)&&(decide (os.length=os.length)&&(false||os.all fun r=>r.all C.flat)&&(decide (ss.length=ss.length)&&(false||ss.all fun r=>r.all C.flat)&&(true&&(false||true)&&(true&&(false||true)&&true)))))&&(true&&(false||true)&&true&&true)&&true) (.ret [C.sl ns,C.sl es,C.sl os,C.sl ss,C.int .i64 r,C.int .i64 x,C.int .i64 3])))))):T (List C)).eval:=aAg (by kernel_rfl)
theorem bA9 (H:List Pt→Nat→St→T (List C)) (ns:List (List C)) (es:List (List C)) (os:List (List C)) (ss:List (List C)) (r:Int) (x:Int) (a:List UInt8) (b:List UInt8):(aAo aSb (bP9 (wI E0 bFq) bPp aSb 2) (sg [aAq,pS,pS] [aBk,rI]) Tryz.f61 H [C.sl ns,C.sl es,C.sl os,C.sl ss,C.int .i64 r,C.int .i64 x,C.str a,C.str b]).eval=((.must (aCx ns es os ss) (.must ((true&&ns.all fun row=>decide (row.length=3))&&((true&&es.all fun row=>decide (row.length=2))&&((true&&os.all fun row=>decide (row.length=2))&&((true&&ss.all fun row=>decide (row.length=1))&&(decide (0<1)&&true&&(decide (0<1)&&true&&true)))))&&true&&true) (.must (aCx ns es os ss) (.ask (aC8 ns es os ss r x) (.must (decide (es.length≤aFz)&&aAa [K.str,K.int .i64] es) (.ask (decide (aA2 (ens es) a<(0:Int))) (.must (decide (ns.length=ns.length)&&(false||ns.all fun r=>r.all C.flat)&&(decide (es.length=es.length)&&(false||es.all fun r=>r.all C.flat)&&(decide (os.length=os.length)&&(false||os.all fun r=>r.all C.flat)&&(decide (ss.length=ss.length)&&(false||ss.all fun r=>r.all C.flat)&&(true&&(false||true)&&(true&&(false||true)&&true)))))&&(true&&(false||true)&&true&&true)&&true) (.ret [C.sl ns,C.sl es,C.sl os,C.sl ss,C.int .i64 r,C.int .i64 x,C.int .i64 3])) (.must (decide (b.length≤281474976710656)) (.ask (aAy b) (.ask (a==b) (.must (decide (ns.length=ns.length)&&(false||ns.all fun r=>r.all C.flat)&&(decide (es.length=es.length)&&(false||es.all fun r=>r.all C.flat)&&(decide (os.length=os.length)&&(false||os.all fun r=>r.all C.flat)&&(decide (ss.length=ss.length)&&(false||ss.all fun r=>r.all C.flat)&&(true&&(false||true)&&(true&&(false||true)&&true)))))&&(true&&(false||true)&&true&&true)&&true) (.ret [C.sl ns,C.sl es,C.sl os,C.sl ss,C.int .i64 r,C.int .i64 x,C.int .i64 1])) (.must (decide (1+a.length≤9223372036854775807)) (.must (decide (([(62:UInt8)]++a).length+1≤9223372036854775807)) (.must (decide (([(62:UInt8)]++a++[(58:UInt8)]).length+b.length≤9223372036854775807)) (.must (decide (ss.length=ss.length)&&aC0 (ss.length+1) 16&&(decide (1=1)&&true)) (.must (aFc (List.take es.length es)&&decide ((List.take es.length es).length<16777216)&&decide (([(62:UInt8)]++a++[(58:UInt8)]++b).length≤16777216)) (.must ((true&&(aAs (List.take es.length es) ([(62:UInt8)]++a++[(58:UInt8)]++b)).all fun row=>decide (row.length=2))&&true&&(decide (0<1)&&true&&true&&true)&&true) (.ask (aG5 (List.take es.length es) ([(62:UInt8)]++a++[(58:UInt8)]++b)) (.must (true&&(true&&(true&&(true&&(true&&(true&&true)))))&&(decide (ns.length=ns.length)&&(decide ((aAs (List.take es.length es) ([(62:UInt8)]++a++[(58:UInt8)]++b)).length=(aAs (List.take es.length es) ([(62:UInt8)]++a++[(58:UInt8)]++b)).length)&&(decide (os.length=os.length)&&(decide (ss.length+1=(ss.append [[C.str ([(62:UInt8)]++a++[(58:UInt8)]++b)]]).length)&&true))))) (.must (aCx ns (aAs (List.take es.length es) ([(62:UInt8)]++a++[(58:UInt8)]++b)) os (ss.append [[C.str ([(62:UInt8)]++a++[(58:UInt8)]++b)]])) (.must ((true&&(aBf ns os (ss.append [[C.str ([(62:UInt8)]++a++[(58:UInt8)]++b)]])).all fun row=>decide (row.length=3))&&((true&&(aAs (List.take es.length es) ([(62:UInt8)]++a++[(58:UInt8)]++b)).all fun row=>decide (row.length=2))&&((true&&os.all fun row=>decide (row.length=2))&&((true&&(ss.append [[C.str ([(62:UInt8)]++a++[(58:UInt8)]++b)]]).all fun row=>decide (row.length=1))&&(decide (0<1)&&true&&(decide (0<1)&&true&&true)))))) (.must (decide ((aBf ns os (ss.append [[C.str ([(62:UInt8)]++a++[(58:UInt8)]++b)]])).length=(aBf ns os (ss.append [[C.str ([(62:UInt8)]++a++[(58:UInt8)]++b)]])).length)&&(false||(aBf ns os (ss.append [[C.str ([(62:UInt8)]++a++[(58:UInt8)]++b)]])).all fun r=>r.all C.flat)&&(decide ((aAs (List.take es.length es) ([(62:UInt8)]++a++[(58:UInt8)]++b)).length=(aAs (List.take es.length es) ([(62:UInt8)]++a++[(58:UInt8)]++b)).length)&&(false||(aAs (List.take es.length es) ([(62:UInt8)]++a++[(58:UInt8)]++b)).all fun r=>r.all C.flat)&&(decide (os.length=os.length)&&(false||os.all fun r=>r.all C.flat)&&(decide ((ss.append [[C.str ([(62:UInt8)]++a++[(58:UInt8)]++b)]]).length=(ss.append [[C.str ([(62:UInt8)]++a++[(58:UInt8)]++b)]]).length)&&(false||(ss.append [[C.str ([(62:UInt8)]++a++[(58:UInt8)]++b)]]).all fun r=>r.all C.flat)&&(true&&(false||true)&&(true&&(false||true)&&true)))))&&(true&&(false||true)&&true&&true)&&true) (.ret [C.sl (aBf ns os (ss.append [[C.str ([(62:UInt8)]++a++[(58:UInt8)]++b)]])),C.sl (aAs (List.take es.length es) ([(62:UInt8)]++a++[(58:UInt8)]++b)),C.sl os,C.sl (ss.append [[C.str ([(62:UInt8)]++a++[(58:UInt8)]++b)]]),C.int .i64 r,C.int .i64 x,C.int .i64 0]))))) (.must (true&&(true&&(true&&(true&&(true&&(true&&true)))))&&(decide (ns.length=ns.length)&&(decide ((aAs (List.take es.length es) ([(62:UInt8)]++a++[(58:UInt8)]++b)).length=(aAs (List.take es.length es) ([(62:UInt8)]++a++[(58:UInt8)]++b)).length)&&(decide (os.length=os.length)&&(decide (ss.length+1=(ss.append [[C.str ([(62:UInt8)]++a++[(58:UInt8)]++b)]]).length)&&true))))) (.must (aCx ns (aAs (List.take es.length es) ([(62:UInt8)]++a++[(58:UInt8)]++b)) os (ss.append [[C.str ([(62:UInt8)]++a++[(58:UInt8)]++b)]])) (.must ((true&&(aBf ns os (ss.append [[C.str ([(62:UInt8)]++a++[(58:UInt8)]++b)]])).all fun row=>decide (row.length=3))&&((true&&(aAs (List.take es.length es) ([(62:UInt8)]++a++[(58:UInt8)]++b)).all fun row=>decide (row.length=2))&&((true&&os.all fun row=>decide (row.length=2))&&((true&&(ss.append [[C.str ([(62:UInt8)]++a++[(58:UInt8)]++b)]]).all fun row=>decide (row.length=1))&&(decide (0<1)&&true&&(decide (0<1)&&true&&true)))))) (.must (decide ((aBf ns os (ss.append [[C.str ([(62:UInt8)]++a++[(58:UInt8)]++b)]])).length=(aBf ns os (ss.append [[C.str ([(62:UInt8)]++a++[(58:UInt8)]++b)]])).length)&&(false||(aBf ns os (ss.append [[C.str ([(62:UInt8)]++a++[(58:UInt8)]++b)]])).all fun r=>r.all C.flat)&&(decide ((aAs (List.take es.length es) ([(62:UInt8)]++a++[(58:UInt8)]++b)).length=(aAs (List.take es.length es) ([(62:UInt8)]++a++[(58:UInt8)]++b)).length)&&(false||(aAs (List.take es.length es) ([(62:UInt8)]++a++[(58:UInt8)]++b)).all fun r=>r.all C.flat)&&(decide (os.length=os.length)&&(false||os.all fun r=>r.all C.flat)&&(decide ((ss.append [[C.str ([(62:UInt8)]++a++[(58:UInt8)]++b)]]).length=(ss.append [[C.str ([(62:UInt8)]++a++[(58:UInt8)]++b)]]).length)&&(false||(ss.append [[C.str ([(62:UInt8)]++a++[(58:UInt8)]++b)]]).all fun r=>r.all C.flat)&&(true&&(false||true)&&(true&&(false||true)&&true)))))&&(true&&(false||true)&&true&&true)&&true) (.ret [C.sl (aBf ns os (ss.append [[C.str ([(62:UInt8)]++a++[(58:UInt8)]++b)]])),C.sl (aAs (List.take es.length es) ([(62:UInt8)]++a++[(58:UInt8)]++b)),C.sl os,C.sl (ss.append [[C.str ([(62:UInt8)]++a++[(58:UInt8)]++b)]]),C.int .i64 r,C.int .i64 x,C.int .i64 0]))))))))))))) (.must (decide (ns.length=ns.length)&&(false||ns.all fun r=>r.all C.flat)&&(decide (es.length=es.length)&&(false||es.all fun r=>r.all C.flat)&&(decide (os.length=os.length)&&(false||os.all fun r=>r.all C.flat)&&(decide (ss.length=ss.length)&&(false||ss.all fun r=>r.all C.flat)&&(true&&(false||true)&&(true&&(false||true)&&true)))))&&(true&&(false||true)&&true&&true)&&true) (.ret [C.sl ns,C.sl es,C.sl os,C.sl ss,C.int .i64 r,C.int .i64 x,C.int .i64 1])))))) (.must (decide (ns.length=ns.length)&&(false||ns.all fun r=>r.all C.flat)&&(decide (es.length=es.length)&&(false||es.all fun r=>r.all C.flat)&&(decide (os.length=os.length)&&(false||os.all fun r=>r.all C.flat)&&(decide (ss.length=ss.length)&&(false||ss.all fun r=>r.all C.flat)&&(true&&(false||true)&&(true&&(false||true)&&true)))))&&(true&&(false||true)&&true&&true)&&true) (.ret [C.sl ns,C.sl es,C.sl os,C.sl ss,C.int .i64 r,C.int .i64 x,C.int .i64 3])))))):T (List C)).eval:=aAg (by kernel_rfl)
theorem bAk (H:List Pt→Nat→St→T (List C)) (ns:List (List C)) (es:List (List C)) (os:List (List C)) (ss:List (List C)) (r:Int) (x:Int) (nm:List UInt8):(aAo aSf (bP9 (wI E0 bFq) bPp aSf 2) (sg [aAq,pS] [aBk,rI]) Tryz.f58 H [C.sl ns,C.sl es,C.sl os,C.sl ss,C.int .i64 r,C.int .i64 x,C.str nm]).eval=((.must (aCx ns es os ss) (.must ((true&&ns.all fun row=>decide (row.length=3))&&((true&&es.all fun row=>decide (row.length=2))&&((true&&os.all fun row=>decide (row.length=2))&&((true&&ss.all fun row=>decide (row.length=1))&&(decide (0<1)&&true&&(decide (0<1)&&true&&true)))))&&true&&true) (.must (aCx ns es os ss) (.ask (aC8 ns es os ss r x) (.must (decide (nm.length≤281474976710656)) (.ask (aAy nm) (.must (decide (es.length≤aFz)&&aAa [K.str,K.int .i64] es) (.ask (decide ((0:Int)≤aA2 (ens es) nm)) (.must (decide (ns.length=ns.length)&&(false||ns.all fun r=>r.all C.flat)&&(decide (es.length=es.length)&&(false||es.all fun r=>r.all C.flat)&&(decide (os.length=os.length)&&(false||os.all fun r=>r.all C.flat)&&(decide (ss.length=ss.length)&&(false||ss.all fun r=>r.all C.flat)&&(true&&(false||true)&&(true&&(false||true)&&true)))))&&(true&&(false||true)&&true&&true)&&true) (.ret [C.sl ns,C.sl es,C.sl os,C.sl ss,C.int .i64 r,C.int .i64 x,C.int .i64 2])) (.ask (decide ((16:Int)≤(↑es.length:Int))) (.must (decide (ns.length=ns.length)&&(false||ns.all fun r=>r.all C.flat)&&(decide (es.length=es.length)&&(false||es.all fun r=>r.all C.flat)&&(decide (os.length=os.length)&&(false||os.all fun r=>r.all C.flat)&&(decide (ss.length=ss.length)&&(false||ss.all fun r=>r.all C.flat)&&(true&&(false||true)&&(true&&(false||true)&&true)))))&&(true&&(false||true)&&true&&true)&&true) (.ret [C.sl ns,C.sl es,C.sl os,C.sl ss,C.int .i64 r,C.int .i64 x,C.int .i64 4])) (.ask (decide ((64:Int)≤(↑ns.length:Int))) (.must (decide (ns.length=ns.length)&&(false||ns.all fun r=>r.all C.flat)&&(decide (es.length=es.length)&&(false||es.all fun r=>r.all C.flat)&&(decide (os.length=os.length)&&(false||os.all fun r=>r.all C.flat)&&(decide (ss.length=ss.length)&&(false||ss.all fun r=>r.all C.flat)&&(true&&(false||true)&&(true&&(false||true)&&true)))))&&(true&&(false||true)&&true&&true)&&true) (.ret [C.sl ns,C.sl es,C.sl os,C.sl ss,C.int .i64 r,C.int .i64 x,C.int .i64 4])) (.ask (decide ((1000000000:Int)≤x)) (.must (decide (ns.length=ns.length)&&(false||ns.all fun r=>r.all C.flat)&&(decide (es.length=es.length)&&(false||es.all fun r=>r.all C.flat)&&(decide (os.length=os.length)&&(false||os.all fun r=>r.all C.flat)&&(decide (ss.length=ss.length)&&(false||ss.all fun r=>r.all C.flat)&&(true&&(false||true)&&(true&&(false||true)&&true)))))&&(true&&(false||true)&&true&&true)&&true) (.ret [C.sl ns,C.sl es,C.sl os,C.sl ss,C.int .i64 r,C.int .i64 x,C.int .i64 4])) (.must (decide (ns.length=ns.length)&&aC0 (ns.length+1) 32&&(decide (3=3)&&true)) (.must (decide (1+nm.length≤9223372036854775807)) (.must (decide (([(43:UInt8)]++nm).length+1≤9223372036854775807)) (.must (inB x 0 1000000000) (.must (decide (([(43:UInt8)]++nm++[(58:UInt8)]).length+(aB3 x).length≤9223372036854775807)) (.must (decide (ss.length=ss.length)&&aC0 (ss.length+1) 16&&(decide (1=1)&&true)) (.must (aFc (List.take es.length es)&&decide ((List.take es.length es).length<16777216)&&decide (([(43:UInt8)]++nm++[(58:UInt8)]++aB3 x).length≤16777216)) (.must ((true&&(aAs (List.take es.length es) ([(43:UInt8)]++nm++[(58:UInt8)]++aB3 x)).all fun row=>decide (row.length=2))&&true&&(decide (0<1)&&true&&true&&true)&&true) (.ask (aG5 (List.take es.length es) ([(43:UInt8)]++nm++[(58:UInt8)]++aB3 x)) (.must (true&&(true&&(true&&(true&&(true&&(true&&true)))))&&(decide (ns.length+1=(ns.append [[C.int .i64 x,C.str [],C.int .i64 0]]).length)&&(decide ((aAs (List.take es.length es) ([(43:UInt8)]++nm++[(58:UInt8)]++aB3 x)).length=(aAs (List.take es.length es) ([(43:UInt8)]++nm++[(58:UInt8)]++aB3 x)).length)&&(decide (os.length=os.length)&&(decide (ss.length+1=(ss.append [[C.str ([(43:UInt8)]++nm++[(58:UInt8)]++aB3 x)]]).length)&&true))))) (.must (aCx (ns.append [[C.int .i64 x,C.str [],C.int .i64 0]]) (aAs (List.take es.length es) ([(43:UInt8)]++nm++[(58:UInt8)]++aB3 x)) os (ss.append [[C.str ([(43:UInt8)]++nm++[(58:UInt8)]++aB3 x)]])) (.must ((true&&(aBf (ns.append [[C.int .i64 x,C.str [],C.int .i64 0]]) os (ss.append [[C.str ([(43:UInt8)]++nm++[(58:UInt8)]++aB3 x)]])).all fun row=>decide (row.length=3))&&((true&&(aAs (List.take es.length es) ([(43:UInt8)]++nm++[(58:UInt8)]++aB3 x)).all fun row=>decide (row.length=2))&&((true&&os.all fun row=>decide (row.length=2))&&((true&&(ss.append [[C.str ([(43:UInt8)]++nm++[(58:UInt8)]++aB3 x)]]).all fun row=>decide (row.length=1))&&(decide (0<1)&&true&&(decide (0<1)&&true&&true)))))) (.must (decide ((aBf (ns.append [[C.int .i64 x,C.str [],C.int .i64 0]]) os (ss.append [[C.str ([(43:UInt8)]++nm++[(58:UInt8)]++aB3 x)]])).length=(aBf (ns.append [[C.int .i64 x,C.str [],C.int .i64 0]]) os (ss.append [[C.str ([(43:UInt8)]++nm++[(58:UInt8)]++aB3 x)]])).length)&&(false||(aBf (ns.append [[C.int .i64 x,C.str [],C.int .i64 0]]) os (ss.append [[C.str ([(43:UInt8)]++nm++[(58:UInt8)]++aB3 x)]])).all fun r=>r.all C.flat)&&(decide ((aAs (List.take es.length es) ([(43:UInt8)]++nm++[(58:UInt8)]++aB3 x)).length=(aAs (List.take es.length es) ([(43:UInt8)]++nm++[(58:UInt8)]++aB3 x)).length)&&(false||(aAs (List.take es.length es) ([(43:UInt8)]++nm++[(58:UInt8)]++aB3 x)).all fun r=>r.all C.flat)&&(decide (os.length=os.length)&&(false||os.all fun r=>r.all C.flat)&&(decide ((ss.append [[C.str ([(43:UInt8)]++nm++[(58:UInt8)]++aB3 x)]]).length=(ss.append [[C.str ([(43:UInt8)]++nm++[(58:UInt8)]++aB3 x)]]).length)&&(false||(ss.append [[C.str ([(43:UInt8)]++nm++[(58:UInt8)]++aB3 x)]]).all fun r=>r.all C.flat)&&(true&&(false||true)&&(true&&(false||true)&&true)))))&&(true&&(false||true)&&true&&true)&&true) (.ret [C.sl (aBf (ns.append [[C.int .i64 x,C.str [],C.int .i64 0]]) os (ss.append [[C.str ([(43:UInt8)]++nm++[(58:UInt8)]++aB3 x)]])),C.sl (aAs (List.take es.length es) ([(43:UInt8)]++nm++[(58:UInt8)]++aB3 x)),C.sl os,C.sl (ss.append [[C.str ([(43:UInt8)]++nm++[(58:UInt8)]++aB3 x)]]),C.int .i64 r,C.int .i64 (IntKind.i64.wrap (x+(1:Int))),C.int .i64 0]))))) (.must (true&&(true&&(true&&(true&&(true&&(true&&true)))))&&(decide (ns.length+1=(ns.append [[C.int .i64 x,C.str [],C.int .i64 0]]).length)&&(decide ((aAs (List.take es.length es) ([(43:UInt8)]++nm++[(58:UInt8)]++aB3 x)).length=(aAs (List.take es.length es) ([(43:UInt8)]++nm++[(58:UInt8)]++aB3 x)).length)&&(decide (os.length=os.length)&&(decide (ss.length+1=(ss.append [[C.str ([(43:UInt8)]++nm++[(58:UInt8)]++aB3 x)]]).length)&&true))))) (.must (aCx (ns.append [[C.int .i64 x,C.str [],C.int .i64 0]]) (aAs (List.take es.length es) ([(43:UInt8)]++nm++[(58:UInt8)]++aB3 x)) os (ss.append [[C.str ([(43:UInt8)]++nm++[(58:UInt8)]++aB3 x)]])) (.must ((true&&(aBf (ns.append [[C.int .i64 x,C.str [],C.int .i64 0]]) os (ss.append [[C.str ([(43:UInt8)]++nm++[(58:UInt8)]++aB3 x)]])).all fun row=>decide (row.length=3))&&((true&&(aAs (List.take es.length es) ([(43:UInt8)]++nm++[(58:UInt8)]++aB3 x)).all fun row=>decide (row.length=2))&&((true&&os.all fun row=>decide (row.length=2))&&((true&&(ss.append [[C.str ([(43:UInt8)]++nm++[(58:UInt8)]++aB3 x)]]).all fun row=>decide (row.length=1))&&(decide (0<1)&&true&&(decide (0<1)&&true&&true)))))) (.must (decide ((aBf (ns.append [[C.int .i64 x,C.str [],C.int .i64 0]]) os (ss.append [[C.str ([(43:UInt8)]++nm++[(58:UInt8)]++aB3 x)]])).length=(aBf (ns.append [[C.int .i64 x,C.str [],C.int .i64 0]]) os (ss.append [[C.str ([(43:UInt8)]++nm++[(58:UInt8)]++aB3 x)]])).length)&&(false||(aBf (ns.append [[C.int .i64 x,C.str [],C.int .i64 0]]) os (ss.append [[C.str ([(43:UInt8)]++nm++[(58:UInt8)]++aB3 x)]])).all fun r=>r.all C.flat)&&(decide ((aAs (List.take es.length es) ([(43:UInt8)]++nm++[(58:UInt8)]++aB3 x)).length=(aAs (List.take es.length es) ([(43:UInt8)]++nm++[(58:UInt8)]++aB3 x)).length)&&(false||(aAs (List.take es.length es) ([(43:UInt8)]++nm++[(58:UInt8)]++aB3 x)).all fun r=>r.all C.flat)&&(decide (os.length=os.length)&&(false||os.all fun r=>r.all C.flat)&&(decide ((ss.append [[C.str ([(43:UInt8)]++nm++[(58:UInt8)]++aB3 x)]]).length=(ss.append [[C.str ([(43:UInt8)]++nm++[(58:UInt8)]++aB3 x)]]).length)&&(false||(ss.append [[C.str ([(43:UInt8)]++nm++[(58:UInt8)]++aB3 x)]]).all fun r=>r.all C.flat)&&(true&&(false||true)&&(true&&(false||true)&&true)))))&&(true&&(false||true)&&true&&true)&&true) (.ret [C.sl (aBf (ns.append [[C.int .i64 x,C.str [],C.int .i64 0]]) os (ss.append [[C.str ([(43:UInt8)]++nm++[(58:UInt8)]++aB3 x)]])),C.sl (aAs (List.take es.length es) ([(43:UInt8)]++nm++[(58:UInt8)]++aB3 x)),C.sl os,C.sl (ss.append [[C.str ([(43:UInt8)]++nm++[(58:UInt8)]++aB3 x)]]),C.int .i64 r,C.int .i64 (IntKind.i64.wrap (x+(1:Int))),C.int .i64 0]))))))))))))))))))) (.must (decide (ns.length=ns.length)&&(false||ns.all fun r=>r.all C.flat)&&(decide (es.length=es.length)&&(false||es.all fun r=>r.all C.flat)&&(decide (os.length=os.length)&&(false||os.all fun r=>r.all C.flat)&&(decide (ss.length=ss.length)&&(false||ss.all fun r=>r.all C.flat)&&(true&&(false||true)&&(true&&(false||true)&&true)))))&&(true&&(false||true)&&true&&true)&&true) (.ret [C.sl ns,C.sl es,C.sl os,C.sl ss,C.int .i64 r,C.int .i64 x,C.int .i64 1])))) (.must (decide (ns.length=ns.length)&&(false||ns.all fun r=>r.all C.flat)&&(decide (es.length=es.length)&&(false||es.all fun r=>r.all C.flat)&&(decide (os.length=os.length)&&(false||os.all fun r=>r.all C.flat)&&(decide (ss.length=ss.length)&&(false||ss.all fun r=>r.all C.flat)&&(true&&(false||true)&&(true&&(false||true)&&true)))))&&(true&&(false||true)&&true&&true)&&true) (.ret [C.sl ns,C.sl es,C.sl os,C.sl ss,C.int .i64 r,C.int .i64 x,C.int .i64 3])))))):T (List C)).eval:=aAg (by kernel_rfl)
theorem aR9 (H:List Pt→Nat→St→T (List C)) (ns:List (List C)) (es:List (List C)) (os:List (List C)) (ss:List (List C)) (r:Int) (x:Int):(aAo aK8 (bP9 (wI E0 bFq) bPp aK8 2) (sg [aAq] [aBk]) Tryz.f62 H [C.sl ns,C.sl es,C.sl os,C.sl ss,C.int .i64 r,C.int .i64 x]).eval=((.must (aCx ns es os ss) (.must ((true&&ns.all fun row=>decide (row.length=3))&&((true&&es.all fun row=>decide (row.length=2))&&((true&&os.all fun row=>decide (row.length=2))&&((true&&ss.all fun row=>decide (row.length=1))&&(decide (0<1)&&true&&(decide (0<1)&&true&&true)))))&&true&&true) (.must (aCx ns es os ss) (.ask (aC8 ns es os ss r x) (.must (aAa [K.str,K.int .i64] es&&decide (es.length≤1099511627776)) (.must ((true&&es.all fun row=>decide (row.length=2))&&true&&true&&true) (.must (true&&(true&&(true&&(true&&(true&&(true&&true)))))&&(decide (ns.length=ns.length)&&(decide (es.length=es.length)&&(decide (es.length=es.length)&&true)))) (.must (aCx ns es es []) (.must ((true&&(aBf ns es []).all fun row=>decide (row.length=3))&&((true&&es.all fun row=>decide (row.length=2))&&((true&&es.all fun row=>decide (row.length=2))&&(true&&true&&(decide (0<1)&&true&&(decide (0<1)&&true&&true)))))) (.must (decide ((aBf ns es []).length=(aBf ns es []).length)&&(false||(aBf ns es []).all fun r=>r.all C.flat)&&(decide (es.length=es.length)&&(false||es.all fun r=>r.all C.flat)&&(decide (es.length=es.length)&&(false||es.all fun r=>r.all C.flat)&&(decide (0=0)&&(false||true)&&(true&&(false||true)&&(true&&(false||true)&&true)))))&&true&&true) (.ret [C.sl (aBf ns es []),C.sl es,C.sl es,C.sl [],C.int .i64 r,C.int .i64 x]))))))) (.must (decide (ns.length=ns.length)&&(false||ns.all fun r=>r.all C.flat)&&(decide (es.length=es.length)&&(false||es.all fun r=>r.all C.flat)&&(decide (os.length=os.length)&&(false||os.all fun r=>r.all C.flat)&&(decide (ss.length=ss.length)&&(false||ss.all fun r=>r.all C.flat)&&(true&&(false||true)&&(true&&(false||true)&&true)))))&&true&&true) (.ret [C.sl ns,C.sl es,C.sl os,C.sl ss,C.int .i64 r,C.int .i64 x])))))):T (List C)).eval:=aAg (by kernel_rfl)
theorem aU3 (ns es:List (List C)) (nm:List UInt8):aBa (nds ns) (ens es) nm=if aEb (ens es) nm then aAr (nds ns) (aAu (ens es) nm)else -1:=by
 unfold aBa aEb
 by_cases c:aA2 (ens es) nm<0
 ·rw[if_pos c,decide_eq_false (by omega)];rfl
 ·rw[if_neg c,decide_eq_true (by omega)];rfl
theorem aZn {ns es os ss:List (List C)} (hd:aCx ns es os ss=true):bQj ns es=true:=by
 obtain⟨d1,d2,_⟩:=aB1.1 hd
 have a:=bSc d1
 have b:=aWz d2
 simp only[Bool.and_eq_true]at a b
 unfold bQj
 rw[a.1,b.1]
 show (true&&aAa kNd ns&&aAa kEn es)=true
 have a2:aAa kNd ns=true:=a.2
 have b2:aAa kEn es=true:=b.2
 rw[a2,b2];rfl
theorem aG9 {l:List En} {nm:List UInt8} {b:Bool} (h:aEb l nm=b):(aA2 l nm<0)=(b=false)∧(0≤aA2 l nm)=(b=true):=by
 unfold aEb at h
 subst h
 by_cases c:0≤aA2 l nm
 ·have c2:¬aA2 l nm<0:=by omega
  simp[c,c2]
 ·have c2:aA2 l nm<0:=by omega
  simp[c,c2]
theorem bO4 (ss:List (List C)) (s:List UInt8):aCt (ss1 ss s)=aCt ss++[s]:=by simp[aCt,ss1,aTx,C.toStr]
theorem aRq {ns es os ss:List (List C)} {r x:Int} (h:aC8 ns es os ss r x=true) {s:List UInt8} {l':List En} (hp:aDo (ens es) s=some l') :
  aG5 es s=true∧aAs es s=l'.map eEn∧Srt (ens es)∧∀ NS,aBf NS os (ss1 ss s)=aC3 NS os (ss1 ss s):=by
 have srt:=aFj (aRo h)
 have fits:aAz (ens es) s=true:=by
  rw[aOx _ _ srt]at hp
  cases c:aAz (ens es) s
  ·rw[c]at hp;cases hp
  ·rfl
 refine⟨by unfold aG5;rw[hp];rfl,by unfold aAs;rw[hp];rfl,srt,fun NS=>bFp NS os (ss1 ss s) ?_⟩
 rw[bO4]
 exact (bFr (nds ns) (ens es) s fits (aCt ss) (ens os) (bMg h)).1
theorem bFn {g : FuncId} {fn : Func} (h : bT1 g = some fn) : Tryz.prog.funcs[g]? = some fn ∧ (fn.name == "runtime.NumGoroutine") = false := by
 unfold bT1 at h
 split at h
 ·rename_i hg;subst hg;obtain rfl:=Option.some.inj h;exact⟨Tryz.func99,by kernel_rfl⟩
 ·split at h
  ·rename_i hg;subst hg;obtain rfl:=Option.some.inj h;exact⟨Tryz.func102,by kernel_rfl⟩
  ·cases h
theorem aKl {lv:List (Nat×List Nat)} {gs:Laws} (h:∀ p,p∈gs→aAw Tryz.prog p.1 p.2.1 p.2.2):aA8 Tryz.prog (bU7 lv gs) :=
 ⟨⟨(bEm aOw).1,fun g fn hh=>(bFn hh).1,fun t m e te h1 h2=>bEc aRx t m e te h1 h2,bLt aWu,fun t e h=>by cases h⟩,fun g sig spec hl=>h (g,sig,spec) (aF7 hl),fun g fn hh=>(bFn hh).2,by kernel_rfl⟩
theorem bAc:aA8 Tryz.prog aSc:=aKl (by simp[aGw,aEm,aEa,aDt])
theorem aWm:aAw Tryz.prog 57 (sg [aAq,pS] [aBk,rI]) aU0:=aA5 bAc (fun c hc=>aNs (bNp aN5.ok aH8 c hc) 2 (hc▸bAc)) Tryz.func57 (by kernel_rfl) fun cs outs hk h=>by
 unfold aU0 at h
 split at h
 ·simp only[Option.some.injEq,Prod.mk.injEq,Bool.and_eq_true]at h
  obtain⟨⟨hd,hm⟩,rfl⟩:=h
  rename_i ns es os ss r x nm
  obtain⟨n3,e2,o2,s1,nf,ef,of',sf⟩:=aCc hd
  obtain⟨l1,l2,l3,l4,_⟩:=aEe hd
  obtain⟨d1,d2,d3⟩:=aB1.1 hd
  obtain⟨m1,m2⟩:=aCa.1 hm
  have hd2:aCx ns (aB0 es nm) os (ss1 ss ([45]++nm))=true:=aB1.2 ⟨d1,aKm nm d2,aOb d3 m1 (by simp;omega)⟩
  have hd3:aCx (aC3 ns os (ss1 ss ([45]++nm))) (aB0 es nm) os (ss1 ss ([45]++nm))=true:=aB1.2 ⟨aGb _ _ d1,aKm nm d2,aOb d3 m1 (by simp;omega)⟩
  obtain⟨p1,p2,p3,p4,p5,p6,p7,p8⟩:=aCc hd3
  have e1:ss++[[C.str ([45]++nm)]]=ss1 ss ([45]++nm):=rfl
  have r4:=aCh (ss.length+1) 16 (by omega) (by omega)
  have big:=aWz d2
  have k1:1+nm.length≤9223372036854775807:=by omega
  have k2:([45]++nm:List UInt8).length≤16777216:=by simp;omega
  show _=some ([.sl (rmN ns es os ss r x nm),.sl (rmE ns es os ss r x nm),.sl os,.sl (rmS ns es os ss r x nm),.int .i64 r,.int .i64 x,.int .i64 (rmC ns es os ss r x nm)]:List C)
  rw[aAi,bAb]
  unfold rmN rmE rmS rmC bBk
  cases c1:aC8 ns es os ss r x
  ·simp only[aA3,aA6,aA4,List.take_length,List.append_eq,decide_true,Bool.and_self,Bool.and_true,Bool.true_and,Bool.or_true,Bool.false_or,if_true,Nat.zero_add,Nat.le_refl,Nat.reduceLT,hd,n3,e2,o2,s1,nf,ef,of',sf,c1,Bool.false_and,Bool.false_eq_true,if_false]
  ·cases c2:aEb (ens es) nm
   ·have pl:=(aG9 c2).1
    simp only[aA3,aA6,aA4,List.take_length,List.append_eq,decide_true,Bool.and_self,Bool.and_true,Bool.true_and,Bool.or_true,Bool.false_or,if_true,Nat.zero_add,Nat.le_refl,Nat.reduceLT,hd,n3,e2,o2,s1,nf,ef,of',sf,c1,c2,big,pl,Bool.false_eq_true,if_false]
   ·have pl:=(aG9 c2).1
    have f2:=(aDl hd c1).2.1
    have k3:es.length<16777216:=by omega
    have pp:0≤aA2 (ens es) nm:=by rw[(aG9 c2).2]
    obtain⟨b1,b2,srt,b3⟩:=aRq c1 (bRe (ens es) (bFh (aRo c1) c2) pp)
    rw[aOy _ _ srt pp]at b2
    have b2:aAs es ([45]++nm)=aB0 es nm:=b2
    have b4:=b3 ns
    simp only[aA3,aA6,aA4,List.take_length,List.append_eq,decide_true,Bool.and_self,Bool.and_true,Bool.true_and,Bool.or_true,Bool.false_or,if_true,Nat.zero_add,Nat.le_refl,Nat.reduceLT,hd,n3,e2,o2,s1,nf,ef,of',sf,c1,c2,big,pl,d2,p2,k1,k2,k3,r4,e1,b1,b2,b4,aNh,hd2,p1,p3,p4,p5,p6,p7,p8,Bool.false_eq_true,Bool.true_eq_false,decide_false,if_false]
 ·cases h
theorem aOg:aA8 Tryz.prog aK8:=aKl (by simp[aEm,aEa,aHh])
theorem aOs:aAw Tryz.prog 62 (sg [aAq] [aBk]) aTs:=aA5 aOg (fun c hc=>aNs (bNp aN5.ok aH8 c hc) 2 (hc▸aOg)) Tryz.func62 (by kernel_rfl) fun cs outs hk h=>by
 unfold aTs at h
 split at h
 ·simp only[Option.some.injEq,Prod.mk.injEq]at h
  obtain⟨hd,rfl⟩:=h
  rename_i ns es os ss r x
  obtain⟨n3,e2,o2,s1,nf,ef,of',sf⟩:=aCc hd
  obtain⟨l1,l2,l3,l4,_⟩:=aEe hd
  obtain⟨d1,d2,d3⟩:=aB1.1 hd
  have st:stB es []=true:=aDu.2 ⟨d2,bQi,by simpa using l2⟩
  have hd2:aCx ns es es []=true:=aB1.2 ⟨d1,d2,st⟩
  have hd3:aCx (aC3 ns es []) es es []=true:=aB1.2 ⟨aGb _ _ d1,d2,st⟩
  obtain⟨p1,p2,p3,p4,p5,p6,p7,p8⟩:=aCc hd3
  have k1:aAa [K.str,K.int .i64] es=true:=(aHf.1 d2).1
  have k2:es.length≤1099511627776:=by omega
  have pc:aBf ns es []=aC3 ns es []:=bFp ns es [] trivial
  show _=some ([.sl (snN ns es os ss r x),.sl es,.sl (snO ns es os ss r x),.sl (snS ns es os ss r x),.int .i64 r,.int .i64 x]:List C)
  rw[aAi,aR9]
  unfold snN snO snS
  cases c1:aC8 ns es os ss r x
  ·simp only[aA3,aA6,aA4,List.take_length,List.append_eq,decide_true,Bool.and_self,Bool.and_true,Bool.true_and,Bool.or_true,Bool.false_or,if_true,Nat.zero_add,Nat.le_refl,Nat.reduceLT,hd,n3,e2,o2,s1,nf,ef,of',sf,c1,Bool.false_eq_true,if_false]
  ·simp only[aA3,aA6,aA4,List.take_length,List.append_eq,decide_true,Bool.and_self,Bool.and_true,Bool.true_and,Bool.or_true,Bool.false_or,if_true,Nat.zero_add,Nat.le_refl,Nat.reduceLT,hd,n3,e2,o2,s1,nf,ef,of',sf,c1,k1,k2,pc,hd2,p1,p5]
 ·cases h
theorem bAl:aA8 Tryz.prog aSf:=aKl (by simp[aGw,aEm,aEa,aDt,aGj,aU9])
theorem aWo:aAw Tryz.prog 58 (sg [aAq,pS] [aBk,rI]) aUi:=aA5 bAl (fun c hc=>aNs (bNp aN5.ok aH8 c hc) 2 (hc▸bAl)) Tryz.func58 (by kernel_rfl) fun cs outs hk h=>by
 unfold aUi at h
 split at h
 ·simp only[Option.some.injEq,Prod.mk.injEq,Bool.and_eq_true]at h
  obtain⟨⟨hd,hm⟩,rfl⟩:=h
  rename_i ns es os ss r x nm
  obtain⟨n3,e2,o2,s1,nf,ef,of',sf⟩:=aCc hd
  obtain⟨l1,l2,l3,l4,_⟩:=aEe hd
  obtain⟨d1,d2,d3⟩:=aB1.1 hd
  obtain⟨m1,m2⟩:=aCa.1 hm
  have big:=aWz d2
  have k0:nm.length≤281474976710656:=by omega
  show _=some ([.sl (crN ns es os ss r x nm),.sl (crE ns es os ss r x nm),.sl os,.sl (crS ns es os ss r x nm),.int .i64 r,.int .i64 (crX ns es os ss r x nm),.int .i64 (crC ns es os ss r x nm)]:List C)
  rw[aAi,bAk]
  unfold crN crE crS crX crC
  cases c1:aC8 ns es os ss r x
  ·simp only[aA3,aA6,aA4,List.take_length,List.append_eq,decide_true,Bool.and_self,Bool.and_true,Bool.true_and,Bool.or_true,Bool.false_or,if_true,Nat.zero_add,Nat.le_refl,Nat.reduceLT,hd,n3,e2,o2,s1,nf,ef,of',sf,c1,Bool.false_eq_true,if_false,Int.reduceEq]
  ·obtain⟨f1,f2,f3,f4,_,_⟩:=aDl hd c1
   cases c2:aAy nm
   ·simp only[aA3,aA6,aA4,List.take_length,List.append_eq,decide_true,Bool.and_self,Bool.and_true,Bool.true_and,Bool.or_true,Bool.false_or,if_true,Nat.zero_add,Nat.le_refl,Nat.reduceLT,hd,n3,e2,o2,s1,nf,ef,of',sf,c1,c2,k0,Bool.false_eq_true,if_false,Int.reduceEq]
   ·cases c3:aEb (ens es) nm
    ·have pl:=(aG9 c3).2
     by_cases q1:16≤es.length
     ·have q1':(16:Int)≤es.length:=by omega
      simp only[aA3,aA6,aA4,List.take_length,List.append_eq,decide_true,Bool.and_self,Bool.and_true,Bool.true_and,Bool.or_true,Bool.false_or,if_true,Nat.zero_add,Nat.le_refl,Nat.reduceLT,hd,n3,e2,o2,s1,nf,ef,of',sf,c1,c2,c3,pl,k0,big,q1,q1',true_or,Bool.false_eq_true,decide_false,if_false,Int.reduceEq]
     ·have q1':¬(16:Int)≤es.length:=by omega
      by_cases q2:64≤ns.length
      ·have q2':(64:Int)≤ns.length:=by omega
       simp only[aA3,aA6,aA4,List.take_length,List.append_eq,decide_true,Bool.and_self,Bool.and_true,Bool.true_and,Bool.or_true,Bool.false_or,if_true,Nat.zero_add,Nat.le_refl,Nat.reduceLT,hd,n3,e2,o2,s1,nf,ef,of',sf,c1,c2,c3,pl,k0,big,q1,q1',q2,q2',true_or,or_true,decide_false,Bool.false_eq_true,if_false,Int.reduceEq]
      ·have q2':¬(64:Int)≤ns.length:=by omega
       by_cases q3:1000000000≤x
       ·simp only[aA3,aA6,aA4,List.take_length,List.append_eq,decide_true,Bool.and_self,Bool.and_true,Bool.true_and,Bool.or_true,Bool.false_or,if_true,Nat.zero_add,Nat.le_refl,Nat.reduceLT,hd,n3,e2,o2,s1,nf,ef,of',sf,c1,c2,c3,pl,k0,big,q1,q1',q2,q2',q3,true_or,or_true,decide_false,Bool.false_eq_true,if_false,Int.reduceEq]
       ·have dl:=aRs x
        have sl:([43]++nm++[58]++aB3 x).length≤16777216:=by simp;omega
        have em:[43]++nm++[58]++aB3 x=aFn nm x:=rfl
        rw[em]at sl
        have st:=aOb d3 m1 sl
        have pe:=aVy nm x d2 (by omega) (by omega)
        have nn:=bQl x d1 (by omega)
        have hd2:aCx (ns++[eNd ⟨x,[],0⟩]) (aEi es nm x) os (ss1 ss (aFn nm x))=true:=aB1.2 ⟨nn,pe,st⟩
        have hd3:aCx (aC3 (ns++[eNd ⟨x,[],0⟩]) os (ss1 ss (aFn nm x))) (aEi es nm x) os (ss1 ss (aFn nm x))=true:=aB1.2 ⟨aGb _ _ nn,pe,st⟩
        obtain⟨p1,p2,p3,p4,p5,p6,p7,p8⟩:=aCc hd3
        have e1:ss++[[C.str (aFn nm x)]]=ss1 ss (aFn nm x):=rfl
        have e3:ns++[[C.int .i64 x,C.str [],C.int .i64 0]]=ns++[eNd ⟨x,[],0⟩]:=rfl
        have nl1:(ns++[eNd ⟨x,[],0⟩]).length=ns.length+1:=by simp
        have r1:=aCh (ns.length+1) 32 (by omega) (by omega)
        have r4:=aCh (ss.length+1) 16 (by omega) (by omega)
        have k1:1+nm.length≤9223372036854775807:=by omega
        have k2:([43]++nm).length+1≤9223372036854775807:=by simp;omega
        have k3:([43]++nm++[58]).length+(aB3 x).length≤9223372036854775807:=by simp;omega
        have k4:inB x 0 1000000000=true:=by rw[aHy];omega
        have k5:es.length<16777216:=by omega
        have w:IntKind.i64.wrap (x+1)=x+1:=by rw[aAm]<;>omega
        obtain⟨b1,b2,srt,b3⟩:=aRq c1 (bRf (ens es) c2 (by omega:0≤x) (by omega))
        rw[aW2 _ _ srt]at b2
        have b2:aAs es (aFn nm x)=aEi es nm x:=b2
        have b4:=b3 (ns++[eNd ⟨x,[],0⟩])
        simp only[aA3,aA6,aA4,List.take_length,List.append_eq,decide_true,Bool.and_self,Bool.and_true,Bool.true_and,Bool.or_true,Bool.false_or,if_true,Nat.zero_add,Nat.le_refl,Nat.reduceLT,hd,n3,e2,o2,s1,nf,ef,of',sf,c1,c2,c3,pl,k0,big,q1,q1',q2,q2',q3,r1,d2,k1,k2,k3,k4,k5,r4,em,sl,e1,e3,b1,b2,b4,nl1,aNh,hd2,w,p1,p2,p3,p4,p5,p6,p7,p8,or_self,decide_false,Bool.false_eq_true,if_false]
    ·have pl:=(aG9 c3).2
     simp only[aA3,aA6,aA4,List.take_length,List.append_eq,decide_true,Bool.and_self,Bool.and_true,Bool.true_and,Bool.or_true,Bool.false_or,if_true,Nat.zero_add,Nat.le_refl,Nat.reduceLT,hd,n3,e2,o2,s1,nf,ef,of',sf,c1,c2,c3,pl,k0,big,Bool.false_eq_true,if_false,Int.reduceEq]
 ·cases h
theorem bAa:aA8 Tryz.prog aSb:=aKl (by simp[aGw,aEm,aEa,aDt,aGj])
theorem aWl:aAw Tryz.prog 61 (sg [aAq,pS,pS] [aBk,rI]) aTz:=aA5 bAa (fun c hc=>aNs (bNp aN5.ok aH8 c hc) 2 (hc▸bAa)) Tryz.func61 (by kernel_rfl) fun cs outs hk h=>by
 unfold aTz at h
 split at h
 ·simp only[Option.some.injEq,Prod.mk.injEq,Bool.and_eq_true]at h
  obtain⟨⟨hd,hm,hm2⟩,rfl⟩:=h
  rename_i ns es os ss r x a b
  obtain⟨n3,e2,o2,s1,nf,ef,of',sf⟩:=aCc hd
  obtain⟨l1,l2,l3,l4,_⟩:=aEe hd
  obtain⟨d1,d2,d3⟩:=aB1.1 hd
  obtain⟨m1,m2⟩:=aCa.1 hm
  obtain⟨_,m3⟩:=aCa.1 hm2
  have big:=aWz d2
  have k0:b.length≤281474976710656:=by omega
  show _=some ([.sl (rnN ns es os ss r x a b),.sl (rnE ns es os ss r x a b),.sl os,.sl (rnS ns es os ss r x a b),.int .i64 r,.int .i64 x,.int .i64 (rnC ns es os ss r x a b)]:List C)
  rw[aAi,bA9]
  unfold rnN rnE rnS rnC bBk
  cases c1:aC8 ns es os ss r x
  ·simp only[aA3,aA6,aA4,List.take_length,List.append_eq,decide_true,Bool.and_self,Bool.and_true,Bool.true_and,Bool.or_true,Bool.false_or,if_true,Nat.zero_add,Nat.le_refl,Nat.reduceLT,hd,n3,e2,o2,s1,nf,ef,of',sf,c1,Bool.false_and,Bool.false_eq_true,if_false,Int.reduceEq]
  ·cases c2:aEb (ens es) a
   ·have pl:=(aG9 c2).1
    simp only[aA3,aA6,aA4,List.take_length,List.append_eq,decide_true,Bool.and_self,Bool.and_true,Bool.true_and,Bool.or_true,Bool.false_or,if_true,Nat.zero_add,Nat.le_refl,Nat.reduceLT,hd,n3,e2,o2,s1,nf,ef,of',sf,c1,c2,big,pl,Bool.false_eq_true,if_false,Int.reduceEq]
   ·have pl:=(aG9 c2).1
    cases c3:aAy b
    ·simp only[aA3,aA6,aA4,List.take_length,List.append_eq,decide_true,Bool.and_self,Bool.and_true,Bool.true_and,Bool.or_true,Bool.false_or,if_true,Nat.zero_add,Nat.le_refl,Nat.reduceLT,hd,n3,e2,o2,s1,nf,ef,of',sf,c1,c2,c3,pl,k0,big,Bool.false_eq_true,Bool.true_eq_false,decide_false,if_false,Int.reduceEq]
    ·by_cases c4:a=b
     ·have c4':(a==b)=true:=by simpa using c4
      simp only[aA3,aA6,aA4,List.take_length,List.append_eq,decide_true,Bool.and_self,Bool.and_true,Bool.true_and,Bool.or_true,Bool.false_or,if_true,Nat.zero_add,Nat.le_refl,Nat.reduceLT,hd,n3,e2,o2,s1,nf,ef,of',sf,c1,c2,c3,c4',pl,k0,big,if_pos c4,Bool.false_eq_true,Bool.true_eq_false,decide_false,if_false,Int.reduceEq]
     ·have c4':(a==b)=false:=by simpa using c4
      obtain⟨f1,f2,f3,f4,_,_⟩:=aDl hd c1
      have dr:=aKm a d2
      have dl:(aB0 es a).length≤es.length:=by unfold aB0;rw[List.length_map];have:=aGq (ens es) a;unfold ens at this ⊢;rw[List.length_map]at this;exact this
      have pe:=aVy b (aAu (ens es) a) dr (by omega) (by omega)
      have em:[62]++a++[58]++b=aEv a b:=rfl
      have sl:(aEv a b).length≤16777216:=by rw[←em];simp;omega
      have st:=aOb d3 m1 sl
      have hd2:aCx ns (aEi (aB0 es a) b (aAu (ens es) a)) os (ss1 ss (aEv a b))=true:=aB1.2 ⟨d1,pe,st⟩
      have hd3:aCx (aC3 ns os (ss1 ss (aEv a b))) (aEi (aB0 es a) b (aAu (ens es) a)) os (ss1 ss (aEv a b))=true:=aB1.2 ⟨aGb _ _ d1,pe,st⟩
      obtain⟨p1,p2,p3,p4,p5,p6,p7,p8⟩:=aCc hd3
      have e1:ss++[[C.str (aEv a b)]]=ss1 ss (aEv a b):=rfl
      have r4:=aCh (ss.length+1) 16 (by omega) (by omega)
      have k1:1+a.length≤9223372036854775807:=by omega
      have k2:([62]++a).length+1≤9223372036854775807:=by simp;omega
      have k3:([62]++a++[58]).length+b.length≤9223372036854775807:=by simp;omega
      have k5:es.length<16777216:=by omega
      have pp:0≤aA2 (ens es) a:=by rw[(aG9 c2).2]
      obtain⟨b1,b2,srt,b3⟩:=aRq c1 (bRd (ens es) (bFh (aRo c1) c2) pp c3 c4)
      rw[aOy _ _ srt pp,aW2 _ _ (bEu srt)]at b2
      have b2:aAs es (aEv a b)=aEi (aB0 es a) b (aAu (ens es) a):=by rw[b2];unfold aEi aB0;rw[aFy]
      have b4:=b3 ns
      simp only[aA3,aA6,aA4,List.take_length,List.append_eq,decide_true,Bool.and_self,Bool.and_true,Bool.true_and,Bool.or_true,Bool.false_or,if_true,Nat.zero_add,Nat.le_refl,Nat.reduceLT,hd,n3,e2,o2,s1,nf,ef,of',sf,c1,c2,c3,c4',if_neg c4,pl,k0,big,d2,k1,k2,k3,k5,r4,em,sl,e1,b1,b2,b4,aNh,hd2,p1,p2,p3,p4,p5,p6,p7,p8,Bool.false_eq_true,Bool.true_eq_false,decide_false,if_false]
 ·cases h
theorem bU8 (n m:Int):aXw n m=if m<n then m else n:=rfl
theorem bLr:aA8 Tryz.prog bBi:=aA9 (by simp[aMb,aR8,aEm,aEa])
theorem aWq:aAw Tryz.prog 59 (sg [aAq,pS,pS] [aBk,rI]) aUo:=aA5 bLr aAd Tryz.func59 (by kernel_rfl) fun cs outs hk h=>by
 unfold aUo at h
 split at h
 ·simp only[Option.some.injEq,Prod.mk.injEq,Bool.and_eq_true,decide_eq_true_eq]at h
  obtain⟨⟨hd,hm⟩,rfl⟩:=h
  rename_i ns es os ss r x nm t
  obtain⟨d1,d2,d3⟩:=aB1.1 hd
  obtain⟨l,rfl,e,hl,ht⟩:=aE8 d1
  obtain⟨n3,e2,o2,s1,nf,ef,of',sf⟩:=aCc hd
  have tl:t.length≤16777216:=hm
  have ne:=aZn hd
  have ix:=aU3 (l.map eNd) es nm
  show _=some ([.sl (apN (l.map eNd) es os ss r x nm t),.sl es,.sl os,.sl ss,.int .i64 r,.int .i64 x,.int .i64 (apC (l.map eNd) es os ss r x nm t)]:List C)
  rw[aAi,bAm]
  unfold apN apC bBk ndK aZo
  rw[ix]
  cases c1:aC8 (l.map eNd) es os ss r x
  ·simp only[aA3,aA6,aA4,List.take_length,List.append_eq,decide_true,Bool.and_self,Bool.and_true,Bool.true_and,Bool.or_true,Bool.false_or,if_true,Nat.zero_add,Nat.le_refl,Nat.reduceLT,hd,n3,e2,o2,s1,nf,ef,of',sf,ne,c1,Bool.false_and,Bool.false_eq_true,if_false]
  ·cases c2:aEb (ens es) nm
   ·simp only[aA3,aA6,aA4,List.take_length,List.append_eq,decide_true,Bool.and_self,Bool.and_true,Bool.true_and,Bool.or_true,Bool.false_or,if_true,Nat.zero_add,Nat.le_refl,Nat.reduceLT,hd,n3,e2,o2,s1,nf,ef,of',sf,ne,c1,c2,Bool.false_and,Bool.and_false,Bool.false_eq_true,if_false,show ((-1:Int)<0)=True from by decide]
   ·obtain⟨k1,k2⟩:=bFa hd c1 c2
    obtain⟨_,_,f3,_,f5,_⟩:=aDl hd c1
    rw[aE7]at k1 k2 f5
    rw[List.length_map]at k2
    obtain⟨k,hk⟩:=Int.eq_ofNat_of_zero_le k1
    have hkl:k<l.length:=by omega
    have g:=aAn eNd l ⟨0,[],0⟩ k hkl
    have un:=aY1 hkl
    have tx:=ht _ (aFi (d:=⟨0,[],0⟩) hkl)
    have w:IntKind.i64.wrap (r-Int.ofNat (aBz l))=r-aBz l:=by
     show IntKind.i64.wrap (r-(aBz l:Int))=_
     rw[aAm]<;>omega
    have m0:¬((k:Int)<0):=by omega
    have m1:(0:Int)≤k:=by omega
    have m2:(k:Int)<l.length:=by omega
    have m3:(0:Int)≤r-aBz l:=by omega
    generalize hy:l.getD k ⟨0,[],0⟩=y at g un tx
    by_cases c3:r-(aBz l:Int)<t.length
    ·have im:aXw (t.length:Int) (r-(aBz l:Int))=r-(aBz l:Int):=by rw[bU8,if_pos c3]
     have m4:r-(aBz l:Int)≤t.length:=by omega
     have m5:y.text.length+(List.take (r-(aBz l:Int)).toNat t).length≤9223372036854775807:=by rw[List.length_take];omega
     simp only[aA3,aA6,aA4,List.take_length,List.append_eq,decide_true,Bool.and_self,Bool.and_true,Bool.true_and,Bool.or_true,Bool.false_or,if_true,Nat.zero_add,Nat.le_refl,Nat.reduceLT,hd,n3,e2,o2,s1,nf,ef,of',sf,ne,c1,d1,aE7,hk,w,im,c3,m0,m1,m2,m3,m4,m5,hkl,Int.toNat_natCast,List.length_map,g,hy,bTc,aMd,List.length_set,aEn,List.getD_cons_succ,List.getD_cons_zero,C.toStr,C.is,List.length_cons,List.length_nil,Nat.reduceAdd,List.drop_zero,decide_eq_true_eq,decide_false,Bool.false_eq_true,if_false]
    ·have im:aXw (t.length:Int) (r-(aBz l:Int))=(t.length:Int):=by rw[bU8,if_neg c3]
     have m4:y.text.length+t.length≤9223372036854775807:=by omega
     have m6:¬((t.length:Int)<t.length):=by omega
     have m7:(0:Int)≤(t.length:Int):=by omega
     have m8:(t.length:Int)≤(t.length:Int):=by omega
     simp only[aA3,aA6,aA4,List.take_length,List.append_eq,decide_true,Bool.and_self,Bool.and_true,Bool.true_and,Bool.or_true,Bool.false_or,if_true,Nat.zero_add,Nat.le_refl,Nat.reduceLT,hd,n3,e2,o2,s1,nf,ef,of',sf,ne,c1,d1,aE7,hk,w,im,c3,m0,m1,m2,m4,m6,m7,m8,hkl,Int.toNat_natCast,List.length_map,g,hy,bTc,aMd,List.length_set,aEn,List.getD_cons_succ,List.getD_cons_zero,C.toStr,C.is,List.length_cons,List.length_nil,Nat.reduceAdd,List.drop_zero,decide_eq_true_eq,decide_false,Bool.false_eq_true,if_false]
 ·cases h
theorem bSq:aA8 Tryz.prog bNb:=aA9 (by simp[aMb,aEm,aEa])
theorem bDd:aAw Tryz.prog 60 (sg [aAq,pS] [aBk,rI]) aTn:=aA5 bSq aAd Tryz.func60 (by kernel_rfl) fun cs outs hk h=>by
 unfold aTn at h
 split at h
 ·simp only[Option.some.injEq,Prod.mk.injEq]at h
  obtain⟨hd,rfl⟩:=h
  rename_i ns es os ss r x nm
  obtain⟨d1,d2,d3⟩:=aB1.1 hd
  obtain⟨l,rfl,e,hl,ht⟩:=aE8 d1
  obtain⟨n3,e2,o2,s1,nf,ef,of',sf⟩:=aCc hd
  have ne:=aZn hd
  have ix:=aU3 (l.map eNd) es nm
  show _=some ([.sl (syN (l.map eNd) es os ss r x nm),.sl es,.sl os,.sl ss,.int .i64 r,.int .i64 x,.int .i64 (rmC (l.map eNd) es os ss r x nm)]:List C)
  rw[aAi,bHw]
  unfold syN rmC bBk ndK
  rw[ix]
  cases c1:aC8 (l.map eNd) es os ss r x
  ·simp only[aA3,aA6,aA4,List.take_length,List.append_eq,decide_true,Bool.and_self,Bool.and_true,Bool.true_and,Bool.or_true,Bool.false_or,if_true,Nat.zero_add,Nat.le_refl,Nat.reduceLT,hd,n3,e2,o2,s1,nf,ef,of',sf,ne,c1,Bool.false_and,Bool.false_eq_true,if_false]
  ·cases c2:aEb (ens es) nm
   ·simp only[aA3,aA6,aA4,List.take_length,List.append_eq,decide_true,Bool.and_self,Bool.and_true,Bool.true_and,Bool.or_true,Bool.false_or,if_true,Nat.zero_add,Nat.le_refl,Nat.reduceLT,hd,n3,e2,o2,s1,nf,ef,of',sf,ne,c1,c2,Bool.false_and,Bool.and_false,Bool.false_eq_true,if_false,show ((-1:Int)<0)=True from by decide]
   ·obtain⟨k1,k2⟩:=bFa hd c1 c2
    rw[aE7]at k1 k2
    rw[List.length_map]at k2
    obtain⟨k,hk⟩:=Int.eq_ofNat_of_zero_le k1
    have hkl:k<l.length:=by omega
    have g:=aAn eNd l ⟨0,[],0⟩ k hkl
    have m0:¬((k:Int)<0):=by omega
    have m1:(0:Int)≤k:=by omega
    have m2:(k:Int)<l.length:=by omega
    generalize hy:l.getD k ⟨0,[],0⟩=y at g
    simp only[aA3,aA6,aA4,List.take_length,List.append_eq,decide_true,Bool.and_self,Bool.and_true,Bool.true_and,Bool.or_true,Bool.false_or,if_true,Nat.zero_add,Nat.le_refl,Nat.reduceLT,hd,n3,e2,o2,s1,nf,ef,of',sf,ne,c1,d1,aE7,hk,m0,m1,m2,hkl,Int.toNat_natCast,List.length_map,g,hy,bTr,aMd,List.length_set,aEn,List.getD_cons_succ,List.getD_cons_zero,C.toStr,C.is,List.length_cons,List.length_nil,Nat.reduceAdd,decide_false,Bool.false_eq_true,if_false]
 ·cases h
noncomputable section
structure Opx where
 kind:Int
 name:List UInt8
 to:List UInt8
 text:List UInt8
 deriving DecidableEq
abbrev eOp (x:Opx):List C:=[.int .i64 x.kind,.str x.name,.str x.to,.str x.text]
abbrev kOp:List K:=[.int .i64,.str,.str,.str]
def bRt (r:List C):Opx:=⟨(r.getD 0 (.fn 0 [])).toInt,(r.getD 1 (.fn 0 [])).toStr,(r.getD 2 (.fn 0 [])).toStr,(r.getD 3 (.fn 0 [])).toStr⟩
def ops (rows:List (List C)):List Opx:=rows.map bRt
def pOp:PTy:=.val true kOp
def rOp:RTy:=⟨true,[(.int .i64,false),(.str,false),(.str,false),(.str,false)]⟩
def bM5 (k1:Int) (n1 o1 t1:List UInt8) (k2:Int) (n2 o2 t2:List UInt8):Bool:=decide ((⟨k1,n1,o1,t1⟩:Opx)=⟨k2,n2,o2,t2⟩)
def aX0:Spec:=fun cs=>match cs with
 |[.int .i64 k1,.str n1,.str o1,.str t1,.int .i64 k2,.str n2,.str o2,.str t2]=>some (true,[.bool (bM5 k1 n1 o1 t1 k2 n2 o2 t2)])
 |_=>none
def aRj:Spec:=fun cs=>match cs with
 |[.sl x,.sl y]=>some (decide (x.length≤16777216)&&(aAa kOp x&&aAa kOp y),[.bool (decide (ops x=ops y))])
 |_=>none
def aXm (x y:List (List C)) (i:Int):St:=st0 [(0,.l (.sl x)),(1,.l (.sl y)),(5,aB5 i)]
def bR2:Env:=mkE [] []
def aXr:Env:=mkE [(4,[0,1,5])] [(65,(sg [pOp,pOp] [rB]),aX0)]
def bIx (k:Int):List C:=[.int .i64 k,.str (aCo (k+1)),.str (aCo (k+2)),.str (aCo (k+3))]
def aR0:Spec:=fun cs=>match cs with
 |[.sl rows,.int .i64 k]=>some (aAa kOp rows&&(decide (rows.length≤16777216)&&(decide (0≤k)&&decide (k≤1099511627776))),[.int .i64 (k+4*rows.length),.sl (mk bIx 4 k rows.length)])
 |_=>none
def aPb (n:Nat) (r:List (List C)) (k i:Int):St:={slots:=[(0,.l (.ref 0 0 n)),(1,aB5 k),(5,aB5 i)],heap:=[(0,.arr 4 r)],next:=1,pins:=[0]}
def aPm:Env:=mkE [(2,[0,1,5])] [(66,(sg [pI] [rS]),aD2)]
end
theorem bM6 (H:List Pt→Nat→St→T (List C)) (k1:Int) (n1:List UInt8) (o1:List UInt8) (t1:List UInt8) (k2:Int) (n2:List UInt8) (o2:List UInt8) (t2:List UInt8):(aAo bR2 aAe (sg [pOp,pOp] [rB]) Tryz.f65 H [C.int .i64 k1,C.str n1,C.str o1,C.str t1,C.int .i64 k2,C.str n2,C.str o2,C.str t2]).eval=((.ask (k1 != k2) (.ret [C.bool false]) (.ask (!n1==n2) (.ret [C.bool false]) (.ask (!o1==o2) (.ret [C.bool false]) (.ask (!t1==t2) (.ret [C.bool false]) (.ret [C.bool true]))))):T (List C)).eval:=aAg (by kernel_rfl)
theorem bId (H:List Pt→Nat→St→T (List C)) (x:List (List C)) (y:List (List C)):(aAo aXr aAe (sg [pSl 42,pSl 42] [rB]) Tryz.f22 H [C.sl x,C.sl y]).eval=((.ask ((↑x.length:Int) != (↑y.length:Int)) (.ret [C.bool false]) (H [Pt.r,Pt.r,Pt.l,Pt.r,Pt.b] 9223372036854775808 (aXm (x) (y) ((0:Int))))):T (List C)).eval:=aAg (by kernel_rfl)
theorem bAq (H:List Pt→Nat→St→T (List C)) (x:List (List C)) (y:List (List C)) (i:Int) (k:Nat):(aBc aXr aAe (sg [pSl 42,pSl 42] [rB]) Tryz.f22 H [Pt.r,Pt.r,Pt.l,Pt.r,Pt.b] k (aXm x y i)).eval=((.ask (decide (i<(↑x.length:Int))) (.must (decide ((0:Int)≤i)&&decide (i<(↑x.length:Int))&&decide ((x.getD i.toNat []).length=4)) (.must (decide (0<(x.getD i.toNat []).length)&&C.is (K.int .i64) ((x.getD i.toNat []).getD 0 (C.fn 0 []))&&(decide (0+1<(x.getD i.toNat []).length)&&C.is K.str ((x.getD i.toNat []).getD (0+1) (C.fn 0 []))&&(decide (0+1+1<(x.getD i.toNat []).length)&&C.is K.str ((x.getD i.toNat []).getD (0+1+1) (C.fn 0 []))&&(decide (0+1+1+1<(x.getD i.toNat []).length)&&C.is K.str ((x.getD i.toNat []).getD (0+1+1+1) (C.fn 0 []))&&true)))) (.must (decide ((0:Int)≤i)&&decide (i<(↑y.length:Int))&&decide ((y.getD i.toNat []).length=4)) (.must (decide (0<(y.getD i.toNat []).length)&&C.is (K.int .i64) ((y.getD i.toNat []).getD 0 (C.fn 0 []))&&(decide (0+1<(y.getD i.toNat []).length)&&C.is K.str ((y.getD i.toNat []).getD (0+1) (C.fn 0 []))&&(decide (0+1+1<(y.getD i.toNat []).length)&&C.is K.str ((y.getD i.toNat []).getD (0+1+1) (C.fn 0 []))&&(decide (0+1+1+1<(y.getD i.toNat []).length)&&C.is K.str ((y.getD i.toNat []).getD (0+1+1+1) (C.fn 0 []))&&true)))) (.ask (bM5 ((x.getD i.toNat []).getD 0 (C.fn 0 [])).toInt ((x.getD i.toNat []).getD (0+1) (C.fn 0 [])).toStr ((x.getD i.toNat []).getD (0+1+1) (C.fn 0 [])).toStr ((x.getD i.toNat []).getD (0+1+1+1) (C.fn 0 [])).toStr ((y.getD i.toNat []).getD 0 (C.fn 0 [])).toInt ((y.getD i.toNat []).getD (0+1) (C.fn 0 [])).toStr ((y.getD i.toNat []).getD (0+1+1) (C.fn 0 [])).toStr ((y.getD i.toNat []).getD (0+1+1+1) (C.fn 0 [])).toStr) (H [Pt.r,Pt.r,Pt.l,Pt.r,Pt.b] k (aXm (x) (y) (IntKind.i64.wrap (i+(1:Int))))) (.ret [C.bool false])))))) (.ret [C.bool true])):T (List C)).eval:=aAg (by kernel_rfl)
theorem bCr (H:List Pt→Nat→St→T (List C)) (r:List (List C)) (k:Int):(aAo aPm aAe (sg [PTy.wr false [(K.slice 42,true)],pI] [rI]) Tryz.f23 H [C.sl r,C.int .i64 k]).eval=((.must ((true&&r.all fun row=>decide (row.length=4))&&true&&(decide (0<1)&&true&&true&&true)) (H [Pt.r,Pt.l,Pt.r,Pt.b] 9223372036854775808 (aPb (r.length) (r) (k) ((0:Int))))):T (List C)).eval:=aAg (by kernel_rfl)
theorem aWb (H:List Pt→Nat→St→T (List C)) (n:Nat) (r:List (List C)) (kk:Int) (i:Int) (k:Nat):(aBc aPm aAe (sg [PTy.wr false [(K.slice 42,true)],pI] [rI]) Tryz.f23 H [Pt.r,Pt.l,Pt.r,Pt.b] k (aPb n r kk i)).eval=((.ask (decide (i<(↑n:Int))) (.must (decide ((0:Int)≤i)&&decide (i<(↑n:Int))) (.must (decide (0+i.toNat<r.length)) (.must (decide (IntKind.i64.wrap (kk+(1:Int))≤(4611686018427387904:Int))) (.must (decide ((0:Int)≤i)&&decide (i<(↑n:Int))) (.must (decide (0+i.toNat<(r.set (0+i.toNat) (C.int .i64 kk::List.drop (0+0+1) (r.getD (0+i.toNat) []))).length)) (.must (decide (IntKind.i64.wrap (IntKind.i64.wrap (kk+(1:Int))+(1:Int))≤(4611686018427387904:Int))) (.must (decide ((0:Int)≤i)&&decide (i<(↑n:Int))) (.must (decide (0+i.toNat<((r.set (0+i.toNat) (C.int .i64 kk::List.drop (0+0+1) (r.getD (0+i.toNat) []))).set (0+i.toNat) (((List.take (0+1) ((r.set (0+i.toNat) (C.int .i64 kk::List.drop (0+0+1) (r.getD (0+i.toNat) []))).getD (0+i.toNat) [])).append [C.str (aCo (IntKind.i64.wrap (kk+(1:Int))))]).append (List.drop (0+1+1) ((r.set (0+i.toNat) (C.int .i64 kk::List.drop (0+0+1) (r.getD (0+i.toNat) []))).getD (0+i.toNat) [])))).length)) (.must (decide (IntKind.i64.wrap (IntKind.i64.wrap (IntKind.i64.wrap (kk+(1:Int))+(1:Int))+(1:Int))≤(4611686018427387904:Int))) (.must (decide ((0:Int)≤i)&&decide (i<(↑n:Int))) (.must (decide (0+i.toNat<(((r.set (0+i.toNat) (C.int .i64 kk::List.drop (0+0+1) (r.getD (0+i.toNat) []))).set (0+i.toNat) (((List.take (0+1) ((r.set (0+i.toNat) (C.int .i64 kk::List.drop (0+0+1) (r.getD (0+i.toNat) []))).getD (0+i.toNat) [])).append [C.str (aCo (IntKind.i64.wrap (kk+(1:Int))))]).append (List.drop (0+1+1) ((r.set (0+i.toNat) (C.int .i64 kk::List.drop (0+0+1) (r.getD (0+i.toNat) []))).getD (0+i.toNat) [])))).set (0+i.toNat) (((List.take (0+2) (((r.set (0+i.toNat) (C.int .i64 kk::List.drop (0+0+1) (r.getD (0+i.toNat) []))).set (0+i.toNat) (((List.take (0+1) ((r.set (0+i.toNat) (C.int .i64 kk::List.drop (0+0+1) (r.getD (0+i.toNat) []))).getD (0+i.toNat) [])).append [C.str (aCo (IntKind.i64.wrap (kk+(1:Int))))]).append (List.drop (0+1+1) ((r.set (0+i.toNat) (C.int .i64 kk::List.drop (0+0+1) (r.getD (0+i.toNat) []))).getD (0+i.toNat) [])))).getD (0+i.toNat) [])).append [C.str (aCo (IntKind.i64.wrap (IntKind.i64.wrap (kk+(1:Int))+(1:Int))))]).append (List.drop (0+2+1) (((r.set (0+i.toNat) (C.int .i64 kk::List.drop (0+0+1) (r.getD (0+i.toNat) []))).set (0+i.toNat) (((List.take (0+1) ((r.set (0+i.toNat) (C.int .i64 kk::List.drop (0+0+1) (r.getD (0+i.toNat) []))).getD (0+i.toNat) [])).append [C.str (aCo (IntKind.i64.wrap (kk+(1:Int))))]).append (List.drop (0+1+1) ((r.set (0+i.toNat) (C.int .i64 kk::List.drop (0+0+1) (r.getD (0+i.toNat) []))).getD (0+i.toNat) [])))).getD (0+i.toNat) [])))).length)) (H [Pt.r,Pt.l,Pt.r,Pt.b] k (aPb (n) ((((r.set (0+i.toNat) (C.int .i64 kk::List.drop (0+0+1) (r.getD (0+i.toNat) []))).set (0+i.toNat) (((List.take (0+1) ((r.set (0+i.toNat) (C.int .i64 kk::List.drop (0+0+1) (r.getD (0+i.toNat) []))).getD (0+i.toNat) [])).append [C.str (aCo (IntKind.i64.wrap (kk+(1:Int))))]).append (List.drop (0+1+1) ((r.set (0+i.toNat) (C.int .i64 kk::List.drop (0+0+1) (r.getD (0+i.toNat) []))).getD (0+i.toNat) [])))).set (0+i.toNat) (((List.take (0+2) (((r.set (0+i.toNat) (C.int .i64 kk::List.drop (0+0+1) (r.getD (0+i.toNat) []))).set (0+i.toNat) (((List.take (0+1) ((r.set (0+i.toNat) (C.int .i64 kk::List.drop (0+0+1) (r.getD (0+i.toNat) []))).getD (0+i.toNat) [])).append [C.str (aCo (IntKind.i64.wrap (kk+(1:Int))))]).append (List.drop (0+1+1) ((r.set (0+i.toNat) (C.int .i64 kk::List.drop (0+0+1) (r.getD (0+i.toNat) []))).getD (0+i.toNat) [])))).getD (0+i.toNat) [])).append [C.str (aCo (IntKind.i64.wrap (IntKind.i64.wrap (kk+(1:Int))+(1:Int))))]).append (List.drop (0+2+1) (((r.set (0+i.toNat) (C.int .i64 kk::List.drop (0+0+1) (r.getD (0+i.toNat) []))).set (0+i.toNat) (((List.take (0+1) ((r.set (0+i.toNat) (C.int .i64 kk::List.drop (0+0+1) (r.getD (0+i.toNat) []))).getD (0+i.toNat) [])).append [C.str (aCo (IntKind.i64.wrap (kk+(1:Int))))]).append (List.drop (0+1+1) ((r.set (0+i.toNat) (C.int .i64 kk::List.drop (0+0+1) (r.getD (0+i.toNat) []))).getD (0+i.toNat) [])))).getD (0+i.toNat) [])))).set (0+i.toNat) (((List.take (0+3) ((((r.set (0+i.toNat) (C.int .i64 kk::List.drop (0+0+1) (r.getD (0+i.toNat) []))).set (0+i.toNat) (((List.take (0+1) ((r.set (0+i.toNat) (C.int .i64 kk::List.drop (0+0+1) (r.getD (0+i.toNat) []))).getD (0+i.toNat) [])).append [C.str (aCo (IntKind.i64.wrap (kk+(1:Int))))]).append (List.drop (0+1+1) ((r.set (0+i.toNat) (C.int .i64 kk::List.drop (0+0+1) (r.getD (0+i.toNat) []))).getD (0+i.toNat) [])))).set (0+i.toNat) (((List.take (0+2) (((r.set (0+i.toNat) (C.int .i64 kk::List.drop (0+0+1) (r.getD (0+i.toNat) []))).set (0+i.toNat) (((List.take (0+1) ((r.set (0+i.toNat) (C.int .i64 kk::List.drop (0+0+1) (r.getD (0+i.toNat) []))).getD (0+i.toNat) [])).append [C.str (aCo (IntKind.i64.wrap (kk+(1:Int))))]).append (List.drop (0+1+1) ((r.set (0+i.toNat) (C.int .i64 kk::List.drop (0+0+1) (r.getD (0+i.toNat) []))).getD (0+i.toNat) [])))).getD (0+i.toNat) [])).append [C.str (aCo (IntKind.i64.wrap (IntKind.i64.wrap (kk+(1:Int))+(1:Int))))]).append (List.drop (0+2+1) (((r.set (0+i.toNat) (C.int .i64 kk::List.drop (0+0+1) (r.getD (0+i.toNat) []))).set (0+i.toNat) (((List.take (0+1) ((r.set (0+i.toNat) (C.int .i64 kk::List.drop (0+0+1) (r.getD (0+i.toNat) []))).getD (0+i.toNat) [])).append [C.str (aCo (IntKind.i64.wrap (kk+(1:Int))))]).append (List.drop (0+1+1) ((r.set (0+i.toNat) (C.int .i64 kk::List.drop (0+0+1) (r.getD (0+i.toNat) []))).getD (0+i.toNat) [])))).getD (0+i.toNat) [])))).getD (0+i.toNat) [])).append [C.str (aCo (IntKind.i64.wrap (IntKind.i64.wrap (IntKind.i64.wrap (kk+(1:Int))+(1:Int))+(1:Int))))]).append (List.drop (0+3+1) ((((r.set (0+i.toNat) (C.int .i64 kk::List.drop (0+0+1) (r.getD (0+i.toNat) []))).set (0+i.toNat) (((List.take (0+1) ((r.set (0+i.toNat) (C.int .i64 kk::List.drop (0+0+1) (r.getD (0+i.toNat) []))).getD (0+i.toNat) [])).append [C.str (aCo (IntKind.i64.wrap (kk+(1:Int))))]).append (List.drop (0+1+1) ((r.set (0+i.toNat) (C.int .i64 kk::List.drop (0+0+1) (r.getD (0+i.toNat) []))).getD (0+i.toNat) [])))).set (0+i.toNat) (((List.take (0+2) (((r.set (0+i.toNat) (C.int .i64 kk::List.drop (0+0+1) (r.getD (0+i.toNat) []))).set (0+i.toNat) (((List.take (0+1) ((r.set (0+i.toNat) (C.int .i64 kk::List.drop (0+0+1) (r.getD (0+i.toNat) []))).getD (0+i.toNat) [])).append [C.str (aCo (IntKind.i64.wrap (kk+(1:Int))))]).append (List.drop (0+1+1) ((r.set (0+i.toNat) (C.int .i64 kk::List.drop (0+0+1) (r.getD (0+i.toNat) []))).getD (0+i.toNat) [])))).getD (0+i.toNat) [])).append [C.str (aCo (IntKind.i64.wrap (IntKind.i64.wrap (kk+(1:Int))+(1:Int))))]).append (List.drop (0+2+1) (((r.set (0+i.toNat) (C.int .i64 kk::List.drop (0+0+1) (r.getD (0+i.toNat) []))).set (0+i.toNat) (((List.take (0+1) ((r.set (0+i.toNat) (C.int .i64 kk::List.drop (0+0+1) (r.getD (0+i.toNat) []))).getD (0+i.toNat) [])).append [C.str (aCo (IntKind.i64.wrap (kk+(1:Int))))]).append (List.drop (0+1+1) ((r.set (0+i.toNat) (C.int .i64 kk::List.drop (0+0+1) (r.getD (0+i.toNat) []))).getD (0+i.toNat) [])))).getD (0+i.toNat) [])))).getD (0+i.toNat) [])))) (IntKind.i64.wrap (IntKind.i64.wrap (IntKind.i64.wrap (IntKind.i64.wrap (kk+(1:Int))+(1:Int))+(1:Int))+(1:Int))) (IntKind.i64.wrap (i+(1:Int)))))))))))))))) (.must (true&&(false||true)&&true&&true&&((false||r.all fun r=>r.all C.flat)&&true&&true)) (.ret [C.int .i64 kk,C.sl r]))):T (List C)).eval:=aAg (by kernel_rfl)
theorem bQ7 {r:List C} (h:aB6 r kOp=true):r=eOp (bRt r):=by
 match r,h with
 |[a,b,c,d],h =>
  simp only[aB6,Bool.and_eq_true,and_true]at h
  obtain⟨h1,h2,h3,h4⟩:=h
  have e1:=bFe h1
  have e2:=bA4 h2
  have e3:=bA4 h3
  have e4:=bA4 h4
  show[a,b,c,d]=[.int .i64 a.toInt,.str b.toStr,.str c.toStr,.str d.toStr]
  rw[←e1,←e2,←e3,←e4]
 |[],h=>simp[aB6]at h
 |[_],h=>simp[aB6]at h
 |[_,_],h=>simp[aB6]at h
 |[_,_,_],h=>simp[aB6]at h
 |_::_::_::_::_::_,h=>simp[aB6]at h
theorem aKe {rows:List (List C)} (h:aAa kOp rows=true):rows=(ops rows).map eOp:=by
 simp only[aAa,List.all_eq_true]at h
 simp only[ops,List.map_map]
 exact (List.map_id' rows).symm.trans (List.map_congr_left fun r hr=>bQ7 (h r hr))
@[simp] theorem bVp (l:List Opx):ops (l.map eOp)=l:=by simp[ops,bRt,Function.comp_def,C.toInt,C.toStr]
theorem bUn:aA8 Tryz.prog bR2:=aA9 (by simp[])
theorem bIc:aAw Tryz.prog 65 (sg [pOp,pOp] [rB]) aX0:=aA5 bUn aAd Tryz.func65 (by kernel_rfl) fun cs outs hk h=>by
 unfold aX0 at h
 split at h
 ·simp only[Option.some.injEq,Prod.mk.injEq,true_and]at h
  subst h
  rw[aAi,bM6]
  simp only[aA6,aA3,aA4,bne_iff_ne,ne_eq,Bool.not_eq_true',beq_eq_false_iff_ne,bM5,Opx.mk.injEq]
  repeat' split
  all_goals first | rfl | (simp_all;done)
 ·cases h
theorem bIe (x y:List Opx) (hx:x.length≤16777216) (hl:x.length=y.length):∀ (n i:Nat),i≤x.length→x.length<i+n→x.take i=y.take i →
  (aBd aXr aAe (sg [pSl 42,pSl 42] [rB]) Tryz.f22 [.r,.r,.l,.r,.b] n (aXm (x.map eOp) (y.map eOp) i)).eval=some [.bool (decide (x=y))]:=by
 intro n
 induction n with
 |zero=>intro i h1 h2;omega
 |succ n ih =>
  intro i h1 h2 h3
  rw[aAx _ _ _ _ _ _ _ (by kernel_rfl),bAq]
  by_cases hi:i<x.length
  ·have hi2:i<y.length:=by omega
   have w:IntKind.i64.wrap ((i:Int)+1)=((i+1:Nat):Int):=by rw[aAm]<;>omega
   have hz:(0:Int)≤i:=by omega
   have g:=aAn eOp x ⟨0,[],[],[]⟩ i hi
   have g2:=aAn eOp y ⟨0,[],[],[]⟩ i hi2
   simp only[aA3,aA6,aA4,if_true,decide_eq_true_eq,Bool.and_eq_true,w,hz,Int.toNat_natCast,Int.ofNat_lt,List.length_map,g,g2,hi,hi2,and_self,List.getD_cons_zero,List.getD_cons_succ,C.toStr,C.toInt,C.is,List.length_cons,List.length_nil,Nat.zero_add,Nat.reduceAdd,Nat.reduceLT,decide_true,beq_self_eq_true]
   by_cases hxy:x.getD i ⟨0,[],[],[]⟩=y.getD i ⟨0,[],[],[]⟩
   ·have e:=ih (i+1) (by omega) (by omega) (aF4 ⟨0,[],[],[]⟩ hi hi2 h3 hxy)
    have he:bM5 (x.getD i ⟨0,[],[],[]⟩).kind (x.getD i ⟨0,[],[],[]⟩).name (x.getD i ⟨0,[],[],[]⟩).to (x.getD i ⟨0,[],[],[]⟩).text (y.getD i ⟨0,[],[],[]⟩).kind (y.getD i ⟨0,[],[],[]⟩).name (y.getD i ⟨0,[],[],[]⟩).to (y.getD i ⟨0,[],[],[]⟩).text=true:=decide_eq_true hxy
    simp only[he,if_true]
    exact e
   ·have:x≠y:=fun h=>hxy (by rw[h])
    have hne:bM5 (x.getD i ⟨0,[],[],[]⟩).kind (x.getD i ⟨0,[],[],[]⟩).name (x.getD i ⟨0,[],[],[]⟩).to (x.getD i ⟨0,[],[],[]⟩).text (y.getD i ⟨0,[],[],[]⟩).kind (y.getD i ⟨0,[],[],[]⟩).name (y.getD i ⟨0,[],[],[]⟩).to (y.getD i ⟨0,[],[],[]⟩).text=false:=decide_eq_false hxy
    simp only[hne,decide_false,Bool.false_eq_true,if_false,this]
  ·have e1:i=x.length:=by omega
   have:x=y:=by
    rw[e1,List.take_length,hl,List.take_length]at h3
    exact h3
   have e2:decide (x=y)=true:=by simp[this]
   simp only[aA3,aA6,aA4,decide_eq_true_eq,List.length_map,Int.ofNat_lt,hi,if_false,if_true,e2]
theorem bSy:aA8 Tryz.prog aXr:=aA9 (by simp[bIc])
theorem bDv:aAw Tryz.prog 22 (sg [pSl 42,pSl 42] [rB]) aRj:=aA5 bSy aAd Tryz.func22 (by kernel_rfl) fun cs outs hk h=>by
 unfold aRj at h
 split at h
 ·simp only[Option.some.injEq,Prod.mk.injEq,Bool.and_eq_true,decide_eq_true_eq]at h
  obtain⟨⟨h1,h2,h3⟩,rfl⟩:=h
  rename_i x y
  have hx:=aKe h2
  have hy:=aKe h3
  generalize ops x=l at hx ⊢
  generalize ops y=m at hy ⊢
  subst hx;subst hy
  rw[List.length_map]at h1
  rw[aAi,bId]
  simp only[aA3,aA6,aA4,if_true,bne_iff_ne,ne_eq,List.length_map,Int.ofNat_inj]
  by_cases hl:l.length=m.length
  ·simp only[hl,not_true_eq_false,if_false]
   exact bIe l m h1 hl _ 0 (by omega) (by omega) rfl
  ·have:l≠m:=fun h=>hl (by rw[h])
   simp[hl,this]
 ·cases h
theorem bCs (rows:List (List C)) (k:Int) (hr:aAa kOp rows=true) (hl:rows.length≤16777216) (h0:0≤k) (h1:k≤1099511627776):∀ (n i:Nat),i≤rows.length→rows.length<i+n →
  (aBd aPm aAe (sg [.wr false [(.slice 42,true)],pI] [rI]) Tryz.f23 [.r,.l,.r,.b] n (aPb rows.length (mk bIx 4 k i++rows.drop i) (k+4*i) i)).eval=some [.int .i64 (k+4*rows.length),.sl (mk bIx 4 k rows.length)]:=by
 intro n
 induction n with
 |zero=>intro i a b;omega
 |succ n ih =>
  intro i a b
  rw[aAx _ _ _ _ _ _ _ (by kernel_rfl),aWb]
  by_cases hi:i<rows.length
  ·have w:IntKind.i64.wrap ((i:Int)+1)=((i+1:Nat):Int):=by rw[aAm]<;>omega
   have w1:IntKind.i64.wrap (k+4*(i:Int)+1)=k+4*(i:Int)+1:=by rw[aAm]<;>omega
   have w2:IntKind.i64.wrap (k+4*(i:Int)+1+1)=k+4*(i:Int)+2:=by rw[aAm]<;>omega
   have w3:IntKind.i64.wrap (k+4*(i:Int)+2+1)=k+4*(i:Int)+3:=by rw[aAm]<;>omega
   have w4:IntKind.i64.wrap (k+4*(i:Int)+3+1)=k+4*(i:Int)+4:=by rw[aAm]<;>omega
   have hk2:k+4*(i:Int)+2≤4611686018427387904:=by omega
   have hk3:k+4*(i:Int)+3≤4611686018427387904:=by omega
   have wk:k+4*(i:Int)+4=k+4*((i+1:Nat):Int):=by omega
   have hz:(0:Int)≤i:=by omega
   have hi':(i:Int)<rows.length:=by omega
   have hk:k+4*(i:Int)≤4611686018427387904:=by omega
   have hk1:k+4*(i:Int)+1≤4611686018427387904:=by omega
   have g:=bQ7 (aIh hr i hi)
   have hlen:i<(mk bIx 4 k i++rows.drop i).length:=by simp[aDe];omega
   simp only[Nat.zero_add,Nat.add_zero,Int.toNat_natCast,List.set_set,List.length_set,aIm _ _ _ _ hlen,w,w1,w2,w3,w4,List.append_eq]
   simp only[aP3 _ _ _ _ (aDe _ _ _ _),aVj _ _ _ _ (aDe _ _ _ _) hi]
   rw[g]
   simp only[List.drop_succ_cons,List.drop_zero,List.take_succ_cons,List.take_zero,List.cons_append,List.nil_append,List.drop_nil,List.append_nil,List.append_assoc]
   have e:mk bIx 4 k i++[[C.int .i64 (k+4*(i:Int)),C.str (aCo (k+4*(i:Int)+1)),C.str (aCo (k+4*(i:Int)+2)),C.str (aCo (k+4*(i:Int)+3))]]=mk bIx 4 k (i+1):=(aW8 bIx 4 k i).symm
   simp only[aA3,aA6,decide_eq_true_eq,Bool.and_eq_true,hz,hi',hk,hk1,hk2,hk3,hlen,and_self,if_true]
   have:=ih (i+1) (by omega) (by omega)
   rw[←e,←wk,List.append_assoc]at this
   exact this
  ·have e:i=rows.length:=by omega
   subst e
   have hi':¬((rows.length:Int)<(rows.length:Int)):=by omega
   have hf:((mk bIx 4 k rows.length).all fun r=>r.all C.flat)=true:=aG6 _ _ _ _ _ fun k=>rfl
   simp only[aA6,aA3,aA4,decide_eq_true_eq,hi',if_false,List.drop_length,List.append_nil,hf,Bool.false_or,Bool.or_true,Bool.and_true,Bool.and_self,if_true]
theorem bOx:aA8 Tryz.prog aPm:=aA9 (by simp[aCu])
theorem aZw:aAw Tryz.prog 23 (sg [.wr false [(.slice 42,true)],pI] [rI]) aR0:=aA5 bOx aAd Tryz.func23 (by kernel_rfl) fun cs outs hk h=>by
 unfold aR0 at h
 split at h
 ·simp only[Option.some.injEq,Prod.mk.injEq,Bool.and_eq_true,decide_eq_true_eq]at h
  obtain⟨⟨h1,h2,h3,h4⟩,rfl⟩:=h
  rename_i rows k
  rw[aAi,bCr]
  have:=bCs rows k h1 h2 h3 h4 9223372036854775808 0 (by omega) (by omega)
  rw[show mk bIx 4 k 0++rows.drop 0=rows by simp[mk],show k+4*((0:Nat):Int)=k by omega]at this
  have r1:=aDa h1 4 rfl
  simp only[aA3,r1,Bool.and_true,Bool.true_and,Nat.zero_lt_one,decide_true,if_true]
  exact this
 ·cases h
noncomputable section
def bIw (d:Dk) (k:Int) (n o t:List UInt8):Dk:=if k=1 then rmD d n else if k=2 then crD d n else if k=3 then apD d n t else if k=4 then syD d n else if k=5 then rnD d n o else if k=6 then snD d else d
def bK8 (d:Dk) (k:Int) (n o t:List UInt8):Int:=if k=1 then rmC d.ns d.es d.os d.ss d.r d.x n else if k=2 then crC d.ns d.es d.os d.ss d.r d.x n else if k=3 then apC d.ns d.es d.os d.ss d.r d.x n t else if k=4 then rmC d.ns d.es d.os d.ss d.r d.x n else if k=5 then rnC d.ns d.es d.os d.ss d.r d.x n o else if k=6 then 0 else 1
def bRr (ns es os ss:List (List C)) (n o t:List UInt8):Bool:=aCx ns es os ss&&(aDv os ss n&&(aDv os ss o&&decide (t.length≤dN)))
def aNj:Spec:=fun cs=>match cs with
 |[.sl ns,.sl es,.sl os,.sl ss,.int .i64 r,.int .i64 x,.int .i64 k,.str n,.str o,.str t]=>some (bRr ns es os ss n o t,bNl (bIw ⟨ns,es,os,ss,r,x⟩ k n o t)++[.int .i64 (bK8 ⟨ns,es,os,ss,r,x⟩ k n o t)])
 |_=>none
def bQw:Env:=mkE [] [(32,(sg [aAq] [aBk]),aCj),(51,(sg [aAq,pS] [aBk,rI]),aU0),(56,(sg [aAq] [aBk]),aTs),(52,(sg [aAq,pS] [aBk,rI]),aUi),(53,(sg [aAq,pS,pS] [aBk,rI]),aUo),(54,(sg [aAq,pS] [aBk,rI]),aTn),(55,(sg [aAq,pS,pS] [aBk,rI]),aTz)]
def bQy:Env:=mkE [] [(41,(sg [aAq] [aBk]),aCj),(59,(sg [aAq,pS,pS] [aBk,rI]),aUo),(60,(sg [aAq,pS] [aBk,rI]),aTn),(57,(sg [aAq,pS] [aBk,rI]),aU0),(61,(sg [aAq,pS,pS] [aBk,rI]),aTz),(58,(sg [aAq,pS] [aBk,rI]),aUi),(62,(sg [aAq] [aBk]),aTs)]
end
theorem bJz (H:List Pt→Nat→St→T (List C)) (ns:List (List C)) (es:List (List C)) (os:List (List C)) (ss:List (List C)) (r:Int) (x:Int) (k:Int) (n:List UInt8) (o:List UInt8) (t:List UInt8):(aAo bQw aAe (sg [aAq,pOp] [aBk,rI]) Tryz.f15 H [C.sl ns,C.sl es,C.sl os,C.sl ss,C.int .i64 r,C.int .i64 x,C.int .i64 k,C.str n,C.str o,C.str t]).eval=(let d1:Dk:=(rmD {ns:=ns,es:=es,os:=os,ss:=ss,r:=r,x:=x} n);let d2:Dk:=(crD {ns:=ns,es:=es,os:=os,ss:=ss,r:=r,x:=x} n);let d3:Dk:=(apD {ns:=ns,es:=es,os:=os,ss:=ss,r:=r,x:=x} n t);let d4:Dk:=(syD {ns:=ns,es:=es,os:=os,ss:=ss,r:=r,x:=x} n);let d5:Dk:=(rnD {ns:=ns,es:=es,os:=os,ss:=ss,r:=r,x:=x} n o);let d6:Dk:=(snD {ns:=ns,es:=es,os:=os,ss:=ss,r:=r,x:=x});(.ask (decide (k=(1:Int))) (.must (aCx ns es os ss&&aDv os ss n) (.must ((true&&d1.ns.all fun row=>decide (row.length=3))&&((true&&d1.es.all fun row=>decide (row.length=2))&&((true&&d1.os.all fun row=>decide (row.length=2))&&((true&&d1.ss.all fun row=>decide (row.length=1))&&(decide (0<1)&&true&&(decide (0<1)&&true&&true)))))&&(decide (0<1)&&true&&true&&true)&&true) (.must (decide (d1.ns.length=d1.ns.length)&&(false||d1.ns.all fun r=>r.all C.flat)&&(decide (d1.es.length=d1.es.length)&&(false||d1.es.all fun r=>r.all C.flat)&&(decide (d1.os.length=d1.os.length)&&(false||d1.os.all fun r=>r.all C.flat)&&(decide (d1.ss.length=d1.ss.length)&&(false||d1.ss.all fun r=>r.all C.flat)&&(true&&(false||true)&&(true&&(false||true)&&true)))))&&(true&&(false||true)&&true&&true)&&true) (.ret [C.sl d1.ns,C.sl d1.es,C.sl d1.os,C.sl d1.ss,C.int .i64 d1.r,C.int .i64 d1.x,C.int .i64 (rmC ns es os ss r x n)])))) (.ask (decide (k=(2:Int))) (.must (aCx ns es os ss&&aDv os ss n) (.must ((true&&d2.ns.all fun row=>decide (row.length=3))&&((true&&d2.es.all fun row=>decide (row.length=2))&&((true&&d2.os.all fun row=>decide (row.length=2))&&((true&&d2.ss.all fun row=>decide (row.length=1))&&(decide (0<1)&&true&&(decide (0<1)&&true&&true)))))&&(decide (0<1)&&true&&true&&true)&&true) (.must (decide (d2.ns.length=d2.ns.length)&&(false||d2.ns.all fun r=>r.all C.flat)&&(decide (d2.es.length=d2.es.length)&&(false||d2.es.all fun r=>r.all C.flat)&&(decide (d2.os.length=d2.os.length)&&(false||d2.os.all fun r=>r.all C.flat)&&(decide (d2.ss.length=d2.ss.length)&&(false||d2.ss.all fun r=>r.all C.flat)&&(true&&(false||true)&&(true&&(false||true)&&true)))))&&(true&&(false||true)&&true&&true)&&true) (.ret [C.sl d2.ns,C.sl d2.es,C.sl d2.os,C.sl d2.ss,C.int .i64 d2.r,C.int .i64 d2.x,C.int .i64 (crC ns es os ss r x n)])))) (.ask (decide (k=(3:Int))) (.must (aCx ns es os ss&&decide (t.length≤16777216)) (.must ((true&&d3.ns.all fun row=>decide (row.length=3))&&((true&&d3.es.all fun row=>decide (row.length=2))&&((true&&d3.os.all fun row=>decide (row.length=2))&&((true&&d3.ss.all fun row=>decide (row.length=1))&&(decide (0<1)&&true&&(decide (0<1)&&true&&true)))))&&(decide (0<1)&&true&&true&&true)&&true) (.must (decide (d3.ns.length=d3.ns.length)&&(false||d3.ns.all fun r=>r.all C.flat)&&(decide (d3.es.length=d3.es.length)&&(false||d3.es.all fun r=>r.all C.flat)&&(decide (d3.os.length=d3.os.length)&&(false||d3.os.all fun r=>r.all C.flat)&&(decide (d3.ss.length=d3.ss.length)&&(false||d3.ss.all fun r=>r.all C.flat)&&(true&&(false||true)&&(true&&(false||true)&&true)))))&&(true&&(false||true)&&true&&true)&&true) (.ret [C.sl d3.ns,C.sl d3.es,C.sl d3.os,C.sl d3.ss,C.int .i64 d3.r,C.int .i64 d3.x,C.int .i64 (apC ns es os ss r x n t)])))) (.ask (decide (k=(4:Int))) (.must (aCx ns es os ss) (.must ((true&&d4.ns.all fun row=>decide (row.length=3))&&((true&&d4.es.all fun row=>decide (row.length=2))&&((true&&d4.os.all fun row=>decide (row.length=2))&&((true&&d4.ss.all fun row=>decide (row.length=1))&&(decide (0<1)&&true&&(decide (0<1)&&true&&true)))))&&(decide (0<1)&&true&&true&&true)&&true) (.must (decide (d4.ns.length=d4.ns.length)&&(false||d4.ns.all fun r=>r.all C.flat)&&(decide (d4.es.length=d4.es.length)&&(false||d4.es.all fun r=>r.all C.flat)&&(decide (d4.os.length=d4.os.length)&&(false||d4.os.all fun r=>r.all C.flat)&&(decide (d4.ss.length=d4.ss.length)&&(false||d4.ss.all fun r=>r.all C.flat)&&(true&&(false||true)&&(true&&(false||true)&&true)))))&&(true&&(false||true)&&true&&true)&&true) (.ret [C.sl d4.ns,C.sl d4.es,C.sl d4.os,C.sl d4.ss,C.int .i64 d4.r,C.int .i64 d4.x,C.int .i64 (rmC ns es os ss r x n)])))) (.ask (decide (k=(5:Int))) (.must (aCx ns es os ss&&(aDv os ss n&&aDv os ss o)) (.must ((true&&d5.ns.all fun row=>decide (row.length=3))&&((true&&d5.es.all fun row=>decide (row.length=2))&&((true&&d5.os.all fun row=>decide (row.length=2))&&((true&&d5.ss.all fun row=>decide (row.length=1))&&(decide (0<1)&&true&&(decide (0<1)&&true&&true)))))&&(decide (0<1)&&true&&true&&true)&&true) (.must (decide (d5.ns.length=d5.ns.length)&&(false||d5.ns.all fun r=>r.all C.flat)&&(decide (d5.es.length=d5.es.length)&&(false||d5.es.all fun r=>r.all C.flat)&&(decide (d5.os.length=d5.os.length)&&(false||d5.os.all fun r=>r.all C.flat)&&(decide (d5.ss.length=d5.ss.length)&&(false||d5.ss.all fun r=>r.all C.flat)&&(true&&(false||true)&&(true&&(false||true)&&true)))))&&(true&&(false||true)&&true&&true)&&true) (.ret [C.sl d5.ns,C.sl d5.es,C.sl d5.os,C.sl d5.ss,C.int .i64 d5.r,C.int .i64 d5.x,C.int .i64 (rnC ns es os ss r x n o)])))) (.ask (decide (k=(6:Int))) (.must (aCx ns es os ss) (.must ((true&&d6.ns.all fun row=>decide (row.length=3))&&((true&&d6.es.all fun row=>decide (row.length=2))&&((true&&d6.os.all fun row=>decide (row.length=2))&&((true&&d6.ss.all fun row=>decide (row.length=1))&&(decide (0<1)&&true&&(decide (0<1)&&true&&true)))))&&true&&true) (.must (decide (d6.ns.length=d6.ns.length)&&(false||d6.ns.all fun r=>r.all C.flat)&&(decide (d6.es.length=d6.es.length)&&(false||d6.es.all fun r=>r.all C.flat)&&(decide (d6.os.length=d6.os.length)&&(false||d6.os.all fun r=>r.all C.flat)&&(decide (d6.ss.length=d6.ss.length)&&(false||d6.ss.all fun r=>r.all C.flat)&&(true&&(false||true)&&(true&&(false||true)&&true)))))&&(true&&(false||true)&&true&&true)&&true) (.ret [C.sl d6.ns,C.sl d6.es,C.sl d6.os,C.sl d6.ss,C.int .i64 d6.r,C.int .i64 d6.x,C.int .i64 0])))) (.must (aCx ns es os ss) (.must ((true&&ns.all fun row=>decide (row.length=3))&&((true&&es.all fun row=>decide (row.length=2))&&((true&&os.all fun row=>decide (row.length=2))&&((true&&ss.all fun row=>decide (row.length=1))&&(decide (0<1)&&true&&(decide (0<1)&&true&&true)))))&&true&&true) (.must (decide (ns.length=ns.length)&&(false||ns.all fun r=>r.all C.flat)&&(decide (es.length=es.length)&&(false||es.all fun r=>r.all C.flat)&&(decide (os.length=os.length)&&(false||os.all fun r=>r.all C.flat)&&(decide (ss.length=ss.length)&&(false||ss.all fun r=>r.all C.flat)&&(true&&(false||true)&&(true&&(false||true)&&true)))))&&(true&&(false||true)&&true&&true)&&true) (.ret [C.sl ns,C.sl es,C.sl os,C.sl ss,C.int .i64 r,C.int .i64 x,C.int .i64 1])))))))))):T (List C)).eval:=aAg (by kernel_rfl)
theorem bLm (H:List Pt→Nat→St→T (List C)) (ns:List (List C)) (es:List (List C)) (os:List (List C)) (ss:List (List C)) (r:Int) (x:Int) (k:Int) (n:List UInt8) (o:List UInt8) (t:List UInt8):(aAo bQy aAe (sg [aAq,pOp] [aBk,rI]) Tryz.f17 H [C.sl ns,C.sl es,C.sl os,C.sl ss,C.int .i64 r,C.int .i64 x,C.int .i64 k,C.str n,C.str o,C.str t]).eval=(let d1:Dk:=(rmD {ns:=ns,es:=es,os:=os,ss:=ss,r:=r,x:=x} n);let d2:Dk:=(crD {ns:=ns,es:=es,os:=os,ss:=ss,r:=r,x:=x} n);let d3:Dk:=(apD {ns:=ns,es:=es,os:=os,ss:=ss,r:=r,x:=x} n t);let d4:Dk:=(syD {ns:=ns,es:=es,os:=os,ss:=ss,r:=r,x:=x} n);let d5:Dk:=(rnD {ns:=ns,es:=es,os:=os,ss:=ss,r:=r,x:=x} n o);let d6:Dk:=(snD {ns:=ns,es:=es,os:=os,ss:=ss,r:=r,x:=x});(.ask (decide (k=(1:Int))) (.must (aCx ns es os ss&&aDv os ss n) (.must ((true&&d1.ns.all fun row=>decide (row.length=3))&&((true&&d1.es.all fun row=>decide (row.length=2))&&((true&&d1.os.all fun row=>decide (row.length=2))&&((true&&d1.ss.all fun row=>decide (row.length=1))&&(decide (0<1)&&true&&(decide (0<1)&&true&&true)))))&&(decide (0<1)&&true&&true&&true)&&true) (.must (decide (d1.ns.length=d1.ns.length)&&(false||d1.ns.all fun r=>r.all C.flat)&&(decide (d1.es.length=d1.es.length)&&(false||d1.es.all fun r=>r.all C.flat)&&(decide (d1.os.length=d1.os.length)&&(false||d1.os.all fun r=>r.all C.flat)&&(decide (d1.ss.length=d1.ss.length)&&(false||d1.ss.all fun r=>r.all C.flat)&&(true&&(false||true)&&(true&&(false||true)&&true)))))&&(true&&(false||true)&&true&&true)&&true) (.ret [C.sl d1.ns,C.sl d1.es,C.sl d1.os,C.sl d1.ss,C.int .i64 d1.r,C.int .i64 d1.x,C.int .i64 (rmC ns es os ss r x n)])))) (.ask (decide (k=(2:Int))) (.must (aCx ns es os ss&&aDv os ss n) (.must ((true&&d2.ns.all fun row=>decide (row.length=3))&&((true&&d2.es.all fun row=>decide (row.length=2))&&((true&&d2.os.all fun row=>decide (row.length=2))&&((true&&d2.ss.all fun row=>decide (row.length=1))&&(decide (0<1)&&true&&(decide (0<1)&&true&&true)))))&&(decide (0<1)&&true&&true&&true)&&true) (.must (decide (d2.ns.length=d2.ns.length)&&(false||d2.ns.all fun r=>r.all C.flat)&&(decide (d2.es.length=d2.es.length)&&(false||d2.es.all fun r=>r.all C.flat)&&(decide (d2.os.length=d2.os.length)&&(false||d2.os.all fun r=>r.all C.flat)&&(decide (d2.ss.length=d2.ss.length)&&(false||d2.ss.all fun r=>r.all C.flat)&&(true&&(false||true)&&(true&&(false||true)&&true)))))&&(true&&(false||true)&&true&&true)&&true) (.ret [C.sl d2.ns,C.sl d2.es,C.sl d2.os,C.sl d2.ss,C.int .i64 d2.r,C.int .i64 d2.x,C.int .i64 (crC ns es os ss r x n)])))) (.ask (decide (k=(3:Int))) (.must (aCx ns es os ss&&decide (t.length≤16777216)) (.must ((true&&d3.ns.all fun row=>decide (row.length=3))&&((true&&d3.es.all fun row=>decide (row.length=2))&&((true&&d3.os.all fun row=>decide (row.length=2))&&((true&&d3.ss.all fun row=>decide (row.length=1))&&(decide (0<1)&&true&&(decide (0<1)&&true&&true)))))&&(decide (0<1)&&true&&true&&true)&&true) (.must (decide (d3.ns.length=d3.ns.length)&&(false||d3.ns.all fun r=>r.all C.flat)&&(decide (d3.es.length=d3.es.length)&&(false||d3.es.all fun r=>r.all C.flat)&&(decide (d3.os.length=d3.os.length)&&(false||d3.os.all fun r=>r.all C.flat)&&(decide (d3.ss.length=d3.ss.length)&&(false||d3.ss.all fun r=>r.all C.flat)&&(true&&(false||true)&&(true&&(false||true)&&true)))))&&(true&&(false||true)&&true&&true)&&true) (.ret [C.sl d3.ns,C.sl d3.es,C.sl d3.os,C.sl d3.ss,C.int .i64 d3.r,C.int .i64 d3.x,C.int .i64 (apC ns es os ss r x n t)])))) (.ask (decide (k=(4:Int))) (.must (aCx ns es os ss) (.must ((true&&d4.ns.all fun row=>decide (row.length=3))&&((true&&d4.es.all fun row=>decide (row.length=2))&&((true&&d4.os.all fun row=>decide (row.length=2))&&((true&&d4.ss.all fun row=>decide (row.length=1))&&(decide (0<1)&&true&&(decide (0<1)&&true&&true)))))&&(decide (0<1)&&true&&true&&true)&&true) (.must (decide (d4.ns.length=d4.ns.length)&&(false||d4.ns.all fun r=>r.all C.flat)&&(decide (d4.es.length=d4.es.length)&&(false||d4.es.all fun r=>r.all C.flat)&&(decide (d4.os.length=d4.os.length)&&(false||d4.os.all fun r=>r.all C.flat)&&(decide (d4.ss.length=d4.ss.length)&&(false||d4.ss.all fun r=>r.all C.flat)&&(true&&(false||true)&&(true&&(false||true)&&true)))))&&(true&&(false||true)&&true&&true)&&true) (.ret [C.sl d4.ns,C.sl d4.es,C.sl d4.os,C.sl d4.ss,C.int .i64 d4.r,C.int .i64 d4.x,C.int .i64 (rmC ns es os ss r x n)])))) (.ask (decide (k=(5:Int))) (.must (aCx ns es os ss&&(aDv os ss n&&aDv os ss o)) (.must ((true&&d5.ns.all fun row=>decide (row.length=3))&&((true&&d5.es.all fun row=>decide (row.length=2))&&((true&&d5.os.all fun row=>decide (row.length=2))&&((true&&d5.ss.all fun row=>decide (row.length=1))&&(decide (0<1)&&true&&(decide (0<1)&&true&&true)))))&&(decide (0<1)&&true&&true&&true)&&true) (.must (decide (d5.ns.length=d5.ns.length)&&(false||d5.ns.all fun r=>r.all C.flat)&&(decide (d5.es.length=d5.es.length)&&(false||d5.es.all fun r=>r.all C.flat)&&(decide (d5.os.length=d5.os.length)&&(false||d5.os.all fun r=>r.all C.flat)&&(decide (d5.ss.length=d5.ss.length)&&(false||d5.ss.all fun r=>r.all C.flat)&&(true&&(false||true)&&(true&&(false||true)&&true)))))&&(true&&(false||true)&&true&&true)&&true) (.ret [C.sl d5.ns,C.sl d5.es,C.sl d5.os,C.sl d5.ss,C.int .i64 d5.r,C.int .i64 d5.x,C.int .i64 (rnC ns es os ss r x n o)])))) (.ask (decide (k=(6:Int))) (.must (aCx ns es os ss) (.must ((true&&d6.ns.all fun row=>decide (row.length=3))&&((true&&d6.es.all fun row=>decide (row.length=2))&&((true&&d6.os.all fun row=>decide (row.length=2))&&((true&&d6.ss.all fun row=>decide (row.length=1))&&(decide (0<1)&&true&&(decide (0<1)&&true&&true)))))&&true&&true) (.must (decide (d6.ns.length=d6.ns.length)&&(false||d6.ns.all fun r=>r.all C.flat)&&(decide (d6.es.length=d6.es.length)&&(false||d6.es.all fun r=>r.all C.flat)&&(decide (d6.os.length=d6.os.length)&&(false||d6.os.all fun r=>r.all C.flat)&&(decide (d6.ss.length=d6.ss.length)&&(false||d6.ss.all fun r=>r.all C.flat)&&(true&&(false||true)&&(true&&(false||true)&&true)))))&&(true&&(false||true)&&true&&true)&&true) (.ret [C.sl d6.ns,C.sl d6.es,C.sl d6.os,C.sl d6.ss,C.int .i64 d6.r,C.int .i64 d6.x,C.int .i64 0])))) (.must (aCx ns es os ss) (.must ((true&&ns.all fun row=>decide (row.length=3))&&((true&&es.all fun row=>decide (row.length=2))&&((true&&os.all fun row=>decide (row.length=2))&&((true&&ss.all fun row=>decide (row.length=1))&&(decide (0<1)&&true&&(decide (0<1)&&true&&true)))))&&true&&true) (.must (decide (ns.length=ns.length)&&(false||ns.all fun r=>r.all C.flat)&&(decide (es.length=es.length)&&(false||es.all fun r=>r.all C.flat)&&(decide (os.length=os.length)&&(false||os.all fun r=>r.all C.flat)&&(decide (ss.length=ss.length)&&(false||ss.all fun r=>r.all C.flat)&&(true&&(false||true)&&(true&&(false||true)&&true)))))&&(true&&(false||true)&&true&&true)&&true) (.ret [C.sl ns,C.sl es,C.sl os,C.sl ss,C.int .i64 r,C.int .i64 x,C.int .i64 1])))))))))):T (List C)).eval:=aAg (by kernel_rfl)
def NB (a b:Nat) (ns:List (List C)):Prop:=∃ l:List Nd,ns=l.map eNd∧l.length≤a∧∀ x∈l,x.text.length≤b
def EB (a b:Nat) (es:List (List C)):Prop:=∃ l:List En,es=l.map eEn∧l.length≤a∧∀ x∈l,x.name.length≤b
def SB (a b:Nat) (ss:List (List C)):Prop:=∃ l:List (List UInt8),ss=l.map aH7∧l.length≤a∧∀ x∈l,x.length≤b
structure DkB (a b:Nat) (d:Dk):Prop where
 n:NB a b d.ns
 e:EB a b d.es
 o:EB a b d.os
 s:SB a b d.ss
theorem NB.mono {a b a' b':Nat} {ns:List (List C)} (h:NB a b ns) (ha:a≤a') (hb:b≤b'):NB a' b' ns:=by obtain⟨l,e,h1,h2⟩:=h;exact⟨l,e,by omega,fun x hx=>Nat.le_trans (h2 x hx) hb⟩
theorem EB.mono {a b a' b':Nat} {es:List (List C)} (h:EB a b es) (ha:a≤a') (hb:b≤b'):EB a' b' es:=by obtain⟨l,e,h1,h2⟩:=h;exact⟨l,e,by omega,fun x hx=>Nat.le_trans (h2 x hx) hb⟩
theorem SB.mono {a b a' b':Nat} {ss:List (List C)} (h:SB a b ss) (ha:a≤a') (hb:b≤b'):SB a' b' ss:=by obtain⟨l,e,h1,h2⟩:=h;exact⟨l,e,by omega,fun x hx=>Nat.le_trans (h2 x hx) hb⟩
theorem DkB.mono {a b a' b':Nat} {d:Dk} (h:DkB a b d) (ha:a≤a') (hb:b≤b'):DkB a' b' d:=⟨h.n.mono ha hb,h.e.mono ha hb,h.o.mono ha hb,h.s.mono ha hb⟩
theorem NB.clean {a b:Nat} {ns:List (List C)} (h:NB a b ns) (os ss:List (List C)):NB a b (aC3 ns os ss):=by
 obtain⟨l,rfl,h1,h2⟩:=h
 unfold aC3
 rw[aE7]
 exact⟨_,rfl,Nat.le_trans (List.length_filter_le _ _) h1,fun x hx=>h2 x (List.mem_filter.1 hx).1⟩
theorem NB.snoc {a b:Nat} {ns:List (List C)} (h:NB a b ns) (x:Int):NB (a+1) b (ns++[eNd ⟨x,[],0⟩]):=by
 obtain⟨l,rfl,h1,h2⟩:=h
 refine⟨l++[⟨x,[],0⟩],by simp,by simp;omega,fun y hy=>?_⟩
 rcases List.mem_append.1 hy with hy | hy
 ·exact h2 y hy
 ·have:y=⟨x,[],0⟩:=by simpa using hy
  rw[this];simp
theorem NB.set {a b:Nat} {ns:List (List C)} (h:NB a b ns) (k:Nat) {y:Nd} (hy:y.text.length≤b):NB a b (ns.set k (eNd y)):=by
 obtain⟨l,rfl,h1,h2⟩:=h
 refine⟨l.set k y,(List.map_set).symm,by rw[List.length_set];exact h1,fun z hz=>?_⟩
 rcases List.mem_or_eq_of_mem_set hz with hz | rfl
 ·exact h2 z hz
 ·exact hy
theorem NB.at {a b:Nat} {ns:List (List C)} (h:NB a b ns) (k:Nat):((nds ns).getD k ⟨0,[],0⟩).text.length≤b:=by
 obtain⟨l,rfl,h1,h2⟩:=h
 rw[aE7]
 by_cases hk:k<l.length
 ·exact h2 _ (aFi hk)
 ·rw[List.getD_eq_getElem?_getD,List.getElem?_eq_none_iff.2 (by omega)];exact Nat.zero_le _
theorem EB.drop {a b:Nat} {es:List (List C)} (h:EB a b es) (nm:List UInt8):EB a b (aB0 es nm):=by
 obtain⟨l,rfl,h1,h2⟩:=h
 rw[aRm]
 exact⟨_,rfl,Nat.le_trans (aGq _ _) h1,fun x hx=>h2 x (aI0 hx)⟩
theorem EB.put {a b:Nat} {es:List (List C)} (h:EB a b es) {nm:List UInt8} (id:Int) (hn:nm.length≤b):EB (a+1) b (aEi es nm id):=by
 obtain⟨l,rfl,h1,h2⟩:=h
 rw[aM7]
 refine⟨_,rfl,Nat.le_trans (aM9 _ _) (by omega),fun x hx=>?_⟩
 rcases aM8 hx with rfl | hx
 ·exact hn
 ·exact h2 x hx
theorem SB.one {a b:Nat} {ss:List (List C)} (h:SB a b ss) {s:List UInt8} (hs:s.length≤b):SB (a+1) b (ss1 ss s):=by
 obtain⟨l,rfl,h1,h2⟩:=h
 refine⟨l++[s],by simp[ss1],by simp;omega,fun x hx=>?_⟩
 rcases List.mem_append.1 hx with hx | hx
 ·exact h2 x hx
 ·have:x=s:=by simpa using hx
  rw[this];exact hs
theorem SB.nil {a b:Nat}:SB a b []:=⟨[],rfl,Nat.zero_le _,fun x hx=>by cases hx⟩
theorem DkB.of {ns es os ss:List (List C)} {r x:Int} (h:aCx ns es os ss=true):DkB 16777216 16777216 ⟨ns,es,os,ss,r,x⟩:=by
 obtain⟨d1,d2,d3⟩:=aB1.1 h
 obtain⟨s1,s2,s3⟩:=aDu.1 d3
 obtain⟨l,e1,_,h1,h2⟩:=aE8 d1
 obtain⟨l2,e2,_,h3,h4⟩:=aDf d2
 obtain⟨l3,e3,_,h5,h6⟩:=aDf s1
 obtain⟨l4,e4,_,h7,h8⟩:=aJk s2
 exact⟨⟨l,e1,h1,h2⟩,⟨l2,e2,h3,h4⟩,⟨l3,e3,h5,h6⟩,⟨l4,e4,h7,h8⟩⟩
theorem DkB.dis {a b:Nat} {d:Dk} (h:DkB a b d) (ha:2*a≤16777216) (hb:b≤16777216):aCx d.ns d.es d.os d.ss=true:=by
 obtain⟨⟨l1,e1,a1,b1⟩,⟨l2,e2,a2,b2⟩,⟨l3,e3,a3,b3⟩,⟨l4,e4,a4,b4⟩⟩:=h
 rw[e1,e2,e3,e4]
 refine aB1.2 ⟨aKk.2 ⟨by omega,fun x hx=>Nat.le_trans (b1 x hx) hb⟩,aFl.2 ⟨by omega,fun x hx=>Nat.le_trans (b2 x hx) hb⟩,aDu.2 ⟨aFl.2 ⟨by omega,fun x hx=>Nat.le_trans (b3 x hx) hb⟩,bEq.2 ⟨by omega,fun x hx=>Nat.le_trans (b4 x hx) hb⟩,by rw[List.length_map,List.length_map];omega⟩⟩
theorem DkB.all {a b:Nat} {d:Dk} (h:DkB a b d):(d.ns.all fun row=>decide (row.length=3))=true∧(d.es.all fun row=>decide (row.length=2))=true∧(d.os.all fun row=>decide (row.length=2))=true∧(d.ss.all fun row=>decide (row.length=1))=true ∧
  (d.ns.all fun r=>r.all C.flat)=true∧(d.es.all fun r=>r.all C.flat)=true∧(d.os.all fun r=>r.all C.flat)=true∧(d.ss.all fun r=>r.all C.flat)=true:=by
 obtain⟨⟨l1,e1,_,_⟩,⟨l2,e2,_,_⟩,⟨l3,e3,_,_⟩,⟨l4,e4,_,_⟩⟩:=h
 rw[e1,e2,e3,e4]
 exact⟨by simp,by simp,by simp,by simp,aEn _,aEo _,aEo _,aMi _⟩
theorem DkB.lens {a b:Nat} {d:Dk} (h:DkB a b d):d.ns.length≤a∧d.es.length≤a∧d.os.length≤a∧d.ss.length≤a:=by
 obtain⟨⟨l1,e1,h1,_⟩,⟨l2,e2,h2,_⟩,⟨l3,e3,h3,_⟩,⟨l4,e4,h4,_⟩⟩:=h
 rw[e1,e2,e3,e4]
 simp only[List.length_map]
 exact⟨h1,h2,h3,h4⟩
theorem DkB.rows {a b:Nat} {d:Dk} (h:DkB a b d):aBn d.ns d.es d.os d.ss=true:=by
 obtain⟨⟨l1,e1,_,_⟩,⟨l2,e2,_,_⟩,⟨l3,e3,_,_⟩,⟨l4,e4,_,_⟩⟩:=h
 rw[e1,e2,e3,e4]
 exact aDk.2 ⟨aTv _,aGm _,aGm _,aQn _⟩
theorem bOb {a b:Nat} {d:Dk} (h:DkB a b d) (k:Int) {n o t:List UInt8} (hn:n.length+o.length+40≤b):DkB (a+1) (b+t.length) (bIw d k n o t):=by
 have h':DkB (a+1) (b+t.length) d:=h.mono (by omega) (by omega)
 have hb:∀ {q:List UInt8},q.length≤n.length+o.length+40→q.length≤b+t.length:=fun h=>by omega
 unfold bIw
 split
 ·unfold rmD rmN rmE rmS
  split
  ·exact⟨h'.n.clean _ _,h'.e.drop _,h'.o,(h.s.mono (Nat.le_refl _) (by omega)).one (hb (by simp;omega))⟩
  ·exact h'
 ·split
  ·have dl:=aRs d.x
   unfold crD crN crE crS
   split
   ·exact⟨((h.n.mono (Nat.le_refl _) (by omega)).snoc _).clean _ _,(h.e.mono (Nat.le_refl _) (by omega)).put _ (hb (by omega)),h'.o,(h.s.mono (Nat.le_refl _) (by omega)).one (hb (by unfold aFn;simp;omega))⟩
   ·exact⟨h'.n,h'.e,h'.o,h'.s⟩
  ·split
   ·unfold apD apN
    split
    ·refine⟨h'.n.set _ ?_,h'.e,h'.o,h'.s⟩
     have:=h.n.at (ndK d.ns d.es n).toNat
     unfold bMz
     rw[List.length_append]
     split
     ·rw[List.length_take];omega
     ·omega
    ·exact h'
   ·split
    ·unfold syD syN
     split
     ·exact⟨h'.n.set _ (Nat.le_trans (h.n.at (ndK d.ns d.es n).toNat) (Nat.le_add_right _ _)),h'.e,h'.o,h'.s⟩
     ·exact h'
    ·split
     ·unfold rnD rnN rnE rnS
      split
      ·exact⟨h'.n.clean _ _,((h.e.drop _).mono (Nat.le_refl _) (by omega)).put _ (hb (by omega)),h'.o,(h.s.mono (Nat.le_refl _) (by omega)).one (hb (by unfold aEv;simp;omega))⟩
      ·exact h'
     ·split
      ·unfold snD snN snO snS
       split
       ·exact⟨h'.n.clean _ _,h'.e,h'.e,SB.nil⟩
       ·exact h'
      ·exact h'
theorem aJ4 {a b:Nat} {d:Dk} (h:DkB a b d) {z:Bool} (hz:z=true):(((true&&d.ns.all fun row=>decide (row.length=(3:Nat)))&&((true&&d.es.all fun row=>decide (row.length=(2:Nat)))&&((true&&d.os.all fun row=>decide (row.length=(2:Nat)))&&((true&&d.ss.all fun row=>decide (row.length=(1:Nat)))&&(decide ((0:Nat)<(1:Nat))&&true&&(decide ((0:Nat)<(1:Nat))&&true&&true))))))&&z&&true)=true:=by
 obtain⟨h1,h2,h3,h4,_⟩:=h.all
 rw[h1,h2,h3,h4,hz];rfl
theorem aJ5 {a b:Nat} {d:Dk} (h:DkB a b d) {z:Bool} (hz:z=true):((decide (d.ns.length=d.ns.length)&&(false||d.ns.all fun r=>r.all C.flat)&&(decide (d.es.length=d.es.length)&&(false||d.es.all fun r=>r.all C.flat)&&(decide (d.os.length=d.os.length)&&(false||d.os.all fun r=>r.all C.flat)&&(decide (d.ss.length=d.ss.length)&&(false||d.ss.all fun r=>r.all C.flat)&&(true&&(false||true)&&(true&&(false||true)&&true))))))&&z&&true)=true:=by
 obtain⟨_,_,_,_,h1,h2,h3,h4⟩:=h.all
 rw[h1,h2,h3,h4,hz];simp
theorem aVu {ns es os ss:List (List C)} {n o t:List UInt8}:bRr ns es os ss n o t=true↔aCx ns es os ss=true∧aDv os ss n=true∧aDv os ss o=true∧t.length≤16777216:=by simp only[bRr,dN,Bool.and_eq_true,decide_eq_true_eq]
theorem bTu:aA8 Tryz.prog bQw:=aA9 (by simp[aE5,aVm,aOp,aVq,aVt,bC2,aVl])
theorem bGy:aAw Tryz.prog 15 (sg [aAq,pOp] [aBk,rI]) aNj:=aA5 bTu aAd Tryz.func15 (by kernel_rfl) fun cs outs hk h=>by
 unfold aNj at h
 split at h
 ·simp only[Option.some.injEq,Prod.mk.injEq]at h
  obtain⟨hr,rfl⟩:=h
  rename_i ns es os ss r x k n o t
  obtain⟨hd,hm,hm2,ht⟩:=aVu.1 hr
  have q0:=(DkB.of (r:=r) (x:=x) hd).mono (Nat.le_refl _) (show 16777216≤20000000 by omega)
  have m1:=(aCa.1 hm).2
  have m2:=(aCa.1 hm2).2
  have q:=bOb q0 k (n:=n) (o:=o) (t:=t) (by omega)
  rw[aAi,bJz]
  unfold bK8
  unfold bIw at q ⊢
  by_cases c1:k=1
  ·rw[if_pos c1]at q ⊢;rw[if_pos c1]
   exact aA7 (decide_eq_true c1) (aA1 (by rw[hd,hm];rfl) (aA1 (aJ4 q rfl) (aA1 (aJ5 q rfl) rfl)))
  rw[if_neg c1]at q ⊢;rw[if_neg c1]
  refine aAb (decide_eq_false c1) ?_
  by_cases c2:k=2
  ·rw[if_pos c2]at q ⊢;rw[if_pos c2]
   exact aA7 (decide_eq_true c2) (aA1 (by rw[hd,hm];rfl) (aA1 (aJ4 q rfl) (aA1 (aJ5 q rfl) rfl)))
  rw[if_neg c2]at q ⊢;rw[if_neg c2]
  refine aAb (decide_eq_false c2) ?_
  by_cases c3:k=3
  ·rw[if_pos c3]at q ⊢;rw[if_pos c3]
   exact aA7 (decide_eq_true c3) (aA1 (by rw[hd,decide_eq_true ht];rfl) (aA1 (aJ4 q rfl) (aA1 (aJ5 q rfl) rfl)))
  rw[if_neg c3]at q ⊢;rw[if_neg c3]
  refine aAb (decide_eq_false c3) ?_
  by_cases c4:k=4
  ·rw[if_pos c4]at q ⊢;rw[if_pos c4]
   exact aA7 (decide_eq_true c4) (aA1 hd (aA1 (aJ4 q rfl) (aA1 (aJ5 q rfl) rfl)))
  rw[if_neg c4]at q ⊢;rw[if_neg c4]
  refine aAb (decide_eq_false c4) ?_
  by_cases c5:k=5
  ·rw[if_pos c5]at q ⊢;rw[if_pos c5]
   exact aA7 (decide_eq_true c5) (aA1 (by rw[hd,hm,hm2];rfl) (aA1 (aJ4 q rfl) (aA1 (aJ5 q rfl) rfl)))
  rw[if_neg c5]at q ⊢;rw[if_neg c5]
  refine aAb (decide_eq_false c5) ?_
  by_cases c6:k=6
  ·rw[if_pos c6]at q ⊢;rw[if_pos c6]
   exact aA7 (decide_eq_true c6) (aA1 hd (aA1 (aJ4 q rfl) (aA1 (aJ5 q rfl) rfl)))
  rw[if_neg c6]at q ⊢;rw[if_neg c6]
  exact aAb (decide_eq_false c6) (aA1 hd (aA1 (aJ4 q rfl) (aA1 (aJ5 q rfl) rfl)))
 ·cases h
theorem bUi:aA8 Tryz.prog bQy:=aA9 (by simp[aEa,aWq,bDd,aWm,aWl,aWo,aOs])
theorem bHy:aAw Tryz.prog 17 (sg [aAq,pOp] [aBk,rI]) aNj:=aA5 bUi aAd Tryz.func17 (by kernel_rfl) fun cs outs hk h=>by
 unfold aNj at h
 split at h
 ·simp only[Option.some.injEq,Prod.mk.injEq]at h
  obtain⟨hr,rfl⟩:=h
  rename_i ns es os ss r x k n o t
  obtain⟨hd,hm,hm2,ht⟩:=aVu.1 hr
  have q0:=(DkB.of (r:=r) (x:=x) hd).mono (Nat.le_refl _) (show 16777216≤20000000 by omega)
  have m1:=(aCa.1 hm).2
  have m2:=(aCa.1 hm2).2
  have q:=bOb q0 k (n:=n) (o:=o) (t:=t) (by omega)
  rw[aAi,bLm]
  unfold bK8
  unfold bIw at q ⊢
  by_cases c1:k=1
  ·rw[if_pos c1]at q ⊢;rw[if_pos c1]
   exact aA7 (decide_eq_true c1) (aA1 (by rw[hd,hm];rfl) (aA1 (aJ4 q rfl) (aA1 (aJ5 q rfl) rfl)))
  rw[if_neg c1]at q ⊢;rw[if_neg c1]
  refine aAb (decide_eq_false c1) ?_
  by_cases c2:k=2
  ·rw[if_pos c2]at q ⊢;rw[if_pos c2]
   exact aA7 (decide_eq_true c2) (aA1 (by rw[hd,hm];rfl) (aA1 (aJ4 q rfl) (aA1 (aJ5 q rfl) rfl)))
  rw[if_neg c2]at q ⊢;rw[if_neg c2]
  refine aAb (decide_eq_false c2) ?_
  by_cases c3:k=3
  ·rw[if_pos c3]at q ⊢;rw[if_pos c3]
   exact aA7 (decide_eq_true c3) (aA1 (by rw[hd,decide_eq_true ht];rfl) (aA1 (aJ4 q rfl) (aA1 (aJ5 q rfl) rfl)))
  rw[if_neg c3]at q ⊢;rw[if_neg c3]
  refine aAb (decide_eq_false c3) ?_
  by_cases c4:k=4
  ·rw[if_pos c4]at q ⊢;rw[if_pos c4]
   exact aA7 (decide_eq_true c4) (aA1 hd (aA1 (aJ4 q rfl) (aA1 (aJ5 q rfl) rfl)))
  rw[if_neg c4]at q ⊢;rw[if_neg c4]
  refine aAb (decide_eq_false c4) ?_
  by_cases c5:k=5
  ·rw[if_pos c5]at q ⊢;rw[if_pos c5]
   exact aA7 (decide_eq_true c5) (aA1 (by rw[hd,hm,hm2];rfl) (aA1 (aJ4 q rfl) (aA1 (aJ5 q rfl) rfl)))
  rw[if_neg c5]at q ⊢;rw[if_neg c5]
  refine aAb (decide_eq_false c5) ?_
  by_cases c6:k=6
  ·rw[if_pos c6]at q ⊢;rw[if_pos c6]
   exact aA7 (decide_eq_true c6) (aA1 hd (aA1 (aJ4 q rfl) (aA1 (aJ5 q rfl) rfl)))
  rw[if_neg c6]at q ⊢;rw[if_neg c6]
  exact aAb (decide_eq_false c6) (aA1 hd (aA1 (aJ4 q rfl) (aA1 (aJ5 q rfl) rfl)))
 ·cases h
noncomputable section
def aLz (n o t:Nat) (left:Int):Int:=aF5 [n,o,t] left
def aVc:Spec:=fun cs=>match cs with
 |[.int .i64 _,.str n,.str o,.str t,.int .i64 left]=>some (decide (0≤left)&&decide (left≤1048576)&&(decide (n.length≤281474976710656)&&(decide (o.length≤281474976710656)&&decide (t.length≤281474976710656))),[.int .i64 (aLz n.length o.length t.length left)])
 |_=>none
def aV5:Spec:=fun cs=>match cs with
 |[.int .i64 k,.str n,.str o,.str t]=>some (true,[.int .i64 k,.str n,.str o,.str t])
 |_=>none
def bN7:Env:=mkE [] []
def bN6:Env:=mkE [] []
end
theorem bGp (H:List Pt→Nat→St→T (List C)) (k:Int) (n:List UInt8) (o:List UInt8) (t:List UInt8) (left:Int):(aAo bN7 aAe (sg [pOp,pI] [rI]) Tryz.f14 H [C.int .i64 k,C.str n,C.str o,C.str t,C.int .i64 left]).eval=((.ask (decide (IntKind.i64.wrap (left-(↑n.length:Int))<(0:Int))) (.ret [C.int .i64 (-1)]) (.ask (decide (IntKind.i64.wrap (IntKind.i64.wrap (left-(↑n.length:Int))-(↑o.length:Int))<(0:Int))) (.ret [C.int .i64 (-1)]) (.ask (decide (IntKind.i64.wrap (IntKind.i64.wrap (IntKind.i64.wrap (left-(↑n.length:Int))-(↑o.length:Int))-(↑t.length:Int))<(0:Int))) (.ret [C.int .i64 (-1)]) (.ret [C.int .i64 (IntKind.i64.wrap (IntKind.i64.wrap (IntKind.i64.wrap (left-(↑n.length:Int))-(↑o.length:Int))-(↑t.length:Int)))])))):T (List C)).eval:=aAg (by kernel_rfl)
theorem bGj (H:List Pt→Nat→St→T (List C)) (k:Int) (n:List UInt8) (o:List UInt8) (t:List UInt8):(aAo bN6 aAe (sg [pOp] [rOp]) Tryz.f16 H [C.int .i64 k,C.str n,C.str o,C.str t]).eval=((.ret [C.int .i64 k,C.str n,C.str o,C.str t]):T (List C)).eval:=aAg (by kernel_rfl)
theorem bRc:aA8 Tryz.prog bN7:=aA9 (by simp[])
theorem bBz:aAw Tryz.prog 14 (sg [pOp,pI] [rI]) aVc:=aA5 bRc aAd Tryz.func14 (by kernel_rfl) fun cs outs hk h=>by
 unfold aVc at h
 split at h
 ·simp only[Option.some.injEq,Prod.mk.injEq,Bool.and_eq_true,decide_eq_true_eq]at h
  obtain⟨⟨⟨h1,h2⟩,h3,h4,h5⟩,rfl⟩:=h
  rename_i k n o t left
  rw[aAi,bGp]
  have w:IntKind.i64.wrap (left-(n.length:Int))=left-n.length:=by rw[aAm]<;>omega
  rw[w]
  show _=some [C.int .i64 (if left-(n.length:Int)<0 then -1 else if left-(n.length:Int)-(o.length:Int)<0 then -1 else if left-(n.length:Int)-(o.length:Int)-(t.length:Int)<0 then -1 else left-(n.length:Int)-(o.length:Int)-(t.length:Int))]
  by_cases c1:left-(n.length:Int)<0
  ·rw[if_pos c1];exact aA7 (decide_eq_true c1) rfl
  have w2:IntKind.i64.wrap (left-(n.length:Int)-(o.length:Int))=left-n.length-o.length:=by rw[aAm]<;>omega
  rw[if_neg c1,w2]
  refine aAb (decide_eq_false c1) ?_
  by_cases c2:left-(n.length:Int)-(o.length:Int)<0
  ·rw[if_pos c2];exact aA7 (decide_eq_true c2) rfl
  have w3:IntKind.i64.wrap (left-(n.length:Int)-(o.length:Int)-(t.length:Int))=left-n.length-o.length-t.length:=by rw[aAm]<;>omega
  rw[if_neg c2,w3]
  refine aAb (decide_eq_false c2) ?_
  by_cases c3:left-(n.length:Int)-(o.length:Int)-(t.length:Int)<0
  ·rw[if_pos c3];exact aA7 (decide_eq_true c3) rfl
  ·rw[if_neg c3];exact aAb (decide_eq_false c3) rfl
 ·cases h
theorem bRb:aA8 Tryz.prog bN6:=aA9 (by simp[])
theorem bBt:aAw Tryz.prog 16 (sg [pOp] [rOp]) aV5:=aA5 bRb aAd Tryz.func16 (by kernel_rfl) fun cs outs hk h=>by
 unfold aV5 at h
 split at h
 ·simp only[Option.some.injEq,Prod.mk.injEq,true_and]at h
  subst h
  rw[aAi,bGj]
  rfl
 ·cases h
theorem bJt (ns:List Nd) (es os:List En) (ss:List (List UInt8)) (left:Int) (h:0≤left):aHt ns es os ss left≤left:=by
 have step:∀ (l:List Nat) (v:Int),v≤left→aGt l v≤left:=fun l v hv=>by
  unfold aGt
  split
  ·omega
  ·rcases aGl l v with h | h<;>omega
 have a:aBh (ns.map fun x=>x.text.length) left≤left:=by rcases aGl (ns.map fun x=>x.text.length) left with h | h<;>omega
 exact step _ _ (step _ _ (step _ _ a))
theorem DkB.small {ns es os ss:List (List C)} (r x:Int) (hl:aNq ns es os ss=true) (h:¬aHt (nds ns) (ens es) (ens os) (aCt ss) 1048576<0):DkB 1048576 1048576 ⟨ns,es,os,ss,r,x⟩:=by
 obtain⟨_,q2,_,_,_⟩:=aTt hl h
 obtain⟨k1,k2,k3,k4⟩:=aDk.1 q2
 obtain⟨l1,l2,l3,l4,a5,a6,a7,a8,_⟩:=aO8 _ _ _ _ h
 exact⟨⟨nds ns,aEh k1,l1,a5⟩,⟨ens es,aCn k2,l2,a6⟩,⟨ens os,aCn k3,l3,a7⟩,⟨aCt ss,aE6 k4,l4,a8⟩⟩
noncomputable section
def aJn (d:Dk):List Opx→Dk×Int
 |[]=>(d,0)
 |x::l=>if bK8 d x.kind x.name x.to x.text=0 then aJn (bIw d x.kind x.name x.to x.text) l else (bIw d x.kind x.name x.to x.text,bK8 d x.kind x.name x.to x.text)
def aGd (l:List Opx):Nat:=(l.map fun x=>x.text.length).sum
def bQb (ns es os ss rows:List (List C)):Bool:=aBn ns es os ss&&(decide (ns.length≤1048576)&&decide (es.length≤1048576)&&decide (os.length≤1048576)&&decide (ss.length≤1048576)) &&
 ((nds ns).all fun x=>decide (x.text.length≤1048576))&&((ens es).all fun x=>decide (x.name.length≤1048576))&&((ens os).all fun x=>decide (x.name.length≤1048576))&&((aCt ss).all fun x=>decide (x.length≤1048576)) &&
 (aAa kOp rows&&decide (rows.length≤1048576))&&((ops rows).all fun x=>decide (x.name.length≤1048576)&&decide (x.to.length≤1048576))&&decide (aGd (ops rows)≤1048576)
def bJn (n:Int) (rows:List (List C)):List Opx:=(ops rows).take (aBs n 0 rows.length).toNat
def aLi (ns es os ss:List (List C)) (r x:Int) (rows:List (List C)) (n:Int):Dk:=(aJn ⟨ns,es,os,ss,r,x⟩ (bJn n rows)).1
def aQk (ns es os ss:List (List C)) (r x:Int) (rows:List (List C)) (n:Int):Int:=(aJn ⟨ns,es,os,ss,r,x⟩ (bJn n rows)).2
def aKf:Spec:=fun cs=>match cs with
 |[.sl ns,.sl es,.sl os,.sl ss,.int .i64 r,.int .i64 x,.sl rows,.int .i64 n]=>some (bQb ns es os ss rows,bNl (aLi ns es os ss r x rows n)++[.int .i64 (aQk ns es os ss r x rows n)])
 |_=>none
abbrev bW6 (ns es os ss:List (List C)) (r x:Int):Blk:=.box [.ref 2 0 ns.length,.ref 3 0 es.length,.ref 4 0 os.length,.ref 5 0 ss.length,.i .i64 r,.i .i64 x]
def aXk (ns es os ss:List (List C)) (r x:Int) (rows:List (List C)) (m i:Int):St:={slots:=[(1,.l (.sl rows)),(2,aB5 m),(3,.l (.ptr 0 0)),(6,.l (.ptr 1 0)),(8,aB5 i)],heap:=[(0,bW6 ns es os ss r x),(1,.box [.nil,.nil,.nil,.nil,.i .i64 0,.i .i64 0]),(2,.arr 3 ns),(3,.arr 2 es),(4,.arr 2 os),(5,.arr 1 ss)],next:=6,pins:=[]}
def aXl (ns es os ss:List (List C)) (r x:Int) (l:List (List C)) (m i:Int):St:={slots:=[(6,.l (.ptr 0 0)),(8,.l (.ptr 1 0)),(20,.l (.sl l)),(21,aB5 m),(22,aB5 i)],heap:=[(0,.box [.nil,.nil,.nil,.nil,.i .i64 0,.i .i64 0]),(1,bW6 ns es os ss r x),(2,.arr 3 ns),(3,.arr 2 es),(4,.arr 2 os),(5,.arr 1 ss)],next:=6,pins:=[]}
def aXo:Env:=mkE [(4,[1,2,3,6,8])] [(63,(sg [pI,pI,pI] [rI]),aF3),(32,(sg [aAq] [aBk]),aCj),(15,(sg [aAq,pOp] [aBk,rI]),aNj)]
def aXq:Env:=mkE [(3,[6,8,20,21,22])] [(64,(sg [pI,pI,pI] [rI]),aF3),(41,(sg [aAq] [aBk]),aCj),(17,(sg [aAq,pOp] [aBk,rI]),aNj)]
end
theorem bGz (H:List Pt→Nat→St→T (List C)) (ns:List (List C)) (es:List (List C)) (os:List (List C)) (ss:List (List C)) (r:Int) (x:Int) (rows:List (List C)) (n:Int):(aAo aXo aAe (sg [aAq,pSl 42,pI] [aBk,rI]) Tryz.f19 H [C.sl ns,C.sl es,C.sl os,C.sl ss,C.int .i64 r,C.int .i64 x,C.sl rows,C.int .i64 n]).eval=((.must (aCx ns es os ss) (.must ((true&&ns.all fun row=>decide (row.length=3))&&((true&&es.all fun row=>decide (row.length=2))&&((true&&os.all fun row=>decide (row.length=2))&&((true&&ss.all fun row=>decide (row.length=1))&&(decide (0<1)&&true&&(decide (0<1)&&true&&true)))))&&true&&true) (H [Pt.r,Pt.r,Pt.r,Pt.l,Pt.r,Pt.b] 9223372036854775808 (aXk (ns) (es) (os) (ss) (r) (x) (rows) (aBs n 0 (↑rows.length:Int)) ((0:Int)))))):T (List C)).eval:=aAg (by kernel_rfl)
theorem bHz (H:List Pt→Nat→St→T (List C)) (ns:List (List C)) (es:List (List C)) (os:List (List C)) (ss:List (List C)) (r:Int) (x:Int) (rows:List (List C)) (n:Int):(aAo aXq aAe (sg [aAq,pSl 42,pI] [aBk,rI]) Tryz.f21 H [C.sl ns,C.sl es,C.sl os,C.sl ss,C.int .i64 r,C.int .i64 x,C.sl rows,C.int .i64 n]).eval=((.must (aCx ns es os ss) (.must ((true&&ns.all fun row=>decide (row.length=3))&&((true&&es.all fun row=>decide (row.length=2))&&((true&&os.all fun row=>decide (row.length=2))&&((true&&ss.all fun row=>decide (row.length=1))&&(decide (0<1)&&true&&(decide (0<1)&&true&&true)))))&&true&&true) (.must (rows.all fun r=>decide (r.length=4)) (.must (decide ((0:Int)≤aBs n 0 (↑rows.length:Int))&&decide (aBs n 0 (↑rows.length:Int)≤(↑rows.length:Int))) (H [Pt.r,Pt.r,Pt.l,Pt.r,Pt.b] 9223372036854775808 (aXl (ns) (es) (os) (ss) (r) (x) (List.take (aBs n 0 (↑rows.length:Int)).toNat rows) ((↑(List.take (aBs n 0 (↑rows.length:Int)).toNat rows).length:Int)) ((0:Int)))))))):T (List C)).eval:=aAg (by kernel_rfl)
theorem aYm (H:List Pt→Nat→St→T (List C)) (ns:List (List C)) (es:List (List C)) (os:List (List C)) (ss:List (List C)) (r:Int) (x:Int) (rows:List (List C)) (m2:Int) (i:Int) (k:Nat):(aBc aXo aAe (sg [aAq,pSl 42,pI] [aBk,rI]) Tryz.f19 H [Pt.r,Pt.r,Pt.r,Pt.l,Pt.r,Pt.b] k (aXk ns es os ss r x rows m2 i)).eval=(let d1:Dk:=(bIw {ns:=List.take ns.length ns,es:=List.take es.length es,os:=List.take os.length os,ss:=List.take ss.length ss,r:=r,x:=x} ((rows.getD i.toNat []).getD 0 (C.fn 0 [])).toInt ((rows.getD i.toNat []).getD (0+1) (C.fn 0 [])).toStr ((rows.getD i.toNat []).getD (0+1+1) (C.fn 0 [])).toStr ((rows.getD i.toNat []).getD (0+1+1+1) (C.fn 0 [])).toStr);let z1:Int:=(bK8 {ns:=List.take ns.length ns,es:=List.take es.length es,os:=List.take os.length os,ss:=List.take ss.length ss,r:=r,x:=x} ((rows.getD i.toNat []).getD 0 (C.fn 0 [])).toInt ((rows.getD i.toNat []).getD (0+1) (C.fn 0 [])).toStr ((rows.getD i.toNat []).getD (0+1+1) (C.fn 0 [])).toStr ((rows.getD i.toNat []).getD (0+1+1+1) (C.fn 0 [])).toStr);(.ask (decide (i<m2)) (.must (decide ((0:Int)≤i)&&decide (i<(↑rows.length:Int))&&decide ((rows.getD i.toNat []).length=4)) (.must (decide (0<(rows.getD i.toNat []).length)&&C.is (K.int .i64) ((rows.getD i.toNat []).getD 0 (C.fn 0 []))&&(decide (0+1<(rows.getD i.toNat []).length)&&C.is K.str ((rows.getD i.toNat []).getD (0+1) (C.fn 0 []))&&(decide (0+1+1<(rows.getD i.toNat []).length)&&C.is K.str ((rows.getD i.toNat []).getD (0+1+1) (C.fn 0 []))&&(decide (0+1+1+1<(rows.getD i.toNat []).length)&&C.is K.str ((rows.getD i.toNat []).getD (0+1+1+1) (C.fn 0 []))&&true)))) (.must (bRr (List.take ns.length ns) (List.take es.length es) (List.take os.length os) (List.take ss.length ss) ((rows.getD i.toNat []).getD (0+1) (C.fn 0 [])).toStr ((rows.getD i.toNat []).getD (0+1+1) (C.fn 0 [])).toStr ((rows.getD i.toNat []).getD (0+1+1+1) (C.fn 0 [])).toStr) (.must ((true&&d1.ns.all fun row=>decide (row.length=3))&&((true&&d1.es.all fun row=>decide (row.length=2))&&((true&&d1.os.all fun row=>decide (row.length=2))&&((true&&d1.ss.all fun row=>decide (row.length=1))&&(decide (0<1)&&true&&(decide (0<1)&&true&&true)))))&&(decide (0<1)&&true&&true&&true)&&true) (.ask (z1 != (0:Int)) (.must (decide (d1.ns.length=d1.ns.length)&&(false||d1.ns.all fun r=>r.all C.flat)&&(decide (d1.es.length=d1.es.length)&&(false||d1.es.all fun r=>r.all C.flat)&&(decide (d1.os.length=d1.os.length)&&(false||d1.os.all fun r=>r.all C.flat)&&(decide (d1.ss.length=d1.ss.length)&&(false||d1.ss.all fun r=>r.all C.flat)&&(true&&(false||true)&&(true&&(false||true)&&true)))))&&(true&&(false||true)&&true&&true)&&true) (.ret [C.sl d1.ns,C.sl d1.es,C.sl d1.os,C.sl d1.ss,C.int .i64 d1.r,C.int .i64 d1.x,C.int .i64 z1])) (H [Pt.r,Pt.r,Pt.r,Pt.l,Pt.r,Pt.b] k (aXk (d1.ns) (d1.es) (d1.os) (d1.ss) (d1.r) (d1.x) (rows) (m2) (IntKind.i64.wrap (i+(1:Int)))))))))) (.must (decide (ns.length=ns.length)&&(false||ns.all fun r=>r.all C.flat)&&(decide (es.length=es.length)&&(false||es.all fun r=>r.all C.flat)&&(decide (os.length=os.length)&&(false||os.all fun r=>r.all C.flat)&&(decide (ss.length=ss.length)&&(false||ss.all fun r=>r.all C.flat)&&(true&&(false||true)&&(true&&(false||true)&&true)))))&&(true&&(false||true)&&true&&true)&&true) (.ret [C.sl ns,C.sl es,C.sl os,C.sl ss,C.int .i64 r,C.int .i64 x,C.int .i64 0]))):T (List C)).eval:=aAg (by kernel_rfl)
theorem bA8 (H:List Pt→Nat→St→T (List C)) (ns:List (List C)) (es:List (List C)) (os:List (List C)) (ss:List (List C)) (r:Int) (x:Int) (l:List (List C)) (m2:Int) (i:Int) (k:Nat):(aBc aXq aAe (sg [aAq,pSl 42,pI] [aBk,rI]) Tryz.f21 H [Pt.r,Pt.r,Pt.l,Pt.r,Pt.b] k (aXl ns es os ss r x l m2 i)).eval=(let d1:Dk:=(bIw {ns:=List.take ns.length ns,es:=List.take es.length es,os:=List.take os.length os,ss:=List.take ss.length ss,r:=r,x:=x} ((l.getD i.toNat []).getD 0 (C.fn 0 [])).toInt ((l.getD i.toNat []).getD (0+1) (C.fn 0 [])).toStr ((l.getD i.toNat []).getD (0+1+1) (C.fn 0 [])).toStr ((l.getD i.toNat []).getD (0+1+1+1) (C.fn 0 [])).toStr);let z1:Int:=(bK8 {ns:=List.take ns.length ns,es:=List.take es.length es,os:=List.take os.length os,ss:=List.take ss.length ss,r:=r,x:=x} ((l.getD i.toNat []).getD 0 (C.fn 0 [])).toInt ((l.getD i.toNat []).getD (0+1) (C.fn 0 [])).toStr ((l.getD i.toNat []).getD (0+1+1) (C.fn 0 [])).toStr ((l.getD i.toNat []).getD (0+1+1+1) (C.fn 0 [])).toStr);(.ask (decide (i<m2)) (.must (decide ((0:Int)≤i)&&decide (i<(↑l.length:Int))&&decide ((l.getD i.toNat []).length=4)) (.must (decide (0<(l.getD i.toNat []).length)&&C.is (K.int .i64) ((l.getD i.toNat []).getD 0 (C.fn 0 []))&&(decide (0+1<(l.getD i.toNat []).length)&&C.is K.str ((l.getD i.toNat []).getD (0+1) (C.fn 0 []))&&(decide (0+1+1<(l.getD i.toNat []).length)&&C.is K.str ((l.getD i.toNat []).getD (0+1+1) (C.fn 0 []))&&(decide (0+1+1+1<(l.getD i.toNat []).length)&&C.is K.str ((l.getD i.toNat []).getD (0+1+1+1) (C.fn 0 []))&&true)))) (.must (bRr (List.take ns.length ns) (List.take es.length es) (List.take os.length os) (List.take ss.length ss) ((l.getD i.toNat []).getD (0+1) (C.fn 0 [])).toStr ((l.getD i.toNat []).getD (0+1+1) (C.fn 0 [])).toStr ((l.getD i.toNat []).getD (0+1+1+1) (C.fn 0 [])).toStr) (.must ((true&&d1.ns.all fun row=>decide (row.length=3))&&((true&&d1.es.all fun row=>decide (row.length=2))&&((true&&d1.os.all fun row=>decide (row.length=2))&&((true&&d1.ss.all fun row=>decide (row.length=1))&&(decide (0<1)&&true&&(decide (0<1)&&true&&true)))))&&(decide (0<1)&&true&&true&&true)&&true) (.ask (z1 != (0:Int)) (.must (decide (d1.ns.length=d1.ns.length)&&(false||d1.ns.all fun r=>r.all C.flat)&&(decide (d1.es.length=d1.es.length)&&(false||d1.es.all fun r=>r.all C.flat)&&(decide (d1.os.length=d1.os.length)&&(false||d1.os.all fun r=>r.all C.flat)&&(decide (d1.ss.length=d1.ss.length)&&(false||d1.ss.all fun r=>r.all C.flat)&&(true&&(false||true)&&(true&&(false||true)&&true)))))&&(true&&(false||true)&&true&&true)&&true) (.ret [C.sl d1.ns,C.sl d1.es,C.sl d1.os,C.sl d1.ss,C.int .i64 d1.r,C.int .i64 d1.x,C.int .i64 z1])) (H [Pt.r,Pt.r,Pt.l,Pt.r,Pt.b] k (aXl (d1.ns) (d1.es) (d1.os) (d1.ss) (d1.r) (d1.x) (l) (m2) (IntKind.i64.wrap (i+(1:Int)))))))))) (.must (decide (ns.length=ns.length)&&(false||ns.all fun r=>r.all C.flat)&&(decide (es.length=es.length)&&(false||es.all fun r=>r.all C.flat)&&(decide (os.length=os.length)&&(false||os.all fun r=>r.all C.flat)&&(decide (ss.length=ss.length)&&(false||ss.all fun r=>r.all C.flat)&&(true&&(false||true)&&(true&&(false||true)&&true)))))&&(true&&(false||true)&&true&&true)&&true) (.ret [C.sl ns,C.sl es,C.sl os,C.sl ss,C.int .i64 r,C.int .i64 x,C.int .i64 0]))):T (List C)).eval:=aAg (by kernel_rfl)
theorem bRq {a b:Nat} {d:Dk} (h:DkB a b d) (ha:2*a<16777216) (hb:b≤16777216) {n o t:List UInt8} (hn:n.length≤2000000) (ho:o.length≤2000000) (ht:t.length≤16777216):bRr d.ns d.es d.os d.ss n o t=true:=by
 obtain⟨_,_,l3,l4⟩:=h.lens
 exact aVu.2 ⟨h.dis (by omega) hb,aCa.2 ⟨by omega,hn⟩,aCa.2 ⟨by omega,ho⟩,ht⟩
theorem bHc (l:List Opx) (i:Nat) (hi:i<l.length):aGd (l.take (i+1))=aGd (l.take i)+(l.getD i ⟨0,[],[],[]⟩).text.length:=by
 unfold aGd
 rw[List.take_add_one,List.getD_eq_getElem?_getD,List.getElem?_eq_getElem hi,List.map_append,List.sum_append]
 simp only[Option.toList_some,List.map_cons,List.map_nil,List.sum_cons,List.sum_nil,Option.getD_some,Nat.add_zero]
theorem aNm (l:List Opx) (i:Nat):aGd (l.take i)≤aGd l:=by
 unfold aGd
 have:=List.take_append_drop i l
 conv=>rhs;rw[←this]
 rw[List.map_append,List.sum_append];omega
theorem bVq (l:List Opx) {x:Opx} (hx:x∈l):x.text.length≤aGd l:=by
 unfold aGd
 induction l with
 |nil=>cases hx
 |cons y l ih =>
  simp only[List.map_cons,List.sum_cons]
  rcases List.mem_cons.1 hx with rfl | hx
  ·omega
  ·have:=ih hx;omega
theorem aQj (d:Dk) (l:List Opx) (i:Nat) (hi:i<l.length):aJn d (l.drop i)=if bK8 d (l.getD i ⟨0,[],[],[]⟩).kind (l.getD i ⟨0,[],[],[]⟩).name (l.getD i ⟨0,[],[],[]⟩).to (l.getD i ⟨0,[],[],[]⟩).text=0 then aJn (bIw d (l.getD i ⟨0,[],[],[]⟩).kind (l.getD i ⟨0,[],[],[]⟩).name (l.getD i ⟨0,[],[],[]⟩).to (l.getD i ⟨0,[],[],[]⟩).text) (l.drop (i+1))else (bIw d (l.getD i ⟨0,[],[],[]⟩).kind (l.getD i ⟨0,[],[],[]⟩).name (l.getD i ⟨0,[],[],[]⟩).to (l.getD i ⟨0,[],[],[]⟩).text,bK8 d (l.getD i ⟨0,[],[],[]⟩).kind (l.getD i ⟨0,[],[],[]⟩).name (l.getD i ⟨0,[],[],[]⟩).to (l.getD i ⟨0,[],[],[]⟩).text):=by
 rw[List.drop_eq_getElem_cons hi,List.getD_eq_getElem?_getD,List.getElem?_eq_getElem hi]
 rfl
structure aS2 (l:List Opx):Prop where
 len:l.length≤1048576
 name:∀ x∈l,x.name.length≤1048576∧x.to.length≤1048576
 sum:aGd l≤1048576
theorem aS2.take {l:List Opx} (h:aS2 l) (m:Nat):aS2 (l.take m):=⟨by rw[List.length_take];have:=h.len;omega,fun x hx=>h.name x (List.mem_of_mem_take hx),Nat.le_trans (aNm l m) h.sum⟩
theorem bF8 (x:Opx):(decide (0<(eOp x).length)&&C.is (.int .i64) ((eOp x).getD 0 (.fn 0 []))&&(decide (0+1<(eOp x).length)&&C.is .str ((eOp x).getD (0+1) (.fn 0 []))&&(decide (0+1+1<(eOp x).length)&&C.is .str ((eOp x).getD (0+1+1) (.fn 0 []))&&(decide (0+1+1+1<(eOp x).length)&&C.is .str ((eOp x).getD (0+1+1+1) (.fn 0 []))&&true))))=true:=rfl
theorem aZc {l:List Opx} (f:aS2 l) {i:Nat} (hi:i<l.length) {d:Dk} (h:DkB (1048576+i) (4194304+aGd (l.take i)) d) :
  bRr d.ns d.es d.os d.ss (l.getD i ⟨0,[],[],[]⟩).name (l.getD i ⟨0,[],[],[]⟩).to (l.getD i ⟨0,[],[],[]⟩).text=true ∧
  DkB (1048576+(i+1)) (4194304+aGd (l.take (i+1))) (bIw d (l.getD i ⟨0,[],[],[]⟩).kind (l.getD i ⟨0,[],[],[]⟩).name (l.getD i ⟨0,[],[],[]⟩).to (l.getD i ⟨0,[],[],[]⟩).text):=by
 have hx:=aFi (d:=⟨0,[],[],[]⟩) hi
 obtain⟨n1,n2⟩:=f.name _ hx
 have t1:=bVq l hx
 have s1:=aNm l i
 have s2:=f.sum
 have s3:=f.len
 have st:=bHc l i hi
 have q:=bOb h (l.getD i ⟨0,[],[],[]⟩).kind (n:=(l.getD i ⟨0,[],[],[]⟩).name) (o:=(l.getD i ⟨0,[],[],[]⟩).to) (t:=(l.getD i ⟨0,[],[],[]⟩).text) (by omega)
 refine⟨bRq h (by omega) (by omega) (by omega) (by omega) (by omega),?_⟩
 rw[st,←Nat.add_assoc,←Nat.add_assoc]
 exact q
theorem bH0 (l:List Opx) (f:aS2 l) (rest:List Opx) (hr:(l++rest).length≤16777216):∀ (N i:Nat) (d:Dk),i≤l.length→l.length<i+N→DkB (1048576+i) (4194304+aGd (l.take i)) d →
  (aBd aXo aAe (sg [aAq,pSl 42,pI] [aBk,rI]) Tryz.f19 [.r,.r,.r,.l,.r,.b] N (aXk d.ns d.es d.os d.ss d.r d.x ((l++rest).map eOp) l.length i)).eval=some (bNl (aJn d (l.drop i)).1++[.int .i64 (aJn d (l.drop i)).2]):=by
 intro N
 induction N with
 |zero=>intro i d h1 h2;omega
 |succ N ih =>
  intro i d h1 h2 hd
  rw[aAx _ _ _ _ _ _ _ (by kernel_rfl),aYm]
  by_cases hi:i<l.length
  ·have hi2:i<(l++rest).length:=by rw[List.length_append];omega
   have g:=aAn eOp (l++rest) ⟨0,[],[],[]⟩ i hi2
   have g2:(l++rest).getD i ⟨0,[],[],[]⟩=l.getD i ⟨0,[],[],[]⟩:=by rw[List.getD_eq_getElem?_getD,List.getElem?_append_left hi,←List.getD_eq_getElem?_getD]
   rw[g2]at g
   have w2:IntKind.i64.wrap ((i:Int)+1)=((i+1:Nat):Int):=by rw[aAm]<;>omega
   obtain⟨hB,q⟩:=aZc f hi hd
   have rd:=aQj d l i hi
   rw[List.take_length,List.take_length,List.take_length,List.take_length,List.length_map,Int.toNat_natCast,g,w2]
   refine aA7 (decide_eq_true (by omega)) (aA1 (at2 _ _ hi2 _ _ rfl) (aA1 (bF8 _) (aA1 hB (aA1 (aJ4 q rfl) ?_))))
   rw[rd]
   by_cases hc:bK8 d (l.getD i ⟨0,[],[],[]⟩).kind (l.getD i ⟨0,[],[],[]⟩).name (l.getD i ⟨0,[],[],[]⟩).to (l.getD i ⟨0,[],[],[]⟩).text=0
   ·rw[if_pos hc]
    refine aAb (bne_eq_false_iff_eq.2 hc) ?_
    exact ih (i+1) _ (by omega) (by omega) q
   ·rw[if_neg hc]
    exact aA7 (bne_iff_ne.2 hc) (aA1 (aJ5 q rfl) rfl)
  ·have e:i=l.length:=by omega
   subst e
   rw[List.drop_length]
   exact aAb (decide_eq_false (by omega)) (aA1 (aJ5 hd rfl) rfl)
theorem bI0 (l:List Opx) (f:aS2 l):∀ (N i:Nat) (d:Dk),i≤l.length→l.length<i+N→DkB (1048576+i) (4194304+aGd (l.take i)) d →
  (aBd aXq aAe (sg [aAq,pSl 42,pI] [aBk,rI]) Tryz.f21 [.r,.r,.l,.r,.b] N (aXl d.ns d.es d.os d.ss d.r d.x (l.map eOp) l.length i)).eval=some (bNl (aJn d (l.drop i)).1++[.int .i64 (aJn d (l.drop i)).2]):=by
 intro N
 induction N with
 |zero=>intro i d h1 h2;omega
 |succ N ih =>
  intro i d h1 h2 hd
  have hlen:=f.len
  rw[aAx _ _ _ _ _ _ _ (by kernel_rfl),bA8]
  by_cases hi:i<l.length
  ·have g:=aAn eOp l ⟨0,[],[],[]⟩ i hi
   have w2:IntKind.i64.wrap ((i:Int)+1)=((i+1:Nat):Int):=by rw[aAm]<;>omega
   obtain⟨hB,q⟩:=aZc f hi hd
   have rd:=aQj d l i hi
   rw[List.take_length,List.take_length,List.take_length,List.take_length,List.length_map,Int.toNat_natCast,g,w2]
   refine aA7 (decide_eq_true (by omega)) (aA1 (at2 _ _ hi _ _ rfl) (aA1 (bF8 _) (aA1 hB (aA1 (aJ4 q rfl) ?_))))
   rw[rd]
   by_cases hc:bK8 d (l.getD i ⟨0,[],[],[]⟩).kind (l.getD i ⟨0,[],[],[]⟩).name (l.getD i ⟨0,[],[],[]⟩).to (l.getD i ⟨0,[],[],[]⟩).text=0
   ·rw[if_pos hc]
    refine aAb (bne_eq_false_iff_eq.2 hc) ?_
    exact ih (i+1) _ (by omega) (by omega) q
   ·rw[if_neg hc]
    exact aA7 (bne_iff_ne.2 hc) (aA1 (aJ5 q rfl) rfl)
  ·have e:i=l.length:=by omega
   subst e
   rw[List.drop_length]
   exact aAb (decide_eq_false (by omega)) (aA1 (aJ5 hd rfl) rfl)
theorem bEz {ns es os ss rows:List (List C)} (r x:Int) (h:bQb ns es os ss rows=true):DkB 1048576 1048576 ⟨ns,es,os,ss,r,x⟩∧rows=(ops rows).map eOp∧aS2 (ops rows)∧rows.length≤1048576:=by
 simp only[bQb,Bool.and_eq_true,List.all_eq_true,decide_eq_true_eq]at h
 obtain⟨⟨⟨⟨⟨⟨⟨⟨h1,h2⟩,h3⟩,h4⟩,h5⟩,h6⟩,h7,h8⟩,h9⟩,h10⟩:=h
 obtain⟨⟨⟨l1,l2⟩,l3⟩,l4⟩:=h2
 obtain⟨k1,k2,k3,k4⟩:=aDk.1 h1
 refine⟨⟨⟨nds ns,aEh k1,by rw[bKw];exact l1,h3⟩,⟨ens es,aCn k2,by rw[bE0];exact l2,h4⟩,⟨ens os,aCn k3,by rw[bE0];exact l3,h5⟩,⟨aCt ss,aE6 k4,by rw[bEp];exact l4,h6⟩⟩,aKe h7,⟨by simp[ops];exact h8,h9,h10⟩,h8⟩
theorem bJm (n:Int) (l:List Opx):(((l.take (aBs n 0 l.length).toNat).length:Nat):Int)=aBs n 0 l.length:=by
 obtain⟨b1,b2⟩:=aMo n l.length
 rw[List.length_take];omega
theorem bRn:aA8 Tryz.prog aXo:=aA9 (by simp[aL1,aE5,bGy])
theorem bC7:aAw Tryz.prog 19 (sg [aAq,pSl 42,pI] [aBk,rI]) aKf:=aA5 bRn aAd Tryz.func19 (by kernel_rfl) fun cs outs hk h=>by
 unfold aKf at h
 split at h
 ·simp only[Option.some.injEq,Prod.mk.injEq]at h
  obtain⟨hr,rfl⟩:=h
  rename_i ns es os ss r x rows n
  obtain⟨dk,e,f,len⟩:=bEz r x hr
  have dd:aCx ns es os ss=true:=dk.dis (by omega) (by omega)
  unfold aLi aQk bJn
  generalize ops rows=l at e f
  subst e
  rw[List.length_map]at len ⊢
  rw[aAi,bGz,List.length_map]
  refine aA1 dd (aA1 (aJ4 dk rfl) ?_)
  have tl:=bJm n l
  generalize hm:(aBs n 0 l.length).toNat=m at tl ⊢
  have lp:=bH0 (l.take m) (f.take m) (l.drop m) (by rw[List.take_append_drop];omega) 9223372036854775808 0 ⟨ns,es,os,ss,r,x⟩ (by omega) (by rw[List.length_take];omega) (dk.mono (by omega) (by omega))
  rw[List.take_append_drop,tl]at lp
  exact lp
 ·cases h
theorem bSr:aA8 Tryz.prog aXq:=aA9 (by simp[aT8,aEa,bHy])
theorem bDe:aAw Tryz.prog 21 (sg [aAq,pSl 42,pI] [aBk,rI]) aKf:=aA5 bSr aAd Tryz.func21 (by kernel_rfl) fun cs outs hk h=>by
 unfold aKf at h
 split at h
 ·simp only[Option.some.injEq,Prod.mk.injEq]at h
  obtain⟨hr,rfl⟩:=h
  rename_i ns es os ss r x rows n
  obtain⟨dk,e,f,len⟩:=bEz r x hr
  have dd:aCx ns es os ss=true:=dk.dis (by omega) (by omega)
  unfold aLi aQk bJn
  generalize ops rows=l at e f
  subst e
  obtain⟨b1,b2⟩:=aMo n l.length
  rw[List.length_map]at len ⊢
  rw[aAi,bHz,List.length_map]
  refine aA1 dd (aA1 (aJ4 dk rfl) (aA1 (by simp) (aA1 (by rw[decide_eq_true b1,decide_eq_true b2];rfl) ?_)))
  generalize hm:(aBs n 0 l.length).toNat=m
  have lp:=bI0 (l.take m) (f.take m) 9223372036854775808 0 ⟨ns,es,os,ss,r,x⟩ (by omega) (by rw[List.length_take];omega) (dk.mono (by omega) (by omega))
  rw[←List.map_take,List.length_map]
  exact lp
 ·cases h
noncomputable section
def aNd:List Opx→Int→Int
 |[],left=>left
 |x::r,left=>if aLz x.name.length x.to.length x.text.length left<0 then -1 else aNd r (aLz x.name.length x.to.length x.text.length left)
def bGo (l:List Opx) (left:Int):Int:=if left-l.length<0 then -1 else aNd l (left-l.length)
def aQ4:Spec:=fun cs=>match cs with
 |[.sl rows,.int .i64 left]=>some (decide (0≤left)&&decide (left≤1048576)&&(decide (rows.length≤281474976710656)&&(aAa kOp rows&&aCg rows)),[.int .i64 (bGo (ops rows) left)])
 |_=>none
def aQ0:Spec:=fun cs=>match cs with
 |[.sl rows]=>some (decide (rows.length≤16777216)&&aAa kOp rows,[.sl rows])
 |_=>none
def aP9 (r:List (List C)) (left:Int) (i:Int):St:=st0 [(0,.l (.sl r)),(1,aB5 left),(5,aB5 i)]
def aP8 (r:List (List C)) (n:Nat) (out:List (List C)) (i:Int):St:=st1 [(0,.l (.sl r)),(3,.l (.ref 0 0 n)),(4,aB5 i)] 4 out
def aPk:Env:=mkE [(5,[0,1,5])] [(14,(sg [pOp,pI] [rI]),aVc)]
def aPj:Env:=mkE [(3,[0,3,4])] [(16,(sg [pOp] [rOp]),aV5)]
def bCc:Spec:=fun cs=>match cs with
 |[.sl ns,.sl es,.sl os,.sl ss,.int .i64 _,.int .i64 _,.sl rows,.int .i64 _]=>some (aNq ns es os ss&&(decide (rows.length≤281474976710656)&&(aAa kOp rows&&aCg rows)),[.bool true])
 |_=>none
def bNa:Env:=mkE [] [(7,(sg [aOe,pI] [rI]),aNf),(9,(sg [aOe] [aBk]),aNc),(11,(sg [aAq,aAq] [rB]),aNw),(12,(sg [bKi,pI] [rI]),aR3),(13,(sg [aAq,pI] [rI]),aRd),(22,(sg [pSl 42,pSl 42] [rB]),aRj),(23,(sg [.wr false [(.slice 42,true)],pI] [rI]),aR0),(19,(sg [aAq,pSl 42,pI] [aBk,rI]),aKf),(21,(sg [aAq,pSl 42,pI] [aBk,rI]),aKf),(18,(sg [pSl 38,pI] [rI]),aQ4),(20,(sg [pSl 38] [rSl 42]),aQ0)]
end
theorem bBy (H:List Pt→Nat→St→T (List C)) (r:List (List C)) (n:Int):(aAo aPk aAe (sg [pSl 38,pI] [rI]) Tryz.f18 H [C.sl r,C.int .i64 n]).eval=((.ask (decide (IntKind.i64.wrap (n-(↑r.length:Int))<(0:Int))) (.ret [C.int .i64 (-1)]) (H [Pt.r,Pt.r,Pt.r,Pt.l,Pt.r,Pt.b] 9223372036854775808 (aP9 (r) (IntKind.i64.wrap (n-(↑r.length:Int))) ((0:Int))))):T (List C)).eval:=aAg (by kernel_rfl)
theorem aVb (H:List Pt→Nat→St→T (List C)) (r:List (List C)) (n:Int) (i:Int) (k:Nat):(aBc aPk aAe (sg [pSl 38,pI] [rI]) Tryz.f18 H [Pt.r,Pt.r,Pt.r,Pt.l,Pt.r,Pt.b] k (aP9 r n i)).eval=((.ask (decide (i<(↑r.length:Int))) (.must (decide ((0:Int)≤i)&&decide (i<(↑r.length:Int))&&decide ((r.getD i.toNat []).length=4)) (.must (decide (0<(r.getD i.toNat []).length)&&C.is (K.int .i64) ((r.getD i.toNat []).getD 0 (C.fn 0 []))&&(decide (0+1<(r.getD i.toNat []).length)&&C.is K.str ((r.getD i.toNat []).getD (0+1) (C.fn 0 []))&&(decide (0+1+1<(r.getD i.toNat []).length)&&C.is K.str ((r.getD i.toNat []).getD (0+1+1) (C.fn 0 []))&&(decide (0+1+1+1<(r.getD i.toNat []).length)&&C.is K.str ((r.getD i.toNat []).getD (0+1+1+1) (C.fn 0 []))&&true)))) (.must (decide ((0:Int)≤n)&&decide (n≤(1048576:Int))&&(decide (((r.getD i.toNat []).getD (0+1) (C.fn 0 [])).toStr.length≤281474976710656)&&(decide (((r.getD i.toNat []).getD (0+1+1) (C.fn 0 [])).toStr.length≤281474976710656)&&decide (((r.getD i.toNat []).getD (0+1+1+1) (C.fn 0 [])).toStr.length≤281474976710656)))) (.ask (decide (aLz ((r.getD i.toNat []).getD (0+1) (C.fn 0 [])).toStr.length ((r.getD i.toNat []).getD (0+1+1) (C.fn 0 [])).toStr.length ((r.getD i.toNat []).getD (0+1+1+1) (C.fn 0 [])).toStr.length n<(0:Int))) (.ret [C.int .i64 (-1)]) (H [Pt.r,Pt.r,Pt.r,Pt.l,Pt.r,Pt.b] k (aP9 (r) (aLz ((r.getD i.toNat []).getD (0+1) (C.fn 0 [])).toStr.length ((r.getD i.toNat []).getD (0+1+1) (C.fn 0 [])).toStr.length ((r.getD i.toNat []).getD (0+1+1+1) (C.fn 0 [])).toStr.length n) (IntKind.i64.wrap (i+(1:Int))))))))) (.ret [C.int .i64 n])):T (List C)).eval:=aAg (by kernel_rfl)
theorem bBs (H:List Pt→Nat→St→T (List C)) (r:List (List C)):(aAo aPj aAe (sg [pSl 38] [rSl 42]) Tryz.f20 H [C.sl r]).eval=((.must (decide ((0:Int)≤(↑r.length:Int))&&decide ((↑r.length:Int)≤(↑r.length:Int))&&decide ((↑(56:Nat):Int)*(↑r.length:Int)≤(281474976710656:Int))) (H [Pt.r,Pt.r,Pt.l,Pt.r,Pt.b] 9223372036854775808 (aP8 (r) ((↑r.length:Int).toNat) (List.replicate (↑r.length:Int).toNat [C.int .i64 0,C.str [],C.str [],C.str []]) ((0:Int))))):T (List C)).eval:=aAg (by kernel_rfl)
theorem aV4 (H:List Pt→Nat→St→T (List C)) (r:List (List C)) (n:Nat) (o:List (List C)) (i:Int) (k:Nat):(aBc aPj aAe (sg [pSl 38] [rSl 42]) Tryz.f20 H [Pt.r,Pt.r,Pt.l,Pt.r,Pt.b] k (aP8 r n o i)).eval=((.ask (decide (i<(↑r.length:Int))) (.must (decide ((0:Int)≤i)&&decide (i<(↑r.length:Int))&&decide ((r.getD i.toNat []).length=4)) (.must (decide (0<(r.getD i.toNat []).length)&&C.is (K.int .i64) ((r.getD i.toNat []).getD 0 (C.fn 0 []))&&(decide (0+1<(r.getD i.toNat []).length)&&C.is K.str ((r.getD i.toNat []).getD (0+1) (C.fn 0 []))&&(decide (0+1+1<(r.getD i.toNat []).length)&&C.is K.str ((r.getD i.toNat []).getD (0+1+1) (C.fn 0 []))&&(decide (0+1+1+1<(r.getD i.toNat []).length)&&C.is K.str ((r.getD i.toNat []).getD (0+1+1+1) (C.fn 0 []))&&true)))) (.must (decide ((0:Int)≤i)&&decide (i<(↑n:Int))) (.must (decide (0+i.toNat<o.length)) (H [Pt.r,Pt.r,Pt.l,Pt.r,Pt.b] k (aP8 (r) (n) (o.set (0+i.toNat) (C.int .i64 (C.int .i64 ((r.getD i.toNat []).getD 0 (C.fn 0 [])).toInt).toInt::C.str (C.str ((r.getD i.toNat []).getD (0+1) (C.fn 0 [])).toStr).toStr::C.str (C.str ((r.getD i.toNat []).getD (0+1+1) (C.fn 0 [])).toStr).toStr::C.str (C.str ((r.getD i.toNat []).getD (0+1+1+1) (C.fn 0 [])).toStr).toStr::List.drop (0+(((Nat.add 1 0).succ.add 0).succ.add 0).succ) (o.getD (0+i.toNat) []))) (IntKind.i64.wrap (i+(1:Int))))))))) (.must (decide (n=o.length)&&(false||o.all fun r=>r.all C.flat)&&true&&true&&true) (.ret [C.sl o]))):T (List C)).eval:=aAg (by kernel_rfl)
theorem bHn (H:List Pt→Nat→St→T (List C)) (ns:List (List C)) (es:List (List C)) (os:List (List C)) (ss:List (List C)) (r:Int) (x:Int) (rows:List (List C)) (n:Int):(aAo bNa aAe (sg [aOe,pSl 38,pI] [rB]) Tryz.f5 H [C.sl ns,C.sl es,C.sl os,C.sl ss,C.int .i64 r,C.int .i64 x,C.sl rows,C.int .i64 n]).eval=(let d1:Dk:=(aLi (List.take ns.length ns) (List.take es.length es) (List.take os.length os) (List.take ss.length ss) r x (List.take rows.length rows) n);let z1:Int:=(aQk (List.take ns.length ns) (List.take es.length es) (List.take os.length os) (List.take ss.length ss) r x (List.take rows.length rows) n);(.must (decide ((0:Int)≤(1048576:Int))&&decide ((1048576:Int)≤(1048576:Int))&&(aBp 281474976710656 ns es os ss&&aBn ns es os ss&&aH1 ns es os ss)) (.ask (decide (aHt (nds ns) (ens es) (ens os) (aCt ss) 1048576<(0:Int))) (.ret [C.bool true]) (.must (decide ((0:Int)≤aHt (nds ns) (ens es) (ens os) (aCt ss) 1048576)&&decide (aHt (nds ns) (ens es) (ens os) (aCt ss) 1048576≤(1048576:Int))&&(decide (rows.length≤281474976710656)&&(aAa [K.int .i64,K.str,K.str,K.str] rows&&aCg rows))) (.ask (decide (bGo (ops rows) (aHt (nds ns) (ens es) (ens os) (aCt ss) 1048576)<(0:Int))) (.ret [C.bool true]) (.must (aBp 16777216 ns es os ss&&aBn ns es os ss) (.must ((true&&ns.all fun row=>decide (row.length=3))&&((true&&es.all fun row=>decide (row.length=2))&&((true&&os.all fun row=>decide (row.length=2))&&((true&&ss.all fun row=>decide (row.length=1))&&(decide (0<1)&&true&&(decide (0<1)&&true&&true)))))&&true&&true) (.must (decide (rows.length≤16777216)&&aAa [K.int .i64,K.str,K.str,K.str] rows) (.must ((true&&rows.all fun row=>decide (row.length=4))&&true&&true&&true) (.must (bQb (List.take ns.length ns) (List.take es.length es) (List.take os.length os) (List.take ss.length ss) (List.take rows.length rows)) (.must ((true&&d1.ns.all fun row=>decide (row.length=3))&&((true&&d1.es.all fun row=>decide (row.length=2))&&((true&&d1.os.all fun row=>decide (row.length=2))&&((true&&d1.ss.all fun row=>decide (row.length=1))&&(decide (0<1)&&true&&(decide (0<1)&&true&&true)))))&&(decide (0<1)&&true&&true&&true)&&true) (.must (aBp 16777216 ns es os ss&&aBn ns es os ss) (.must ((true&&ns.all fun row=>decide (row.length=3))&&((true&&es.all fun row=>decide (row.length=2))&&((true&&os.all fun row=>decide (row.length=2))&&((true&&ss.all fun row=>decide (row.length=1))&&(decide (0<1)&&true&&(decide (0<1)&&true&&true)))))&&true&&true) (.must (decide (rows.length≤16777216)&&aAa [K.int .i64,K.str,K.str,K.str] rows) (.must ((true&&rows.all fun row=>decide (row.length=4))&&true&&true&&true) (.must (bQb (List.take ns.length ns) (List.take es.length es) (List.take os.length os) (List.take ss.length ss) (List.take rows.length rows)) (.must ((true&&d1.ns.all fun row=>decide (row.length=3))&&((true&&d1.es.all fun row=>decide (row.length=2))&&((true&&d1.os.all fun row=>decide (row.length=2))&&((true&&d1.ss.all fun row=>decide (row.length=1))&&(decide (0<1)&&true&&(decide (0<1)&&true&&true)))))&&(decide (0<1)&&true&&true&&true)&&true) (.must (aBp 16777216 (List.take d1.ns.length d1.ns) (List.take d1.es.length d1.es) (List.take d1.os.length d1.os) (List.take d1.ss.length d1.ss)&&aBn (List.take d1.ns.length d1.ns) (List.take d1.es.length d1.es) (List.take d1.os.length d1.os) (List.take d1.ss.length d1.ss)&&aBn (List.take d1.ns.length d1.ns) (List.take d1.es.length d1.es) (List.take d1.os.length d1.os) (List.take d1.ss.length d1.ss)) (.ask (bQt (List.take d1.ns.length d1.ns) (List.take d1.es.length d1.es) (List.take d1.os.length d1.os) (List.take d1.ss.length d1.ss) d1.r d1.x (List.take d1.ns.length d1.ns) (List.take d1.es.length d1.es) (List.take d1.os.length d1.os) (List.take d1.ss.length d1.ss) d1.r d1.x) (.ask (z1 != z1) (.ret [C.bool false]) (.must (aBp 16777216 ns es os ss&&aBn ns es os ss) (.must ((true&&ns.all fun row=>decide (row.length=3))&&((true&&es.all fun row=>decide (row.length=2))&&((true&&os.all fun row=>decide (row.length=2))&&((true&&ss.all fun row=>decide (row.length=1))&&(decide (0<1)&&true&&(decide (0<1)&&true&&true)))))&&true&&true) (.must (aBp 16777216 (List.take ns.length ns) (List.take es.length es) (List.take os.length os) (List.take ss.length ss)&&aBn (List.take ns.length ns) (List.take es.length es) (List.take os.length os) (List.take ss.length ss)&&aBn (List.take ns.length ns) (List.take es.length es) (List.take os.length os) (List.take ss.length ss)) (.ask (bQt (List.take ns.length ns) (List.take es.length es) (List.take os.length os) (List.take ss.length ss) r x (List.take ns.length ns) (List.take es.length es) (List.take os.length os) (List.take ss.length ss) r x) (.must (decide (rows.length≤16777216)&&aAa [K.int .i64,K.str,K.str,K.str] rows) (.must ((true&&rows.all fun row=>decide (row.length=4))&&true&&true&&true) (.must (decide ((List.take rows.length rows).length≤16777216)&&(aAa [K.int .i64,K.str,K.str,K.str] (List.take rows.length rows)&&aAa [K.int .i64,K.str,K.str,K.str] (List.take rows.length rows))) (.ask (decide (ops (List.take rows.length rows)=ops (List.take rows.length rows))) (.must (true&&(true&&(true&&(true&&(true&&(true&&(true&&true))))))&&(decide (ns.length=ns.length)&&(decide (es.length=es.length)&&(decide (os.length=os.length)&&(decide (ss.length=ss.length)&&true)))&&true)) (.must (aBn ns es os ss&&(aBp 16777216 ns es os ss&&(decide ((0:Int)≤(1:Int))&&decide ((1:Int)≤(1073741824:Int))))) (.must (decide (0<1)&&true&&true&&true&&((decide ((mk mkN 3 1 ns.length).length=ns.length)&&(mk mkN 3 1 ns.length).all fun row=>decide (row.length=3))&&((decide ((mk aG7 2 ((1:Int)+(3:Int)*(↑ns.length:Int)) es.length).length=es.length)&&(mk aG7 2 ((1:Int)+(3:Int)*(↑ns.length:Int)) es.length).all fun row=>decide (row.length=2))&&((decide ((mk aG7 2 ((1:Int)+(3:Int)*(↑ns.length:Int)+(2:Int)*(↑es.length:Int)) os.length).length=os.length)&&(mk aG7 2 ((1:Int)+(3:Int)*(↑ns.length:Int)+(2:Int)*(↑es.length:Int)) os.length).all fun row=>decide (row.length=2))&&((decide ((mk mkS 1 ((1:Int)+(3:Int)*(↑ns.length:Int)+(2:Int)*(↑es.length:Int)+(2:Int)*(↑os.length:Int)) ss.length).length=ss.length)&&(mk mkS 1 ((1:Int)+(3:Int)*(↑ns.length:Int)+(2:Int)*(↑es.length:Int)+(2:Int)*(↑os.length:Int)) ss.length).all fun row=>decide (row.length=1))&&true)))&&true)) (.must (true&&(true&&true)&&(decide (rows.length=rows.length)&&true&&true)) (.must (aAa [K.int .i64,K.str,K.str,K.str] rows&&(decide (rows.length≤16777216)&&(decide ((0:Int)≤aKx 1 ns.length es.length os.length ss.length)&&decide (aKx 1 ns.length es.length os.length ss.length≤(1099511627776:Int))))) (.must (decide (0<1)&&true&&true&&true&&((decide ((mk bIx 4 (aKx 1 ns.length es.length os.length ss.length) rows.length).length=rows.length)&&(mk bIx 4 (aKx 1 ns.length es.length os.length ss.length) rows.length).all fun row=>decide (row.length=4))&&true&&true)) (.must (aBp 16777216 (List.take d1.ns.length d1.ns) (List.take d1.es.length d1.es) (List.take d1.os.length d1.os) (List.take d1.ss.length d1.ss)&&aBn (List.take d1.ns.length d1.ns) (List.take d1.es.length d1.es) (List.take d1.os.length d1.os) (List.take d1.ss.length d1.ss)&&aBn (List.take d1.ns.length d1.ns) (List.take d1.es.length d1.es) (List.take d1.os.length d1.os) (List.take d1.ss.length d1.ss)) (.ask (bQt (List.take d1.ns.length d1.ns) (List.take d1.es.length d1.es) (List.take d1.os.length d1.os) (List.take d1.ss.length d1.ss) d1.r d1.x (List.take d1.ns.length d1.ns) (List.take d1.es.length d1.es) (List.take d1.os.length d1.os) (List.take d1.ss.length d1.ss) d1.r d1.x) (.ask (z1 != z1) (.ret [C.bool false]) (.must (true&&(true&&(true&&(true&&(true&&(true&&(true&&true))))))&&(decide (d1.ns.length=d1.ns.length)&&(decide (d1.es.length=d1.es.length)&&(decide (d1.os.length=d1.os.length)&&(decide (d1.ss.length=d1.ss.length)&&true)))&&true)) (.must (aBn d1.ns d1.es d1.os d1.ss&&(aBp 16777216 d1.ns d1.es d1.os d1.ss&&(decide ((0:Int)≤(1:Int))&&decide ((1:Int)≤(1073741824:Int))))) (.must (decide (0<1)&&true&&true&&true&&((decide ((mk mkN 3 1 d1.ns.length).length=d1.ns.length)&&(mk mkN 3 1 d1.ns.length).all fun row=>decide (row.length=3))&&((decide ((mk aG7 2 ((1:Int)+(3:Int)*(↑d1.ns.length:Int)) d1.es.length).length=d1.es.length)&&(mk aG7 2 ((1:Int)+(3:Int)*(↑d1.ns.length:Int)) d1.es.length).all fun row=>decide (row.length=2))&&((decide ((mk aG7 2 ((1:Int)+(3:Int)*(↑d1.ns.length:Int)+(2:Int)*(↑d1.es.length:Int)) d1.os.length).length=d1.os.length)&&(mk aG7 2 ((1:Int)+(3:Int)*(↑d1.ns.length:Int)+(2:Int)*(↑d1.es.length:Int)) d1.os.length).all fun row=>decide (row.length=2))&&((decide ((mk mkS 1 ((1:Int)+(3:Int)*(↑d1.ns.length:Int)+(2:Int)*(↑d1.es.length:Int)+(2:Int)*(↑d1.os.length:Int)) d1.ss.length).length=d1.ss.length)&&(mk mkS 1 ((1:Int)+(3:Int)*(↑d1.ns.length:Int)+(2:Int)*(↑d1.es.length:Int)+(2:Int)*(↑d1.os.length:Int)) d1.ss.length).all fun row=>decide (row.length=1))&&true)))&&true)) (.must (bI6 (List.take d1.ns.length (mk mkN 3 1 d1.ns.length)) (List.take d1.es.length (mk aG7 2 ((1:Int)+(3:Int)*(↑d1.ns.length:Int)) d1.es.length)) (List.take d1.os.length (mk aG7 2 ((1:Int)+(3:Int)*(↑d1.ns.length:Int)+(2:Int)*(↑d1.es.length:Int)) d1.os.length)) (List.take d1.ss.length (mk mkS 1 ((1:Int)+(3:Int)*(↑d1.ns.length:Int)+(2:Int)*(↑d1.es.length:Int)+(2:Int)*(↑d1.os.length:Int)) d1.ss.length)) (1:Int)&&(aBp 16777216 (List.take d1.ns.length (mk mkN 3 1 d1.ns.length)) (List.take d1.es.length (mk aG7 2 ((1:Int)+(3:Int)*(↑d1.ns.length:Int)) d1.es.length)) (List.take d1.os.length (mk aG7 2 ((1:Int)+(3:Int)*(↑d1.ns.length:Int)+(2:Int)*(↑d1.es.length:Int)) d1.os.length)) (List.take d1.ss.length (mk mkS 1 ((1:Int)+(3:Int)*(↑d1.ns.length:Int)+(2:Int)*(↑d1.es.length:Int)+(2:Int)*(↑d1.os.length:Int)) d1.ss.length))&&(decide ((0:Int)≤(1:Int))&&decide ((1:Int)≤(1073741824:Int))))) (.ask (aKx 1 (List.take d1.ns.length (mk mkN 3 1 d1.ns.length)).length (List.take d1.es.length (mk aG7 2 ((1:Int)+(3:Int)*(↑d1.ns.length:Int)) d1.es.length)).length (List.take d1.os.length (mk aG7 2 ((1:Int)+(3:Int)*(↑d1.ns.length:Int)+(2:Int)*(↑d1.es.length:Int)) d1.os.length)).length (List.take d1.ss.length (mk mkS 1 ((1:Int)+(3:Int)*(↑d1.ns.length:Int)+(2:Int)*(↑d1.es.length:Int)+(2:Int)*(↑d1.os.length:Int)) d1.ss.length)).length != aKx 1 d1.ns.length d1.es.length d1.os.length d1.ss.length) (.ret [C.bool false]) (.must (aBp 16777216 ns es os ss&&aBn ns es os ss) (.must ((true&&ns.all fun row=>decide (row.length=3))&&((true&&es.all fun row=>decide (row.length=2))&&((true&&os.all fun row=>decide (row.length=2))&&((true&&ss.all fun row=>decide (row.length=1))&&(decide (0<1)&&true&&(decide (0<1)&&true&&true)))))&&true&&true) (.must (decide (rows.length≤16777216)&&aAa [K.int .i64,K.str,K.str,K.str] rows) (.must ((true&&rows.all fun row=>decide (row.length=4))&&true&&true&&true) (.must (bQb (List.take ns.length ns) (List.take es.length es) (List.take os.length os) (List.take ss.length ss) (List.take rows.length rows)) (.must ((true&&d1.ns.all fun row=>decide (row.length=3))&&((true&&d1.es.all fun row=>decide (row.length=2))&&((true&&d1.os.all fun row=>decide (row.length=2))&&((true&&d1.ss.all fun row=>decide (row.length=1))&&(decide (0<1)&&true&&(decide (0<1)&&true&&true)))))&&(decide (0<1)&&true&&true&&true)&&true) (.must (aBp 16777216 (List.take d1.ns.length d1.ns) (List.take d1.es.length d1.es) (List.take d1.os.length d1.os) (List.take d1.ss.length d1.ss)&&aBn (List.take d1.ns.length d1.ns) (List.take d1.es.length d1.es) (List.take d1.os.length d1.os) (List.take d1.ss.length d1.ss)&&aBn (List.take d1.ns.length d1.ns) (List.take d1.es.length d1.es) (List.take d1.os.length d1.os) (List.take d1.ss.length d1.ss)) (.ask (bQt (List.take d1.ns.length d1.ns) (List.take d1.es.length d1.es) (List.take d1.os.length d1.os) (List.take d1.ss.length d1.ss) d1.r d1.x (List.take d1.ns.length d1.ns) (List.take d1.es.length d1.es) (List.take d1.os.length d1.os) (List.take d1.ss.length d1.ss) d1.r d1.x) (.ask (z1 != z1) (.ret [C.bool false]) (.must (bI6 (List.take d1.ns.length (mk mkN 3 1 d1.ns.length)) (List.take d1.es.length (mk aG7 2 ((1:Int)+(3:Int)*(↑d1.ns.length:Int)) d1.es.length)) (List.take d1.os.length (mk aG7 2 ((1:Int)+(3:Int)*(↑d1.ns.length:Int)+(2:Int)*(↑d1.es.length:Int)) d1.os.length)) (List.take d1.ss.length (mk mkS 1 ((1:Int)+(3:Int)*(↑d1.ns.length:Int)+(2:Int)*(↑d1.es.length:Int)+(2:Int)*(↑d1.os.length:Int)) d1.ss.length)) (1:Int)&&(aBp 16777216 (List.take d1.ns.length (mk mkN 3 1 d1.ns.length)) (List.take d1.es.length (mk aG7 2 ((1:Int)+(3:Int)*(↑d1.ns.length:Int)) d1.es.length)) (List.take d1.os.length (mk aG7 2 ((1:Int)+(3:Int)*(↑d1.ns.length:Int)+(2:Int)*(↑d1.es.length:Int)) d1.os.length)) (List.take d1.ss.length (mk mkS 1 ((1:Int)+(3:Int)*(↑d1.ns.length:Int)+(2:Int)*(↑d1.es.length:Int)+(2:Int)*(↑d1.os.length:Int)) d1.ss.length))&&(decide ((0:Int)≤(1:Int))&&decide ((1:Int)≤(1073741824:Int))))) (.ask (aKx 1 (List.take d1.ns.length (mk mkN 3 1 d1.ns.length)).length (List.take d1.es.length (mk aG7 2 ((1:Int)+(3:Int)*(↑d1.ns.length:Int)) d1.es.length)).length (List.take d1.os.length (mk aG7 2 ((1:Int)+(3:Int)*(↑d1.ns.length:Int)+(2:Int)*(↑d1.es.length:Int)) d1.os.length)).length (List.take d1.ss.length (mk mkS 1 ((1:Int)+(3:Int)*(↑d1.ns.length:Int)+(2:Int)*(↑d1.es.length:Int)+(2:Int)*(↑d1.os.length:Int)) d1.ss.length)).length != aKx 1 d1.ns.length d1.es.length d1.os.length d1.ss.length) (.ret [C.bool false]) (.ret [C.bool true])))) (.ret [C.bool false]))))))))))))))) (.ret [C.bool false]))))))))) (.ret [C.bool false]))))) (.ret [C.bool false])))))) (.ret [C.bool false]))))))))))))))))))):T (List C)).eval:=aAg (by kernel_rfl)
theorem bJi (l:List Opx):aCg (l.map eOp)=true↔∀ x∈l,x.name.length≤281474976710656∧x.to.length≤281474976710656∧x.text.length≤281474976710656:=by simp[aCg]
theorem aYa (n o t:Nat) (left:Int) (h:0≤left):aLz n o t left= -1∨(0≤aLz n o t left∧aLz n o t left+n+o+t=left):=by
 rcases aTm [n,o,t] left h with h1 | ⟨h1,_⟩
 ·exact .inl h1
 ·have:=aTl [n,o,t] left h h1
  simp at this
  exact .inr ⟨h1,by unfold aLz;omega⟩
theorem bGn (l:List Opx) (hl:l.length≤281474976710656) (ht:∀ x∈l,x.name.length≤281474976710656∧x.to.length≤281474976710656∧x.text.length≤281474976710656):∀ (n i:Nat) (left:Int),i≤l.length→l.length<i+n→0≤left→left≤1048576 →
  (aBd aPk aAe (sg [pSl 38,pI] [rI]) Tryz.f18 [.r,.r,.r,.l,.r,.b] n (aP9 (l.map eOp) left i)).eval=some [.int .i64 (aNd (l.drop i) left)]:=by
 intro n
 induction n with
 |zero=>intro i left h1 h2;omega
 |succ n ih =>
  intro i left h1 h2 h3 h4
  rw[aAx _ _ _ _ _ _ _ (by kernel_rfl),aVb]
  by_cases hi:i<l.length
  ·have g:=aAn eOp l ⟨0,[],[],[]⟩ i hi
   have hd:l.drop i=l.getD i ⟨0,[],[],[]⟩::l.drop (i+1):=by rw[List.drop_eq_getElem_cons hi];simp[List.getD_eq_getElem?_getD,hi]
   have hx:=ht _ (aFi (d:=⟨0,[],[],[]⟩) hi)
   have w:IntKind.i64.wrap ((i:Int)+1)=((i+1:Nat):Int):=by rw[aAm]<;>omega
   have rg:=aYa (l.getD i ⟨0,[],[],[]⟩).name.length (l.getD i ⟨0,[],[],[]⟩).to.length (l.getD i ⟨0,[],[],[]⟩).text.length left h3
   rw[hd,List.length_map,Int.toNat_natCast,g,w]
   generalize l.getD i ⟨0,[],[],[]⟩=y at g hx rg ⊢
   obtain⟨x1,x2,x3⟩:=hx
   refine aA7 (decide_eq_true (by omega)) (aA1 (at2 _ _ hi _ _ rfl) (aA1 rfl (aA1 ?_ ?_)))
   ·show (decide (0≤left)&&decide (left≤1048576)&&(decide (y.name.length≤281474976710656)&&(decide (y.to.length≤281474976710656)&&decide (y.text.length≤281474976710656))))=true
    rw[decide_eq_true h3,decide_eq_true h4,decide_eq_true x1,decide_eq_true x2,decide_eq_true x3];rfl
   ·show _=some [C.int .i64 (if aLz y.name.length y.to.length y.text.length left<0 then -1 else aNd (l.drop (i+1)) (aLz y.name.length y.to.length y.text.length left))]
    by_cases hn:aLz y.name.length y.to.length y.text.length left<0
    ·rw[if_pos hn]
     exact aA7 (decide_eq_true hn) rfl
    ·rw[if_neg hn]
     have rg0:0≤aLz y.name.length y.to.length y.text.length left∧aLz y.name.length y.to.length y.text.length left≤1048576:=by rcases rg with rg | rg<;>omega
     exact aAb (decide_eq_false hn) (ih (i+1) _ (by omega) (by omega) rg0.1 rg0.2)
  ·have e:i=l.length:=by omega
   subst e
   rw[List.drop_length,List.length_map]
   exact aAb (decide_eq_false (by omega)) rfl
theorem bO2:aA8 Tryz.prog aPk:=aA9 (by simp[bBz])
theorem aY9:aAw Tryz.prog 18 (sg [pSl 38,pI] [rI]) aQ4:=aA5 bO2 aAd Tryz.func18 (by kernel_rfl) fun cs outs hk h=>by
 unfold aQ4 at h
 split at h
 ·simp only[Option.some.injEq,Prod.mk.injEq,Bool.and_eq_true,decide_eq_true_eq]at h
  obtain⟨⟨⟨h1,h2⟩,h3,h4,h5⟩,rfl⟩:=h
  rename_i rows left
  have hr:=aKe h4
  generalize ops rows=l at hr ⊢
  subst hr
  rw[List.length_map]at h3
  rw[aAi,bBy]
  have w:IntKind.i64.wrap (left-(l.length:Int))=left-l.length:=by rw[aAm]<;>omega
  simp only[aA6,aA4,decide_eq_true_eq,List.length_map,w,bGo]
  split
  ·rfl
  ·exact bGn l h3 ((bJi l).1 h5) _ 0 _ (by omega) (by omega) (by omega) (by omega)
 ·cases h
theorem bGi (l:List Opx) (hl:l.length≤16777216):∀ (n i:Nat),i≤l.length→l.length<i+n →
  (aBd aPj aAe (sg [pSl 38] [rSl 42]) Tryz.f20 [.r,.r,.l,.r,.b] n (aP8 (l.map eOp) l.length ((l.take i++List.replicate (l.length-i) (⟨0,[],[],[]⟩:Opx)).map eOp) i)).eval=some [.sl (l.map eOp)]:=by
 intro n
 induction n with
 |zero=>intro i h1 h2;omega
 |succ n ih =>
  intro i h1 h2
  rw[aAx _ _ _ _ _ _ _ (by kernel_rfl),aV4]
  by_cases hi:i<l.length
  ·have e:=ih (i+1) (by omega) (by omega)
   rw[←aP6 l ⟨0,[],[],[]⟩ ⟨0,[],[],[]⟩ i hi,List.map_set]at e
   have w:IntKind.i64.wrap ((i:Int)+1)=((i+1:Nat):Int):=by rw[aAm]<;>omega
   have hz:(0:Int)≤i:=by omega
   have hi':(i:Int)<l.length:=by omega
   have g:=aAn eOp l ⟨0,[],[],[]⟩ i hi
   have hlen:(l.take i++List.replicate (l.length-i) (⟨0,[],[],[]⟩:Opx)).length=l.length:=by simp;omega
   have g2:=aAn eOp (l.take i++List.replicate (l.length-i) (⟨0,[],[],[]⟩:Opx)) (⟨0,[],[],[]⟩:Opx) i (by omega)
   simp only[aA3,aA6,aA4,if_true,decide_eq_true_eq,Bool.and_eq_true,w,hz,hi',Int.toNat_natCast,List.length_map,Nat.zero_add,g,g2,hlen,hi,and_self,List.getD_cons_zero,List.getD_cons_succ,C.toStr,C.toInt,C.is,List.length_cons,List.length_nil,Nat.reduceAdd,Nat.reduceLT,decide_true,beq_self_eq_true,List.drop_succ_cons,List.drop_nil,List.drop_zero]
   exact e
  ·have:i=l.length:=by omega
   subst this
   simp[aA3,aA6,aA4,C.flat]
theorem bNx:aA8 Tryz.prog aPj:=aA9 (by simp[bBt])
theorem aY2:aAw Tryz.prog 20 (sg [pSl 38] [rSl 42]) aQ0:=aA5 bNx aAd Tryz.func20 (by kernel_rfl) fun cs outs hk h=>by
 unfold aQ0 at h
 split at h
 ·simp only[Option.some.injEq,Prod.mk.injEq,Bool.and_eq_true,decide_eq_true_eq]at h
  obtain⟨⟨h1,h2⟩,rfl⟩:=h
  rename_i rows
  have hr:=aKe h2
  generalize ops rows=l at hr
  subst hr
  rw[List.length_map]at h1
  rw[aAi,bBs]
  have c2:(0:Int)≤l.length:=by omega
  have:=bGi l h1 9223372036854775808 0 (by omega) (by omega)
  simp only[List.take_zero,List.nil_append,Nat.sub_zero,List.map_replicate]at this
  simp only[aA3,if_true,decide_eq_true_eq,Bool.and_eq_true,List.length_map,Int.toNat_natCast,c2,Int.le_refl,and_self,true_and]
  rw[if_pos (by omega)]
  exact this
 ·cases h
theorem aQ5:∀ (l:List Opx) (left:Int),0≤left→¬aNd l left<0→(aGd l:Int)≤left∧∀ x∈l,(x.name.length:Int)≤left∧(x.to.length:Int)≤left
 |[],left,h0,_=>⟨by unfold aGd;simpa using h0,fun x hx=>by cases hx⟩
 |y::l,left,h0,h=>by
  simp only[aNd]at h
  split at h
  ·exact absurd (by omega) h
  ·rename_i hn
   rcases aYa y.name.length y.to.length y.text.length left h0 with rg | ⟨r1,r2⟩
   ·omega
   ·obtain⟨i1,i2⟩:=aQ5 l _ r1 h
    have e:aGd (y::l)=y.text.length+aGd l:=by unfold aGd;simp
    refine⟨by omega,fun x hx=>?_⟩
    rcases List.mem_cons.1 hx with rfl | hx
    ·omega
    ·have:=i2 x hx;omega
theorem bJq {rows:List (List C)} {left:Int} (h0:0≤left) (hl:left≤1048576) (h:¬bGo (ops rows) left<0):rows.length≤1048576∧aGd (ops rows)≤1048576∧∀ x∈ops rows,x.name.length≤1048576∧x.to.length≤1048576:=by
 have el:(ops rows).length=rows.length:=by simp[ops]
 unfold bGo at h
 rw[el]at h
 split at h
 ·omega
 ·obtain⟨i1,i2⟩:=aQ5 (ops rows) _ (by omega) h
  exact⟨by omega,by omega,fun x hx=>by have:=i2 x hx;omega⟩
theorem bEx:∀ (l:List Opx) {a b:Nat} {d:Dk},DkB a b d→(∀ x∈l,x.name.length+x.to.length+40≤b)→DkB (a+l.length) (b+aGd l) (aJn d l).1
 |[],a,b,d,h,_=>h
 |x::l,a,b,d,h,hx=>by
  have q:=bOb h x.kind (n:=x.name) (o:=x.to) (t:=x.text) (hx x List.mem_cons_self)
  have e:aGd (x::l)=x.text.length+aGd l:=by unfold aGd;simp
  unfold aJn
  rw[e,List.length_cons]
  split
  ·have:=bEx l q fun y hy=>by have:=hx y (List.mem_cons_of_mem _ hy);omega
   exact this.mono (by omega) (by omega)
  ·exact q.mono (by omega) (by omega)
theorem bH8 {ns es os ss rows:List (List C)} {r x:Int} (h:DkB 1048576 1048576 ⟨ns,es,os,ss,r,x⟩) (hr:aAa kOp rows=true) (hl:rows.length≤1048576) (hs:aGd (ops rows)≤1048576) (hx:∀ x∈ops rows,x.name.length≤1048576∧x.to.length≤1048576):bQb ns es os ss rows=true:=by
 have k:=h.rows
 obtain⟨⟨l1,e1,a1,b1⟩,⟨l2,e2,a2,b2⟩,⟨l3,e3,a3,b3⟩,⟨l4,e4,a4,b4⟩⟩:=h
 simp only at e1 e2 e3 e4 k
 simp only[bQb,Bool.and_eq_true,List.all_eq_true,decide_eq_true_eq]
 refine⟨⟨⟨⟨⟨⟨⟨⟨k,⟨⟨⟨?_,?_⟩,?_⟩,?_⟩⟩,?_⟩,?_⟩,?_⟩,?_⟩,hr,hl⟩,hx⟩,hs⟩
 ·rw[e1,List.length_map];exact a1
 ·rw[e2,List.length_map];exact a2
 ·rw[e3,List.length_map];exact a3
 ·rw[e4,List.length_map];exact a4
 ·rw[e1,aE7];exact b1
 ·rw[e2,aFy];exact b2
 ·rw[e3,aFy];exact b3
 ·rw[e4,bEo];exact b4
theorem bSl:aA8 Tryz.prog bNa:=aA9 (by simp[aVh,aY7,bAv,aZz,bA3,bDv,aZw,bC7,bDe,aY9,aY2])
theorem bCn:aAw Tryz.prog 5 (sg [aOe,pSl 38,pI] [rB]) bCc:=aA5 bSl aAd Tryz.func5 (by kernel_rfl) fun cs outs hk h=>by
 unfold bCc at h
 split at h
 ·simp only[Option.some.injEq,Prod.mk.injEq,Bool.and_eq_true,decide_eq_true_eq]at h
  obtain⟨⟨hl,hn,ho,ht⟩,rfl⟩:=h
  rename_i ns es os ss r x rows n
  rw[aAi,bHn]
  have hl':=hl
  unfold aNq at hl'
  simp only[Bool.and_eq_true]at hl'
  obtain⟨⟨g1,g2⟩,g3⟩:=hl'
  have d0:decide ((0:Int)≤1048576)=true:=by decide
  have d1:decide ((1048576:Int)≤1048576)=true:=by decide
  have d2:decide (0<1)=true:=by decide
  have le:=bJt (nds ns) (ens es) (ens os) (aCt ss) 1048576 (by omega)
  by_cases hs:aHt (nds ns) (ens es) (ens os) (aCt ss) 1048576<0
  ·simp only[aA3,aA6,aA4,d0,d1,d2,g1,g2,g3,Bool.and_self,if_true,decide_eq_true_eq,hs]
  ·have sml:=DkB.small r x hl hs
   obtain⟨_,_,_,q4,_⟩:=aTt hl hs
   obtain⟨r1,r2,r3,r4⟩:=bMf g2
   obtain⟨l1,l2,l3,l4⟩:=sml.lens
   generalize hZ:aHt (nds ns) (ens es) (ens os) (aCt ss) 1048576=Z at hs le ⊢
   have z0:decide (0≤Z)=true:=decide_eq_true (by omega)
   have z1:decide (Z≤1048576)=true:=decide_eq_true le
   have ho':aAa [K.int IntKind.i64,K.str,K.str,K.str] rows=true:=ho
   by_cases hq:bGo (ops rows) Z<0
   ·simp only[aA3,aA6,aA4,d0,d1,d2,g1,g2,g3,Bool.and_self,if_true,if_false,decide_eq_true_eq,hs,hq,z0,z1,decide_eq_true hn,ho',ht]
   ·obtain⟨f1,f2,f3⟩:=bJq (by omega) le hq
    have hrB:=bH8 (rows:=rows) sml ho f1 f2 f3
    have hrl:(rows.all fun row=>decide (row.length=4))=true:=by
     rw[aKe ho];simp
    have hlt:decide (rows.length≤16777216)=true:=decide_eq_true (by omega)
    simp only[aA3,aA6,aA4,d0,d1,d2,g1,g2,g3,Bool.and_self,if_true,if_false,decide_eq_true_eq,hs,hq,z0,z1,decide_eq_true hn,ho',ht,List.take_length]
    have q:DkB 2097152 5242880 (aLi ns es os ss r x rows n):=by
     unfold aLi bJn
     have e:(ops rows).length=rows.length:=by simp[ops]
     have q:=bEx ((ops rows).take (aBs n 0 rows.length).toNat) (sml.mono (Nat.le_refl _) (show 1048576≤4194304 by omega)) fun y hy=>by
      have:=f3 y (List.mem_of_mem_take hy);omega
     refine q.mono ?_ ?_
     ·rw[List.length_take];omega
     ·have:=aNm (ops rows) (aBs n 0 rows.length).toNat;omega
    generalize aLi ns es os ss r x rows n=D at q ⊢
    generalize aQk ns es os ss r x rows n=K
    obtain⟨b1,b2,b3,b4,_⟩:=q.all
    obtain⟨m1,m2,m3,m4⟩:=q.lens
    have gD:=q.rows
    have qD:aBp 16777216 D.ns D.es D.os D.ss=true:=aEd.2 ⟨by omega,by omega,by omega,by omega⟩
    have d3:decide ((0:Int)≤1)=true:=by decide
    have d4:decide ((1:Int)≤1073741824)=true:=by decide
    have hm:=bPe 1 D.ns.length D.es.length D.os.length D.ss.length
    have qm:∀ (a b c:Int),aBp 16777216 (mk mkN 3 1 D.ns.length) (mk aG7 2 a D.es.length) (mk aG7 2 b D.os.length) (mk mkS 1 c D.ss.length)=true:=fun a b c=>aEd.2 ⟨by rw[aDe];omega,by rw[aDe];omega,by rw[aDe];omega,by rw[aDe];omega⟩
    have dk0:decide (0≤aKx 1 ns.length es.length os.length ss.length)=true:=decide_eq_true (by unfold aKx;omega)
    have dk1:decide (aKx 1 ns.length es.length os.length ss.length≤1099511627776)=true:=decide_eq_true (by unfold aKx;simp only at l1 l2 l3 l4;omega)
    have mkO4:∀ (k:Int) (n:Nat),((mk bIx 4 k n).all fun r=>decide (r.length=4))=true:=fun k n=>aG6 _ _ _ _ _ fun k=>rfl
    simp only[hrB,g2,gD,q4,qD,qm,r1,r2,r3,r4,b1,b2,b3,b4,d2,d3,d4,dk0,dk1,hrl,hlt,ho',bTp,aDe,bWm,bWn,bWl,mkO4,hm,bMa,bne_self_eq_false,decide_true,Bool.and_self,Bool.and_true,Bool.true_and,Bool.false_eq_true,if_true,if_false]
 ·cases h
end Go.Proofs.YtigodjkegcibhaaGreatDoor.V
