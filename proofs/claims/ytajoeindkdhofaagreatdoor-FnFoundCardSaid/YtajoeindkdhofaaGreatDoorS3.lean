/- Functions of the given program and of its reference: what each returns, as an equation over data; by the interpreter. -/
import Derived.Test.YtajoeindkdhofaaGreatDoorS2
import Derived.Test.YtajoeindkdhofaaGreatDoorProg
import Derived.KernelRfl
set_option linter.unusedVariables false
set_option linter.unusedSimpArgs false
set_option linter.unusedSectionVars false
set_option linter.deprecated false
namespace Go.Proofs.YtajoeindkdhofaaGreatDoor.V
set_option maxRecDepth 100000
theorem bS3 (H:List Pt→Nat→St→T (List C)) (x:Int):(aAm bWc aAb (sg [pI] [rU8]) Tryz.f158 H [C.int .i64 x]).eval=((.ask (decide (x<(10:Int))) (.ret [C.int .u8 (IntKind.u8.wrap (IntKind.i64.wrap ((48:Int)+x)))]) (.ret [C.int .u8 (IntKind.u8.wrap (IntKind.i64.wrap (IntKind.i64.wrap ((97:Int)+x)-(10:Int))))])):T (List C)).eval:=aAo (by kernel_rfl)
theorem bSe (H:List Pt→Nat→St→T (List C)) (x:Int):(aAm bMc aAb (sg [pI] [rS]) Tryz.f144 H [C.int .i64 x]).eval=((.ask (decide (x=(0:Int))) (.ret [C.str [(48:UInt8)]]) (.ask (decide (x<(0:Int))) (H [Pt.r,Pt.r,Pt.r,Pt.r,Pt.l,Pt.b] 9223372036854775808 (bY9 (x) ([]))) (H [Pt.r,Pt.r,Pt.r,Pt.r,Pt.l,Pt.b] 9223372036854775808 (bH2 (x) ([]))))):T (List C)).eval:=aAo (by kernel_rfl)
theorem aWb (H:List Pt→Nat→St→T (List C)) (n:Int) (s:List UInt8) (k:Nat):(aBk bMc aAb (sg [pI] [rS]) Tryz.f144 H [Pt.r,Pt.r,Pt.r,Pt.r,Pt.l,Pt.b] k (bH2 n s)).eval=((.ask (n != (0:Int)) (.ask (decide (n.tmod 10<(0:Int))) (.must (inB (IntKind.i64.wrap ((0:Int)-n.tmod 10)) (0:Int) (15:Int)) (.must (decide ((aBv [[C.int .u8 (bW1 (IntKind.i64.wrap ((0:Int)-n.tmod 10)))]]).length+s.length≤9223372036854775807)) (H [Pt.r,Pt.r,Pt.r,Pt.r,Pt.l,Pt.b] k (bH2 (IntKind.i64.wrap (n.tdiv 10)) (aBv [[C.int .u8 (bW1 (IntKind.i64.wrap ((0:Int)-n.tmod 10)))]]++s))))) (.must (inB (n.tmod 10) 0 15) (.must (decide ((aBv [[C.int .u8 (bW1 (n.tmod 10))]]).length+s.length≤9223372036854775807)) (H [Pt.r,Pt.r,Pt.r,Pt.r,Pt.l,Pt.b] k (bH2 (IntKind.i64.wrap (n.tdiv 10)) (aBv [[C.int .u8 (bW1 (n.tmod 10))]]++s)))))) (.ret [C.str s])):T (List C)).eval:=aAo (by kernel_rfl)
theorem bU1 (H:List Pt→Nat→St→T (List C)) (t:List UInt8):(aAm bVf aAb (sg [pS] [rI,rB]) Tryz.f180 H [C.str t]).eval=((.ask (decide ((10:Int)<(↑t.length:Int))) (.ret [C.int .i64 0,C.bool false]) (H [Pt.r,Pt.r,Pt.r,Pt.l,Pt.r,Pt.b] 9223372036854775808 (bVe (t) ((0:Int)) ((0:Int))))):T (List C)).eval:=aAo (by kernel_rfl)
theorem bNq (H:List Pt→Nat→St→T (List C)) (t:List UInt8) (n:Int) (i:Int) (k:Nat):(aBk bVf aAb (sg [pS] [rI,rB]) Tryz.f180 H [Pt.r,Pt.r,Pt.r,Pt.l,Pt.r,Pt.b] k (bVe t n i)).eval=((.ask (decide (i<(↑t.length:Int))) (.must (decide ((0:Int)≤i)&&decide (i<(↑t.length:Int))) (.ask (decide ((↑(t.getD i.toNat (0:UInt8)).toNat:Int)<(48:Int))) (.ret [C.int .i64 0,C.bool false]) (.must (decide ((0:Int)≤i)&&decide (i<(↑t.length:Int))) (.ask (decide ((57:Int)<(↑(t.getD i.toNat (0:UInt8)).toNat:Int))) (.ret [C.int .i64 0,C.bool false]) (.must (decide ((0:Int)≤i)&&decide (i<(↑t.length:Int))) (H [Pt.r,Pt.r,Pt.r,Pt.l,Pt.r,Pt.b] k (bVe (t) (IntKind.i64.wrap (IntKind.i64.wrap (IntKind.i64.wrap ((10:Int)*n)+IntKind.i64.wrap (↑(t.getD i.toNat (0:UInt8)).toNat:Int))-(48:Int))) (IntKind.i64.wrap (i+(1:Int)))))))))) (.ask (decide ((1000000000:Int)<n)) (.ret [C.int .i64 0,C.bool false]) (.must (inB n 0 9223372036854775807) (.ask (!aG2 n==t) (.ret [C.int .i64 0,C.bool false]) (.ret [C.int .i64 n,C.bool true]))))):T (List C)).eval:=aAo (by kernel_rfl)
theorem bEc (H:List Pt→Nat→St→T (List C)) (t:List UInt8):(aAm aQs aAb (sg [pS] [rB]) Tryz.f142 H [C.str t]).eval=((H [Pt.r,Pt.l,Pt.r,Pt.b] 9223372036854775808 (aIk (t) ((0:Int)))):T (List C)).eval:=aAo (by kernel_rfl)
theorem aXl (H:List Pt→Nat→St→T (List C)) (t:List UInt8) (i:Int) (k:Nat):(aBk aQs aAb (sg [pS] [rB]) Tryz.f142 H [Pt.r,Pt.l,Pt.r,Pt.b] k (aIk t i)).eval=((.ask (decide (i<(↑t.length:Int))) (.must (decide ((0:Int)≤i)&&decide (i<(↑t.length:Int))) (.ask (inB (IntKind.i64.wrap (↑(t.getD i.toNat (0:UInt8)).toNat:Int)) (97:Int) (122:Int)) (H [Pt.r,Pt.l,Pt.r,Pt.b] k (aIk (t) (IntKind.i64.wrap (i+(1:Int))))) (.ask (inB (IntKind.i64.wrap (↑(t.getD i.toNat (0:UInt8)).toNat:Int)) (48:Int) (57:Int)) (H [Pt.r,Pt.l,Pt.r,Pt.b] k (aIk (t) (IntKind.i64.wrap (i+(1:Int))))) (.ask (IntKind.i64.wrap (↑(t.getD i.toNat (0:UInt8)).toNat:Int) != (46:Int)) (.ask (IntKind.i64.wrap (↑(t.getD i.toNat (0:UInt8)).toNat:Int) != (45:Int)) (.ret [C.bool false]) (H [Pt.r,Pt.l,Pt.r,Pt.b] k (aIk (t) (IntKind.i64.wrap (i+(1:Int)))))) (H [Pt.r,Pt.l,Pt.r,Pt.b] k (aIk (t) (IntKind.i64.wrap (i+(1:Int))))))))) (.ask (inB (↑t.length:Int) 1 20) (.ret [C.bool true]) (.ret [C.bool false]))):T (List C)).eval:=aAo (by kernel_rfl)
theorem bMi (H:List Pt→Nat→St→T (List C)) (ns:List (List C)) (es:List (List C)) (os:List (List C)) (ss:List (List C)) (r:Int) (x:Int):(aAm aWr aAb (sg [aB4] [rI]) Tryz.f145 H [C.sl ns,C.sl es,C.sl os,C.sl ss,C.int .i64 r,C.int .i64 x]).eval=((H [Pt.r,Pt.r,Pt.l,Pt.r,Pt.b] 9223372036854775808 (aWn (ns) (es) (os) (ss) (r) (x) ((0:Int)) ((0:Int)))):T (List C)).eval:=aAo (by kernel_rfl)
theorem bDx (H:List Pt→Nat→St→T (List C)) (ns:List (List C)) (es:List (List C)) (os:List (List C)) (ss:List (List C)) (r:Int) (x:Int) (n:Int) (i:Int) (k:Nat):(aBk aWr aAb (sg [aB4] [rI]) Tryz.f145 H [Pt.r,Pt.r,Pt.l,Pt.r,Pt.b] k (aWn ns es os ss r x n i)).eval=((.ask (decide (i<(↑ns.length:Int))) (.must (decide ((0:Int)≤i)&&decide (i<(↑ns.length:Int))&&decide ((ns.getD i.toNat []).length=3)) (.must (decide (0+1<(ns.getD i.toNat []).length)&&C.is K.str ((ns.getD i.toNat []).getD (0+1) (C.fn 0 []))&&true) (H [Pt.r,Pt.r,Pt.l,Pt.r,Pt.b] k (aWn (ns) (es) (os) (ss) (r) (x) (IntKind.i64.wrap (n+(↑((ns.getD i.toNat []).getD (0+1) (C.fn 0 [])).toStr.length:Int))) (IntKind.i64.wrap (i+(1:Int))))))) (.ret [C.int .i64 n])):T (List C)).eval:=aAo (by kernel_rfl)
theorem bB7 (H:List Pt→Nat→St→T (List C)) (ns:List (List C)) (es:List (List C)) (os:List (List C)) (ss:List (List C)) (r:Int) (x:Int) (l:List (List C)):(aAm aNe aAb (sg [aB4,pSl 100] [rB]) Tryz.f156 H [C.sl ns,C.sl es,C.sl os,C.sl ss,C.int .i64 r,C.int .i64 x,C.sl l]).eval=((H [Pt.r,Pt.l,Pt.r,Pt.b] 9223372036854775808 (aK1 (ns) (es) (os) (ss) (r) (x) (l) ((0:Int)))):T (List C)).eval:=aAo (by kernel_rfl)
theorem aUq (H:List Pt→Nat→St→T (List C)) (ns:List (List C)) (es:List (List C)) (os:List (List C)) (ss:List (List C)) (r:Int) (x:Int) (l:List (List C)) (i:Int) (k:Nat):(aBk aNe aAb (sg [aB4,pSl 100] [rB]) Tryz.f156 H [Pt.r,Pt.l,Pt.r,Pt.b] k (aK1 ns es os ss r x l i)).eval=((.ask (decide (i<(↑l.length:Int))) (.must (decide ((0:Int)≤i)&&decide (i<(↑l.length:Int))&&decide ((l.getD i.toNat []).length=2)) (.must (decide (0+0<(l.getD i.toNat []).length)&&C.is K.str ((l.getD i.toNat []).getD (0+0) (C.fn 0 []))&&true) (.must (decide (((l.getD i.toNat []).getD (0+0) (C.fn 0 [])).toStr.length≤281474976710656)) (.ask (aDz ((l.getD i.toNat []).getD (0+0) (C.fn 0 [])).toStr) (.must (decide ((0:Int)≤i)&&decide (i<(↑l.length:Int))&&decide ((l.getD i.toNat []).length=2)) (.must (decide (0+1<(l.getD i.toNat []).length)&&C.is (K.int .i64) ((l.getD i.toNat []).getD (0+1) (C.fn 0 []))&&true) (.must (decide (ns.length≤aK9)&&aAt [K.int .i64,K.str,K.int .i64] ns) (.ask (decide (aAv (nds ns) ((l.getD i.toNat []).getD (0+1) (C.fn 0 [])).toInt<(0:Int))) (.ret [C.bool false]) (.ask (decide ((0:Int)<i)) (.must (decide ((0:Int)≤IntKind.i64.wrap (i-(1:Int)))&&decide (IntKind.i64.wrap (i-(1:Int))<(↑l.length:Int))&&decide ((l.getD (IntKind.i64.wrap (i-(1:Int))).toNat []).length=2)) (.must (decide (0+0<(l.getD (IntKind.i64.wrap (i-(1:Int))).toNat []).length)&&C.is K.str ((l.getD (IntKind.i64.wrap (i-(1:Int))).toNat []).getD (0+0) (C.fn 0 []))&&true) (.must (decide ((0:Int)≤i)&&decide (i<(↑l.length:Int))&&decide ((l.getD i.toNat []).length=2)) (.must (decide (0+0<(l.getD i.toNat []).length)&&C.is K.str ((l.getD i.toNat []).getD (0+0) (C.fn 0 []))&&true) (.ask (!Op.bytesLess ((l.getD (IntKind.i64.wrap (i-(1:Int))).toNat []).getD (0+0) (C.fn 0 [])).toStr ((l.getD i.toNat []).getD (0+0) (C.fn 0 [])).toStr) (.ret [C.bool false]) (H [Pt.r,Pt.l,Pt.r,Pt.b] k (aK1 (ns) (es) (os) (ss) (r) (x) (l) (IntKind.i64.wrap (i+(1:Int)))))))))) (H [Pt.r,Pt.l,Pt.r,Pt.b] k (aK1 (ns) (es) (os) (ss) (r) (x) (l) (IntKind.i64.wrap (i+(1:Int)))))))))) (.ret [C.bool false]))))) (.ask (decide ((↑l.length:Int)≤(16:Int))) (.ret [C.bool true]) (.ret [C.bool false]))):T (List C)).eval:=aAo (by kernel_rfl)
theorem bMu (H:List Pt→Nat→St→T (List C)) (a:List (List C)) (b:List (List C)):(aAm bDe aAb (sg [pSl 100,pSl 100] [rB]) Tryz.f157 H [C.sl a,C.sl b]).eval=((.ask ((↑a.length:Int) != (↑b.length:Int)) (.ret [C.bool false]) (H [Pt.r,Pt.r,Pt.l,Pt.r,Pt.b] 9223372036854775808 (bDa (a) (b) ((0:Int))))):T (List C)).eval:=aAo (by kernel_rfl)
theorem bE1 (H:List Pt→Nat→St→T (List C)) (a:List (List C)) (b:List (List C)) (i:Int) (k:Nat):(aBk bDe aAb (sg [pSl 100,pSl 100] [rB]) Tryz.f157 H [Pt.r,Pt.r,Pt.l,Pt.r,Pt.b] k (bDa a b i)).eval=((.ask (decide (i<(↑a.length:Int))) (.must (decide ((0:Int)≤i)&&decide (i<(↑a.length:Int))&&decide ((a.getD i.toNat []).length=2)) (.must (decide (0<(a.getD i.toNat []).length)&&C.is K.str ((a.getD i.toNat []).getD 0 (C.fn 0 []))&&(decide (0+1<(a.getD i.toNat []).length)&&C.is (K.int .i64) ((a.getD i.toNat []).getD (0+1) (C.fn 0 []))&&true)) (.must (decide ((0:Int)≤i)&&decide (i<(↑b.length:Int))&&decide ((b.getD i.toNat []).length=2)) (.must (decide (0<(b.getD i.toNat []).length)&&C.is K.str ((b.getD i.toNat []).getD 0 (C.fn 0 []))&&(decide (0+1<(b.getD i.toNat []).length)&&C.is (K.int .i64) ((b.getD i.toNat []).getD (0+1) (C.fn 0 []))&&true)) (.ask (!(((a.getD i.toNat []).getD 0 (C.fn 0 [])).toStr==((b.getD i.toNat []).getD 0 (C.fn 0 [])).toStr&&(decide (((a.getD i.toNat []).getD (0+1) (C.fn 0 [])).toInt=((b.getD i.toNat []).getD (0+1) (C.fn 0 [])).toInt)&&true))) (.ret [C.bool false]) (H [Pt.r,Pt.r,Pt.l,Pt.r,Pt.b] k (bDa (a) (b) (IntKind.i64.wrap (i+(1:Int)))))))))) (.ret [C.bool true])):T (List C)).eval:=aAo (by kernel_rfl)
theorem bPq (H:List Pt→Nat→St→T (List C)) (l:List (List C)) (nm:List UInt8) (id:Int):(aAm aZq aAb (sg [pSl 100,aJm] [rSl 100]) Tryz.f143 H [C.sl l,C.str nm,C.int .i64 id]).eval=((H [Pt.r,Pt.r,Pt.r,Pt.l,Pt.r,Pt.b] 9223372036854775808 (aWp (l) (nm) (id) (0) ([]) ((0:Int)))):T (List C)).eval:=aAo (by kernel_rfl)
theorem bE7 (H:List Pt→Nat→St→T (List C)) (l:List (List C)) (nm:List UInt8) (id:Int) (n:Nat) (o:List (List C)) (i:Int) (k:Nat):(aBk aZq aAb (sg [pSl 100,aJm] [rSl 100]) Tryz.f143 H [Pt.r,Pt.r,Pt.r,Pt.l,Pt.r,Pt.b] k (aWp l nm id n o i)).eval=((.ask (decide (i<(↑l.length:Int))) (.must (decide ((0:Int)≤i)&&decide (i<(↑l.length:Int))&&decide ((l.getD i.toNat []).length=2)) (.must (decide (0+0<(l.getD i.toNat []).length)&&C.is K.str ((l.getD i.toNat []).getD (0+0) (C.fn 0 []))&&true) (.ask (!Op.bytesLess ((l.getD i.toNat []).getD (0+0) (C.fn 0 [])).toStr nm) (.must (decide (n=o.length)&&aBe (o.length+1) 24&&(decide ((Nat.add 1 0).succ=2)&&true)) (.must (decide ((0:Int)≤i)&&decide (i<(↑l.length:Int))&&decide ((l.getD i.toNat []).length=2)) (.must (decide (0+0<(l.getD i.toNat []).length)&&C.is K.str ((l.getD i.toNat []).getD (0+0) (C.fn 0 []))&&true) (.ask (!((l.getD i.toNat []).getD (0+0) (C.fn 0 [])).toStr==nm) (.must (decide ((0:Int)≤i)&&decide (i<(↑l.length:Int))&&decide ((l.getD i.toNat []).length=2)) (.must (decide (0<(l.getD i.toNat []).length)&&C.is K.str ((l.getD i.toNat []).getD 0 (C.fn 0 []))&&(decide (0+1<(l.getD i.toNat []).length)&&C.is (K.int .i64) ((l.getD i.toNat []).getD (0+1) (C.fn 0 []))&&true)) (.must (decide (o.length+1=(o.append [[C.str nm,C.int .i64 id]]).length)&&aBe ((o.append [[C.str nm,C.int .i64 id]]).length+1) 24&&(decide ((Nat.add 1 0).succ=2)&&true)) (H [Pt.r,Pt.r,Pt.r,Pt.l,Pt.r,Pt.b] k (aRx (l) (nm) (id) ((o.append [[C.str nm,C.int .i64 id]]).length+1) ((o.append [[C.str nm,C.int .i64 id]]).append [[C.str ((l.getD i.toNat []).getD 0 (C.fn 0 [])).toStr,C.int .i64 ((l.getD i.toNat []).getD (0+1) (C.fn 0 [])).toInt]]) (IntKind.i64.wrap (i+(1:Int)))))))) (H [Pt.r,Pt.r,Pt.r,Pt.l,Pt.r,Pt.b] k (aRx (l) (nm) (id) (o.length+1) (o.append [[C.str nm,C.int .i64 id]]) (IntKind.i64.wrap (i+(1:Int))))))))) (.must (decide ((0:Int)≤i)&&decide (i<(↑l.length:Int))&&decide ((l.getD i.toNat []).length=2)) (.must (decide (0+0<(l.getD i.toNat []).length)&&C.is K.str ((l.getD i.toNat []).getD (0+0) (C.fn 0 []))&&true) (.ask (!((l.getD i.toNat []).getD (0+0) (C.fn 0 [])).toStr==nm) (.must (decide ((0:Int)≤i)&&decide (i<(↑l.length:Int))&&decide ((l.getD i.toNat []).length=2)) (.must (decide (0<(l.getD i.toNat []).length)&&C.is K.str ((l.getD i.toNat []).getD 0 (C.fn 0 []))&&(decide (0+1<(l.getD i.toNat []).length)&&C.is (K.int .i64) ((l.getD i.toNat []).getD (0+1) (C.fn 0 []))&&true)) (.must (decide (n=o.length)&&aBe (o.length+1) 24&&(decide ((Nat.add 1 0).succ=2)&&true)) (H [Pt.r,Pt.r,Pt.r,Pt.l,Pt.r,Pt.b] k (aWp (l) (nm) (id) (o.length+1) (o.append [[C.str ((l.getD i.toNat []).getD 0 (C.fn 0 [])).toStr,C.int .i64 ((l.getD i.toNat []).getD (0+1) (C.fn 0 [])).toInt]]) (IntKind.i64.wrap (i+(1:Int)))))))) (H [Pt.r,Pt.r,Pt.r,Pt.l,Pt.r,Pt.b] k (aWp (l) (nm) (id) (n) (o) (IntKind.i64.wrap (i+(1:Int))))))))))) (.must (decide (n=o.length)&&aBe (o.length+1) 24&&(decide ((Nat.add 1 0).succ=2)&&true)) (.must (decide (o.length+1=(o.append [[C.str nm,C.int .i64 id]]).length)&&(false||(o.append [[C.str nm,C.int .i64 id]]).all fun r=>r.all C.flat)&&true&&true&&true) (.ret [C.sl (o.append [[C.str nm,C.int .i64 id]])])))):T (List C)).eval:=aAo (by kernel_rfl)
theorem bE6 (H:List Pt→Nat→St→T (List C)) (l:List (List C)) (nm:List UInt8) (id:Int) (n:Nat) (o:List (List C)) (i:Int) (k:Nat):(aBk aZq aAb (sg [pSl 100,aJm] [rSl 100]) Tryz.f143 H [Pt.r,Pt.r,Pt.r,Pt.l,Pt.r,Pt.b] k (aRx l nm id n o i)).eval=((.ask (decide (i<(↑l.length:Int))) (.must (decide ((0:Int)≤i)&&decide (i<(↑l.length:Int))&&decide ((l.getD i.toNat []).length=2)) (.must (decide (0+0<(l.getD i.toNat []).length)&&C.is K.str ((l.getD i.toNat []).getD (0+0) (C.fn 0 []))&&true) (.ask (!((l.getD i.toNat []).getD (0+0) (C.fn 0 [])).toStr==nm) (.must (decide ((0:Int)≤i)&&decide (i<(↑l.length:Int))&&decide ((l.getD i.toNat []).length=2)) (.must (decide (0<(l.getD i.toNat []).length)&&C.is K.str ((l.getD i.toNat []).getD 0 (C.fn 0 []))&&(decide (0+1<(l.getD i.toNat []).length)&&C.is (K.int .i64) ((l.getD i.toNat []).getD (0+1) (C.fn 0 []))&&true)) (.must (decide (n=o.length)&&aBe (o.length+1) 24&&(decide ((Nat.add 1 0).succ=2)&&true)) (H [Pt.r,Pt.r,Pt.r,Pt.l,Pt.r,Pt.b] k (aRx (l) (nm) (id) (o.length+1) (o.append [[C.str ((l.getD i.toNat []).getD 0 (C.fn 0 [])).toStr,C.int .i64 ((l.getD i.toNat []).getD (0+1) (C.fn 0 [])).toInt]]) (IntKind.i64.wrap (i+(1:Int)))))))) (H [Pt.r,Pt.r,Pt.r,Pt.l,Pt.r,Pt.b] k (aRx (l) (nm) (id) (n) (o) (IntKind.i64.wrap (i+(1:Int)))))))) (.must (decide (n=o.length)&&(false||o.all fun r=>r.all C.flat)&&true&&true&&true) (.ret [C.sl o]))):T (List C)).eval:=aAo (by kernel_rfl)
theorem bNc (H:List Pt→Nat→St→T (List C)) (l:List (List C)) (nm:List UInt8):(aAm bDg aAb (sg [pSl 100,pS] [rSl 100]) Tryz.f140 H [C.sl l,C.str nm]).eval=((H [Pt.r,Pt.r,Pt.l,Pt.r,Pt.b] 9223372036854775808 (aWq (l) (nm) (0) ([]) ((0:Int)))):T (List C)).eval:=aAo (by kernel_rfl)
theorem bEp (H:List Pt→Nat→St→T (List C)) (l:List (List C)) (nm:List UInt8) (n:Nat) (o:List (List C)) (i:Int) (k:Nat):(aBk bDg aAb (sg [pSl 100,pS] [rSl 100]) Tryz.f140 H [Pt.r,Pt.r,Pt.l,Pt.r,Pt.b] k (aWq l nm n o i)).eval=((.ask (decide (i<(↑l.length:Int))) (.must (decide ((0:Int)≤i)&&decide (i<(↑l.length:Int))&&decide ((l.getD i.toNat []).length=2)) (.must (decide (0+0<(l.getD i.toNat []).length)&&C.is K.str ((l.getD i.toNat []).getD (0+0) (C.fn 0 []))&&true) (.ask (!((l.getD i.toNat []).getD (0+0) (C.fn 0 [])).toStr==nm) (.must (decide ((0:Int)≤i)&&decide (i<(↑l.length:Int))&&decide ((l.getD i.toNat []).length=2)) (.must (decide (0<(l.getD i.toNat []).length)&&C.is K.str ((l.getD i.toNat []).getD 0 (C.fn 0 []))&&(decide (0+1<(l.getD i.toNat []).length)&&C.is (K.int .i64) ((l.getD i.toNat []).getD (0+1) (C.fn 0 []))&&true)) (.must (decide (n=o.length)&&aBe (o.length+1) 24&&(decide ((Nat.add 1 0).succ=2)&&true)) (H [Pt.r,Pt.r,Pt.l,Pt.r,Pt.b] k (aWq (l) (nm) (o.length+1) (o.append [[C.str ((l.getD i.toNat []).getD 0 (C.fn 0 [])).toStr,C.int .i64 ((l.getD i.toNat []).getD (0+1) (C.fn 0 [])).toInt]]) (IntKind.i64.wrap (i+(1:Int)))))))) (H [Pt.r,Pt.r,Pt.l,Pt.r,Pt.b] k (aWq (l) (nm) (n) (o) (IntKind.i64.wrap (i+(1:Int)))))))) (.must (decide (n=o.length)&&(false||o.all fun r=>r.all C.flat)&&true&&true&&true) (.ret [C.sl o]))):T (List C)).eval:=aAo (by kernel_rfl)
theorem bMq (H:List Pt→Nat→St→T (List C)) (s:List UInt8):(aAm aWt aAb (sg [pS] [rS,rS,rI,rB]) Tryz.f169 H [C.str s]).eval=((.ask (decide ((↑s.length:Int)<(2:Int))) (.ret [C.str [],C.str [],C.int .i64 0,C.bool false]) (.must (decide ((0:Int)≤(0:Int))&&decide ((0:Int)<(↑s.length:Int))) (.ask ((↑(s.getD (Int.toNat 0) (0:UInt8)).toNat:Int) != (43:Int)) (.must (decide ((0:Int)≤(0:Int))&&decide ((0:Int)<(↑s.length:Int))) (.ask ((↑(s.getD (Int.toNat 0) (0:UInt8)).toNat:Int) != (45:Int)) (.must (decide ((0:Int)≤(0:Int))&&decide ((0:Int)<(↑s.length:Int))) (.ask ((↑(s.getD (Int.toNat 0) (0:UInt8)).toNat:Int) != (62:Int)) (.ret [C.str [],C.str [],C.int .i64 0,C.bool false]) (.must (decide ((0:Int)≤(0:Int))&&decide ((0:Int)<(↑s.length:Int))) (.ask (decide ((↑(s.getD (Int.toNat 0) (0:UInt8)).toNat:Int)=(45:Int))) (.must (decide ((0:Int)≤(1:Int))&&decide ((1:Int)≤(↑s.length:Int))) (.ret [C.str (List.drop (Int.toNat 1) (List.take s.length s)),C.str [],C.int .i64 0,C.bool true])) (H [Pt.r,Pt.r,Pt.r,Pt.l,Pt.r,Pt.b] 9223372036854775808 (aM9 (s) ((1:Int)))))))) (.must (decide ((0:Int)≤(0:Int))&&decide ((0:Int)<(↑s.length:Int))) (.ask (decide ((↑(s.getD (Int.toNat 0) (0:UInt8)).toNat:Int)=(45:Int))) (.must (decide ((0:Int)≤(1:Int))&&decide ((1:Int)≤(↑s.length:Int))) (.ret [C.str (List.drop (Int.toNat 1) (List.take s.length s)),C.str [],C.int .i64 0,C.bool true])) (H [Pt.r,Pt.r,Pt.r,Pt.l,Pt.r,Pt.b] 9223372036854775808 (aM9 (s) ((1:Int)))))))) (.must (decide ((0:Int)≤(0:Int))&&decide ((0:Int)<(↑s.length:Int))) (.ask (decide ((↑(s.getD (Int.toNat 0) (0:UInt8)).toNat:Int)=(45:Int))) (.must (decide ((0:Int)≤(1:Int))&&decide ((1:Int)≤(↑s.length:Int))) (.ret [C.str (List.drop (Int.toNat 1) (List.take s.length s)),C.str [],C.int .i64 0,C.bool true])) (H [Pt.r,Pt.r,Pt.r,Pt.l,Pt.r,Pt.b] 9223372036854775808 (aM9 (s) ((1:Int))))))))):T (List C)).eval:=aAo (by kernel_rfl)
theorem bE0 (H:List Pt→Nat→St→T (List C)) (s:List UInt8) (i:Int) (k:Nat):(aBk aWt aAb (sg [pS] [rS,rS,rI,rB]) Tryz.f169 H [Pt.r,Pt.r,Pt.r,Pt.l,Pt.r,Pt.b] k (aM9 s i)).eval=((.ask (decide (i<(↑s.length:Int))) (.must (decide ((0:Int)≤i)&&decide (i<(↑s.length:Int))) (.ask (decide ((↑(s.getD i.toNat (0:UInt8)).toNat:Int)=(58:Int))) (.must (decide ((0:Int)≤(0:Int))&&decide ((0:Int)<(↑s.length:Int))) (.ask (decide ((↑(s.getD (Int.toNat 0) (0:UInt8)).toNat:Int)=(62:Int))) (.must (decide ((0:Int)≤i)&&decide (i≤(↑s.length:Int))&&(decide ((0:Int)≤(1:Int))&&decide ((1:Int)≤i))) (.must (decide ((0:Int)≤IntKind.i64.wrap (i+(1:Int)))&&decide (IntKind.i64.wrap (i+(1:Int))≤(↑s.length:Int))) (.must (decide ((0:Int)≤IntKind.i64.wrap (i+(1:Int)))&&decide (IntKind.i64.wrap (i+(1:Int))≤(↑s.length:Int))) (.must (decide ((List.drop (IntKind.i64.wrap (i+(1:Int))).toNat (List.take s.length s)).length≤281474976710656)) (.ask (aDz (List.drop (IntKind.i64.wrap (i+(1:Int))).toNat (List.take s.length s))) (.must (decide ((0:Int)≤i)&&decide (i≤(↑s.length:Int))&&(decide ((0:Int)≤(1:Int))&&decide ((1:Int)≤i))) (.must (decide ((0:Int)≤IntKind.i64.wrap (i+(1:Int)))&&decide (IntKind.i64.wrap (i+(1:Int))≤(↑s.length:Int))) (.ask (!List.drop (Int.toNat 1) (List.take i.toNat s)==List.drop (IntKind.i64.wrap (i+(1:Int))).toNat (List.take s.length s)) (.ret [C.str (List.drop (Int.toNat 1) (List.take i.toNat s)),C.str (List.drop (IntKind.i64.wrap (i+(1:Int))).toNat (List.take s.length s)),C.int .i64 0,C.bool true]) (.ret [C.str (List.drop (Int.toNat 1) (List.take i.toNat s)),C.str (List.drop (IntKind.i64.wrap (i+(1:Int))).toNat (List.take s.length s)),C.int .i64 0,C.bool false])))) (.ret [C.str (List.drop (Int.toNat 1) (List.take i.toNat s)),C.str (List.drop (IntKind.i64.wrap (i+(1:Int))).toNat (List.take s.length s)),C.int .i64 0,C.bool false])))))) (.must (decide ((0:Int)≤i)&&decide (i<(↑s.length:Int))) (.ask (decide ((↑(s.getD i.toNat (0:UInt8)).toNat:Int)=(58:Int))) (.must (decide ((0:Int)≤IntKind.i64.wrap (i+(1:Int)))&&decide (IntKind.i64.wrap (i+(1:Int))≤(↑s.length:Int))) (.must (decide ((List.drop (IntKind.i64.wrap (i+(1:Int))).toNat (List.take s.length s)).length≤281474976710656)) (.ask (bHo (List.drop (IntKind.i64.wrap (i+(1:Int))).toNat (List.take s.length s))) (.must (decide ((0:Int)≤i)&&decide (i≤(↑s.length:Int))&&(decide ((0:Int)≤(1:Int))&&decide ((1:Int)≤i))) (.must (decide ((0:Int)≤i)&&decide (i≤(↑s.length:Int))&&(decide ((0:Int)≤(1:Int))&&decide ((1:Int)≤i))) (.must (decide ((List.drop (Int.toNat 1) (List.take i.toNat s)).length≤281474976710656)) (.ask (aDz (List.drop (Int.toNat 1) (List.take i.toNat s))) (.ret [C.str (List.drop (Int.toNat 1) (List.take i.toNat s)),C.str [],C.int .i64 (aNl (List.drop (IntKind.i64.wrap (i+(1:Int))).toNat (List.take s.length s))),C.bool true]) (.ret [C.str (List.drop (Int.toNat 1) (List.take i.toNat s)),C.str [],C.int .i64 (aNl (List.drop (IntKind.i64.wrap (i+(1:Int))).toNat (List.take s.length s))),C.bool false]))))) (.must (decide ((0:Int)≤i)&&decide (i≤(↑s.length:Int))&&(decide ((0:Int)≤(1:Int))&&decide ((1:Int)≤i))) (.ret [C.str (List.drop (Int.toNat 1) (List.take i.toNat s)),C.str [],C.int .i64 (aNl (List.drop (IntKind.i64.wrap (i+(1:Int))).toNat (List.take s.length s))),C.bool false]))))) (H [Pt.r,Pt.r,Pt.r,Pt.l,Pt.r,Pt.b] k (aM9 (s) (IntKind.i64.wrap (i+(1:Int))))))))) (.must (decide ((0:Int)≤i)&&decide (i<(↑s.length:Int))) (.ask (decide ((↑(s.getD i.toNat (0:UInt8)).toNat:Int)=(58:Int))) (.must (decide ((0:Int)≤IntKind.i64.wrap (i+(1:Int)))&&decide (IntKind.i64.wrap (i+(1:Int))≤(↑s.length:Int))) (.must (decide ((List.drop (IntKind.i64.wrap (i+(1:Int))).toNat (List.take s.length s)).length≤281474976710656)) (.ask (bHo (List.drop (IntKind.i64.wrap (i+(1:Int))).toNat (List.take s.length s))) (.must (decide ((0:Int)≤i)&&decide (i≤(↑s.length:Int))&&(decide ((0:Int)≤(1:Int))&&decide ((1:Int)≤i))) (.must (decide ((0:Int)≤i)&&decide (i≤(↑s.length:Int))&&(decide ((0:Int)≤(1:Int))&&decide ((1:Int)≤i))) (.must (decide ((List.drop (Int.toNat 1) (List.take i.toNat s)).length≤281474976710656)) (.ask (aDz (List.drop (Int.toNat 1) (List.take i.toNat s))) (.ret [C.str (List.drop (Int.toNat 1) (List.take i.toNat s)),C.str [],C.int .i64 (aNl (List.drop (IntKind.i64.wrap (i+(1:Int))).toNat (List.take s.length s))),C.bool true]) (.ret [C.str (List.drop (Int.toNat 1) (List.take i.toNat s)),C.str [],C.int .i64 (aNl (List.drop (IntKind.i64.wrap (i+(1:Int))).toNat (List.take s.length s))),C.bool false]))))) (.must (decide ((0:Int)≤i)&&decide (i≤(↑s.length:Int))&&(decide ((0:Int)≤(1:Int))&&decide ((1:Int)≤i))) (.ret [C.str (List.drop (Int.toNat 1) (List.take i.toNat s)),C.str [],C.int .i64 (aNl (List.drop (IntKind.i64.wrap (i+(1:Int))).toNat (List.take s.length s))),C.bool false]))))) (H [Pt.r,Pt.r,Pt.r,Pt.l,Pt.r,Pt.b] k (aM9 (s) (IntKind.i64.wrap (i+(1:Int))))))))) (.ret [C.str [],C.str [],C.int .i64 0,C.bool false])):T (List C)).eval:=aAo (by kernel_rfl)
theorem bZz:aA9 Tryz.prog bWc:=aA8 (by simp[])
theorem bOo:aB0 Tryz.prog 158 (sg [pI] [rU8]) bK7:=aA6 bZz aAa Tryz.func158 (by kernel_rfl) fun cs outs hk h=>by
 unfold bK7 at h
 split at h
 ·simp only[Option.some.injEq,Prod.mk.injEq,aBr]at h
  obtain⟨h1,rfl⟩:=h
  rename_i x
  rw[aAd,bS3]
  unfold bW1
  by_cases c:x<10
  ·have w:IntKind.u8.wrap (IntKind.i64.wrap (48+x))=48+x:=by rw[aAi,aOy]<;>omega
   rw[if_pos c,w]
   exact aAg (decide_eq_true c) rfl
  ·have w:IntKind.u8.wrap (IntKind.i64.wrap (IntKind.i64.wrap (97+x)-10))=87+x:=by
    have a:IntKind.i64.wrap (97+x)=97+x:=by rw[aAi]<;>omega
    rw[a,aAi,aOy]<;>omega
   rw[if_neg c,w]
   exact aAh (decide_eq_false c) rfl
 ·cases h
theorem bY4 (n:Nat):aBv [[C.int .u8 (bW1 ((n % 10:Nat):Int))]]=[cA0 (n % 10)]:=by
 have h:((n % 10:Nat):Int)<10:=by omega
 unfold bW1 cA0
 rw[if_pos h]
 show[UInt8.ofNat (48+((n % 10:Nat):Int)).toNat]=_
 have e:(48+((n % 10:Nat):Int)).toNat=48+n % 10:=by omega
 rw[e]
theorem bSf:∀ (f N n:Nat) (s:List UInt8),n<10^f→n≤9223372036854775807→f<N→s.length+f≤100 →
  (aBn bMc aAb (sg [pI] [rS]) Tryz.f144 [.r,.r,.r,.r,.l,.b] N (bH2 n s)).eval=some [.str (bKe f n s)]:=by
 intro f
 induction f with
 |zero =>
  intro N n s h1 h0 h2 h3
  obtain⟨N,rfl⟩:∃ q,N=q+1:=⟨N-1,by omega⟩
  have:n=0:=by simpa using h1
  subst this
  rw[aAz _ _ _ _ _ _ _ (by kernel_rfl),aWb]
  exact aAh rfl rfl
 |succ f ih =>
  intro N n s h1 h0 h2 h3
  obtain⟨N,rfl⟩:∃ q,N=q+1:=⟨N-1,by omega⟩
  rw[aAz _ _ _ _ _ _ _ (by kernel_rfl),aWb]
  by_cases hn:n=0
  ·subst hn
   exact aAh rfl rfl
  ·have m1:(n:Int).tmod 10=((n % 10:Nat):Int):=by rw[Int.tmod_eq_emod_of_nonneg (by omega)];omega
   have m2:(n:Int).tdiv 10=((n / 10:Nat):Int):=by rw[Int.tdiv_eq_ediv_of_nonneg (by omega)];omega
   have w:IntKind.i64.wrap ((n / 10:Nat):Int)=((n / 10:Nat):Int):=by rw[aAi]<;>omega
   have hi:inB ((n % 10:Nat):Int) 0 15=true:=by rw[aBr];omega
   have hd:n / 10<10^f:=by rw[Nat.div_lt_iff_lt_mul (by omega)];rw[Nat.pow_succ]at h1;exact h1
   have e:=ih N (n / 10) (cA0 (n % 10)::s) hd (by omega) (by omega) (by simp;omega)
   rw[m1,m2,w,bY4]
   unfold bKe
   rw[if_neg hn]
   exact aAg (by simp;omega) (aAh (decide_eq_false (by omega)) (aA5 hi (aA5 (decide_eq_true (by simp;omega)) e)))
theorem cA7:aA9 Tryz.prog bMc:=aA8 (by simp[bOo])
theorem aZe:aB0 Tryz.prog 144 (sg [pI] [rS]) bD3:=aA6 cA7 aAa Tryz.func144 (by kernel_rfl) fun cs outs hk h=>by
 unfold bD3 at h
 split at h
 ·simp only[Option.some.injEq,Prod.mk.injEq,aBr]at h
  obtain⟨h1,rfl⟩:=h
  rename_i x
  obtain⟨n,rfl⟩:=Int.eq_ofNat_of_zero_le h1.1
  rw[aAd,bSe]
  unfold aG2
  by_cases c:(n:Int)=0
  ·rw[if_pos c]
   exact aAg (decide_eq_true c) rfl
  ·rw[if_neg c]
   refine aAh (decide_eq_false c) (aAh (decide_eq_false (by omega)) ?_)
   exact bSf 20 9223372036854775808 n [] (by omega) (by omega) (by omega) (by simp)
 ·cases h
theorem bGu:∀ (f n:Nat) (s:List UInt8),(bKe f n s).length≤f+s.length
 |0,_,s=>by simp[bKe]
 |f+1,n,s=>by
  unfold bKe
  split
  ·omega
  ·have:=bGu f (n / 10) (cA0 (n % 10)::s)
   simp only[List.length_cons]at this
   omega
theorem bGt (n:Int):(aG2 n).length≤20:=by
 unfold aG2
 split
 ·simp
 ·have:=bGu 20 n.toNat []
  simpa using this
theorem bQl {t:List UInt8} (h:bVq t 0=none):bHo t=false∧aNl t=0:=by
 have:bHo t=false:=by unfold bHo;rw[h];simp
 exact⟨this,by unfold aNl;rw[this];rfl⟩
theorem bU2 (t:List UInt8) (ht:t.length≤10):∀ (N i n:Nat),i≤t.length→t.length<i+N→n<10^i→bVq t 0=bVq (t.drop i) n →
  (aBn bVf aAb (sg [pS] [rI,rB]) Tryz.f180 [.r,.r,.r,.l,.r,.b] N (bVe t n i)).eval=some [.int .i64 (aNl t),.bool (bHo t)]:=by
 intro N
 induction N with
 |zero=>intro i n h1 h2;omega
 |succ N ih =>
  intro i n h1 h2 h3 h4
  have p:10^i≤10^10:=Nat.pow_le_pow_right (by omega) (by omega)
  rw[aAz _ _ _ _ _ _ _ (by kernel_rfl),bNq]
  by_cases hi:i<t.length
  ·have hb:=aHp t i
   rw[aC3 t i 0 hi]at h4
   have m:(decide ((0:Int)≤i)&&decide ((i:Int)<t.length))=true:=by rw[decide_eq_true (by omega),decide_eq_true (by omega)];rfl
   rw[Int.toNat_natCast]
   simp only[bVq]at h4
   refine aAg (decide_eq_true (by omega)) (aA5 m ?_)
   by_cases c1:((t.getD i 0).toNat:Int)<48
   ·rw[if_pos c1]at h4
    obtain⟨e1,e2⟩:=bQl h4
    rw[e1,e2]
    exact aAg (decide_eq_true c1) rfl
   ·rw[if_neg c1]at h4
    refine aAh (decide_eq_false c1) (aA5 m ?_)
    by_cases c2:((t.getD i 0).toNat:Int)>57
    ·rw[if_pos c2]at h4
     obtain⟨e1,e2⟩:=bQl h4
     rw[e1,e2]
     exact aAg (decide_eq_true c2) rfl
    ·rw[if_neg c2]at h4
     refine aAh (decide_eq_false c2) (aA5 m ?_)
     have w:IntKind.i64.wrap (IntKind.i64.wrap (IntKind.i64.wrap (10*(n:Int))+IntKind.i64.wrap ((t.getD i 0).toNat:Int))-48)=((10*n+(t.getD i 0).toNat-48:Nat):Int):=by
      have a1:IntKind.i64.wrap (10*(n:Int))=10*(n:Int):=by rw[aAi]<;>omega
      have a2:IntKind.i64.wrap ((t.getD i 0).toNat:Int)=((t.getD i 0).toNat:Int):=by rw[aAi]<;>omega
      have a3:IntKind.i64.wrap (10*(n:Int)+((t.getD i 0).toNat:Int))=10*(n:Int)+((t.getD i 0).toNat:Int):=by rw[aAi]<;>omega
      rw[a1,a2,a3,aAi]<;>omega
     have w2:IntKind.i64.wrap ((i:Int)+1)=((i+1:Nat):Int):=by rw[aAi]<;>omega
     rw[w,w2]
     refine ih (i+1) _ (by omega) (by omega) (by rw[Nat.pow_succ];omega) ?_
     rw[h4]
     congr 1
     omega
  ·have e:i=t.length:=by omega
   subst e
   rw[List.drop_length]at h4
   simp only[bVq]at h4
   have hi':¬((t.length:Int)<(t.length:Int)):=by omega
   refine aAh (decide_eq_false hi') ?_
   have ok:bHo t=(decide ((n:Int)≤1000000000)&&decide (aG2 n=t)):=by unfold bHo;rw[h4,decide_eq_true ht];rfl
   have vl:aNl t=if bHo t then (n:Int)else 0:=by unfold aNl;rw[h4];rfl
   rw[vl,ok]
   by_cases c1:(1000000000:Int)<n
   ·rw[decide_eq_false (show ¬(n:Int)≤1000000000 by omega)]
    exact aAg (decide_eq_true c1) rfl
   ·rw[decide_eq_true (show (n:Int)≤1000000000 by omega)]
    refine aAh (decide_eq_false c1) (aA5 (by rw[aBr];omega) ?_)
    by_cases c2:aG2 n=t
    ·rw[decide_eq_true c2]
     exact aAh (by rw[c2];simp) rfl
    ·rw[decide_eq_false c2]
     exact aAg (by simpa using c2) rfl
theorem cAw:aA9 Tryz.prog bVf:=aA8 (by simp[aZe])
theorem bQn:aB0 Tryz.prog 180 (sg [pS] [rI,rB]) bQm:=aA6 cAw aAa Tryz.func180 (by kernel_rfl) fun cs outs hk h=>by
 unfold bQm at h
 split at h
 ·simp only[Option.some.injEq,Prod.mk.injEq,decide_eq_true_eq]at h
  obtain⟨h1,rfl⟩:=h
  rename_i t
  rw[aAd,bU1]
  by_cases c:(10:Int)<t.length
  ·have e:bHo t=false:=by unfold bHo;rw[decide_eq_false (by omega)];rfl
   have e2:aNl t=0:=by unfold aNl;rw[e];rfl
   rw[e,e2]
   exact aAg (decide_eq_true c) rfl
  ·exact aAh (decide_eq_false c) (bU2 t (by omega) 9223372036854775808 0 0 (by omega) (by omega) (by omega) rfl)
 ·cases h
theorem bEd (t:List UInt8) (ht:t.length≤281474976710656):∀ (N i:Nat),i≤t.length→t.length<i+N →
  (aBn aQs aAb (sg [pS] [rB]) Tryz.f142 [.r,.l,.r,.b] N (aIk t i)).eval=some [.bool ((t.drop i).all bR6&&inB t.length 1 20)]:=by
 intro N
 induction N with
 |zero=>intro i h1 h2;omega
 |succ N ih =>
  intro i h1 h2
  rw[aAz _ _ _ _ _ _ _ (by kernel_rfl),aXl]
  by_cases hi:i<t.length
  ·have hb:=aHp t i
   have m:(decide ((0:Int)≤i)&&decide ((i:Int)<t.length))=true:=by rw[decide_eq_true (by omega),decide_eq_true (by omega)];rfl
   have e:=ih (i+1) (by omega) (by omega)
   have w2:IntKind.i64.wrap ((i:Int)+1)=((i+1:Nat):Int):=by rw[aAi]<;>omega
   rw[Int.toNat_natCast,aC3 t i 0 hi,List.all_cons]
   generalize t.getD i 0=x at hb ⊢
   have w:IntKind.i64.wrap (x.toNat:Int)=x.toNat:=by rw[aAi]<;>omega
   rw[w,w2]
   refine aAg (decide_eq_true (by omega)) (aA5 m ?_)
   have nb:bR6 x=(inB (x.toNat:Int) 97 122||inB (x.toNat:Int) 48 57||decide ((x.toNat:Int)=46)||decide ((x.toNat:Int)=45)):=rfl
   rw[nb]
   cases c1:inB (x.toNat:Int) 97 122
   ·refine aAh rfl ?_
    cases c2:inB (x.toNat:Int) 48 57
    ·refine aAh rfl ?_
     by_cases c3:(x.toNat:Int)=46
     ·rw[decide_eq_true c3]
      refine aAh (by simp[c3]) ?_
      simpa using e
     ·rw[decide_eq_false c3]
      refine aAg (by simpa using c3) ?_
      by_cases c4:(x.toNat:Int)=45
      ·rw[decide_eq_true c4]
       refine aAh (by simp[c4]) ?_
       simpa using e
      ·rw[decide_eq_false c4]
       exact aAg (by simpa using c4) rfl
    ·refine aAg rfl ?_
     simpa using e
   ·refine aAg rfl ?_
    simpa using e
  ·have e:i=t.length:=by omega
   subst e
   have hi':¬((t.length:Int)<(t.length:Int)):=by omega
   rw[List.drop_length]
   refine aAh (decide_eq_false hi') ?_
   cases c:inB (t.length:Int) 1 20
   ·exact aAh rfl rfl
   ·exact aAg rfl rfl
theorem bPv:aA9 Tryz.prog aQs:=aA8 (by simp[aDg])
theorem aFt:aB0 Tryz.prog 142 (sg [pS] [rB]) aKk:=aA6 bPv aAa Tryz.func142 (by kernel_rfl) fun cs outs hk h=>by
 unfold aKk at h
 split at h
 ·simp only[Option.some.injEq,Prod.mk.injEq,decide_eq_true_eq]at h
  obtain⟨h1,rfl⟩:=h
  rename_i t
  rw[aAd,bEc]
  exact bEd t h1 9223372036854775808 0 (by omega) (by omega)
 ·cases h
theorem aMm {ns:List (List C)}:aZ3 ns=true↔aAt kNd ns=true∧ns.length≤16777216∧∀ x∈nds ns,x.text.length≤16777216:=by simp only[aZ3,dN,Bool.and_eq_true,decide_eq_true_eq,List.all_eq_true,and_assoc]
theorem aQ9 {es:List (List C)}:aJg es=true↔aAt kEn es=true∧es.length≤16777216∧∀ x∈ens es,x.name.length≤16777216:=by simp only[aJg,dN,Bool.and_eq_true,decide_eq_true_eq,List.all_eq_true,and_assoc]
theorem aIn {ss:List (List C)}:bTi ss=true↔aAt [.str] ss=true∧ss.length≤16777216∧∀ x∈aCm ss,x.length≤16777216:=by simp only[bTi,dN,Bool.and_eq_true,decide_eq_true_eq,List.all_eq_true,and_assoc]
theorem aMl {l:List Nd}:aZ3 (l.map eNd)=true↔l.length≤16777216∧∀ x∈l,x.text.length≤16777216:=by rw[aMm,aRb,aFw,List.length_map];simp
theorem aKq {l:List En}:aJg (l.map eEn)=true↔l.length≤16777216∧∀ x∈l,x.name.length≤16777216:=by rw[aQ9,aJk,aOp,List.length_map];simp
theorem bKv {l:List (List UInt8)}:bTi (l.map aAn)=true↔l.length≤16777216∧∀ x∈l,x.length≤16777216:=by rw[aIn,aEg,aIm,List.length_map];simp
theorem aKj {ns:List (List C)} (h:aZ3 ns=true):∃ l:List Nd,ns=l.map eNd∧nds ns=l∧l.length≤16777216∧∀ x∈l,x.text.length≤16777216:=by
 have hr:=aMh (aMm.1 h).1
 refine⟨nds ns,hr,rfl,?_,(aMm.1 h).2.2⟩
 have:=(aMm.1 h).2.1
 rw[hr,List.length_map]at this
 exact this
theorem aHn {es:List (List C)} (h:aJg es=true):∃ l:List En,es=l.map eEn∧ens es=l∧l.length≤16777216∧∀ x∈l,x.name.length≤16777216:=by
 have hr:=aKg (aQ9.1 h).1
 refine⟨ens es,hr,rfl,?_,(aQ9.1 h).2.2⟩
 have:=(aQ9.1 h).2.1
 rw[hr,List.length_map]at this
 exact this
theorem aTx {ss:List (List C)} (h:bTi ss=true):∃ l:List (List UInt8),ss=l.map aAn∧aCm ss=l∧l.length≤16777216∧∀ x∈l,x.length≤16777216:=by
 have hr:=aFu (aIn.1 h).1
 refine⟨aCm ss,hr,rfl,?_,(aIn.1 h).2.2⟩
 have:=(aIn.1 h).2.1
 rw[hr,List.length_map]at this
 exact this
theorem aIu {A:Type} {l:List A} {i:Nat} {d:A} (h:i<l.length):l.getD i d∈l:=by rw[List.getD_eq_getElem?_getD,List.getElem?_eq_getElem h];exact List.getElem_mem h
theorem at2 (n:Nat) (i:Nat) (h:i<n) (k m:Nat) (hk:k=m):(decide ((0:Int)≤i)&&decide ((i:Int)<n)&&decide (k=m))=true:=by
 rw[decide_eq_true (by omega),decide_eq_true (by omega),decide_eq_true hk];rfl
theorem bTd (l:List Nd) (h:∀ x∈l,x.text.length≤16777216):aEa l≤l.length*16777216:=by
 unfold aEa
 induction l with
 |nil=>simp
 |cons x l ih =>
  have h1:=h x List.mem_cons_self
  have h2:=ih fun y hy=>h y (List.mem_cons_of_mem _ hy)
  simp only[List.map_cons,List.sum_cons,List.length_cons]
  omega
theorem aYn (l:List Nd) (i:Nat) (hi:i<l.length):aEa (l.take (i+1))=aEa (l.take i)+(l.getD i ⟨0,[],0⟩).text.length:=by
 unfold aEa
 rw[List.take_add_one,List.map_append,List.sum_append]
 simp[List.getD_eq_getElem?_getD,hi]
theorem aYm (l:List Nd) (i:Nat):aEa (l.take i)≤aEa l:=by
 unfold aEa
 have:l.map (fun x=>x.text.length)=(l.take i).map (fun x=>x.text.length)++(l.drop i).map (fun x=>x.text.length):=by rw[←List.map_append,List.take_append_drop]
 rw[this,List.sum_append]
 omega
theorem bMj (l:List Nd) (es os ss:List (List C)) (r x:Int) (hl:l.length≤16777216) (ht:∀ x∈l,x.text.length≤16777216):∀ (N i:Nat),i≤l.length→l.length<i+N →
  (aBn aWr aAb (sg [aB4] [rI]) Tryz.f145 [.r,.r,.l,.r,.b] N (aWn (l.map eNd) es os ss r x (aEa (l.take i)) i)).eval=some [.int .i64 (aEa l)]:=by
 intro N
 induction N with
 |zero=>intro i h1 h2;omega
 |succ N ih =>
  intro i h1 h2
  rw[aAz _ _ _ _ _ _ _ (by kernel_rfl),bDx]
  by_cases hi:i<l.length
  ·have g:=aBa eNd l ⟨0,[],0⟩ i hi
   have e:=ih (i+1) (by omega) (by omega)
   have u:=aYn l i hi
   have u2:=aYm l (i+1)
   have u3:=bTd l ht
   have w2:IntKind.i64.wrap ((i:Int)+1)=((i+1:Nat):Int):=by rw[aAi]<;>omega
   have w:IntKind.i64.wrap ((aEa (l.take i):Int)+((l.getD i ⟨0,[],0⟩).text.length:Int))=((aEa (l.take (i+1)):Nat):Int):=by rw[aAi]<;>omega
   rw[List.length_map,Int.toNat_natCast,g,w2]
   refine aAg (decide_eq_true (by omega)) (aA5 (at2 _ _ hi _ _ rfl) (aA5 rfl ?_))
   show (aBn aWr aAb (sg [aB4] [rI]) Tryz.f145 [.r,.r,.l,.r,.b] N (aWn (l.map eNd) es os ss r x (IntKind.i64.wrap ((aEa (l.take i):Int)+((l.getD i ⟨0,[],0⟩).text.length:Int))) ((i+1:Nat):Int))).eval=_
   rw[w]
   exact e
  ·have e:i=l.length:=by omega
   subst e
   have hi':¬((l.length:Int)<(l.length:Int)):=by omega
   rw[List.take_length,List.length_map]
   exact aAh (decide_eq_false hi') rfl
theorem bWq:aA9 Tryz.prog aWr:=aA8 (by simp[])
theorem aU4:aB0 Tryz.prog 145 (sg [aB4] [rI]) aT3:=aA6 bWq aAa Tryz.func145 (by kernel_rfl) fun cs outs hk h=>by
 unfold aT3 at h
 split at h
 ·simp only[Option.some.injEq,Prod.mk.injEq]at h
  obtain⟨h1,rfl⟩:=h
  rename_i ns es os ss r x
  obtain⟨l,rfl,e,hl,ht⟩:=aKj h1
  rw[e,aAd,bMi]
  exact bMj l es os ss r x hl ht 9223372036854775808 0 (by omega) (by omega)
 ·cases h
def bNs (l:List En) (i:Nat):Option (List UInt8):=if i=0 then none else some (l.getD (i-1) ⟨[],0⟩).name
theorem bVs {ns:List (List C)} (h:aZ3 ns=true):(decide (ns.length≤aK9)&&aAt [K.int .i64,K.str,K.int .i64] ns)=true:=by
 obtain⟨h1,h2,_⟩:=aMm.1 h
 rw[decide_eq_true (show ns.length≤aK9 from Nat.le_trans h2 (by decide))]
 exact h1
theorem bB8 (ns es os ss:List (List C)) (r x:Int) (l:List En) (hn:aZ3 ns=true) (hl:l.length≤16777216) (ht:∀ x∈l,x.name.length≤16777216):∀ (N i:Nat),i≤l.length→l.length<i+N →
  (aBn aNe aAb (sg [aB4,pSl 100] [rB]) Tryz.f156 [.r,.l,.r,.b] N (aK1 ns es os ss r x (l.map eEn) i)).eval=some [.bool (aW5 (nds ns) (l.drop i) (bNs l i)&&decide (l.length≤16))]:=by
 intro N
 induction N with
 |zero=>intro i h1 h2;omega
 |succ N ih =>
  intro i h1 h2
  rw[aAz _ _ _ _ _ _ _ (by kernel_rfl),aUq]
  by_cases hi:i<l.length
  ·have g:=aBa eEn l ⟨[],0⟩ i hi
   have e:=ih (i+1) (by omega) (by omega)
   have w2:IntKind.i64.wrap ((i:Int)+1)=((i+1:Nat):Int):=by rw[aAi]<;>omega
   have hm:=ht _ (aIu (d:=⟨[],0⟩) hi)
   have pv:bNs l (i+1)=some (l.getD i ⟨[],0⟩).name:=by unfold bNs;rw[if_neg (by omega),Nat.add_sub_cancel]
   rw[pv]at e
   rw[List.length_map,Int.toNat_natCast,g,w2,aC3 l i ⟨[],0⟩ hi]
   have sp:∀ y q,aW5 (nds ns) (y::l.drop (i+1)) q=(aDz y.name&&decide (0≤aAv (nds ns) y.id)&&(match q with | none=>true | some q=>Op.bytesLess q y.name)&&aW5 (nds ns) (l.drop (i+1)) (some y.name)):=fun _ _=>rfl
   rw[sp]
   generalize l.getD i ⟨[],0⟩=y at hm e ⊢
   refine aAg (decide_eq_true (by omega)) (aA5 (at2 _ _ hi _ _ rfl) (aA5 rfl (aA5 (decide_eq_true (show y.name.length≤281474976710656 by omega)) ?_)))
   show (T.ask (aDz y.name) _ _).eval=_
   cases c1:aDz y.name
   ·exact aAh rfl rfl
   ·refine aAg rfl (aA5 (at2 _ _ hi _ _ rfl) (aA5 rfl (aA5 (bVs hn) ?_)))
    show (T.ask (decide (aAv (nds ns) y.id<0)) _ _).eval=_
    by_cases c2:aAv (nds ns) y.id<0
    ·rw[decide_eq_false (show ¬0≤aAv (nds ns) y.id by omega)]
     exact aAg (decide_eq_true c2) rfl
    ·rw[decide_eq_true (show 0≤aAv (nds ns) y.id by omega)]
     refine aAh (decide_eq_false c2) ?_
     by_cases c3:i=0
     ·subst c3
      refine aAh rfl ?_
      simpa[bNs]using e
     ·have hj:i-1<l.length:=by omega
      have w3:IntKind.i64.wrap ((i:Int)-1)=((i-1:Nat):Int):=by rw[aAi]<;>omega
      have g2:=aBa eEn l ⟨[],0⟩ (i-1) hj
      rw[w3,Int.toNat_natCast,g2]
      have pv2:bNs l i=some (l.getD (i-1) ⟨[],0⟩).name:=by unfold bNs;rw[if_neg c3]
      rw[pv2]
      generalize l.getD (i-1) ⟨[],0⟩=z
      refine aAg (decide_eq_true (by omega)) (aA5 (at2 _ _ hj _ _ rfl) (aA5 rfl (aA5 (at2 _ _ hi _ _ rfl) (aA5 rfl ?_))))
      show (T.ask (!Op.bytesLess z.name y.name) _ _).eval=some [C.bool (true&&true&&Op.bytesLess z.name y.name&&_&&_)]
      cases c4:Op.bytesLess z.name y.name
      ·exact aAg rfl rfl
      ·refine aAh rfl ?_
       simpa using e
  ·have e:i=l.length:=by omega
   subst e
   have hi':¬((l.length:Int)<(l.length:Int)):=by omega
   rw[List.drop_length,List.length_map]
   refine aAh (decide_eq_false hi') ?_
   by_cases c:(l.length:Int)≤16
   ·rw[decide_eq_true (show l.length≤16 by omega)]
    exact aAg (decide_eq_true c) rfl
   ·rw[decide_eq_false (show ¬l.length≤16 by omega)]
    exact aAh (decide_eq_false c) rfl
theorem bNa:aA9 Tryz.prog aNe:=aA8 (by simp[aHt,aFt])
theorem aXq:aB0 Tryz.prog 156 (sg [aB4,pSl 100] [rB]) aOo:=aA6 bNa aAa Tryz.func156 (by kernel_rfl) fun cs outs hk h=>by
 unfold aOo at h
 split at h
 ·simp only[Option.some.injEq,Prod.mk.injEq,Bool.and_eq_true]at h
  obtain⟨⟨h1,h2⟩,rfl⟩:=h
  rename_i ns es os ss r x l0
  obtain⟨l,rfl,e,hl,ht⟩:=aHn h2
  rw[e,aAd,bB7]
  exact bB8 ns es os ss r x l h1 hl ht 9223372036854775808 0 (by omega) (by omega)
 ·cases h
theorem cB2 {u v:En} (h:¬u=v):(!(u.name==v.name&&(decide (u.id=v.id)&&true)))=true:=by
 cases u;cases v
 simp at h ⊢
 exact Decidable.or_iff_not_imp_left.2 (fun c=>h (Decidable.not_not.1 c))
theorem bMv (x y:List En) (hx:x.length≤16777216) (hl:x.length=y.length):∀ (n i:Nat),i≤x.length→x.length<i+n→x.take i=y.take i →
  (aBn bDe aAb (sg [pSl 100,pSl 100] [rB]) Tryz.f157 [.r,.r,.l,.r,.b] n (bDa (x.map eEn) (y.map eEn) i)).eval=some [.bool (decide (x=y))]:=by
 intro n
 induction n with
 |zero=>intro i h1 h2;omega
 |succ n ih =>
  intro i h1 h2 h3
  rw[aAz _ _ _ _ _ _ _ (by kernel_rfl),bE1]
  by_cases hi:i<x.length
  ·have hi2:i<y.length:=by omega
   have w:IntKind.i64.wrap ((i:Int)+1)=((i+1:Nat):Int):=by rw[aAi]<;>omega
   have g:=aBa eEn x ⟨[],0⟩ i hi
   have g2:=aBa eEn y ⟨[],0⟩ i hi2
   rw[List.length_map,List.length_map,Int.toNat_natCast,g,g2,w]
   refine aAg (decide_eq_true (by omega)) (aA5 (at2 _ _ hi _ _ rfl) (aA5 rfl (aA5 (at2 _ _ hi2 _ _ rfl) (aA5 rfl ?_))))
   show (T.ask (!((x.getD i ⟨[],0⟩).name==(y.getD i ⟨[],0⟩).name&&(decide ((x.getD i ⟨[],0⟩).id=(y.getD i ⟨[],0⟩).id)&&true))) _ _).eval=_
   by_cases hxy:x.getD i ⟨[],0⟩=y.getD i ⟨[],0⟩
   ·have e:=ih (i+1) (by omega) (by omega) (aS1 ⟨[],0⟩ hi hi2 h3 hxy)
    exact aAh (by rw[hxy];simp) e
   ·have:x≠y:=fun h=>hxy (by rw[h])
    rw[decide_eq_false this]
    exact aAg (cB2 hxy) rfl
  ·have e1:i=x.length:=by omega
   have:x=y:=by
    rw[e1,List.take_length,hl,List.take_length]at h3
    exact h3
   rw[decide_eq_true this,List.length_map]
   exact aAh (decide_eq_false (by omega)) rfl
theorem bWv:aA9 Tryz.prog bDe:=aA8 (by simp[])
theorem bI5:aB0 Tryz.prog 157 (sg [pSl 100,pSl 100] [rB]) bAe:=aA6 bWv aAa Tryz.func157 (by kernel_rfl) fun cs outs hk h=>by
 unfold bAe at h
 split at h
 ·simp only[Option.some.injEq,Prod.mk.injEq,Bool.and_eq_true]at h
  obtain⟨⟨h1,h2⟩,rfl⟩:=h
  rename_i x0 y0
  obtain⟨x,rfl,e,hl,ht⟩:=aHn h1
  obtain⟨y,rfl,e2,hl2,ht2⟩:=aHn h2
  rw[e,e2,aAd,bMu,List.length_map,List.length_map]
  by_cases c:x.length=y.length
  ·exact aAh (by simp[c]) (bMv x y hl c _ 0 (by omega) (by omega) rfl)
  ·have:x≠y:=fun h=>c (by rw[h])
   rw[decide_eq_false this]
   exact aAg (by simp;omega) rfl
 ·cases h
theorem bFf (e:En):∀ (l:List En) (d:Bool),(aHv e l d).length≤l.length+(if d then 0 else 1)
 |[],d=>by cases d<;>simp[aHv]
 |x::r,d=>by
  have h:=bFf e r (d||geB x.name e.name)
  unfold aHv
  simp only[List.length_append,List.length_cons]
  cases d
  ·cases c:geB x.name e.name
   ·rw[c]at h
    simp only[Bool.or_false,Bool.false_eq_true,if_false,List.length_nil]at h ⊢
    split<;>simp<;>omega
   ·rw[c]at h
    simp only[Bool.or_true,if_true,Bool.false_eq_true,if_false,List.length_cons,List.length_nil]at h ⊢
    split<;>simp<;>omega
  ·simp only[Bool.true_or,if_true,List.length_nil]at h ⊢
   split<;>simp<;>omega
theorem bFe (e:En):∀ (l:List En) (d:Bool) (y:En),y∈aHv e l d→y=e∨y∈l
 |[],d,y,h=>by cases d<;>simp[aHv]at h;exact .inl h
 |x::r,d,y,h=>by
  unfold aHv at h
  simp only[List.mem_append]at h
  rcases h with (h | h) | h
  ·left
   split at h
   ·cases h
   ·split at h
    ·simpa using h
    ·cases h
  ·right
   split at h
   ·cases h
   ·simp at h;rw[h];exact List.mem_cons_self
  ·rcases bFe e r _ y h with h | h
   ·exact .inl h
   ·exact .inr (List.mem_cons_of_mem _ h)
theorem aPu (l:List En) (e:En):(bFg l e).length≤l.length+1:=bFf e l false
theorem aPt {l:List En} {e y:En} (h:y∈bFg l e):y=e∨y∈l:=bFe e l false y h
theorem aJv (l:List En) (nm:List UInt8):(aG1 l nm).length≤l.length:=List.length_filter_le _ _
theorem aJu {l:List En} {nm:List UInt8} {y:En} (h:y∈aG1 l nm):y∈l:=(List.mem_filter.1 h).1
theorem cAg (o:List En) (nm:List UInt8) (id:Int):(o.map eEn).append [[C.str nm,C.int .i64 id]]=(o++[(⟨nm,id⟩:En)]).map eEn:=by simp
theorem aYy (o:List En) (h:o.length≤100000000):(decide (o.length=(o.map eEn).length)&&aBe ((o.map eEn).length+1) 24&&(decide ((Nat.add 1 0).succ=2)&&true))=true:=by
 have r:aBe ((o.map eEn).length+1) 24=true:=by rw[List.length_map];simp only[aBe,decide_eq_true_eq];omega
 rw[r,decide_eq_true (List.length_map _).symm];rfl
theorem bXb (o:List En):(decide (o.length=(o.map eEn).length)&&(false||(o.map eEn).all fun r=>r.all C.flat)&&true&&true&&true)=true:=by
 rw[bCv,decide_eq_true (List.length_map _).symm];rfl
theorem bMz (l:List En) (nm:List UInt8) (id:Int) (hl:l.length≤16777216):∀ (N i:Nat) (o:List En),i≤l.length→l.length<i+N→o.length≤i+1 →
  (aBn aZq aAb (sg [pSl 100,aJm] [rSl 100]) Tryz.f143 [.r,.r,.r,.l,.r,.b] N (aRx (l.map eEn) nm id o.length (o.map eEn) i)).eval=some [.sl ((o++aHv ⟨nm,id⟩ (l.drop i) true).map eEn)]:=by
 intro N
 induction N with
 |zero=>intro i o h1 h2;omega
 |succ N ih =>
  intro i o h1 h2 h3
  rw[aAz _ _ _ _ _ _ _ (by kernel_rfl),bE6]
  by_cases hi:i<l.length
  ·have g:=aBa eEn l ⟨[],0⟩ i hi
   have w2:IntKind.i64.wrap ((i:Int)+1)=((i+1:Nat):Int):=by rw[aAi]<;>omega
   have e:=fun q:List En=>ih (i+1) q (by omega) (by omega)
   have sp:∀ x,aHv ⟨nm,id⟩ (x::l.drop (i+1)) true=[]++(if x.name=nm then[]else[x])++aHv ⟨nm,id⟩ (l.drop (i+1)) true:=fun x=>rfl
   rw[List.length_map,Int.toNat_natCast,g,w2,aC3 l i ⟨[],0⟩ hi,sp]
   generalize l.getD i ⟨[],0⟩=y
   refine aAg (decide_eq_true (by omega)) (aA5 (at2 _ _ hi _ _ rfl) (aA5 rfl ?_))
   show (T.ask (!y.name==nm) _ _).eval=_
   by_cases c:y.name=nm
   ·rw[if_pos c]
    exact aAh (by simp[c]) (e o (by omega))
   ·rw[if_neg c]
    refine aAg (by simpa using c) (aA5 (at2 _ _ hi _ _ rfl) (aA5 rfl (aA5 (aYy o (by omega)) ?_)))
    have e2:=e (o++[y]) (by simp;omega)
    have ap:=cAg o y.name y.id
    rw[←List.length_map (f:=eEn),←ap]at e2
    rw[show (o++([]++[y]++aHv ⟨nm,id⟩ (l.drop (i+1)) true))=o++[y]++aHv ⟨nm,id⟩ (l.drop (i+1)) true by simp]
    rw[←e2]
    simp[C.toStr,C.toInt]
  ·have e:i=l.length:=by omega
   subst e
   rw[List.drop_length,List.length_map]
   refine aAh (decide_eq_false (by omega)) (aA5 (bXb o) ?_)
   simp[aHv]
   rfl
theorem bN0 (l:List En) (nm:List UInt8) (id:Int) (hl:l.length≤16777216):∀ (N i:Nat) (o:List En),i≤l.length→l.length<i+N→o.length≤i →
  (aBn aZq aAb (sg [pSl 100,aJm] [rSl 100]) Tryz.f143 [.r,.r,.r,.l,.r,.b] N (aWp (l.map eEn) nm id o.length (o.map eEn) i)).eval=some [.sl ((o++aHv ⟨nm,id⟩ (l.drop i) false).map eEn)]:=by
 intro N
 induction N with
 |zero=>intro i o h1 h2;omega
 |succ N ih =>
  intro i o h1 h2 h3
  have ap:=cAg o nm id
  have al:(o++[(⟨nm,id⟩:En)]).length=o.length+1:=by simp
  rw[aAz _ _ _ _ _ _ _ (by kernel_rfl),bE7]
  by_cases hi:i<l.length
  ·have g:=aBa eEn l ⟨[],0⟩ i hi
   have w2:IntKind.i64.wrap ((i:Int)+1)=((i+1:Nat):Int):=by rw[aAi]<;>omega
   have e:=fun q:List En=>ih (i+1) q (by omega) (by omega)
   have eb:=fun q:List En=>bMz l nm id hl N (i+1) q (by omega) (by omega)
   have sp:∀ x,aHv ⟨nm,id⟩ (x::l.drop (i+1)) false=(if geB x.name nm then[⟨nm,id⟩]else[])++(if x.name=nm then[]else[x])++aHv ⟨nm,id⟩ (l.drop (i+1)) (geB x.name nm):=fun x=>rfl
   rw[List.length_map,Int.toNat_natCast,g,w2,aC3 l i ⟨[],0⟩ hi,sp,ap]
   generalize l.getD i ⟨[],0⟩=y
   refine aAg (decide_eq_true (by omega)) (aA5 (at2 _ _ hi _ _ rfl) (aA5 rfl ?_))
   show (T.ask (geB y.name nm) _ _).eval=_
   cases c1:geB y.name nm
   ·refine aAh rfl (aA5 (at2 _ _ hi _ _ rfl) (aA5 rfl ?_))
    show (T.ask (!y.name==nm) _ _).eval=_
    by_cases c:y.name=nm
    ·rw[if_pos c]
     exact aAh (by simp[c]) (e o (by omega))
    ·rw[if_neg c]
     refine aAg (by simpa using c) (aA5 (at2 _ _ hi _ _ rfl) (aA5 rfl (aA5 (aYy o (by omega)) ?_)))
     have e2:=e (o++[y]) (by simp;omega)
     have ap:=cAg o y.name y.id
     rw[←List.length_map (f:=eEn),←ap]at e2
     simp only[Bool.false_eq_true,if_false]
     rw[show (o++([]++[y]++aHv ⟨nm,id⟩ (l.drop (i+1)) false))=o++[y]++aHv ⟨nm,id⟩ (l.drop (i+1)) false by simp]
     rw[←e2]
     simp[C.toStr,C.toInt]
   ·refine aAg rfl (aA5 (aYy o (by omega)) (aA5 (at2 _ _ hi _ _ rfl) (aA5 rfl ?_)))
    show (T.ask (!y.name==nm) _ _).eval=_
    rw[if_pos rfl]
    by_cases c:y.name=nm
    ·rw[if_pos c]
     refine aAh (by simp[c]) ?_
     have e2:=eb (o++[⟨nm,id⟩]) (by simp;omega)
     rw[List.length_append]at e2
     simp only[List.append_nil]
     rw[show (o++([⟨nm,id⟩]++aHv ⟨nm,id⟩ (l.drop (i+1)) true))=o++[⟨nm,id⟩]++aHv ⟨nm,id⟩ (l.drop (i+1)) true by simp]
     rw[←e2,List.length_map]
     rfl
    ·rw[if_neg c]
     have r2:=aYy (o++[⟨nm,id⟩]) (by simp;omega)
     have r3:(decide ((o.map eEn).length+1=((o++[(⟨nm,id⟩:En)]).map eEn).length)&&aBe (((o++[(⟨nm,id⟩:En)]).map eEn).length+1) 24&&(decide ((Nat.add 1 0).succ=2)&&true))=true:=by
      rw[al]at r2;rw[List.length_map];exact r2
     refine aAg (by simpa using c) (aA5 (at2 _ _ hi _ _ rfl) (aA5 rfl (aA5 r3 ?_)))
     have e2:=eb (o++[⟨nm,id⟩]++[y]) (by simp;omega)
     have ap:=cAg (o++[⟨nm,id⟩]) y.name y.id
     rw[←List.length_map (f:=eEn),←ap]at e2
     rw[show (o++([⟨nm,id⟩]++[y]++aHv ⟨nm,id⟩ (l.drop (i+1)) true))=o++[⟨nm,id⟩]++[y]++aHv ⟨nm,id⟩ (l.drop (i+1)) true by simp]
     rw[←e2]
     simp[C.toStr,C.toInt]
  ·have e:i=l.length:=by omega
   subst e
   rw[List.drop_length,List.length_map,ap]
   refine aAh (decide_eq_false (by omega)) (aA5 (aYy o (by omega)) (aA5 ?_ ?_))
   ·have r2:=bXb (o++[⟨nm,id⟩])
    rw[al]at r2
    rw[List.length_map]
    exact r2
   ·simp[aHv]
    rfl
theorem bYz:aA9 Tryz.prog aZq:=aA8 (by simp[])
theorem aR7:aB0 Tryz.prog 143 (sg [pSl 100,aJm] [rSl 100]) aV1:=aA6 bYz aAa Tryz.func143 (by kernel_rfl) fun cs outs hk h=>by
 unfold aV1 at h
 split at h
 ·simp only[Option.some.injEq,Prod.mk.injEq]at h
  obtain⟨h1,rfl⟩:=h
  rename_i l0 nm id
  obtain⟨l,rfl,e,hl,ht⟩:=aHn h1
  unfold aFk bFg
  rw[e,aAd,bPq]
  exact bN0 l nm id hl 9223372036854775808 0 [] (by omega) (by omega) (by simp)
 ·cases h
theorem bNd (l:List En) (nm:List UInt8) (hl:l.length≤16777216):∀ (N i:Nat) (o:List En),i≤l.length→l.length<i+N→o.length≤i →
  (aBn bDg aAb (sg [pSl 100,pS] [rSl 100]) Tryz.f140 [.r,.r,.l,.r,.b] N (aWq (l.map eEn) nm o.length (o.map eEn) i)).eval=some [.sl ((o++aG1 (l.drop i) nm).map eEn)]:=by
 intro N
 induction N with
 |zero=>intro i o h1 h2;omega
 |succ N ih =>
  intro i o h1 h2 h3
  rw[aAz _ _ _ _ _ _ _ (by kernel_rfl),bEp]
  by_cases hi:i<l.length
  ·have g:=aBa eEn l ⟨[],0⟩ i hi
   have w2:IntKind.i64.wrap ((i:Int)+1)=((i+1:Nat):Int):=by rw[aAi]<;>omega
   have e:=fun q:List En=>ih (i+1) q (by omega) (by omega)
   have sp:∀ x,aG1 (x::l.drop (i+1)) nm=(if x.name=nm then[]else[x])++aG1 (l.drop (i+1)) nm:=fun x=>by
    unfold aG1
    rw[List.filter_cons]
    by_cases c:x.name=nm<;>simp[c]
   rw[List.length_map,Int.toNat_natCast,g,w2,aC3 l i ⟨[],0⟩ hi,sp]
   generalize l.getD i ⟨[],0⟩=y
   refine aAg (decide_eq_true (by omega)) (aA5 (at2 _ _ hi _ _ rfl) (aA5 rfl ?_))
   show (T.ask (!y.name==nm) _ _).eval=_
   by_cases c:y.name=nm
   ·rw[if_pos c]
    exact aAh (by simp[c]) (e o (by omega))
   ·rw[if_neg c]
    refine aAg (by simpa using c) (aA5 (at2 _ _ hi _ _ rfl) (aA5 rfl (aA5 (aYy o (by omega)) ?_)))
    have e2:=e (o++[y]) (by simp;omega)
    have ap:=cAg o y.name y.id
    rw[←List.length_map (f:=eEn),←ap]at e2
    rw[show (o++([y]++aG1 (l.drop (i+1)) nm))=o++[y]++aG1 (l.drop (i+1)) nm by simp]
    rw[←e2]
    simp[C.toStr,C.toInt]
  ·have e:i=l.length:=by omega
   subst e
   rw[List.drop_length,List.length_map]
   refine aAh (decide_eq_false (by omega)) (aA5 (bXb o) ?_)
   simp[aG1]
   rfl
theorem bX1:aA9 Tryz.prog bDg:=aA8 (by simp[])
theorem aOe:aB0 Tryz.prog 140 (sg [pSl 100,pS] [rSl 100]) aQb:=aA6 bX1 aAa Tryz.func140 (by kernel_rfl) fun cs outs hk h=>by
 unfold aQb at h
 split at h
 ·simp only[Option.some.injEq,Prod.mk.injEq]at h
  obtain⟨h1,rfl⟩:=h
  rename_i l0 nm
  obtain⟨l,rfl,e,hl,ht⟩:=aHn h1
  unfold aBg
  rw[e,aAd,bNc]
  exact bNd l nm hl 9223372036854775808 0 [] (by omega) (by omega) (by simp)
 ·cases h
theorem bMr (s:List UInt8) (hs:aHs s=true) (h45:¬aBo s=45) (hl:s.length≤281474976710656):∀ (N i:Nat),1≤i→i≤s.length→s.length<i+N→aRt s=aD3 aVg (s.drop i) i →
  (aBn aWt aAb (sg [pS] [rS,rS,rI,rB]) Tryz.f169 [.r,.r,.r,.l,.r,.b] N (aM9 s i)).eval=some [.str (aAw s),.str (aO9 s),.int .i64 (aQv s),.bool (aGa s)]:=by
 have h2:2≤s.length:=by
  unfold aHs at hs
  simp only[Bool.and_eq_true,decide_eq_true_eq]at hs
  exact hs.1
 intro N
 induction N with
 |zero=>intro i h1 h2;omega
 |succ N ih =>
  intro i h0 h1 h3 hc
  rw[aAz _ _ _ _ _ _ _ (by kernel_rfl),bE0]
  by_cases hi:i<s.length
  ·have w2:IntKind.i64.wrap ((i:Int)+1)=((i+1:Nat):Int):=by rw[aAi]<;>omega
   have m:(decide ((0:Int)≤i)&&decide ((i:Int)<s.length))=true:=by rw[decide_eq_true (by omega),decide_eq_true (by omega)];rfl
   have m0:(decide ((0:Int)≤0)&&decide ((0:Int)<s.length))=true:=by rw[decide_eq_true (by omega),decide_eq_true (by omega)];rfl
   have m1:(decide ((0:Int)≤i)&&decide ((i:Int)≤s.length)&&(decide ((0:Int)≤1)&&decide ((1:Int)≤i)))=true:=by
    rw[decide_eq_true (by omega),decide_eq_true (by omega),decide_eq_true (by omega),decide_eq_true (by omega)];rfl
   have m2:(decide ((0:Int)≤((i+1:Nat):Int))&&decide (((i+1:Nat):Int)≤s.length))=true:=by rw[decide_eq_true (by omega),decide_eq_true (by omega)];rfl
   have d1:(s.drop (i+1)).length≤281474976710656:=by rw[List.length_drop];omega
   have d2:((s.take i).drop 1).length≤281474976710656:=by rw[List.length_drop,List.length_take];omega
   rw[aC3 s i 0 hi]at hc
   simp only[aD3]at hc
   rw[w2,Int.toNat_natCast,Int.toNat_natCast,List.take_length]
   refine aAg (decide_eq_true (by omega)) (aA5 m ?_)
   by_cases c:((s.getD i 0).toNat:Int)=58
   ·have c':(s.getD i 0).toNat=58:=by omega
    rw[if_pos (show aVg (s.getD i 0)=true from decide_eq_true c')]at hc
    have cn:¬aRt s<0:=by omega
    have cp:0≤aRt s:=by omega
    have fr:aYt s=(s.take i).drop 1:=by unfold aYt;rw[hc,Int.toNat_natCast]
    have re:aS2 s=s.drop (i+1):=by unfold aS2;rw[hc,Int.toNat_natCast]
    have nm:aAw s=(s.take i).drop 1:=by unfold aAw;rw[if_pos hs,if_neg h45,if_neg cn,fr]
    refine aAg (decide_eq_true c) (aA5 m0 ?_)
    show (T.ask (decide (aBo s=62)) _ _).eval=_
    by_cases c2:aBo s=62
    ·have to:aO9 s=s.drop (i+1):=by unfold aO9;rw[hs,decide_eq_true c2,decide_eq_true cp,re];rfl
     have id0:aQv s=0:=by unfold aQv;rw[hs,decide_eq_false (show ¬aBo s=43 by omega)];rfl
     have gd:aGa s=(aDz (s.drop (i+1))&& !decide ((s.take i).drop 1=s.drop (i+1))):=by
      unfold aGa;rw[hs,decide_eq_false h45,decide_eq_true cp,if_pos c2,fr,re];rfl
     rw[nm,to,id0,gd]
     refine aAg (decide_eq_true c2) (aA5 m1 (aA5 m2 (aA5 m2 (aA5 (decide_eq_true d1) ?_))))
     cases c3:aDz (s.drop (i+1))
     ·exact aAh rfl rfl
     ·refine aAg rfl (aA5 m1 (aA5 m2 ?_))
      by_cases c4:(s.take i).drop 1=s.drop (i+1)
      ·rw[decide_eq_true c4]
       refine aAh ?_ rfl
       show (!(List.drop 1 (List.take i s)==List.drop (i+1) s))=false
       rw[c4];simp
      ·rw[decide_eq_false c4]
       refine aAg ?_ rfl
       show (!(List.drop 1 (List.take i s)==List.drop (i+1) s))=true
       simpa using c4
    ·have c43:aBo s=43:=by
      unfold aHs at hs
      simp only[Bool.and_eq_true,Bool.or_eq_true,decide_eq_true_eq]at hs
      omega
     have to:aO9 s=[]:=by unfold aO9;rw[hs,decide_eq_false c2];rfl
     have id0:aQv s=aNl (s.drop (i+1)):=by unfold aQv;rw[hs,decide_eq_true c43,decide_eq_true cp,re];rfl
     have gd:aGa s=(bHo (s.drop (i+1))&&aDz ((s.take i).drop 1)):=by
      unfold aGa;rw[hs,decide_eq_false h45,decide_eq_true cp,if_neg c2,fr,re];rfl
     rw[nm,to,id0,gd]
     refine aAh (decide_eq_false c2) (aA5 m (aAg (decide_eq_true c) (aA5 m2 (aA5 (decide_eq_true d1) ?_))))
     cases c3:bHo (s.drop (i+1))
     ·exact aAh rfl (aA5 m1 rfl)
     ·refine aAg rfl (aA5 m1 (aA5 m1 (aA5 (decide_eq_true d2) ?_)))
      show (T.ask (aDz ((s.take i).drop 1)) _ _).eval=_
      cases c4:aDz ((s.take i).drop 1)
      ·exact aAh rfl rfl
      ·exact aAg rfl rfl
   ·have c':¬(s.getD i 0).toNat=58:=by omega
    rw[if_neg (show ¬aVg (s.getD i 0)=true by unfold aVg;simpa using c')]at hc
    exact aAh (decide_eq_false c) (aA5 m (aAh (decide_eq_false c) (ih (i+1) (by omega) (by omega) (by omega) hc)))
  ·have e:i=s.length:=by omega
   subst e
   rw[List.drop_length]at hc
   have cn:aRt s= -1:=hc
   have nm:aAw s=[]:=by unfold aAw;rw[if_pos hs,if_neg h45,if_pos (by omega)]
   have to:aO9 s=[]:=by unfold aO9;rw[decide_eq_false (show ¬0≤aRt s by omega)];simp
   have id0:aQv s=0:=by unfold aQv;rw[decide_eq_false (show ¬0≤aRt s by omega)];simp
   have gd:aGa s=false:=by unfold aGa;rw[decide_eq_false h45,decide_eq_false (show ¬0≤aRt s by omega)];simp
   rw[nm,to,id0,gd]
   exact aAh (decide_eq_false (by omega)) rfl
theorem bKw {s:List UInt8} (h:aHs s=false):aAw s=[]∧aO9 s=[]∧aQv s=0∧aGa s=false:=by
 refine⟨?_,?_,?_,?_⟩
 ·unfold aAw;rw[h];rfl
 ·unfold aO9;rw[h];rfl
 ·unfold aQv;rw[h];rfl
 ·unfold aGa;rw[h];rfl
theorem bWt:aA9 Tryz.prog aWt:=aA8 (by simp[bQn,aFt])
theorem bI3:aB0 Tryz.prog 169 (sg [pS] [rS,rS,rI,rB]) bAb:=aA6 bWt aAa Tryz.func169 (by kernel_rfl) fun cs outs hk h=>by
 unfold bAb at h
 split at h
 ·simp only[Option.some.injEq,Prod.mk.injEq,decide_eq_true_eq]at h
  obtain⟨h1,rfl⟩:=h
  rename_i s
  rw[aAd,bMq,List.take_length]
  by_cases c:(s.length:Int)<2
  ·have hn:aHs s=false:=by unfold aHs;rw[decide_eq_false (by omega)];rfl
   obtain⟨e1,e2,e3,e4⟩:=bKw hn
   rw[e1,e2,e3,e4]
   exact aAg (decide_eq_true c) rfl
  ·have m0:(decide ((0:Int)≤0)&&decide ((0:Int)<s.length))=true:=by rw[decide_eq_true (by omega),decide_eq_true (by omega)];rfl
   have m1:(decide ((0:Int)≤1)&&decide ((1:Int)≤s.length))=true:=by rw[decide_eq_true (by omega),decide_eq_true (by omega)];rfl
   have go:¬aBo s=45→aHs s=true→(aBn aWt aAb (sg [pS] [rS,rS,rI,rB]) Tryz.f169 [.r,.r,.r,.l,.r,.b] 9223372036854775808 (aM9 s 1)).eval=some [.str (aAw s),.str (aO9 s),.int .i64 (aQv s),.bool (aGa s)]:=fun a b=>bMr s b a h1 9223372036854775808 1 (by omega) (by omega) (by omega) rfl
   have is:aHs s=(decide (aBo s=43)||decide (aBo s=45)||decide (aBo s=62)):=by unfold aHs;rw[decide_eq_true (by omega)];rfl
   have minus:aBo s=45→aAw s=s.drop 1∧aO9 s=[]∧aQv s=0∧aGa s=true:=fun h45=>by
    have hi:aHs s=true:=by rw[is,decide_eq_true h45];simp
    refine⟨?_,?_,?_,?_⟩
    ·unfold aAw;rw[if_pos hi,if_pos h45]
    ·unfold aO9;rw[decide_eq_false (show ¬aBo s=62 by omega)];simp
    ·unfold aQv;rw[decide_eq_false (show ¬aBo s=43 by omega)];simp
    ·unfold aGa;rw[hi,decide_eq_true h45];rfl
   refine aAh (decide_eq_false c) (aA5 m0 ?_)
   show (T.ask (aBo s != 43) _ _).eval=_
   by_cases c43:aBo s=43
   ·refine aAh (by rw[c43];rfl) (aA5 m0 ?_)
    show (T.ask (decide (aBo s=45)) _ _).eval=_
    exact aAh (decide_eq_false (by omega)) (go (by omega) (by rw[is,decide_eq_true c43];rfl))
   ·refine aAg (by simpa using c43) (aA5 m0 ?_)
    show (T.ask (aBo s != 45) _ _).eval=_
    by_cases c45:aBo s=45
    ·refine aAh (by rw[c45];rfl) (aA5 m0 ?_)
     show (T.ask (decide (aBo s=45)) _ _).eval=_
     obtain⟨e1,e2,e3,e4⟩:=minus c45
     rw[e1,e2,e3,e4]
     exact aAg (decide_eq_true c45) (aA5 m1 rfl)
    ·refine aAg (by simpa using c45) (aA5 m0 ?_)
     show (T.ask (aBo s != 62) _ _).eval=_
     by_cases c62:aBo s=62
     ·refine aAh (by rw[c62];rfl) (aA5 m0 ?_)
      show (T.ask (decide (aBo s=45)) _ _).eval=_
      exact aAh (decide_eq_false c45) (go c45 (by rw[is,decide_eq_true c62];simp))
     ·have hn:aHs s=false:=by rw[is,decide_eq_false c43,decide_eq_false c45,decide_eq_false c62];rfl
      obtain⟨e1,e2,e3,e4⟩:=bKw hn
      rw[e1,e2,e3,e4]
      exact aAg (by simpa using c62) rfl
 ·cases h
noncomputable section
def aM5 (l:List En) (s:List UInt8):List En :=
 let l1:=if aBo s=43 then l else aG1 l (aAw s)
 let nm:=if aBo s=43 then aAw s else aO9 s
 let id:=if aBo s=62 then aB7 l (aAw s)else aQv s
 if aBo s=45 then l1 else bFg l1 ⟨nm,id⟩
def aDs (l:List En) (s:List UInt8):Bool:=aGa s&&aDz (aAw s)&&(decide (aBo s=43)||aG7 l (aAw s))
def aFc:List (List UInt8)→List En→Option (List En)
 |[],l=>some l
 |s::r,l=>if aDs l s then aFc r (aM5 l s)else none
def aTz (ss:List (List UInt8)) (n:Int):Nat:=(aB5 n 0 ss.length).toNat
def bVn (os:List En) (ss:List (List UInt8)) (n:Int):Bool:=(aFc (ss.take (aTz ss n)) os).isSome
def sdL (os:List En) (ss:List (List UInt8)) (n:Int):List En:=(aFc (ss.take (aTz ss n)) os).getD []
def sdR (os ss:List (List C)) (n:Int):List (List C):=(sdL (ens os) (aCm ss) n).map eEn
def stB (os ss:List (List C)):Bool:=aJg os&&bTi ss&&decide (os.length+ss.length≤dN)
def aPa:aCh:=fun cs=>match cs with
 |[.sl os,.sl ss,.int .i64 n]=>some (stB os ss,[.sl (sdR os ss n),.bool (bVn (ens os) (aCm ss) n)])
 |_=>none
def aCv (ss:List (List C)) (n:Int) (m:Nat) (l:List (List C)) (i:Int):St:=st1 [(1,.l (.sl ss)),(2,aBc n),(8,.l (.ref 0 0 m)),(9,aBc i)] 2 l
def aQq:Env:=mkE [(4,[1,2,8,9])] [(36,(sg [pI,pI,pI] [rI]),aFi),(93,(sg [pSl 100,pS] [rI]),aIg),(94,(sg [pSl 100,pS] [rB]),aFz),(142,(sg [pS] [rB]),aKk),(143,(sg [pSl 100,aJm] [rSl 100]),aV1),(140,(sg [pSl 100,pS] [rSl 100]),aQb),(169,(sg [pS] [rS,rS,rI,rB]),bAb)]
def aV8 (next:Int):List Nd→Option Int→Bool
 |[],_=>true
 |x::r,p=>inB x.id 1 (next-1)&&(match p with | none=>true | some q=>decide (q<x.id))&&inB x.sure 0 x.text.length&&aV8 next r (some x.id)
def aTy (ns:List Nd) (es os:List En) (ss:List (List UInt8)) (k:Nat):Bool :=
 bVn os ss k&&aJt ns (sdL os ss k)&&(!decide (k=ss.length)||decide (sdL os ss k=es))
def bKd (ns:List Nd) (es os:List En) (ss:List (List UInt8)) (room next:Int):Bool :=
 decide (ns.length≤64)&&inB room 0 1000000000&&inB next 1 1000000000&&decide ((aEa ns:Int)≤room)&&aV8 next ns none&&(List.range (ss.length+1)).all (aTy ns es os ss)
def aF2 (ns es os ss:List (List C)) (room next:Int):Bool:=bKd (nds ns) (ens es) (ens os) (aCm ss) room next
def aF4 (ns es os ss:List (List C)):Bool:=aZ3 ns&&aJg es&&stB os ss
def aFn:aCh:=fun cs=>match cs with
 |[.sl ns,.sl es,.sl os,.sl ss,.int .i64 r,.int .i64 x]=>some (aF4 ns es os ss,[.bool (aF2 ns es os ss r x)])
 |_=>none
def aMb (ns es os ss:List (List C)) (r x i:Int):St:={slots:=[(1,.l (.ptr 0 0)),(3,aBc i)],heap:=[(0,bKc ns es os ss r x)],next:=1,pins:=[]}
def aK2 (ns es os ss:List (List C)) (r x i:Int):St:={slots:=[(1,.l (.ptr 0 0)),(5,aBc i)],heap:=[(0,bKc ns es os ss r x)],next:=1,pins:=[]}
def aK6:Env:=mkE [(4,[1,3]),(10,[1,5])] [(45,(sg [pI,pI,pI] [rB]),aEm),(145,(sg [aB4] [rI]),aT3),(156,(sg [aB4,pSl 100] [rB]),aOo),(157,(sg [pSl 100,pSl 100] [rB]),bAe),(155,(sg [pSl 100,pSl 9,pI] [rSl 100,rB]),aPa)]
def bKo (os:List En) (ss:List (List UInt8)) (id:Int):Bool:=(List.range (ss.length+1)).any fun k=>(sdL os ss k).any fun e=>decide (e.id=id)
def aCt (ns os ss:List (List C)):List (List C):=((nds ns).filter fun x=>bKo (ens os) (aCm ss) x.id).map eNd
def aJx:aCh:=fun cs=>match cs with
 |[.sl ns,.sl es,.sl os,.sl ss,.int .i64 r,.int .i64 x]=>some (aF4 ns es os ss,[.sl (aCt ns os ss),.sl es,.sl os,.sl ss,.int .i64 r,.int .i64 x,.sl es,.sl os,.sl ss])
 |_=>none
def aDi:PTy:=.wr true [(.slice 94,false),(.slice 100,true),(.slice 100,true),(.slice 9,true),(.int .i64,false),(.int .i64,false)]
def aDh:RTy:=⟨true,[(.slice 94,true),(.back 100 0,true),(.back 100 1,true),(.back 9 2,true),(.int .i64,false),(.int .i64,false)]⟩
abbrev aWd (ns es os ss:List (List C)) (r x:Int) (o:List (List C)):List (Nat×Blk):=[(0,.box [.sl ns,.ref 3 0 es.length,.ref 4 0 os.length,.ref 5 0 ss.length,.i .i64 r,.i .i64 x]),(1,.box [.nil,.nil,.nil,.nil,.i .i64 0,.i .i64 0]),(2,.arr 3 o),(3,.arr 2 es),(4,.arr 2 os),(5,.arr 1 ss)]
def aEz (ns es os ss:List (List C)) (r x:Int) (n:Nat) (o:List (List C)) (i:Int):St:={slots:=[(1,.l (.ptr 0 0)),(2,.l (.ptr 1 0)),(3,.l (.ref 2 0 n)),(4,aBc i)],heap:=aWd ns es os ss r x o,next:=6,pins:=[3,4,5]}
def aMd (ns es os ss:List (List C)) (r x:Int) (n:Nat) (o:List (List C)) (i j:Int):St:={slots:=[(1,.l (.ptr 0 0)),(2,.l (.ptr 1 0)),(3,.l (.ref 2 0 n)),(4,aBc i),(5,.l (.b false)),(6,aBc j)],heap:=aWd ns es os ss r x o,next:=6,pins:=[3,4,5]}
def aMc (ns es os ss:List (List C)) (r x:Int) (n:Nat) (o:List (List C)) (i j:Int):St:={slots:=[(1,.l (.ptr 0 0)),(2,.l (.ptr 1 0)),(3,.l (.ref 2 0 n)),(4,aBc i),(5,.l (.b true)),(6,aBc j)],heap:=aWd ns es os ss r x o,next:=6,pins:=[3,4,5]}
abbrev aZj (ns es os ss:List (List C)) (r x:Int) (o l:List (List C)):List (Nat×Blk):=[(0,.box [.sl ns,.ref 4 0 es.length,.ref 5 0 os.length,.ref 6 0 ss.length,.i .i64 r,.i .i64 x]),(1,.box [.nil,.nil,.nil,.nil,.i .i64 0,.i .i64 0]),(2,.arr 3 o),(3,.arr 2 l),(4,.arr 2 es),(5,.arr 2 os),(6,.arr 1 ss)]
def aK3 (ns es os ss:List (List C)) (r x:Int) (n:Nat) (o:List (List C)) (i j:Int) (q:Nat) (l:List (List C)) (y:Int):St:={slots:=[(1,.l (.ptr 0 0)),(2,.l (.ptr 1 0)),(3,.l (.ref 2 0 n)),(4,aBc i),(5,.l (.b false)),(6,aBc j),(7,.l (.ref 3 0 q)),(9,aBc y)],heap:=aZj ns es os ss r x o l,next:=7,pins:=[4,5,6]}
def aQn (ns es os ss:List (List C)) (r x:Int) (n:Nat) (o:List (List C)) (i j:Int) (q:Nat) (l:List (List C)) (y:Int):St:={slots:=[(1,.l (.ptr 0 0)),(2,.l (.ptr 1 0)),(3,.l (.ref 2 0 n)),(4,aBc i),(5,.l (.b true)),(6,aBc j),(7,.l (.ref 3 0 q)),(9,aBc y)],heap:=aZj ns es os ss r x o l,next:=7,pins:=[4,5,6]}
def aCg:Env:=mkE [(3,[1,2,3,4]),(7,[1,2,3,4,5,6]),(11,[1,2,3,4,5,6,7,9])] [(155,(sg [pSl 100,pSl 9,pI] [rSl 100,rB]),aPa)]
end
theorem bI1 (H:List Pt→Nat→St→T (List C)) (os:List (List C)) (ss:List (List C)) (n:Int):(aAm aQq aAb (sg [pSl 100,pSl 9,pI] [rSl 100,rB]) Tryz.f155 H [C.sl os,C.sl ss,C.int .i64 n]).eval=((.must (decide (0=0)&&aBe (0+os.length) 24&&os.all fun r=>decide (r.length=2)) (H [Pt.r,Pt.r,Pt.r,Pt.l,Pt.r,Pt.b] 9223372036854775808 (aCv (ss) (aB5 n 0 (↑ss.length:Int)) (0+os.length) (os) ((0:Int))))):T (List C)).eval:=aAo (by kernel_rfl)
theorem bAn (H:List Pt→Nat→St→T (List C)) (ss:List (List C)) (n:Int) (m2:Nat) (l:List (List C)) (i:Int) (k:Nat):(aBk aQq aAb (sg [pSl 100,pSl 9,pI] [rSl 100,rB]) Tryz.f155 H [Pt.r,Pt.r,Pt.r,Pt.l,Pt.r,Pt.b] k (aCv ss n m2 l i)).eval=((.ask (decide (i<n)) (.must (decide ((0:Int)≤i)&&decide (i<(↑ss.length:Int))&&decide ((ss.getD i.toNat []).length=1)) (.must (decide (0<(ss.getD i.toNat []).length)&&C.is K.str ((ss.getD i.toNat []).getD 0 (C.fn 0 []))&&true) (.must (decide (((ss.getD i.toNat []).getD 0 (C.fn 0 [])).toStr.length≤281474976710656)) (.ask (aGa ((ss.getD i.toNat []).getD 0 (C.fn 0 [])).toStr) (.must (decide ((aAw ((ss.getD i.toNat []).getD 0 (C.fn 0 [])).toStr).length≤281474976710656)) (.ask (aDz (aAw ((ss.getD i.toNat []).getD 0 (C.fn 0 [])).toStr)) (.must (decide ((0:Int)≤i)&&decide (i<(↑ss.length:Int))&&decide ((ss.getD i.toNat []).length=1)) (.must (decide (0<(ss.getD i.toNat []).length)&&C.is K.str ((ss.getD i.toNat []).getD 0 (C.fn 0 []))&&true) (.must (decide ((0:Int)≤(0:Int))&&decide ((0:Int)<(↑((ss.getD i.toNat []).getD 0 (C.fn 0 [])).toStr.length:Int))) (.ask ((↑(((ss.getD i.toNat []).getD 0 (C.fn 0 [])).toStr.getD (Int.toNat 0) (0:UInt8)).toNat:Int) != (43:Int)) (.must (decide ((List.take m2 l).length≤aK9)&&aAt [K.str,K.int .i64] (List.take m2 l)) (.ask (aG7 (ens (List.take m2 l)) (aAw ((ss.getD i.toNat []).getD 0 (C.fn 0 [])).toStr)) (.must (decide ((0:Int)≤i)&&decide (i<(↑ss.length:Int))&&decide ((ss.getD i.toNat []).length=1)) (.must (decide (0<(ss.getD i.toNat []).length)&&C.is K.str ((ss.getD i.toNat []).getD 0 (C.fn 0 []))&&true) (.must (decide ((0:Int)≤(0:Int))&&decide ((0:Int)<(↑((ss.getD i.toNat []).getD 0 (C.fn 0 [])).toStr.length:Int))) (.ask (decide ((↑(((ss.getD i.toNat []).getD 0 (C.fn 0 [])).toStr.getD (Int.toNat 0) (0:UInt8)).toNat:Int)=(62:Int))) (.must (decide ((List.take m2 l).length≤aK9)&&aAt [K.str,K.int .i64] (List.take m2 l)) (.must (decide ((0:Int)≤i)&&decide (i<(↑ss.length:Int))&&decide ((ss.getD i.toNat []).length=1)) (.must (decide (0<(ss.getD i.toNat []).length)&&C.is K.str ((ss.getD i.toNat []).getD 0 (C.fn 0 []))&&true) (.must (decide ((0:Int)≤(0:Int))&&decide ((0:Int)<(↑((ss.getD i.toNat []).getD 0 (C.fn 0 [])).toStr.length:Int))) (.ask ((↑(((ss.getD i.toNat []).getD 0 (C.fn 0 [])).toStr.getD (Int.toNat 0) (0:UInt8)).toNat:Int) != (43:Int)) (.must (aJg (List.take m2 l)) (.must ((true&&(aBg (List.take m2 l) (aAw ((ss.getD i.toNat []).getD 0 (C.fn 0 [])).toStr)).all fun row=>decide (row.length=2))&&true&&true&&true) (.must (decide ((0:Int)≤i)&&decide (i<(↑ss.length:Int))&&decide ((ss.getD i.toNat []).length=1)) (.must (decide (0<(ss.getD i.toNat []).length)&&C.is K.str ((ss.getD i.toNat []).getD 0 (C.fn 0 []))&&true) (.must (decide ((0:Int)≤(0:Int))&&decide ((0:Int)<(↑((ss.getD i.toNat []).getD 0 (C.fn 0 [])).toStr.length:Int))) (.ask ((↑(((ss.getD i.toNat []).getD 0 (C.fn 0 [])).toStr.getD (Int.toNat 0) (0:UInt8)).toNat:Int) != (45:Int)) (.must (aJg (List.take (aBg (List.take m2 l) (aAw ((ss.getD i.toNat []).getD 0 (C.fn 0 [])).toStr)).length (aBg (List.take m2 l) (aAw ((ss.getD i.toNat []).getD 0 (C.fn 0 [])).toStr)))) (.must ((true&&(aFk (List.take (aBg (List.take m2 l) (aAw ((ss.getD i.toNat []).getD 0 (C.fn 0 [])).toStr)).length (aBg (List.take m2 l) (aAw ((ss.getD i.toNat []).getD 0 (C.fn 0 [])).toStr))) (aO9 ((ss.getD i.toNat []).getD 0 (C.fn 0 [])).toStr) (aB7 (ens (List.take m2 l)) (aAw ((ss.getD i.toNat []).getD 0 (C.fn 0 [])).toStr))).all fun row=>decide (row.length=2))&&true&&true&&true) (H [Pt.r,Pt.r,Pt.r,Pt.l,Pt.r,Pt.b] k (aCv (ss) (n) ((aFk (List.take (aBg (List.take m2 l) (aAw ((ss.getD i.toNat []).getD 0 (C.fn 0 [])).toStr)).length (aBg (List.take m2 l) (aAw ((ss.getD i.toNat []).getD 0 (C.fn 0 [])).toStr))) (aO9 ((ss.getD i.toNat []).getD 0 (C.fn 0 [])).toStr) (aB7 (ens (List.take m2 l)) (aAw ((ss.getD i.toNat []).getD 0 (C.fn 0 [])).toStr))).length) (aFk (List.take (aBg (List.take m2 l) (aAw ((ss.getD i.toNat []).getD 0 (C.fn 0 [])).toStr)).length (aBg (List.take m2 l) (aAw ((ss.getD i.toNat []).getD 0 (C.fn 0 [])).toStr))) (aO9 ((ss.getD i.toNat []).getD 0 (C.fn 0 [])).toStr) (aB7 (ens (List.take m2 l)) (aAw ((ss.getD i.toNat []).getD 0 (C.fn 0 [])).toStr))) (IntKind.i64.wrap (i+(1:Int))))))) (H [Pt.r,Pt.r,Pt.r,Pt.l,Pt.r,Pt.b] k (aCv (ss) (n) ((aBg (List.take m2 l) (aAw ((ss.getD i.toNat []).getD 0 (C.fn 0 [])).toStr)).length) (aBg (List.take m2 l) (aAw ((ss.getD i.toNat []).getD 0 (C.fn 0 [])).toStr)) (IntKind.i64.wrap (i+(1:Int))))))))))) (.must (decide ((0:Int)≤i)&&decide (i<(↑ss.length:Int))&&decide ((ss.getD i.toNat []).length=1)) (.must (decide (0<(ss.getD i.toNat []).length)&&C.is K.str ((ss.getD i.toNat []).getD 0 (C.fn 0 []))&&true) (.must (decide ((0:Int)≤(0:Int))&&decide ((0:Int)<(↑((ss.getD i.toNat []).getD 0 (C.fn 0 [])).toStr.length:Int))) (.ask ((↑(((ss.getD i.toNat []).getD 0 (C.fn 0 [])).toStr.getD (Int.toNat 0) (0:UInt8)).toNat:Int) != (45:Int)) (.must (aJg (List.take m2 l)) (.must ((true&&(aFk (List.take m2 l) (aAw ((ss.getD i.toNat []).getD 0 (C.fn 0 [])).toStr) (aB7 (ens (List.take m2 l)) (aAw ((ss.getD i.toNat []).getD 0 (C.fn 0 [])).toStr))).all fun row=>decide (row.length=2))&&true&&true&&true) (H [Pt.r,Pt.r,Pt.r,Pt.l,Pt.r,Pt.b] k (aCv (ss) (n) ((aFk (List.take m2 l) (aAw ((ss.getD i.toNat []).getD 0 (C.fn 0 [])).toStr) (aB7 (ens (List.take m2 l)) (aAw ((ss.getD i.toNat []).getD 0 (C.fn 0 [])).toStr))).length) (aFk (List.take m2 l) (aAw ((ss.getD i.toNat []).getD 0 (C.fn 0 [])).toStr) (aB7 (ens (List.take m2 l)) (aAw ((ss.getD i.toNat []).getD 0 (C.fn 0 [])).toStr))) (IntKind.i64.wrap (i+(1:Int))))))) (H [Pt.r,Pt.r,Pt.r,Pt.l,Pt.r,Pt.b] k (aCv (ss) (n) (m2) (l) (IntKind.i64.wrap (i+(1:Int)))))))))))))) (.must (decide ((0:Int)≤i)&&decide (i<(↑ss.length:Int))&&decide ((ss.getD i.toNat []).length=1)) (.must (decide (0<(ss.getD i.toNat []).length)&&C.is K.str ((ss.getD i.toNat []).getD 0 (C.fn 0 []))&&true) (.must (decide ((0:Int)≤(0:Int))&&decide ((0:Int)<(↑((ss.getD i.toNat []).getD 0 (C.fn 0 [])).toStr.length:Int))) (.ask ((↑(((ss.getD i.toNat []).getD 0 (C.fn 0 [])).toStr.getD (Int.toNat 0) (0:UInt8)).toNat:Int) != (43:Int)) (.must (aJg (List.take m2 l)) (.must ((true&&(aBg (List.take m2 l) (aAw ((ss.getD i.toNat []).getD 0 (C.fn 0 [])).toStr)).all fun row=>decide (row.length=2))&&true&&true&&true) (.must (decide ((0:Int)≤i)&&decide (i<(↑ss.length:Int))&&decide ((ss.getD i.toNat []).length=1)) (.must (decide (0<(ss.getD i.toNat []).length)&&C.is K.str ((ss.getD i.toNat []).getD 0 (C.fn 0 []))&&true) (.must (decide ((0:Int)≤(0:Int))&&decide ((0:Int)<(↑((ss.getD i.toNat []).getD 0 (C.fn 0 [])).toStr.length:Int))) (.ask ((↑(((ss.getD i.toNat []).getD 0 (C.fn 0 [])).toStr.getD (Int.toNat 0) (0:UInt8)).toNat:Int) != (45:Int)) (.must (aJg (List.take (aBg (List.take m2 l) (aAw ((ss.getD i.toNat []).getD 0 (C.fn 0 [])).toStr)).length (aBg (List.take m2 l) (aAw ((ss.getD i.toNat []).getD 0 (C.fn 0 [])).toStr)))) (.must ((true&&(aFk (List.take (aBg (List.take m2 l) (aAw ((ss.getD i.toNat []).getD 0 (C.fn 0 [])).toStr)).length (aBg (List.take m2 l) (aAw ((ss.getD i.toNat []).getD 0 (C.fn 0 [])).toStr))) (aO9 ((ss.getD i.toNat []).getD 0 (C.fn 0 [])).toStr) (aQv ((ss.getD i.toNat []).getD 0 (C.fn 0 [])).toStr)).all fun row=>decide (row.length=2))&&true&&true&&true) (H [Pt.r,Pt.r,Pt.r,Pt.l,Pt.r,Pt.b] k (aCv (ss) (n) ((aFk (List.take (aBg (List.take m2 l) (aAw ((ss.getD i.toNat []).getD 0 (C.fn 0 [])).toStr)).length (aBg (List.take m2 l) (aAw ((ss.getD i.toNat []).getD 0 (C.fn 0 [])).toStr))) (aO9 ((ss.getD i.toNat []).getD 0 (C.fn 0 [])).toStr) (aQv ((ss.getD i.toNat []).getD 0 (C.fn 0 [])).toStr)).length) (aFk (List.take (aBg (List.take m2 l) (aAw ((ss.getD i.toNat []).getD 0 (C.fn 0 [])).toStr)).length (aBg (List.take m2 l) (aAw ((ss.getD i.toNat []).getD 0 (C.fn 0 [])).toStr))) (aO9 ((ss.getD i.toNat []).getD 0 (C.fn 0 [])).toStr) (aQv ((ss.getD i.toNat []).getD 0 (C.fn 0 [])).toStr)) (IntKind.i64.wrap (i+(1:Int))))))) (H [Pt.r,Pt.r,Pt.r,Pt.l,Pt.r,Pt.b] k (aCv (ss) (n) ((aBg (List.take m2 l) (aAw ((ss.getD i.toNat []).getD 0 (C.fn 0 [])).toStr)).length) (aBg (List.take m2 l) (aAw ((ss.getD i.toNat []).getD 0 (C.fn 0 [])).toStr)) (IntKind.i64.wrap (i+(1:Int))))))))))) (.must (decide ((0:Int)≤i)&&decide (i<(↑ss.length:Int))&&decide ((ss.getD i.toNat []).length=1)) (.must (decide (0<(ss.getD i.toNat []).length)&&C.is K.str ((ss.getD i.toNat []).getD 0 (C.fn 0 []))&&true) (.must (decide ((0:Int)≤(0:Int))&&decide ((0:Int)<(↑((ss.getD i.toNat []).getD 0 (C.fn 0 [])).toStr.length:Int))) (.ask ((↑(((ss.getD i.toNat []).getD 0 (C.fn 0 [])).toStr.getD (Int.toNat 0) (0:UInt8)).toNat:Int) != (45:Int)) (.must (aJg (List.take m2 l)) (.must ((true&&(aFk (List.take m2 l) (aAw ((ss.getD i.toNat []).getD 0 (C.fn 0 [])).toStr) (aQv ((ss.getD i.toNat []).getD 0 (C.fn 0 [])).toStr)).all fun row=>decide (row.length=2))&&true&&true&&true) (H [Pt.r,Pt.r,Pt.r,Pt.l,Pt.r,Pt.b] k (aCv (ss) (n) ((aFk (List.take m2 l) (aAw ((ss.getD i.toNat []).getD 0 (C.fn 0 [])).toStr) (aQv ((ss.getD i.toNat []).getD 0 (C.fn 0 [])).toStr)).length) (aFk (List.take m2 l) (aAw ((ss.getD i.toNat []).getD 0 (C.fn 0 [])).toStr) (aQv ((ss.getD i.toNat []).getD 0 (C.fn 0 [])).toStr)) (IntKind.i64.wrap (i+(1:Int))))))) (H [Pt.r,Pt.r,Pt.r,Pt.l,Pt.r,Pt.b] k (aCv (ss) (n) (m2) (l) (IntKind.i64.wrap (i+(1:Int))))))))))))))))) (.ret [C.sl [],C.bool false]))) (.must (decide ((0:Int)≤i)&&decide (i<(↑ss.length:Int))&&decide ((ss.getD i.toNat []).length=1)) (.must (decide (0<(ss.getD i.toNat []).length)&&C.is K.str ((ss.getD i.toNat []).getD 0 (C.fn 0 []))&&true) (.must (decide ((0:Int)≤(0:Int))&&decide ((0:Int)<(↑((ss.getD i.toNat []).getD 0 (C.fn 0 [])).toStr.length:Int))) (.ask (decide ((↑(((ss.getD i.toNat []).getD 0 (C.fn 0 [])).toStr.getD (Int.toNat 0) (0:UInt8)).toNat:Int)=(62:Int))) (.must (decide ((List.take m2 l).length≤aK9)&&aAt [K.str,K.int .i64] (List.take m2 l)) (.must (decide ((0:Int)≤i)&&decide (i<(↑ss.length:Int))&&decide ((ss.getD i.toNat []).length=1)) (.must (decide (0<(ss.getD i.toNat []).length)&&C.is K.str ((ss.getD i.toNat []).getD 0 (C.fn 0 []))&&true) (.must (decide ((0:Int)≤(0:Int))&&decide ((0:Int)<(↑((ss.getD i.toNat []).getD 0 (C.fn 0 [])).toStr.length:Int))) (.ask ((↑(((ss.getD i.toNat []).getD 0 (C.fn 0 [])).toStr.getD (Int.toNat 0) (0:UInt8)).toNat:Int) != (43:Int)) (.must (aJg (List.take m2 l)) (.must ((true&&(aBg (List.take m2 l) (aAw ((ss.getD i.toNat []).getD 0 (C.fn 0 [])).toStr)).all fun row=>decide (row.length=2))&&true&&true&&true) (.must (decide ((0:Int)≤i)&&decide (i<(↑ss.length:Int))&&decide ((ss.getD i.toNat []).length=1)) (.must (decide (0<(ss.getD i.toNat []).length)&&C.is K.str ((ss.getD i.toNat []).getD 0 (C.fn 0 []))&&true) (.must (decide ((0:Int)≤(0:Int))&&decide ((0:Int)<(↑((ss.getD i.toNat []).getD 0 (C.fn 0 [])).toStr.length:Int))) (.ask ((↑(((ss.getD i.toNat []).getD 0 (C.fn 0 [])).toStr.getD (Int.toNat 0) (0:UInt8)).toNat:Int) != (45:Int)) (.must (aJg (List.take (aBg (List.take m2 l) (aAw ((ss.getD i.toNat []).getD 0 (C.fn 0 [])).toStr)).length (aBg (List.take m2 l) (aAw ((ss.getD i.toNat []).getD 0 (C.fn 0 [])).toStr)))) (.must ((true&&(aFk (List.take (aBg (List.take m2 l) (aAw ((ss.getD i.toNat []).getD 0 (C.fn 0 [])).toStr)).length (aBg (List.take m2 l) (aAw ((ss.getD i.toNat []).getD 0 (C.fn 0 [])).toStr))) (aO9 ((ss.getD i.toNat []).getD 0 (C.fn 0 [])).toStr) (aB7 (ens (List.take m2 l)) (aAw ((ss.getD i.toNat []).getD 0 (C.fn 0 [])).toStr))).all fun row=>decide (row.length=2))&&true&&true&&true) (H [Pt.r,Pt.r,Pt.r,Pt.l,Pt.r,Pt.b] k (aCv (ss) (n) ((aFk (List.take (aBg (List.take m2 l) (aAw ((ss.getD i.toNat []).getD 0 (C.fn 0 [])).toStr)).length (aBg (List.take m2 l) (aAw ((ss.getD i.toNat []).getD 0 (C.fn 0 [])).toStr))) (aO9 ((ss.getD i.toNat []).getD 0 (C.fn 0 [])).toStr) (aB7 (ens (List.take m2 l)) (aAw ((ss.getD i.toNat []).getD 0 (C.fn 0 [])).toStr))).length) (aFk (List.take (aBg (List.take m2 l) (aAw ((ss.getD i.toNat []).getD 0 (C.fn 0 [])).toStr)).length (aBg (List.take m2 l) (aAw ((ss.getD i.toNat []).getD 0 (C.fn 0 [])).toStr))) (aO9 ((ss.getD i.toNat []).getD 0 (C.fn 0 [])).toStr) (aB7 (ens (List.take m2 l)) (aAw ((ss.getD i.toNat []).getD 0 (C.fn 0 [])).toStr))) (IntKind.i64.wrap (i+(1:Int))))))) (H [Pt.r,Pt.r,Pt.r,Pt.l,Pt.r,Pt.b] k (aCv (ss) (n) ((aBg (List.take m2 l) (aAw ((ss.getD i.toNat []).getD 0 (C.fn 0 [])).toStr)).length) (aBg (List.take m2 l) (aAw ((ss.getD i.toNat []).getD 0 (C.fn 0 [])).toStr)) (IntKind.i64.wrap (i+(1:Int))))))))))) (.must (decide ((0:Int)≤i)&&decide (i<(↑ss.length:Int))&&decide ((ss.getD i.toNat []).length=1)) (.must (decide (0<(ss.getD i.toNat []).length)&&C.is K.str ((ss.getD i.toNat []).getD 0 (C.fn 0 []))&&true) (.must (decide ((0:Int)≤(0:Int))&&decide ((0:Int)<(↑((ss.getD i.toNat []).getD 0 (C.fn 0 [])).toStr.length:Int))) (.ask ((↑(((ss.getD i.toNat []).getD 0 (C.fn 0 [])).toStr.getD (Int.toNat 0) (0:UInt8)).toNat:Int) != (45:Int)) (.must (aJg (List.take m2 l)) (.must ((true&&(aFk (List.take m2 l) (aAw ((ss.getD i.toNat []).getD 0 (C.fn 0 [])).toStr) (aB7 (ens (List.take m2 l)) (aAw ((ss.getD i.toNat []).getD 0 (C.fn 0 [])).toStr))).all fun row=>decide (row.length=2))&&true&&true&&true) (H [Pt.r,Pt.r,Pt.r,Pt.l,Pt.r,Pt.b] k (aCv (ss) (n) ((aFk (List.take m2 l) (aAw ((ss.getD i.toNat []).getD 0 (C.fn 0 [])).toStr) (aB7 (ens (List.take m2 l)) (aAw ((ss.getD i.toNat []).getD 0 (C.fn 0 [])).toStr))).length) (aFk (List.take m2 l) (aAw ((ss.getD i.toNat []).getD 0 (C.fn 0 [])).toStr) (aB7 (ens (List.take m2 l)) (aAw ((ss.getD i.toNat []).getD 0 (C.fn 0 [])).toStr))) (IntKind.i64.wrap (i+(1:Int))))))) (H [Pt.r,Pt.r,Pt.r,Pt.l,Pt.r,Pt.b] k (aCv (ss) (n) (m2) (l) (IntKind.i64.wrap (i+(1:Int)))))))))))))) (.must (decide ((0:Int)≤i)&&decide (i<(↑ss.length:Int))&&decide ((ss.getD i.toNat []).length=1)) (.must (decide (0<(ss.getD i.toNat []).length)&&C.is K.str ((ss.getD i.toNat []).getD 0 (C.fn 0 []))&&true) (.must (decide ((0:Int)≤(0:Int))&&decide ((0:Int)<(↑((ss.getD i.toNat []).getD 0 (C.fn 0 [])).toStr.length:Int))) (.ask ((↑(((ss.getD i.toNat []).getD 0 (C.fn 0 [])).toStr.getD (Int.toNat 0) (0:UInt8)).toNat:Int) != (43:Int)) (.must (aJg (List.take m2 l)) (.must ((true&&(aBg (List.take m2 l) (aAw ((ss.getD i.toNat []).getD 0 (C.fn 0 [])).toStr)).all fun row=>decide (row.length=2))&&true&&true&&true) (.must (decide ((0:Int)≤i)&&decide (i<(↑ss.length:Int))&&decide ((ss.getD i.toNat []).length=1)) (.must (decide (0<(ss.getD i.toNat []).length)&&C.is K.str ((ss.getD i.toNat []).getD 0 (C.fn 0 []))&&true) (.must (decide ((0:Int)≤(0:Int))&&decide ((0:Int)<(↑((ss.getD i.toNat []).getD 0 (C.fn 0 [])).toStr.length:Int))) (.ask ((↑(((ss.getD i.toNat []).getD 0 (C.fn 0 [])).toStr.getD (Int.toNat 0) (0:UInt8)).toNat:Int) != (45:Int)) (.must (aJg (List.take (aBg (List.take m2 l) (aAw ((ss.getD i.toNat []).getD 0 (C.fn 0 [])).toStr)).length (aBg (List.take m2 l) (aAw ((ss.getD i.toNat []).getD 0 (C.fn 0 [])).toStr)))) (.must ((true&&(aFk (List.take (aBg (List.take m2 l) (aAw ((ss.getD i.toNat []).getD 0 (C.fn 0 [])).toStr)).length (aBg (List.take m2 l) (aAw ((ss.getD i.toNat []).getD 0 (C.fn 0 [])).toStr))) (aO9 ((ss.getD i.toNat []).getD 0 (C.fn 0 [])).toStr) (aQv ((ss.getD i.toNat []).getD 0 (C.fn 0 [])).toStr)).all fun row=>decide (row.length=2))&&true&&true&&true) (H [Pt.r,Pt.r,Pt.r,Pt.l,Pt.r,Pt.b] k (aCv (ss) (n) ((aFk (List.take (aBg (List.take m2 l) (aAw ((ss.getD i.toNat []).getD 0 (C.fn 0 [])).toStr)).length (aBg (List.take m2 l) (aAw ((ss.getD i.toNat []).getD 0 (C.fn 0 [])).toStr))) (aO9 ((ss.getD i.toNat []).getD 0 (C.fn 0 [])).toStr) (aQv ((ss.getD i.toNat []).getD 0 (C.fn 0 [])).toStr)).length) (aFk (List.take (aBg (List.take m2 l) (aAw ((ss.getD i.toNat []).getD 0 (C.fn 0 [])).toStr)).length (aBg (List.take m2 l) (aAw ((ss.getD i.toNat []).getD 0 (C.fn 0 [])).toStr))) (aO9 ((ss.getD i.toNat []).getD 0 (C.fn 0 [])).toStr) (aQv ((ss.getD i.toNat []).getD 0 (C.fn 0 [])).toStr)) (IntKind.i64.wrap (i+(1:Int))))))) (H [Pt.r,Pt.r,Pt.r,Pt.l,Pt.r,Pt.b] k (aCv (ss) (n) ((aBg (List.take m2 l) (aAw ((ss.getD i.toNat []).getD 0 (C.fn 0 [])).toStr)).length) (aBg (List.take m2 l) (aAw ((ss.getD i.toNat []).getD 0 (C.fn 0 [])).toStr)) (IntKind.i64.wrap (i+(1:Int))))))))))) (.must (decide ((0:Int)≤i)&&decide (i<(↑ss.length:Int))&&decide ((ss.getD i.toNat []).length=1)) (.must (decide (0<(ss.getD i.toNat []).length)&&C.is K.str ((ss.getD i.toNat []).getD 0 (C.fn 0 []))&&true) (.must (decide ((0:Int)≤(0:Int))&&decide ((0:Int)<(↑((ss.getD i.toNat []).getD 0 (C.fn 0 [])).toStr.length:Int))) (.ask ((↑(((ss.getD i.toNat []).getD 0 (C.fn 0 [])).toStr.getD (Int.toNat 0) (0:UInt8)).toNat:Int) != (45:Int)) (.must (aJg (List.take m2 l)) (.must ((true&&(aFk (List.take m2 l) (aAw ((ss.getD i.toNat []).getD 0 (C.fn 0 [])).toStr) (aQv ((ss.getD i.toNat []).getD 0 (C.fn 0 [])).toStr)).all fun row=>decide (row.length=2))&&true&&true&&true) (H [Pt.r,Pt.r,Pt.r,Pt.l,Pt.r,Pt.b] k (aCv (ss) (n) ((aFk (List.take m2 l) (aAw ((ss.getD i.toNat []).getD 0 (C.fn 0 [])).toStr) (aQv ((ss.getD i.toNat []).getD 0 (C.fn 0 [])).toStr)).length) (aFk (List.take m2 l) (aAw ((ss.getD i.toNat []).getD 0 (C.fn 0 [])).toStr) (aQv ((ss.getD i.toNat []).getD 0 (C.fn 0 [])).toStr)) (IntKind.i64.wrap (i+(1:Int))))))) (H [Pt.r,Pt.r,Pt.r,Pt.l,Pt.r,Pt.b] k (aCv (ss) (n) (m2) (l) (IntKind.i64.wrap (i+(1:Int))))))))))))))))))))) (.ret [C.sl [],C.bool false]))) (.ret [C.sl [],C.bool false]))))) (.must (decide (m2=l.length)&&(false||l.all fun r=>r.all C.flat)&&true&&(true&&(false||true)&&true&&true)&&true) (.ret [C.sl l,C.bool true]))):T (List C)).eval:=aAo (by kernel_rfl)
theorem bEq (H:List Pt→Nat→St→T (List C)) (ns:List (List C)) (es:List (List C)) (os:List (List C)) (ss:List (List C)) (r:Int) (x:Int):(aAm aK6 aAb (sg [aB4] [rB]) Tryz.f139 H [C.sl ns,C.sl es,C.sl os,C.sl ss,C.int .i64 r,C.int .i64 x]).eval=((.ask (decide ((64:Int)<(↑ns.length:Int))) (.ret [C.bool false]) (.ask (inB r 0 1000000000) (.ask (inB x 1 1000000000) (.must (aZ3 ns) (.ask (decide (r<Int.ofNat (aEa (nds ns)))) (.ret [C.bool false]) (H [Pt.r,Pt.r,Pt.l,Pt.r,Pt.b] 9223372036854775808 (aMb (ns) (es) (os) (ss) (r) (x) ((0:Int)))))) (.ret [C.bool false])) (.ret [C.bool false]))):T (List C)).eval:=aAo (by kernel_rfl)
theorem aXt (H:List Pt→Nat→St→T (List C)) (ns:List (List C)) (es:List (List C)) (os:List (List C)) (ss:List (List C)) (r:Int) (x:Int) (i:Int) (k:Nat):(aBk aK6 aAb (sg [aB4] [rB]) Tryz.f139 H [Pt.r,Pt.r,Pt.l,Pt.r,Pt.b] k (aMb ns es os ss r x i)).eval=((.ask (decide (i<(↑ns.length:Int))) (.must (decide ((0:Int)≤i)&&decide (i<(↑ns.length:Int))&&decide ((ns.getD i.toNat []).length=3)) (.must (decide (0<(ns.getD i.toNat []).length)&&C.is (K.int .i64) ((ns.getD i.toNat []).getD 0 (C.fn 0 []))&&(decide (0+1<(ns.getD i.toNat []).length)&&C.is K.str ((ns.getD i.toNat []).getD (0+1) (C.fn 0 []))&&(decide (0+1+1<(ns.getD i.toNat []).length)&&C.is (K.int .i64) ((ns.getD i.toNat []).getD (0+1+1) (C.fn 0 []))&&true))) (.ask (inB ((ns.getD i.toNat []).getD 0 (C.fn 0 [])).toInt 1 (IntKind.i64.wrap (x-(1:Int)))) (.ask (decide ((0:Int)<i)) (.must (decide ((0:Int)≤IntKind.i64.wrap (i-(1:Int)))&&decide (IntKind.i64.wrap (i-(1:Int))<(↑ns.length:Int))&&decide ((ns.getD (IntKind.i64.wrap (i-(1:Int))).toNat []).length=3)) (.must (decide (0+0<(ns.getD (IntKind.i64.wrap (i-(1:Int))).toNat []).length)&&C.is (K.int .i64) ((ns.getD (IntKind.i64.wrap (i-(1:Int))).toNat []).getD (0+0) (C.fn 0 []))&&true) (.ask (decide (((ns.getD i.toNat []).getD 0 (C.fn 0 [])).toInt≤((ns.getD (IntKind.i64.wrap (i-(1:Int))).toNat []).getD (0+0) (C.fn 0 [])).toInt)) (.ret [C.bool false]) (.ask (inB ((ns.getD i.toNat []).getD (0+1+1) (C.fn 0 [])).toInt 0 (↑((ns.getD i.toNat []).getD (0+1) (C.fn 0 [])).toStr.length:Int)) (H [Pt.r,Pt.r,Pt.l,Pt.r,Pt.b] k (aMb (ns) (es) (os) (ss) (r) (x) (IntKind.i64.wrap (i+(1:Int))))) (.ret [C.bool false]))))) (.ask (inB ((ns.getD i.toNat []).getD (0+1+1) (C.fn 0 [])).toInt 0 (↑((ns.getD i.toNat []).getD (0+1) (C.fn 0 [])).toStr.length:Int)) (H [Pt.r,Pt.r,Pt.l,Pt.r,Pt.b] k (aMb (ns) (es) (os) (ss) (r) (x) (IntKind.i64.wrap (i+(1:Int))))) (.ret [C.bool false]))) (.ret [C.bool false])))) (H [Pt.r,Pt.r,Pt.r,Pt.l,Pt.r,Pt.b] 9223372036854775808 (aK2 (ns) (es) (os) (ss) (r) (x) ((0:Int))))):T (List C)).eval:=aAo (by kernel_rfl)
theorem aUt (H:List Pt→Nat→St→T (List C)) (ns:List (List C)) (es:List (List C)) (os:List (List C)) (ss:List (List C)) (r:Int) (x:Int) (i:Int) (k:Nat):(aBk aK6 aAb (sg [aB4] [rB]) Tryz.f139 H [Pt.r,Pt.r,Pt.r,Pt.l,Pt.r,Pt.b] k (aK2 ns es os ss r x i)).eval=((.ask (decide (i≤(↑ss.length:Int))) (.must (stB os ss) (.must ((true&&(sdR os ss i).all fun row=>decide (row.length=2))&&true&&(decide (0<1)&&true&&true&&true)&&true) (.ask (bVn (ens os) (aCm ss) i) (.must (aZ3 ns&&aJg (List.take (sdR os ss i).length (sdR os ss i))) (.ask (aJt (nds ns) (ens (List.take (sdR os ss i).length (sdR os ss i)))) (.ask (decide (i=(↑ss.length:Int))) (.must (aJg (List.take (sdR os ss i).length (sdR os ss i))&&aJg es) (.ask (decide (ens (List.take (sdR os ss i).length (sdR os ss i))=ens es)) (H [Pt.r,Pt.r,Pt.r,Pt.l,Pt.r,Pt.b] k (aK2 (ns) (es) (os) (ss) (r) (x) (IntKind.i64.wrap (i+(1:Int))))) (.ret [C.bool false]))) (H [Pt.r,Pt.r,Pt.r,Pt.l,Pt.r,Pt.b] k (aK2 (ns) (es) (os) (ss) (r) (x) (IntKind.i64.wrap (i+(1:Int)))))) (.ret [C.bool false]))) (.ret [C.bool false])))) (.ret [C.bool true])):T (List C)).eval:=aAo (by kernel_rfl)
theorem bIo (H:List Pt→Nat→St→T (List C)) (ns:List (List C)) (es:List (List C)) (os:List (List C)) (ss:List (List C)) (r:Int) (x:Int):(aAm aCg aAb (sg [aDi] [aDh]) Tryz.f141 H [C.sl ns,C.sl es,C.sl os,C.sl ss,C.int .i64 r,C.int .i64 x]).eval=((.must (decide (0<1)&&true&&((true&&es.all fun row=>decide (row.length=2))&&((true&&os.all fun row=>decide (row.length=2))&&((true&&ss.all fun row=>decide (row.length=1))&&(decide (0<1)&&true&&(decide (0<1)&&true&&true)))))&&true) (H [Pt.r,Pt.r,Pt.l,Pt.r,Pt.b] 9223372036854775808 (aEz (ns) (es) (os) (ss) (r) (x) (0) ([]) ((0:Int))))):T (List C)).eval:=aAo (by kernel_rfl)
theorem bBe (H:List Pt→Nat→St→T (List C)) (ns:List (List C)) (es:List (List C)) (os:List (List C)) (ss:List (List C)) (r:Int) (x:Int) (n:Nat) (o:List (List C)) (i:Int) (k:Nat):(aBk aCg aAb (sg [aDi] [aDh]) Tryz.f141 H [Pt.r,Pt.r,Pt.l,Pt.r,Pt.b] k (aEz ns es os ss r x n o i)).eval=((.ask (decide (i<(↑ns.length:Int))) (H [Pt.r,Pt.r,Pt.l,Pt.r,Pt.b,Pt.lp k,Pt.r,Pt.l,Pt.b,Pt.r,Pt.l,Pt.r,Pt.b] 9223372036854775808 (aMd (ns) (es) (os) (ss) (r) (x) (n) (o) (i) ((0:Int)))) (.must (decide (n=o.length)&&(false||o.all fun r=>r.all C.flat)&&(decide (es.length≤es.length)&&(decide (os.length≤os.length)&&(decide (ss.length≤ss.length)&&(true&&(false||true)&&(true&&(false||true)&&true)))))&&true&&((false||es.all fun r=>r.all C.flat)&&((false||os.all fun r=>r.all C.flat)&&((false||ss.all fun r=>r.all C.flat)&&true))&&true)) (.ret [C.sl o,C.sl (List.take es.length es),C.sl (List.take os.length os),C.sl (List.take ss.length ss),C.int .i64 r,C.int .i64 x,C.sl es,C.sl os,C.sl ss]))):T (List C)).eval:=aAo (by kernel_rfl)
theorem aXy (H:List Pt→Nat→St→T (List C)) (ns:List (List C)) (es:List (List C)) (os:List (List C)) (ss:List (List C)) (r:Int) (x:Int) (n:Nat) (o:List (List C)) (i:Int) (j:Int) (m:Nat) (k:Nat):(aBk aCg aAb (sg [aDi] [aDh]) Tryz.f141 H [Pt.r,Pt.r,Pt.l,Pt.r,Pt.b,Pt.lp m,Pt.r,Pt.l,Pt.b,Pt.r,Pt.l,Pt.r,Pt.b] k (aMd ns es os ss r x n o i j)).eval=((.ask (decide (j≤(↑ss.length:Int))) (.must (stB (List.take os.length os) (List.take ss.length ss)) (.must ((true&&(sdR (List.take os.length os) (List.take ss.length ss) j).all fun row=>decide (row.length=2))&&true&&(decide (0<1)&&true&&true&&true)&&true) (.ask (bVn (ens (List.take os.length os)) (aCm (List.take ss.length ss)) j) (H [Pt.r,Pt.r,Pt.l,Pt.r,Pt.b,Pt.lp m,Pt.r,Pt.l,Pt.b,Pt.r,Pt.l,Pt.r,Pt.b,Pt.lp k,Pt.r,Pt.l,Pt.b,Pt.r,Pt.r,Pt.b] 9223372036854775808 (aK3 (ns) (es) (os) (ss) (r) (x) (n) (o) (i) (j) ((sdR (List.take os.length os) (List.take ss.length ss) j).length) (sdR (List.take os.length os) (List.take ss.length ss) j) ((0:Int)))) (H [Pt.r,Pt.r,Pt.l,Pt.r,Pt.b,Pt.lp m,Pt.r,Pt.l,Pt.b,Pt.r,Pt.l,Pt.r,Pt.b,Pt.lp k,Pt.r,Pt.l,Pt.b,Pt.r,Pt.r,Pt.b] 9223372036854775808 (aK3 (ns) (es) (os) (ss) (r) (x) (n) (o) (i) (j) ((sdR (List.take os.length os) (List.take ss.length ss) j).length) (sdR (List.take os.length os) (List.take ss.length ss) j) ((0:Int))))))) (H [Pt.r,Pt.r,Pt.l,Pt.r,Pt.b] m (aEz (ns) (es) (os) (ss) (r) (x) (n) (o) (IntKind.i64.wrap (i+(1:Int)))))):T (List C)).eval:=aAo (by kernel_rfl)
theorem aXx (H:List Pt→Nat→St→T (List C)) (ns:List (List C)) (es:List (List C)) (os:List (List C)) (ss:List (List C)) (r:Int) (x:Int) (n:Nat) (o:List (List C)) (i:Int) (j:Int) (m:Nat) (k:Nat):(aBk aCg aAb (sg [aDi] [aDh]) Tryz.f141 H [Pt.r,Pt.r,Pt.l,Pt.r,Pt.b,Pt.lp m,Pt.r,Pt.l,Pt.b,Pt.r,Pt.l,Pt.r,Pt.b] k (aMc ns es os ss r x n o i j)).eval=((.ask (decide (j≤(↑ss.length:Int))) (.must (decide ((0:Int)≤i)&&decide (i<(↑ns.length:Int))&&decide ((ns.getD i.toNat []).length=3)) (.must (decide (0<(ns.getD i.toNat []).length)&&C.is (K.int .i64) ((ns.getD i.toNat []).getD 0 (C.fn 0 []))&&(decide (0+1<(ns.getD i.toNat []).length)&&C.is K.str ((ns.getD i.toNat []).getD (0+1) (C.fn 0 []))&&(decide (0+1+1<(ns.getD i.toNat []).length)&&C.is (K.int .i64) ((ns.getD i.toNat []).getD (0+1+1) (C.fn 0 []))&&true))) (.must (decide (n=o.length)&&aBe (o.length+1) 32&&(decide (((Nat.add 1 0).succ.add 0).succ=3)&&true)) (H [Pt.r,Pt.r,Pt.l,Pt.r,Pt.b] m (aEz (ns) (es) (os) (ss) (r) (x) (o.length+1) (o.append [[C.int .i64 ((ns.getD i.toNat []).getD 0 (C.fn 0 [])).toInt,C.str ((ns.getD i.toNat []).getD (0+1) (C.fn 0 [])).toStr,C.int .i64 ((ns.getD i.toNat []).getD (0+1+1) (C.fn 0 [])).toInt]]) (IntKind.i64.wrap (i+(1:Int)))))))) (.must (decide ((0:Int)≤i)&&decide (i<(↑ns.length:Int))&&decide ((ns.getD i.toNat []).length=3)) (.must (decide (0<(ns.getD i.toNat []).length)&&C.is (K.int .i64) ((ns.getD i.toNat []).getD 0 (C.fn 0 []))&&(decide (0+1<(ns.getD i.toNat []).length)&&C.is K.str ((ns.getD i.toNat []).getD (0+1) (C.fn 0 []))&&(decide (0+1+1<(ns.getD i.toNat []).length)&&C.is (K.int .i64) ((ns.getD i.toNat []).getD (0+1+1) (C.fn 0 []))&&true))) (.must (decide (n=o.length)&&aBe (o.length+1) 32&&(decide (((Nat.add 1 0).succ.add 0).succ=3)&&true)) (H [Pt.r,Pt.r,Pt.l,Pt.r,Pt.b] m (aEz (ns) (es) (os) (ss) (r) (x) (o.length+1) (o.append [[C.int .i64 ((ns.getD i.toNat []).getD 0 (C.fn 0 [])).toInt,C.str ((ns.getD i.toNat []).getD (0+1) (C.fn 0 [])).toStr,C.int .i64 ((ns.getD i.toNat []).getD (0+1+1) (C.fn 0 [])).toInt]]) (IntKind.i64.wrap (i+(1:Int))))))))):T (List C)).eval:=aAo (by kernel_rfl)
theorem aXw (H:List Pt→Nat→St→T (List C)) (ns:List (List C)) (es:List (List C)) (os:List (List C)) (ss:List (List C)) (r:Int) (x:Int) (n:Nat) (o:List (List C)) (i:Int) (j:Int) (q:Nat) (l:List (List C)) (y:Int) (m:Nat) (m2:Nat) (k:Nat):(aBk aCg aAb (sg [aDi] [aDh]) Tryz.f141 H [Pt.r,Pt.r,Pt.l,Pt.r,Pt.b,Pt.lp m,Pt.r,Pt.l,Pt.b,Pt.r,Pt.l,Pt.r,Pt.b,Pt.lp m2,Pt.r,Pt.l,Pt.b,Pt.r,Pt.r,Pt.b] k (aK3 ns es os ss r x n o i j q l y)).eval=((.ask (decide (y<(↑q:Int))) (.must (decide ((0:Int)≤y)&&decide (y<(↑q:Int))) (.must (decide (0+y.toNat<l.length)&&(decide (0+1<(l.getD (0+y.toNat) []).length)&&C.is (K.int .i64) ((l.getD (0+y.toNat) []).getD (0+1) (C.fn 0 []))&&true)) (.must (decide ((0:Int)≤i)&&decide (i<(↑ns.length:Int))&&decide ((ns.getD i.toNat []).length=3)) (.must (decide (0+0<(ns.getD i.toNat []).length)&&C.is (K.int .i64) ((ns.getD i.toNat []).getD (0+0) (C.fn 0 []))&&true) (.ask (decide (((l.getD (0+y.toNat) []).getD (0+1) (C.fn 0 [])).toInt=((ns.getD i.toNat []).getD (0+0) (C.fn 0 [])).toInt)) (H [Pt.r,Pt.r,Pt.l,Pt.r,Pt.b,Pt.lp m,Pt.r,Pt.l,Pt.b,Pt.r,Pt.l,Pt.r,Pt.b,Pt.lp m2,Pt.r,Pt.l,Pt.b,Pt.r,Pt.r,Pt.b] k (aQn (ns) (es) (os) (ss) (r) (x) (n) (o) (i) (j) (q) (l) (IntKind.i64.wrap (y+(1:Int))))) (H [Pt.r,Pt.r,Pt.l,Pt.r,Pt.b,Pt.lp m,Pt.r,Pt.l,Pt.b,Pt.r,Pt.l,Pt.r,Pt.b,Pt.lp m2,Pt.r,Pt.l,Pt.b,Pt.r,Pt.r,Pt.b] k (aK3 (ns) (es) (os) (ss) (r) (x) (n) (o) (i) (j) (q) (l) (IntKind.i64.wrap (y+(1:Int)))))))))) (H [Pt.r,Pt.r,Pt.l,Pt.r,Pt.b,Pt.lp m,Pt.r,Pt.l,Pt.b,Pt.r,Pt.l,Pt.r,Pt.b] m2 (aMd (ns) (es) (os) (ss) (r) (x) (n) (o) (i) (IntKind.i64.wrap (j+(1:Int)))))):T (List C)).eval:=aAo (by kernel_rfl)
theorem aXv (H:List Pt→Nat→St→T (List C)) (ns:List (List C)) (es:List (List C)) (os:List (List C)) (ss:List (List C)) (r:Int) (x:Int) (n:Nat) (o:List (List C)) (i:Int) (j:Int) (q:Nat) (l:List (List C)) (y:Int) (m:Nat) (m2:Nat) (k:Nat):(aBk aCg aAb (sg [aDi] [aDh]) Tryz.f141 H [Pt.r,Pt.r,Pt.l,Pt.r,Pt.b,Pt.lp m,Pt.r,Pt.l,Pt.b,Pt.r,Pt.l,Pt.r,Pt.b,Pt.lp m2,Pt.r,Pt.l,Pt.b,Pt.r,Pt.r,Pt.b] k (aQn ns es os ss r x n o i j q l y)).eval=((.ask (decide (y<(↑q:Int))) (H [Pt.r,Pt.r,Pt.l,Pt.r,Pt.b,Pt.lp m,Pt.r,Pt.l,Pt.b,Pt.r,Pt.l,Pt.r,Pt.b,Pt.lp m2,Pt.r,Pt.l,Pt.b,Pt.r,Pt.r,Pt.b] k (aQn (ns) (es) (os) (ss) (r) (x) (n) (o) (i) (j) (q) (l) (IntKind.i64.wrap (y+(1:Int))))) (H [Pt.r,Pt.r,Pt.l,Pt.r,Pt.b,Pt.lp m,Pt.r,Pt.l,Pt.b,Pt.r,Pt.l,Pt.r,Pt.b] m2 (aMc (ns) (es) (os) (ss) (r) (x) (n) (o) (i) (IntKind.i64.wrap (j+(1:Int)))))):T (List C)).eval:=aAo (by kernel_rfl)
theorem aGg {os ss:List (List C)}:stB os ss=true↔aJg os=true∧bTi ss=true∧os.length+ss.length≤16777216:=by simp only[stB,dN,Bool.and_eq_true,decide_eq_true_eq,and_assoc]
theorem aW6 (l:List En) (nm:List UInt8):aBg (l.map eEn) nm=(aG1 l nm).map eEn:=by unfold aBg;rw[aOp]
theorem aPs (l:List En) (nm:List UInt8) (id:Int):aFk (l.map eEn) nm id=(bFg l ⟨nm,id⟩).map eEn:=by unfold aFk;rw[aOp]
theorem en2 (l:List En):((l.map eEn).all fun row=>decide (row.length=2))=true:=by simp
theorem aYs (s:List UInt8):(aAw s).length≤s.length:=by
 unfold aAw aYt
 split
 ·split
  ·rw[List.length_drop];omega
  ·split
   ·simp
   ·rw[List.length_drop,List.length_take];omega
 ·simp
theorem bTj (s:List UInt8):(aO9 s).length≤s.length:=by
 unfold aO9 aS2
 split
 ·rw[List.length_drop];omega
 ·simp
theorem bGo (l:List En) (s:List UInt8) (B:Nat) (hs:s.length≤B) (hl:∀ x∈l,x.name.length≤B):(aM5 l s).length≤l.length+1∧∀ x∈aM5 l s,x.name.length≤B:=by
 have h1:=aYs s
 have h2:=bTj s
 have d1:=aJv l (aAw s)
 unfold aM5
 by_cases c43:aBo s=43
 ·have c45:¬aBo s=45:=by omega
  have c62:¬aBo s=62:=by omega
  simp only[if_pos c43,if_neg c45,if_neg c62]
  refine⟨aPu _ _,fun x hx=>?_⟩
  rcases aPt hx with rfl | hx
  ·show (aAw s).length≤B;omega
  ·exact hl x hx
 ·simp only[if_neg c43]
  by_cases c45:aBo s=45
  ·simp only[if_pos c45]
   exact⟨by omega,fun x hx=>hl x (aJu hx)⟩
  ·simp only[if_neg c45]
   refine⟨by have:=aPu (aG1 l (aAw s)) ⟨aO9 s,if aBo s=62 then aB7 l (aAw s)else aQv s⟩;omega,fun x hx=>?_⟩
   rcases aPt hx with rfl | hx
   ·show (aO9 s).length≤B;omega
   ·exact hl x (aJu hx)
theorem aYr (B:Nat):∀ (t:List (List UInt8)) (l l':List En),aFc t l=some l'→(∀ s∈t,s.length≤B)→(∀ x∈l,x.name.length≤B)→l'.length≤l.length+t.length∧∀ x∈l',x.name.length≤B
 |[],l,l',h,_,hl=>by
  obtain rfl:=Option.some.inj h
  exact⟨by simp,hl⟩
 |s::t,l,l',h,ht,hl=>by
  unfold aFc at h
  split at h
  ·obtain⟨a,b⟩:=bGo l s B (ht s List.mem_cons_self) hl
   obtain⟨c,d⟩:=aYr B t _ l' h (fun x hx=>ht x (List.mem_cons_of_mem _ hx)) b
   exact⟨by simp only[List.length_cons];omega,d⟩
  ·cases h
theorem bPk (ss:List (List UInt8)) (n:Int):aTz ss n≤ss.length∧((aTz ss n:Nat):Int)=aB5 n 0 ss.length:=by
 unfold aTz aB5
 split
 ·exact⟨by simp,by simp⟩
 ·split
  ·exact⟨by simp,by simp⟩
  ·exact⟨by omega,by omega⟩
theorem bL0 {os ss:List (List C)} (h:stB os ss=true) (n:Int):(sdL (ens os) (aCm ss) n).length≤16777216∧∀ x∈sdL (ens os) (aCm ss) n,x.name.length≤16777216:=by
 obtain⟨h1,h2,h3⟩:=aGg.1 h
 obtain⟨l,rfl,e,_,ht⟩:=aHn h1
 obtain⟨t,rfl,e2,_,ht2⟩:=aTx h2
 rw[e,e2]
 simp only[List.length_map]at h3
 unfold sdL
 cases hg:aFc (t.take (aTz t n)) l with
 |none=>exact⟨by simp,fun x hx=>by simp at hx⟩
 |some l' =>
  obtain⟨a,b⟩:=aYr 16777216 _ l l' hg (fun s hs=>ht2 s (List.mem_of_mem_take hs)) ht
  rw[List.length_take]at a
  exact⟨by show l'.length≤_;omega,b⟩
theorem bYx {os ss:List (List C)} (h:stB os ss=true) (n:Int):aJg (sdR os ss n)=true:=aKq.2 (bL0 h n)
theorem bSc (l:List En) (h:l.length≤16777216):(decide (l.length≤aK9)&&aAt [K.str,K.int .i64] (l.map eEn))=true:=by
 rw[decide_eq_true (Nat.le_trans h (by decide))]
 exact aJk l
theorem bUw {s:List UInt8} (h:aGa s=true):2≤s.length∧(aBo s=43∨aBo s=45∨aBo s=62):=by
 unfold aGa aHs at h
 simp only[Bool.and_eq_true,Bool.or_eq_true,decide_eq_true_eq]at h
 exact⟨h.1.1,by omega⟩
theorem bI2 (ss:List (List UInt8)) (n:Nat) (hn:n≤ss.length) (hl:ss.length≤16777216) (hss:∀ x∈ss,x.length≤16777216):∀ (N i:Nat) (l:List En),i≤n→n<i+N→l.length+(n-i)≤16777216→(∀ x∈l,x.name.length≤16777216) →
  (aBn aQq aAb (sg [pSl 100,pSl 9,pI] [rSl 100,rB]) Tryz.f155 [.r,.r,.r,.l,.r,.b] N (aCv (ss.map aAn) n l.length (l.map eEn) i)).eval=some [.sl (((aFc ((ss.take n).drop i) l).getD []).map eEn),.bool (aFc ((ss.take n).drop i) l).isSome]:=by
 intro N
 induction N with
 |zero=>intro i l h1 h2;omega
 |succ N ih =>
  intro i l h1 h2 h3 h4
  rw[aAz _ _ _ _ _ _ _ (by kernel_rfl),bAn]
  by_cases hi:i<n
  ·have hi2:i<ss.length:=by omega
   have g:=aBa aAn ss [] i hi2
   have w2:IntKind.i64.wrap ((i:Int)+1)=((i+1:Nat):Int):=by rw[aAi]<;>omega
   have hlen:(ss.take n).length=n:=by rw[List.length_take];omega
   have gt:(ss.take n).getD i []=ss.getD i []:=by simp[List.getD_eq_getElem?_getD,List.getElem?_take,hi]
   rw[aC3 (ss.take n) i [] (by omega),gt]
   have hb:=hss _ (aIu (d:=[]) hi2)
   generalize ss.getD i []=s at g hb ⊢
   have tk:List.take l.length (l.map eEn)=l.map eEn:=by rw[List.take_of_length_le];simp
   have m1:=at2 ss.length i hi2 1 1 rfl
   have eb:aJg (l.map eEn)=true:=aKq.2 ⟨by omega,h4⟩
   have big:=bSc l (by omega)
   have nl:=aYs s
   have go:∀ q:List En,aDs l s=true→aM5 l s=q→q.length+(n-(i+1))≤16777216→(∀ x∈q,x.name.length≤16777216)→(aBn aQq aAb (sg [pSl 100,pSl 9,pI] [rSl 100,rB]) Tryz.f155 [.r,.r,.r,.l,.r,.b] N (aCv (ss.map aAn) n q.length (q.map eEn) ((i+1:Nat):Int))).eval=some [.sl (((aFc (s::(ss.take n).drop (i+1)) l).getD []).map eEn),.bool (aFc (s::(ss.take n).drop (i+1)) l).isSome]:=fun q hf hq b1 b2=>by
    have:=ih (i+1) q (by omega) (by omega) b1 b2
    rw[this]
    have e:aFc (s::(ss.take n).drop (i+1)) l=aFc ((ss.take n).drop (i+1)) q:=by show (if aDs l s then _ else none)=_;rw[if_pos hf,hq]
    rw[e]
   have bad:aDs l s=false→(some [C.sl [],C.bool false]:Option (List C))=some [.sl (((aFc (s::(ss.take n).drop (i+1)) l).getD []).map eEn),.bool (aFc (s::(ss.take n).drop (i+1)) l).isSome]:=fun hf=>by
    have e:aFc (s::(ss.take n).drop (i+1)) l=none:=by show (if aDs l s then _ else none)=_;rw[hf];rfl
    rw[e];rfl
   obtain⟨q1,q2⟩:=bGo l s 16777216 hb h4
   have d1:=aJv l (aAw s)
   have eb2:aJg ((aG1 l (aAw s)).map eEn)=true:=aKq.2 ⟨by omega,fun x hx=>h4 x (aJu hx)⟩
   have r2:=fun q:List En=>en2 q
   simp only[List.length_map,Int.toNat_natCast,g,tk,aOp,List.getD_cons_zero,C.toStr,aW6,aPs,w2]at *
   refine aAg (decide_eq_true (by omega)) (aA5 m1 (aA5 rfl (aA5 (decide_eq_true (by omega)) ?_)))
   cases c1:aGa s
   ·exact aAh rfl (bad (by unfold aDs;rw[c1];rfl))
   ·obtain⟨sl,sm⟩:=bUw c1
    refine aAg rfl (aA5 (decide_eq_true (by omega)) ?_)
    cases c2:aDz (aAw s)
    ·exact aAh rfl (bad (by unfold aDs;rw[c2];simp))
    ·have m0:(decide ((0:Int)≤0)&&decide ((0:Int)<s.length))=true:=by rw[decide_eq_true (by omega),decide_eq_true (by omega)];rfl
     refine aAg rfl (aA5 m1 (aA5 rfl (aA5 m0 ?_)))
     show (T.ask (aBo s != 43) _ _).eval=_
     rcases sm with c43 | c45 | c62
     ·have f1:(aBo s != 43)=false:=by rw[c43];rfl
      have f2:decide (aBo s=62)=false:=by rw[c43];rfl
      have f3:(aBo s != 45)=true:=by rw[c43];rfl
      have hf:aDs l s=true:=by unfold aDs;rw[c1,c2,decide_eq_true c43];rfl
      have hd:aM5 l s=bFg l ⟨aAw s,aQv s⟩:=by unfold aM5;simp only[if_pos c43,if_neg (show ¬aBo s=45 by omega),if_neg (show ¬aBo s=62 by omega)]
      rw[hd]at q1 q2
      refine aAh f1 (aA5 m1 (aA5 rfl (aA5 m0 (aAh f2 (aA5 m1 (aA5 rfl (aA5 m0 (aAh f1 (aA5 m1 (aA5 rfl (aA5 m0 (aAg f3 (aA5 eb (aA5 ?_ ?_))))))))))))))
      ·rw[r2];rfl
      ·exact go _ hf hd (by omega) q2
     ·have f1:(aBo s != 43)=true:=by rw[c45];rfl
      have f2:decide (aBo s=62)=false:=by rw[c45];rfl
      have f3:(aBo s != 45)=false:=by rw[c45];rfl
      refine aAg f1 (aA5 big ?_)
      cases c3:aG7 l (aAw s)
      ·exact aAh rfl (bad (by unfold aDs;rw[c3,decide_eq_false (show ¬aBo s=43 by omega)];simp))
      ·have hf:aDs l s=true:=by unfold aDs;rw[c1,c2,c3];simp
       have hd:aM5 l s=aG1 l (aAw s):=by unfold aM5;simp only[if_pos c45,if_neg (show ¬aBo s=43 by omega)]
       rw[hd]at q1 q2
       refine aAg rfl (aA5 m1 (aA5 rfl (aA5 m0 (aAh f2 (aA5 m1 (aA5 rfl (aA5 m0 (aAg f1 (aA5 eb (aA5 ?_ (aA5 m1 (aA5 rfl (aA5 m0 (aAh f3 ?_))))))))))))))
       ·rw[r2];rfl
       ·exact go _ hf hd (by omega) q2
     ·have f1:(aBo s != 43)=true:=by rw[c62];rfl
      have f2:decide (aBo s=62)=true:=by rw[c62];rfl
      have f3:(aBo s != 45)=true:=by rw[c62];rfl
      refine aAg f1 (aA5 big ?_)
      cases c3:aG7 l (aAw s)
      ·exact aAh rfl (bad (by unfold aDs;rw[c3,decide_eq_false (show ¬aBo s=43 by omega)];simp))
      ·have hf:aDs l s=true:=by unfold aDs;rw[c1,c2,c3];simp
       have hd:aM5 l s=bFg (aG1 l (aAw s)) ⟨aO9 s,aB7 l (aAw s)⟩:=by unfold aM5;simp only[if_pos c62,if_neg (show ¬aBo s=45 by omega),if_neg (show ¬aBo s=43 by omega)]
       rw[hd]at q1 q2
       have tk2:List.take (aG1 l (aAw s)).length ((aG1 l (aAw s)).map eEn)=(aG1 l (aAw s)).map eEn:=by rw[List.take_of_length_le];simp
       refine aAg rfl (aA5 m1 (aA5 rfl (aA5 m0 (aAg f2 (aA5 big (aA5 m1 (aA5 rfl (aA5 m0 (aAg f1 (aA5 eb (aA5 ?_ (aA5 m1 (aA5 rfl (aA5 m0 (aAg f3 (aA5 ?_ (aA5 ?_ ?_)))))))))))))))))
       ·rw[r2];rfl
       ·rw[tk2];exact eb2
       ·rw[tk2,aPs,r2];rfl
       ·rw[tk2,aPs,List.length_map]
        exact go _ hf hd (by omega) q2
  ·have e:i=n:=by omega
   subst e
   have:(ss.take i).drop i=[]:=by rw[List.drop_eq_nil_iff,List.length_take];omega
   rw[this]
   refine aAh (decide_eq_false (by omega)) (aA5 ?_ rfl)
   rw[bCv,decide_eq_true (List.length_map _).symm];rfl
theorem bTm:aA9 Tryz.prog aQq:=aA8 (by simp[aNs,aHd,aEn,aFt,aR7,aOe,bI3])
theorem aS3:aB0 Tryz.prog 155 (sg [pSl 100,pSl 9,pI] [rSl 100,rB]) aPa:=aA6 bTm aAa Tryz.func155 (by kernel_rfl) fun cs outs hk h=>by
 unfold aPa at h
 split at h
 ·simp only[Option.some.injEq,Prod.mk.injEq]at h
  obtain⟨h1,rfl⟩:=h
  rename_i os ss n
  obtain⟨a1,a2,a3⟩:=aGg.1 h1
  obtain⟨l,rfl,e,hl,ht⟩:=aHn a1
  obtain⟨t,rfl,e2,hl2,ht2⟩:=aTx a2
  unfold sdR bVn sdL
  obtain⟨b1,b2⟩:=bPk t n
  simp only[List.length_map]at a3
  have lp:=bI2 t (aTz t n) b1 hl2 ht2 9223372036854775808 0 l (by omega) (by omega) (by omega) ht
  rw[e,e2,aAd,bI1]
  rw[List.length_map,Nat.zero_add,List.length_map,←b2]
  refine aA5 ?_ lp
  have ro:aBe l.length 24=true:=by simp only[aBe,decide_eq_true_eq];omega
  rw[ro,en2];rfl
 ·cases h
theorem aCe {ns es os ss:List (List C)}:aF4 ns es os ss=true↔aZ3 ns=true∧aJg es=true∧stB os ss=true:=by simp only[aF4,Bool.and_eq_true,and_assoc]
def bQv (l:List Nd) (i:Nat):Option Int:=if i=0 then none else some (l.getD (i-1) ⟨0,[],0⟩).id
theorem bQr {p:Nat→Bool} (n k:Nat) (h:k<n):(List.range' k (n-k)).all p=(p k&&(List.range' (k+1) (n-(k+1))).all p):=by
 obtain⟨m,hm⟩:∃ m,n-k=m+1:=⟨n-k-1,by omega⟩
 rw[hm,List.range'_succ,List.all_cons,show n-(k+1)=m by omega]
theorem bQq {p:Nat→Bool} (n k:Nat) (h:k<n):(List.range' k (n-k)).any p=(p k||(List.range' (k+1) (n-(k+1))).any p):=by
 obtain⟨m,hm⟩:∃ m,n-k=m+1:=⟨n-k-1,by omega⟩
 rw[hm,List.range'_succ,List.any_cons,show n-(k+1)=m by omega]
theorem bBa (ns es os ss:List (List C)) (r x:Int) (hd:aF4 ns es os ss=true):∀ (N k:Nat),k≤ss.length+1→ss.length+1<k+N →
  (aBn aK6 aAb (sg [aB4] [rB]) Tryz.f139 [.r,.r,.r,.l,.r,.b] N (aK2 ns es os ss r x k)).eval=some [.bool ((List.range' k (ss.length+1-k)).all (aTy (nds ns) (ens es) (ens os) (aCm ss)))]:=by
 obtain⟨d1,d2,d3⟩:=aCe.1 hd
 have hl:=(aIn.1 (aGg.1 d3).2.1).2.1
 intro N
 induction N with
 |zero=>intro k h1 h2;omega
 |succ N ih =>
  intro k h1 h2
  rw[aAz _ _ _ _ _ _ _ (by kernel_rfl),aUt]
  by_cases hk:k<ss.length+1
  ·have w2:IntKind.i64.wrap ((k:Int)+1)=((k+1:Nat):Int):=by rw[aAi]<;>omega
   have e:=ih (k+1) (by omega) (by omega)
   have sk:aCm ss=aCm ss:=rfl
   have sle:(aCm ss).length=ss.length:=by unfold aCm;rw[List.length_map]
   have so:=bYx d3 k
   rw[bQr _ _ hk,w2,List.take_length]
   have st:aTy (nds ns) (ens es) (ens os) (aCm ss) k=(bVn (ens os) (aCm ss) k&&aJt (nds ns) (sdL (ens os) (aCm ss) k)&&(!decide (k=(aCm ss).length)||decide (sdL (ens os) (aCm ss) k=ens es))):=rfl
   have er:ens (sdR os ss k)=sdL (ens os) (aCm ss) k:=by unfold sdR;rw[aOp]
   rw[st,er,sle]
   refine aAg (decide_eq_true (by omega)) (aA5 d3 (aA5 ?_ ?_))
   ·unfold sdR;rw[en2];rfl
   ·cases c1:bVn (ens os) (aCm ss) k
    ·exact aAh rfl rfl
    ·refine aAg rfl (aA5 (by rw[d1,so];rfl) ?_)
     cases c2:aJt (nds ns) (sdL (ens os) (aCm ss) k)
     ·exact aAh rfl rfl
     ·refine aAg rfl ?_
      by_cases c3:k=ss.length
      ·rw[decide_eq_true c3]
       refine aAg (decide_eq_true (by omega)) (aA5 (by rw[so,d2];rfl) ?_)
       by_cases c4:sdL (ens os) (aCm ss) k=ens es
       ·rw[decide_eq_true c4]
        exact aAg rfl e
       ·rw[decide_eq_false c4]
        exact aAh rfl rfl
      ·rw[decide_eq_false c3]
       refine aAh (decide_eq_false (by omega)) ?_
       simpa using e
  ·have e:k=ss.length+1:=by omega
   subst e
   rw[Nat.sub_self]
   exact aAh (decide_eq_false (by omega)) rfl
theorem bEr (l:List Nd) (es os ss:List (List C)) (r x:Int) (hx:1≤x∧x≤1000000000) (hd:aF4 (l.map eNd) es os ss=true):∀ (N i:Nat),i≤l.length→l.length<i+N →
  (aBn aK6 aAb (sg [aB4] [rB]) Tryz.f139 [.r,.r,.l,.r,.b] N (aMb (l.map eNd) es os ss r x i)).eval=some [.bool (aV8 x (l.drop i) (bQv l i)&&(List.range (ss.length+1)).all (aTy l (ens es) (ens os) (aCm ss)))]:=by
 obtain⟨d1,d2,d3⟩:=aCe.1 hd
 have hl:=(aMl.1 d1).1
 have hsl:=(aIn.1 (aGg.1 d3).2.1).2.1
 intro N
 induction N with
 |zero=>intro i h1 h2;omega
 |succ N ih =>
  intro i h1 h2
  rw[aAz _ _ _ _ _ _ _ (by kernel_rfl),aXt]
  by_cases hi:i<l.length
  ·have g:=aBa eNd l ⟨0,[],0⟩ i hi
   have w2:IntKind.i64.wrap ((i:Int)+1)=((i+1:Nat):Int):=by rw[aAi]<;>omega
   have w3:IntKind.i64.wrap (x-1)=x-1:=by rw[aAi]<;>omega
   have e:=ih (i+1) (by omega) (by omega)
   have pv:bQv l (i+1)=some (l.getD i ⟨0,[],0⟩).id:=by unfold bQv;rw[if_neg (by omega),Nat.add_sub_cancel]
   rw[pv]at e
   rw[List.length_map,Int.toNat_natCast,g,w2,w3,aC3 l i ⟨0,[],0⟩ hi]
   have sp:∀ y q,aV8 x (y::l.drop (i+1)) q=(inB y.id 1 (x-1)&&(match q with | none=>true | some q=>decide (q<y.id))&&inB y.sure 0 y.text.length&&aV8 x (l.drop (i+1)) (some y.id)):=fun _ _=>rfl
   rw[sp]
   generalize l.getD i ⟨0,[],0⟩=y at e ⊢
   refine aAg (decide_eq_true (by omega)) (aA5 (at2 _ _ hi _ _ rfl) (aA5 rfl ?_))
   show (T.ask (inB y.id 1 (x-1)) _ _).eval=_
   cases c1:inB y.id 1 (x-1)
   ·exact aAh rfl rfl
   ·refine aAg rfl ?_
    by_cases c3:i=0
    ·subst c3
     refine aAh rfl ?_
     show (T.ask (inB y.sure 0 (y.text.length:Int)) _ _).eval=some [C.bool (true&&true&&inB y.sure 0 (y.text.length:Int)&&_&&_)]
     cases c4:inB y.sure 0 (y.text.length:Int)
     ·exact aAh rfl rfl
     ·refine aAg rfl ?_
      simpa using e
    ·have hj:i-1<l.length:=by omega
     have w4:IntKind.i64.wrap ((i:Int)-1)=((i-1:Nat):Int):=by rw[aAi]<;>omega
     have g2:=aBa eNd l ⟨0,[],0⟩ (i-1) hj
     rw[w4,Int.toNat_natCast,g2]
     have pv2:bQv l i=some (l.getD (i-1) ⟨0,[],0⟩).id:=by unfold bQv;rw[if_neg c3]
     rw[pv2]
     generalize l.getD (i-1) ⟨0,[],0⟩=z
     refine aAg (decide_eq_true (by omega)) (aA5 (at2 _ _ hj _ _ rfl) (aA5 rfl ?_))
     show (T.ask (decide (y.id≤z.id)) _ _).eval=some [C.bool (true&&decide (z.id<y.id)&&inB y.sure 0 (y.text.length:Int)&&_&&_)]
     by_cases c5:y.id≤z.id
     ·rw[decide_eq_false (show ¬z.id<y.id by omega)]
      exact aAg (decide_eq_true c5) rfl
     ·rw[decide_eq_true (show z.id<y.id by omega)]
      refine aAh (decide_eq_false c5) ?_
      show (T.ask (inB y.sure 0 (y.text.length:Int)) _ _).eval=_
      cases c4:inB y.sure 0 (y.text.length:Int)
      ·exact aAh rfl rfl
      ·refine aAg rfl ?_
       simpa using e
  ·have e:i=l.length:=by omega
   subst e
   rw[List.drop_length,List.length_map]
   refine aAh (decide_eq_false (by omega)) ?_
   have:=bBa (l.map eNd) es os ss r x hd 9223372036854775808 0 (by omega) (by omega)
   rw[aFw]at this
   rw[List.range_eq_range']
   exact this
theorem bQ2:aA9 Tryz.prog aK6:=aA8 (by simp[aDg,aU4,aXq,bI5,aS3])
theorem aEp:aB0 Tryz.prog 139 (sg [aB4] [rB]) aFn:=aA6 bQ2 aAa Tryz.func139 (by kernel_rfl) fun cs outs hk h=>by
 unfold aFn at h
 split at h
 ·simp only[Option.some.injEq,Prod.mk.injEq]at h
  obtain⟨hd,rfl⟩:=h
  rename_i ns es os ss r x
  obtain⟨d1,d2,d3⟩:=aCe.1 hd
  obtain⟨l,rfl,e,hl,ht⟩:=aKj d1
  have sle:(aCm ss).length=ss.length:=by unfold aCm;rw[List.length_map]
  unfold aF2 bKd
  rw[aAd,bEq,aFw,List.length_map,sle]
  by_cases c1:(64:Int)<l.length
  ·rw[decide_eq_false (show ¬l.length≤64 by omega)]
   exact aAg (decide_eq_true c1) rfl
  ·rw[decide_eq_true (show l.length≤64 by omega)]
   refine aAh (decide_eq_false c1) ?_
   cases c2:inB r 0 1000000000
   ·exact aAh rfl rfl
   ·refine aAg rfl ?_
    cases c3:inB x 1 1000000000
    ·exact aAh rfl rfl
    ·refine aAg rfl (aA5 d1 ?_)
     by_cases c4:r<(aEa l:Int)
     ·rw[decide_eq_false (show ¬(aEa l:Int)≤r by omega)]
      exact aAg (decide_eq_true c4) rfl
     ·rw[decide_eq_true (show (aEa l:Int)≤r by omega)]
      refine aAh (decide_eq_false c4) ?_
      exact bEr l es os ss r x ((aBr _ _ _).1 c3) hd 9223372036854775808 0 (by omega) (by omega)
 ·cases h
theorem cBj (o:List Nd) (x:Nd):(o.map eNd).append [[C.int .i64 x.id,C.str x.text,C.int .i64 x.sure]]=(o++[x]).map eNd:=by simp
theorem bZ3 (o:List Nd) (h:o.length≤100000000):(decide (o.length=(o.map eNd).length)&&aBe ((o.map eNd).length+1) 32&&(decide (((Nat.add 1 0).succ.add 0).succ=3)&&true))=true:=by
 have r:aBe ((o.map eNd).length+1) 32=true:=by rw[List.length_map];simp only[aBe,decide_eq_true_eq];omega
 rw[r,decide_eq_true (List.length_map _).symm];rfl
def bXu (id:Int) (e:En):Bool:=decide (e.id=id)
theorem bEy (l:List Nd) (es os ss:List (List C)) (r x:Int) (hl:l.length≤16777216) (m N i:Nat) (o:List Nd) (j:Int) (hi:i<l.length) (ho:o.length≤i) (hN:0<N) :
  (aBn aCg aAb (sg [aDi] [aDh]) Tryz.f141 [.r,.r,.l,.r,.b,.lp m,.r,.l,.b,.r,.l,.r,.b] N (aMc (l.map eNd) es os ss r x o.length (o.map eNd) i j)).eval=(aBn aCg aAb (sg [aDi] [aDh]) Tryz.f141 [.r,.r,.l,.r,.b] m (aEz (l.map eNd) es os ss r x (o++[l.getD i ⟨0,[],0⟩]).length ((o++[l.getD i ⟨0,[],0⟩]).map eNd) ((i+1:Nat):Int))).eval:=by
 obtain⟨N,rfl⟩:∃ q,N=q+1:=⟨N-1,by omega⟩
 rw[aAz _ _ _ _ _ _ _ (by kernel_rfl),aXx]
 have g:=aBa eNd l ⟨0,[],0⟩ i hi
 have w2:IntKind.i64.wrap ((i:Int)+1)=((i+1:Nat):Int):=by rw[aAi]<;>omega
 rw[List.length_map,Int.toNat_natCast,g,w2]
 generalize l.getD i ⟨0,[],0⟩=y
 have ap:=cBj o y
 have fin:(T.must (decide ((0:Int)≤i)&&decide ((i:Int)<l.length)&&decide ((eNd y).length=3)) (T.must true (T.must (decide (o.length=(o.map eNd).length)&&aBe ((o.map eNd).length+1) 32&&(decide (((Nat.add 1 0).succ.add 0).succ=3)&&true)) (aBn aCg aAb (sg [aDi] [aDh]) Tryz.f141 [.r,.r,.l,.r,.b] m (aEz (l.map eNd) es os ss r x ((o.map eNd).length+1) ((o.map eNd).append [[C.int .i64 y.id,C.str y.text,C.int .i64 y.sure]]) ((i+1:Nat):Int))))):T (List C)).eval=(aBn aCg aAb (sg [aDi] [aDh]) Tryz.f141 [.r,.r,.l,.r,.b] m (aEz (l.map eNd) es os ss r x (o++[y]).length ((o++[y]).map eNd) ((i+1:Nat):Int))).eval:=by
  refine aA5 (at2 _ _ hi _ _ rfl) (aA5 rfl (aA5 (bZ3 o (by omega)) ?_))
  rw[ap,List.length_map,List.length_append];rfl
 by_cases c:j≤(ss.length:Int)
 ·exact aAg (decide_eq_true c) fin
 ·exact aAh (decide_eq_false c) fin
theorem bEw (ns es os ss:List (List C)) (r x:Int) (n:Nat) (o:List (List C)) (i:Int) (j:Nat) (hj:j≤16777216) (q:Nat) (hq:q≤16777216) (l:List (List C)) (m m2:Nat):∀ (N y:Nat),y≤q→q<y+N →
  (aBn aCg aAb (sg [aDi] [aDh]) Tryz.f141 [.r,.r,.l,.r,.b,.lp m,.r,.l,.b,.r,.l,.r,.b,.lp m2,.r,.l,.b,.r,.r,.b] N (aQn ns es os ss r x n o i j q l y)).eval=(aBn aCg aAb (sg [aDi] [aDh]) Tryz.f141 [.r,.r,.l,.r,.b,.lp m,.r,.l,.b,.r,.l,.r,.b] m2 (aMc ns es os ss r x n o i ((j+1:Nat):Int))).eval:=by
 intro N
 induction N with
 |zero=>intro y h1 h2;omega
 |succ N ih =>
  intro y h1 h2
  rw[aAz _ _ _ _ _ _ _ (by kernel_rfl),aXv]
  have w2:IntKind.i64.wrap ((y:Int)+1)=((y+1:Nat):Int):=by rw[aAi]<;>omega
  have w3:IntKind.i64.wrap ((j:Int)+1)=((j+1:Nat):Int):=by rw[aAi]<;>omega
  rw[w2,w3]
  by_cases hy:y<q
  ·exact aAg (decide_eq_true (by omega)) (ih (y+1) (by omega) (by omega))
  ·exact aAh (decide_eq_false (by omega)) rfl
theorem bEx (nl:List Nd) (es os ss:List (List C)) (r x:Int) (n:Nat) (o:List (List C)) (i:Nat) (hi:i<nl.length) (j:Nat) (hj:j≤16777216) (l:List En) (hq:l.length≤16777216) (m m2:Nat):∀ (N y:Nat),y≤l.length→l.length<y+N →
  (aBn aCg aAb (sg [aDi] [aDh]) Tryz.f141 [.r,.r,.l,.r,.b,.lp m,.r,.l,.b,.r,.l,.r,.b,.lp m2,.r,.l,.b,.r,.r,.b] N (aK3 (nl.map eNd) es os ss r x n o i j l.length (l.map eEn) y)).eval =
   if (l.drop y).any (bXu (nl.getD i ⟨0,[],0⟩).id)then (aBn aCg aAb (sg [aDi] [aDh]) Tryz.f141 [.r,.r,.l,.r,.b,.lp m,.r,.l,.b,.r,.l,.r,.b] m2 (aMc (nl.map eNd) es os ss r x n o i ((j+1:Nat):Int))).eval
   else (aBn aCg aAb (sg [aDi] [aDh]) Tryz.f141 [.r,.r,.l,.r,.b,.lp m,.r,.l,.b,.r,.l,.r,.b] m2 (aMd (nl.map eNd) es os ss r x n o i ((j+1:Nat):Int))).eval:=by
 intro N
 induction N with
 |zero=>intro y h1 h2;omega
 |succ N ih =>
  intro y h1 h2
  rw[aAz _ _ _ _ _ _ _ (by kernel_rfl),aXw]
  have w2:IntKind.i64.wrap ((y:Int)+1)=((y+1:Nat):Int):=by rw[aAi]<;>omega
  have w3:IntKind.i64.wrap ((j:Int)+1)=((j+1:Nat):Int):=by rw[aAi]<;>omega
  by_cases hy:y<l.length
  ·have g:=aBa eEn l ⟨[],0⟩ y hy
   have g2:=aBa eNd nl ⟨0,[],0⟩ i hi
   have e:=ih (y+1) (by omega) (by omega)
   have ef:=bEw (nl.map eNd) es os ss r x n o i j hj l.length hq (l.map eEn) m m2 N (y+1) (by omega) (by omega)
   rw[w2,w3,Int.toNat_natCast,Int.toNat_natCast,Nat.zero_add,g,g2,List.length_map,List.length_map,aC3 l y ⟨[],0⟩ hy,List.any_cons]
   generalize l.getD y ⟨[],0⟩=z
   generalize nl.getD i ⟨0,[],0⟩=v at e ⊢
   refine aAg (decide_eq_true (by omega)) (aA5 (by rw[decide_eq_true (by omega),decide_eq_true (by omega)];rfl) (aA5 (by rw[decide_eq_true hy];rfl) (aA5 (at2 _ _ hi _ _ rfl) (aA5 rfl ?_))))
   show (T.ask (decide (z.id=v.id)) _ _).eval=_
   have ii:bXu v.id z=decide (z.id=v.id):=rfl
   rw[ii]
   by_cases c:z.id=v.id
   ·rw[decide_eq_true c,Bool.true_or,if_pos rfl]
    exact aAg rfl ef
   ·rw[decide_eq_false c,Bool.false_or]
    exact aAh rfl e
  ·have e:y=l.length:=by omega
   subst e
   rw[List.drop_length,w3]
   exact aAh (decide_eq_false (by omega)) rfl
theorem bEz (l:List Nd) (es os ss:List (List C)) (r x:Int) (hd:aF4 (l.map eNd) es os ss=true) (m i:Nat) (o:List Nd) (hi:i<l.length) (ho:o.length≤i):∀ (N j:Nat),j≤ss.length+1→ss.length+2<j+N →
  (aBn aCg aAb (sg [aDi] [aDh]) Tryz.f141 [.r,.r,.l,.r,.b,.lp m,.r,.l,.b,.r,.l,.r,.b] N (aMd (l.map eNd) es os ss r x o.length (o.map eNd) i j)).eval =
   if (List.range' j (ss.length+1-j)).any (fun k=>(sdL (ens os) (aCm ss) k).any (bXu (l.getD i ⟨0,[],0⟩).id))then (aBn aCg aAb (sg [aDi] [aDh]) Tryz.f141 [.r,.r,.l,.r,.b] m (aEz (l.map eNd) es os ss r x (o++[l.getD i ⟨0,[],0⟩]).length ((o++[l.getD i ⟨0,[],0⟩]).map eNd) ((i+1:Nat):Int))).eval
   else (aBn aCg aAb (sg [aDi] [aDh]) Tryz.f141 [.r,.r,.l,.r,.b] m (aEz (l.map eNd) es os ss r x o.length (o.map eNd) ((i+1:Nat):Int))).eval:=by
 obtain⟨d1,d2,d3⟩:=aCe.1 hd
 have hl:=(aMl.1 d1).1
 have hsl:=(aIn.1 (aGg.1 d3).2.1).2.1
 intro N
 induction N with
 |zero=>intro j h1 h2;omega
 |succ N ih =>
  intro j h1 h2
  rw[aAz _ _ _ _ _ _ _ (by kernel_rfl),aXy]
  have w2:IntKind.i64.wrap ((i:Int)+1)=((i+1:Nat):Int):=by rw[aAi]<;>omega
  by_cases hj:j<ss.length+1
  ·rw[bQq _ _ hj,List.take_length,List.take_length]
   have f:=bL0 d3 j
   have le:=bEx l es os ss r x o.length (o.map eNd) i hi j (by omega) (sdL (ens os) (aCm ss) j) f.1 m N 9223372036854775808 0 (by omega) (by omega)
   have ld:=bEy l es os ss r x hl m N i o ((j+1:Nat):Int) hi ho (by omega)
   have lc:=ih (j+1) (by omega) (by omega)
   rw[List.drop_zero,ld,lc]at le
   have er:sdR os ss j=(sdL (ens os) (aCm ss) j).map eEn:=rfl
   rw[er,List.length_map]
   have fin:(aBn aCg aAb (sg [aDi] [aDh]) Tryz.f141 [.r,.r,.l,.r,.b,.lp m,.r,.l,.b,.r,.l,.r,.b,.lp N,.r,.l,.b,.r,.r,.b] 9223372036854775808 (aK3 (l.map eNd) es os ss r x o.length (o.map eNd) i j (sdL (ens os) (aCm ss) j).length ((sdL (ens os) (aCm ss) j).map eEn) ((0:Nat):Int))).eval=if ((sdL (ens os) (aCm ss) j).any (bXu (l.getD i ⟨0,[],0⟩).id)||(List.range' (j+1) (ss.length+1-(j+1))).any (fun k=>(sdL (ens os) (aCm ss) k).any (bXu (l.getD i ⟨0,[],0⟩).id)))then (aBn aCg aAb (sg [aDi] [aDh]) Tryz.f141 [.r,.r,.l,.r,.b] m (aEz (l.map eNd) es os ss r x (o++[l.getD i ⟨0,[],0⟩]).length ((o++[l.getD i ⟨0,[],0⟩]).map eNd) ((i+1:Nat):Int))).eval
     else (aBn aCg aAb (sg [aDi] [aDh]) Tryz.f141 [.r,.r,.l,.r,.b] m (aEz (l.map eNd) es os ss r x o.length (o.map eNd) ((i+1:Nat):Int))).eval:=by
    rw[le]
    cases (sdL (ens os) (aCm ss) j).any (bXu (l.getD i ⟨0,[],0⟩).id)<;>rfl
   refine aAg (decide_eq_true (by omega)) (aA5 d3 (aA5 (by rw[en2];rfl) ?_))
   cases bVn (ens os) (aCm ss) j
   ·exact aAh rfl fin
   ·exact aAg rfl fin
  ·have e:j=ss.length+1:=by omega
   subst e
   rw[Nat.sub_self,w2]
   exact aAh (decide_eq_false (by omega)) rfl
theorem bCu {os:List (List C)} (h:aJg os=true):(os.all fun r=>r.all C.flat)=true:=by obtain⟨l,rfl,_⟩:=aHn h;exact bCv l
theorem bS0 {ss:List (List C)} (h:bTi ss=true):(ss.all fun r=>r.all C.flat)=true:=by obtain⟨l,rfl,_⟩:=aTx h;exact aHc l
theorem bFv {os:List (List C)} (h:aJg os=true):(os.all fun row=>decide (row.length=2))=true:=by obtain⟨l,rfl,_⟩:=aHn h;exact en2 l
theorem bVv {ss:List (List C)} (h:bTi ss=true):(ss.all fun row=>decide (row.length=1))=true:=by obtain⟨l,rfl,_⟩:=aTx h;simp
theorem bZn {ns:List (List C)} (h:aZ3 ns=true):(ns.all fun row=>decide (row.length=3))=true:=by obtain⟨l,rfl,_⟩:=aKj h;simp
theorem bP8 (os:List En) (ss:List (List UInt8)) (id:Int):bKo os ss id=(List.range' 0 (ss.length+1-0)).any fun k=>(sdL os ss k).any (bXu id):=by
 unfold bKo
 rw[List.range_eq_range']
 rfl
theorem bIp (l:List Nd) (es os ss:List (List C)) (r x:Int) (hd:aF4 (l.map eNd) es os ss=true):∀ (N i:Nat) (o:List Nd),i≤l.length→l.length<i+N→o.length≤i →
  (aBn aCg aAb (sg [aDi] [aDh]) Tryz.f141 [.r,.r,.l,.r,.b] N (aEz (l.map eNd) es os ss r x o.length (o.map eNd) i)).eval=some [.sl ((o++(l.drop i).filter fun x=>bKo (ens os) (aCm ss) x.id).map eNd),.sl es,.sl os,.sl ss,.int .i64 r,.int .i64 x,.sl es,.sl os,.sl ss]:=by
 obtain⟨d1,d2,d3⟩:=aCe.1 hd
 obtain⟨s1,s2,s3⟩:=aGg.1 d3
 have hl:=(aMl.1 d1).1
 have hsl:=(aIn.1 s2).2.1
 have sle:(aCm ss).length=ss.length:=by unfold aCm;rw[List.length_map]
 intro N
 induction N with
 |zero=>intro i o h1 h2;omega
 |succ N ih =>
  intro i o h1 h2 h3
  rw[aAz _ _ _ _ _ _ _ (by kernel_rfl),bBe]
  by_cases hi:i<l.length
  ·have lc:=bEz l es os ss r x hd N i o hi h3 9223372036854775808 0 (by omega) (by omega)
   have e1:=ih (i+1) o (by omega) (by omega) (by omega)
   have e2:=ih (i+1) (o++[l.getD i ⟨0,[],0⟩]) (by omega) (by omega) (by simp;omega)
   rw[e1,e2]at lc
   rw[List.length_map,aC3 l i ⟨0,[],0⟩ hi,List.filter_cons,bP8,sle]
   refine aAg (decide_eq_true (by omega)) (lc.trans ?_)
   split
   ·rw[List.append_assoc];rfl
   ·rfl
  ·have e:i=l.length:=by omega
   subst e
   rw[List.drop_length,List.length_map,List.take_length,List.take_length,List.take_length]
   refine aAh (decide_eq_false (by omega)) (aA5 ?_ (by simp;rfl))
   rw[aT8,bCu d2,bCu s1,bS0 s2,decide_eq_true (List.length_map _).symm,decide_eq_true (Nat.le_refl _),decide_eq_true (Nat.le_refl _),decide_eq_true (Nat.le_refl _)];rfl
theorem bTs:aA9 Tryz.prog aCg:=aA8 (by simp[aS3])
theorem aIq:aB0 Tryz.prog 141 (sg [aDi] [aDh]) aJx:=aA6 bTs aAa Tryz.func141 (by kernel_rfl) fun cs outs hk h=>by
 unfold aJx at h
 split at h
 ·simp only[Option.some.injEq,Prod.mk.injEq]at h
  obtain⟨hd,rfl⟩:=h
  rename_i ns es os ss r x
  obtain⟨d1,d2,d3⟩:=aCe.1 hd
  obtain⟨s1,s2,s3⟩:=aGg.1 d3
  obtain⟨l,rfl,e,hl,ht⟩:=aKj d1
  unfold aCt
  rw[aAd,bIo,aFw]
  refine aA5 (by rw[bFv d2,bFv s1,bVv s2];rfl) ?_
  exact bIp l es os ss r x hd 9223372036854775808 0 [] (by omega) (by omega) (by simp)
 ·cases h
noncomputable section
structure Dk where
 ns:List (List C)
 es:List (List C)
 os:List (List C)
 ss:List (List C)
 r:Int
 x:Int
def bYf (d:Dk):List C:=[.sl d.ns,.sl d.es,.sl d.os,.sl d.ss,.int .i64 d.r,.int .i64 d.x]
def aIx:aCh:=fun cs=>match cs with
 |[.sl ns,.sl es,.sl os,.sl ss,.int .i64 r,.int .i64 x]=>some (aF4 ns es os ss,[.sl ns,.sl es,.sl os,.sl ss,.int .i64 r,.int .i64 x])
 |_=>none
def bSx:Env:=mkE [] []
def aEk (os ss:List (List C)) (nm:List UInt8):Bool:=decide (os.length+ss.length<dN)&&decide (nm.length≤1000000)
def bNo (ns es os ss:List (List C)) (r x:Int) (nm:List UInt8):Bool:=aF2 ns es os ss r x&&aG7 (ens es) nm
def ss1 (ss:List (List C)) (s:List UInt8):List (List C):=ss++[aAn s]
def rmN (ns es os ss:List (List C)) (r x:Int) (nm:List UInt8):List (List C):=if bNo ns es os ss r x nm then aCt ns os (ss1 ss ([45]++nm))else ns
def rmE (ns es os ss:List (List C)) (r x:Int) (nm:List UInt8):List (List C):=if bNo ns es os ss r x nm then aBg es nm else es
def rmS (ns es os ss:List (List C)) (r x:Int) (nm:List UInt8):List (List C):=if bNo ns es os ss r x nm then ss1 ss ([45]++nm)else ss
def rmC (ns es os ss:List (List C)) (r x:Int) (nm:List UInt8):Int:=if bNo ns es os ss r x nm then 0 else 3
def rmD (d:Dk) (nm:List UInt8):Dk:=⟨rmN d.ns d.es d.os d.ss d.r d.x nm,rmE d.ns d.es d.os d.ss d.r d.x nm,d.os,rmS d.ns d.es d.os d.ss d.r d.x nm,d.r,d.x⟩
def bL6:aCh:=fun cs=>match cs with
 |[.sl ns,.sl es,.sl os,.sl ss,.int .i64 r,.int .i64 x,.str nm]=>some (aF4 ns es os ss&&aEk os ss nm,bYf (rmD ⟨ns,es,os,ss,r,x⟩ nm)++[.int .i64 (rmC ns es os ss r x nm)])
 |_=>none
def bH5:Env:=mkE [] [(94,(sg [pSl 100,pS] [rB]),aFz),(140,(sg [pSl 100,pS] [rSl 100]),aQb),(139,(sg [aB4] [rB]),aFn),(141,(sg [aDi] [aDh]),aJx),(138,(sg [aB4] [aBt]),aIx)]
def snN (ns es os ss:List (List C)) (r x:Int):List (List C):=if aF2 ns es os ss r x then aCt ns es []else ns
def snO (ns es os ss:List (List C)) (r x:Int):List (List C):=if aF2 ns es os ss r x then es else os
def snS (ns es os ss:List (List C)) (r x:Int):List (List C):=if aF2 ns es os ss r x then[]else ss
def snD (d:Dk):Dk:=⟨snN d.ns d.es d.os d.ss d.r d.x,d.es,snO d.ns d.es d.os d.ss d.r d.x,snS d.ns d.es d.os d.ss d.r d.x,d.r,d.x⟩
def bKy:aCh:=fun cs=>match cs with
 |[.sl ns,.sl es,.sl os,.sl ss,.int .i64 r,.int .i64 x]=>some (aF4 ns es os ss,bYf (snD ⟨ns,es,os,ss,r,x⟩))
 |_=>none
def aSd:Env:=mkE [] [(139,(sg [aB4] [rB]),aFn),(141,(sg [aDi] [aDh]),aJx),(138,(sg [aB4] [aBt]),aIx)]
def crC (ns es os ss:List (List C)) (r x:Int) (nm:List UInt8):Int :=
 if aF2 ns es os ss r x then (if aDz nm then (if aG7 (ens es) nm then 2 else if 16≤es.length∨64≤ns.length∨1000000000≤x then 4 else 0)else 1)else 3
def aQf (nm:List UInt8) (x:Int):List UInt8:=[43]++nm++[58]++aG2 x
def crN (ns es os ss:List (List C)) (r x:Int) (nm:List UInt8):List (List C):=if crC ns es os ss r x nm=0 then aCt (ns++[eNd ⟨x,[],0⟩]) os (ss1 ss (aQf nm x))else ns
def crE (ns es os ss:List (List C)) (r x:Int) (nm:List UInt8):List (List C):=if crC ns es os ss r x nm=0 then aFk es nm x else es
def crS (ns es os ss:List (List C)) (r x:Int) (nm:List UInt8):List (List C):=if crC ns es os ss r x nm=0 then ss1 ss (aQf nm x)else ss
def crX (ns es os ss:List (List C)) (r x:Int) (nm:List UInt8):Int:=if crC ns es os ss r x nm=0 then x+1 else x
def crD (d:Dk) (nm:List UInt8):Dk:=⟨crN d.ns d.es d.os d.ss d.r d.x nm,crE d.ns d.es d.os d.ss d.r d.x nm,d.os,crS d.ns d.es d.os d.ss d.r d.x nm,d.r,crX d.ns d.es d.os d.ss d.r d.x nm⟩
def bLm:aCh:=fun cs=>match cs with
 |[.sl ns,.sl es,.sl os,.sl ss,.int .i64 r,.int .i64 x,.str nm]=>some (aF4 ns es os ss&&aEk os ss nm,bYf (crD ⟨ns,es,os,ss,r,x⟩ nm)++[.int .i64 (crC ns es os ss r x nm)])
 |_=>none
def bHc:Env:=mkE [] [(94,(sg [pSl 100,pS] [rB]),aFz),(144,(sg [pI] [rS]),bD3),(142,(sg [pS] [rB]),aKk),(143,(sg [pSl 100,aJm] [rSl 100]),aV1),(139,(sg [aB4] [rB]),aFn),(141,(sg [aDi] [aDh]),aJx),(138,(sg [aB4] [aBt]),aIx)]
def ndK (ns es:List (List C)) (nm:List UInt8):Int:=aAv (nds ns) (aB7 (ens es) nm)
def bFq (ns:List (List C)) (r:Int):Int:=r-aEa (nds ns)
def apC (ns es os ss:List (List C)) (r x:Int) (nm t:List UInt8):Int:=if bNo ns es os ss r x nm then (if bFq ns r<t.length then 5 else 0)else 3
def bW6 (y:Nd) (t:List UInt8):Nd:=⟨y.id,y.text++t,y.sure⟩
def apN (ns es os ss:List (List C)) (r x:Int) (nm t:List UInt8):List (List C) :=
 if bNo ns es os ss r x nm then ns.set (ndK ns es nm).toNat (eNd (bW6 ((nds ns).getD (ndK ns es nm).toNat ⟨0,[],0⟩) (if bFq ns r<t.length then t.take (bFq ns r).toNat else t)))else ns
def apD (d:Dk) (nm t:List UInt8):Dk:=⟨apN d.ns d.es d.os d.ss d.r d.x nm t,d.es,d.os,d.ss,d.r,d.x⟩
def bLs:aCh:=fun cs=>match cs with
 |[.sl ns,.sl es,.sl os,.sl ss,.int .i64 r,.int .i64 x,.str nm,.str t]=>some (aF4 ns es os ss&&decide (t.length≤dN),bYf (apD ⟨ns,es,os,ss,r,x⟩ nm t)++[.int .i64 (apC ns es os ss r x nm t)])
 |_=>none
def bHe:Env:=mkE [] [(93,(sg [pSl 100,pS] [rI]),aIg),(94,(sg [pSl 100,pS] [rB]),aFz),(92,(sg [aB4,pI] [rI]),aEt),(145,(sg [aB4] [rI]),aT3),(139,(sg [aB4] [rB]),aFn),(138,(sg [aB4] [aBt]),aIx)]
def syN (ns es os ss:List (List C)) (r x:Int) (nm:List UInt8):List (List C) :=
 if bNo ns es os ss r x nm then ns.set (ndK ns es nm).toNat (eNd ⟨((nds ns).getD (ndK ns es nm).toNat ⟨0,[],0⟩).id,((nds ns).getD (ndK ns es nm).toNat ⟨0,[],0⟩).text,((nds ns).getD (ndK ns es nm).toNat ⟨0,[],0⟩).text.length⟩)else ns
def syD (d:Dk) (nm:List UInt8):Dk:=⟨syN d.ns d.es d.os d.ss d.r d.x nm,d.es,d.os,d.ss,d.r,d.x⟩
def bKt:aCh:=fun cs=>match cs with
 |[.sl ns,.sl es,.sl os,.sl ss,.int .i64 r,.int .i64 x,.str nm]=>some (aF4 ns es os ss,bYf (syD ⟨ns,es,os,ss,r,x⟩ nm)++[.int .i64 (rmC ns es os ss r x nm)])
 |_=>none
def bSq:Env:=mkE [] [(93,(sg [pSl 100,pS] [rI]),aIg),(94,(sg [pSl 100,pS] [rB]),aFz),(92,(sg [aB4,pI] [rI]),aEt),(139,(sg [aB4] [rB]),aFn),(138,(sg [aB4] [aBt]),aIx)]
def rnC (ns es os ss:List (List C)) (r x:Int) (a b:List UInt8):Int:=if bNo ns es os ss r x a then (if aDz b then (if a=b then 1 else 0)else 1)else 3
def aNt (a b:List UInt8):List UInt8:=[62]++a++[58]++b
def rnN (ns es os ss:List (List C)) (r x:Int) (a b:List UInt8):List (List C):=if rnC ns es os ss r x a b=0 then aCt ns os (ss1 ss (aNt a b))else ns
def rnE (ns es os ss:List (List C)) (r x:Int) (a b:List UInt8):List (List C):=if rnC ns es os ss r x a b=0 then aFk (aBg es a) b (aB7 (ens es) a)else es
def rnS (ns es os ss:List (List C)) (r x:Int) (a b:List UInt8):List (List C):=if rnC ns es os ss r x a b=0 then ss1 ss (aNt a b)else ss
def rnD (d:Dk) (a b:List UInt8):Dk:=⟨rnN d.ns d.es d.os d.ss d.r d.x a b,rnE d.ns d.es d.os d.ss d.r d.x a b,d.os,rnS d.ns d.es d.os d.ss d.r d.x a b,d.r,d.x⟩
def bQg:aCh:=fun cs=>match cs with
 |[.sl ns,.sl es,.sl os,.sl ss,.int .i64 r,.int .i64 x,.str a,.str b]=>some (aF4 ns es os ss&&(aEk os ss a&&aEk os ss b),bYf (rnD ⟨ns,es,os,ss,r,x⟩ a b)++[.int .i64 (rnC ns es os ss r x a b)])
 |_=>none
def bH4:Env:=mkE [] [(93,(sg [pSl 100,pS] [rI]),aIg),(94,(sg [pSl 100,pS] [rB]),aFz),(142,(sg [pS] [rB]),aKk),(143,(sg [pSl 100,aJm] [rSl 100]),aV1),(140,(sg [pSl 100,pS] [rSl 100]),aQb),(139,(sg [aB4] [rB]),aFn),(141,(sg [aDi] [aDh]),aJx),(138,(sg [aB4] [aBt]),aIx)]
end
theorem bNf (H:List Pt→Nat→St→T (List C)) (ns:List (List C)) (es:List (List C)) (os:List (List C)) (ss:List (List C)) (r:Int) (x:Int):(aAm bSx aAb (sg [aB4] [aBt]) Tryz.f138 H [C.sl ns,C.sl es,C.sl os,C.sl ss,C.int .i64 r,C.int .i64 x]).eval=((.must (decide (0=0)&&aBe (0+ns.length) 32&&ns.all fun r=>decide (r.length=3)) (.must (decide (0=0)&&aBe (0+es.length) 24&&es.all fun r=>decide (r.length=2)) (.must (decide (0=0)&&aBe (0+os.length) 24&&os.all fun r=>decide (r.length=2)) (.must (decide (0=0)&&aBe (0+ss.length) 16&&ss.all fun r=>decide (r.length=1)) (.must (decide (0+ns.length=ns.length)&&(false||ns.all fun r=>r.all C.flat)&&(decide (0+es.length=es.length)&&(false||es.all fun r=>r.all C.flat)&&(decide (0+os.length=os.length)&&(false||os.all fun r=>r.all C.flat)&&(decide (0+ss.length=ss.length)&&(false||ss.all fun r=>r.all C.flat)&&(true&&(false||true)&&(true&&(false||true)&&true)))))&&true&&true) (.ret [C.sl ns,C.sl es,C.sl os,C.sl ss,C.int .i64 r,C.int .i64 x])))))):T (List C)).eval:=aAo (by kernel_rfl)
theorem bE3 (H:List Pt→Nat→St→T (List C)) (ns:List (List C)) (es:List (List C)) (os:List (List C)) (ss:List (List C)) (r:Int) (x:Int) (nm:List UInt8):(aAm bH5 aAb (sg [aB4,pS] [aBt,rI]) Tryz.f107 H [C.sl ns,C.sl es,C.sl os,C.sl ss,C.int .i64 r,C.int .i64 x,C.str nm]).eval=((.must (aF4 ns es os ss) (.must ((true&&ns.all fun row=>decide (row.length=3))&&((true&&es.all fun row=>decide (row.length=2))&&((true&&os.all fun row=>decide (row.length=2))&&((true&&ss.all fun row=>decide (row.length=1))&&(decide (0<1)&&true&&(decide (0<1)&&true&&true)))))&&true&&true) (.must (aF4 (List.take ns.length ns) (List.take es.length es) (List.take os.length os) (List.take ss.length ss)) (.ask (aF2 (List.take ns.length ns) (List.take es.length es) (List.take os.length os) (List.take ss.length ss) r x) (.must (decide ((List.take es.length es).length≤aK9)&&aAt [K.str,K.int .i64] (List.take es.length es)) (.ask (aG7 (ens (List.take es.length es)) nm) (.must (aJg (List.take es.length es)) (.must ((true&&(aBg (List.take es.length es) nm).all fun row=>decide (row.length=2))&&true&&true&&true) (.must (decide (1+nm.length≤9223372036854775807)) (.must (decide (ss.length=ss.length)&&aBe (ss.length+1) 16&&(decide (1=1)&&true)) (.must (true&&(true&&(true&&(true&&(true&&(true&&true)))))&&(decide ((aBg (List.take es.length es) nm).length=(aBg (List.take es.length es) nm).length)&&(decide (os.length=os.length)&&(decide (ss.length+1=(ss.append [[C.str ([(45:UInt8)]++nm)]]).length)&&true))&&true)) (.must (aF4 (List.take ns.length ns) (aBg (List.take es.length es) nm) os (ss.append [[C.str ([(45:UInt8)]++nm)]])) (.must ((true&&(aCt (List.take ns.length ns) os (ss.append [[C.str ([(45:UInt8)]++nm)]])).all fun row=>decide (row.length=3))&&(decide ((aBg (List.take es.length es) nm).length≤(aBg (List.take es.length es) nm).length)&&(decide (os.length≤os.length)&&(decide ((ss.append [[C.str ([(45:UInt8)]++nm)]]).length≤(ss.append [[C.str ([(45:UInt8)]++nm)]]).length)&&(decide (0<1)&&true&&(decide (0<1)&&true&&true)))))&&true&&((decide ((aBg (List.take es.length es) nm).length=(aBg (List.take es.length es) nm).length)&&(aBg (List.take es.length es) nm).all fun row=>decide (row.length=2))&&((decide (os.length=os.length)&&os.all fun row=>decide (row.length=2))&&((decide ((ss.append [[C.str ([(45:UInt8)]++nm)]]).length=(ss.append [[C.str ([(45:UInt8)]++nm)]]).length)&&(ss.append [[C.str ([(45:UInt8)]++nm)]]).all fun row=>decide (row.length=1))&&true))&&true)) (.must (decide ((aCt (List.take ns.length ns) os (ss.append [[C.str ([(45:UInt8)]++nm)]])).length=(aCt (List.take ns.length ns) os (ss.append [[C.str ([(45:UInt8)]++nm)]])).length)&&(false||(aCt (List.take ns.length ns) os (ss.append [[C.str ([(45:UInt8)]++nm)]])).all fun r=>r.all C.flat)&&(decide ((aBg (List.take es.length es) nm).length=(aBg (List.take es.length es) nm).length)&&(false||(aBg (List.take es.length es) nm).all fun r=>r.all C.flat)&&(decide (os.length=os.length)&&(false||os.all fun r=>r.all C.flat)&&(decide ((ss.append [[C.str ([(45:UInt8)]++nm)]]).length=(ss.append [[C.str ([(45:UInt8)]++nm)]]).length)&&(false||(ss.append [[C.str ([(45:UInt8)]++nm)]]).all fun r=>r.all C.flat)&&(true&&(false||true)&&(true&&(false||true)&&true)))))&&(true&&(false||true)&&true&&true)&&true) (.ret [C.sl (aCt (List.take ns.length ns) os (ss.append [[C.str ([(45:UInt8)]++nm)]])),C.sl (aBg (List.take es.length es) nm),C.sl os,C.sl (ss.append [[C.str ([(45:UInt8)]++nm)]]),C.int .i64 r,C.int .i64 x,C.int .i64 0]))))))))) (.must (decide (ns.length=ns.length)&&(false||ns.all fun r=>r.all C.flat)&&(decide (es.length=es.length)&&(false||es.all fun r=>r.all C.flat)&&(decide (os.length=os.length)&&(false||os.all fun r=>r.all C.flat)&&(decide (ss.length=ss.length)&&(false||ss.all fun r=>r.all C.flat)&&(true&&(false||true)&&(true&&(false||true)&&true)))))&&(true&&(false||true)&&true&&true)&&true) (.ret [C.sl ns,C.sl es,C.sl os,C.sl ss,C.int .i64 r,C.int .i64 x,C.int .i64 3])))) (.must (decide (ns.length=ns.length)&&(false||ns.all fun r=>r.all C.flat)&&(decide (es.length=es.length)&&(false||es.all fun r=>r.all C.flat)&&(decide (os.length=os.length)&&(false||os.all fun r=>r.all C.flat)&&(decide (ss.length=ss.length)&&(false||ss.all fun r=>r.all C.flat)&&(true&&(false||true)&&(true&&(false||true)&&true)))))&&(true&&(false||true)&&true&&true)&&true) (.ret [C.sl ns,C.sl es,C.sl os,C.sl ss,C.int .i64 r,C.int .i64 x,C.int .i64 3])))))):T (List C)).eval:=aAo (by kernel_rfl)
theorem aU7 (H:List Pt→Nat→St→T (List C)) (ns:List (List C)) (es:List (List C)) (os:List (List C)) (ss:List (List C)) (r:Int) (x:Int):(aAm aSd aAb (sg [aB4] [aBt]) Tryz.f108 H [C.sl ns,C.sl es,C.sl os,C.sl ss,C.int .i64 r,C.int .i64 x]).eval=((.must (aF4 ns es os ss) (.must ((true&&ns.all fun row=>decide (row.length=3))&&((true&&es.all fun row=>decide (row.length=2))&&((true&&os.all fun row=>decide (row.length=2))&&((true&&ss.all fun row=>decide (row.length=1))&&(decide (0<1)&&true&&(decide (0<1)&&true&&true)))))&&true&&true) (.must (aF4 (List.take ns.length ns) (List.take es.length es) (List.take os.length os) (List.take ss.length ss)) (.ask (aF2 (List.take ns.length ns) (List.take es.length es) (List.take os.length os) (List.take ss.length ss) r x) (.must (decide (0=0)&&aBe (0+(List.take es.length es).length) 24&&(List.take es.length es).all fun row=>decide (row.length=2)) (.must (true&&(true&&(true&&(true&&(true&&(true&&true)))))&&(decide (es.length=es.length)&&(decide (0+(List.take es.length es).length=(List.take es.length es).length)&&(decide (0=0)&&true))&&true)) (.must (aF4 (List.take ns.length ns) es (List.take es.length es) []) (.must ((true&&(aCt (List.take ns.length ns) (List.take es.length es) []).all fun row=>decide (row.length=3))&&(decide (es.length≤es.length)&&(decide ((List.take es.length es).length≤(List.take es.length es).length)&&(decide (0≤0)&&(decide (0<1)&&true&&(decide (0<1)&&true&&true)))))&&true&&((decide (es.length=es.length)&&es.all fun row=>decide (row.length=2))&&((decide ((List.take es.length es).length=(List.take es.length es).length)&&(List.take es.length es).all fun row=>decide (row.length=2))&&(decide (0=0)&&true&&true))&&true)) (.must (decide ((aCt (List.take ns.length ns) (List.take es.length es) []).length=(aCt (List.take ns.length ns) (List.take es.length es) []).length)&&(false||(aCt (List.take ns.length ns) (List.take es.length es) []).all fun r=>r.all C.flat)&&(decide (es.length=es.length)&&(false||es.all fun r=>r.all C.flat)&&(decide ((List.take es.length es).length=(List.take es.length es).length)&&(false||(List.take es.length es).all fun r=>r.all C.flat)&&(decide (0=0)&&(false||true)&&(true&&(false||true)&&(true&&(false||true)&&true)))))&&true&&true) (.ret [C.sl (aCt (List.take ns.length ns) (List.take es.length es) []),C.sl es,C.sl (List.take es.length es),C.sl [],C.int .i64 r,C.int .i64 x])))))) (.must (decide (ns.length=ns.length)&&(false||ns.all fun r=>r.all C.flat)&&(decide (es.length=es.length)&&(false||es.all fun r=>r.all C.flat)&&(decide (os.length=os.length)&&(false||os.all fun r=>r.all C.flat)&&(decide (ss.length=ss.length)&&(false||ss.all fun r=>r.all C.flat)&&(true&&(false||true)&&(true&&(false||true)&&true)))))&&true&&true) (.ret [C.sl ns,C.sl es,C.sl os,C.sl ss,C.int .i64 r,C.int .i64 x])))))):T (List C)).eval:=aAo (by kernel_rfl)
theorem bEv (H:List Pt→Nat→St→T (List C)) (ns:List (List C)) (es:List (List C)) (os:List (List C)) (ss:List (List C)) (r:Int) (x:Int) (nm:List UInt8):(aAm bHc aAb (sg [aB4,pS] [aBt,rI]) Tryz.f111 H [C.sl ns,C.sl es,C.sl os,C.sl ss,C.int .i64 r,C.int .i64 x,C.str nm]).eval=((.must (aF4 ns es os ss) (.must ((true&&ns.all fun row=>decide (row.length=3))&&((true&&es.all fun row=>decide (row.length=2))&&((true&&os.all fun row=>decide (row.length=2))&&((true&&ss.all fun row=>decide (row.length=1))&&(decide (0<1)&&true&&(decide (0<1)&&true&&true)))))&&true&&true) (.must (aF4 (List.take ns.length ns) (List.take es.length es) (List.take os.length os) (List.take ss.length ss)) (.ask (aF2 (List.take ns.length ns) (List.take es.length es) (List.take os.length os) (List.take ss.length ss) r x) (.must (decide (nm.length≤281474976710656)) (.ask (aDz nm) (.must (decide ((List.take es.length es).length≤aK9)&&aAt [K.str,K.int .i64] (List.take es.length es)) (.ask (aG7 (ens (List.take es.length es)) nm) (.must (decide (ns.length=ns.length)&&(false||ns.all fun r=>r.all C.flat)&&(decide (es.length=es.length)&&(false||es.all fun r=>r.all C.flat)&&(decide (os.length=os.length)&&(false||os.all fun r=>r.all C.flat)&&(decide (ss.length=ss.length)&&(false||ss.all fun r=>r.all C.flat)&&(true&&(false||true)&&(true&&(false||true)&&true)))))&&(true&&(false||true)&&true&&true)&&true) (.ret [C.sl ns,C.sl es,C.sl os,C.sl ss,C.int .i64 r,C.int .i64 x,C.int .i64 2])) (.ask (decide ((16:Int)≤(↑es.length:Int))) (.must (decide (ns.length=ns.length)&&(false||ns.all fun r=>r.all C.flat)&&(decide (es.length=es.length)&&(false||es.all fun r=>r.all C.flat)&&(decide (os.length=os.length)&&(false||os.all fun r=>r.all C.flat)&&(decide (ss.length=ss.length)&&(false||ss.all fun r=>r.all C.flat)&&(true&&(false||true)&&(true&&(false||true)&&true)))))&&(true&&(false||true)&&true&&true)&&true) (.ret [C.sl ns,C.sl es,C.sl os,C.sl ss,C.int .i64 r,C.int .i64 x,C.int .i64 4])) (.ask (decide ((64:Int)≤(↑ns.length:Int))) (.must (decide (ns.length=ns.length)&&(false||ns.all fun r=>r.all C.flat)&&(decide (es.length=es.length)&&(false||es.all fun r=>r.all C.flat)&&(decide (os.length=os.length)&&(false||os.all fun r=>r.all C.flat)&&(decide (ss.length=ss.length)&&(false||ss.all fun r=>r.all C.flat)&&(true&&(false||true)&&(true&&(false||true)&&true)))))&&(true&&(false||true)&&true&&true)&&true) (.ret [C.sl ns,C.sl es,C.sl os,C.sl ss,C.int .i64 r,C.int .i64 x,C.int .i64 4])) (.ask (decide ((1000000000:Int)≤x)) (.must (decide (ns.length=ns.length)&&(false||ns.all fun r=>r.all C.flat)&&(decide (es.length=es.length)&&(false||es.all fun r=>r.all C.flat)&&(decide (os.length=os.length)&&(false||os.all fun r=>r.all C.flat)&&(decide (ss.length=ss.length)&&(false||ss.all fun r=>r.all C.flat)&&(true&&(false||true)&&(true&&(false||true)&&true)))))&&(true&&(false||true)&&true&&true)&&true) (.ret [C.sl ns,C.sl es,C.sl os,C.sl ss,C.int .i64 r,C.int .i64 x,C.int .i64 4])) (.must (decide (ns.length=ns.length)&&aBe (ns.length+1) 32&&(decide (3=3)&&true)) (.must (aJg (List.take es.length es)) (.must ((true&&(aFk (List.take es.length es) nm x).all fun row=>decide (row.length=2))&&true&&true&&true) (.must (decide (1+nm.length≤9223372036854775807)) (.must (decide (([(43:UInt8)]++nm).length+1≤9223372036854775807)) (.must (inB x 0 9223372036854775807) (.must (decide (([(43:UInt8)]++nm++[(58:UInt8)]).length+(aG2 x).length≤9223372036854775807)) (.must (decide (ss.length=ss.length)&&aBe (ss.length+1) 16&&(decide (1=1)&&true)) (.must (true&&(true&&(true&&(true&&(true&&(true&&true)))))&&(decide ((aFk (List.take es.length es) nm x).length=(aFk (List.take es.length es) nm x).length)&&(decide (os.length=os.length)&&(decide (ss.length+1=(ss.append [[C.str ([(43:UInt8)]++nm++[(58:UInt8)]++aG2 x)]]).length)&&true))&&true)) (.must (aF4 (List.take (ns.length+1) (ns.append [[C.int .i64 x,C.str [],C.int .i64 0]])) (aFk (List.take es.length es) nm x) os (ss.append [[C.str ([(43:UInt8)]++nm++[(58:UInt8)]++aG2 x)]])) (.must ((true&&(aCt (List.take (ns.length+1) (ns.append [[C.int .i64 x,C.str [],C.int .i64 0]])) os (ss.append [[C.str ([(43:UInt8)]++nm++[(58:UInt8)]++aG2 x)]])).all fun row=>decide (row.length=3))&&(decide ((aFk (List.take es.length es) nm x).length≤(aFk (List.take es.length es) nm x).length)&&(decide (os.length≤os.length)&&(decide ((ss.append [[C.str ([(43:UInt8)]++nm++[(58:UInt8)]++aG2 x)]]).length≤(ss.append [[C.str ([(43:UInt8)]++nm++[(58:UInt8)]++aG2 x)]]).length)&&(decide (0<1)&&true&&(decide (0<1)&&true&&true)))))&&true&&((decide ((aFk (List.take es.length es) nm x).length=(aFk (List.take es.length es) nm x).length)&&(aFk (List.take es.length es) nm x).all fun row=>decide (row.length=2))&&((decide (os.length=os.length)&&os.all fun row=>decide (row.length=2))&&((decide ((ss.append [[C.str ([(43:UInt8)]++nm++[(58:UInt8)]++aG2 x)]]).length=(ss.append [[C.str ([(43:UInt8)]++nm++[(58:UInt8)]++aG2 x)]]).length)&&(ss.append [[C.str ([(43:UInt8)]++nm++[(58:UInt8)]++aG2 x)]]).all fun row=>decide (row.length=1))&&true))&&true)) (.must (decide ((aCt (List.take (ns.length+1) (ns.append [[C.int .i64 x,C.str [],C.int .i64 0]])) os (ss.append [[C.str ([(43:UInt8)]++nm++[(58:UInt8)]++aG2 x)]])).length=(aCt (List.take (ns.length+1) (ns.append [[C.int .i64 x,C.str [],C.int .i64 0]])) os (ss.append [[C.str ([(43:UInt8)]++nm++[(58:UInt8)]++aG2 x)]])).length)&&(false||(aCt (List.take (ns.length+1) (ns.append [[C.int .i64 x,C.str [],C.int .i64 0]])) os (ss.append [[C.str ([(43:UInt8)]++nm++[(58:UInt8)]++aG2 x)]])).all fun r=>r.all C.flat)&&(decide ((aFk (List.take es.length es) nm x).length=(aFk (List.take es.length es) nm x).length)&&(false||(aFk (List.take es.length es) nm x).all fun r=>r.all C.flat)&&(decide (os.length=os.length)&&(false||os.all fun r=>r.all C.flat)&&(decide ((ss.append [[C.str ([(43:UInt8)]++nm++[(58:UInt8)]++aG2 x)]]).length=(ss.append [[C.str ([(43:UInt8)]++nm++[(58:UInt8)]++aG2 x)]]).length)&&(false||(ss.append [[C.str ([(43:UInt8)]++nm++[(58:UInt8)]++aG2 x)]]).all fun r=>r.all C.flat)&&(true&&(false||true)&&(true&&(false||true)&&true)))))&&(true&&(false||true)&&true&&true)&&true) (.ret [C.sl (aCt (List.take (ns.length+1) (ns.append [[C.int .i64 x,C.str [],C.int .i64 0]])) os (ss.append [[C.str ([(43:UInt8)]++nm++[(58:UInt8)]++aG2 x)]])),C.sl (aFk (List.take es.length es) nm x),C.sl os,C.sl (ss.append [[C.str ([(43:UInt8)]++nm++[(58:UInt8)]++aG2 x)]]),C.int .i64 r,C.int .i64 (IntKind.i64.wrap (x+(1:Int))),C.int .i64 0])))))))))))))))))) (.must (decide (ns.length=ns.length)&&(false||ns.all fun r=>r.all C.flat)&&(decide (es.length=es.length)&&(false||es.all fun r=>r.all C.flat)&&(decide (os.length=os.length)&&(false||os.all fun r=>r.all C.flat)&&(decide (ss.length=ss.length)&&(false||ss.all fun r=>r.all C.flat)&&(true&&(false||true)&&(true&&(false||true)&&true)))))&&(true&&(false||true)&&true&&true)&&true) (.ret [C.sl ns,C.sl es,C.sl os,C.sl ss,C.int .i64 r,C.int .i64 x,C.int .i64 1])))) (.must (decide (ns.length=ns.length)&&(false||ns.all fun r=>r.all C.flat)&&(decide (es.length=es.length)&&(false||es.all fun r=>r.all C.flat)&&(decide (os.length=os.length)&&(false||os.all fun r=>r.all C.flat)&&(decide (ss.length=ss.length)&&(false||ss.all fun r=>r.all C.flat)&&(true&&(false||true)&&(true&&(false||true)&&true)))))&&(true&&(false||true)&&true&&true)&&true) (.ret [C.sl ns,C.sl es,C.sl os,C.sl ss,C.int .i64 r,C.int .i64 x,C.int .i64 3])))))):T (List C)).eval:=aAo (by kernel_rfl)
theorem bF2 (H:List Pt→Nat→St→T (List C)) (ns:List (List C)) (es:List (List C)) (os:List (List C)) (ss:List (List C)) (r:Int) (x:Int) (nm:List UInt8) (t:List UInt8):(aAm bHe aAb (sg [aB4,pS,pS] [aBt,rI]) Tryz.f112 H [C.sl ns,C.sl es,C.sl os,C.sl ss,C.int .i64 r,C.int .i64 x,C.str nm,C.str t]).eval=((.must (aF4 ns es os ss) (.must ((true&&ns.all fun row=>decide (row.length=3))&&((true&&es.all fun row=>decide (row.length=2))&&((true&&os.all fun row=>decide (row.length=2))&&((true&&ss.all fun row=>decide (row.length=1))&&(decide (0<1)&&true&&(decide (0<1)&&true&&true)))))&&true&&true) (.must (aF4 (List.take ns.length ns) (List.take es.length es) (List.take os.length os) (List.take ss.length ss)) (.ask (aF2 (List.take ns.length ns) (List.take es.length es) (List.take os.length os) (List.take ss.length ss) r x) (.must (decide ((List.take es.length es).length≤aK9)&&aAt [K.str,K.int .i64] (List.take es.length es)) (.ask (aG7 (ens (List.take es.length es)) nm) (.must (decide ((List.take es.length es).length≤aK9)&&aAt [K.str,K.int .i64] (List.take es.length es)) (.must (decide ((List.take ns.length ns).length≤aK9)&&aAt [K.int .i64,K.str,K.int .i64] (List.take ns.length ns)) (.must (aZ3 (List.take ns.length ns)) (.ask (decide (IntKind.i64.wrap (r-Int.ofNat (aEa (nds (List.take ns.length ns))))<(↑t.length:Int))) (.must (decide ((0:Int)≤aAv (nds (List.take ns.length ns)) (aB7 (ens (List.take es.length es)) nm))&&decide (aAv (nds (List.take ns.length ns)) (aB7 (ens (List.take es.length es)) nm)<(↑ns.length:Int))) (.must (decide (0+(aAv (nds (List.take ns.length ns)) (aB7 (ens (List.take es.length es)) nm)).toNat<ns.length)&&(decide (0+1<(ns.getD (0+(aAv (nds (List.take ns.length ns)) (aB7 (ens (List.take es.length es)) nm)).toNat) []).length)&&C.is K.str ((ns.getD (0+(aAv (nds (List.take ns.length ns)) (aB7 (ens (List.take es.length es)) nm)).toNat) []).getD (0+1) (C.fn 0 []))&&true)) (.must (decide ((0:Int)≤IntKind.i64.wrap (r-Int.ofNat (aEa (nds (List.take ns.length ns)))))&&decide (IntKind.i64.wrap (r-Int.ofNat (aEa (nds (List.take ns.length ns))))≤(↑t.length:Int))) (.must (decide (((ns.getD (0+(aAv (nds (List.take ns.length ns)) (aB7 (ens (List.take es.length es)) nm)).toNat) []).getD (0+1) (C.fn 0 [])).toStr.length+(List.drop 0 (List.take (IntKind.i64.wrap (r-Int.ofNat (aEa (nds (List.take ns.length ns))))).toNat t)).length≤9223372036854775807)) (.must (decide ((0:Int)≤aAv (nds (List.take ns.length ns)) (aB7 (ens (List.take es.length es)) nm))&&decide (aAv (nds (List.take ns.length ns)) (aB7 (ens (List.take es.length es)) nm)<(↑ns.length:Int))) (.must (decide (0+(aAv (nds (List.take ns.length ns)) (aB7 (ens (List.take es.length es)) nm)).toNat<ns.length)) (.must (decide (ns.length=(ns.set (0+(aAv (nds (List.take ns.length ns)) (aB7 (ens (List.take es.length es)) nm)).toNat) (((List.take (0+1) (ns.getD (0+(aAv (nds (List.take ns.length ns)) (aB7 (ens (List.take es.length es)) nm)).toNat) [])).append [C.str (((ns.getD (0+(aAv (nds (List.take ns.length ns)) (aB7 (ens (List.take es.length es)) nm)).toNat) []).getD (0+1) (C.fn 0 [])).toStr++List.drop 0 (List.take (IntKind.i64.wrap (r-Int.ofNat (aEa (nds (List.take ns.length ns))))).toNat t))]).append (List.drop (0+1+1) (ns.getD (0+(aAv (nds (List.take ns.length ns)) (aB7 (ens (List.take es.length es)) nm)).toNat) [])))).length)&&(false||(ns.set (0+(aAv (nds (List.take ns.length ns)) (aB7 (ens (List.take es.length es)) nm)).toNat) (((List.take (0+1) (ns.getD (0+(aAv (nds (List.take ns.length ns)) (aB7 (ens (List.take es.length es)) nm)).toNat) [])).append [C.str (((ns.getD (0+(aAv (nds (List.take ns.length ns)) (aB7 (ens (List.take es.length es)) nm)).toNat) []).getD (0+1) (C.fn 0 [])).toStr++List.drop 0 (List.take (IntKind.i64.wrap (r-Int.ofNat (aEa (nds (List.take ns.length ns))))).toNat t))]).append (List.drop (0+1+1) (ns.getD (0+(aAv (nds (List.take ns.length ns)) (aB7 (ens (List.take es.length es)) nm)).toNat) [])))).all fun r=>r.all C.flat)&&(decide (es.length=es.length)&&(false||es.all fun r=>r.all C.flat)&&(decide (os.length=os.length)&&(false||os.all fun r=>r.all C.flat)&&(decide (ss.length=ss.length)&&(false||ss.all fun r=>r.all C.flat)&&(true&&(false||true)&&(true&&(false||true)&&true)))))&&(true&&(false||true)&&true&&true)&&true) (.ret [C.sl (ns.set (0+(aAv (nds (List.take ns.length ns)) (aB7 (ens (List.take es.length es)) nm)).toNat) (((List.take (0+1) (ns.getD (0+(aAv (nds (List.take ns.length ns)) (aB7 (ens (List.take es.length es)) nm)).toNat) [])).append [C.str (((ns.getD (0+(aAv (nds (List.take ns.length ns)) (aB7 (ens (List.take es.length es)) nm)).toNat) []).getD (0+1) (C.fn 0 [])).toStr++List.drop 0 (List.take (IntKind.i64.wrap (r-Int.ofNat (aEa (nds (List.take ns.length ns))))).toNat t))]).append (List.drop (0+1+1) (ns.getD (0+(aAv (nds (List.take ns.length ns)) (aB7 (ens (List.take es.length es)) nm)).toNat) [])))),C.sl es,C.sl os,C.sl ss,C.int .i64 r,C.int .i64 x,C.int .i64 5])))))))) (.must (decide ((0:Int)≤aAv (nds (List.take ns.length ns)) (aB7 (ens (List.take es.length es)) nm))&&decide (aAv (nds (List.take ns.length ns)) (aB7 (ens (List.take es.length es)) nm)<(↑ns.length:Int))) (.must (decide (0+(aAv (nds (List.take ns.length ns)) (aB7 (ens (List.take es.length es)) nm)).toNat<ns.length)&&(decide (0+1<(ns.getD (0+(aAv (nds (List.take ns.length ns)) (aB7 (ens (List.take es.length es)) nm)).toNat) []).length)&&C.is K.str ((ns.getD (0+(aAv (nds (List.take ns.length ns)) (aB7 (ens (List.take es.length es)) nm)).toNat) []).getD (0+1) (C.fn 0 []))&&true)) (.must (decide (((ns.getD (0+(aAv (nds (List.take ns.length ns)) (aB7 (ens (List.take es.length es)) nm)).toNat) []).getD (0+1) (C.fn 0 [])).toStr.length+t.length≤9223372036854775807)) (.must (decide ((0:Int)≤aAv (nds (List.take ns.length ns)) (aB7 (ens (List.take es.length es)) nm))&&decide (aAv (nds (List.take ns.length ns)) (aB7 (ens (List.take es.length es)) nm)<(↑ns.length:Int))) (.must (decide (0+(aAv (nds (List.take ns.length ns)) (aB7 (ens (List.take es.length es)) nm)).toNat<ns.length)) (.must (decide (ns.length=(ns.set (0+(aAv (nds (List.take ns.length ns)) (aB7 (ens (List.take es.length es)) nm)).toNat) (((List.take (0+1) (ns.getD (0+(aAv (nds (List.take ns.length ns)) (aB7 (ens (List.take es.length es)) nm)).toNat) [])).append [C.str (((ns.getD (0+(aAv (nds (List.take ns.length ns)) (aB7 (ens (List.take es.length es)) nm)).toNat) []).getD (0+1) (C.fn 0 [])).toStr++t)]).append (List.drop (0+1+1) (ns.getD (0+(aAv (nds (List.take ns.length ns)) (aB7 (ens (List.take es.length es)) nm)).toNat) [])))).length)&&(false||(ns.set (0+(aAv (nds (List.take ns.length ns)) (aB7 (ens (List.take es.length es)) nm)).toNat) (((List.take (0+1) (ns.getD (0+(aAv (nds (List.take ns.length ns)) (aB7 (ens (List.take es.length es)) nm)).toNat) [])).append [C.str (((ns.getD (0+(aAv (nds (List.take ns.length ns)) (aB7 (ens (List.take es.length es)) nm)).toNat) []).getD (0+1) (C.fn 0 [])).toStr++t)]).append (List.drop (0+1+1) (ns.getD (0+(aAv (nds (List.take ns.length ns)) (aB7 (ens (List.take es.length es)) nm)).toNat) [])))).all fun r=>r.all C.flat)&&(decide (es.length=es.length)&&(false||es.all fun r=>r.all C.flat)&&(decide (os.length=os.length)&&(false||os.all fun r=>r.all C.flat)&&(decide (ss.length=ss.length)&&(false||ss.all fun r=>r.all C.flat)&&(true&&(false||true)&&(true&&(false||true)&&true)))))&&(true&&(false||true)&&true&&true)&&true) (.ret [C.sl (ns.set (0+(aAv (nds (List.take ns.length ns)) (aB7 (ens (List.take es.length es)) nm)).toNat) (((List.take (0+1) (ns.getD (0+(aAv (nds (List.take ns.length ns)) (aB7 (ens (List.take es.length es)) nm)).toNat) [])).append [C.str (((ns.getD (0+(aAv (nds (List.take ns.length ns)) (aB7 (ens (List.take es.length es)) nm)).toNat) []).getD (0+1) (C.fn 0 [])).toStr++t)]).append (List.drop (0+1+1) (ns.getD (0+(aAv (nds (List.take ns.length ns)) (aB7 (ens (List.take es.length es)) nm)).toNat) [])))),C.sl es,C.sl os,C.sl ss,C.int .i64 r,C.int .i64 x,C.int .i64 0]))))))))))) (.must (decide (ns.length=ns.length)&&(false||ns.all fun r=>r.all C.flat)&&(decide (es.length=es.length)&&(false||es.all fun r=>r.all C.flat)&&(decide (os.length=os.length)&&(false||os.all fun r=>r.all C.flat)&&(decide (ss.length=ss.length)&&(false||ss.all fun r=>r.all C.flat)&&(true&&(false||true)&&(true&&(false||true)&&true)))))&&(true&&(false||true)&&true&&true)&&true) (.ret [C.sl ns,C.sl es,C.sl os,C.sl ss,C.int .i64 r,C.int .i64 x,C.int .i64 3])))) (.must (decide (ns.length=ns.length)&&(false||ns.all fun r=>r.all C.flat)&&(decide (es.length=es.length)&&(false||es.all fun r=>r.all C.flat)&&(decide (os.length=os.length)&&(false||os.all fun r=>r.all C.flat)&&(decide (ss.length=ss.length)&&(false||ss.all fun r=>r.all C.flat)&&(true&&(false||true)&&(true&&(false||true)&&true)))))&&(true&&(false||true)&&true&&true)&&true) (.ret [C.sl ns,C.sl es,C.sl os,C.sl ss,C.int .i64 r,C.int .i64 x,C.int .i64 3])))))):T (List C)).eval:=aAo (by kernel_rfl)
theorem bMn (H:List Pt→Nat→St→T (List C)) (ns:List (List C)) (es:List (List C)) (os:List (List C)) (ss:List (List C)) (r:Int) (x:Int) (nm:List UInt8):(aAm bSq aAb (sg [aB4,pS] [aBt,rI]) Tryz.f109 H [C.sl ns,C.sl es,C.sl os,C.sl ss,C.int .i64 r,C.int .i64 x,C.str nm]).eval=((.must (aF4 ns es os ss) (.must ((true&&ns.all fun row=>decide (row.length=3))&&((true&&es.all fun row=>decide (row.length=2))&&((true&&os.all fun row=>decide (row.length=2))&&((true&&ss.all fun row=>decide (row.length=1))&&(decide (0<1)&&true&&(decide (0<1)&&true&&true)))))&&true&&true) (.must (aF4 (List.take ns.length ns) (List.take es.length es) (List.take os.length os) (List.take ss.length ss)) (.ask (aF2 (List.take ns.length ns) (List.take es.length es) (List.take os.length os) (List.take ss.length ss) r x) (.must (decide ((List.take es.length es).length≤aK9)&&aAt [K.str,K.int .i64] (List.take es.length es)) (.ask (aG7 (ens (List.take es.length es)) nm) (.must (decide ((List.take es.length es).length≤aK9)&&aAt [K.str,K.int .i64] (List.take es.length es)) (.must (decide ((List.take ns.length ns).length≤aK9)&&aAt [K.int .i64,K.str,K.int .i64] (List.take ns.length ns)) (.must (decide ((0:Int)≤aAv (nds (List.take ns.length ns)) (aB7 (ens (List.take es.length es)) nm))&&decide (aAv (nds (List.take ns.length ns)) (aB7 (ens (List.take es.length es)) nm)<(↑ns.length:Int))) (.must (decide (0+(aAv (nds (List.take ns.length ns)) (aB7 (ens (List.take es.length es)) nm)).toNat<ns.length)&&(decide (0+1<(ns.getD (0+(aAv (nds (List.take ns.length ns)) (aB7 (ens (List.take es.length es)) nm)).toNat) []).length)&&C.is K.str ((ns.getD (0+(aAv (nds (List.take ns.length ns)) (aB7 (ens (List.take es.length es)) nm)).toNat) []).getD (0+1) (C.fn 0 []))&&true)) (.must (decide ((0:Int)≤aAv (nds (List.take ns.length ns)) (aB7 (ens (List.take es.length es)) nm))&&decide (aAv (nds (List.take ns.length ns)) (aB7 (ens (List.take es.length es)) nm)<(↑ns.length:Int))) (.must (decide (0+(aAv (nds (List.take ns.length ns)) (aB7 (ens (List.take es.length es)) nm)).toNat<ns.length)) (.must (decide (ns.length=(ns.set (0+(aAv (nds (List.take ns.length ns)) (aB7 (ens (List.take es.length es)) nm)).toNat) (((List.take (0+2) (ns.getD (0+(aAv (nds (List.take ns.length ns)) (aB7 (ens (List.take es.length es)) nm)).toNat) [])).append [C.int .i64 (↑((ns.getD (0+(aAv (nds (List.take ns.length ns)) (aB7 (ens (List.take es.length es)) nm)).toNat) []).getD (0+1) (C.fn 0 [])).toStr.length:Int)]).append (List.drop (0+2+1) (ns.getD (0+(aAv (nds (List.take ns.length ns)) (aB7 (ens (List.take es.length es)) nm)).toNat) [])))).length)&&(false||(ns.set (0+(aAv (nds (List.take ns.length ns)) (aB7 (ens (List.take es.length es)) nm)).toNat) (((List.take (0+2) (ns.getD (0+(aAv (nds (List.take ns.length ns)) (aB7 (ens (List.take es.length es)) nm)).toNat) [])).append [C.int .i64 (↑((ns.getD (0+(aAv (nds (List.take ns.length ns)) (aB7 (ens (List.take es.length es)) nm)).toNat) []).getD (0+1) (C.fn 0 [])).toStr.length:Int)]).append (List.drop (0+2+1) (ns.getD (0+(aAv (nds (List.take ns.length ns)) (aB7 (ens (List.take es.length es)) nm)).toNat) [])))).all fun r=>r.all C.flat)&&(decide (es.length=es.length)&&(false||es.all fun r=>r.all C.flat)&&(decide (os.length=os.length)&&(false||os.all fun r=>r.all C.flat)&&(decide (ss.length=ss.length)&&(false||ss.all fun r=>r.all C.flat)&&(true&&(false||true)&&(true&&(false||true)&&true)))))&&(true&&(false||true)&&true&&true)&&true) (.ret [C.sl (ns.set (0+(aAv (nds (List.take ns.length ns)) (aB7 (ens (List.take es.length es)) nm)).toNat) (((List.take (0+2) (ns.getD (0+(aAv (nds (List.take ns.length ns)) (aB7 (ens (List.take es.length es)) nm)).toNat) [])).append [C.int .i64 (↑((ns.getD (0+(aAv (nds (List.take ns.length ns)) (aB7 (ens (List.take es.length es)) nm)).toNat) []).getD (0+1) (C.fn 0 [])).toStr.length:Int)]).append (List.drop (0+2+1) (ns.getD (0+(aAv (nds (List.take ns.length ns)) (aB7 (ens (List.take es.length es)) nm)).toNat) [])))),C.sl es,C.sl os,C.sl ss,C.int .i64 r,C.int .i64 x,C.int .i64 0])))))))) (.must (decide (ns.length=ns.length)&&(false||ns.all fun r=>r.all C.flat)&&(decide (es.length=es.length)&&(false||es.all fun r=>r.all C.flat)&&(decide (os.length=os.length)&&(false||os.all fun r=>r.all C.flat)&&(decide (ss.length=ss.length)&&(false||ss.all fun r=>r.all C.flat)&&(true&&(false||true)&&(true&&(false||true)&&true)))))&&(true&&(false||true)&&true&&true)&&true) (.ret [C.sl ns,C.sl es,C.sl os,C.sl ss,C.int .i64 r,C.int .i64 x,C.int .i64 3])))) (.must (decide (ns.length=ns.length)&&(false||ns.all fun r=>r.all C.flat)&&(decide (es.length=es.length)&&(false||es.all fun r=>r.all C.flat)&&(decide (os.length=os.length)&&(false||os.all fun r=>r.all C.flat)&&(decide (ss.length=ss.length)&&(false||ss.all fun r=>r.all C.flat)&&(true&&(false||true)&&(true&&(false||true)&&true)))))&&(true&&(false||true)&&true&&true)&&true) (.ret [C.sl ns,C.sl es,C.sl os,C.sl ss,C.int .i64 r,C.int .i64 x,C.int .i64 3])))))):T (List C)).eval:=aAo (by kernel_rfl)
theorem bE2 (H:List Pt→Nat→St→T (List C)) (ns:List (List C)) (es:List (List C)) (os:List (List C)) (ss:List (List C)) (r:Int) (x:Int) (a:List UInt8) (b:List UInt8):(aAm bH4 aAb (sg [aB4,pS,pS] [aBt,rI]) Tryz.f110 H [C.sl ns,C.sl es,C.sl os,C.sl ss,C.int .i64 r,C.int .i64 x,C.str a,C.str b]).eval=((.must (aF4 ns es os ss) (.must ((true&&ns.all fun row=>decide (row.length=3))&&((true&&es.all fun row=>decide (row.length=2))&&((true&&os.all fun row=>decide (row.length=2))&&((true&&ss.all fun row=>decide (row.length=1))&&(decide (0<1)&&true&&(decide (0<1)&&true&&true)))))&&true&&true) (.must (aF4 (List.take ns.length ns) (List.take es.length es) (List.take os.length os) (List.take ss.length ss)) (.ask (aF2 (List.take ns.length ns) (List.take es.length es) (List.take os.length os) (List.take ss.length ss) r x) (.must (decide ((List.take es.length es).length≤aK9)&&aAt [K.str,K.int .i64] (List.take es.length es)) (.ask (aG7 (ens (List.take es.length es)) a) (.must (decide (b.length≤281474976710656)) (.ask (aDz b) (.ask (a==b) (.must (decide (ns.length=ns.length)&&(false||ns.all fun r=>r.all C.flat)&&(decide (es.length=es.length)&&(false||es.all fun r=>r.all C.flat)&&(decide (os.length=os.length)&&(false||os.all fun r=>r.all C.flat)&&(decide (ss.length=ss.length)&&(false||ss.all fun r=>r.all C.flat)&&(true&&(false||true)&&(true&&(false||true)&&true)))))&&(true&&(false||true)&&true&&true)&&true) (.ret [C.sl ns,C.sl es,C.sl os,C.sl ss,C.int .i64 r,C.int .i64 x,C.int .i64 1])) (.must (decide ((List.take es.length es).length≤aK9)&&aAt [K.str,K.int .i64] (List.take es.length es)) (.must (aJg (List.take es.length es)) (.must ((true&&(aBg (List.take es.length es) a).all fun row=>decide (row.length=2))&&true&&true&&true) (.must (aJg (List.take (aBg (List.take es.length es) a).length (aBg (List.take es.length es) a))) (.must ((true&&(aFk (List.take (aBg (List.take es.length es) a).length (aBg (List.take es.length es) a)) b (aB7 (ens (List.take es.length es)) a)).all fun row=>decide (row.length=2))&&true&&true&&true) (.must (decide (1+a.length≤9223372036854775807)) (.must (decide (([(62:UInt8)]++a).length+1≤9223372036854775807)) (.must (decide (([(62:UInt8)]++a++[(58:UInt8)]).length+b.length≤9223372036854775807)) (.must (decide (ss.length=ss.length)&&aBe (ss.length+1) 16&&(decide (1=1)&&true)) (.must (true&&(true&&(true&&(true&&(true&&(true&&true)))))&&(decide ((aFk (List.take (aBg (List.take es.length es) a).length (aBg (List.take es.length es) a)) b (aB7 (ens (List.take es.length es)) a)).length=(aFk (List.take (aBg (List.take es.length es) a).length (aBg (List.take es.length es) a)) b (aB7 (ens (List.take es.length es)) a)).length)&&(decide (os.length=os.length)&&(decide (ss.length+1=(ss.append [[C.str ([(62:UInt8)]++a++[(58:UInt8)]++b)]]).length)&&true))&&true)) (.must (aF4 (List.take ns.length ns) (aFk (List.take (aBg (List.take es.length es) a).length (aBg (List.take es.length es) a)) b (aB7 (ens (List.take es.length es)) a)) os (ss.append [[C.str ([(62:UInt8)]++a++[(58:UInt8)]++b)]])) (.must ((true&&(aCt (List.take ns.length ns) os (ss.append [[C.str ([(62:UInt8)]++a++[(58:UInt8)]++b)]])).all fun row=>decide (row.length=3))&&(decide ((aFk (List.take (aBg (List.take es.length es) a).length (aBg (List.take es.length es) a)) b (aB7 (ens (List.take es.length es)) a)).length≤(aFk (List.take (aBg (List.take es.length es) a).length (aBg (List.take es.length es) a)) b (aB7 (ens (List.take es.length es)) a)).length)&&(decide (os.length≤os.length)&&(decide ((ss.append [[C.str ([(62:UInt8)]++a++[(58:UInt8)]++b)]]).length≤(ss.append [[C.str ([(62:UInt8)]++a++[(58:UInt8)]++b)]]).length)&&(decide (0<1)&&true&&(decide (0<1)&&true&&true)))))&&true&&((decide ((aFk (List.take (aBg (List.take es.length es) a).length (aBg (List.take es.length es) a)) b (aB7 (ens (List.take es.length es)) a)).length=(aFk (List.take (aBg (List.take es.length es) a).length (aBg (List.take es.length es) a)) b (aB7 (ens (List.take es.length es)) a)).length)&&(aFk (List.take (aBg (List.take es.length es) a).length (aBg (List.take es.length es) a)) b (aB7 (ens (List.take es.length es)) a)).all fun row=>decide (row.length=2))&&((decide (os.length=os.length)&&os.all fun row=>decide (row.length=2))&&((decide ((ss.append [[C.str ([(62:UInt8)]++a++[(58:UInt8)]++b)]]).length=(ss.append [[C.str ([(62:UInt8)]++a++[(58:UInt8)]++b)]]).length)&&(ss.append [[C.str ([(62:UInt8)]++a++[(58:UInt8)]++b)]]).all fun row=>decide (row.length=1))&&true))&&true)) (.must (decide ((aCt (List.take ns.length ns) os (ss.append [[C.str ([(62:UInt8)]++a++[(58:UInt8)]++b)]])).length=(aCt (List.take ns.length ns) os (ss.append [[C.str ([(62:UInt8)]++a++[(58:UInt8)]++b)]])).length)&&(false||(aCt (List.take ns.length ns) os (ss.append [[C.str ([(62:UInt8)]++a++[(58:UInt8)]++b)]])).all fun r=>r.all C.flat)&&(decide ((aFk (List.take (aBg (List.take es.length es) a).length (aBg (List.take es.length es) a)) b (aB7 (ens (List.take es.length es)) a)).length=(aFk (List.take (aBg (List.take es.length es) a).length (aBg (List.take es.length es) a)) b (aB7 (ens (List.take es.length es)) a)).length)&&(false||(aFk (List.take (aBg (List.take es.length es) a).length (aBg (List.take es.length es) a)) b (aB7 (ens (List.take es.length es)) a)).all fun r=>r.all C.flat)&&(decide (os.length=os.length)&&(false||os.all fun r=>r.all C.flat)&&(decide ((ss.append [[C.str ([(62:UInt8)]++a++[(58:UInt8)]++b)]]).length=(ss.append [[C.str ([(62:UInt8)]++a++[(58:UInt8)]++b)]]).length)&&(false||(ss.append [[C.str ([(62:UInt8)]++a++[(58:UInt8)]++b)]]).all fun r=>r.all C.flat)&&(true&&(false||true)&&(true&&(false||true)&&true)))))&&(true&&(false||true)&&true&&true)&&true) (.ret [C.sl (aCt (List.take ns.length ns) os (ss.append [[C.str ([(62:UInt8)]++a++[(58:UInt8)]++b)]])),C.sl (aFk (List.take (aBg (List.take es.length es) a).length (aBg (List.take es.length es) a)) b (aB7 (ens (List.take es.length es)) a)),C.sl os,C.sl (ss.append [[C.str ([(62:UInt8)]++a++[(58:UInt8)]++b)]]),C.int .i64 r,C.int .i64 x,C.int .i64 0]))))))))))))))) (.must (decide (ns.length=ns.length)&&(false||ns.all fun r=>r.all C.flat)&&(decide (es.length=es.length)&&(false||es.all fun r=>r.all C.flat)&&(decide (os.length=os.length)&&(false||os.all fun r=>r.all C.flat)&&(decide (ss.length=ss.length)&&(false||ss.all fun r=>r.all C.flat)&&(true&&(false||true)&&(true&&(false||true)&&true)))))&&(true&&(false||true)&&true&&true)&&true) (.ret [C.sl ns,C.sl es,C.sl os,C.sl ss,C.int .i64 r,C.int .i64 x,C.int .i64 1])))) (.must (decide (ns.length=ns.length)&&(false||ns.all fun r=>r.all C.flat)&&(decide (es.length=es.length)&&(false||es.all fun r=>r.all C.flat)&&(decide (os.length=os.length)&&(false||os.all fun r=>r.all C.flat)&&(decide (ss.length=ss.length)&&(false||ss.all fun r=>r.all C.flat)&&(true&&(false||true)&&(true&&(false||true)&&true)))))&&(true&&(false||true)&&true&&true)&&true) (.ret [C.sl ns,C.sl es,C.sl os,C.sl ss,C.int .i64 r,C.int .i64 x,C.int .i64 3])))) (.must (decide (ns.length=ns.length)&&(false||ns.all fun r=>r.all C.flat)&&(decide (es.length=es.length)&&(false||es.all fun r=>r.all C.flat)&&(decide (os.length=os.length)&&(false||os.all fun r=>r.all C.flat)&&(decide (ss.length=ss.length)&&(false||ss.all fun r=>r.all C.flat)&&(true&&(false||true)&&(true&&(false||true)&&true)))))&&(true&&(false||true)&&true&&true)&&true) (.ret [C.sl ns,C.sl es,C.sl os,C.sl ss,C.int .i64 r,C.int .i64 x,C.int .i64 3])))))):T (List C)).eval:=aAo (by kernel_rfl)
theorem aCi (n b:Nat) (h:n≤16777217) (hb:b≤32):aBe n b=true:=by
 simp only[aBe,decide_eq_true_eq]
 calc (n+n / 4+192)*b≤(16777217+16777217 / 4+192)*32:=Nat.mul_le_mul (by omega) hb
  _≤281474976710656:=by decide
theorem bXz {ns:List (List C)} (h:aZ3 ns=true):(ns.all fun r=>r.all C.flat)=true:=by obtain⟨l,rfl,_⟩:=aKj h;exact aT8 l
theorem aEw {ns es os ss:List (List C)} (h:aF4 ns es os ss=true):(ns.all fun row=>decide (row.length=3))=true∧(es.all fun row=>decide (row.length=2))=true∧(os.all fun row=>decide (row.length=2))=true∧(ss.all fun row=>decide (row.length=1))=true ∧
  (ns.all fun r=>r.all C.flat)=true∧(es.all fun r=>r.all C.flat)=true∧(os.all fun r=>r.all C.flat)=true∧(ss.all fun r=>r.all C.flat)=true:=by
 obtain⟨d1,d2,d3⟩:=aCe.1 h
 obtain⟨s1,s2,s3⟩:=aGg.1 d3
 exact⟨bZn d1,bFv d2,bFv s1,bVv s2,bXz d1,bCu d2,bCu s1,bS0 s2⟩
theorem aIh {ns es os ss:List (List C)} (h:aF4 ns es os ss=true):ns.length≤16777216∧es.length≤16777216∧os.length≤16777216∧ss.length≤16777216∧os.length+ss.length≤16777216:=by
 obtain⟨d1,d2,d3⟩:=aCe.1 h
 obtain⟨s1,s2,s3⟩:=aGg.1 d3
 exact⟨(aMm.1 d1).2.1,(aQ9.1 d2).2.1,by omega,by omega,s3⟩
theorem bX3:aA9 Tryz.prog bSx:=aA8 (by simp[])
theorem aGh:aB0 Tryz.prog 138 (sg [aB4] [aBt]) aIx:=aA6 bX3 aAa Tryz.func138 (by kernel_rfl) fun cs outs hk h=>by
 unfold aIx at h
 split at h
 ·simp only[Option.some.injEq,Prod.mk.injEq]at h
  obtain⟨hd,rfl⟩:=h
  rename_i ns es os ss r x
  obtain⟨n3,e2,o2,s1,nf,ef,of',sf⟩:=aEw hd
  obtain⟨l1,l2,l3,l4,_⟩:=aIh hd
  rw[aAd,bNf]
  have r1:=aCi ns.length 32 (by omega) (by omega)
  have r2:=aCi es.length 24 (by omega) (by omega)
  have r3:=aCi os.length 24 (by omega) (by omega)
  have r4:=aCi ss.length 16 (by omega) (by omega)
  simp only[aA2,aA4,aA3,List.take_length,List.append_eq,decide_true,Bool.and_self,Bool.and_true,Bool.true_and,Bool.or_true,Bool.false_or,if_true,Nat.zero_add,Nat.le_refl,Nat.reduceLT,n3,e2,o2,s1,nf,ef,of',sf,r1,r2,r3,r4]
 ·cases h
theorem aIc {os ss:List (List C)} {nm:List UInt8}:aEk os ss nm=true↔os.length+ss.length<16777216∧nm.length≤1000000:=by simp only[aEk,dN,Bool.and_eq_true,decide_eq_true_eq]
theorem aQg {ns:List (List C)} (os ss:List (List C)) (h:aZ3 ns=true):aZ3 (aCt ns os ss)=true:=by
 obtain⟨l,rfl,e,hl,ht⟩:=aKj h
 unfold aCt
 rw[aFw,aMl]
 exact⟨Nat.le_trans (List.length_filter_le _ _) hl,fun x hx=>ht x (List.mem_filter.1 hx).1⟩
theorem bD1 {es:List (List C)} (nm:List UInt8) (h:aJg es=true):aJg (aBg es nm)=true:=by
 obtain⟨l,rfl,e,hl,ht⟩:=aHn h
 rw[aW6,aKq]
 exact⟨Nat.le_trans (aJv _ _) hl,fun x hx=>ht x (aJu hx)⟩
theorem bQt {es:List (List C)} (nm:List UInt8) (id:Int) (h:aJg es=true) (hl:es.length<16777216) (hn:nm.length≤16777216):aJg (aFk es nm id)=true:=by
 obtain⟨l,rfl,e,_,ht⟩:=aHn h
 rw[List.length_map]at hl
 rw[aPs,aKq]
 refine⟨Nat.le_trans (aPu _ _) hl,fun x hx=>?_⟩
 rcases aPt hx with rfl | hx
 ·exact hn
 ·exact ht x hx
theorem bKx {os ss:List (List C)} {s:List UInt8} (h:stB os ss=true) (hl:os.length+ss.length<16777216) (hs:s.length≤16777216):stB os (ss1 ss s)=true:=by
 obtain⟨s1,s2,s3⟩:=aGg.1 h
 obtain⟨t,rfl,e,_,ht⟩:=aTx s2
 rw[List.length_map]at hl
 have em:ss1 (t.map aAn) s=(t++[s]).map aAn:=by simp[ss1]
 rw[em,aGg]
 refine⟨s1,bKv.2 ⟨by simp;omega,fun x hx=>?_⟩,by simp;omega⟩
 rcases List.mem_append.1 hx with hx | hx
 ·exact ht x hx
 ·have:x=s:=by simpa using hx
  rw[this];exact hs
theorem bHw (ss:List (List C)) (s:List UInt8):(ss1 ss s).length=ss.length+1:=by simp[ss1]
theorem bS9 {es:List (List C)} (h:aJg es=true):(decide (es.length≤aK9)&&aAt [K.str,K.int .i64] es)=true:=by
 obtain⟨l,rfl,e,hl,_⟩:=aHn h
 rw[List.length_map]
 exact bSc l hl
theorem bPp:aA9 Tryz.prog bH5:=aA8 (by simp[aEn,aOe,aEp,aIq,aGh])
theorem aPf:aB0 Tryz.prog 107 (sg [aB4,pS] [aBt,rI]) bL6:=aA6 bPp aAa Tryz.func107 (by kernel_rfl) fun cs outs hk h=>by
 unfold bL6 at h
 split at h
 ·simp only[Option.some.injEq,Prod.mk.injEq,Bool.and_eq_true]at h
  obtain⟨⟨hd,hm⟩,rfl⟩:=h
  rename_i ns es os ss r x nm
  obtain⟨n3,e2,o2,s1,nf,ef,of',sf⟩:=aEw hd
  obtain⟨l1,l2,l3,l4,_⟩:=aIh hd
  obtain⟨d1,d2,d3⟩:=aCe.1 hd
  obtain⟨m1,m2⟩:=aIc.1 hm
  have hd2:aF4 ns (aBg es nm) os (ss1 ss ([45]++nm))=true:=aCe.2 ⟨d1,bD1 nm d2,bKx d3 m1 (by simp;omega)⟩
  have hd3:aF4 (aCt ns os (ss1 ss ([45]++nm))) (aBg es nm) os (ss1 ss ([45]++nm))=true:=aCe.2 ⟨aQg _ _ d1,bD1 nm d2,bKx d3 m1 (by simp;omega)⟩
  obtain⟨p1,p2,p3,p4,p5,p6,p7,p8⟩:=aEw hd3
  have e1:ss++[[C.str ([45]++nm)]]=ss1 ss ([45]++nm):=rfl
  have r4:=aCi (ss.length+1) 16 (by omega) (by omega)
  have big:=bS9 d2
  have k1:1+nm.length≤9223372036854775807:=by omega
  show _=some ([.sl (rmN ns es os ss r x nm),.sl (rmE ns es os ss r x nm),.sl os,.sl (rmS ns es os ss r x nm),.int .i64 r,.int .i64 x,.int .i64 (rmC ns es os ss r x nm)]:List C)
  rw[aAd,bE3]
  unfold rmN rmE rmS rmC bNo
  cases c1:aF2 ns es os ss r x
  ·simp only[aA2,aA4,aA3,List.take_length,List.append_eq,decide_true,Bool.and_self,Bool.and_true,Bool.true_and,Bool.or_true,Bool.false_or,if_true,Nat.zero_add,Nat.le_refl,Nat.reduceLT,hd,n3,e2,o2,s1,nf,ef,of',sf,c1,Bool.false_and,Bool.false_eq_true,if_false]
  ·cases c2:aG7 (ens es) nm
   ·simp only[aA2,aA4,aA3,List.take_length,List.append_eq,decide_true,Bool.and_self,Bool.and_true,Bool.true_and,Bool.or_true,Bool.false_or,if_true,Nat.zero_add,Nat.le_refl,Nat.reduceLT,hd,n3,e2,o2,s1,nf,ef,of',sf,c1,c2,big,Bool.false_eq_true,if_false]
   ·simp only[aA2,aA4,aA3,List.take_length,List.append_eq,decide_true,Bool.and_self,Bool.and_true,Bool.true_and,Bool.or_true,Bool.false_or,if_true,Nat.zero_add,Nat.le_refl,Nat.reduceLT,hd,n3,e2,o2,s1,nf,ef,of',sf,c1,c2,big,d2,p2,k1,r4,e1,bHw,hd2,p1,p3,p4,p5,p6,p7,p8]
 ·cases h
theorem bZi:bTi []=true:=rfl
theorem bDz:aA9 Tryz.prog aSd:=aA8 (by simp[aEp,aIq,aGh])
theorem aL0:aB0 Tryz.prog 108 (sg [aB4] [aBt]) bKy:=aA6 bDz aAa Tryz.func108 (by kernel_rfl) fun cs outs hk h=>by
 unfold bKy at h
 split at h
 ·simp only[Option.some.injEq,Prod.mk.injEq]at h
  obtain⟨hd,rfl⟩:=h
  rename_i ns es os ss r x
  obtain⟨n3,e2,o2,s1,nf,ef,of',sf⟩:=aEw hd
  obtain⟨l1,l2,l3,l4,_⟩:=aIh hd
  obtain⟨d1,d2,d3⟩:=aCe.1 hd
  have st:stB es []=true:=aGg.2 ⟨d2,bZi,by simpa using l2⟩
  have hd2:aF4 ns es es []=true:=aCe.2 ⟨d1,d2,st⟩
  have hd3:aF4 (aCt ns es []) es es []=true:=aCe.2 ⟨aQg _ _ d1,d2,st⟩
  obtain⟨p1,p2,p3,p4,p5,p6,p7,p8⟩:=aEw hd3
  have r2:=aCi es.length 24 (by omega) (by omega)
  show _=some ([.sl (snN ns es os ss r x),.sl es,.sl (snO ns es os ss r x),.sl (snS ns es os ss r x),.int .i64 r,.int .i64 x]:List C)
  rw[aAd,aU7]
  unfold snN snO snS
  cases c1:aF2 ns es os ss r x
  ·simp only[aA2,aA4,aA3,List.take_length,List.append_eq,decide_true,Bool.and_self,Bool.and_true,Bool.true_and,Bool.or_true,Bool.false_or,if_true,Nat.zero_add,Nat.le_refl,Nat.reduceLT,hd,n3,e2,o2,s1,nf,ef,of',sf,c1,Bool.false_eq_true,if_false]
  ·simp only[aA2,aA4,aA3,List.take_length,List.append_eq,decide_true,Bool.and_self,Bool.and_true,Bool.true_and,Bool.or_true,Bool.false_or,if_true,Nat.zero_add,Nat.le_refl,Nat.reduceLT,hd,n3,e2,o2,s1,nf,ef,of',sf,c1,r2,hd2,p1,p5]
 ·cases h
theorem aHe {ns es os ss:List (List C)} {r x:Int} (hd:aF4 ns es os ss=true) (h:aF2 ns es os ss r x=true):ns.length≤64∧es.length≤16∧(0≤r∧r≤1000000000)∧(1≤x∧x≤1000000000)∧(aEa (nds ns):Int)≤r∧∀ e∈ens es,0≤aAv (nds ns) e.id:=by
 have nl:(nds ns).length=ns.length:=by unfold nds;rw[List.length_map]
 have el:(ens es).length=es.length:=by unfold ens;rw[List.length_map]
 unfold aF2 bKd at h
 simp only[Bool.and_eq_true,decide_eq_true_eq,List.all_eq_true]at h
 obtain⟨⟨⟨⟨⟨h1,h2⟩,h3⟩,h4⟩,_⟩,h6⟩:=h
 have hk:=h6 (aCm ss).length (List.mem_range.2 (by omega))
 unfold aTy at hk
 simp only[decide_true,Bool.not_true,Bool.false_or,Bool.and_eq_true,decide_eq_true_eq]at hk
 obtain⟨⟨_,k2⟩,k3⟩:=hk
 rw[k3]at k2
 unfold aJt at k2
 simp only[Bool.and_eq_true,decide_eq_true_eq]at k2
 have all:∀ (l:List En) (q:Option (List UInt8)),aW5 (nds ns) l q=true→∀ e∈l,0≤aAv (nds ns) e.id:=by
  intro l
  induction l with
  |nil=>intro q _ e he;cases he
  |cons y l ih =>
   intro q hq e he
   unfold aW5 at hq
   simp only[Bool.and_eq_true,decide_eq_true_eq]at hq
   rcases List.mem_cons.1 he with rfl | he
   ·exact hq.1.1.2
   ·exact ih _ hq.2 e he
 exact⟨by omega,by omega,(aBr _ _ _).1 h2,(aBr _ _ _).1 h3,h4,all _ _ k2.1⟩
theorem bZl {ns:List (List C)} (x:Int) (h:aZ3 ns=true) (hl:ns.length<16777216):aZ3 (ns++[eNd ⟨x,[],0⟩])=true:=by
 obtain⟨l,rfl,e,_,ht⟩:=aKj h
 rw[List.length_map]at hl
 have em:l.map eNd++[eNd ⟨x,[],0⟩]=(l++[(⟨x,[],0⟩:Nd)]).map eNd:=by simp
 rw[em,aMl]
 refine⟨by simp;omega,fun y hy=>?_⟩
 rcases List.mem_append.1 hy with hy | hy
 ·exact ht y hy
 ·have:y=⟨x,[],0⟩:=by simpa using hy
  rw[this];simp
theorem bQ4:aA9 Tryz.prog bHc:=aA8 (by simp[aEn,aZe,aFt,aR7,aEp,aIq,aGh])
theorem aPh:aB0 Tryz.prog 111 (sg [aB4,pS] [aBt,rI]) bLm:=aA6 bQ4 aAa Tryz.func111 (by kernel_rfl) fun cs outs hk h=>by
 unfold bLm at h
 split at h
 ·simp only[Option.some.injEq,Prod.mk.injEq,Bool.and_eq_true]at h
  obtain⟨⟨hd,hm⟩,rfl⟩:=h
  rename_i ns es os ss r x nm
  obtain⟨n3,e2,o2,s1,nf,ef,of',sf⟩:=aEw hd
  obtain⟨l1,l2,l3,l4,_⟩:=aIh hd
  obtain⟨d1,d2,d3⟩:=aCe.1 hd
  obtain⟨m1,m2⟩:=aIc.1 hm
  have big:=bS9 d2
  have k0:nm.length≤281474976710656:=by omega
  show _=some ([.sl (crN ns es os ss r x nm),.sl (crE ns es os ss r x nm),.sl os,.sl (crS ns es os ss r x nm),.int .i64 r,.int .i64 (crX ns es os ss r x nm),.int .i64 (crC ns es os ss r x nm)]:List C)
  rw[aAd,bEv]
  unfold crN crE crS crX crC
  cases c1:aF2 ns es os ss r x
  ·simp only[aA2,aA4,aA3,List.take_length,List.append_eq,decide_true,Bool.and_self,Bool.and_true,Bool.true_and,Bool.or_true,Bool.false_or,if_true,Nat.zero_add,Nat.le_refl,Nat.reduceLT,hd,n3,e2,o2,s1,nf,ef,of',sf,c1,Bool.false_eq_true,if_false,Int.reduceEq]
  ·obtain⟨f1,f2,f3,f4,_,_⟩:=aHe hd c1
   cases c2:aDz nm
   ·simp only[aA2,aA4,aA3,List.take_length,List.append_eq,decide_true,Bool.and_self,Bool.and_true,Bool.true_and,Bool.or_true,Bool.false_or,if_true,Nat.zero_add,Nat.le_refl,Nat.reduceLT,hd,n3,e2,o2,s1,nf,ef,of',sf,c1,c2,k0,Bool.false_eq_true,if_false,Int.reduceEq]
   ·cases c3:aG7 (ens es) nm
    ·by_cases q1:16≤es.length
     ·have q1':(16:Int)≤es.length:=by omega
      simp only[aA2,aA4,aA3,List.take_length,List.append_eq,decide_true,Bool.and_self,Bool.and_true,Bool.true_and,Bool.or_true,Bool.false_or,if_true,Nat.zero_add,Nat.le_refl,Nat.reduceLT,hd,n3,e2,o2,s1,nf,ef,of',sf,c1,c2,c3,k0,big,q1,q1',true_or,Bool.false_eq_true,if_false,Int.reduceEq]
     ·have q1':¬(16:Int)≤es.length:=by omega
      by_cases q2:64≤ns.length
      ·have q2':(64:Int)≤ns.length:=by omega
       simp only[aA2,aA4,aA3,List.take_length,List.append_eq,decide_true,Bool.and_self,Bool.and_true,Bool.true_and,Bool.or_true,Bool.false_or,if_true,Nat.zero_add,Nat.le_refl,Nat.reduceLT,hd,n3,e2,o2,s1,nf,ef,of',sf,c1,c2,c3,k0,big,q1,q1',q2,q2',true_or,or_true,decide_false,Bool.false_eq_true,if_false,Int.reduceEq]
      ·have q2':¬(64:Int)≤ns.length:=by omega
       by_cases q3:1000000000≤x
       ·simp only[aA2,aA4,aA3,List.take_length,List.append_eq,decide_true,Bool.and_self,Bool.and_true,Bool.true_and,Bool.or_true,Bool.false_or,if_true,Nat.zero_add,Nat.le_refl,Nat.reduceLT,hd,n3,e2,o2,s1,nf,ef,of',sf,c1,c2,c3,k0,big,q1,q1',q2,q2',q3,true_or,or_true,decide_false,Bool.false_eq_true,if_false,Int.reduceEq]
       ·have dl:=bGt x
        have sl:([43]++nm++[58]++aG2 x).length≤16777216:=by simp;omega
        have em:[43]++nm++[58]++aG2 x=aQf nm x:=rfl
        rw[em]at sl
        have st:=bKx d3 m1 sl
        have pe:=bQt nm x d2 (by omega) (by omega)
        have nn:=bZl x d1 (by omega)
        have hd2:aF4 (ns++[eNd ⟨x,[],0⟩]) (aFk es nm x) os (ss1 ss (aQf nm x))=true:=aCe.2 ⟨nn,pe,st⟩
        have hd3:aF4 (aCt (ns++[eNd ⟨x,[],0⟩]) os (ss1 ss (aQf nm x))) (aFk es nm x) os (ss1 ss (aQf nm x))=true:=aCe.2 ⟨aQg _ _ nn,pe,st⟩
        obtain⟨p1,p2,p3,p4,p5,p6,p7,p8⟩:=aEw hd3
        have e1:ss++[[C.str (aQf nm x)]]=ss1 ss (aQf nm x):=rfl
        have e3:ns++[[C.int .i64 x,C.str [],C.int .i64 0]]=ns++[eNd ⟨x,[],0⟩]:=rfl
        have tk:List.take (ns.length+1) (ns++[eNd ⟨x,[],0⟩])=ns++[eNd ⟨x,[],0⟩]:=by rw[List.take_of_length_le];simp
        have r1:=aCi (ns.length+1) 32 (by omega) (by omega)
        have r4:=aCi (ss.length+1) 16 (by omega) (by omega)
        have k1:1+nm.length≤9223372036854775807:=by omega
        have k2:([43]++nm).length+1≤9223372036854775807:=by simp;omega
        have k3:([43]++nm++[58]).length+(aG2 x).length≤9223372036854775807:=by simp;omega
        have k4:inB x 0 9223372036854775807=true:=by rw[aBr];omega
        have w:IntKind.i64.wrap (x+1)=x+1:=by rw[aAi]<;>omega
        simp only[aA2,aA4,aA3,List.take_length,List.append_eq,decide_true,Bool.and_self,Bool.and_true,Bool.true_and,Bool.or_true,Bool.false_or,if_true,Nat.zero_add,Nat.le_refl,Nat.reduceLT,hd,n3,e2,o2,s1,nf,ef,of',sf,c1,c2,c3,k0,big,q1,q1',q2,q2',q3,r1,d2,k1,k2,k3,k4,r4,em,e1,e3,tk,bHw,hd2,w,p1,p2,p3,p4,p5,p6,p7,p8,or_self,decide_false,Bool.false_eq_true,if_false]
    ·simp only[aA2,aA4,aA3,List.take_length,List.append_eq,decide_true,Bool.and_self,Bool.and_true,Bool.true_and,Bool.or_true,Bool.false_or,if_true,Nat.zero_add,Nat.le_refl,Nat.reduceLT,hd,n3,e2,o2,s1,nf,ef,of',sf,c1,c2,c3,k0,big,Bool.false_eq_true,if_false,Int.reduceEq]
 ·cases h
theorem aVi {A:Type} (p:A→Bool):∀ (l:List A) (i:Nat) (d:A),0≤aD3 p l i→i≤(aD3 p l i).toNat∧(aD3 p l i).toNat<i+l.length∧l.getD ((aD3 p l i).toNat-i) d∈l∧p (l.getD ((aD3 p l i).toNat-i) d)=true
 |[],i,d,h=>by simp[aD3]at h
 |x::r,i,d,h=>by
  unfold aD3 at h ⊢
  by_cases c:p x=true
  ·rw[if_pos c]at h ⊢
   simp[c]
  ·rw[if_neg c]at h ⊢
   obtain⟨a1,a2,a3,a4⟩:=aVi p r (i+1) d h
   have e:(aD3 p r (i+1)).toNat-i=((aD3 p r (i+1)).toNat-(i+1))+1:=by omega
   rw[e,List.getD_cons_succ]
   exact⟨by omega,by simp;omega,List.mem_cons_of_mem _ a3,a4⟩
theorem bR9 {ns es os ss:List (List C)} {r x:Int} {nm:List UInt8} (hd:aF4 ns es os ss=true) (h:aF2 ns es os ss r x=true) (hh:aG7 (ens es) nm=true):0≤aAv (nds ns) (aB7 (ens es) nm)∧aAv (nds ns) (aB7 (ens es) nm)<ns.length:=by
 obtain⟨_,_,_,_,_,f⟩:=aHe hd h
 unfold aG7 at hh
 simp only[decide_eq_true_eq]at hh
 have hit:=aVi (bSa nm) (ens es) 0 ⟨[],0⟩ hh
 have e:aB7 (ens es) nm=((ens es).getD (aC8 (ens es) nm).toNat ⟨[],0⟩).id:=by unfold aB7;rw[if_neg (by omega)]
 have nl:(nds ns).length=ns.length:=by unfold nds;rw[List.length_map]
 have k:=f _ hit.2.2.1
 rw[Nat.sub_zero]at k
 rw[e]
 refine⟨k,?_⟩
 rcases aZ1 (nds ns) ((ens es).getD (aC8 (ens es) nm).toNat ⟨[],0⟩).id with q | q
 ·have:aAv (nds ns) ((ens es).getD (aD3 (bSa nm) (ens es) 0).toNat ⟨[],0⟩).id= -1:=q
  omega
 ·rw[nl]at q;exact q.2
theorem bDr {l:List Nd} {k:Nat} (h:k<l.length):(l.getD k ⟨0,[],0⟩).text.length≤aEa l:=by
 have h1:=aYn l k h
 have h2:=aYm l (k+1)
 omega
theorem cB8 (y:Nd) (t:List UInt8):((List.take 1 (eNd y))++[C.str (y.text++t)])++List.drop (1+1) (eNd y)=eNd (bW6 y t):=rfl
theorem cAs (y:Nd) (n:Int):((List.take 2 (eNd y))++[C.int .i64 n])++List.drop (2+1) (eNd y)=eNd ⟨y.id,y.text,n⟩:=rfl
theorem bZk {ns:List (List C)} (h:aZ3 ns=true):(decide (ns.length≤aK9)&&aAt [K.int .i64,K.str,K.int .i64] ns)=true:=bVs h
theorem bBs (l:List Nd) (k:Nat) (y:Nd):(l.map eNd).set k (eNd y)=(l.set k y).map eNd:=(List.map_set).symm
theorem bQ6:aA9 Tryz.prog bHe:=aA8 (by simp[aHd,aEn,aHt,aU4,aEp,aGh])
theorem aPk:aB0 Tryz.prog 112 (sg [aB4,pS,pS] [aBt,rI]) bLs:=aA6 bQ6 aAa Tryz.func112 (by kernel_rfl) fun cs outs hk h=>by
 unfold bLs at h
 split at h
 ·simp only[Option.some.injEq,Prod.mk.injEq,Bool.and_eq_true,decide_eq_true_eq]at h
  obtain⟨⟨hd,hm⟩,rfl⟩:=h
  rename_i ns es os ss r x nm t
  obtain⟨d1,d2,d3⟩:=aCe.1 hd
  obtain⟨l,rfl,e,hl,ht⟩:=aKj d1
  obtain⟨n3,e2,o2,s1,nf,ef,of',sf⟩:=aEw hd
  obtain⟨l1,l2,l3,l4,_⟩:=aIh hd
  have big:=bS9 d2
  have big2:=bZk d1
  have big3:=big2
  rw[List.length_map]at big3
  have tl:t.length≤16777216:=hm
  show _=some ([.sl (apN (l.map eNd) es os ss r x nm t),.sl es,.sl os,.sl ss,.int .i64 r,.int .i64 x,.int .i64 (apC (l.map eNd) es os ss r x nm t)]:List C)
  rw[aAd,bF2]
  unfold apN apC bNo ndK bFq
  cases c1:aF2 (l.map eNd) es os ss r x
  ·simp only[aA2,aA4,aA3,List.take_length,List.append_eq,decide_true,Bool.and_self,Bool.and_true,Bool.true_and,Bool.or_true,Bool.false_or,if_true,Nat.zero_add,Nat.le_refl,Nat.reduceLT,hd,n3,e2,o2,s1,nf,ef,of',sf,c1,Bool.false_and,Bool.false_eq_true,if_false]
  ·cases c2:aG7 (ens es) nm
   ·simp only[aA2,aA4,aA3,List.take_length,List.append_eq,decide_true,Bool.and_self,Bool.and_true,Bool.true_and,Bool.or_true,Bool.false_or,if_true,Nat.zero_add,Nat.le_refl,Nat.reduceLT,hd,n3,e2,o2,s1,nf,ef,of',sf,c1,c2,big,Bool.false_eq_true,if_false]
   ·obtain⟨k1,k2⟩:=bR9 hd c1 c2
    obtain⟨_,_,f3,_,f5,_⟩:=aHe hd c1
    rw[aFw]at k1 k2 f5
    rw[List.length_map]at k2
    obtain⟨k,hk⟩:=Int.eq_ofNat_of_zero_le k1
    have hkl:k<l.length:=by omega
    have g:=aBa eNd l ⟨0,[],0⟩ k hkl
    have un:=bDr hkl
    have tx:=ht _ (aIu (d:=⟨0,[],0⟩) hkl)
    have w:IntKind.i64.wrap (r-Int.ofNat (aEa l))=r-aEa l:=by
     show IntKind.i64.wrap (r-(aEa l:Int))=_
     rw[aAi]<;>omega
    have m1:(0:Int)≤k:=by omega
    have m2:(k:Int)<l.length:=by omega
    have m3:(0:Int)≤r-aEa l:=by omega
    have tkl:List.take l.length (l.map eNd)=l.map eNd:=by rw[List.take_of_length_le];simp
    generalize hy:l.getD k ⟨0,[],0⟩=y at g un tx
    have m4:y.text.length+t.length≤9223372036854775807:=by omega
    have m5:y.text.length+(List.take (r-(aEa l:Int)).toNat t).length≤9223372036854775807:=by rw[List.length_take];omega
    simp only[aA2,aA4,aA3,List.take_length,List.append_eq,decide_true,Bool.and_self,Bool.and_true,Bool.true_and,Bool.or_true,Bool.false_or,if_true,Nat.zero_add,Nat.le_refl,Nat.reduceLT,hd,n3,e2,o2,s1,nf,ef,of',sf,c1,c2,big,big2,big3,d1,aFw,tkl,hk,w,m1,m2,m3,hkl,Int.toNat_natCast,List.length_map,g,hy,cB8,bBs,List.length_set,aT8,List.getD_cons_succ,List.getD_cons_zero,C.toStr,C.is,List.length_cons,List.length_nil,Nat.reduceAdd,List.drop_zero,m4,m5,decide_eq_true_eq]
    by_cases c3:r-(aEa l:Int)<t.length
    ·have m6:r-(aEa l:Int)≤t.length:=by omega
     simp only[c3,m6,decide_true,Bool.and_self,if_true]
    ·simp only[c3,if_false]
 ·cases h
theorem bWs:aA9 Tryz.prog bSq:=aA8 (by simp[aHd,aEn,aHt,aEp,aGh])
theorem aU6:aB0 Tryz.prog 109 (sg [aB4,pS] [aBt,rI]) bKt:=aA6 bWs aAa Tryz.func109 (by kernel_rfl) fun cs outs hk h=>by
 unfold bKt at h
 split at h
 ·simp only[Option.some.injEq,Prod.mk.injEq]at h
  obtain⟨hd,rfl⟩:=h
  rename_i ns es os ss r x nm
  obtain⟨d1,d2,d3⟩:=aCe.1 hd
  obtain⟨l,rfl,e,hl,ht⟩:=aKj d1
  obtain⟨n3,e2,o2,s1,nf,ef,of',sf⟩:=aEw hd
  have big:=bS9 d2
  have big2:=bZk d1
  have big3:=big2
  rw[List.length_map]at big3
  show _=some ([.sl (syN (l.map eNd) es os ss r x nm),.sl es,.sl os,.sl ss,.int .i64 r,.int .i64 x,.int .i64 (rmC (l.map eNd) es os ss r x nm)]:List C)
  rw[aAd,bMn]
  unfold syN rmC bNo ndK
  cases c1:aF2 (l.map eNd) es os ss r x
  ·simp only[aA2,aA4,aA3,List.take_length,List.append_eq,decide_true,Bool.and_self,Bool.and_true,Bool.true_and,Bool.or_true,Bool.false_or,if_true,Nat.zero_add,Nat.le_refl,Nat.reduceLT,hd,n3,e2,o2,s1,nf,ef,of',sf,c1,Bool.false_and,Bool.false_eq_true,if_false]
  ·cases c2:aG7 (ens es) nm
   ·simp only[aA2,aA4,aA3,List.take_length,List.append_eq,decide_true,Bool.and_self,Bool.and_true,Bool.true_and,Bool.or_true,Bool.false_or,if_true,Nat.zero_add,Nat.le_refl,Nat.reduceLT,hd,n3,e2,o2,s1,nf,ef,of',sf,c1,c2,big,Bool.false_eq_true,if_false]
   ·obtain⟨k1,k2⟩:=bR9 hd c1 c2
    rw[aFw]at k1 k2
    rw[List.length_map]at k2
    obtain⟨k,hk⟩:=Int.eq_ofNat_of_zero_le k1
    have hkl:k<l.length:=by omega
    have g:=aBa eNd l ⟨0,[],0⟩ k hkl
    have m1:(0:Int)≤k:=by omega
    have m2:(k:Int)<l.length:=by omega
    have tkl:List.take l.length (l.map eNd)=l.map eNd:=by rw[List.take_of_length_le];simp
    generalize hy:l.getD k ⟨0,[],0⟩=y at g
    simp only[aA2,aA4,aA3,List.take_length,List.append_eq,decide_true,Bool.and_self,Bool.and_true,Bool.true_and,Bool.or_true,Bool.false_or,if_true,Nat.zero_add,Nat.le_refl,Nat.reduceLT,hd,n3,e2,o2,s1,nf,ef,of',sf,c1,c2,big,big2,big3,d1,aFw,tkl,hk,m1,m2,hkl,Int.toNat_natCast,List.length_map,g,hy,cAs,bBs,List.length_set,aT8,List.getD_cons_succ,List.getD_cons_zero,C.toStr,C.is,List.length_cons,List.length_nil,Nat.reduceAdd]
 ·cases h
theorem bPo:aA9 Tryz.prog bH4:=aA8 (by simp[aHd,aEn,aFt,aR7,aOe,aEp,aIq,aGh])
theorem bAp:aB0 Tryz.prog 110 (sg [aB4,pS,pS] [aBt,rI]) bQg:=aA6 bPo aAa Tryz.func110 (by kernel_rfl) fun cs outs hk h=>by
 unfold bQg at h
 split at h
 ·simp only[Option.some.injEq,Prod.mk.injEq,Bool.and_eq_true]at h
  obtain⟨⟨hd,hm,hm2⟩,rfl⟩:=h
  rename_i ns es os ss r x a b
  obtain⟨n3,e2,o2,s1,nf,ef,of',sf⟩:=aEw hd
  obtain⟨l1,l2,l3,l4,_⟩:=aIh hd
  obtain⟨d1,d2,d3⟩:=aCe.1 hd
  obtain⟨m1,m2⟩:=aIc.1 hm
  obtain⟨_,m3⟩:=aIc.1 hm2
  have big:=bS9 d2
  have k0:b.length≤281474976710656:=by omega
  show _=some ([.sl (rnN ns es os ss r x a b),.sl (rnE ns es os ss r x a b),.sl os,.sl (rnS ns es os ss r x a b),.int .i64 r,.int .i64 x,.int .i64 (rnC ns es os ss r x a b)]:List C)
  rw[aAd,bE2]
  unfold rnN rnE rnS rnC bNo
  cases c1:aF2 ns es os ss r x
  ·simp only[aA2,aA4,aA3,List.take_length,List.append_eq,decide_true,Bool.and_self,Bool.and_true,Bool.true_and,Bool.or_true,Bool.false_or,if_true,Nat.zero_add,Nat.le_refl,Nat.reduceLT,hd,n3,e2,o2,s1,nf,ef,of',sf,c1,Bool.false_and,Bool.false_eq_true,if_false,Int.reduceEq]
  ·cases c2:aG7 (ens es) a
   ·simp only[aA2,aA4,aA3,List.take_length,List.append_eq,decide_true,Bool.and_self,Bool.and_true,Bool.true_and,Bool.or_true,Bool.false_or,if_true,Nat.zero_add,Nat.le_refl,Nat.reduceLT,hd,n3,e2,o2,s1,nf,ef,of',sf,c1,c2,big,Bool.false_eq_true,if_false,Int.reduceEq]
   ·cases c3:aDz b
    ·simp only[aA2,aA4,aA3,List.take_length,List.append_eq,decide_true,Bool.and_self,Bool.and_true,Bool.true_and,Bool.or_true,Bool.false_or,if_true,Nat.zero_add,Nat.le_refl,Nat.reduceLT,hd,n3,e2,o2,s1,nf,ef,of',sf,c1,c2,c3,k0,big,Bool.false_eq_true,if_false,Int.reduceEq]
    ·by_cases c4:a=b
     ·have c4':(a==b)=true:=by simpa using c4
      simp only[aA2,aA4,aA3,List.take_length,List.append_eq,decide_true,Bool.and_self,Bool.and_true,Bool.true_and,Bool.or_true,Bool.false_or,if_true,Nat.zero_add,Nat.le_refl,Nat.reduceLT,hd,n3,e2,o2,s1,nf,ef,of',sf,c1,c2,c3,c4',k0,big,if_pos c4,Bool.false_eq_true,if_false,Int.reduceEq]
     ·have c4':(a==b)=false:=by simpa using c4
      obtain⟨f1,f2,f3,f4,_,_⟩:=aHe hd c1
      have dr:=bD1 a d2
      have dl:(aBg es a).length≤es.length:=by unfold aBg;rw[List.length_map];have:=aJv (ens es) a;unfold ens at this ⊢;rw[List.length_map]at this;exact this
      have pe:=bQt b (aB7 (ens es) a) dr (by omega) (by omega)
      have em:[62]++a++[58]++b=aNt a b:=rfl
      have sl:(aNt a b).length≤16777216:=by rw[←em];simp;omega
      have st:=bKx d3 m1 sl
      have hd2:aF4 ns (aFk (aBg es a) b (aB7 (ens es) a)) os (ss1 ss (aNt a b))=true:=aCe.2 ⟨d1,pe,st⟩
      have hd3:aF4 (aCt ns os (ss1 ss (aNt a b))) (aFk (aBg es a) b (aB7 (ens es) a)) os (ss1 ss (aNt a b))=true:=aCe.2 ⟨aQg _ _ d1,pe,st⟩
      obtain⟨p1,p2,p3,p4,p5,p6,p7,p8⟩:=aEw hd3
      have q2:=bFv dr
      have e1:ss++[[C.str (aNt a b)]]=ss1 ss (aNt a b):=rfl
      have r4:=aCi (ss.length+1) 16 (by omega) (by omega)
      have k1:1+a.length≤9223372036854775807:=by omega
      have k2:([62]++a).length+1≤9223372036854775807:=by simp;omega
      have k3:([62]++a++[58]).length+b.length≤9223372036854775807:=by simp;omega
      simp only[aA2,aA4,aA3,List.take_length,List.append_eq,decide_true,Bool.and_self,Bool.and_true,Bool.true_and,Bool.or_true,Bool.false_or,if_true,Nat.zero_add,Nat.le_refl,Nat.reduceLT,hd,n3,e2,o2,s1,nf,ef,of',sf,c1,c2,c3,c4',if_neg c4,k0,big,d2,dr,q2,p2,k1,k2,k3,r4,em,e1,bHw,hd2,p1,p3,p4,p5,p6,p7,p8,Bool.false_eq_true,if_false]
 ·cases h
noncomputable section
def aDb (rows:List (List C)) (i h:Int) (l:List (List UInt8)):List UInt8:=l.getD (aAk rows i h l.length).toNat []
def aPv:aCh:=fun cs=>match cs with
 |[.sl rows,.int .i64 i,.int .i64 h,.sl l]=>some (aAr rows i&&(aAt [.str] l&&(decide (0<l.length)&&decide (l.length≤1048576))),[.str (aDb rows i h (aCm l)),.sl rows,.int .i64 (aA0 rows i l.length),.int .i64 (aA1 h l.length)])
 |_=>none
def bSr:Env:=mkE [] [(46,(⟨[aD2,pI],[rI],true⟩),aE1)]
def aLu (r:Int):Int:=if r<0 then 0 else r
def aQc:aCh:=fun cs=>match cs with
 |[.int .i64 r]=>some (true,[.sl [],.sl [],.sl [],.sl [],.int .i64 (aLu r),.int .i64 1])
 |_=>none
def bSw:Env:=mkE [] []
def oR (o:Option (List C)) (k:Nat):List (List C):=((o.getD []).getD k (.fn 0 [])).toRows
def oI (o:Option (List C)) (k:Nat):Int:=((o.getD []).getD k (.fn 0 [])).toInt
def bYj (o:Option (List C)):Option (List C):=Classical.choose (show ∃ x,x=o from⟨o,rfl⟩)
def aRd (o:Option (List C)) (rows:List (List C)):List C:=[.sl (oR o 0),.sl (oR o 1),.sl (oR o 2),.sl (oR o 3),.int .i64 (oI o 4),.int .i64 (oI o 5),.sl rows,.int .i64 (oI o 7),.int .i64 (oI o 8)]
def bLc:List (List C):=[[C.str [97]],[C.str [98]],[C.str [115,48,48,48,48,48,48,48,48,46,115,101,103]],[C.str [115,48,48,48,48,48,48,48,51,46,115,101,103]],[C.str [115,48,48,48,48,48,48,48,48,46,115,101,103,46,116,109,112]],[C.str [99]]]
def bZh:List (List C):=[[C.str [98]],[C.str [120]],[C.str [115,48,48,48,48,48,48,48,51,46,115,101,103]]]
abbrev cBb (n m p q:Nat) (r x:Int):Blk:=.box [.ref 3 0 n,.ref 4 0 m,.ref 5 0 p,.ref 6 0 q,.i .i64 r,.i .i64 x]
def aH1 (rows:List (List C)) (i h:Int) (n:Nat) (ns:List (List C)) (m:Nat) (es:List (List C)) (p:Nat) (os:List (List C)) (q:Nat) (ss:List (List C)) (r x j:Int):St:={slots:=[(0,.l (.ptr 0 0)),(2,.l (.ptr 1 0)),(3,.l (.ptr 2 0)),(4,aBc j)],heap:=[(0,.box [.sl rows,.i .i64 i,.i .i64 h]),(1,.box [.nil,.nil,.nil,.nil,.i .i64 0,.i .i64 0]),(2,cBb n m p q r x),(3,.arr 3 ns),(4,.arr 2 es),(5,.arr 2 os),(6,.arr 1 ss)],next:=7,pins:=[0]}
def aQu:Env:=mkE [(3,[0,2,3,4])] [(46,(⟨[aD2,pI],[rI],true⟩),aE1),(42,(⟨[aD2,pSl 3],[rI],true⟩),aMj),(47,(⟨[aD2,pI],[rS],true⟩),aP5),(107,(sg [aB4,pS] [aBt,rI]),bL6),(108,(sg [aB4] [aBt]),bKy),(111,(sg [aB4,pS] [aBt,rI]),bLm),(112,(sg [aB4,pS,pS] [aBt,rI]),bLs),(109,(sg [aB4,pS] [aBt,rI]),bKt),(110,(sg [aB4,pS,pS] [aBt,rI]),bQg),(72,(⟨[aD2,pSl 9],[rS],true⟩),aPv),(14,(sg [pI] [aBt]),aQc)]
def aW8 (rows:List (List C)) (i h:Int):Option (List C):=bYj (bA7 aQu aAb ⟨[aD2],[aBt],true⟩ Tryz.f71 [.sl rows,.int .i64 i,.int .i64 h]).eval
def aW7:aCh:=fun cs=>match cs with
 |[.sl rows,.int .i64 i,.int .i64 h]=>some (aAr rows i,aRd (aW8 rows i h) rows)
 |_=>none
end
theorem bN1 (H:List Pt→Nat→St→T (List C)) (r:List (List C)) (i:Int) (h:Int) (l:List (List C)):(aAm bSr aAb {params:=[aD2,pSl 9],results:=[rS],nested:=true} Tryz.f72 H [C.sl r,C.int .i64 i,C.int .i64 h,C.sl l]).eval=((.must (aAr r i) (.must (decide ((0:Int)≤aAk r i h (↑l.length:Int))&&decide (aAk r i h (↑l.length:Int)<(↑l.length:Int))&&decide ((l.getD (aAk r i h (↑l.length:Int)).toNat []).length=1)) (.must (decide (0<(l.getD (aAk r i h (↑l.length:Int)).toNat []).length)&&C.is K.str ((l.getD (aAk r i h (↑l.length:Int)).toNat []).getD 0 (C.fn 0 []))&&true) (.ret [C.str ((l.getD (aAk r i h (↑l.length:Int)).toNat []).getD 0 (C.fn 0 [])).toStr,C.sl r,C.int .i64 (aA0 r i (↑l.length:Int)),C.int .i64 (aA1 h (↑l.length:Int))])))):T (List C)).eval:=aAo (by kernel_rfl)
theorem bNe (H:List Pt→Nat→St→T (List C)) (r:Int):(aAm bSw aAb (sg [pI] [aBt]) Tryz.f14 H [C.int .i64 r]).eval=((.ask (decide (r<(0:Int))) (.ret [C.sl [],C.sl [],C.sl [],C.sl [],C.int .i64 0,C.int .i64 1]) (.ret [C.sl [],C.sl [],C.sl [],C.sl [],C.int .i64 r,C.int .i64 1])):T (List C)).eval:=aAo (by kernel_rfl)
theorem bIm (H:List Pt→Nat→St→T (List C)) (r:List (List C)) (i:Int) (h:Int):(aAm aQu aAb {params:=[aD2],results:=[aBt],nested:=true} Tryz.f71 H [C.sl r,C.int .i64 i,C.int .i64 h]).eval=((.must (aAr r i&&(aAt [K.int .i64] [[C.int .i64 4000],[C.int .i64 4000],[C.int .i64 4000],[C.int .i64 300],[C.int .i64 100]]&&(decide (0<5)&&decide (5≤1048576)))) (H [Pt.r,Pt.r,Pt.l,Pt.r,Pt.b] 9223372036854775808 (aH1 (r) (aA0 r i (↑(5:Nat):Int)) (aA1 h (↑(5:Nat):Int)) (0) ([]) (0) ([]) (0) ([]) (0) ([]) (aLu ((aH7 [[C.int .i64 4000],[C.int .i64 4000],[C.int .i64 4000],[C.int .i64 300],[C.int .i64 100]]).getD (aAk r i h (↑(5:Nat):Int)).toNat 0)) ((1:Int)) ((0:Int))))):T (List C)).eval:=aAo (by kernel_rfl)
theorem bBb (H:List Pt→Nat→St→T (List C)) (rows:List (List C)) (i:Int) (h:Int) (n:Nat) (ns:List (List C)) (q2:Nat) (es:List (List C)) (p:Nat) (os:List (List C)) (q:Nat) (ss:List (List C)) (r:Int) (x:Int) (j:Int) (k:Nat):(aBk aQu aAb {params:=[aD2],results:=[aBt],nested:=true} Tryz.f71 H [Pt.r,Pt.r,Pt.l,Pt.r,Pt.b] k (aH1 rows i h n ns q2 es p os q ss r x j)).eval=(let d1:Dk:=(rmD {ns:=List.take n ns,es:=List.take q2 es,os:=List.take p os,ss:=List.take q ss,r:=r,x:=x} (aDb rows (aA0 rows i 9) (aA1 h 9) (aCm bLc)));let d2:Dk:=(snD {ns:=List.take n ns,es:=List.take q2 es,os:=List.take p os,ss:=List.take q ss,r:=r,x:=x});let d3:Dk:=(syD {ns:=List.take n ns,es:=List.take q2 es,os:=List.take p os,ss:=List.take q ss,r:=r,x:=x} (aDb rows (aA0 rows i 9) (aA1 h 9) (aCm bLc)));let d4:Dk:=(rnD {ns:=List.take n ns,es:=List.take q2 es,os:=List.take p os,ss:=List.take q ss,r:=r,x:=x} (aDb rows (aA0 rows i 9) (aA1 h 9) (aCm bLc)) (aDb rows (aA0 rows (aA0 rows (aA0 rows i 9) (↑(6:Nat):Int)) (8:Int)) (aA1 (aA1 (aA1 h 9) (↑(6:Nat):Int)) (8:Int)) (aCm bZh)));let d5:Dk:=(crD {ns:=List.take n ns,es:=List.take q2 es,os:=List.take p os,ss:=List.take q ss,r:=r,x:=x} (aDb rows (aA0 rows i 9) (aA1 h 9) (aCm bLc)));let s1:List UInt8:=(aDl rows (aEb (aAk rows (aA0 rows (aA0 rows (aA0 rows i 9) (↑(6:Nat):Int)) (8:Int)) (aA1 (aA1 (aA1 h 9) (↑(6:Nat):Int)) (8:Int)) (12:Int))) (aA0 rows (aA0 rows (aA0 rows (aA0 rows i 9) (↑(6:Nat):Int)) (8:Int)) (12:Int)) (aA1 (aA1 (aA1 (aA1 h 9) (↑(6:Nat):Int)) (8:Int)) (12:Int)));let d6:Dk:=(apD {ns:=List.take d5.ns.length d5.ns,es:=List.take d5.es.length d5.es,os:=List.take d5.os.length d5.os,ss:=List.take d5.ss.length d5.ss,r:=d5.r,x:=d5.x} (aDb rows (aA0 rows i 9) (aA1 h 9) (aCm bLc)) s1);let z1:Int:=(aP7 rows (aEb (aAk rows (aA0 rows (aA0 rows (aA0 rows i 9) (↑(6:Nat):Int)) (8:Int)) (aA1 (aA1 (aA1 h 9) (↑(6:Nat):Int)) (8:Int)) (12:Int))) (aA0 rows (aA0 rows (aA0 rows (aA0 rows i 9) (↑(6:Nat):Int)) (8:Int)) (12:Int)));let z2:Int:=(aQz (aEb (aAk rows (aA0 rows (aA0 rows (aA0 rows i 9) (↑(6:Nat):Int)) (8:Int)) (aA1 (aA1 (aA1 h 9) (↑(6:Nat):Int)) (8:Int)) (12:Int))) (aA1 (aA1 (aA1 (aA1 h 9) (↑(6:Nat):Int)) (8:Int)) (12:Int)));(.must (aAr rows i) (.ask (decide (j<aAk rows i h 9)) (.must (aAr rows (aA0 rows i 9)&&(aAt [K.str] bLc&&(decide (0<6)&&decide (6≤1048576)))) (.must (aAr rows (aA0 rows (aA0 rows i 9) (↑(6:Nat):Int))) (.ask (decide (aAk rows (aA0 rows (aA0 rows i 9) (↑(6:Nat):Int)) (aA1 (aA1 h 9) (↑(6:Nat):Int)) (8:Int)=(0:Int))) (.must (aF4 (List.take n ns) (List.take q2 es) (List.take p os) (List.take q ss)&&aEk (List.take p os) (List.take q ss) (aDb rows (aA0 rows i 9) (aA1 h 9) (aCm bLc))) (.must ((true&&d1.ns.all fun row=>decide (row.length=3))&&((true&&d1.es.all fun row=>decide (row.length=2))&&((true&&d1.os.all fun row=>decide (row.length=2))&&((true&&d1.ss.all fun row=>decide (row.length=1))&&(decide (0<1)&&true&&(decide (0<1)&&true&&true)))))&&(decide (0<1)&&true&&true&&true)&&true) (H [Pt.r,Pt.r,Pt.l,Pt.r,Pt.b] k (aH1 (rows) (aA0 rows (aA0 rows (aA0 rows i 9) (↑(6:Nat):Int)) (8:Int)) (aA1 (aA1 (aA1 h 9) (↑(6:Nat):Int)) (8:Int)) (d1.ns.length) (d1.ns) (d1.es.length) (d1.es) (d1.os.length) (d1.os) (d1.ss.length) (d1.ss) (d1.r) (d1.x) (IntKind.i64.wrap (j+(1:Int))))))) (.ask (decide (aAk rows (aA0 rows (aA0 rows i 9) (↑(6:Nat):Int)) (aA1 (aA1 h 9) (↑(6:Nat):Int)) (8:Int)=(1:Int))) (.must (aF4 (List.take n ns) (List.take q2 es) (List.take p os) (List.take q ss)) (.must ((true&&d2.ns.all fun row=>decide (row.length=3))&&((true&&d2.es.all fun row=>decide (row.length=2))&&((true&&d2.os.all fun row=>decide (row.length=2))&&((true&&d2.ss.all fun row=>decide (row.length=1))&&(decide (0<1)&&true&&(decide (0<1)&&true&&true)))))&&true&&true) (H [Pt.r,Pt.r,Pt.l,Pt.r,Pt.b] k (aH1 (rows) (aA0 rows (aA0 rows (aA0 rows i 9) (↑(6:Nat):Int)) (8:Int)) (aA1 (aA1 (aA1 h 9) (↑(6:Nat):Int)) (8:Int)) (d2.ns.length) (d2.ns) (d2.es.length) (d2.es) (d2.os.length) (d2.os) (d2.ss.length) (d2.ss) (d2.r) (d2.x) (IntKind.i64.wrap (j+(1:Int))))))) (.ask (decide (aAk rows (aA0 rows (aA0 rows i 9) (↑(6:Nat):Int)) (aA1 (aA1 h 9) (↑(6:Nat):Int)) (8:Int)=(2:Int))) (.must (aF4 (List.take n ns) (List.take q2 es) (List.take p os) (List.take q ss)) (.must ((true&&d3.ns.all fun row=>decide (row.length=3))&&((true&&d3.es.all fun row=>decide (row.length=2))&&((true&&d3.os.all fun row=>decide (row.length=2))&&((true&&d3.ss.all fun row=>decide (row.length=1))&&(decide (0<1)&&true&&(decide (0<1)&&true&&true)))))&&(decide (0<1)&&true&&true&&true)&&true) (H [Pt.r,Pt.r,Pt.l,Pt.r,Pt.b] k (aH1 (rows) (aA0 rows (aA0 rows (aA0 rows i 9) (↑(6:Nat):Int)) (8:Int)) (aA1 (aA1 (aA1 h 9) (↑(6:Nat):Int)) (8:Int)) (d3.ns.length) (d3.ns) (d3.es.length) (d3.es) (d3.os.length) (d3.os) (d3.ss.length) (d3.ss) (d3.r) (d3.x) (IntKind.i64.wrap (j+(1:Int))))))) (.ask (decide (aAk rows (aA0 rows (aA0 rows i 9) (↑(6:Nat):Int)) (aA1 (aA1 h 9) (↑(6:Nat):Int)) (8:Int)=(3:Int))) (.must (aAr rows (aA0 rows (aA0 rows (aA0 rows i 9) (↑(6:Nat):Int)) (8:Int))&&(aAt [K.str] bZh&&(decide (0<3)&&decide (3≤1048576)))) (.must (aF4 (List.take n ns) (List.take q2 es) (List.take p os) (List.take q ss)&&(aEk (List.take p os) (List.take q ss) (aDb rows (aA0 rows i 9) (aA1 h 9) (aCm bLc))&&aEk (List.take p os) (List.take q ss) (aDb rows (aA0 rows (aA0 rows (aA0 rows i 9) (↑(6:Nat):Int)) (8:Int)) (aA1 (aA1 (aA1 h 9) (↑(6:Nat):Int)) (8:Int)) (aCm bZh)))) (.must ((true&&d4.ns.all fun row=>decide (row.length=3))&&((true&&d4.es.all fun row=>decide (row.length=2))&&((true&&d4.os.all fun row=>decide (row.length=2))&&((true&&d4.ss.all fun row=>decide (row.length=1))&&(decide (0<1)&&true&&(decide (0<1)&&true&&true)))))&&(decide (0<1)&&true&&true&&true)&&true) (H [Pt.r,Pt.r,Pt.l,Pt.r,Pt.b] k (aH1 (rows) (aA0 rows (aA0 rows (aA0 rows (aA0 rows i 9) (↑(6:Nat):Int)) (8:Int)) (↑(3:Nat):Int)) (aA1 (aA1 (aA1 (aA1 h 9) (↑(6:Nat):Int)) (8:Int)) (↑(3:Nat):Int)) (d4.ns.length) (d4.ns) (d4.es.length) (d4.es) (d4.os.length) (d4.os) (d4.ss.length) (d4.ss) (d4.r) (d4.x) (IntKind.i64.wrap (j+(1:Int)))))))) (.ask (decide (aAk rows (aA0 rows (aA0 rows i 9) (↑(6:Nat):Int)) (aA1 (aA1 h 9) (↑(6:Nat):Int)) (8:Int)=(4:Int))) (.must (aF4 (List.take n ns) (List.take q2 es) (List.take p os) (List.take q ss)&&aEk (List.take p os) (List.take q ss) (aDb rows (aA0 rows i 9) (aA1 h 9) (aCm bLc))) (.must ((true&&d5.ns.all fun row=>decide (row.length=3))&&((true&&d5.es.all fun row=>decide (row.length=2))&&((true&&d5.os.all fun row=>decide (row.length=2))&&((true&&d5.ss.all fun row=>decide (row.length=1))&&(decide (0<1)&&true&&(decide (0<1)&&true&&true)))))&&(decide (0<1)&&true&&true&&true)&&true) (H [Pt.r,Pt.r,Pt.l,Pt.r,Pt.b] k (aH1 (rows) (aA0 rows (aA0 rows (aA0 rows i 9) (↑(6:Nat):Int)) (8:Int)) (aA1 (aA1 (aA1 h 9) (↑(6:Nat):Int)) (8:Int)) (d5.ns.length) (d5.ns) (d5.es.length) (d5.es) (d5.os.length) (d5.os) (d5.ss.length) (d5.ss) (d5.r) (d5.x) (IntKind.i64.wrap (j+(1:Int))))))) (.ask (decide (aAk rows (aA0 rows (aA0 rows i 9) (↑(6:Nat):Int)) (aA1 (aA1 h 9) (↑(6:Nat):Int)) (8:Int)=(5:Int))) (.must (aF4 (List.take n ns) (List.take q2 es) (List.take p os) (List.take q ss)&&aEk (List.take p os) (List.take q ss) (aDb rows (aA0 rows i 9) (aA1 h 9) (aCm bLc))) (.must ((true&&d5.ns.all fun row=>decide (row.length=3))&&((true&&d5.es.all fun row=>decide (row.length=2))&&((true&&d5.os.all fun row=>decide (row.length=2))&&((true&&d5.ss.all fun row=>decide (row.length=1))&&(decide (0<1)&&true&&(decide (0<1)&&true&&true)))))&&(decide (0<1)&&true&&true&&true)&&true) (H [Pt.r,Pt.r,Pt.l,Pt.r,Pt.b] k (aH1 (rows) (aA0 rows (aA0 rows (aA0 rows i 9) (↑(6:Nat):Int)) (8:Int)) (aA1 (aA1 (aA1 h 9) (↑(6:Nat):Int)) (8:Int)) (d5.ns.length) (d5.ns) (d5.es.length) (d5.es) (d5.os.length) (d5.os) (d5.ss.length) (d5.ss) (d5.r) (d5.x) (IntKind.i64.wrap (j+(1:Int))))))) (.must (aF4 (List.take n ns) (List.take q2 es) (List.take p os) (List.take q ss)&&aEk (List.take p os) (List.take q ss) (aDb rows (aA0 rows i 9) (aA1 h 9) (aCm bLc))) (.must ((true&&d5.ns.all fun row=>decide (row.length=3))&&((true&&d5.es.all fun row=>decide (row.length=2))&&((true&&d5.os.all fun row=>decide (row.length=2))&&((true&&d5.ss.all fun row=>decide (row.length=1))&&(decide (0<1)&&true&&(decide (0<1)&&true&&true)))))&&(decide (0<1)&&true&&true&&true)&&true) (.must (aAr rows (aA0 rows (aA0 rows (aA0 rows i 9) (↑(6:Nat):Int)) (8:Int))) (.must (aAr rows (aA0 rows (aA0 rows (aA0 rows (aA0 rows i 9) (↑(6:Nat):Int)) (8:Int)) (12:Int))) (.must (aF4 (List.take d5.ns.length d5.ns) (List.take d5.es.length d5.es) (List.take d5.os.length d5.os) (List.take d5.ss.length d5.ss)&&decide (s1.length≤16777216)) (.must ((true&&d6.ns.all fun row=>decide (row.length=3))&&((true&&d6.es.all fun row=>decide (row.length=2))&&((true&&d6.os.all fun row=>decide (row.length=2))&&((true&&d6.ss.all fun row=>decide (row.length=1))&&(decide (0<1)&&true&&(decide (0<1)&&true&&true)))))&&(decide (0<1)&&true&&true&&true)&&true) (H [Pt.r,Pt.r,Pt.l,Pt.r,Pt.b] k (aH1 (rows) (z1) (z2) (d6.ns.length) (d6.ns) (d6.es.length) (d6.es) (d6.os.length) (d6.os) (d6.ss.length) (d6.ss) (d6.r) (d6.x) (IntKind.i64.wrap (j+(1:Int))))))))))))))))))) (.must (decide (n=ns.length)&&(true||ns.all fun r=>r.all C.flat)&&(decide (q2=es.length)&&(true||es.all fun r=>r.all C.flat)&&(decide (p=os.length)&&(true||os.all fun r=>r.all C.flat)&&(decide (q=ss.length)&&(true||ss.all fun r=>r.all C.flat)&&(true&&(true||true)&&(true&&(true||true)&&true)))))&&true&&(true&&(true||(C.sl rows).flat)&&(true&&(true||true)&&(true&&(true||true)&&true))&&true)) (.ret [C.sl ns,C.sl es,C.sl os,C.sl ss,C.int .i64 r,C.int .i64 x,C.sl rows,C.int .i64 (aA0 rows i 9),C.int .i64 (aA1 h 9)])))):T (List C)).eval:=aAo (by kernel_rfl)
theorem bWw:aA9 Tryz.prog bSr:=aA8 (by simp[aD0])
theorem aUj:aB0 Tryz.prog 72 (⟨[aD2,pSl 9],[rS],true⟩) aPv:=aA6 bWw aAa Tryz.func72 (by kernel_rfl) fun cs outs hk h=>by
 unfold aPv at h
 split at h
 ·simp only[Option.some.injEq,Prod.mk.injEq,Bool.and_eq_true,decide_eq_true_eq]at h
  obtain⟨⟨h1,h2,h3,h4⟩,rfl⟩:=h
  rename_i rows i hh l
  have hr:=aFu h2
  generalize aCm l=m at hr ⊢
  subst hr
  rw[List.length_map]at h3 h4
  rw[aAd,bN1]
  simp only[List.length_map]
  obtain⟨b1,b2⟩:=aBl rows i hh m.length (by omega)
  have hlt:(aAk rows i hh m.length).toNat<m.length:=by omega
  have g:=aBa aAn m [] _ hlt
  unfold aDb
  simp only[aA2,aA4,aA3,if_true,decide_eq_true_eq,Bool.and_eq_true,h1,b1,b2,g,List.length_map,and_self]
  simp[C.is,C.toStr]
 ·cases h
theorem bX2:aA9 Tryz.prog bSw:=aA8 (by simp[])
theorem aOf:aB0 Tryz.prog 14 (sg [pI] [aBt]) aQc:=aA6 bX2 aAa Tryz.func14 (by kernel_rfl) fun cs outs hk h=>by
 unfold aQc at h
 split at h
 ·simp only[Option.some.injEq,Prod.mk.injEq,true_and]at h
  rw[←h,aAd,bNe]
  unfold aLu
  simp only[aA2,aA4,aA3,decide_eq_true_eq]
  repeat' split
  all_goals first | rfl | (simp_all;done) | (simp_all;omega)
 ·cases h
theorem aJd (o:Option (List C)):bYj o=o:=Classical.choose_spec (show ∃ x,x=o from⟨o,rfl⟩)
def NB (n:Nat) (ns:List (List C)):Prop:=∃ l:List Nd,ns=l.map eNd∧l.length≤n∧∀ y∈l,y.text.length≤6000
def EB (n:Nat) (es:List (List C)):Prop:=∃ l:List En,es=l.map eEn∧l.length≤n∧∀ y∈l,y.name.length≤1000
def TB (n:Nat) (ss:List (List C)):Prop:=∃ l:List (List UInt8),ss=l.map aAn∧l.length≤n∧∀ y∈l,y.length≤3000
def Sz (n:Nat) (ns es os ss:List (List C)):Prop:=NB n ns∧EB n es∧EB n os∧TB n ss
theorem NB.mono {n m:Nat} {ns:List (List C)} (h:NB n ns) (hm:n≤m):NB m ns:=let⟨l,a,b,c⟩:=h;⟨l,a,by omega,c⟩
theorem EB.mono {n m:Nat} {ns:List (List C)} (h:EB n ns) (hm:n≤m):EB m ns:=let⟨l,a,b,c⟩:=h;⟨l,a,by omega,c⟩
theorem TB.mono {n m:Nat} {ns:List (List C)} (h:TB n ns) (hm:n≤m):TB m ns:=let⟨l,a,b,c⟩:=h;⟨l,a,by omega,c⟩
theorem Sz.mono {n m:Nat} {ns es os ss:List (List C)} (h:Sz n ns es os ss) (hm:n≤m):Sz m ns es os ss:=⟨h.1.mono hm,h.2.1.mono hm,h.2.2.1.mono hm,h.2.2.2.mono hm⟩
theorem aHr {n:Nat} {ns es os ss:List (List C)} (h:Sz n ns es os ss) (hn:n≤100):aF4 ns es os ss=true:=by
 obtain⟨⟨a,rfl,a1,a2⟩,⟨b,rfl,b1,b2⟩,⟨c,rfl,c1,c2⟩,⟨d,rfl,d1,d2⟩⟩:=h
 refine aCe.2 ⟨aMl.2 ⟨by omega,fun y hy=>by have:=a2 y hy;omega⟩,aKq.2 ⟨by omega,fun y hy=>by have:=b2 y hy;omega⟩,aGg.2 ⟨aKq.2 ⟨by omega,fun y hy=>by have:=c2 y hy;omega⟩,bKv.2 ⟨by omega,fun y hy=>by have:=d2 y hy;omega⟩,by simp only[List.length_map];omega⟩⟩
theorem bHv {n:Nat} {ns es os ss:List (List C)} {nm:List UInt8} (h:Sz n ns es os ss) (hn:n≤100) (hm:nm.length≤1000):aEk os ss nm=true:=by
 obtain⟨⟨a,rfl,a1,a2⟩,⟨b,rfl,b1,b2⟩,⟨c,rfl,c1,c2⟩,⟨d,rfl,d1,d2⟩⟩:=h
 exact aIc.2 ⟨by simp only[List.length_map];omega,by omega⟩
theorem bYr {n:Nat} {ns es os ss:List (List C)} (h:Sz n ns es os ss) (hn:n≤100):aKr ns es=true:=by
 obtain⟨⟨a,rfl,a1,a2⟩,⟨b,rfl,b1,b2⟩,_,_⟩:=h
 unfold aKr bFp aK9
 rw[aRb,aJk,aFw]
 simp only[List.length_map,Bool.and_true,Bool.and_eq_true,decide_eq_true_eq,List.all_eq_true]
 exact⟨⟨by omega,by omega⟩,fun y hy=>by have:=a2 y hy;omega⟩
theorem aTd {n:Nat} {ns:List (List C)} (os ss:List (List C)) (h:NB n ns):NB n (aCt ns os ss):=by
 obtain⟨a,rfl,a1,a2⟩:=h
 unfold aCt
 rw[aFw]
 exact⟨_,rfl,Nat.le_trans (List.length_filter_le _ _) a1,fun y hy=>a2 y (List.mem_filter.1 hy).1⟩
theorem bT2 {n:Nat} {es:List (List C)} (nm:List UInt8) (h:EB n es):EB n (aBg es nm):=by
 obtain⟨a,rfl,a1,a2⟩:=h
 rw[aW6]
 exact⟨_,rfl,Nat.le_trans (aJv _ _) a1,fun y hy=>a2 y (aJu hy)⟩
theorem bWe {n:Nat} {es:List (List C)} {nm:List UInt8} (id:Int) (h:EB n es) (hn:nm.length≤1000):EB (n+1) (aFk es nm id):=by
 obtain⟨a,rfl,a1,a2⟩:=h
 rw[aPs]
 refine⟨_,rfl,Nat.le_trans (aPu _ _) (by omega),fun y hy=>?_⟩
 rcases aPt hy with rfl | hy
 ·exact hn
 ·exact a2 y hy
theorem bLx {n:Nat} {ss:List (List C)} {s:List UInt8} (h:TB n ss) (hs:s.length≤3000):TB (n+1) (ss1 ss s):=by
 obtain⟨a,rfl,a1,a2⟩:=h
 refine⟨a++[s],by simp[ss1],by simp;omega,fun y hy=>?_⟩
 rcases List.mem_append.1 hy with hy | hy
 ·exact a2 y hy
 ·have:y=s:=by simpa using hy
  rw[this];exact hs
theorem cAk {n:Nat} {ns:List (List C)} (x:Int) (h:NB n ns):NB (n+1) (ns++[eNd ⟨x,[],0⟩]):=by
 obtain⟨a,rfl,a1,a2⟩:=h
 refine⟨a++[⟨x,[],0⟩],by simp,by simp;omega,fun y hy=>?_⟩
 rcases List.mem_append.1 hy with hy | hy
 ·exact a2 y hy
 ·have:y=⟨x,[],0⟩:=by simpa using hy
  rw[this];simp
theorem bZ4 {n:Nat} {ns es os ss:List (List C)} {r x:Int} {nm:List UInt8} (h:Sz n ns es os ss) (hm:nm.length≤1000):Sz (n+1) (rmN ns es os ss r x nm) (rmE ns es os ss r x nm) os (rmS ns es os ss r x nm):=by
 obtain⟨h1,h2,h3,h4⟩:=h
 unfold rmN rmE rmS
 split
 ·exact⟨(aTd _ _ h1).mono (by omega),(bT2 _ h2).mono (by omega),h3.mono (by omega),bLx h4 (by simp;omega)⟩
 ·exact⟨h1.mono (by omega),h2.mono (by omega),h3.mono (by omega),h4.mono (by omega)⟩
theorem bYw {n:Nat} {ns es os ss:List (List C)} {r x:Int} (h:Sz n ns es os ss):Sz n (snN ns es os ss r x) es (snO ns es os ss r x) (snS ns es os ss r x):=by
 obtain⟨h1,h2,h3,h4⟩:=h
 unfold snN snO snS
 split
 ·exact⟨aTd _ _ h1,h2,h2,⟨[],rfl,by simp,fun y hy=>by cases hy⟩⟩
 ·exact⟨h1,h2,h3,h4⟩
theorem cA9 {n:Nat} {ns es os ss:List (List C)} {r x:Int} {nm:List UInt8} (h:Sz n ns es os ss) (hm:nm.length≤1000):Sz (n+1) (crN ns es os ss r x nm) (crE ns es os ss r x nm) os (crS ns es os ss r x nm):=by
 obtain⟨h1,h2,h3,h4⟩:=h
 have dl:=bGt x
 unfold crN crE crS
 split
 ·exact⟨aTd _ _ (cAk x h1),bWe x h2 hm,h3.mono (by omega),bLx h4 (by unfold aQf;simp;omega)⟩
 ·exact⟨h1.mono (by omega),h2.mono (by omega),h3.mono (by omega),h4.mono (by omega)⟩
theorem cAu {n:Nat} {ns es os ss:List (List C)} {r x:Int} {a b:List UInt8} (h:Sz n ns es os ss) (ha:a.length≤1000) (hb:b.length≤1000):Sz (n+1) (rnN ns es os ss r x a b) (rnE ns es os ss r x a b) os (rnS ns es os ss r x a b):=by
 obtain⟨h1,h2,h3,h4⟩:=h
 unfold rnN rnE rnS
 split
 ·exact⟨(aTd _ _ h1).mono (by omega),bWe _ (bT2 _ h2) hb,h3.mono (by omega),bLx h4 (by unfold aNt;simp;omega)⟩
 ·exact⟨h1.mono (by omega),h2.mono (by omega),h3.mono (by omega),h4.mono (by omega)⟩
theorem bLy {n k:Nat} {l:List Nd} {y:Nd} (h:NB n (l.map eNd)) (hy:y.text.length≤6000):NB n ((l.map eNd).set k (eNd y)):=by
 obtain⟨a,e,a1,a2⟩:=h
 rw[e,bBs]
 refine⟨_,rfl,by rw[List.length_set];exact a1,fun z hz=>?_⟩
 rcases List.mem_or_eq_of_mem_set hz with hz | rfl
 ·exact a2 z hz
 ·exact hy
theorem cAf {n:Nat} {ns es os ss:List (List C)} {r x:Int} {nm t:List UInt8} (h:Sz n ns es os ss) (hd:aF4 ns es os ss=true) (hr:r≤6000):Sz n (apN ns es os ss r x nm t) es os ss:=by
 obtain⟨h1,h2,h3,h4⟩:=h
 refine⟨?_,h2,h3,h4⟩
 unfold apN
 split
 ·rename_i ho
  unfold bNo at ho
  simp only[Bool.and_eq_true]at ho
  obtain⟨k1,k2⟩:=bR9 hd ho.1 ho.2
  obtain⟨_,_,f3,_,f5,_⟩:=aHe hd ho.1
  obtain⟨l,rfl,a1,a2⟩:=h1
  unfold ndK bFq
  rw[aFw]at k1 k2 f5 ⊢
  rw[List.length_map]at k2
  obtain⟨k,hk⟩:=Int.eq_ofNat_of_zero_le k1
  have hkl:k<l.length:=by omega
  have un:=bDr hkl
  rw[hk,Int.toNat_natCast]
  refine bLy ⟨l,rfl,a1,a2⟩ ?_
  show (_++_:List UInt8).length≤6000
  rw[List.length_append]
  split
  ·rw[List.length_take];omega
  ·omega
 ·exact h1
theorem bYt {n:Nat} {ns es os ss:List (List C)} {r x:Int} {nm:List UInt8} (h:Sz n ns es os ss):Sz n (syN ns es os ss r x nm) es os ss:=by
 obtain⟨h1,h2,h3,h4⟩:=h
 refine⟨?_,h2,h3,h4⟩
 unfold syN
 split
 ·obtain⟨l,rfl,a1,a2⟩:=h1
  rw[aFw]
  refine bLy ⟨l,rfl,a1,a2⟩ ?_
  show ((l.getD (ndK (l.map eNd) es nm).toNat ⟨0,[],0⟩).text).length≤6000
  by_cases hk:(ndK (l.map eNd) es nm).toNat<l.length
  ·exact a2 _ (aIu hk)
  ·rw[List.getD_eq_getElem?_getD,List.getElem?_eq_none (by omega)];simp
 ·exact h1
def bA1 (n:Nat) (rows:List (List C)) (o:Option (List C)):Prop :=
 ∃ ns es os ss r x i h,o=some [.sl ns,.sl es,.sl os,.sl ss,.int .i64 r,.int .i64 x,.sl rows,.int .i64 i,.int .i64 h]∧Sz n ns es os ss∧aAr rows i=true
theorem bA1.of {n:Nat} {rows:List (List C)} {o o':Option (List C)} (e:o=o') (h:bA1 n rows o'):bA1 n rows o:=e▸h
theorem bA1.back {n:Nat} {rows:List (List C)} {o:Option (List C)} (h:bA1 n rows o):o=some (aRd o rows):=by
 obtain⟨ns,es,os,ss,r,x,i,h,rfl,_⟩:=h
 rfl
theorem bA1.sz {n:Nat} {rows:List (List C)} {o:Option (List C)} (h:bA1 n rows o):Sz n (oR o 0) (oR o 1) (oR o 2) (oR o 3)∧aAr rows (oI o 7)=true:=by
 obtain⟨ns,es,os,ss,r,x,i,h,rfl,h1,h2⟩:=h
 exact⟨h1,h2⟩
theorem bBl {l:List (List UInt8)} (rows:List (List C)) (i h:Int) {B:Nat} (hl:∀ x∈l,x.length≤B):(aDb rows i h l).length≤B:=by
 unfold aDb
 by_cases hk:(aAk rows i h l.length).toNat<l.length
 ·exact hl _ (aIu hk)
 ·rw[List.getD_eq_getElem?_getD,List.getElem?_eq_none (by omega)];simp
theorem bUd:∀ x∈aCm bLc,x.length≤1000:=by decide
theorem bUe:∀ x∈aCm bZh,x.length≤1000:=by decide
theorem bO0 {ns es os ss:List (List C)} (h:aF4 ns es os ss=true):((true&&ns.all fun row=>decide (row.length=3))&&((true&&es.all fun row=>decide (row.length=2))&&((true&&os.all fun row=>decide (row.length=2))&&((true&&ss.all fun row=>decide (row.length=1))&&(decide (0<1)&&true&&(decide (0<1)&&true&&true))))))=true:=by
 obtain⟨p1,p2,p3,p4,_⟩:=aEw h
 rw[p1,p2,p3,p4];rfl
theorem aH5 {ns es os ss:List (List C)} (h:aF4 ns es os ss=true):((true&&ns.all fun row=>decide (row.length=3))&&((true&&es.all fun row=>decide (row.length=2))&&((true&&os.all fun row=>decide (row.length=2))&&((true&&ss.all fun row=>decide (row.length=1))&&(decide (0<1)&&true&&(decide (0<1)&&true&&true)))))&&(decide (0<1)&&true&&true&&true)&&true)=true:=by
 rw[bO0 h];rfl
theorem bXn {ns es os ss:List (List C)} (h:aF4 ns es os ss=true):((true&&ns.all fun row=>decide (row.length=3))&&((true&&es.all fun row=>decide (row.length=2))&&((true&&os.all fun row=>decide (row.length=2))&&((true&&ss.all fun row=>decide (row.length=1))&&(decide (0<1)&&true&&(decide (0<1)&&true&&true)))))&&true&&true)=true:=by
 rw[bO0 h];rfl
theorem bIn (rows:List (List C)):∀ (N k:Nat) (i h:Int) (ns es os ss:List (List C)) (r x:Int),k≤8→9<k+N→aAr rows i=true→Sz (2*k+1) ns es os ss→r≤6000 →
  bA1 20 rows (aBn aQu aAb (⟨[aD2],[aBt],true⟩) Tryz.f71 [.r,.r,.l,.r,.b] N (aH1 rows i h ns.length ns es.length es os.length os ss.length ss r x k)).eval:=by
 intro N
 induction N with
 |zero=>intro k i h ns es os ss r x h1 h2;omega
 |succ N ih =>
  intro k i h ns es os ss r x h1 h2 ho hs hr
  rw[aAz _ _ _ _ _ _ _ (by kernel_rfl),bBb]
  have b:=aBl rows i h 9 (by omega)
  have w2:IntKind.i64.wrap ((k:Int)+1)=((k+1:Nat):Int):=by rw[aAi]<;>omega
  have hd:=aHr hs (by omega)
  have o1:=aAq rows i 9 ho
  have o2:=aAq rows (aA0 rows i 9) ((6:Nat):Int) o1
  have o3:=aAq rows (aA0 rows (aA0 rows i 9) ((6:Nat):Int)) 8 o2
  have o4:=aAq rows (aA0 rows (aA0 rows (aA0 rows i 9) ((6:Nat):Int)) 8) ((3:Nat):Int) o3
  have o5:=aAq rows (aA0 rows (aA0 rows (aA0 rows i 9) ((6:Nat):Int)) 8) 12 o3
  simp only[List.take_length,w2]
  by_cases c:(k:Int)<aAk rows i h 9
  ·have pl:=bBl rows (aA0 rows i 9) (aA1 h 9) bUd
   have pl3:=bBl rows (aA0 rows (aA0 rows (aA0 rows i 9) ((6:Nat):Int)) 8) (aA1 (aA1 (aA1 h 9) ((6:Nat):Int)) 8) bUe
   generalize aDb rows (aA0 rows i 9) (aA1 h 9) (aCm bLc)=nm at pl ⊢
   generalize aDb rows (aA0 rows (aA0 rows (aA0 rows i 9) ((6:Nat):Int)) 8) (aA1 (aA1 (aA1 h 9) ((6:Nat):Int)) 8) (aCm bZh)=nm3 at pl3 ⊢
   have mr:=bHv hs (by omega) pl
   have mr3:=bHv hs (by omega) pl3
   have m6:(aAr rows (aA0 rows i 9)&&(aAt [K.str] bLc&&(decide (0<6)&&decide (6≤1048576))))=true:=by rw[o1];rfl
   by_cases c0:aAk rows (aA0 rows (aA0 rows i 9) ((6:Nat):Int)) (aA1 (aA1 h 9) ((6:Nat):Int)) 8=0
   ·have hS:=bZ4 (r:=r) (x:=x) hs pl
    exact bA1.of (aA5 ho (aAg (decide_eq_true c) (aA5 m6 (aA5 o2 (aAg (decide_eq_true c0) (aA5 (by rw[hd,mr];rfl) (aA5 (aH5 (aHr hS (by omega))) rfl))))))) (ih (k+1) _ _ _ _ _ _ _ _ (by omega) (by omega) o3 (hS.mono (by omega)) hr)
   by_cases c1:aAk rows (aA0 rows (aA0 rows i 9) ((6:Nat):Int)) (aA1 (aA1 h 9) ((6:Nat):Int)) 8=1
   ·have hS:=bYw (r:=r) (x:=x) hs
    exact bA1.of (aA5 ho (aAg (decide_eq_true c) (aA5 m6 (aA5 o2 (aAh (decide_eq_false c0) (aAg (decide_eq_true c1) (aA5 hd (aA5 (bXn (aHr hS (by omega))) rfl)))))))) (ih (k+1) _ _ _ _ _ _ _ _ (by omega) (by omega) o3 (hS.mono (by omega)) hr)
   by_cases c2:aAk rows (aA0 rows (aA0 rows i 9) ((6:Nat):Int)) (aA1 (aA1 h 9) ((6:Nat):Int)) 8=2
   ·have hS:=bYt (r:=r) (x:=x) (nm:=nm) hs
    exact bA1.of (aA5 ho (aAg (decide_eq_true c) (aA5 m6 (aA5 o2 (aAh (decide_eq_false c0) (aAh (decide_eq_false c1) (aAg (decide_eq_true c2) (aA5 hd (aA5 (aH5 (aHr hS (by omega))) rfl))))))))) (ih (k+1) _ _ _ _ _ _ _ _ (by omega) (by omega) o3 (hS.mono (by omega)) hr)
   by_cases c3:aAk rows (aA0 rows (aA0 rows i 9) ((6:Nat):Int)) (aA1 (aA1 h 9) ((6:Nat):Int)) 8=3
   ·have hS:=cAu (r:=r) (x:=x) hs pl pl3
    exact bA1.of (aA5 ho (aAg (decide_eq_true c) (aA5 m6 (aA5 o2 (aAh (decide_eq_false c0) (aAh (decide_eq_false c1) (aAh (decide_eq_false c2) (aAg (decide_eq_true c3) (aA5 (by rw[o3];rfl) (aA5 (by rw[hd,mr,mr3];rfl) (aA5 (aH5 (aHr hS (by omega))) rfl))))))))))) (ih (k+1) _ _ _ _ _ _ _ _ (by omega) (by omega) o4 (hS.mono (by omega)) hr)
   have hS:=cA9 (r:=r) (x:=x) hs pl
   have hd2:=aHr hS (by omega)
   by_cases c4:aAk rows (aA0 rows (aA0 rows i 9) ((6:Nat):Int)) (aA1 (aA1 h 9) ((6:Nat):Int)) 8=4
   ·exact bA1.of (aA5 ho (aAg (decide_eq_true c) (aA5 m6 (aA5 o2 (aAh (decide_eq_false c0) (aAh (decide_eq_false c1) (aAh (decide_eq_false c2) (aAh (decide_eq_false c3) (aAg (decide_eq_true c4) (aA5 (by rw[hd,mr];rfl) (aA5 (aH5 hd2) rfl))))))))))) (ih (k+1) _ _ _ _ _ _ _ _ (by omega) (by omega) o3 (hS.mono (by omega)) hr)
   by_cases c5:aAk rows (aA0 rows (aA0 rows i 9) ((6:Nat):Int)) (aA1 (aA1 h 9) ((6:Nat):Int)) 8=5
   ·exact bA1.of (aA5 ho (aAg (decide_eq_true c) (aA5 m6 (aA5 o2 (aAh (decide_eq_false c0) (aAh (decide_eq_false c1) (aAh (decide_eq_false c2) (aAh (decide_eq_false c3) (aAh (decide_eq_false c4) (aAg (decide_eq_true c5) (aA5 (by rw[hd,mr];rfl) (aA5 (aH5 hd2) rfl)))))))))))) (ih (k+1) _ _ _ _ _ _ _ _ (by omega) (by omega) o3 (hS.mono (by omega)) hr)
   have tl:(aDl rows (aEb (aAk rows (aA0 rows (aA0 rows (aA0 rows i 9) ((6:Nat):Int)) 8) (aA1 (aA1 (aA1 h 9) ((6:Nat):Int)) 8) 12)) (aA0 rows (aA0 rows (aA0 rows (aA0 rows i 9) ((6:Nat):Int)) 8) 12) (aA1 (aA1 (aA1 (aA1 h 9) ((6:Nat):Int)) 8) 12)).length≤16777216:=by
    rw[aGp];unfold aEb;split<;>omega
   have o6:=aP6 rows (aEb (aAk rows (aA0 rows (aA0 rows (aA0 rows i 9) ((6:Nat):Int)) 8) (aA1 (aA1 (aA1 h 9) ((6:Nat):Int)) 8) 12)) _ o5
   have hA:=cAf (nm:=nm) (t:=aDl rows (aEb (aAk rows (aA0 rows (aA0 rows (aA0 rows i 9) ((6:Nat):Int)) 8) (aA1 (aA1 (aA1 h 9) ((6:Nat):Int)) 8) 12)) (aA0 rows (aA0 rows (aA0 rows (aA0 rows i 9) ((6:Nat):Int)) 8) 12) (aA1 (aA1 (aA1 (aA1 h 9) ((6:Nat):Int)) 8) 12)) (x:=crX ns es os ss r x nm) hS hd2 hr
   exact bA1.of (aA5 ho (aAg (decide_eq_true c) (aA5 m6 (aA5 o2 (aAh (decide_eq_false c0) (aAh (decide_eq_false c1) (aAh (decide_eq_false c2) (aAh (decide_eq_false c3) (aAh (decide_eq_false c4) (aAh (decide_eq_false c5) (aA5 (by rw[hd,mr];rfl) (aA5 (aH5 hd2) (aA5 o3 (aA5 o5 (aA5 ((Bool.and_eq_true _ _).mpr ⟨hd2,decide_eq_true tl⟩) (aA5 (aH5 (aHr hA (by omega))) rfl)))))))))))))))) (ih (k+1) _ _ _ _ _ _ _ _ (by omega) (by omega) o6 (hA.mono (by omega)) hr)
  ·obtain⟨_,_,_,_,p5,p6,p7,p8⟩:=aEw hd
   refine⟨ns,es,os,ss,r,x,aA0 rows i 9,aA1 h 9,?_,hs.mono (by omega),o1⟩
   exact aA5 ho (aAh (decide_eq_false c) (aA5 (by simp only[decide_true,Bool.true_or,Bool.and_self]) rfl))
theorem bGp (rows:List (List C)) (i h:Int) (ho:aAr rows i=true):bA1 20 rows (aW8 rows i h):=by
 unfold aW8
 rw[aJd,aAd,bIm]
 have o1:=aAq rows i 5 ho
 have b:=aBl rows i h ((5:Nat):Int) (by omega)
 have hr:aLu ((aH7 [[C.int .i64 4000],[C.int .i64 4000],[C.int .i64 4000],[C.int .i64 300],[C.int .i64 100]]).getD (aAk rows i h ((5:Nat):Int)).toNat 0)≤6000:=by
  have:∀ k:Nat,k<5→aLu ((aH7 [[C.int .i64 4000],[C.int .i64 4000],[C.int .i64 4000],[C.int .i64 300],[C.int .i64 100]]).getD k 0)≤6000:=by decide
  exact this _ (by omega)
 exact bA1.of (aA5 (by rw[ho];rfl) rfl) (bIn rows 9223372036854775808 0 _ _ [] [] [] [] _ 1 (by omega) (by omega) o1 ⟨⟨[],rfl,by simp,fun y hy=>by cases hy⟩,⟨[],rfl,by simp,fun y hy=>by cases hy⟩,⟨[],rfl,by simp,fun y hy=>by cases hy⟩,⟨[],rfl,by simp,fun y hy=>by cases hy⟩⟩ hr)
theorem bTr:aA9 Tryz.prog aQu:=aA8 (by simp[aD0,aGw,aOd,aPf,aL0,aPh,aPk,aU6,bAp,aUj,aOf])
theorem bEs:aB0 Tryz.prog 71 (⟨[aD2],[aBt],true⟩) aW7:=aA6 bTr aAa Tryz.func71 (by kernel_rfl) fun cs outs hk h=>by
 unfold aW7 at h
 split at h
 ·simp only[Option.some.injEq,Prod.mk.injEq]at h
  obtain⟨h1,rfl⟩:=h
  rename_i rows i hh
  have e:=(bGp rows i hh h1).back
  rw[←e]
  exact (aJd _).symm
 ·cases h
noncomputable section
def bZg:List (List C):=[[C.str [45,97]],[C.str [43,113,58,49]],[C.str [120]],[C.str []],[C.str [43,113,58,57]],[C.str [45,122,122]],[C.str [43,58,49]],[C.str [43,113,58]]]
def bKh:Env:=mkE [] [(46,(⟨[aD2,pI],[rI],true⟩),aE1),(42,(⟨[aD2,pSl 3],[rI],true⟩),aMj),(72,(⟨[aD2,pSl 9],[rS],true⟩),aPv),(71,(⟨[aD2],[aBt],true⟩),aW7)]
def bLu (rows:List (List C)) (i h:Int):Option (List C):=bYj (bA7 bKh aAb ⟨[aD2],[aBt],true⟩ Tryz.f57 [.sl rows,.int .i64 i,.int .i64 h]).eval
def bD8:aCh:=fun cs=>match cs with
 |[.sl rows,.int .i64 i,.int .i64 h]=>some (aAr rows i,aRd (bLu rows i h) rows)
 |_=>none
end
end Go.Proofs.YtajoeindkdhofaaGreatDoor.V
