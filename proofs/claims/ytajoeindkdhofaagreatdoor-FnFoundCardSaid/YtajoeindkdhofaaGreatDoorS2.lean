/- Functions of the given program and of its reference: what each returns, as an equation over data; by the interpreter. -/
import Derived.Test.YtajoeindkdhofaaGreatDoorS
import Derived.Test.YtajoeindkdhofaaGreatDoorProg
import Derived.KernelRfl
set_option linter.unusedVariables false
set_option linter.unusedSimpArgs false
set_option linter.unusedSectionVars false
set_option linter.deprecated false
namespace Go.Proofs.YtajoeindkdhofaaGreatDoor.V
set_option maxRecDepth 100000
theorem bPa (H:List Pt→Nat→St→T (List C)):(aAm bW8 aAb (sg [aSt] [rI]) Tryz.f182 H [C.int .u64 16]).eval=((.ret [C.int .i64 (IntKind.i64.wrap 4)]):T (List C)).eval:=aAo (by kernel_rfl)
theorem bWm (H:List Pt→Nat→St→T (List C)):(aAm cBf aAb (sg [aSt] [rI]) Tryz.f178 H [C.int .u64 16]).eval=((.ret [C.int .i64 ((4:Int))]):T (List C)).eval:=aAo (by kernel_rfl)
theorem bO9 (H:List Pt→Nat→St→T (List C)):(aAm bT1 aAb (sg [pI] [rB]) Tryz.f177 H [C.int .i64 16]).eval=((.ret [C.bool true]):T (List C)).eval:=aAo (by kernel_rfl)
theorem bGi (H:List Pt→Nat→St→T (List C)) (u:Int):(aAm aK7 aAb (sg [pSl 5,aSt,pI,pB,pB] [rSl 5,rS]) Tryz.f164 H [C.sl [],C.int .u64 u,C.int .i64 16,C.bool false,C.bool false]).eval=((H [Pt.r,Pt.r,Pt.r,Pt.r,Pt.r,Pt.l,Pt.r,Pt.l,Pt.r,Pt.r,Pt.r,Pt.l,Pt.b] 9223372036854775808 (aK5 (u) ((65:Int)) (IntKind.u64.wrap ((4:Int))) (IntKind.u64.wrap ((16:Int))) (IntKind.u64.wrap (IntKind.u64.wrap ((16:Int))-(1:Int))) ([[C.int .u8 0],[C.int .u8 0],[C.int .u8 0],[C.int .u8 0],[C.int .u8 0],[C.int .u8 0],[C.int .u8 0],[C.int .u8 0],[C.int .u8 0],[C.int .u8 0],[C.int .u8 0],[C.int .u8 0],[C.int .u8 0],[C.int .u8 0],[C.int .u8 0],[C.int .u8 0],[C.int .u8 0],[C.int .u8 0],[C.int .u8 0],[C.int .u8 0],[C.int .u8 0],[C.int .u8 0],[C.int .u8 0],[C.int .u8 0],[C.int .u8 0],[C.int .u8 0],[C.int .u8 0],[C.int .u8 0],[C.int .u8 0],[C.int .u8 0],[C.int .u8 0],[C.int .u8 0],[C.int .u8 0],[C.int .u8 0],[C.int .u8 0],[C.int .u8 0],[C.int .u8 0],[C.int .u8 0],[C.int .u8 0],[C.int .u8 0],[C.int .u8 0],[C.int .u8 0],[C.int .u8 0],[C.int .u8 0],[C.int .u8 0],[C.int .u8 0],[C.int .u8 0],[C.int .u8 0],[C.int .u8 0],[C.int .u8 0],[C.int .u8 0],[C.int .u8 0],[C.int .u8 0],[C.int .u8 0],[C.int .u8 0],[C.int .u8 0],[C.int .u8 0],[C.int .u8 0],[C.int .u8 0],[C.int .u8 0],[C.int .u8 0],[C.int .u8 0],[C.int .u8 0],[C.int .u8 0],[C.int .u8 0]]))):T (List C)).eval:=aAo (by kernel_rfl)
theorem aO1 (H:List Pt→Nat→St→T (List C)) (u:Int) (i:Int) (s:Int) (b:Int) (m:Int) (r:List (List C)) (k:Nat):aBk aK7 aAb (sg [pSl 5,aSt,pI,pB,pB] [rSl 5,rS]) Tryz.f164 H [Pt.r,Pt.r,Pt.r,Pt.r,Pt.r,Pt.l,Pt.r,Pt.l,Pt.r,Pt.r,Pt.r,Pt.l,Pt.b] k (aK5 u i s b m r)=(.ask (decide (b≤u)) (.must (decide ((0:Int)≤aH8 .u64 u m)&&decide (aH8 .u64 u m<(↑(36:Nat):Int))) (.must (decide ((0:Int)≤IntKind.i64.wrap (i-(1:Int)))&&decide (IntKind.i64.wrap (i-(1:Int))<(↑(65:Nat):Int))) (.must (decide ((IntKind.i64.wrap (i-(1:Int))).toNat<r.length)) (.must (decide ((0:Int)≤s)) (H [Pt.r,Pt.r,Pt.r,Pt.r,Pt.r,Pt.l,Pt.r,Pt.l,Pt.r,Pt.r,Pt.r,Pt.l,Pt.b] k (aK5 (aJf .u64 u s) (IntKind.i64.wrap (i-(1:Int))) (s) (b) (m) (r.set (IntKind.i64.wrap (i-(1:Int))).toNat (C.int .u8 (↑([(48:UInt8),49,50,51,52,53,54,55,56,57,97,98,99,100,101,102,103,104,105,106,107,108,109,110,111,112,113,114,115,116,117,118,119,120,121,122].getD (aH8 .u64 u m).toNat (0:UInt8)).toNat:Int)::List.drop (0+1) (r.getD (IntKind.i64.wrap (i-(1:Int))).toNat []))))))))) (.must (decide ((0:Int)≤u)&&decide (u<(↑(36:Nat):Int))) (.must (decide ((0:Int)≤IntKind.i64.wrap (i-(1:Int)))&&decide (IntKind.i64.wrap (i-(1:Int))<(↑(65:Nat):Int))) (.must (decide ((IntKind.i64.wrap (i-(1:Int))).toNat<r.length)) (.must (decide (65=(r.set (IntKind.i64.wrap (i-(1:Int))).toNat (C.int .u8 (↑([(48:UInt8),49,50,51,52,53,54,55,56,57,97,98,99,100,101,102,103,104,105,106,107,108,109,110,111,112,113,114,115,116,117,118,119,120,121,122].getD u.toNat (0:UInt8)).toNat:Int)::List.drop (0+1) (r.getD (IntKind.i64.wrap (i-(1:Int))).toNat []))).length)) (.must (decide ((0:Int)≤IntKind.i64.wrap (i-(1:Int)))&&decide (IntKind.i64.wrap (i-(1:Int))≤(↑(65:Nat):Int))) (.must ((List.take (65-(IntKind.i64.wrap (i-(1:Int))).toNat) (List.drop (IntKind.i64.wrap (i-(1:Int))).toNat (r.set (IntKind.i64.wrap (i-(1:Int))).toNat (C.int .u8 (↑([(48:UInt8),49,50,51,52,53,54,55,56,57,97,98,99,100,101,102,103,104,105,106,107,108,109,110,111,112,113,114,115,116,117,118,119,120,121,122].getD u.toNat (0:UInt8)).toNat:Int)::List.drop (0+1) (r.getD (IntKind.i64.wrap (i-(1:Int))).toNat []))))).all aG4) (.must true (.ret [C.sl [],C.str (aBv (List.take (65-(IntKind.i64.wrap (i-(1:Int))).toNat) (List.drop (IntKind.i64.wrap (i-(1:Int))).toNat (r.set (IntKind.i64.wrap (i-(1:Int))).toNat (C.int .u8 (↑([(48:UInt8),49,50,51,52,53,54,55,56,57,97,98,99,100,101,102,103,104,105,106,107,108,109,110,111,112,113,114,115,116,117,118,119,120,121,122].getD u.toNat (0:UInt8)).toNat:Int)::List.drop (0+1) (r.getD (IntKind.i64.wrap (i-(1:Int))).toNat []))))))]))))))))):=by kernel_rfl
theorem bK5 (H:List Pt→Nat→St→T (List C)) (n:Int):(aAm bMb aAb (sg [pI,pI] [rS]) Tryz.f147 H [C.int .i64 n,C.int .i64 16]).eval=((.ask (decide (n<(0:Int))) .bad (.must (decide ((16:Int)=(16:Int))&&(decide ((0:Int)≤IntKind.u64.wrap n)&&decide (IntKind.u64.wrap n≤(1000000000:Int)))) (.ret [C.str (aH9 (IntKind.u64.wrap n).toNat)]))):T (List C)).eval:=aAo (by kernel_rfl)
theorem bGh (H:List Pt→Nat→St→T (List C)) (n:Int):(aAm bHm aAb (sg [pI,pI] [rS]) Tryz.f115 H [C.int .i64 n,C.int .i64 16]).eval=((.must (decide ((16:Int)=(16:Int))&&(decide ((0:Int)≤n)&&decide (n≤(1000000000:Int)))) (.ret [C.str (aH9 n.toNat)])):T (List C)).eval:=aAo (by kernel_rfl)
theorem bNy (H:List Pt→Nat→St→T (List C)) (n:Int):(aAm bSz aAb (sg [aSt,aSt] [bOu,bOu]) Tryz.f166 H [C.int .u64 1,C.int .u64 n]).eval=((.ret [C.int .u64 (IntKind.u64.wrap (IntKind.u64.wrap (IntKind.u64.wrap (aJf .u64 ((1:Int)) (32:Int)*aJf .u64 n 32)+aJf .u64 (IntKind.u64.wrap (IntKind.u64.wrap (aJf .u64 ((1:Int)) (32:Int)*aH8 .u64 n 4294967295)+aJf .u64 (IntKind.u64.wrap (aH8 .u64 ((1:Int)) (4294967295:Int)*aH8 .u64 n 4294967295)) (32:Int))) (32:Int))+aJf .u64 (IntKind.u64.wrap (aH8 .u64 (IntKind.u64.wrap (IntKind.u64.wrap (aJf .u64 ((1:Int)) (32:Int)*aH8 .u64 n 4294967295)+aJf .u64 (IntKind.u64.wrap (aH8 .u64 ((1:Int)) (4294967295:Int)*aH8 .u64 n 4294967295)) (32:Int))) (4294967295:Int)+IntKind.u64.wrap (aH8 .u64 ((1:Int)) (4294967295:Int)*aJf .u64 n 32))) (32:Int))),C.int .u64 (IntKind.u64.wrap ((1:Int)*n))]):T (List C)).eval:=aAo (by kernel_rfl)
theorem bRb (H:List Pt→Nat→St→T (List C)) (n:Int):(aAm bWb aAb (sg [aSt,aSt] [bOu,bOu]) Tryz.f148 H [C.int .u64 1,C.int .u64 n]).eval=((.must (decide ((1:Int)=(1:Int))&&(decide ((0:Int)≤n)&&decide (n≤(8:Int)))) (.ret [C.int .u64 ((0:Int)),C.int .u64 n])):T (List C)).eval:=aAo (by kernel_rfl)
theorem bQk (H:List Pt→Nat→St→T (List C)) (n:Int):(aAm bW9 aAb (sg [pS,pI] [rS]) Tryz.f116 H [C.str [(48:UInt8)],C.int .i64 n]).eval=((.ask (decide (n=(0:Int))) (.ret [C.str []]) (.ask (decide (n=(1:Int))) (.ret [C.str [(48:UInt8)]]) (.ask (decide (n<(0:Int))) .bad (.must (decide (IntKind.u64.wrap (↑[(48:UInt8)].length:Int)=(1:Int))&&(decide ((0:Int)≤IntKind.u64.wrap n)&&decide (IntKind.u64.wrap n≤(8:Int)))) (.ask (decide ((9223372036854775807:Int)<IntKind.u64.wrap n)) .bad (.ask (decide (IntKind.i64.wrap (IntKind.u64.wrap n)≤(128:Int))) (.ask (decide (IntKind.i64.wrap (IntKind.u64.wrap n)≤(128:Int))) (.ask (decide (IntKind.i64.wrap (IntKind.u64.wrap n)≤(64:Int))) (.must (decide ((0:Int)≤IntKind.i64.wrap (IntKind.u64.wrap n))&&decide (IntKind.i64.wrap (IntKind.u64.wrap n)≤(↑(64:Nat):Int))) (.ret [C.str (List.drop 0 (List.take (IntKind.i64.wrap (IntKind.u64.wrap n)).toNat [(48:UInt8),48,48,48,48,48,48,48,48,48,48,48,48,48,48,48,48,48,48,48,48,48,48,48,48,48,48,48,48,48,48,48,48,48,48,48,48,48,48,48,48,48,48,48,48,48,48,48,48,48,48,48,48,48,48,48,48,48,48,48,48,48,48,48]))])) (.ask (decide (IntKind.i64.wrap (IntKind.u64.wrap n)≤(128:Int))) (.ask (decide (IntKind.i64.wrap (IntKind.u64.wrap n)≤(64:Int))) (.ask (decide ((8192:Int)<IntKind.i64.wrap (IntKind.u64.wrap n))) .bad .bad) (.ask (decide ((8192:Int)<IntKind.i64.wrap (IntKind.u64.wrap n))) .bad .bad)) (.ask (decide (IntKind.i64.wrap (IntKind.u64.wrap n)≤(64:Int))) (.ask (decide ((8192:Int)<IntKind.i64.wrap (IntKind.u64.wrap n))) .bad .bad) (.ask (decide ((8192:Int)<IntKind.i64.wrap (IntKind.u64.wrap n))) .bad .bad)))) (.ask (decide (IntKind.i64.wrap (IntKind.u64.wrap n)≤(64:Int))) (.must (decide ((0:Int)≤IntKind.i64.wrap (IntKind.u64.wrap n))&&decide (IntKind.i64.wrap (IntKind.u64.wrap n)≤(↑(64:Nat):Int))) (.ret [C.str (List.drop 0 (List.take (IntKind.i64.wrap (IntKind.u64.wrap n)).toNat [(48:UInt8),48,48,48,48,48,48,48,48,48,48,48,48,48,48,48,48,48,48,48,48,48,48,48,48,48,48,48,48,48,48,48,48,48,48,48,48,48,48,48,48,48,48,48,48,48,48,48,48,48,48,48,48,48,48,48,48,48,48,48,48,48,48,48]))])) (.ask (decide (IntKind.i64.wrap (IntKind.u64.wrap n)≤(128:Int))) (.ask (decide (IntKind.i64.wrap (IntKind.u64.wrap n)≤(64:Int))) (.ask (decide ((8192:Int)<IntKind.i64.wrap (IntKind.u64.wrap n))) .bad .bad) (.ask (decide ((8192:Int)<IntKind.i64.wrap (IntKind.u64.wrap n))) .bad .bad)) (.ask (decide (IntKind.i64.wrap (IntKind.u64.wrap n)≤(64:Int))) (.ask (decide ((8192:Int)<IntKind.i64.wrap (IntKind.u64.wrap n))) .bad .bad) (.ask (decide ((8192:Int)<IntKind.i64.wrap (IntKind.u64.wrap n))) .bad .bad))))) (.ask (decide (IntKind.i64.wrap (IntKind.u64.wrap n)≤(128:Int))) (.ask (decide (IntKind.i64.wrap (IntKind.u64.wrap n)≤(64:Int))) (.must (decide ((0:Int)≤IntKind.i64.wrap (IntKind.u64.wrap n))&&decide (IntKind.i64.wrap (IntKind.u64.wrap n)≤(↑(64:Nat):Int))) (.ret [C.str (List.drop 0 (List.take (IntKind.i64.wrap (IntKind.u64.wrap n)).toNat [(48:UInt8),48,48,48,48,48,48,48,48,48,48,48,48,48,48,48,48,48,48,48,48,48,48,48,48,48,48,48,48,48,48,48,48,48,48,48,48,48,48,48,48,48,48,48,48,48,48,48,48,48,48,48,48,48,48,48,48,48,48,48,48,48,48,48]))])) (.ask (decide (IntKind.i64.wrap (IntKind.u64.wrap n)≤(128:Int))) (.ask (decide (IntKind.i64.wrap (IntKind.u64.wrap n)≤(64:Int))) (.ask (decide ((8192:Int)<IntKind.i64.wrap (IntKind.u64.wrap n))) .bad .bad) (.ask (decide ((8192:Int)<IntKind.i64.wrap (IntKind.u64.wrap n))) .bad .bad)) (.ask (decide (IntKind.i64.wrap (IntKind.u64.wrap n)≤(64:Int))) (.ask (decide ((8192:Int)<IntKind.i64.wrap (IntKind.u64.wrap n))) .bad .bad) (.ask (decide ((8192:Int)<IntKind.i64.wrap (IntKind.u64.wrap n))) .bad .bad)))) (.ask (decide (IntKind.i64.wrap (IntKind.u64.wrap n)≤(64:Int))) (.must (decide ((0:Int)≤IntKind.i64.wrap (IntKind.u64.wrap n))&&decide (IntKind.i64.wrap (IntKind.u64.wrap n)≤(↑(64:Nat):Int))) (.ret [C.str (List.drop 0 (List.take (IntKind.i64.wrap (IntKind.u64.wrap n)).toNat [(48:UInt8),48,48,48,48,48,48,48,48,48,48,48,48,48,48,48,48,48,48,48,48,48,48,48,48,48,48,48,48,48,48,48,48,48,48,48,48,48,48,48,48,48,48,48,48,48,48,48,48,48,48,48,48,48,48,48,48,48,48,48,48,48,48,48]))])) (.ask (decide (IntKind.i64.wrap (IntKind.u64.wrap n)≤(128:Int))) (.ask (decide (IntKind.i64.wrap (IntKind.u64.wrap n)≤(64:Int))) (.ask (decide ((8192:Int)<IntKind.i64.wrap (IntKind.u64.wrap n))) .bad .bad) (.ask (decide ((8192:Int)<IntKind.i64.wrap (IntKind.u64.wrap n))) .bad .bad)) (.ask (decide (IntKind.i64.wrap (IntKind.u64.wrap n)≤(64:Int))) (.ask (decide ((8192:Int)<IntKind.i64.wrap (IntKind.u64.wrap n))) .bad .bad) (.ask (decide ((8192:Int)<IntKind.i64.wrap (IntKind.u64.wrap n))) .bad .bad))))))))))):T (List C)).eval:=aAo (by kernel_rfl)
theorem aR3 (H:List Pt→Nat→St→T (List C)) (n:Int):(aAm aH2 aAb (sg [pI] [rS]) Tryz.f53 H [C.int .i64 n]).eval=((.ask (inB n 0 1000000000) (H [Pt.r,Pt.r,Pt.r,Pt.l,Pt.r,Pt.b] 9223372036854775808 (aH0 (n) (0) ([]) ((7:Int)))) (.ret [C.str []])):T (List C)).eval:=aAo (by kernel_rfl)
theorem aRl (H:List Pt→Nat→St→T (List C)) (n:Int):(aAm aO3 aAb (sg [pI] [rS]) Tryz.f80 H [C.int .i64 n]).eval=((.ask (inB n 0 1000000000) (.must (decide ((16:Int)=(16:Int))&&(decide ((0:Int)≤n)&&decide (n≤(1000000000:Int)))) (.must (decide ([(48:UInt8)]=[(48:UInt8)])&&(decide ((0:Int)≤IntKind.i64.wrap ((8:Int)-(↑(aH9 n.toNat).length:Int)))&&decide (IntKind.i64.wrap ((8:Int)-(↑(aH9 n.toNat).length:Int))≤(8:Int)))) (.must (decide (1+(List.replicate (IntKind.i64.wrap ((8:Int)-(↑(aH9 n.toNat).length:Int))).toNat (48:UInt8)).length≤9223372036854775807)) (.must (decide (([(115:UInt8)]++List.replicate (IntKind.i64.wrap ((8:Int)-(↑(aH9 n.toNat).length:Int))).toNat (48:UInt8)).length+(aH9 n.toNat).length≤9223372036854775807)) (.must (decide (([(115:UInt8)]++List.replicate (IntKind.i64.wrap ((8:Int)-(↑(aH9 n.toNat).length:Int))).toNat (48:UInt8)++aH9 n.toNat).length+4≤9223372036854775807)) (.ret [C.str ([(115:UInt8)]++List.replicate (IntKind.i64.wrap ((8:Int)-(↑(aH9 n.toNat).length:Int))).toNat (48:UInt8)++aH9 n.toNat++[(46:UInt8),115,101,103])])))))) (.ret [C.str []])):T (List C)).eval:=aAo (by kernel_rfl)
theorem aI8 (H:List Pt→Nat→St→T (List C)) (n:Int) (q:Nat) (r:List (List C)) (i:Int) (k:Nat):(aBk aH2 aAb (sg [pI] [rS]) Tryz.f53 H [Pt.r,Pt.r,Pt.r,Pt.l,Pt.r,Pt.b] k (aH0 n q r i)).eval=((.ask (decide ((0:Int)≤i)) (.must (decide ((0:Int)≤IntKind.u64.wrap (IntKind.i64.wrap ((4:Int)*i)))) (.must (decide ((0:Int)≤aH8 .i64 (aJf .i64 n (IntKind.u64.wrap (IntKind.i64.wrap ((4:Int)*i)))) (15:Int))&&decide (aH8 .i64 (aJf .i64 n (IntKind.u64.wrap (IntKind.i64.wrap ((4:Int)*i)))) (15:Int)<(↑(16:Nat):Int))) (.must (decide (q=r.length)&&aBe (r.length+1) 1&&(decide (1=1)&&true)) (H [Pt.r,Pt.r,Pt.r,Pt.l,Pt.r,Pt.b] k (aH0 (n) (r.length+1) (r.append [[C.int .u8 (↑([(48:UInt8),49,50,51,52,53,54,55,56,57,97,98,99,100,101,102].getD (aH8 .i64 (aJf .i64 n (IntKind.u64.wrap (IntKind.i64.wrap ((4:Int)*i)))) (15:Int)).toNat (0:UInt8)).toNat:Int)]]) (IntKind.i64.wrap (i-(1:Int)))))))) (.must ((List.take q r).all aG4) (.must (decide (1+(aBv (List.take q r)).length≤9223372036854775807)) (.must (decide (([(115:UInt8)]++aBv (List.take q r)).length+4≤9223372036854775807)) (.ret [C.str ([(115:UInt8)]++aBv (List.take q r)++[(46:UInt8),115,101,103])]))))):T (List C)).eval:=aAo (by kernel_rfl)
theorem bZt (n:Nat) (hn:n<18446744073709551616):aH8 .u64 (n:Int) 15=((n % 16:Nat):Int):=by
 have e:(BitVec.ofInt 64 (n:Int)&&&BitVec.ofInt 64 15).toNat=n % 16:=by
  rw[BitVec.toNat_and]
  have h1:(BitVec.ofInt 64 (n:Int)).toNat=n:=by simp;omega
  have h2:(BitVec.ofInt 64 (15:Int)).toNat=15:=by decide
  rw[h1,h2]
  exact Nat.and_two_pow_sub_one_eq_mod n 4
 show IntKind.u64.wrap ((BitVec.ofInt 64 (n:Int)&&&BitVec.ofInt 64 15).toNat:Int)=_
 rw[e,bA3]<;>omega
theorem cAz (n:Nat):aJf .u64 (n:Int) 4=((n / 16:Nat):Int):=by
 unfold aJf
 simp[IntKind.bits]
 rw[Int.fdiv_eq_ediv_of_nonneg _ (by decide)]
theorem bGn (k:Nat) (hk:k<16):((([48,49,50,51,52,53,54,55,56,57,97,98,99,100,101,102,103,104,105,106,107,108,109,110,111,112,113,114,115,116,117,118,119,120,121,122]:List UInt8).getD k 0).toNat:Int)=((aM3 k).toNat:Int):=by
 revert hk;revert k;decide
theorem bK6 (n:Nat):aM3 (n % 16)=aM3 n:=by unfold aM3;rw[Nat.mod_mod]
theorem bF6 (l:List UInt8) (j:Nat) (hj:j<l.length) (v:UInt8):(aAc l).set j (C.int .u8 ((v.toNat:Nat):Int)::List.drop (0+1) ((aAc l).getD j []))=aAc (l.set j v):=by
 rw[bL5 l j hj]
 simp[aAc,List.map_set]
theorem bKz (l:List UInt8) (j:Nat) (hj:j<l.length) (v:UInt8):(l.set j v).drop j=v::l.drop (j+1):=by
 rw[List.drop_eq_getElem_cons (by simpa using hj)]
 simp[List.drop_set]
theorem bYn:aA9 Tryz.prog bW8:=aA8 (by simp[])
theorem bMf:aB0 Tryz.prog 182 (sg [aSt] [rI]) aMf:=aA6 bYn aAa Tryz.func182 (by kernel_rfl) fun cs outs hk h=>by
 unfold aMf at h
 split at h
 ·simp only[Option.some.injEq,Prod.mk.injEq,decide_eq_true_eq]at h
  obtain⟨rfl,rfl⟩:=h
  rw[aAd,bPa]
  rfl
 ·cases h
theorem cBg:aA9 Tryz.prog cBf:=aA8 (by simp[bMf])
theorem bTe:aB0 Tryz.prog 178 (sg [aSt] [rI]) aMf:=aA6 cBg aAa Tryz.func178 (by kernel_rfl) fun cs outs hk h=>by
 unfold aMf at h
 split at h
 ·simp only[Option.some.injEq,Prod.mk.injEq,decide_eq_true_eq]at h
  obtain⟨rfl,rfl⟩:=h
  rw[aAd,bWm]
  rfl
 ·cases h
theorem bXr:aA9 Tryz.prog bT1:=aA8 (by simp[])
theorem bJl:aB0 Tryz.prog 177 (sg [pI] [rB]) aV6:=aA6 bXr aAa Tryz.func177 (by kernel_rfl) fun cs outs hk h=>by
 unfold aV6 at h
 split at h
 ·simp only[Option.some.injEq,Prod.mk.injEq,decide_eq_true_eq]at h
  obtain⟨rfl,rfl⟩:=h
  rw[aAd,bO9]
  rfl
 ·cases h
theorem aSb (n f i u:Nat) (l:List UInt8) (h1:u<16) (h2:1≤i) (h3:i≤65) (h4:l.length=65) (h6:0<n) (h7:0<f) :
  (aBn aK7 aAb (sg [pSl 5,aSt,pI,pB,pB] [rSl 5,rS]) Tryz.f164 [.r,.r,.r,.r,.r,.l,.r,.l,.r,.r,.r,.l,.b] n (aK5 u i 4 16 15 (aAc l))).eval=some [.sl [],.str (bCm f u (l.drop i))]:=by
  obtain⟨n,rfl⟩:∃ g,n=g+1:=⟨n-1,by omega⟩
  obtain⟨f,rfl⟩:∃ g,f=g+1:=⟨f-1,by omega⟩
  rw[aAz _ _ _ _ _ _ _ (by kernel_rfl),aO1]
  obtain⟨j,rfl⟩:∃ j,i=j+1:=⟨i-1,by omega⟩
  have w:IntKind.i64.wrap (((j+1:Nat):Int)-1)=(j:Int):=by rw[aAi]<;>omega
  have c1:¬(16:Int)≤(u:Int):=by omega
  have hj:j<l.length:=by omega
  have fs:=bGn u h1
  have rs:=bF6 l j hj (aM3 u)
  rw[←fs]at rs
  have ln:(l.set j (aM3 u)).length=65:=by simpa using h4
  have hx:¬16≤u:=by omega
  simp only[bCm,if_neg hx]
  have tk:List.take (65-j) (aAc (List.drop j (l.set j (aM3 u))))=aAc (aM3 u::l.drop (j+1)):=by
   rw[bKz l j hj,List.take_of_length_le]
   simp[aBh];omega
  have b1:(u:Int)<(↑(36:Nat):Int):=by omega
  have b2:(j:Int)<(↑(65:Nat):Int):=by omega
  have b3:(j:Int)≤(↑(65:Nat):Int):=by omega
  have z1:(0:Int)≤(u:Int):=by omega
  have z2:(0:Int)≤(j:Int):=by omega
  simp only[aA2,aA4,aA3,w,Int.toNat_natCast,rs,decide_eq_true_eq,c1,if_false,b1,b2,b3,z1,z2,decide_true,Bool.and_self,if_true,aBh,ln,hj,bQb,tk,aE3,aGu]
theorem bGj:∀ (k n f i u:Nat) (l:List UInt8),u<16^(k+1)→k+1≤i→i≤65→l.length=65→k<15→k<n→k<f →
  (aBn aK7 aAb (sg [pSl 5,aSt,pI,pB,pB] [rSl 5,rS]) Tryz.f164 [.r,.r,.r,.r,.r,.l,.r,.l,.r,.r,.r,.l,.b] n (aK5 u i 4 16 15 (aAc l))).eval=some [.sl [],.str (bCm f u (l.drop i))]:=by
 intro k
 induction k with
 |zero =>
  intro n f i u l h1 h2 h3 h4 h5 h6 h7
  exact aSb n f i u l (by simpa using h1) h2 h3 h4 h6 h7
 |succ k ih =>
  intro n f i u l h1 h2 h3 h4 h5 h6 h7
  by_cases hu:u<16
  ·exact aSb n f i u l hu (by omega) h3 h4 (by omega) (by omega)
  ·obtain⟨n,rfl⟩:∃ g,n=g+1:=⟨n-1,by omega⟩
   obtain⟨f,rfl⟩:∃ g,f=g+1:=⟨f-1,by omega⟩
   have h8:u<18446744073709551616:=by
    have:16^(k+1+1)≤16^16:=Nat.pow_le_pow_right (by omega) (by omega)
    have e:(16:Nat)^16=18446744073709551616:=by decide
    omega
   obtain⟨j,rfl⟩:∃ j,i=j+1:=⟨i-1,by omega⟩
   have hj:j<l.length:=by omega
   have e:=ih n f j (u / 16) (l.set j (aM3 (u % 16))) (by rw[Nat.div_lt_iff_lt_mul (by omega)];rw[Nat.pow_succ]at h1;exact h1) (by omega) (by omega) (by simpa using h4) (by omega) (by omega) (by omega)
   rw[aAz _ _ _ _ _ _ _ (by kernel_rfl),aO1]
   have w:IntKind.i64.wrap (((j+1:Nat):Int)-1)=(j:Int):=by rw[aAi]<;>omega
   have c1:(16:Int)≤(u:Int):=by omega
   have fs:=bGn (u % 16) (by omega)
   have rs:=bF6 l j hj (aM3 (u % 16))
   rw[←fs,bK6]at rs
   have hx:16≤u:=by omega
   simp only[bCm,if_pos hx]
   rw[bKz l j hj,bK6]at e
   have b1:((u % 16:Nat):Int)<(↑(36:Nat):Int):=by omega
   have b2:(j:Int)<(↑(65:Nat):Int):=by omega
   have z1:(0:Int)≤((u % 16:Nat):Int):=by omega
   have z2:(0:Int)≤(j:Int):=by omega
   have z4:(0:Int)≤4:=by omega
   simp only[aA2,aA4,w,bZt u h8,cAz,Int.toNat_natCast,rs,decide_eq_true_eq,c1,if_true,b1,b2,z1,z2,z4,decide_true,Bool.and_self,aBh,hj]
   exact e
theorem bRz:aA9 Tryz.prog aK7:=aA8 (by simp[bTe,bJl])
theorem bCs:aB0 Tryz.prog 164 (sg [pSl 5,aSt,pI,pB,pB] [rSl 5,rS]) aRv:=aA6 bRz aAa Tryz.func164 (by kernel_rfl) fun cs outs hk h=>by
 unfold aRv at h
 split at h
 ·simp only[Option.some.injEq,Prod.mk.injEq,Bool.and_eq_true,decide_eq_true_eq]at h
  obtain⟨⟨rfl,h1,h2⟩,rfl⟩:=h
  rename_i u
  obtain⟨n,rfl⟩:=Int.eq_ofNat_of_zero_le h1
  rw[aAd,bGi]
  have lp:=bGj 7 9223372036854775808 16 65 n (List.replicate 65 0) (by omega) (by omega) (by omega) (by simp) (by omega) (by omega) (by omega)
  have e1:List.drop 65 (List.replicate 65 (0:UInt8))=[]:=rfl
  rw[e1]at lp
  have d1:decide (Int.ofNat 16<(2:Int))=false:=by decide
  have d2:decide ((36:Int)<Int.ofNat 16)=false:=by decide
  simp only[aA2,aA4,d1,d2,if_true,Bool.false_eq_true,if_false]
  exact Eq.trans (congrArg (fun s=>(aBn aK7 aAb (sg [pSl 5,aSt,pI,pB,pB] [rSl 5,rS]) Tryz.f164 [.r,.r,.r,.r,.r,.l,.r,.l,.r,.r,.r,.l,.b] 9223372036854775808 s).eval) (rfl:_=aK5 n ((65:Nat):Int) 4 16 15 (aAc (List.replicate 65 0)))) lp
 ·cases h
theorem bA2 {n:Int} (h1:0≤n) (h2:n≤1000000000):IntKind.u64.wrap n=n:=by rw[bA3]<;>omega
theorem bUy:aA9 Tryz.prog bMb:=aA8 (by simp[bCs])
theorem bGg:aB0 Tryz.prog 147 (sg [pI,pI] [rS]) aJq:=aA6 bUy aAa Tryz.func147 (by kernel_rfl) fun cs outs hk h=>by
 unfold aJq at h
 split at h
 ·simp only[Option.some.injEq,Prod.mk.injEq,Bool.and_eq_true,decide_eq_true_eq]at h
  obtain⟨⟨rfl,h1,h2⟩,rfl⟩:=h
  rename_i n
  rw[aAd,bK5,bA2 h1 h2]
  have c:¬n<0:=by omega
  have d:decide (Int.ofNat 16=(16:Int))=true:=by decide
  simp only[aA2,aA4,aA3,decide_eq_true_eq,c,if_false,d,h1,h2,decide_true,Bool.and_self,if_true]
 ·cases h
theorem bRy:aA9 Tryz.prog bHm:=aA8 (by simp[bGg])
theorem bCr:aB0 Tryz.prog 115 (sg [pI,pI] [rS]) aJq:=aA6 bRy aAa Tryz.func115 (by kernel_rfl) fun cs outs hk h=>by
 unfold aJq at h
 split at h
 ·simp only[Option.some.injEq,Prod.mk.injEq,Bool.and_eq_true,decide_eq_true_eq]at h
  obtain⟨⟨rfl,h1,h2⟩,rfl⟩:=h
  rename_i n
  rw[aAd,bGh]
  have d:decide (Int.ofNat 16=(16:Int))=true:=by decide
  simp only[aA2,aA4,aA3,d,h1,h2,decide_true,Bool.and_self,if_true]
 ·cases h
theorem bXl:aA9 Tryz.prog bSz:=aA8 (by simp[])
theorem bJa:aB0 Tryz.prog 166 (sg [aSt,aSt] [bOu,bOu]) aMn:=aA6 bXl aAa Tryz.func166 (by kernel_rfl) fun cs outs hk h=>by
 unfold aMn at h
 split at h
 ·simp only[Option.some.injEq,Prod.mk.injEq,Bool.and_eq_true,decide_eq_true_eq]at h
  obtain⟨⟨rfl,h1,h2⟩,rfl⟩:=h
  rename_i n
  rw[aAd,bNy]
  obtain⟨k,rfl⟩:=Int.eq_ofNat_of_zero_le h1
  have hk:k≤8:=by omega
  have:k=0∨k=1∨k=2∨k=3∨k=4∨k=5∨k=6∨k=7∨k=8:=by omega
  rcases this with rfl | rfl | rfl | rfl | rfl | rfl | rfl | rfl | rfl<;>rfl
 ·cases h
theorem bZm:aA9 Tryz.prog bWb:=aA8 (by simp[bJa])
theorem bNx:aB0 Tryz.prog 148 (sg [aSt,aSt] [bOu,bOu]) aMn:=aA6 bZm aAa Tryz.func148 (by kernel_rfl) fun cs outs hk h=>by
 unfold aMn at h
 split at h
 ·simp only[Option.some.injEq,Prod.mk.injEq,Bool.and_eq_true,decide_eq_true_eq]at h
  obtain⟨⟨rfl,h1,h2⟩,rfl⟩:=h
  rename_i n
  rw[aAd,bRb]
  have d:decide (Int.ofNat 1=(1:Int))=true:=by decide
  simp only[aA2,aA4,aA3,d,h1,h2,decide_true,Bool.and_self,if_true]
 ·cases h
theorem bZ6:aA9 Tryz.prog bW9:=aA8 (by simp[aL2,bNx])
theorem bNp:aB0 Tryz.prog 116 (sg [pS,pI] [rS]) bBi:=aA6 bZ6 aAa Tryz.func116 (by kernel_rfl) fun cs outs hk h=>by
 unfold bBi at h
 split at h
 ·simp only[Option.some.injEq,Prod.mk.injEq,Bool.and_eq_true,decide_eq_true_eq]at h
  obtain⟨⟨rfl,h1,h2⟩,rfl⟩:=h
  rename_i n
  rw[aAd,bQk]
  obtain⟨k,rfl⟩:=Int.eq_ofNat_of_zero_le h1
  have:k=0∨k=1∨k=2∨k=3∨k=4∨k=5∨k=6∨k=7∨k=8:=by omega
  rcases this with rfl | rfl | rfl | rfl | rfl | rfl | rfl | rfl | rfl<;>rfl
 ·cases h
theorem aKt:∀ (k n:Nat),(aSy k n).length=k
 |0,_=>rfl
 |k+1,n=>by simp[aSy,aKt k]
theorem aZ7:∀ (f k n:Nat) (acc:List UInt8),n<16^(k+1)→k<f→∃ m,1≤m∧m≤k+1∧n<16^m∧bCm f n acc=aSy m n++acc
 |0,k,n,acc,_,h=>by omega
 |f+1,k,n,acc,h1,h2=>by
  by_cases hn:16≤n
  ·obtain⟨k,rfl⟩:∃ j,k=j+1:=⟨k-1,by
    cases k with
    |zero=>simp at h1;omega
    |succ k=>omega⟩
   obtain⟨m,a1,a2,a3,a4⟩:=aZ7 f k (n / 16) (aM3 n::acc) (by rw[Nat.div_lt_iff_lt_mul (by omega)];rw[Nat.pow_succ]at h1;exact h1) (by omega)
   refine⟨m+1,by omega,by omega,?_,?_⟩
   ·rw[Nat.pow_succ];rw[Nat.div_lt_iff_lt_mul (by omega)]at a3;exact a3
   ·simp only[bCm,if_pos hn,a4,aSy,List.append_assoc,List.cons_append,List.nil_append]
  ·exact⟨1,by omega,by omega,by omega,by simp[bCm,if_neg hn,aSy]⟩
theorem bGs:∀ k,aSy k 0=List.replicate k 48
 |0=>rfl
 |k+1=>by
  rw[aSy,Nat.zero_div,bGs k,List.replicate_succ']
  rfl
theorem bLl:∀ (m k n:Nat),n<16^m→aSy (k+m) n=List.replicate k 48++aSy m n
 |0,k,n,h=>by
  have:n=0:=by simpa using h
  subst this
  simp[aSy,bGs]
 |m+1,k,n,h=>by
  have:=bLl m k (n / 16) (by rw[Nat.div_lt_iff_lt_mul (by omega)];rw[Nat.pow_succ]at h;exact h)
  rw[←Nat.add_assoc,aSy,this,aSy,List.append_assoc]
theorem bXw (n:Nat) (h:n≤1000000000):(aH9 n).length≤8∧List.replicate (8-(aH9 n).length) 48++aH9 n=aSy 8 n:=by
 obtain⟨m,a1,a2,a3,a4⟩:=aZ7 16 7 n [] (by omega) (by omega)
 rw[List.append_nil]at a4
 unfold aH9
 rw[a4,aKt]
 refine⟨by omega,?_⟩
 rw[←bLl m (8-m) n a3,Nat.sub_add_cancel (by omega)]
theorem bXv (n:Nat) (hn:n<9223372036854775808):aH8 .i64 (n:Int) 15=((n % 16:Nat):Int):=by
 have e:(BitVec.ofInt 64 (n:Int)&&&BitVec.ofInt 64 15).toNat=n % 16:=by
  rw[BitVec.toNat_and]
  have h1:(BitVec.ofInt 64 (n:Int)).toNat=n:=by simp;omega
  have h2:(BitVec.ofInt 64 (15:Int)).toNat=15:=by decide
  rw[h1,h2]
  exact Nat.and_two_pow_sub_one_eq_mod n 4
 show IntKind.i64.wrap ((BitVec.ofInt 64 (n:Int)&&&BitVec.ofInt 64 15).toNat:Int)=_
 rw[e,aAi]<;>omega
theorem bY0 (k:Nat) (hk:k<16):(([48,49,50,51,52,53,54,55,56,57,97,98,99,100,101,102]:List UInt8).getD k 0)=aM3 k:=by
 revert hk;revert k;decide
theorem aR4 (b:Nat) (hb:b≤1000000000):∀ (j n:Nat),j≤8→j<n →
  (aBn aH2 aAb (sg [pI] [rS]) Tryz.f53 [.r,.r,.r,.l,.r,.b] n (aH0 b (8-j) (aAc (aSy (8-j) (b / 16^j))) ((j:Int)-1))).eval=some [.str ([115]++aSy 8 b++[46,115,101,103])]:=by
 intro j
 induction j with
 |zero =>
  intro n h1 h2
  obtain⟨n,rfl⟩:∃ g,n=g+1:=⟨n-1,by omega⟩
  rw[aAz _ _ _ _ _ _ _ (by kernel_rfl),aI8]
  have c:¬(0:Int)≤((0:Nat):Int)-1:=by omega
  have tk:List.take (8-0) (aAc (aSy (8-0) (b / 16^0)))=aAc (aSy 8 b):=by
   rw[List.take_of_length_le]
   ·simp
   ·simp[aBh,aKt]
  have l1:(1+(aSy 8 b).length≤9223372036854775807):=by rw[aKt];omega
  have l2:(([115]++aSy 8 b).length+4≤9223372036854775807):=by simp[aKt]
  simp only[aA2,aA4,aA3,decide_eq_true_eq,c,if_false,tk,aE3,aGu,if_true,l1,l2]
 |succ j ih =>
  intro n h1 h2
  obtain⟨n,rfl⟩:∃ g,n=g+1:=⟨n-1,by omega⟩
  have e:=ih n (by omega) (by omega)
  rw[aAz _ _ _ _ _ _ _ (by kernel_rfl),aI8]
  have w0:((j+1:Nat):Int)-1=(j:Int):=by omega
  have w1:IntKind.i64.wrap ((4:Int)*(j:Int))=((4*j:Nat):Int):=by rw[aAi]<;>omega
  have w2:IntKind.u64.wrap ((4*j:Nat):Int)=((4*j:Nat):Int):=by rw[bA3]<;>omega
  have s1:aJf IntKind.i64 (b:Int) ((4*j:Nat):Int)=((b / 16^j:Nat):Int):=by
   rw[aI3 _ _ (by omega),Nat.pow_mul]
  have hlt:b / 16^j≤b:=Nat.div_le_self _ _
  have s2:=bXv (b / 16^j) (by omega)
  have c:(0:Int)≤(j:Int):=by omega
  have z1:(0:Int)≤((4*j:Nat):Int):=by omega
  have z2:(0:Int)≤((b / 16^j % 16:Nat):Int):=by omega
  have z3:((b / 16^j % 16:Nat):Int)<(↑(16:Nat):Int):=by omega
  have fg:=bY0 (b / 16^j % 16) (by omega)
  have ra:=aGi (aSy (8-(j+1)) (b / 16^(j+1))) (aM3 (b / 16^j % 16)).toNat (UInt8.toNat_lt _)
  have dk:aSy (8-(j+1)) (b / 16^(j+1))++[UInt8.ofNat (aM3 (b / 16^j % 16)).toNat]=aSy (8-j) (b / 16^j):=by
   rw[UInt8.ofNat_toNat,bK6]
   have e1:8-j=(8-(j+1))+1:=by omega
   rw[e1,aSy,Nat.div_div_eq_div_mul,←Nat.pow_succ]
  have ro:aBe (8-j) 1=true:=by simp only[aBe,decide_eq_true_eq];omega
  have w3:IntKind.i64.wrap ((j:Int)-1)=(j:Int)-1:=by rw[aAi]<;>omega
  have e8:8-(j+1)+1=8-j:=by omega
  rw[w0]
  simp only[aA2,aA4,w1,w2,w3,s1,s2,z1,z2,z3,c,Int.toNat_natCast,fg,ra,dk,ro,aBh,aKt,decide_true,Bool.and_self,if_true,e8]
  exact e
theorem aXb:aA9 Tryz.prog aH2:=aA8 (by simp[aDg])
theorem aFs:aB0 Tryz.prog 53 (sg [pI] [rS]) aLd:=aA6 aXb aAa Tryz.func53 (by kernel_rfl) fun cs outs hk h=>by
 unfold aLd at h
 split at h
 ·simp only[Option.some.injEq,Prod.mk.injEq,true_and]at h
  subst h
  rename_i n
  rw[aAd,aR3]
  by_cases hn:inB n 0 1000000000=true
  ·obtain⟨h1,h2⟩:=(aBr _ _ _).1 hn
   obtain⟨b,rfl⟩:=Int.eq_ofNat_of_zero_le h1
   simp only[aA4,hn,if_true,aAp,Int.toNat_natCast]
   have hb:b / 16^8=0:=Nat.div_eq_of_lt (by omega)
   have lp:=aR4 b (by omega) 8 9223372036854775808 (by omega) (by omega)
   rw[hb]at lp
   exact lp
  ·simp only[aA4,aA3,hn,aAp,Bool.false_eq_true,if_false]
 ·cases h
theorem aY4:aA9 Tryz.prog aO3:=aA8 (by simp[aDk,bCr,bNp])
theorem aQ4:aB0 Tryz.prog 80 (sg [pI] [rS]) aLd:=aA6 aY4 aAa Tryz.func80 (by kernel_rfl) fun cs outs hk h=>by
 unfold aLd at h
 split at h
 ·simp only[Option.some.injEq,Prod.mk.injEq,true_and]at h
  subst h
  rename_i n
  rw[aAd,aRl]
  by_cases hn:inB n 0 1000000000=true
  ·obtain⟨h1,h2⟩:=(aBr _ _ _).1 hn
   obtain⟨b,rfl⟩:=Int.eq_ofNat_of_zero_le h1
   obtain⟨p1,p2⟩:=bXw b (by omega)
   have w:IntKind.i64.wrap ((8:Int)-((aH9 b).length:Int))=((8-(aH9 b).length:Nat):Int):=by rw[aAi]<;>omega
   have z1:(0:Int)≤((8-(aH9 b).length:Nat):Int):=by omega
   have z2:((8-(aH9 b).length:Nat):Int)≤8:=by omega
   have z3:(0:Int)≤(b:Int):=by omega
   have l1:(1+(8-(aH9 b).length)≤9223372036854775807):=by omega
   have l2:(0+1+(8-(aH9 b).length)+(aH9 b).length≤9223372036854775807):=by omega
   have l3:(0+1+(8-(aH9 b).length)+(aH9 b).length+4≤9223372036854775807):=by omega
   simp only[aA4,aA2,aA3,hn,if_true,aAp,Int.toNat_natCast,w,z1,z2,z3,h2,decide_true,Bool.and_self,List.length_replicate,List.length_append,List.length_cons,List.length_nil,l1,l2,l3]
   rw[←p2]
   simp
  ·simp only[aA4,aA3,hn,aAp,Bool.false_eq_true,if_false]
 ·cases h
noncomputable section
structure Nd where
 id:Int
 text:List UInt8
 sure:Int
 deriving DecidableEq
structure En where
 name:List UInt8
 id:Int
 deriving DecidableEq
abbrev eNd (x:Nd):List C:=[.int .i64 x.id,.str x.text,.int .i64 x.sure]
abbrev eEn (x:En):List C:=[.str x.name,.int .i64 x.id]
abbrev kNd:List K:=[.int .i64,.str,.int .i64]
abbrev kEn:List K:=[.str,.int .i64]
def bX7 (r:List C):Nd:=⟨(r.getD 0 (.fn 0 [])).toInt,(r.getD 1 (.fn 0 [])).toStr,(r.getD 2 (.fn 0 [])).toInt⟩
def bX8 (r:List C):En:=⟨(r.getD 0 (.fn 0 [])).toStr,(r.getD 1 (.fn 0 [])).toInt⟩
def nds (rows:List (List C)):List Nd:=rows.map bX7
def ens (rows:List (List C)):List En:=rows.map bX8
def bPd (rows:List (List C)):Bool:=rows.all fun r=>r.all fun c=>match c with | .str s=>decide (s.length≤281474976710656) | _=>true
end
theorem bRk {k:IntKind} {c:C} (h:c.is (.int k)=true):c=.int k c.toInt:=by
 cases c<;>simp[C.is]at h
 subst h;rfl
theorem bVx {c:C} (h:c.is .str=true):c=.str c.toStr:=by
 cases c<;>simp[C.is]at h
 rfl
theorem bZ1 {r:List C} (h:aBf r kNd=true):r=eNd (bX7 r):=by
 match r,h with
 |[a,b,c],h =>
  simp only[aBf,Bool.and_eq_true,and_true]at h
  obtain⟨h1,h2,h3⟩:=h
  have e1:=bRk h1
  have e2:=bVx h2
  have e3:=bRk h3
  show[a,b,c]=[.int .i64 a.toInt,.str b.toStr,.int .i64 c.toInt]
  rw[←e1,←e2,←e3]
 |[],h=>simp[aBf]at h
 |[_],h=>simp[aBf]at h
 |[_,_],h=>simp[aBf]at h
 |_::_::_::_::_,h=>simp[aBf]at h
theorem bZ2 {r:List C} (h:aBf r kEn=true):r=eEn (bX8 r):=by
 match r,h with
 |[a,b],h =>
  simp only[aBf,Bool.and_eq_true,and_true]at h
  obtain⟨h1,h2⟩:=h
  have e1:=bVx h1
  have e2:=bRk h2
  show[a,b]=[.str a.toStr,.int .i64 b.toInt]
  rw[←e1,←e2]
 |[],h=>simp[aBf]at h
 |[_],h=>simp[aBf]at h
 |_::_::_::_,h=>simp[aBf]at h
theorem aMh {rows:List (List C)} (h:aAt kNd rows=true):rows=(nds rows).map eNd:=by
 simp only[aAt,List.all_eq_true]at h
 simp only[nds,List.map_map]
 rw[List.map_congr_left (g:=id)]
 ·simp
 ·intro r hr;exact (bZ1 (h r hr)).symm
theorem aKg {rows:List (List C)} (h:aAt kEn rows=true):rows=(ens rows).map eEn:=by
 simp only[aAt,List.all_eq_true]at h
 simp only[ens,List.map_map]
 rw[List.map_congr_left (g:=id)]
 ·simp
 ·intro r hr;exact (bZ2 (h r hr)).symm
@[simp] theorem aFw (l:List Nd):nds (l.map eNd)=l:=by simp[nds,bX7,Function.comp_def,C.toInt,C.toStr]
@[simp] theorem aOp (l:List En):ens (l.map eEn)=l:=by simp[ens,bX8,Function.comp_def,C.toInt,C.toStr]
@[simp] theorem aRb (l:List Nd):aAt kNd (l.map eNd)=true:=by simp[aAt,aBf,C.is]
@[simp] theorem aJk (l:List En):aAt kEn (l.map eEn)=true:=by simp[aAt,aBf,C.is]
theorem aT8 (l:List Nd):((l.map eNd).all fun r=>r.all C.flat)=true:=by simp[C.flat]
theorem bCv (l:List En):((l.map eEn).all fun r=>r.all C.flat)=true:=by simp[C.flat]
theorem bS1 {E:Env} {e:TypeId} {x:C} (h:Fit E (.slice e) x):∃ rows,x=.sl rows∧bPd rows=true:=by
 cases h with
 |@sl _ te rows h1 h2 h3 h4 =>
  refine⟨rows,rfl,?_⟩
  simp only[bPd,List.all_eq_true]
  intro r hr c hc
  split
  ·rename_i s
   obtain⟨j,hj⟩:=List.getElem?_of_mem hc
   have hjl:=(List.getElem?_eq_some_iff.1 hj).1
   have hlen:=h3 r hr
   obtain⟨s',hs,hl⟩:∃ s',C.str s=.str s'∧s'.length≤140737488351232:=by
    have hk:te.leaves[j]? =some (te.leaves[j]'(by omega)):=List.getElem?_eq_getElem (by omega)
    have hf:=h4 r hr j _ _ hk hj
    generalize te.leaves[j]'(by omega)=kd at hf
    cases hf with
    |str a=>exact⟨_,rfl,a⟩
   obtain rfl:=C.str.inj hs
   simp only[decide_eq_true_eq]
   omega
  ·rfl
theorem aS1 {A:Type} {x y:List A} {i:Nat} (d:A) (hx:i<x.length) (hy:i<y.length) (h:x.take i=y.take i) (hd:x.getD i d=y.getD i d):x.take (i+1)=y.take (i+1):=by
 rw[List.take_add_one,List.take_add_one,h]
 simp[List.getD_eq_getElem?_getD,hx,hy]at hd
 simp[hx,hy,hd]
noncomputable section
def bU3:PTy:=.val true kNd
def bNr:RTy:=⟨true,[(.int .i64,false),(.str,false),(.int .i64,false)]⟩
def aJm:PTy:=.val true kEn
end
noncomputable section
def aB4:PTy:=.val true [.slice 94,.slice 100,.slice 100,.slice 9,.int .i64,.int .i64]
def aBt:RTy:=⟨true,[(.slice 94,true),(.slice 100,true),(.slice 100,true),(.slice 9,true),(.int .i64,false),(.int .i64,false)]⟩
end
noncomputable section
def aD3 {A:Type} (p:A→Bool):List A→Nat→Int
 |[],_=> -1
 |x::r,i=>if p x then (i:Int)else aD3 p r (i+1)
def bSa (nm:List UInt8) (e:En):Bool:=decide (e.name=nm)
def bVu (id:Int) (n:Nd):Bool:=decide (n.id=id)
def aC8 (es:List En) (nm:List UInt8):Int:=aD3 (bSa nm) es 0
def aAv (ns:List Nd) (id:Int):Int:=aD3 (bVu id) ns 0
def aB7 (es:List En) (nm:List UInt8):Int:=if aC8 es nm<0 then 0 else (es.getD (aC8 es nm).toNat ⟨[],0⟩).id
def aG7 (es:List En) (nm:List UInt8):Bool:=decide (0≤aC8 es nm)
def aDy (ns:List Nd) (es:List En) (nm:List UInt8):Int:=if aC8 es nm<0 then -1 else aAv ns (aB7 es nm)
def bYi (ns:List Nd) (es:List En) (nm:List UInt8):Nd:=if aDy ns es nm<0 then⟨0,[],0⟩else ns.getD (aDy ns es nm).toNat ⟨0,[],0⟩
def bGd (ns:List Nd) (es:List En) (nm:List UInt8):Bool:=decide (0≤aDy ns es nm)
def cAy (ns:List Nd) (es:List En) (nm:List UInt8):Int:=(bYi ns es nm).id
def aIs (ns:List Nd) (es:List En) (nm:List UInt8):List UInt8:=(bYi ns es nm).text
def bR8 (ns:List Nd) (es:List En) (nm:List UInt8):Int:=(bYi ns es nm).sure
def aK9:Nat:=281474976710656
def aTa:aCh:=fun cs=>match cs with
 |[.str n,.int .i64 _,.pt [.str nm]]=>some (true,[.bool (decide (n=nm))])
 |_=>none
def aT5:aCh:=fun cs=>match cs with
 |[.int .i64 i,.str _,.int .i64 _,.pt [.int .i64 id]]=>some (true,[.bool (decide (i=id))])
 |_=>none
def bC0:aCh:=fun cs=>match cs with
 |[.sl rows,.fn f [.pt [.str nm]]]=>some (decide (f=171)&&(decide (rows.length≤aK9)&&aAt kEn rows),[.int .i64 (aC8 (ens rows) nm)])
 |_=>none
def bBz:aCh:=fun cs=>match cs with
 |[.sl rows,.fn f [.pt [.int .i64 id]]]=>some (decide (f=173)&&(decide (rows.length≤aK9)&&aAt kNd rows),[.int .i64 (aAv (nds rows) id)])
 |_=>none
def aV7:aCh:=fun cs=>match cs with
 |[.sl rows,.str nm]=>some (decide (rows.length≤aK9)&&aAt kEn rows,[.int .i64 (aC8 (ens rows) nm)])
 |_=>none
def aIg:aCh:=fun cs=>match cs with
 |[.sl rows,.str nm]=>some (decide (rows.length≤aK9)&&aAt kEn rows,[.int .i64 (aB7 (ens rows) nm)])
 |_=>none
def aFz:aCh:=fun cs=>match cs with
 |[.sl rows,.str nm]=>some (decide (rows.length≤aK9)&&aAt kEn rows,[.bool (aG7 (ens rows) nm)])
 |_=>none
def aEt:aCh:=fun cs=>match cs with
 |[.sl ns,.sl _,.sl _,.sl _,.int .i64 _,.int .i64 _,.int .i64 id]=>some (decide (ns.length≤aK9)&&aAt kNd ns,[.int .i64 (aAv (nds ns) id)])
 |_=>none
def bFp (ns es:List (List C)):Bool:=decide (ns.length≤aK9)&&decide (es.length≤aK9)&&aAt kNd ns&&aAt kEn es
def aRe:aCh:=fun cs=>match cs with
 |[.sl ns,.sl es,.sl _,.sl _,.int .i64 _,.int .i64 _,.str nm]=>some (bFp ns es,[.int .i64 (aDy (nds ns) (ens es) nm)])
 |_=>none
def aI1:aCh:=fun cs=>match cs with
 |[.sl ns,.sl es,.sl _,.sl _,.int .i64 _,.int .i64 _,.str nm]=>some (bFp ns es,[.int .i64 (cAy (nds ns) (ens es) nm),.str (aIs (nds ns) (ens es) nm),.int .i64 (bR8 (nds ns) (ens es) nm),.bool (bGd (nds ns) (ens es) nm)])
 |_=>none
def aFj:aCh:=fun cs=>match cs with
 |[.sl ns,.sl es,.sl _,.sl _,.int .i64 _,.int .i64 _,.str nm]=>some (bFp ns es,[.str (aIs (nds ns) (ens es) nm),.bool (bGd (nds ns) (ens es) nm)])
 |_=>none
def aBd (ns:List Nd) (es:List En) (base:Int):List UInt8:=aIs ns es (aAp base)
def aGf:aCh:=fun cs=>match cs with
 |[.sl ns,.sl es,.sl _,.sl _,.int .i64 _,.int .i64 _,.int .i64 base]=>some (bFp ns es,[.str (aBd (nds ns) (ens es) base)])
 |_=>none
abbrev pF:PTy:=.val false [.func]
abbrev pP:PTy:=.val false [.ptr]
def bM1 (r:List (List C)) (nm:List UInt8) (n i:Int):St:=st0 [(0,.l (.sl r)),(1,.l (.fn 171 [.pt [.str nm]])),(7,aBc n),(8,aBc i)]
def bM0 (r:List (List C)) (id:Int) (n i:Int):St:=st0 [(0,.l (.sl r)),(1,.l (.fn 173 [.pt [.int .i64 id]])),(7,aBc n),(8,aBc i)]
def aTk (r:List (List C)) (nm:List UInt8) (i:Int):St:=st0 [(0,.l (.sl r)),(1,aT0 nm),(5,aBc i)]
def aTj (r:List (List C)) (nm:List UInt8) (i:Int):St:=st0 [(0,.l (.sl r)),(1,aT0 nm),(5,aBc i)]
def aQl (ns es os ss:List (List C)) (r x id i:Int):St:={slots:=[(1,aBc id),(2,.l (.ptr 0 0)),(5,aBc i)],heap:=[(0,.box [.sl ns,.sl es,.sl os,.sl ss,.i .i64 r,.i .i64 x])],next:=1,pins:=[]}
def bWd:Env:=mkE [] []
def bWa:Env:=mkE [] []
def bM7:Env:=mkE [(2,[0,1,7,8])] [(171,(sg [aJm,pP] [rB]),aTa)]
def bM6:Env:=mkE [(2,[0,1,7,8])] [(173,(sg [bU3,pP] [rB]),aT5)]
def aZw:Env:=mkE [] [(171,(sg [aJm,pP] [rB]),aTa),(170,(sg [pSl 100,pF] [rI]),bC0)]
def bHf:Env:=mkE [] [(173,(sg [bU3,pP] [rB]),aT5),(172,(sg [pSl 94,pF] [rI]),bBz)]
def aTs:Env:=mkE [(2,[0,1,5])] []
def aTr:Env:=mkE [(2,[0,1,5])] []
def aQr:Env:=mkE [(2,[1,2,5])] []
def bHg:Env:=mkE [] [(159,(sg [pSl 100,pS] [rI]),aV7),(160,(sg [aB4,pI] [rI]),aEt)]
def bH6:Env:=mkE [] [(93,(sg [pSl 100,pS] [rI]),aIg),(94,(sg [pSl 100,pS] [rB]),aFz),(92,(sg [aB4,pI] [rI]),aEt)]
def bHi:Env:=mkE [] [(146,(sg [aB4,pS] [rI]),aRe)]
def aWv:Env:=mkE [] [(68,(sg [aB4,pS] [bNr,rB]),aI1)]
def aX1:Env:=mkE [] [(114,(sg [aB4,pS] [bNr,rB]),aI1)]
def bH3:Env:=mkE [] [(53,(sg [pI] [rS]),aLd),(52,(sg [aB4,pS] [rS,rB]),aFj)]
def bHh:Env:=mkE [] [(80,(sg [pI] [rS]),aLd),(79,(sg [aB4,pS] [rS,rB]),aFj)]
end
theorem bSb (H:List Pt→Nat→St→T (List C)) (n:List UInt8) (i:Int) (nm:List UInt8):(aAm bWd aAb (sg [aJm,pP] [rB]) Tryz.f171 H [C.str n,C.int .i64 i,C.pt [C.str nm]]).eval=((.ask (n==nm) (.ret [C.bool true]) (.ret [C.bool false])):T (List C)).eval:=aAo (by kernel_rfl)
theorem bRa (H:List Pt→Nat→St→T (List C)) (i:Int) (t:List UInt8) (s:Int) (id:Int):(aAm bWa aAb (sg [bU3,pP] [rB]) Tryz.f173 H [C.int .i64 i,C.str t,C.int .i64 s,C.pt [C.int .i64 id]]).eval=((.ask (decide (i=id)) (.ret [C.bool true]) (.ret [C.bool false])):T (List C)).eval:=aAo (by kernel_rfl)
theorem bRi (H:List Pt→Nat→St→T (List C)) (r:List (List C)) (nm:List UInt8):(aAm bM7 aAb (sg [pSl 100,pF] [rI]) Tryz.f170 H [C.sl r,C.fn 171 [C.pt [C.str nm]]]).eval=((H [Pt.r,Pt.l,Pt.r,Pt.b] 9223372036854775808 (bM1 (r) (nm) ((↑r.length:Int)) ((0:Int)))):T (List C)).eval:=aAo (by kernel_rfl)
theorem bRg (H:List Pt→Nat→St→T (List C)) (r:List (List C)) (id:Int):(aAm bM6 aAb (sg [pSl 94,pF] [rI]) Tryz.f172 H [C.sl r,C.fn 173 [C.pt [C.int .i64 id]]]).eval=((H [Pt.r,Pt.l,Pt.r,Pt.b] 9223372036854775808 (bM0 (r) (id) ((↑r.length:Int)) ((0:Int)))):T (List C)).eval:=aAo (by kernel_rfl)
theorem bBk (H:List Pt→Nat→St→T (List C)) (r:List (List C)) (nm:List UInt8):(aAm aZw aAb (sg [pSl 100,pS] [rI]) Tryz.f159 H [C.sl r,C.str nm]).eval=((.must (decide (171=171)&&(decide (r.length≤aK9)&&aAt [K.str,K.int .i64] r)) (.ret [C.int .i64 (aC8 (ens r) nm)])):T (List C)).eval:=aAo (by kernel_rfl)
theorem bFm (H:List Pt→Nat→St→T (List C)) (ns:List (List C)) (es:List (List C)) (os:List (List C)) (ss:List (List C)) (r:Int) (x:Int) (id:Int):(aAm bHf aAb (sg [aB4,pI] [rI]) Tryz.f160 H [C.sl ns,C.sl es,C.sl os,C.sl ss,C.int .i64 r,C.int .i64 x,C.int .i64 id]).eval=((.must (decide (173=173)&&(decide (ns.length≤aK9)&&aAt [K.int .i64,K.str,K.int .i64] ns)) (.ret [C.int .i64 (aAv (nds ns) id)])):T (List C)).eval:=aAo (by kernel_rfl)
theorem bK8 (H:List Pt→Nat→St→T (List C)) (r:List (List C)) (nm:List UInt8):(aAm aTs aAb (sg [pSl 100,pS] [rI]) Tryz.f93 H [C.sl r,C.str nm]).eval=((H [Pt.r,Pt.l,Pt.r,Pt.b] 9223372036854775808 (aTk (r) (nm) ((0:Int)))):T (List C)).eval:=aAo (by kernel_rfl)
theorem bK1 (H:List Pt→Nat→St→T (List C)) (r:List (List C)) (nm:List UInt8):(aAm aTr aAb (sg [pSl 100,pS] [rB]) Tryz.f94 H [C.sl r,C.str nm]).eval=((H [Pt.r,Pt.l,Pt.r,Pt.b] 9223372036854775808 (aTj (r) (nm) ((0:Int)))):T (List C)).eval:=aAo (by kernel_rfl)
theorem bE9 (H:List Pt→Nat→St→T (List C)) (ns:List (List C)) (es:List (List C)) (os:List (List C)) (ss:List (List C)) (r:Int) (x:Int) (id:Int):(aAm aQr aAb (sg [aB4,pI] [rI]) Tryz.f92 H [C.sl ns,C.sl es,C.sl os,C.sl ss,C.int .i64 r,C.int .i64 x,C.int .i64 id]).eval=((H [Pt.r,Pt.l,Pt.r,Pt.b] 9223372036854775808 (aQl (ns) (es) (os) (ss) (r) (x) (id) ((0:Int)))):T (List C)).eval:=aAo (by kernel_rfl)
theorem bFn (H:List Pt→Nat→St→T (List C)) (ns:List (List C)) (es:List (List C)) (os:List (List C)) (ss:List (List C)) (r:Int) (x:Int) (nm:List UInt8):(aAm bHg aAb (sg [aB4,pS] [rI]) Tryz.f146 H [C.sl ns,C.sl es,C.sl os,C.sl ss,C.int .i64 r,C.int .i64 x,C.str nm]).eval=((.must (decide (es.length≤aK9)&&aAt [K.str,K.int .i64] es) (.ask (decide (aC8 (ens es) nm<(0:Int))) (.ret [C.int .i64 (-1)]) (.must (decide ((0:Int)≤aC8 (ens es) nm)&&decide (aC8 (ens es) nm<(↑es.length:Int))&&decide ((es.getD (aC8 (ens es) nm).toNat []).length=2)) (.must (decide (0+1<(es.getD (aC8 (ens es) nm).toNat []).length)&&C.is (K.int .i64) ((es.getD (aC8 (ens es) nm).toNat []).getD (0+1) (C.fn 0 []))&&true) (.must (decide (ns.length≤aK9)&&aAt [K.int .i64,K.str,K.int .i64] ns) (.ret [C.int .i64 (aAv (nds ns) ((es.getD (aC8 (ens es) nm).toNat []).getD (0+1) (C.fn 0 [])).toInt)])))))):T (List C)).eval:=aAo (by kernel_rfl)
theorem bEb (H:List Pt→Nat→St→T (List C)) (ns:List (List C)) (es:List (List C)) (os:List (List C)) (ss:List (List C)) (r:Int) (x:Int) (nm:List UInt8):(aAm bH6 aAb (sg [aB4,pS] [bNr,rB]) Tryz.f68 H [C.sl ns,C.sl es,C.sl os,C.sl ss,C.int .i64 r,C.int .i64 x,C.str nm]).eval=((.must (decide (es.length≤aK9)&&aAt [K.str,K.int .i64] es) (.must (decide (ns.length≤aK9)&&aAt [K.int .i64,K.str,K.int .i64] ns) (.ask (decide (aAv (nds ns) (aB7 (ens es) nm)<(0:Int))) (.ret [C.int .i64 0,C.str [],C.int .i64 0,C.bool false]) (.must (decide (es.length≤aK9)&&aAt [K.str,K.int .i64] es) (.ask (aG7 (ens es) nm) (.must (decide ((0:Int)≤aAv (nds ns) (aB7 (ens es) nm))&&decide (aAv (nds ns) (aB7 (ens es) nm)<(↑ns.length:Int))&&decide ((ns.getD (aAv (nds ns) (aB7 (ens es) nm)).toNat []).length=3)) (.must (decide (0<(ns.getD (aAv (nds ns) (aB7 (ens es) nm)).toNat []).length)&&C.is (K.int .i64) ((ns.getD (aAv (nds ns) (aB7 (ens es) nm)).toNat []).getD 0 (C.fn 0 []))&&(decide (0+1<(ns.getD (aAv (nds ns) (aB7 (ens es) nm)).toNat []).length)&&C.is K.str ((ns.getD (aAv (nds ns) (aB7 (ens es) nm)).toNat []).getD (0+1) (C.fn 0 []))&&(decide (0+1+1<(ns.getD (aAv (nds ns) (aB7 (ens es) nm)).toNat []).length)&&C.is (K.int .i64) ((ns.getD (aAv (nds ns) (aB7 (ens es) nm)).toNat []).getD (0+1+1) (C.fn 0 []))&&true))) (.ret [C.int .i64 ((ns.getD (aAv (nds ns) (aB7 (ens es) nm)).toNat []).getD 0 (C.fn 0 [])).toInt,C.str ((ns.getD (aAv (nds ns) (aB7 (ens es) nm)).toNat []).getD (0+1) (C.fn 0 [])).toStr,C.int .i64 ((ns.getD (aAv (nds ns) (aB7 (ens es) nm)).toNat []).getD (0+1+1) (C.fn 0 [])).toInt,C.bool true]))) (.ret [C.int .i64 0,C.str [],C.int .i64 0,C.bool false])))))):T (List C)).eval:=aAo (by kernel_rfl)
theorem bG7 (H:List Pt→Nat→St→T (List C)) (ns:List (List C)) (es:List (List C)) (os:List (List C)) (ss:List (List C)) (r:Int) (x:Int) (nm:List UInt8):(aAm bHi aAb (sg [aB4,pS] [bNr,rB]) Tryz.f114 H [C.sl ns,C.sl es,C.sl os,C.sl ss,C.int .i64 r,C.int .i64 x,C.str nm]).eval=((.must (bFp ns es) (.ask (decide (aDy (nds ns) (ens es) nm<(0:Int))) (.ret [C.int .i64 0,C.str [],C.int .i64 0,C.bool false]) (.must (decide ((0:Int)≤aDy (nds ns) (ens es) nm)&&decide (aDy (nds ns) (ens es) nm<(↑ns.length:Int))&&decide ((ns.getD (aDy (nds ns) (ens es) nm).toNat []).length=3)) (.must (decide (0<(ns.getD (aDy (nds ns) (ens es) nm).toNat []).length)&&C.is (K.int .i64) ((ns.getD (aDy (nds ns) (ens es) nm).toNat []).getD 0 (C.fn 0 []))&&(decide (0+1<(ns.getD (aDy (nds ns) (ens es) nm).toNat []).length)&&C.is K.str ((ns.getD (aDy (nds ns) (ens es) nm).toNat []).getD (0+1) (C.fn 0 []))&&(decide (0+1+1<(ns.getD (aDy (nds ns) (ens es) nm).toNat []).length)&&C.is (K.int .i64) ((ns.getD (aDy (nds ns) (ens es) nm).toNat []).getD (0+1+1) (C.fn 0 []))&&true))) (.ret [C.int .i64 ((ns.getD (aDy (nds ns) (ens es) nm).toNat []).getD 0 (C.fn 0 [])).toInt,C.str ((ns.getD (aDy (nds ns) (ens es) nm).toNat []).getD (0+1) (C.fn 0 [])).toStr,C.int .i64 ((ns.getD (aDy (nds ns) (ens es) nm).toNat []).getD (0+1+1) (C.fn 0 [])).toInt,C.bool true]))))):T (List C)).eval:=aAo (by kernel_rfl)
theorem aXh (H:List Pt→Nat→St→T (List C)) (ns:List (List C)) (es:List (List C)) (os:List (List C)) (ss:List (List C)) (r:Int) (x:Int) (nm:List UInt8):(aAm aWv aAb (sg [aB4,pS] [rS,rB]) Tryz.f52 H [C.sl ns,C.sl es,C.sl os,C.sl ss,C.int .i64 r,C.int .i64 x,C.str nm]).eval=((.must (bFp ns es) (.ask (bGd (nds ns) (ens es) nm) (.ret [C.str (aIs (nds ns) (ens es) nm),C.bool true]) (.ret [C.str (aIs (nds ns) (ens es) nm),C.bool false]))):T (List C)).eval:=aAo (by kernel_rfl)
theorem aY8 (H:List Pt→Nat→St→T (List C)) (ns:List (List C)) (es:List (List C)) (os:List (List C)) (ss:List (List C)) (r:Int) (x:Int) (nm:List UInt8):(aAm aX1 aAb (sg [aB4,pS] [rS,rB]) Tryz.f79 H [C.sl ns,C.sl es,C.sl os,C.sl ss,C.int .i64 r,C.int .i64 x,C.str nm]).eval=((.must (bFp ns es) (.ask (bGd (nds ns) (ens es) nm) (.ret [C.str (aIs (nds ns) (ens es) nm),C.bool true]) (.ret [C.str (aIs (nds ns) (ens es) nm),C.bool false]))):T (List C)).eval:=aAo (by kernel_rfl)
theorem bDy (H:List Pt→Nat→St→T (List C)) (ns:List (List C)) (es:List (List C)) (os:List (List C)) (ss:List (List C)) (r:Int) (x:Int) (b:Int):(aAm bH3 aAb (sg [aB4,pI] [rS]) Tryz.f35 H [C.sl ns,C.sl es,C.sl os,C.sl ss,C.int .i64 r,C.int .i64 x,C.int .i64 b]).eval=((.must (bFp ns es) (.ask (bGd (nds ns) (ens es) (aAp b)) (.ret [C.str (aIs (nds ns) (ens es) (aAp b))]) (.ret [C.str (aIs (nds ns) (ens es) (aAp b))]))):T (List C)).eval:=aAo (by kernel_rfl)
theorem bG4 (H:List Pt→Nat→St→T (List C)) (ns:List (List C)) (es:List (List C)) (os:List (List C)) (ss:List (List C)) (r:Int) (x:Int) (b:Int):(aAm bHh aAb (sg [aB4,pI] [rS]) Tryz.f60 H [C.sl ns,C.sl es,C.sl os,C.sl ss,C.int .i64 r,C.int .i64 x,C.int .i64 b]).eval=((.must (bFp ns es) (.ask (bGd (nds ns) (ens es) (aAp b)) (.ret [C.str (aIs (nds ns) (ens es) (aAp b))]) (.ret [C.str (aIs (nds ns) (ens es) (aAp b))]))):T (List C)).eval:=aAo (by kernel_rfl)
theorem bJk (H:List Pt→Nat→St→T (List C)) (r:List (List C)) (nm:List UInt8) (n:Int) (i:Int) (k:Nat):(aBk bM7 aAb (sg [pSl 100,pF] [rI]) Tryz.f170 H [Pt.r,Pt.l,Pt.r,Pt.b] k (bM1 r nm n i)).eval=((.ask (decide (i<n)) (.must (decide ((0:Int)≤i)&&decide (i<(↑r.length:Int))&&decide ((r.getD i.toNat []).length=2)) (.must (decide (0<(r.getD i.toNat []).length)&&C.is K.str ((r.getD i.toNat []).getD 0 (C.fn 0 []))&&(decide (0+1<(r.getD i.toNat []).length)&&C.is (K.int .i64) ((r.getD i.toNat []).getD (0+1) (C.fn 0 []))&&true)) (.ask (decide (((r.getD i.toNat []).getD 0 (C.fn 0 [])).toStr=nm)) (.ret [C.int .i64 i]) (H [Pt.r,Pt.l,Pt.r,Pt.b] k (bM1 (r) (nm) (n) (IntKind.i64.wrap (i+(1:Int)))))))) (.ret [C.int .i64 (-1)])):T (List C)).eval:=aAo (by kernel_rfl)
theorem bJj (H:List Pt→Nat→St→T (List C)) (r:List (List C)) (id:Int) (n:Int) (i:Int) (k:Nat):(aBk bM6 aAb (sg [pSl 94,pF] [rI]) Tryz.f172 H [Pt.r,Pt.l,Pt.r,Pt.b] k (bM0 r id n i)).eval=((.ask (decide (i<n)) (.must (decide ((0:Int)≤i)&&decide (i<(↑r.length:Int))&&decide ((r.getD i.toNat []).length=3)) (.must (decide (0<(r.getD i.toNat []).length)&&C.is (K.int .i64) ((r.getD i.toNat []).getD 0 (C.fn 0 []))&&(decide (0+1<(r.getD i.toNat []).length)&&C.is K.str ((r.getD i.toNat []).getD (0+1) (C.fn 0 []))&&(decide (0+1+1<(r.getD i.toNat []).length)&&C.is (K.int .i64) ((r.getD i.toNat []).getD (0+1+1) (C.fn 0 []))&&true))) (.ask (decide (((r.getD i.toNat []).getD 0 (C.fn 0 [])).toInt=id)) (.ret [C.int .i64 i]) (H [Pt.r,Pt.l,Pt.r,Pt.b] k (bM0 (r) (id) (n) (IntKind.i64.wrap (i+(1:Int)))))))) (.ret [C.int .i64 (-1)])):T (List C)).eval:=aAo (by kernel_rfl)
theorem bD0 (H:List Pt→Nat→St→T (List C)) (r:List (List C)) (nm:List UInt8) (i:Int) (k:Nat):(aBk aTs aAb (sg [pSl 100,pS] [rI]) Tryz.f93 H [Pt.r,Pt.l,Pt.r,Pt.b] k (aTk r nm i)).eval=((.ask (decide (i<(↑r.length:Int))) (.must (decide ((0:Int)≤i)&&decide (i<(↑r.length:Int))&&decide ((r.getD i.toNat []).length=2)) (.must (decide (0+0<(r.getD i.toNat []).length)&&C.is K.str ((r.getD i.toNat []).getD (0+0) (C.fn 0 []))&&true) (.ask (((r.getD i.toNat []).getD (0+0) (C.fn 0 [])).toStr==nm) (.must (decide ((0:Int)≤i)&&decide (i<(↑r.length:Int))&&decide ((r.getD i.toNat []).length=2)) (.must (decide (0+1<(r.getD i.toNat []).length)&&C.is (K.int .i64) ((r.getD i.toNat []).getD (0+1) (C.fn 0 []))&&true) (.ret [C.int .i64 ((r.getD i.toNat []).getD (0+1) (C.fn 0 [])).toInt]))) (H [Pt.r,Pt.l,Pt.r,Pt.b] k (aTk (r) (nm) (IntKind.i64.wrap (i+(1:Int)))))))) (.ret [C.int .i64 0])):T (List C)).eval:=aAo (by kernel_rfl)
theorem bCn (H:List Pt→Nat→St→T (List C)) (r:List (List C)) (nm:List UInt8) (i:Int) (k:Nat):(aBk aTr aAb (sg [pSl 100,pS] [rB]) Tryz.f94 H [Pt.r,Pt.l,Pt.r,Pt.b] k (aTj r nm i)).eval=((.ask (decide (i<(↑r.length:Int))) (.must (decide ((0:Int)≤i)&&decide (i<(↑r.length:Int))&&decide ((r.getD i.toNat []).length=2)) (.must (decide (0+0<(r.getD i.toNat []).length)&&C.is K.str ((r.getD i.toNat []).getD (0+0) (C.fn 0 []))&&true) (.ask (((r.getD i.toNat []).getD (0+0) (C.fn 0 [])).toStr==nm) (.ret [C.bool true]) (H [Pt.r,Pt.l,Pt.r,Pt.b] k (aTj (r) (nm) (IntKind.i64.wrap (i+(1:Int)))))))) (.ret [C.bool false])):T (List C)).eval:=aAo (by kernel_rfl)
theorem aXk (H:List Pt→Nat→St→T (List C)) (ns:List (List C)) (es:List (List C)) (os:List (List C)) (ss:List (List C)) (r:Int) (x:Int) (id:Int) (i:Int) (k:Nat):(aBk aQr aAb (sg [aB4,pI] [rI]) Tryz.f92 H [Pt.r,Pt.l,Pt.r,Pt.b] k (aQl ns es os ss r x id i)).eval=((.ask (decide (i<(↑ns.length:Int))) (.must (decide ((0:Int)≤i)&&decide (i<(↑ns.length:Int))&&decide ((ns.getD i.toNat []).length=3)) (.must (decide (0+0<(ns.getD i.toNat []).length)&&C.is (K.int .i64) ((ns.getD i.toNat []).getD (0+0) (C.fn 0 []))&&true) (.ask (decide (((ns.getD i.toNat []).getD (0+0) (C.fn 0 [])).toInt=id)) (.ret [C.int .i64 i]) (H [Pt.r,Pt.l,Pt.r,Pt.b] k (aQl (ns) (es) (os) (ss) (r) (x) (id) (IntKind.i64.wrap (i+(1:Int)))))))) (.ret [C.int .i64 (-1)])):T (List C)).eval:=aAo (by kernel_rfl)
theorem aOm {A:Type} (p:A→Bool):∀ (l:List A) (i:Nat),aD3 p l i= -1∨((i:Int)≤aD3 p l i∧aD3 p l i<i+l.length)
 |[],i=>.inl rfl
 |x::r,i=>by
  simp only[aD3]
  split
  ·exact .inr ⟨Int.le_refl _,by simp;omega⟩
  ·rcases aOm p r (i+1)with h | h
   ·exact .inl h
   ·exact .inr ⟨by omega,by simp;omega⟩
theorem bJ2 (es:List En) (nm:List UInt8):aC8 es nm= -1∨(0≤aC8 es nm∧aC8 es nm<es.length):=by
 rcases aOm (bSa nm) es 0 with h | h
 ·exact .inl h
 ·refine .inr ?_
  unfold aC8
  omega
theorem aZ1 (ns:List Nd) (id:Int):aAv ns id= -1∨(0≤aAv ns id∧aAv ns id<ns.length):=by
 rcases aOm (bVu id) ns 0 with h | h
 ·exact .inl h
 ·refine .inr ?_
  unfold aAv
  omega
theorem cA2:aA9 Tryz.prog bWd:=aA8 (by simp[])
theorem aZb:aB0 Tryz.prog 171 (sg [aJm,pP] [rB]) aTa:=aA6 cA2 aAa Tryz.func171 (by kernel_rfl) fun cs outs hk h=>by
 unfold aTa at h
 split at h
 ·simp only[Option.some.injEq,Prod.mk.injEq,true_and]at h
  subst h
  rename_i n i nm
  rw[aAd,bSb]
  simp only[aA4,aA3,beq_iff_eq]
  split<;>simp_all
 ·cases h
theorem bZj:aA9 Tryz.prog bWa:=aA8 (by simp[])
theorem aZ4:aB0 Tryz.prog 173 (sg [bU3,pP] [rB]) aT5:=aA6 bZj aAa Tryz.func173 (by kernel_rfl) fun cs outs hk h=>by
 unfold aT5 at h
 split at h
 ·simp only[Option.some.injEq,Prod.mk.injEq,true_and]at h
  subst h
  rw[aAd,bRa]
  simp only[aA4,aA3,decide_eq_true_eq]
  split<;>simp_all
 ·cases h
theorem bRj (l:List En) (nm:List UInt8) (hl:l.length≤281474976710656):∀ (n i:Nat),i≤l.length→l.length<i+n →
  (aBn bM7 aAb (sg [pSl 100,pF] [rI]) Tryz.f170 [.r,.l,.r,.b] n (bM1 (l.map eEn) nm l.length i)).eval=some [.int .i64 (aD3 (bSa nm) (l.drop i) i)]:=by
 intro n
 induction n with
 |zero=>intro i h1 h2;omega
 |succ n ih =>
  intro i h1 h2
  rw[aAz _ _ _ _ _ _ _ (by kernel_rfl),bJk]
  by_cases hi:i<l.length
  ·have g:=aBa eEn l ⟨[],0⟩ i hi
   have w:IntKind.i64.wrap ((i:Int)+1)=((i+1:Nat):Int):=by rw[aAi]<;>omega
   have hz:(0:Int)≤i:=by omega
   have hi':(i:Int)<l.length:=by omega
   rw[aC3 l i ⟨[],0⟩ hi]
   generalize l.getD i ⟨[],0⟩=y at g ⊢
   simp only[aA2,aA4,aA3,if_true,decide_eq_true_eq,Bool.and_eq_true,w,hz,hi',Int.toNat_natCast,List.length_map,g,and_self,List.getD_cons_zero,List.getD_cons_succ,C.toStr,C.toInt,C.is,List.length_cons,List.length_nil,Nat.zero_add,Nat.reduceAdd,Nat.reduceLT,decide_true,beq_self_eq_true,aD3,bSa]
   by_cases hy:y.name=nm
   ·simp only[hy,if_true]
   ·simp only[hy,if_false]
    exact ih (i+1) (by omega) (by omega)
  ·have e:i=l.length:=by omega
   subst e
   have hi':¬((l.length:Int)<(l.length:Int)):=by omega
   simp only[aA4,aA3,decide_eq_true_eq,hi',if_false,List.drop_length,aD3]
theorem bZp:aA9 Tryz.prog bM7:=aA8 (by simp[aZb])
theorem bO7:aB0 Tryz.prog 170 (sg [pSl 100,pF] [rI]) bC0:=aA6 bZp aAa Tryz.func170 (by kernel_rfl) fun cs outs hk h=>by
 unfold bC0 at h
 split at h
 ·simp only[Option.some.injEq,Prod.mk.injEq,Bool.and_eq_true,decide_eq_true_eq]at h
  obtain⟨⟨rfl,h1,h2⟩,rfl⟩:=h
  rename_i rows nm
  have hr:=aKg h2
  generalize ens rows=l at hr ⊢
  subst hr
  rw[List.length_map]at h1
  rw[aAd,bRi]
  have:=bRj l nm h1 9223372036854775808 0 (by omega) (by have:l.length≤281474976710656:=h1;omega)
  rw[show (l.length:Int)=((l.map eEn).length:Int) by rw[List.length_map]]at this
  exact this
 ·cases h
theorem bRh (l:List Nd) (id:Int) (hl:l.length≤281474976710656):∀ (n i:Nat),i≤l.length→l.length<i+n →
  (aBn bM6 aAb (sg [pSl 94,pF] [rI]) Tryz.f172 [.r,.l,.r,.b] n (bM0 (l.map eNd) id l.length i)).eval=some [.int .i64 (aD3 (bVu id) (l.drop i) i)]:=by
 intro n
 induction n with
 |zero=>intro i h1 h2;omega
 |succ n ih =>
  intro i h1 h2
  rw[aAz _ _ _ _ _ _ _ (by kernel_rfl),bJj]
  by_cases hi:i<l.length
  ·have g:=aBa eNd l ⟨0,[],0⟩ i hi
   have w:IntKind.i64.wrap ((i:Int)+1)=((i+1:Nat):Int):=by rw[aAi]<;>omega
   have hz:(0:Int)≤i:=by omega
   have hi':(i:Int)<l.length:=by omega
   rw[aC3 l i ⟨0,[],0⟩ hi]
   generalize l.getD i ⟨0,[],0⟩=y at g ⊢
   simp only[aA2,aA4,aA3,if_true,decide_eq_true_eq,Bool.and_eq_true,w,hz,hi',Int.toNat_natCast,List.length_map,g,and_self,List.getD_cons_zero,List.getD_cons_succ,C.toStr,C.toInt,C.is,List.length_cons,List.length_nil,Nat.zero_add,Nat.reduceAdd,Nat.reduceLT,decide_true,beq_self_eq_true,aD3,bVu]
   by_cases hy:y.id=id
   ·simp only[hy,if_true]
   ·simp only[hy,if_false]
    exact ih (i+1) (by omega) (by omega)
  ·have e:i=l.length:=by omega
   subst e
   have hi':¬((l.length:Int)<(l.length:Int)):=by omega
   simp only[aA4,aA3,decide_eq_true_eq,hi',if_false,List.drop_length,aD3]
theorem bZo:aA9 Tryz.prog bM6:=aA8 (by simp[aZ4])
theorem bO6:aB0 Tryz.prog 172 (sg [pSl 94,pF] [rI]) bBz:=aA6 bZo aAa Tryz.func172 (by kernel_rfl) fun cs outs hk h=>by
 unfold bBz at h
 split at h
 ·simp only[Option.some.injEq,Prod.mk.injEq,Bool.and_eq_true,decide_eq_true_eq]at h
  obtain⟨⟨rfl,h1,h2⟩,rfl⟩:=h
  rename_i rows id
  have hr:=aMh h2
  generalize nds rows=l at hr ⊢
  subst hr
  rw[List.length_map]at h1
  rw[aAd,bRg]
  have:=bRh l id h1 9223372036854775808 0 (by omega) (by have:l.length≤281474976710656:=h1;omega)
  rw[show (l.length:Int)=((l.map eNd).length:Int) by rw[List.length_map]]at this
  exact this
 ·cases h
theorem bNt:aA9 Tryz.prog aZw:=aA8 (by simp[aZb,bO7])
theorem aXz:aB0 Tryz.prog 159 (sg [pSl 100,pS] [rI]) aV7:=aA6 bNt aAa Tryz.func159 (by kernel_rfl) fun cs outs hk h=>by
 unfold aV7 at h
 split at h
 ·simp only[Option.some.injEq,Prod.mk.injEq,Bool.and_eq_true,decide_eq_true_eq]at h
  obtain⟨⟨h1,h2⟩,rfl⟩:=h
  rw[aAd,bBk]
  simp only[kEn]at h2
  simp only[aA2,aA3,h1,h2,decide_true,Bool.and_self,if_true]
 ·cases h
theorem bR4:aA9 Tryz.prog bHf:=aA8 (by simp[aZ4,bO6])
theorem bBp:aB0 Tryz.prog 160 (sg [aB4,pI] [rI]) aEt:=aA6 bR4 aAa Tryz.func160 (by kernel_rfl) fun cs outs hk h=>by
 unfold aEt at h
 split at h
 ·simp only[Option.some.injEq,Prod.mk.injEq,Bool.and_eq_true,decide_eq_true_eq]at h
  obtain⟨⟨h1,h2⟩,rfl⟩:=h
  rw[aAd,bFm]
  simp only[kNd]at h2
  simp only[aA2,aA3,h1,h2,decide_true,Bool.and_self,if_true]
 ·cases h
theorem cA1 (l:List En) (nm:List UInt8) (i:Nat) (hi:i<l.length):aD3 (bSa nm) (l.drop i) i=if (l.getD i ⟨[],0⟩).name=nm then (i:Int)else aD3 (bSa nm) (l.drop (i+1)) (i+1):=by
 rw[aC3 l i ⟨[],0⟩ hi]
 simp only[aD3,bSa,decide_eq_true_eq]
theorem cBh (l:List Nd) (id:Int) (i:Nat) (hi:i<l.length):aD3 (bVu id) (l.drop i) i=if (l.getD i ⟨0,[],0⟩).id=id then (i:Int)else aD3 (bVu id) (l.drop (i+1)) (i+1):=by
 rw[aC3 l i ⟨0,[],0⟩ hi]
 simp only[aD3,bVu,decide_eq_true_eq]
theorem bK9 (l:List En) (nm:List UInt8) (hl:l.length≤281474976710656):∀ (n i:Nat),i≤l.length→l.length<i+n→aC8 l nm=aD3 (bSa nm) (l.drop i) i →
  (aBn aTs aAb (sg [pSl 100,pS] [rI]) Tryz.f93 [.r,.l,.r,.b] n (aTk (l.map eEn) nm i)).eval=some [.int .i64 (aB7 l nm)]:=by
 intro n
 induction n with
 |zero=>intro i h1 h2;omega
 |succ n ih =>
  intro i h1 h2 h3
  rw[aAz _ _ _ _ _ _ _ (by kernel_rfl),bD0]
  by_cases hi:i<l.length
  ·have g:=aBa eEn l ⟨[],0⟩ i hi
   have w:IntKind.i64.wrap ((i:Int)+1)=((i+1:Nat):Int):=by rw[aAi]<;>omega
   have hz:(0:Int)≤i:=by omega
   have hi':(i:Int)<l.length:=by omega
   rw[cA1 l nm i hi]at h3
   simp only[aA2,aA4,aA3,if_true,decide_eq_true_eq,Bool.and_eq_true,w,hz,hi',Int.toNat_natCast,List.length_map,g,and_self,List.getD_cons_zero,List.getD_cons_succ,C.toStr,C.toInt,C.is,List.length_cons,List.length_nil,Nat.zero_add,Nat.add_zero,Nat.reduceAdd,Nat.reduceLT,decide_true,beq_self_eq_true,beq_iff_eq]
   by_cases hy:(l.getD i ⟨[],0⟩).name=nm
   ·simp only[if_pos hy]at h3 ⊢
    have:¬((i:Int)<0):=by omega
    unfold aB7
    rw[h3,if_neg this,Int.toNat_natCast]
   ·simp only[if_neg hy]at h3 ⊢
    exact ih (i+1) (by omega) (by omega) h3
  ·have e:i=l.length:=by omega
   subst e
   have hi':¬((l.length:Int)<(l.length:Int)):=by omega
   rw[List.drop_length]at h3
   simp only[aA4,aA3,decide_eq_true_eq,hi',if_false,List.length_map]
   unfold aB7
   rw[h3]
   rfl
theorem bV4:aA9 Tryz.prog aTs:=aA8 (by simp[])
theorem aHd:aB0 Tryz.prog 93 (sg [pSl 100,pS] [rI]) aIg:=aA6 bV4 aAa Tryz.func93 (by kernel_rfl) fun cs outs hk h=>by
 unfold aIg at h
 split at h
 ·simp only[Option.some.injEq,Prod.mk.injEq,Bool.and_eq_true,decide_eq_true_eq]at h
  obtain⟨⟨h1,h2⟩,rfl⟩:=h
  rename_i rows nm
  have hr:=aKg h2
  generalize ens rows=l at hr ⊢
  subst hr
  rw[List.length_map]at h1
  rw[aAd,bK8]
  exact bK9 l nm h1 9223372036854775808 0 (by omega) (by have:l.length≤281474976710656:=h1;omega) rfl
 ·cases h
theorem bK2 (l:List En) (nm:List UInt8) (hl:l.length≤281474976710656):∀ (n i:Nat),i≤l.length→l.length<i+n→aC8 l nm=aD3 (bSa nm) (l.drop i) i →
  (aBn aTr aAb (sg [pSl 100,pS] [rB]) Tryz.f94 [.r,.l,.r,.b] n (aTj (l.map eEn) nm i)).eval=some [.bool (aG7 l nm)]:=by
 intro n
 induction n with
 |zero=>intro i h1 h2;omega
 |succ n ih =>
  intro i h1 h2 h3
  rw[aAz _ _ _ _ _ _ _ (by kernel_rfl),bCn]
  by_cases hi:i<l.length
  ·have g:=aBa eEn l ⟨[],0⟩ i hi
   have w:IntKind.i64.wrap ((i:Int)+1)=((i+1:Nat):Int):=by rw[aAi]<;>omega
   have hz:(0:Int)≤i:=by omega
   have hi':(i:Int)<l.length:=by omega
   rw[cA1 l nm i hi]at h3
   simp only[aA2,aA4,aA3,if_true,decide_eq_true_eq,Bool.and_eq_true,w,hz,hi',Int.toNat_natCast,List.length_map,g,and_self,List.getD_cons_zero,List.getD_cons_succ,C.toStr,C.toInt,C.is,List.length_cons,List.length_nil,Nat.zero_add,Nat.add_zero,Nat.reduceAdd,Nat.reduceLT,decide_true,beq_self_eq_true,beq_iff_eq]
   by_cases hy:(l.getD i ⟨[],0⟩).name=nm
   ·simp only[if_pos hy]at h3 ⊢
    have:(0:Int)≤i:=by omega
    unfold aG7
    rw[h3,decide_eq_true this]
   ·simp only[if_neg hy]at h3 ⊢
    exact ih (i+1) (by omega) (by omega) h3
  ·have e:i=l.length:=by omega
   subst e
   have hi':¬((l.length:Int)<(l.length:Int)):=by omega
   rw[List.drop_length]at h3
   simp only[aA4,aA3,decide_eq_true_eq,hi',if_false,List.length_map]
   unfold aG7
   rw[h3]
   rfl
theorem bUv:aA9 Tryz.prog aTr:=aA8 (by simp[])
theorem aEn:aB0 Tryz.prog 94 (sg [pSl 100,pS] [rB]) aFz:=aA6 bUv aAa Tryz.func94 (by kernel_rfl) fun cs outs hk h=>by
 unfold aFz at h
 split at h
 ·simp only[Option.some.injEq,Prod.mk.injEq,Bool.and_eq_true,decide_eq_true_eq]at h
  obtain⟨⟨h1,h2⟩,rfl⟩:=h
  rename_i rows nm
  have hr:=aKg h2
  generalize ens rows=l at hr ⊢
  subst hr
  rw[List.length_map]at h1
  rw[aAd,bK1]
  exact bK2 l nm h1 9223372036854775808 0 (by omega) (by have:l.length≤281474976710656:=h1;omega) rfl
 ·cases h
theorem bEa (l:List Nd) (es os ss:List (List C)) (r x id:Int) (hl:l.length≤281474976710656):∀ (n i:Nat),i≤l.length→l.length<i+n →
  (aBn aQr aAb (sg [aB4,pI] [rI]) Tryz.f92 [.r,.l,.r,.b] n (aQl (l.map eNd) es os ss r x id i)).eval=some [.int .i64 (aD3 (bVu id) (l.drop i) i)]:=by
 intro n
 induction n with
 |zero=>intro i h1 h2;omega
 |succ n ih =>
  intro i h1 h2
  rw[aAz _ _ _ _ _ _ _ (by kernel_rfl),aXk]
  by_cases hi:i<l.length
  ·have g:=aBa eNd l ⟨0,[],0⟩ i hi
   have w:IntKind.i64.wrap ((i:Int)+1)=((i+1:Nat):Int):=by rw[aAi]<;>omega
   have hz:(0:Int)≤i:=by omega
   have hi':(i:Int)<l.length:=by omega
   rw[cBh l id i hi]
   simp only[aA2,aA4,aA3,if_true,decide_eq_true_eq,Bool.and_eq_true,w,hz,hi',Int.toNat_natCast,List.length_map,g,and_self,List.getD_cons_zero,List.getD_cons_succ,C.toStr,C.toInt,C.is,List.length_cons,List.length_nil,Nat.zero_add,Nat.add_zero,Nat.reduceAdd,Nat.reduceLT,decide_true,beq_self_eq_true]
   by_cases hy:(l.getD i ⟨0,[],0⟩).id=id
   ·simp only[if_pos hy]
   ·simp only[if_neg hy]
    exact ih (i+1) (by omega) (by omega)
  ·have e:i=l.length:=by omega
   subst e
   have hi':¬((l.length:Int)<(l.length:Int)):=by omega
   simp only[aA4,aA3,decide_eq_true_eq,hi',if_false,List.drop_length,aD3,List.length_map]
theorem bPr:aA9 Tryz.prog aQr:=aA8 (by simp[])
theorem aHt:aB0 Tryz.prog 92 (sg [aB4,pI] [rI]) aEt:=aA6 bPr aAa Tryz.func92 (by kernel_rfl) fun cs outs hk h=>by
 unfold aEt at h
 split at h
 ·simp only[Option.some.injEq,Prod.mk.injEq,Bool.and_eq_true,decide_eq_true_eq]at h
  obtain⟨⟨h1,h2⟩,rfl⟩:=h
  rename_i ns es os ss r x id
  have hr:=aMh h2
  generalize nds ns=l at hr ⊢
  subst hr
  rw[List.length_map]at h1
  rw[aAd,bE9]
  exact bEa l es os ss r x id h1 9223372036854775808 0 (by omega) (by have:l.length≤281474976710656:=h1;omega)
 ·cases h
theorem bBr {ns es:List (List C)}:bFp ns es=true↔ns.length≤aK9∧es.length≤aK9∧aAt kNd ns=true∧aAt kEn es=true:=by simp[bFp,and_assoc]
theorem bUf (es:List En) (nm:List UInt8) (h:¬aC8 es nm<0):(aC8 es nm).toNat<es.length∧0≤aC8 es nm∧aC8 es nm<es.length:=by
 rcases bJ2 es nm with h1 | h1<;>omega
theorem bJ8 (ns:List Nd) (id:Int) (h:¬aAv ns id<0):(aAv ns id).toNat<ns.length∧0≤aAv ns id∧aAv ns id<ns.length:=by
 rcases aZ1 ns id with h1 | h1<;>omega
theorem bR5:aA9 Tryz.prog bHg:=aA8 (by simp[aXz,bBp])
theorem bBq:aB0 Tryz.prog 146 (sg [aB4,pS] [rI]) aRe:=aA6 bR5 aAa Tryz.func146 (by kernel_rfl) fun cs outs hk h=>by
 unfold aRe at h
 split at h
 ·simp only[Option.some.injEq,Prod.mk.injEq,bBr]at h
  obtain⟨⟨h1,h2,h3,h4⟩,rfl⟩:=h
  rename_i ns es os ss r x nm
  have hr:=aKg h4
  rw[aAd,bFn]
  simp only[kNd]at h3
  simp only[kEn]at h4
  simp only[aA2,aA4,aA3,h1,h2,h3,h4,decide_true,Bool.and_self,if_true]
  generalize ens es=l at hr ⊢
  subst hr
  unfold aDy
  simp only[decide_eq_true_eq,List.length_map]
  by_cases hp:aC8 l nm<0
  ·simp only[hp,if_true]
  ·obtain⟨c1,c2,c3⟩:=bUf l nm hp
   have g:=aBa eEn l ⟨[],0⟩ (aC8 l nm).toNat c1
   unfold aB7
   simp only[hp,if_false,c2,c3,g,List.getD_cons_zero,List.getD_cons_succ,C.toStr,C.toInt,C.is,List.length_cons,List.length_nil,Nat.zero_add,Nat.add_zero,Nat.reduceAdd,Nat.reduceLT,decide_true,beq_self_eq_true,Bool.and_self,if_true]
 ·cases h
theorem bVt (l:List Nd) (i:Nat) (hi:i<l.length):(l.map eNd).getD i []=[.int .i64 (l.getD i ⟨0,[],0⟩).id,.str (l.getD i ⟨0,[],0⟩).text,.int .i64 (l.getD i ⟨0,[],0⟩).sure]:=aBa eNd l ⟨0,[],0⟩ i hi
theorem bGe (es:List En) (nm:List UInt8):aG7 es nm=true↔¬aC8 es nm<0:=by simp[aG7]
theorem bPs:aA9 Tryz.prog bH6:=aA8 (by simp[aHd,aEn,aHt])
theorem bAx:aB0 Tryz.prog 68 (sg [aB4,pS] [bNr,rB]) aI1:=aA6 bPs aAa Tryz.func68 (by kernel_rfl) fun cs outs hk h=>by
 unfold aI1 at h
 split at h
 ·simp only[Option.some.injEq,Prod.mk.injEq,bBr]at h
  obtain⟨⟨h1,h2,h3,h4⟩,rfl⟩:=h
  rename_i ns es os ss r x nm
  have hr:=aMh h3
  rw[aAd,bEb]
  simp only[kNd]at h3
  simp only[kEn]at h4
  simp only[aA2,aA4,aA3,h1,h2,h3,h4,decide_true,Bool.and_self,if_true]
  generalize nds ns=l at hr ⊢
  subst hr
  generalize ens es=m
  unfold cAy aIs bR8 bGd bYi aDy
  simp only[decide_eq_true_eq,List.length_map]
  by_cases hp:aC8 m nm<0
  ·have he:aG7 m nm=false:=by cases hh:aG7 m nm with | false=>rfl | true=>exact absurd hp ((bGe m nm).1 hh)
   have d1:(-1:Int)<0:=by decide
   have d2:¬(0:Int)≤ -1:=by decide
   simp only[he,hp,if_true,Bool.false_eq_true,if_false,ite_self,d1,d2,decide_false]
  ·have he:aG7 m nm=true:=(bGe m nm).2 hp
   by_cases hn:aAv l (aB7 m nm)<0
   ·have:¬(0:Int)≤aAv l (aB7 m nm):=by omega
    simp only[hp,hn,if_true,if_false,this,decide_false]
   ·obtain⟨c1,c2,c3⟩:=bJ8 l (aB7 m nm) hn
    have g:=bVt l (aAv l (aB7 m nm)).toNat c1
    simp only[he,hp,hn,if_false,c2,c3,g,List.getD_cons_zero,List.getD_cons_succ,C.toStr,C.toInt,C.is,List.length_cons,List.length_nil,Nat.zero_add,Nat.add_zero,Nat.reduceAdd,Nat.reduceLT,decide_true,beq_self_eq_true,Bool.and_self,if_true]
 ·cases h
theorem bRo:aA9 Tryz.prog bHi:=aA8 (by simp[bBq])
theorem bCc:aB0 Tryz.prog 114 (sg [aB4,pS] [bNr,rB]) aI1:=aA6 bRo aAa Tryz.func114 (by kernel_rfl) fun cs outs hk h=>by
 unfold aI1 at h
 split at h
 ·simp only[Option.some.injEq,Prod.mk.injEq]at h
  obtain⟨h0,rfl⟩:=h
  obtain⟨h1,h2,h3,h4⟩:=bBr.1 h0
  rename_i ns es os ss r x nm
  have hr:=aMh h3
  rw[aAd,bG7]
  simp only[aA2,h0,if_true]
  generalize nds ns=l at hr ⊢
  subst hr
  generalize ens es=m
  unfold cAy aIs bR8 bGd bYi
  simp only[aA2,aA4,aA3,decide_eq_true_eq,List.length_map]
  by_cases hn:aDy l m nm<0
  ·have:¬(0:Int)≤aDy l m nm:=by omega
   simp only[hn,if_true,this,decide_false]
  ·have hp:¬aC8 m nm<0:=fun hp=>hn (by unfold aDy;rw[if_pos hp];decide)
   have e:aDy l m nm=aAv l (aB7 m nm):=if_neg hp
   rw[e]at hn ⊢
   obtain⟨c1,c2,c3⟩:=bJ8 l (aB7 m nm) hn
   have g:=bVt l (aAv l (aB7 m nm)).toNat c1
   simp only[hn,if_false,c2,c3,g,List.getD_cons_zero,List.getD_cons_succ,C.toStr,C.toInt,C.is,List.length_cons,List.length_nil,Nat.zero_add,Nat.add_zero,Nat.reduceAdd,Nat.reduceLT,decide_true,beq_self_eq_true,Bool.and_self,if_true]
 ·cases h
theorem bIa:aA9 Tryz.prog aWv:=aA8 (by simp[bAx])
theorem aUh:aB0 Tryz.prog 52 (sg [aB4,pS] [rS,rB]) aFj:=aA6 bIa aAa Tryz.func52 (by kernel_rfl) fun cs outs hk h=>by
 unfold aFj at h
 split at h
 ·simp only[Option.some.injEq,Prod.mk.injEq]at h
  obtain⟨h0,rfl⟩:=h
  rw[aAd,aXh]
  simp only[aA2,aA4,aA3,h0,if_true]
  split<;>simp_all
 ·cases h
theorem bJv:aA9 Tryz.prog aX1:=aA8 (by simp[bCc])
theorem aVs:aB0 Tryz.prog 79 (sg [aB4,pS] [rS,rB]) aFj:=aA6 bJv aAa Tryz.func79 (by kernel_rfl) fun cs outs hk h=>by
 unfold aFj at h
 split at h
 ·simp only[Option.some.injEq,Prod.mk.injEq]at h
  obtain⟨h0,rfl⟩:=h
  rw[aAd,aY8]
  simp only[aA2,aA4,aA3,h0,if_true]
  split<;>simp_all
 ·cases h
theorem bPn:aA9 Tryz.prog bH3:=aA8 (by simp[aFs,aUh])
theorem aPe:aB0 Tryz.prog 35 (sg [aB4,pI] [rS]) aGf:=aA6 bPn aAa Tryz.func35 (by kernel_rfl) fun cs outs hk h=>by
 unfold aGf at h
 split at h
 ·simp only[Option.some.injEq,Prod.mk.injEq]at h
  obtain⟨h0,rfl⟩:=h
  rw[aAd,bDy]
  simp only[aA2,aA4,aA3,h0,if_true,aBd,ite_self]
 ·cases h
theorem bRn:aA9 Tryz.prog bHh:=aA8 (by simp[aQ4,aVs])
theorem bC4:aB0 Tryz.prog 60 (sg [aB4,pI] [rS]) aGf:=aA6 bRn aAa Tryz.func60 (by kernel_rfl) fun cs outs hk h=>by
 unfold aGf at h
 split at h
 ·simp only[Option.some.injEq,Prod.mk.injEq]at h
  obtain⟨h0,rfl⟩:=h
  rw[aAd,bG4]
  simp only[aA2,aA4,aA3,h0,if_true,aBd,ite_self]
 ·cases h
noncomputable section
def aPz (l:Int) (r:List UInt8):Int:=(aB1 (aJn l) (aAj r.length 4++r):Nat)
def aJc (l:Int) (rs:List (List UInt8)):Int:=rs.foldl aPz l
def aO0 (b:List UInt8) (base link:Int):Bool:=aAe b&&decide (rhB b=base)&&decide (rhL b=link)
def aQ0 (b:List UInt8):Int:=aJc (ifI (aAe b) (rhL b)) (aB8 b)
def aTw (n:Nat) (rows:List (List C)):Bool:=(aCm rows).all fun x=>decide (x.length≤n)
def aEl:aCh:=fun cs=>match cs with
 |[.int .i64 l,.str r]=>some (decide (r.length≤1048576),[.int .i64 (aPz l r)])
 |_=>none
def aOl:aCh:=fun cs=>match cs with
 |[.int .i64 l,.sl rows]=>some (decide (rows.length≤1048576)&&(aAt [.str] rows&&aTw 1048576 rows),[.int .i64 (aJc l (aCm rows))])
 |_=>none
def aI5:aCh:=fun cs=>match cs with
 |[.str b,.int .i64 base,.int .i64 link]=>some (decide (b.length≤1048576),[.bool (aO0 b base link)])
 |_=>none
def aHu:aCh:=fun cs=>match cs with
 |[.str b]=>some (decide (b.length≤1048576),[.sl ((aB8 b).map aAn)])
 |_=>none
def aKl:aCh:=fun cs=>match cs with
 |[.str b]=>some (decide (b.length≤1048576),[.int .i64 (aQ0 b)])
 |_=>none
def aN1 (l:Int) (r:List (List C)) (n i:Int):St:=st0 [(0,aBc l),(7,.l (.sl r)),(8,aBc n),(9,aBc i)]
def aJ0 (ok mk:Bool) (v s q l e:Int) (n:Nat) (r:List (List C)) (m:Nat) (o:List (List C)) (acc i:Int):St:={slots:=[(3,.l (.ptr 0 0)),(4,aBc acc),(5,aBc i)],heap:=[(0,.box [.b ok,.i .i64 v,.i .i64 s,.i .i64 q,.i .i64 l,.ref 1 0 n,.ref 2 0 m,.i .i64 e,.b mk]),(1,.arr 1 r),(2,.arr 1 o)],next:=3,pins:=[]}
def aWw:Env:=mkE [] [(87,(sg [pI,pS] [rI]),aEf),(88,(sg [pI,pI] [rS]),aGo)]
def aX2:Env:=mkE [] [(121,(sg [pI,pS] [rI]),aEf),(122,(sg [pI,pI] [rS]),aGo)]
def aNf:Env:=mkE [(2,[0,7,8,9])] [(84,(sg [pI,pS] [rI]),aEl)]
def bHb:Env:=mkE [] [(64,(sg [pS] [aV0,rB]),aDn)]
def bHl:Env:=mkE [] [(81,(sg [pS] [aV0,rB]),aDn)]
def aSe:Env:=mkE [] [(51,(sg [pS] [aOk]),aKd)]
def aJ2:Env:=mkE [(4,[3,4,5])] [(51,(sg [pS] [aOk]),aKd),(65,(sg [pI,pS] [rI]),aEl)]
abbrev Lk:=Int×List UInt8
def aHo (ns:List Nd) (es:List En):Nat→Int→Int→List Lk
 |0,_,_=>[]
 |f+1,base,sum =>
  if aO0 (aBd ns es base) base sum&&decide ((aB8 (aBd ns es base)).length≠0)then
   (base,aBd ns es base)::aHo ns es f (base+(aB8 (aBd ns es base)).length) (aJc sum (aB8 (aBd ns es base)))
  else[]
def aB2 (ns:List Nd) (es:List En):List Lk:=aHo ns es 16 0 0
abbrev eLk (x:Lk):List C:=[.int .i64 x.1,.str x.2,.bool (aAe x.2),.int .i64 (ifI (aAe x.2) (rhV x.2)),.int .i64 (ifI (aAe x.2) (rhS x.2)),.int .i64 (ifI (aAe x.2) (rhB x.2)),.int .i64 (ifI (aAe x.2) (rhL x.2)),
 .sl ((aB8 x.2).map aAn),.sl ((aGc x.2).map aL7),.int .i64 (bHy x.2),.bool (aU2 x.2)]
def aL6 (l:List Lk):List (List C):=l.map eLk
def aDw (l:List Lk):List (List C):=l.map fun x=>aL7 x.1
def aAl (l:List Lk):List (List UInt8):=l.flatMap fun x=>aB8 x.2
def aKr (ns es:List (List C)):Bool:=bFp ns es&&(nds ns).all fun x=>decide (x.text.length≤1048576)
def aVd:aCh:=fun cs=>match cs with
 |[.sl ns,.sl es,.sl _,.sl _,.int .i64 _,.int .i64 _]=>some (aKr ns es,[.sl (aL6 (aB2 (nds ns) (ens es)))])
 |_=>none
def aWf:aCh:=fun cs=>match cs with
 |[.sl ns,.sl es,.sl _,.sl _,.int .i64 _,.int .i64 _]=>some (aKr ns es,[.sl (aDw (aB2 (nds ns) (ens es)))])
 |_=>none
def aEh:aCh:=fun cs=>match cs with
 |[.sl ns,.sl es,.sl _,.sl _,.int .i64 _,.int .i64 _]=>some (aKr ns es,[.sl ((aAl (aB2 (nds ns) (ens es))).map aAn)])
 |_=>none
def aRg:aCh:=fun cs=>match cs with
 |[.sl ns,.sl es,.sl _,.sl _,.int .i64 _,.int .i64 _]=>some (aKr ns es,[.int .i64 (aAl (aB2 (nds ns) (ens es))).length])
 |_=>none
abbrev bKc (ns es os ss:List (List C)) (r x:Int):Blk:=.box [.sl ns,.sl es,.sl os,.sl ss,.i .i64 r,.i .i64 x]
def aTg (ns es os ss:List (List C)) (r x:Int) (n:Nat) (o:List (List C)) (base sum:Int):St:={slots:=[(1,.l (.ptr 0 0)),(3,.l (.ref 1 0 n)),(4,aBc base),(5,aBc sum)],heap:=[(0,bKc ns es os ss r x),(1,.arr 11 o)],next:=2,pins:=[]}
def aTf (ns es os ss:List (List C)) (r x:Int) (n:Nat) (o:List (List C)) (base sum:Int):St:={slots:=[(1,.l (.ptr 0 0)),(3,.l (.ref 1 0 n)),(4,aBc base),(5,aBc sum)],heap:=[(0,bKc ns es os ss r x),(1,.arr 1 o)],next:=2,pins:=[]}
def aTe (ns es os ss:List (List C)) (r x:Int) (n:Nat) (o:List (List C)) (m:Nat) (bs:List (List C)) (i:Int):St:={slots:=[(1,.l (.ptr 0 0)),(3,.l (.ref 1 0 n)),(4,.l (.ref 2 0 m)),(5,aBc i)],heap:=[(0,bKc ns es os ss r x),(1,.arr 1 o),(2,.arr 1 bs)],next:=3,pins:=[]}
def aTi (n:Nat) (o:List (List C)) (m:Nat) (ls:List (List C)) (k i:Int):St:={slots:=[(3,.l (.ref 0 0 n)),(8,.l (.ref 1 0 m)),(9,aBc k),(10,aBc i)],heap:=[(0,.arr 1 o),(1,.arr 11 ls)],next:=2,pins:=[]}
def aTn:Env:=mkE [(3,[1,3,4,5])] [(61,(sg [pS] [aOk]),aKd),(60,(sg [aB4,pI] [rS]),aGf),(63,(sg [pI,pSl 9] [rI]),aOl),(62,(sg [pS,pI,pI] [rB]),aI5)]
def aTm:Env:=mkE [(4,[1,3,4,5])] [(35,(sg [aB4,pI] [rS]),aGf),(49,(sg [pS,pI,pI] [rB]),aI5),(34,(sg [pS] [rSl 9]),aHu),(50,(sg [pS] [rI]),aKl)]
def aTl:Env:=mkE [(4,[1,3,4,5])] [(35,(sg [aB4,pI] [rS]),aGf),(34,(sg [pS] [rSl 9]),aHu),(33,(sg [aB4] [rSl 3]),aWf)]
def aTq:Env:=mkE [(3,[3,8,9,10])] [(48,(⟨[aB4],[rSl 62],true⟩),aVd)]
def bH8:Env:=mkE [] [(10,(sg [aB4] [rSl 9]),aEh)]
end
theorem aXo (H:List Pt→Nat→St→T (List C)) (l:Int) (r:List UInt8):(aAm aWw aAb (sg [pI,pS] [rI]) Tryz.f65 H [C.int .i64 l,C.str r]).eval=((.must (decide ((-9223372036854775808:Int)≤(↑r.length:Int))&&decide ((↑r.length:Int)≤(9223372036854775807:Int))) (.must (decide ((aAj (↑r.length:Int) 4).length+r.length≤9223372036854775807)) (.must (decide ((aAj (↑r.length:Int) 4++r).length≤281474976710656)) (.ret [C.int .i64 (Int.ofNat (aB1 (aJn l) (aAj (↑r.length:Int) 4++r)))])))):T (List C)).eval:=aAo (by kernel_rfl)
theorem aYb (H:List Pt→Nat→St→T (List C)) (l:Int) (r:List UInt8):(aAm aX2 aAb (sg [pI,pS] [rI]) Tryz.f84 H [C.int .i64 l,C.str r]).eval=((.must (decide ((-9223372036854775808:Int)≤(↑r.length:Int))&&decide ((↑r.length:Int)≤(9223372036854775807:Int))) (.must (decide ((aAj (↑r.length:Int) 4).length+r.length≤9223372036854775807)) (.must (decide ((aAj (↑r.length:Int) 4++r).length≤281474976710656)) (.ret [C.int .i64 (Int.ofNat (aB1 (aJn l) (aAj (↑r.length:Int) 4++r)))])))):T (List C)).eval:=aAo (by kernel_rfl)
theorem bBu (H:List Pt→Nat→St→T (List C)) (l:Int) (r:List (List C)):(aAm aNf aAb (sg [pI,pSl 9] [rI]) Tryz.f63 H [C.int .i64 l,C.sl r]).eval=((H [Pt.r,Pt.l,Pt.r,Pt.b] 9223372036854775808 (aN1 (l) (r) ((↑r.length:Int)) ((0:Int)))):T (List C)).eval:=aAo (by kernel_rfl)
theorem bEl (H:List Pt→Nat→St→T (List C)) (b:List UInt8) (x:Int) (l:Int):(aAm bHb aAb (sg [pS,pI,pI] [rB]) Tryz.f49 H [C.str b,C.int .i64 x,C.int .i64 l]).eval=((.must (decide (b.length≤281474976710656)) (.ask (aAe b) (.ask (decide (ifI (aAe b) (rhB b)=x)) (.ask (decide (ifI (aAe b) (rhL b)=l)) (.ret [C.bool true]) (.ret [C.bool false])) (.ret [C.bool false])) (.ret [C.bool false]))):T (List C)).eval:=aAo (by kernel_rfl)
theorem bGb (H:List Pt→Nat→St→T (List C)) (b:List UInt8) (x:Int) (l:Int):(aAm bHl aAb (sg [pS,pI,pI] [rB]) Tryz.f62 H [C.str b,C.int .i64 x,C.int .i64 l]).eval=((.must (decide (b.length≤281474976710656)) (.ask (aAe b) (.ask (decide (ifI (aAe b) (rhB b)=x)) (.ask (decide (ifI (aAe b) (rhL b)=l)) (.ret [C.bool true]) (.ret [C.bool false])) (.ret [C.bool false])) (.ret [C.bool false]))):T (List C)).eval:=aAo (by kernel_rfl)
theorem aUd (H:List Pt→Nat→St→T (List C)) (b:List UInt8):(aAm aSe aAb (sg [pS] [rSl 9]) Tryz.f34 H [C.str b]).eval=((.must (decide (b.length≤1048576)) (.must (decide (0<1)&&true&&(decide (0<1)&&true&&(decide (0<1)&&true&&(decide (0<1)&&true&&(decide (0<1)&&true&&((true&&(List.map aAn (aB8 b)).all fun row=>decide (row.length=1))&&((true&&(List.map aL7 (aGc b)).all fun row=>decide (row.length=1))&&(decide (0<1)&&true&&(decide (0<1)&&true&&true))))))))&&true&&true) (.must (decide ((List.map aAn (aB8 b)).length=(List.map aAn (aB8 b)).length)&&(false||(List.map aAn (aB8 b)).all fun r=>r.all C.flat)&&true&&true&&true) (.ret [C.sl (List.map aAn (aB8 b))])))):T (List C)).eval:=aAo (by kernel_rfl)
theorem aUl (H:List Pt→Nat→St→T (List C)) (b:List UInt8):(aAm aJ2 aAb (sg [pS] [rI]) Tryz.f50 H [C.str b]).eval=((.must (decide (b.length≤1048576)) (.must (decide (0<1)&&true&&(decide (0<1)&&true&&(decide (0<1)&&true&&(decide (0<1)&&true&&(decide (0<1)&&true&&((true&&(List.map aAn (aB8 b)).all fun row=>decide (row.length=1))&&((true&&(List.map aL7 (aGc b)).all fun row=>decide (row.length=1))&&(decide (0<1)&&true&&(decide (0<1)&&true&&true))))))))&&true&&true) (H [Pt.r,Pt.r,Pt.r,Pt.l,Pt.r,Pt.b] 9223372036854775808 (aJ0 (aAe b) (aU2 b) (ifI (aAe b) (rhV b)) (ifI (aAe b) (rhS b)) (ifI (aAe b) (rhB b)) (ifI (aAe b) (rhL b)) (bHy b) ((List.map aAn (aB8 b)).length) (List.map aAn (aB8 b)) ((List.map aL7 (aGc b)).length) (List.map aL7 (aGc b)) (ifI (aAe b) (rhL b)) ((0:Int)))))):T (List C)).eval:=aAo (by kernel_rfl)
theorem aVe (H:List Pt→Nat→St→T (List C)) (l:Int) (r:List (List C)) (n:Int) (i:Int) (k:Nat):(aBk aNf aAb (sg [pI,pSl 9] [rI]) Tryz.f63 H [Pt.r,Pt.l,Pt.r,Pt.b] k (aN1 l r n i)).eval=((.ask (decide (i<n)) (.must (decide ((0:Int)≤i)&&decide (i<(↑r.length:Int))&&decide ((r.getD i.toNat []).length=1)) (.must (decide (0<(r.getD i.toNat []).length)&&C.is K.str ((r.getD i.toNat []).getD 0 (C.fn 0 []))&&true) (.must (decide (((r.getD i.toNat []).getD 0 (C.fn 0 [])).toStr.length≤1048576)) (H [Pt.r,Pt.l,Pt.r,Pt.b] k (aN1 (aPz l ((r.getD i.toNat []).getD 0 (C.fn 0 [])).toStr) (r) (n) (IntKind.i64.wrap (i+(1:Int)))))))) (.ret [C.int .i64 l])):T (List C)).eval:=aAo (by kernel_rfl)
theorem aR9 (H:List Pt→Nat→St→T (List C)) (ok:Bool) (mk:Bool) (v:Int) (s:Int) (q:Int) (l:Int) (e:Int) (n:Nat) (r:List (List C)) (m2:Nat) (o:List (List C)) (acc:Int) (i:Int) (k:Nat):(aBk aJ2 aAb (sg [pS] [rI]) Tryz.f50 H [Pt.r,Pt.r,Pt.r,Pt.l,Pt.r,Pt.b] k (aJ0 ok mk v s q l e n r m2 o acc i)).eval=((.ask (decide (i<(↑n:Int))) (.must (decide ((0:Int)≤i)&&decide (i<(↑n:Int))) (.must (decide (0+i.toNat<r.length)&&(decide (0<(r.getD (0+i.toNat) []).length)&&C.is K.str ((r.getD (0+i.toNat) []).getD 0 (C.fn 0 []))&&true)) (.must (decide (((r.getD (0+i.toNat) []).getD 0 (C.fn 0 [])).toStr.length≤1048576)) (H [Pt.r,Pt.r,Pt.r,Pt.l,Pt.r,Pt.b] k (aJ0 (ok) (mk) (v) (s) (q) (l) (e) (n) (r) (m2) (o) (aPz acc ((r.getD (0+i.toNat) []).getD 0 (C.fn 0 [])).toStr) (IntKind.i64.wrap (i+(1:Int)))))))) (.ret [C.int .i64 acc])):T (List C)).eval:=aAo (by kernel_rfl)
theorem bJb (H:List Pt→Nat→St→T (List C)) (ns:List (List C)) (es:List (List C)) (os:List (List C)) (ss:List (List C)) (r:Int) (x:Int):(aAm aTn aAb {params:=[aB4],results:=[rSl 62],nested:=true} Tryz.f48 H [C.sl ns,C.sl es,C.sl os,C.sl ss,C.int .i64 r,C.int .i64 x]).eval=((H [Pt.r,Pt.r,Pt.r,Pt.l,Pt.b] 9223372036854775808 (aTg (ns) (es) (os) (ss) (r) (x) (0) ([]) ((0:Int)) ((0:Int)))):T (List C)).eval:=aAo (by kernel_rfl)
theorem bIq (H:List Pt→Nat→St→T (List C)) (ns:List (List C)) (es:List (List C)) (os:List (List C)) (ss:List (List C)) (r:Int) (x:Int):(aAm aTm aAb (sg [aB4] [rSl 3]) Tryz.f33 H [C.sl ns,C.sl es,C.sl os,C.sl ss,C.int .i64 r,C.int .i64 x]).eval=((H [Pt.r,Pt.r,Pt.r,Pt.r,Pt.l,Pt.b] 9223372036854775808 (aTf (ns) (es) (os) (ss) (r) (x) (0) ([]) ((0:Int)) ((0:Int)))):T (List C)).eval:=aAo (by kernel_rfl)
theorem bI6 (H:List Pt→Nat→St→T (List C)) (ns:List (List C)) (es:List (List C)) (os:List (List C)) (ss:List (List C)) (r:Int) (x:Int):(aAm aTl aAb (sg [aB4] [rSl 9]) Tryz.f10 H [C.sl ns,C.sl es,C.sl os,C.sl ss,C.int .i64 r,C.int .i64 x]).eval=((.must (aKr ns es) (.must ((true&&(aDw (aB2 (nds ns) (ens es))).all fun row=>decide (row.length=1))&&true&&true&&true) (H [Pt.r,Pt.r,Pt.r,Pt.l,Pt.r,Pt.b] 9223372036854775808 (aTe (ns) (es) (os) (ss) (r) (x) (0) ([]) ((aDw (aB2 (nds ns) (ens es))).length) (aDw (aB2 (nds ns) (ens es))) ((0:Int)))))):T (List C)).eval:=aAo (by kernel_rfl)
theorem bJs (H:List Pt→Nat→St→T (List C)) (ns:List (List C)) (es:List (List C)) (os:List (List C)) (ss:List (List C)) (r:Int) (x:Int):(aAm aTq aAb (sg [aB4] [rSl 9]) Tryz.f30 H [C.sl ns,C.sl es,C.sl os,C.sl ss,C.int .i64 r,C.int .i64 x]).eval=((.must (aKr ns es) (.must ((true&&(aL6 (aB2 (nds ns) (ens es))).all fun row=>decide (row.length=11))&&true&&true&&true) (H [Pt.r,Pt.r,Pt.l,Pt.r,Pt.b] 9223372036854775808 (aTi (0) ([]) ((aL6 (aB2 (nds ns) (ens es))).length) (aL6 (aB2 (nds ns) (ens es))) ((↑(aL6 (aB2 (nds ns) (ens es))).length:Int)) ((0:Int)))))):T (List C)).eval:=aAo (by kernel_rfl)
theorem aPy (H:List Pt→Nat→St→T (List C)) (ns:List (List C)) (es:List (List C)) (os:List (List C)) (ss:List (List C)) (r:Int) (x:Int) (n:Nat) (o:List (List C)) (base:Int) (sum:Int) (k:Nat):(aBk aTn aAb {params:=[aB4],results:=[rSl 62],nested:=true} Tryz.f48 H [Pt.r,Pt.r,Pt.r,Pt.l,Pt.b] k (aTg ns es os ss r x n o base sum)).eval=((.ask (decide ((↑n:Int)<(16:Int))) (.must (bFp ns es) (.must (decide ((aBd (nds ns) (ens es) base).length≤1048576)) (.must (decide (0<1)&&true&&(decide (0<1)&&true&&(decide (0<1)&&true&&(decide (0<1)&&true&&(decide (0<1)&&true&&((true&&(List.map aAn (aB8 (aBd (nds ns) (ens es) base))).all fun row=>decide (row.length=1))&&((true&&(List.map aL7 (aGc (aBd (nds ns) (ens es) base))).all fun row=>decide (row.length=1))&&(decide (0<1)&&true&&(decide (0<1)&&true&&true))))))))&&true&&true) (.must (decide ((aBd (nds ns) (ens es) base).length≤1048576)) (.ask (aO0 (aBd (nds ns) (ens es) base) base sum) (.ask (decide ((↑(List.map aAn (aB8 (aBd (nds ns) (ens es) base))).length:Int)=(0:Int))) (.must (decide (n=o.length)&&(true||o.all fun r=>r.all C.flat)&&true&&true&&true) (.ret [C.sl o])) (.must (decide (n=o.length)&&aBe (o.length+1) 128&&(decide (((((((((((Nat.add 1 0).succ.add 0).succ.add 0).succ.add 0).succ.add 0).succ.add 0).succ.add 0).succ.add 0).succ.add 0).succ.add 0).succ=11)&&true)) (.must (decide ((List.take (List.map aAn (aB8 (aBd (nds ns) (ens es) base))).length (List.map aAn (aB8 (aBd (nds ns) (ens es) base)))).length≤1048576)&&(aAt [K.str] (List.take (List.map aAn (aB8 (aBd (nds ns) (ens es) base))).length (List.map aAn (aB8 (aBd (nds ns) (ens es) base))))&&aTw 1048576 (List.take (List.map aAn (aB8 (aBd (nds ns) (ens es) base))).length (List.map aAn (aB8 (aBd (nds ns) (ens es) base)))))) (H [Pt.r,Pt.r,Pt.r,Pt.l,Pt.b] k (aTg (ns) (es) (os) (ss) (r) (x) (o.length+1) (o.append [[C.int .i64 base,C.str (aBd (nds ns) (ens es) base),C.bool (aAe (aBd (nds ns) (ens es) base)),C.int .i64 (ifI (aAe (aBd (nds ns) (ens es) base)) (rhV (aBd (nds ns) (ens es) base))),C.int .i64 (ifI (aAe (aBd (nds ns) (ens es) base)) (rhS (aBd (nds ns) (ens es) base))),C.int .i64 (ifI (aAe (aBd (nds ns) (ens es) base)) (rhB (aBd (nds ns) (ens es) base))),C.int .i64 (ifI (aAe (aBd (nds ns) (ens es) base)) (rhL (aBd (nds ns) (ens es) base))),C.sl (List.take (List.map aAn (aB8 (aBd (nds ns) (ens es) base))).length (List.map aAn (aB8 (aBd (nds ns) (ens es) base)))),C.sl (List.take (List.map aL7 (aGc (aBd (nds ns) (ens es) base))).length (List.map aL7 (aGc (aBd (nds ns) (ens es) base)))),C.int .i64 (bHy (aBd (nds ns) (ens es) base)),C.bool (aU2 (aBd (nds ns) (ens es) base))]]) (IntKind.i64.wrap (base+(↑(List.map aAn (aB8 (aBd (nds ns) (ens es) base))).length:Int))) (aJc sum (aCm (List.take (List.map aAn (aB8 (aBd (nds ns) (ens es) base))).length (List.map aAn (aB8 (aBd (nds ns) (ens es) base))))))))))) (.must (decide (n=o.length)&&(true||o.all fun r=>r.all C.flat)&&true&&true&&true) (.ret [C.sl o]))))))) (.must (decide (n=o.length)&&(true||o.all fun r=>r.all C.flat)&&true&&true&&true) (.ret [C.sl o]))):T (List C)).eval:=aAo (by kernel_rfl)
theorem aPi (H:List Pt→Nat→St→T (List C)) (ns:List (List C)) (es:List (List C)) (os:List (List C)) (ss:List (List C)) (r:Int) (x:Int) (n:Nat) (o:List (List C)) (base:Int) (sum:Int) (k:Nat):(aBk aTm aAb (sg [aB4] [rSl 3]) Tryz.f33 H [Pt.r,Pt.r,Pt.r,Pt.r,Pt.l,Pt.b] k (aTf ns es os ss r x n o base sum)).eval=((.ask (decide ((↑n:Int)<(16:Int))) (.must (bFp ns es) (.must (decide ((aBd (nds ns) (ens es) base).length≤1048576)) (.must ((true&&(List.map aAn (aB8 (aBd (nds ns) (ens es) base))).all fun row=>decide (row.length=1))&&true&&true&&true) (.ask (decide ((↑(List.map aAn (aB8 (aBd (nds ns) (ens es) base))).length:Int)=(0:Int))) (.must (decide (n=o.length)&&(false||o.all fun r=>r.all C.flat)&&true&&true&&true) (.ret [C.sl o])) (.must (decide ((aBd (nds ns) (ens es) base).length≤1048576)) (.ask (aO0 (aBd (nds ns) (ens es) base) base sum) (.must (decide (n=o.length)&&aBe (o.length+1) 8&&(decide (1=1)&&true)) (.must (decide ((aBd (nds ns) (ens es) base).length≤1048576)) (H [Pt.r,Pt.r,Pt.r,Pt.r,Pt.l,Pt.b] k (aTf (ns) (es) (os) (ss) (r) (x) (o.length+1) (o.append [[C.int .i64 base]]) (IntKind.i64.wrap (base+(↑(List.map aAn (aB8 (aBd (nds ns) (ens es) base))).length:Int))) (aQ0 (aBd (nds ns) (ens es) base)))))) (.must (decide (n=o.length)&&(false||o.all fun r=>r.all C.flat)&&true&&true&&true) (.ret [C.sl o])))))))) (.must (decide (n=o.length)&&(false||o.all fun r=>r.all C.flat)&&true&&true&&true) (.ret [C.sl o]))):T (List C)).eval:=aAo (by kernel_rfl)
theorem bAo (H:List Pt→Nat→St→T (List C)) (ns:List (List C)) (es:List (List C)) (os:List (List C)) (ss:List (List C)) (r:Int) (x:Int) (n:Nat) (o:List (List C)) (m2:Nat) (bs:List (List C)) (i:Int) (k:Nat):(aBk aTl aAb (sg [aB4] [rSl 9]) Tryz.f10 H [Pt.r,Pt.r,Pt.r,Pt.l,Pt.r,Pt.b] k (aTe ns es os ss r x n o m2 bs i)).eval=((.ask (decide (i<(↑m2:Int))) (.must (decide ((0:Int)≤i)&&decide (i<(↑m2:Int))) (.must (decide (0+i.toNat<bs.length)&&(decide (0<(bs.getD (0+i.toNat) []).length)&&C.is (K.int .i64) ((bs.getD (0+i.toNat) []).getD 0 (C.fn 0 []))&&true)) (.must (bFp ns es) (.must (decide ((aBd (nds ns) (ens es) ((bs.getD (0+i.toNat) []).getD 0 (C.fn 0 [])).toInt).length≤1048576)) (.must ((true&&(List.map aAn (aB8 (aBd (nds ns) (ens es) ((bs.getD (0+i.toNat) []).getD 0 (C.fn 0 [])).toInt))).all fun row=>decide (row.length=1))&&true&&true&&true) (.must (decide (n=o.length)&&aBe (o.length+(List.take (List.map aAn (aB8 (aBd (nds ns) (ens es) ((bs.getD (0+i.toNat) []).getD 0 (C.fn 0 [])).toInt))).length (List.map aAn (aB8 (aBd (nds ns) (ens es) ((bs.getD (0+i.toNat) []).getD 0 (C.fn 0 [])).toInt)))).length) 16&&(List.take (List.map aAn (aB8 (aBd (nds ns) (ens es) ((bs.getD (0+i.toNat) []).getD 0 (C.fn 0 [])).toInt))).length (List.map aAn (aB8 (aBd (nds ns) (ens es) ((bs.getD (0+i.toNat) []).getD 0 (C.fn 0 [])).toInt)))).all fun r=>decide (r.length=1)) (H [Pt.r,Pt.r,Pt.r,Pt.l,Pt.r,Pt.b] k (aTe (ns) (es) (os) (ss) (r) (x) (o.length+(List.take (List.map aAn (aB8 (aBd (nds ns) (ens es) ((bs.getD (0+i.toNat) []).getD 0 (C.fn 0 [])).toInt))).length (List.map aAn (aB8 (aBd (nds ns) (ens es) ((bs.getD (0+i.toNat) []).getD 0 (C.fn 0 [])).toInt)))).length) (o.append (List.take (List.map aAn (aB8 (aBd (nds ns) (ens es) ((bs.getD (0+i.toNat) []).getD 0 (C.fn 0 [])).toInt))).length (List.map aAn (aB8 (aBd (nds ns) (ens es) ((bs.getD (0+i.toNat) []).getD 0 (C.fn 0 [])).toInt))))) (m2) (bs) (IntKind.i64.wrap (i+(1:Int))))))))))) (.must (decide (n=o.length)&&(false||o.all fun r=>r.all C.flat)&&true&&true&&true) (.ret [C.sl o]))):T (List C)).eval:=aAo (by kernel_rfl)
theorem bC7 (H:List Pt→Nat→St→T (List C)) (n:Nat) (o:List (List C)) (m2:Nat) (ls:List (List C)) (k2:Int) (i:Int) (k:Nat):(aBk aTq aAb (sg [aB4] [rSl 9]) Tryz.f30 H [Pt.r,Pt.r,Pt.l,Pt.r,Pt.b] k (aTi n o m2 ls k2 i)).eval=((.ask (decide (i<k2)) (.must (decide ((0:Int)≤i)&&decide (i<(↑m2:Int))) (.must (decide (0+i.toNat<ls.length)&&(decide (0<(ls.getD (0+i.toNat) []).length)&&C.is (K.int .i64) ((ls.getD (0+i.toNat) []).getD 0 (C.fn 0 []))&&(decide (0+1<(ls.getD (0+i.toNat) []).length)&&C.is K.str ((ls.getD (0+i.toNat) []).getD (0+1) (C.fn 0 []))&&(decide (0+1+1<(ls.getD (0+i.toNat) []).length)&&C.is K.bool ((ls.getD (0+i.toNat) []).getD (0+1+1) (C.fn 0 []))&&(decide (0+1+1+1<(ls.getD (0+i.toNat) []).length)&&C.is (K.int .i64) ((ls.getD (0+i.toNat) []).getD (0+1+1+1) (C.fn 0 []))&&(decide (0+1+1+1+1<(ls.getD (0+i.toNat) []).length)&&C.is (K.int .i64) ((ls.getD (0+i.toNat) []).getD (0+1+1+1+1) (C.fn 0 []))&&(decide (0+1+1+1+1+1<(ls.getD (0+i.toNat) []).length)&&C.is (K.int .i64) ((ls.getD (0+i.toNat) []).getD (0+1+1+1+1+1) (C.fn 0 []))&&(decide (0+1+1+1+1+1+1<(ls.getD (0+i.toNat) []).length)&&C.is (K.int .i64) ((ls.getD (0+i.toNat) []).getD (0+1+1+1+1+1+1) (C.fn 0 []))&&(decide (0+1+1+1+1+1+1+1<(ls.getD (0+i.toNat) []).length)&&C.is (K.slice 9) ((ls.getD (0+i.toNat) []).getD (0+1+1+1+1+1+1+1) (C.fn 0 []))&&(decide (0+1+1+1+1+1+1+1+1<(ls.getD (0+i.toNat) []).length)&&C.is (K.slice 3) ((ls.getD (0+i.toNat) []).getD (0+1+1+1+1+1+1+1+1) (C.fn 0 []))&&(decide (0+1+1+1+1+1+1+1+1+1<(ls.getD (0+i.toNat) []).length)&&C.is (K.int .i64) ((ls.getD (0+i.toNat) []).getD (0+1+1+1+1+1+1+1+1+1) (C.fn 0 []))&&(decide (0+1+1+1+1+1+1+1+1+1+1<(ls.getD (0+i.toNat) []).length)&&C.is K.bool ((ls.getD (0+i.toNat) []).getD (0+1+1+1+1+1+1+1+1+1+1) (C.fn 0 []))&&true)))))))))))) (.must (decide (n=o.length)&&aBe (o.length+((ls.getD (0+i.toNat) []).getD (0+1+1+1+1+1+1+1) (C.fn 0 [])).toRows.length) 16&&((ls.getD (0+i.toNat) []).getD (0+1+1+1+1+1+1+1) (C.fn 0 [])).toRows.all fun r=>decide (r.length=1)) (H [Pt.r,Pt.r,Pt.l,Pt.r,Pt.b] k (aTi (o.length+((ls.getD (0+i.toNat) []).getD (0+1+1+1+1+1+1+1) (C.fn 0 [])).toRows.length) (o.append ((ls.getD (0+i.toNat) []).getD (0+1+1+1+1+1+1+1) (C.fn 0 [])).toRows) (m2) (ls) (k2) (IntKind.i64.wrap (i+(1:Int)))))))) (.must (decide (n=o.length)&&(false||o.all fun r=>r.all C.flat)&&true&&true&&true) (.ret [C.sl o]))):T (List C)).eval:=aAo (by kernel_rfl)
theorem bEf (H:List Pt→Nat→St→T (List C)) (ns:List (List C)) (es:List (List C)) (os:List (List C)) (ss:List (List C)) (r:Int) (x:Int):(aAm bH8 aAb (sg [aB4] [rI]) Tryz.f43 H [C.sl ns,C.sl es,C.sl os,C.sl ss,C.int .i64 r,C.int .i64 x]).eval=((.must (aKr ns es) (.must ((true&&(List.map aAn (aAl (aB2 (nds ns) (ens es)))).all fun row=>decide (row.length=1))&&true&&true&&true) (.ret [C.int .i64 (↑(List.map aAn (aAl (aB2 (nds ns) (ens es)))).length:Int)]))):T (List C)).eval:=aAo (by kernel_rfl)
theorem bDw (v p:Int) (b:List UInt8):∀ (f:Nat) (k e:Int) (rs:List (List UInt8)) (os:List Int),(rs.length:Int)≤e→e≤b.length→rs.length=os.length→(∀ r∈rs,r.length≤60) →
  ((aGb v p b f k e rs os).1.length:Int)≤b.length∧(aGb v p b f k e rs os).1.length=(aGb v p b f k e rs os).2.1.length∧∀ r∈(aGb v p b f k e rs os).1,r.length≤60:=by
 intro f
 induction f with
 |zero=>intro k e rs os h1 h2 h3 h4;exact⟨by simp only[aGb];omega,h3,h4⟩
 |succ f ih =>
  intro k e rs os h1 h2 h3 h4
  simp only[aGb]
  split
  ·exact⟨(show (rs.length:Int)≤b.length by omega),h3,h4⟩
  ·split
   ·rename_i hok
    obtain⟨g1,g2,g3⟩:=aPp _ _ _ _ hok
    refine ih _ _ _ _ (by simp;omega) g2 (by simp[h3]) fun r hr=>?_
    rcases List.mem_append.1 hr with hr | hr
    ·exact h4 r hr
    ·obtain rfl:=List.mem_singleton.1 hr
     unfold aRc
     rw[if_pos hok]
     unfold bF9 at hok
     simp only[Bool.and_eq_true,decide_eq_true_eq]at hok
     unfold aPo
     simp
     omega
   ·exact⟨(show (rs.length:Int)≤b.length by omega),h3,h4⟩
theorem aI0 (b:List UInt8):(aB8 b).length≤b.length∧(aB8 b).length=(aGc b).length∧∀ r∈aB8 b,r.length≤60:=by
 unfold aB8 aGc aJj
 by_cases h:aAe b=true
 ·rw[if_pos h]
  have h24:24≤b.length:=by
   unfold aAe at h
   simp only[Bool.and_eq_true,decide_eq_true_eq]at h
   exact h.1.1
  obtain⟨a1,a2,a3⟩:=bDw (rhV b) (rhB b) b (b.length+1) 0 24 [] [] (by simp) (by omega) rfl (fun r hr=>by cases hr)
  exact⟨by omega,a2,a3⟩
 ·rw[if_neg h]
  exact⟨by simp,rfl,fun r hr=>by cases hr⟩
theorem aPn (l:List (List UInt8)):((l.map aAn).all fun row=>decide (row.length=1))=true:=by simp
theorem bQc (l:List Int):((l.map aL7).all fun row=>decide (row.length=1))=true:=by simp
theorem aTv (n:Nat) (l:List (List UInt8)):aTw n (l.map aAn)=true↔∀ x∈l,x.length≤n:=by simp[aTw]
theorem bIe:aA9 Tryz.prog aWw:=aA8 (by simp[aNo,aF6])
theorem aLk:aB0 Tryz.prog 65 (sg [pI,pS] [rI]) aEl:=aA6 bIe aAa Tryz.func65 (by kernel_rfl) fun cs outs hk h=>by
 unfold aEl at h
 split at h
 ·simp only[Option.some.injEq,Prod.mk.injEq,decide_eq_true_eq]at h
  obtain⟨h1,rfl⟩:=h
  rename_i l r
  rw[aAd,aXo]
  have l1:=aBi (r.length:Int) 4
  have a1:(-9223372036854775808:Int)≤r.length:=by omega
  have a2:(r.length:Int)≤9223372036854775807:=by omega
  have a3:(aAj (r.length:Int) 4).length+r.length≤9223372036854775807:=by omega
  have a4:(aAj (r.length:Int) 4++r).length≤281474976710656:=by simp;omega
  simp only[aA2,aA3,a1,a2,a3,a4,decide_true,Bool.and_self,if_true]
  rfl
 ·cases h
theorem bJw:aA9 Tryz.prog aX2:=aA8 (by simp[aNy,aGx])
theorem aVt:aB0 Tryz.prog 84 (sg [pI,pS] [rI]) aEl:=aA6 bJw aAa Tryz.func84 (by kernel_rfl) fun cs outs hk h=>by
 unfold aEl at h
 split at h
 ·simp only[Option.some.injEq,Prod.mk.injEq,decide_eq_true_eq]at h
  obtain⟨h1,rfl⟩:=h
  rename_i l r
  rw[aAd,aYb]
  have l1:=aBi (r.length:Int) 4
  have a1:(-9223372036854775808:Int)≤r.length:=by omega
  have a2:(r.length:Int)≤9223372036854775807:=by omega
  have a3:(aAj (r.length:Int) 4).length+r.length≤9223372036854775807:=by omega
  have a4:(aAj (r.length:Int) 4++r).length≤281474976710656:=by simp;omega
  simp only[aA2,aA3,a1,a2,a3,a4,decide_true,Bool.and_self,if_true]
  rfl
 ·cases h
theorem bBv (rs:List (List UInt8)) (h60:∀ x∈rs,x.length≤1048576) (hl:rs.length≤1048576):∀ (n i:Nat) (l:Int),i≤rs.length→rs.length<i+n →
  (aBn aNf aAb (sg [pI,pSl 9] [rI]) Tryz.f63 [.r,.l,.r,.b] n (aN1 l (rs.map aAn) rs.length i)).eval=some [.int .i64 (aJc l (rs.drop i))]:=by
 intro n
 induction n with
 |zero=>intro i l h1 h2;omega
 |succ n ih =>
  intro i l h1 h2
  rw[aAz _ _ _ _ _ _ _ (by kernel_rfl),aVe]
  by_cases hi:i<rs.length
  ·have g:=aBa aAn rs [] i hi
   have w:IntKind.i64.wrap ((i:Int)+1)=((i+1:Nat):Int):=by rw[aAi]<;>omega
   have hz:(0:Int)≤i:=by omega
   have hi':(i:Int)<rs.length:=by omega
   have hm:rs.getD i []∈rs:=by rw[List.getD_eq_getElem?_getD,List.getElem?_eq_getElem hi];exact List.getElem_mem hi
   have hx:=h60 _ hm
   rw[aC3 rs i [] hi]
   generalize rs.getD i []=y at g hx ⊢
   simp only[aA2,aA4,aA3,if_true,decide_eq_true_eq,Bool.and_eq_true,w,hz,hi',Int.toNat_natCast,List.length_map,g,and_self,List.getD_cons_zero,C.toStr,C.is,List.length_cons,List.length_nil,Nat.zero_add,Nat.zero_lt_succ,hx]
   exact ih (i+1) _ (by omega) (by omega)
  ·have e:i=rs.length:=by omega
   subst e
   have hi':¬((rs.length:Int)<(rs.length:Int)):=by omega
   simp only[aA4,aA3,decide_eq_true_eq,hi',if_false,List.drop_length]
   rfl
theorem bNz:aA9 Tryz.prog aNf:=aA8 (by simp[aVt])
theorem aY2:aB0 Tryz.prog 63 (sg [pI,pSl 9] [rI]) aOl:=aA6 bNz aAa Tryz.func63 (by kernel_rfl) fun cs outs hk h=>by
 unfold aOl at h
 split at h
 ·simp only[Option.some.injEq,Prod.mk.injEq,Bool.and_eq_true,decide_eq_true_eq]at h
  obtain⟨⟨h1,h2,h3⟩,rfl⟩:=h
  rename_i l rows
  have hr:=aFu h2
  generalize aCm rows=rs at hr ⊢
  subst hr
  rw[List.length_map]at h1
  rw[aTv]at h3
  rw[aAd,bBu]
  have:=bBv rs h3 h1 9223372036854775808 0 l (by omega) (by omega)
  rw[show (rs.length:Int)=((rs.map aAn).length:Int) by rw[List.length_map]]at this
  exact this
 ·cases h
theorem bQ0:aA9 Tryz.prog bHb:=aA8 (by simp[aLj])
theorem bB4:aB0 Tryz.prog 49 (sg [pS,pI,pI] [rB]) aI5:=aA6 bQ0 aAa Tryz.func49 (by kernel_rfl) fun cs outs hk h=>by
 unfold aI5 at h
 split at h
 ·simp only[Option.some.injEq,Prod.mk.injEq,decide_eq_true_eq]at h
  obtain⟨h1,rfl⟩:=h
  rename_i b x l
  rw[aAd,bEl]
  have a1:b.length≤281474976710656:=by omega
  cases hr:aAe b<;>simp[aA2,aA4,aA3,a1,aO0,hr,ifI]
  repeat' split
  all_goals simp_all
 ·cases h
theorem bRr:aA9 Tryz.prog bHl:=aA8 (by simp[aM1])
theorem bCh:aB0 Tryz.prog 62 (sg [pS,pI,pI] [rB]) aI5:=aA6 bRr aAa Tryz.func62 (by kernel_rfl) fun cs outs hk h=>by
 unfold aI5 at h
 split at h
 ·simp only[Option.some.injEq,Prod.mk.injEq,decide_eq_true_eq]at h
  obtain⟨h1,rfl⟩:=h
  rename_i b x l
  rw[aAd,bGb]
  have a1:b.length≤281474976710656:=by omega
  cases hr:aAe b<;>simp[aA2,aA4,aA3,a1,aO0,hr,ifI]
  repeat' split
  all_goals simp_all
 ·cases h
theorem bE4:aA9 Tryz.prog aSe:=aA8 (by simp[aLh])
theorem aL1:aB0 Tryz.prog 34 (sg [pS] [rSl 9]) aHu:=aA6 bE4 aAa Tryz.func34 (by kernel_rfl) fun cs outs hk h=>by
 unfold aHu at h
 split at h
 ·simp only[Option.some.injEq,Prod.mk.injEq,decide_eq_true_eq]at h
  obtain⟨h1,rfl⟩:=h
  rename_i b
  rw[aAd,aUd]
  have d1:decide (0<1)=true:=by decide
  simp only[aA2,aA3,h1,d1,aPn,bQc,aHc,decide_true,Bool.and_self,Bool.or_true,if_true]
 ·cases h
theorem aUm (rs:List (List UInt8)) (h60:∀ x∈rs,x.length≤60) (hl:rs.length≤1048576) (ok mk:Bool) (v s q l e:Int) (m:Nat) (o:List (List C)):∀ (n i:Nat) (acc:Int),i≤rs.length→rs.length<i+n →
  (aBn aJ2 aAb (sg [pS] [rI]) Tryz.f50 [.r,.r,.r,.l,.r,.b] n (aJ0 ok mk v s q l e rs.length (rs.map aAn) m o acc i)).eval=some [.int .i64 (aJc acc (rs.drop i))]:=by
 intro n
 induction n with
 |zero=>intro i l h1 h2;omega
 |succ n ih =>
  intro i acc h1 h2
  rw[aAz _ _ _ _ _ _ _ (by kernel_rfl),aR9]
  by_cases hi:i<rs.length
  ·have g:=aBa aAn rs [] i hi
   have w:IntKind.i64.wrap ((i:Int)+1)=((i+1:Nat):Int):=by rw[aAi]<;>omega
   have hz:(0:Int)≤i:=by omega
   have hi':(i:Int)<rs.length:=by omega
   have hm:rs.getD i []∈rs:=by rw[List.getD_eq_getElem?_getD,List.getElem?_eq_getElem hi];exact List.getElem_mem hi
   have hx:(rs.getD i []).length≤1048576:=by have:=h60 _ hm;omega
   rw[aC3 rs i [] hi]
   generalize rs.getD i []=y at g hx ⊢
   simp only[aA2,aA4,aA3,if_true,decide_eq_true_eq,Bool.and_eq_true,w,hz,hi',hi,Int.toNat_natCast,List.length_map,Nat.zero_add,g,and_self,List.getD_cons_zero,C.toStr,C.is,List.length_cons,List.length_nil,Nat.zero_lt_succ,hx]
   exact ih (i+1) _ (by omega) (by omega)
  ·have e:i=rs.length:=by omega
   subst e
   have hi':¬((rs.length:Int)<(rs.length:Int)):=by omega
   simp only[aA4,aA3,decide_eq_true_eq,hi',if_false,List.drop_length]
   rfl
theorem bEh:aA9 Tryz.prog aJ2:=aA8 (by simp[aLh,aLk])
theorem aSs:aB0 Tryz.prog 50 (sg [pS] [rI]) aKl:=aA6 bEh aAa Tryz.func50 (by kernel_rfl) fun cs outs hk h=>by
 unfold aKl at h
 split at h
 ·simp only[Option.some.injEq,Prod.mk.injEq,decide_eq_true_eq]at h
  obtain⟨h1,rfl⟩:=h
  rename_i b
  obtain⟨f1,f2,f3⟩:=aI0 b
  rw[aAd,aUl]
  have d1:decide (0<1)=true:=by decide
  have lp:=aUm (aB8 b) f3 (by omega) (aAe b) (aU2 b) (ifI (aAe b) (rhV b)) (ifI (aAe b) (rhS b)) (ifI (aAe b) (rhB b)) (ifI (aAe b) (rhL b)) (bHy b) ((aGc b).map aL7).length ((aGc b).map aL7) 9223372036854775808 0 (ifI (aAe b) (rhL b)) (by omega) (by omega)
  rw[show (aB8 b).length=((aB8 b).map aAn).length by rw[List.length_map]]at lp
  simp only[aA2,aA3,h1,d1,aPn,bQc,decide_true,Bool.and_self,if_true]
  exact lp
 ·cases h
theorem bJ9 {ns es:List (List C)} (h:aKr ns es=true):bFp ns es=true:=by unfold aKr at h;simp only[Bool.and_eq_true]at h;exact h.1
theorem aP8 {ns es:List (List C)} (h:aKr ns es=true) (base:Int):(aBd (nds ns) (ens es) base).length≤1048576:=by
 unfold aKr at h
 simp only[Bool.and_eq_true,List.all_eq_true,decide_eq_true_eq]at h
 unfold aBd aIs bYi
 split
 ·simp
 ·rename_i hn
  have hp:¬aC8 (ens es) (aAp base)<0:=fun hp=>hn (by unfold aDy;rw[if_pos hp];decide)
  have e:aDy (nds ns) (ens es) (aAp base)=aAv (nds ns) (aB7 (ens es) (aAp base)):=if_neg hp
  rw[e]at hn ⊢
  obtain⟨c1,c2,c3⟩:=bJ8 _ _ hn
  refine h.2 _ ?_
  rw[List.getD_eq_getElem?_getD,List.getElem?_eq_getElem c1]
  exact List.getElem_mem c1
theorem cAe (l:List Lk) (x:Lk):(l.map eLk).append [eLk x]=(l++[x]).map eLk:=by simp
theorem bJc (ns es os ss:List (List C)) (r x:Int) (hd:aKr ns es=true):∀ (k n:Nat) (l:List Lk) (base sum:Int),l.length+k=16→0≤base→base≤(l.length:Int)*1048576→k<n →
  (aBn aTn aAb (⟨[aB4],[rSl 62],true⟩) Tryz.f48 [.r,.r,.r,.l,.b] n (aTg ns es os ss r x l.length (l.map eLk) base sum)).eval=some [.sl (aL6 (l++aHo (nds ns) (ens es) k base sum))]:=by
 have hne:=bJ9 hd
 intro k
 induction k with
 |zero =>
  intro n l base sum h1 h2 h3 h4
  obtain⟨n,rfl⟩:∃ g,n=g+1:=⟨n-1,by omega⟩
  rw[aAz _ _ _ _ _ _ _ (by kernel_rfl),aPy]
  have c:¬((l.length:Int)<16):=by omega
  simp only[aA2,aA4,aA3,decide_eq_true_eq,c,if_false,List.length_map,decide_true,Bool.true_or,Bool.and_self,if_true,aHo,List.append_nil]
  rfl
 |succ k ih =>
  intro n l base sum h1 h2 h3 h4
  obtain⟨n,rfl⟩:∃ g,n=g+1:=⟨n-1,by omega⟩
  rw[aAz _ _ _ _ _ _ _ (by kernel_rfl),aPy]
  have c:((l.length:Int)<16):=by omega
  have ht:=aP8 hd base
  simp only[aHo]
  generalize aBd (nds ns) (ens es) base=t at ht ⊢
  obtain⟨f1,f2,f3⟩:=aI0 t
  have d1:decide (0<1)=true:=by decide
  simp only[aA2,aA4,aA3,decide_eq_true_eq,c,if_true,hne,ht,d1,aPn,bQc,decide_true,Bool.and_self,Bool.true_or,List.length_map]
  cases hg:aO0 t base sum with
  |false =>
   simp only[Bool.false_eq_true,if_false,Bool.false_and,List.append_nil]
   rfl
  |true =>
   by_cases h0:(aB8 t).length=0
   ·have e0:((aB8 t).length:Int)=0:=by omega
    simp only[e0,h0,if_true,ne_eq,not_true_eq_false,decide_false,Bool.and_false,Bool.false_eq_true,if_false,List.append_nil]
    rfl
   ·have e0:¬((aB8 t).length:Int)=0:=by omega
    have ro:aBe (l.length+1) 128=true:=by simp only[aBe,decide_eq_true_eq];omega
    have tk:List.take (aB8 t).length ((aB8 t).map aAn)=(aB8 t).map aAn:=by rw[List.take_of_length_le];simp
    have tk2:List.take (aGc t).length ((aGc t).map aL7)=(aGc t).map aL7:=by rw[List.take_of_length_le];simp
    have l1:(aB8 t).length≤1048576:=by omega
    have tl:aTw 1048576 ((aB8 t).map aAn)=true:=(aTv _ _).2 fun y hy=>by have:=f3 y hy;omega
    have w:IntKind.i64.wrap (base+((aB8 t).length:Int))=base+(aB8 t).length:=by rw[aAi]<;>omega
    have ap:=cAe l (base,t)
    have e:=ih n (l++[(base,t)]) (base+(aB8 t).length) (aJc sum (aB8 t)) (by simp;omega) (by omega) (by simp;omega) (by omega)
    simp only[List.length_append,List.length_cons,List.length_nil,Nat.zero_add,List.append_assoc,List.cons_append,List.nil_append]at e
    have e11:decide (((((((((((Nat.add 1 0).succ.add 0).succ.add 0).succ.add 0).succ.add 0).succ.add 0).succ.add 0).succ.add 0).succ.add 0).succ.add 0).succ=11)=true:=by decide
    simp only[e0,h0,if_false,ne_eq,not_false_eq_true,decide_true,Bool.and_self,if_true,ro,tk,tk2,List.length_map,l1,aEg,tl,w,aIm,e11]
    rw[←ap]at e
    exact e
theorem bUh:aA9 Tryz.prog aTn:=aA8 (by simp[aVn,bC4,aY2,bCh])
theorem bFu:aB0 Tryz.prog 48 (⟨[aB4],[rSl 62],true⟩) aVd:=aA6 bUh aAa Tryz.func48 (by kernel_rfl) fun cs outs hk h=>by
 unfold aVd at h
 split at h
 ·simp only[Option.some.injEq,Prod.mk.injEq]at h
  obtain⟨hd,rfl⟩:=h
  rename_i ns es os ss r x
  rw[aAd,bJb]
  exact bJc ns es os ss r x hd 16 9223372036854775808 [] 0 0 rfl (by omega) (by simp) (by omega)
 ·cases h
theorem bK3 {b:List UInt8} {base link:Int} (h:aO0 b base link=true):aQ0 b=aJc link (aB8 b):=by
 unfold aO0 at h
 simp only[Bool.and_eq_true,decide_eq_true_eq]at h
 unfold aQ0 ifI
 rw[h.1.1,if_pos rfl,h.2]
theorem bVc (l:List Lk) (x:Lk):(aDw l).append [[C.int .i64 x.1]]=aDw (l++[x]):=by simp[aDw]
theorem aLv (l:List Lk):(aDw l).length=l.length:=by simp[aDw]
theorem aZ9 (l:List Lk):((aDw l).all fun r=>r.all C.flat)=true:=by simp[aDw,C.flat]
theorem bIr (ns es os ss:List (List C)) (r x:Int) (hd:aKr ns es=true):∀ (k n:Nat) (l:List Lk) (base sum:Int),l.length+k=16→0≤base→base≤(l.length:Int)*1048576→k<n →
  (aBn aTm aAb (sg [aB4] [rSl 3]) Tryz.f33 [.r,.r,.r,.r,.l,.b] n (aTf ns es os ss r x l.length (aDw l) base sum)).eval=some [.sl (aDw (l++aHo (nds ns) (ens es) k base sum))]:=by
 have hne:=bJ9 hd
 intro k
 induction k with
 |zero =>
  intro n l base sum h1 h2 h3 h4
  obtain⟨n,rfl⟩:∃ g,n=g+1:=⟨n-1,by omega⟩
  rw[aAz _ _ _ _ _ _ _ (by kernel_rfl),aPi]
  have c:¬((l.length:Int)<16):=by omega
  simp only[aA2,aA4,aA3,decide_eq_true_eq,c,if_false,aLv,aZ9,decide_true,Bool.or_true,Bool.and_self,if_true,aHo,List.append_nil]
 |succ k ih =>
  intro n l base sum h1 h2 h3 h4
  obtain⟨n,rfl⟩:∃ g,n=g+1:=⟨n-1,by omega⟩
  rw[aAz _ _ _ _ _ _ _ (by kernel_rfl),aPi]
  have c:((l.length:Int)<16):=by omega
  have ht:=aP8 hd base
  simp only[aHo]
  generalize aBd (nds ns) (ens es) base=t at ht ⊢
  obtain⟨f1,f2,f3⟩:=aI0 t
  simp only[aA2,aA4,aA3,decide_eq_true_eq,c,if_true,hne,ht,aPn,decide_true,Bool.and_self,aLv,aZ9,Bool.or_true,List.length_map]
  by_cases h0:(aB8 t).length=0
  ·have e0:((aB8 t).length:Int)=0:=by omega
   simp only[e0,if_true]
   simp only[h0,ne_eq,not_true_eq_false,decide_false,Bool.and_false,Bool.false_eq_true,if_false,List.append_nil]
  ·have e0:¬((aB8 t).length:Int)=0:=by omega
   cases hg:aO0 t base sum with
   |false=>simp only[e0,Bool.false_eq_true,if_false,Bool.false_and,List.append_nil]
   |true =>
    have ro:aBe (l.length+1) 8=true:=by simp only[aBe,decide_eq_true_eq];omega
    have l1:(aB8 t).length≤1048576:=by omega
    have w:IntKind.i64.wrap (base+((aB8 t).length:Int))=base+(aB8 t).length:=by rw[aAi]<;>omega
    have ap:=bVc l (base,t)
    have e:=ih n (l++[(base,t)]) (base+(aB8 t).length) (aJc sum (aB8 t)) (by simp;omega) (by omega) (by simp;omega) (by omega)
    simp only[List.length_append,List.length_cons,List.length_nil,Nat.zero_add,List.append_assoc,List.cons_append,List.nil_append]at e
    simp only[e0,h0,if_false,ne_eq,not_false_eq_true,decide_true,Bool.and_self,if_true,ro,w,bK3 hg]
    rw[←ap]at e
    exact e
theorem bTt:aA9 Tryz.prog aTm:=aA8 (by simp[aPe,bB4,aL1,aSs])
theorem bF0:aB0 Tryz.prog 33 (sg [aB4] [rSl 3]) aWf:=aA6 bTt aAa Tryz.func33 (by kernel_rfl) fun cs outs hk h=>by
 unfold aWf at h
 split at h
 ·simp only[Option.some.injEq,Prod.mk.injEq]at h
  obtain⟨hd,rfl⟩:=h
  rename_i ns es os ss r x
  rw[aAd,bIq]
  exact bIr ns es os ss r x hd 16 9223372036854775808 [] 0 0 rfl (by omega) (by simp) (by omega)
 ·cases h
theorem aM8 (ns:List Nd) (es:List En):∀ (k:Nat) (base sum:Int) (x:Lk),x∈aHo ns es k base sum→x.2=aBd ns es x.1
 |0,_,_,_,h=>by cases h
 |k+1,base,sum,x,h=>by
  simp only[aHo]at h
  split at h
  ·rcases List.mem_cons.1 h with rfl | h
   ·rfl
   ·exact aM8 ns es k _ _ x h
  ·cases h
theorem aGq (ns:List Nd) (es:List En):∀ (k:Nat) (base sum:Int),(aHo ns es k base sum).length≤k
 |0,_,_=>Nat.le_refl _
 |k+1,base,sum=>by
  simp only[aHo]
  split
  ·simp only[List.length_cons];have:=aGq ns es k (base+(aB8 (aBd ns es base)).length) (aJc sum (aB8 (aBd ns es base)));omega
  ·simp
theorem aMp:∀ (l:List Lk),(∀ x∈l,x.2.length≤1048576)→(aAl l).length≤l.length*1048576
 |[],_=>by simp[aAl]
 |x::l,h=>by
  have h1:=aMp l fun y hy=>h y (List.mem_cons_of_mem _ hy)
  have h2:=(aI0 x.2).1
  have h3:=h x List.mem_cons_self
  unfold aAl at h1 ⊢
  simp only[List.flatMap_cons,List.length_append,List.length_cons]
  omega
theorem bPe {A:Type} (l:List A) (i:Nat) (d:A) (hi:i<l.length):l.take (i+1)=l.take i++[l.getD i d]:=by
 rw[List.take_succ_eq_append_getElem hi];simp[List.getD_eq_getElem?_getD,hi]
theorem aVc (l:List Lk) (i:Nat) (d:Lk) (hi:i<l.length):aAl (l.take (i+1))=aAl (l.take i)++aB8 (l.getD i d).2:=by
 rw[bPe l i d hi];simp[aAl]
theorem bUx (l:List Lk) (i:Nat) (hi:i<l.length):(aDw l).getD i []=aL7 (l.getD i (0,[])).1:=aBa (fun x:Lk=>aL7 x.1) l (0,[]) i hi
theorem bLr (a b:List (List UInt8)):(a.map aAn).append (b.map aAn)=(a++b).map aAn:=by simp
theorem bI7 (ns es os ss:List (List C)) (r x:Int) (hd:aKr ns es=true) (c:List Lk) (hc:∀ y∈c,y.2=aBd (nds ns) (ens es) y.1) (hl:c.length≤16):∀ (n i:Nat),i≤c.length→c.length<i+n →
  (aBn aTl aAb (sg [aB4] [rSl 9]) Tryz.f10 [.r,.r,.r,.l,.r,.b] n (aTe ns es os ss r x (aAl (c.take i)).length ((aAl (c.take i)).map aAn) c.length (aDw c) i)).eval=some [.sl ((aAl c).map aAn)]:=by
 have hne:=bJ9 hd
 have ht2:∀ y∈c,y.2.length≤1048576:=fun y hy=>by rw[hc y hy];exact aP8 hd _
 intro n
 induction n with
 |zero=>intro i h1 h2;omega
 |succ n ih =>
  intro i h1 h2
  rw[aAz _ _ _ _ _ _ _ (by kernel_rfl),bAo]
  by_cases hi:i<c.length
  ·have g:=bUx c i hi
   have w:IntKind.i64.wrap ((i:Int)+1)=((i+1:Nat):Int):=by rw[aAi]<;>omega
   have hz:(0:Int)≤i:=by omega
   have hi':(i:Int)<c.length:=by omega
   have hm:c.getD i (0,[])∈c:=by rw[List.getD_eq_getElem?_getD,List.getElem?_eq_getElem hi];exact List.getElem_mem hi
   have hx:=hc _ hm
   have hx2:=ht2 _ hm
   have e:=ih (i+1) (by omega) (by omega)
   rw[aVc c i (0,[]) hi]at e
   have hlen:(aAl (c.take i)).length≤16777216:=by
    have h4:=aMp (c.take i) fun y hy=>ht2 y (List.mem_of_mem_take hy)
    have h3:(c.take i).length≤16:=by rw[List.length_take];omega
    clear e
    omega
   have hne2:(aDw c).getD (0+i) []=aL7 (c.getD i (0,[])).1:=by rw[Nat.zero_add];exact g
   generalize c.getD i (0,[])=y at g hx hx2 e hne2 ⊢
   rw[hx]at e hx2
   obtain⟨f1,f2,f3⟩:=aI0 (aBd (nds ns) (ens es) y.1)
   have tk:List.take (aB8 (aBd (nds ns) (ens es) y.1)).length ((aB8 (aBd (nds ns) (ens es) y.1)).map aAn)=(aB8 (aBd (nds ns) (ens es) y.1)).map aAn:=by rw[List.take_of_length_le];simp
   have ro:aBe ((aAl (c.take i)).length+(aB8 (aBd (nds ns) (ens es) y.1)).length) 16=true:=by simp only[aBe,decide_eq_true_eq];omega
   simp only[List.length_append]at e
   have hlb:i<(aDw c).length:=by rw[aLv];exact hi
   simp only[aA2,aA4,aA3,if_true,decide_eq_true_eq,w,hz,hi',hi,Int.toNat_natCast,aLv,Nat.zero_add,g,hne,hx2,aPn,tk,ro,decide_true,Bool.and_self,List.getD_cons_zero,C.toInt,C.is,List.length_cons,List.length_nil,Nat.zero_lt_succ,beq_self_eq_true,List.length_map,bLr]
   exact e
  ·have e:i=c.length:=by omega
   subst e
   have hi':¬((c.length:Int)<(c.length:Int)):=by omega
   rw[List.take_length]
   simp only[aA2,aA4,aA3,decide_eq_true_eq,hi',if_false,List.length_map,aHc,decide_true,Bool.or_true,Bool.and_self,if_true]
theorem bTn:aA9 Tryz.prog aTl:=aA8 (by simp[aPe,aL1,bF0])
theorem aH4:aB0 Tryz.prog 10 (sg [aB4] [rSl 9]) aEh:=aA6 bTn aAa Tryz.func10 (by kernel_rfl) fun cs outs hk h=>by
 unfold aEh at h
 split at h
 ·simp only[Option.some.injEq,Prod.mk.injEq]at h
  obtain⟨hd,rfl⟩:=h
  rename_i ns es os ss r x
  rw[aAd,bI6]
  have hb:((aDw (aB2 (nds ns) (ens es))).all fun row=>decide (row.length=1))=true:=by simp[aDw]
  have lp:=bI7 ns es os ss r x hd (aB2 (nds ns) (ens es)) (fun y hy=>aM8 _ _ _ _ _ y hy) (aGq _ _ _ _ _) 9223372036854775808 0 (by omega) (by have:=aGq (nds ns) (ens es) 16 0 0;unfold aB2;omega)
  rw[←aLv]at lp
  simp only[aA2,hd,hb,decide_true,Bool.and_self,if_true]
  exact lp
 ·cases h
theorem bZw (l:List Lk) (i:Nat) (hi:i<l.length):(aL6 l).getD i []=eLk (l.getD i (0,[])):=aBa eLk l (0,[]) i hi
theorem bVw (l:List Lk):(aL6 l).length=l.length:=by simp[aL6]
theorem bJt (c:List Lk) (ht2:∀ y∈c,y.2.length≤1048576) (hl:c.length≤16):∀ (n i:Nat),i≤c.length→c.length<i+n →
  (aBn aTq aAb (sg [aB4] [rSl 9]) Tryz.f30 [.r,.r,.l,.r,.b] n (aTi (aAl (c.take i)).length ((aAl (c.take i)).map aAn) c.length (aL6 c) c.length i)).eval=some [.sl ((aAl c).map aAn)]:=by
 intro n
 induction n with
 |zero=>intro i h1 h2;omega
 |succ n ih =>
  intro i h1 h2
  rw[aAz _ _ _ _ _ _ _ (by kernel_rfl),bC7]
  by_cases hi:i<c.length
  ·have g:=bZw c i hi
   have w:IntKind.i64.wrap ((i:Int)+1)=((i+1:Nat):Int):=by rw[aAi]<;>omega
   have hz:(0:Int)≤i:=by omega
   have hi':(i:Int)<c.length:=by omega
   have hm:c.getD i (0,[])∈c:=by rw[List.getD_eq_getElem?_getD,List.getElem?_eq_getElem hi];exact List.getElem_mem hi
   have hx2:=ht2 _ hm
   have e:=ih (i+1) (by omega) (by omega)
   rw[aVc c i (0,[]) hi]at e
   have hlen:(aAl (c.take i)).length≤16777216:=by
    have h4:=aMp (c.take i) fun y hy=>ht2 y (List.mem_of_mem_take hy)
    have h3:(c.take i).length≤16:=by rw[List.length_take];omega
    clear e
    omega
   generalize c.getD i (0,[])=y at g hx2 e ⊢
   obtain⟨f1,f2,f3⟩:=aI0 y.2
   have ro:aBe ((aAl (c.take i)).length+(aB8 y.2).length) 16=true:=by simp only[aBe,decide_eq_true_eq];omega
   simp only[List.length_append]at e
   simp only[aA2,aA4,aA3,if_true,decide_eq_true_eq,w,hz,hi',hi,Int.toNat_natCast,bVw,Nat.zero_add,Nat.reduceAdd,Nat.reduceLT,g,aPn,ro,decide_true,Bool.and_self,List.getD_cons_zero,List.getD_cons_succ,C.toInt,C.toRows,C.is,List.length_cons,List.length_nil,Nat.zero_lt_succ,beq_self_eq_true,List.length_map,bLr]
   exact e
  ·have e:i=c.length:=by omega
   subst e
   have hi':¬((c.length:Int)<(c.length:Int)):=by omega
   rw[List.take_length]
   simp only[aA2,aA4,aA3,decide_eq_true_eq,hi',if_false,List.length_map,aHc,decide_true,Bool.or_true,Bool.and_self,if_true]
theorem aZk {ns es:List (List C)} (h:aKr ns es=true):∀ y∈aB2 (nds ns) (ens es),y.2.length≤1048576:=fun y hy=>by
 rw[aM8 _ _ _ _ _ y hy];exact aP8 h _
theorem bUq:aA9 Tryz.prog aTq:=aA8 (by simp[bFu])
theorem aS8:aB0 Tryz.prog 30 (sg [aB4] [rSl 9]) aEh:=aA6 bUq aAa Tryz.func30 (by kernel_rfl) fun cs outs hk h=>by
 unfold aEh at h
 split at h
 ·simp only[Option.some.injEq,Prod.mk.injEq]at h
  obtain⟨hd,rfl⟩:=h
  rename_i ns es os ss r x
  rw[aAd,bJs]
  have hb:((aL6 (aB2 (nds ns) (ens es))).all fun row=>decide (row.length=11))=true:=by simp[aL6]
  have lp:=bJt (aB2 (nds ns) (ens es)) (aZk hd) (aGq _ _ _ _ _) 9223372036854775808 0 (by omega) (by have:=aGq (nds ns) (ens es) 16 0 0;unfold aB2;omega)
  rw[←bVw]at lp
  simp only[aA2,hd,hb,decide_true,Bool.and_self,if_true]
  exact lp
 ·cases h
theorem bPx:aA9 Tryz.prog bH8:=aA8 (by simp[aH4])
theorem bB0:aB0 Tryz.prog 43 (sg [aB4] [rI]) aRg:=aA6 bPx aAa Tryz.func43 (by kernel_rfl) fun cs outs hk h=>by
 unfold aRg at h
 split at h
 ·simp only[Option.some.injEq,Prod.mk.injEq]at h
  obtain⟨hd,rfl⟩:=h
  rw[aAd,bEf]
  simp only[aA2,aA3,hd,aPn,decide_true,Bool.and_self,if_true,List.length_map]
 ·cases h
noncomputable section
end
noncomputable section
def aC2 (ns es:List (List C)):List (List UInt8):=aAl (aB2 (nds ns) (ens es))
def bK4 (n:Nat) (i:Int):Bool:=decide (0≤i)&&decide (i<n)
def bLg (l:List (List UInt8)) (i:Int):List UInt8:=if bK4 l.length i then l.getD i.toNat []else[]
def aW0 (n:Nat) (i:Int):Int:=if bK4 n i then 0 else 1
def aRh:aCh:=fun cs=>match cs with
 |[.sl n1,.sl e1,.sl _,.sl _,.int .i64 _,.int .i64 _,.int .i64 i]=>some (aKr n1 e1,[.str (bLg (aC2 n1 e1) i),.int .i64 (aW0 (aC2 n1 e1).length i)])
 |_=>none
def bH9:Env:=mkE [] [(45,(sg [pI,pI,pI] [rB]),aEm),(10,(sg [aB4] [rSl 9]),aEh)]
def bFb (r:List UInt8) (x:List UInt8):Bool:=decide (x=r)
def aCo (l:List (List UInt8)) (r:List UInt8):Int:=aD3 (bFb r) l 0
def aVf:aCh:=fun cs=>match cs with
 |[.sl rows,.str r]=>some (decide (rows.length≤aK9)&&aAt [.str] rows,[.int .i64 (aCo (aCm rows) r)])
 |_=>none
def aGm:aCh:=fun cs=>match cs with
 |[.sl n1,.sl e1,.sl _,.sl _,.int .i64 _,.int .i64 _,.str r]=>some (aKr n1 e1,[.int .i64 (aCo (aC2 n1 e1) r)])
 |_=>none
def bDb (l:List (List C)) (r:List UInt8) (n i:Int):St:=st0 [(0,.l (.sl l)),(1,aT0 r),(7,aBc n),(8,aBc i)]
def aMz (n:Nat) (l:List (List C)) (r:List UInt8) (i:Int):St:=st1 [(1,aT0 r),(5,.l (.ref 0 0 n)),(6,aBc i)] 1 l
def bDi:Env:=mkE [(2,[0,1,7,8])] []
def aNc:Env:=mkE [(3,[1,5,6])] [(10,(sg [aB4] [rSl 9]),aEh)]
def aZy:Env:=mkE [] [(30,(sg [aB4] [rSl 9]),aEh),(29,(sg [pSl 9,pS] [rI]),aVf)]
end
theorem bEg (H:List Pt→Nat→St→T (List C)) (ns:List (List C)) (es:List (List C)) (os:List (List C)) (ss:List (List C)) (r:Int) (x:Int) (i:Int):(aAm bH9 aAb (sg [aB4,pI] [rS,rI]) Tryz.f26 H [C.sl ns,C.sl es,C.sl os,C.sl ss,C.int .i64 r,C.int .i64 x,C.int .i64 i]).eval=((.must (aKr ns es) (.must ((true&&(List.map aAn (aAl (aB2 (nds ns) (ens es)))).all fun row=>decide (row.length=1))&&true&&true&&true) (.ask (inB i 0 (IntKind.i64.wrap ((↑(List.map aAn (aAl (aB2 (nds ns) (ens es)))).length:Int)-(1:Int)))) (.must (decide ((0:Int)≤i)&&decide (i<(↑(List.map aAn (aAl (aB2 (nds ns) (ens es)))).length:Int))) (.must (decide (0+i.toNat<(List.map aAn (aAl (aB2 (nds ns) (ens es)))).length)&&(decide (0<((List.map aAn (aAl (aB2 (nds ns) (ens es)))).getD (0+i.toNat) []).length)&&C.is K.str (((List.map aAn (aAl (aB2 (nds ns) (ens es)))).getD (0+i.toNat) []).getD 0 (C.fn 0 []))&&true)) (.ret [C.str (((List.map aAn (aAl (aB2 (nds ns) (ens es)))).getD (0+i.toNat) []).getD 0 (C.fn 0 [])).toStr,C.int .i64 0]))) (.ret [C.str [],C.int .i64 1])))):T (List C)).eval:=aAo (by kernel_rfl)
theorem bO4 (H:List Pt→Nat→St→T (List C)) (l:List (List C)) (r:List UInt8):(aAm bDi aAb (sg [pSl 9,pS] [rI]) Tryz.f29 H [C.sl l,C.str r]).eval=((H [Pt.r,Pt.l,Pt.r,Pt.b] 9223372036854775808 (bDb (l) (r) ((↑l.length:Int)) ((0:Int)))):T (List C)).eval:=aAo (by kernel_rfl)
theorem bG2 (H:List Pt→Nat→St→T (List C)) (l:List (List C)) (r:List UInt8) (n:Int) (i:Int) (k:Nat):(aBk bDi aAb (sg [pSl 9,pS] [rI]) Tryz.f29 H [Pt.r,Pt.l,Pt.r,Pt.b] k (bDb l r n i)).eval=((.ask (decide (i<n)) (.must (decide ((0:Int)≤i)&&decide (i<(↑l.length:Int))&&decide ((l.getD i.toNat []).length=1)) (.must (decide (0<(l.getD i.toNat []).length)&&C.is K.str ((l.getD i.toNat []).getD 0 (C.fn 0 []))&&true) (.ask (r==((l.getD i.toNat []).getD 0 (C.fn 0 [])).toStr) (.ret [C.int .i64 i]) (H [Pt.r,Pt.l,Pt.r,Pt.b] k (bDb (l) (r) (n) (IntKind.i64.wrap (i+(1:Int)))))))) (.ret [C.int .i64 (-1)])):T (List C)).eval:=aAo (by kernel_rfl)
theorem bB2 (H:List Pt→Nat→St→T (List C)) (ns:List (List C)) (es:List (List C)) (os:List (List C)) (ss:List (List C)) (r:Int) (x:Int) (i:List UInt8):(aAm aNc aAb (sg [aB4,pS] [rI]) Tryz.f11 H [C.sl ns,C.sl es,C.sl os,C.sl ss,C.int .i64 r,C.int .i64 x,C.str i]).eval=((.must (aKr ns es) (.must ((true&&(List.map aAn (aAl (aB2 (nds ns) (ens es)))).all fun row=>decide (row.length=1))&&true&&true&&true) (H [Pt.r,Pt.r,Pt.l,Pt.r,Pt.b] 9223372036854775808 (aMz ((List.map aAn (aAl (aB2 (nds ns) (ens es)))).length) (List.map aAn (aAl (aB2 (nds ns) (ens es)))) (i) ((0:Int)))))):T (List C)).eval:=aAo (by kernel_rfl)
theorem aUk (H:List Pt→Nat→St→T (List C)) (n:Nat) (l:List (List C)) (r:List UInt8) (i:Int) (k:Nat):(aBk aNc aAb (sg [aB4,pS] [rI]) Tryz.f11 H [Pt.r,Pt.r,Pt.l,Pt.r,Pt.b] k (aMz n l r i)).eval=((.ask (decide (i<(↑n:Int))) (.must (decide ((0:Int)≤i)&&decide (i<(↑n:Int))) (.must (decide (0+i.toNat<l.length)&&(decide (0<(l.getD (0+i.toNat) []).length)&&C.is K.str ((l.getD (0+i.toNat) []).getD 0 (C.fn 0 []))&&true)) (.ask (((l.getD (0+i.toNat) []).getD 0 (C.fn 0 [])).toStr==r) (.ret [C.int .i64 i]) (H [Pt.r,Pt.r,Pt.l,Pt.r,Pt.b] k (aMz (n) (l) (r) (IntKind.i64.wrap (i+(1:Int)))))))) (.ret [C.int .i64 (-1)])):T (List C)).eval:=aAo (by kernel_rfl)
theorem bCf (H:List Pt→Nat→St→T (List C)) (ns:List (List C)) (es:List (List C)) (os:List (List C)) (ss:List (List C)) (r:Int) (x:Int) (i:List UInt8):(aAm aZy aAb (sg [aB4,pS] [rI]) Tryz.f7 H [C.sl ns,C.sl es,C.sl os,C.sl ss,C.int .i64 r,C.int .i64 x,C.str i]).eval=((.must (aKr ns es) (.must ((true&&(List.map aAn (aAl (aB2 (nds ns) (ens es)))).all fun row=>decide (row.length=1))&&true&&true&&true) (.must (decide ((List.take (List.map aAn (aAl (aB2 (nds ns) (ens es)))).length (List.map aAn (aAl (aB2 (nds ns) (ens es))))).length≤aK9)&&aAt [K.str] (List.take (List.map aAn (aAl (aB2 (nds ns) (ens es)))).length (List.map aAn (aAl (aB2 (nds ns) (ens es)))))) (.ret [C.int .i64 (aCo (aCm (List.take (List.map aAn (aAl (aB2 (nds ns) (ens es)))).length (List.map aAn (aAl (aB2 (nds ns) (ens es)))))) i)])))):T (List C)).eval:=aAo (by kernel_rfl)
theorem aKh {ns es:List (List C)} (h:aKr ns es=true):(aC2 ns es).length≤16777216:=by
 have h1:=aMp (aB2 (nds ns) (ens es)) (aZk h)
 have h2:=aGq (nds ns) (ens es) 16 0 0
 unfold aB2 at h1
 unfold aC2 aB2
 omega
theorem bXt (n:Nat) (i:Int) (h:n≤16777216):inB i 0 (IntKind.i64.wrap ((n:Int)-1))=bK4 n i:=by
 have w:IntKind.i64.wrap ((n:Int)-1)=(n:Int)-1:=by rw[aAi]<;>omega
 rw[w]
 unfold inB bK4
 congr 1
 by_cases hi:i<n
 ·rw[decide_eq_true hi,decide_eq_true (by omega)]
 ·rw[decide_eq_false hi,decide_eq_false (by omega)]
theorem bRw (n:Nat) (i:Int):bK4 n i=true↔0≤i∧i<n:=by simp[bK4]
theorem bPy:aA9 Tryz.prog bH9:=aA8 (by simp[aDg,aH4])
theorem bB1:aB0 Tryz.prog 26 (sg [aB4,pI] [rS,rI]) aRh:=aA6 bPy aAa Tryz.func26 (by kernel_rfl) fun cs outs hk h=>by
 unfold aRh at h
 split at h
 ·simp only[Option.some.injEq,Prod.mk.injEq]at h
  obtain⟨h1,rfl⟩:=h
  rename_i ns es os ss r x i
  have l1:=aKh h1
  rw[aAd,bEg]
  have e1':aAl (aB2 (nds ns) (ens es))=aC2 ns es:=rfl
  rw[e1']
  generalize aC2 ns es=a at l1 ⊢
  unfold bLg aW0
  simp only[aA2,aA4,aA3,h1,aPn,decide_true,Bool.and_self,if_true,List.length_map,bXt a.length i l1]
  by_cases hg:bK4 a.length i=true
  ·obtain⟨c1,c2⟩:=(bRw _ _).1 hg
   have hi:i.toNat<a.length:=by omega
   have g:=aBa aAn a [] i.toNat hi
   simp only[hg,c1,c2,hi,if_true,Nat.zero_add,g,List.getD_cons_zero,C.toStr,C.is,List.length_cons,List.length_nil,Nat.zero_lt_succ,decide_true,Bool.and_self]
  ·simp only[hg,Bool.false_eq_true,if_false]
 ·cases h
theorem bO5 (l:List (List UInt8)) (r:List UInt8) (hl:l.length≤281474976710656):∀ (n i:Nat),i≤l.length→l.length<i+n →
  (aBn bDi aAb (sg [pSl 9,pS] [rI]) Tryz.f29 [.r,.l,.r,.b] n (bDb (l.map aAn) r l.length i)).eval=some [.int .i64 (aD3 (bFb r) (l.drop i) i)]:=by
 intro n
 induction n with
 |zero=>intro i h1 h2;omega
 |succ n ih =>
  intro i h1 h2
  rw[aAz _ _ _ _ _ _ _ (by kernel_rfl),bG2]
  by_cases hi:i<l.length
  ·have g:=aBa aAn l [] i hi
   have w:IntKind.i64.wrap ((i:Int)+1)=((i+1:Nat):Int):=by rw[aAi]<;>omega
   have hz:(0:Int)≤i:=by omega
   have hi':(i:Int)<l.length:=by omega
   rw[aC3 l i [] hi]
   generalize l.getD i []=y at g ⊢
   simp only[aA2,aA4,aA3,if_true,decide_eq_true_eq,Bool.and_eq_true,w,hz,hi',Int.toNat_natCast,List.length_map,g,and_self,List.getD_cons_zero,C.toStr,C.is,List.length_cons,List.length_nil,Nat.zero_add,Nat.zero_lt_succ,decide_true,beq_iff_eq,aD3,bFb]
   by_cases hy:y=r
   ·simp only[hy,if_true]
   ·have hy2:¬r=y:=fun e=>hy e.symm
    simp only[hy,hy2,if_false]
    exact ih (i+1) (by omega) (by omega)
  ·have e:i=l.length:=by omega
   subst e
   have hi':¬((l.length:Int)<(l.length:Int)):=by omega
   simp only[aA4,aA3,decide_eq_true_eq,hi',if_false,List.drop_length,aD3]
theorem bXq:aA9 Tryz.prog bDi:=aA8 (by simp[])
theorem bJi:aB0 Tryz.prog 29 (sg [pSl 9,pS] [rI]) aVf:=aA6 bXq aAa Tryz.func29 (by kernel_rfl) fun cs outs hk h=>by
 unfold aVf at h
 split at h
 ·simp only[Option.some.injEq,Prod.mk.injEq,Bool.and_eq_true,decide_eq_true_eq]at h
  obtain⟨⟨h1,h2⟩,rfl⟩:=h
  rename_i rows r
  have hr:=aFu h2
  generalize aCm rows=l at hr ⊢
  subst hr
  rw[List.length_map]at h1
  rw[aAd,bO4]
  have:=bO5 l r h1 9223372036854775808 0 (by omega) (by have:l.length≤281474976710656:=h1;omega)
  rw[show (l.length:Int)=((l.map aAn).length:Int) by rw[List.length_map]]at this
  exact this
 ·cases h
theorem bB3 (l:List (List UInt8)) (r:List UInt8) (hl:l.length≤16777216):∀ (n i:Nat),i≤l.length→l.length<i+n →
  (aBn aNc aAb (sg [aB4,pS] [rI]) Tryz.f11 [.r,.r,.l,.r,.b] n (aMz l.length (l.map aAn) r i)).eval=some [.int .i64 (aD3 (bFb r) (l.drop i) i)]:=by
 intro n
 induction n with
 |zero=>intro i h1 h2;omega
 |succ n ih =>
  intro i h1 h2
  rw[aAz _ _ _ _ _ _ _ (by kernel_rfl),aUk]
  by_cases hi:i<l.length
  ·have g:=aBa aAn l [] i hi
   have w:IntKind.i64.wrap ((i:Int)+1)=((i+1:Nat):Int):=by rw[aAi]<;>omega
   have hz:(0:Int)≤i:=by omega
   have hi':(i:Int)<l.length:=by omega
   rw[aC3 l i [] hi]
   generalize l.getD i []=y at g ⊢
   simp only[aA2,aA4,aA3,if_true,decide_eq_true_eq,Bool.and_eq_true,w,hz,hi',hi,Int.toNat_natCast,List.length_map,g,and_self,List.getD_cons_zero,C.toStr,C.is,List.length_cons,List.length_nil,Nat.zero_add,Nat.zero_lt_succ,decide_true,beq_iff_eq,aD3,bFb]
   by_cases hy:y=r
   ·simp only[hy,if_true]
   ·simp only[hy,if_false]
    exact ih (i+1) (by omega) (by omega)
  ·have e:i=l.length:=by omega
   subst e
   have hi':¬((l.length:Int)<(l.length:Int)):=by omega
   simp only[aA4,aA3,decide_eq_true_eq,hi',if_false,List.drop_length,aD3]
theorem bN5:aA9 Tryz.prog aNc:=aA8 (by simp[aH4])
theorem aXn:aB0 Tryz.prog 11 (sg [aB4,pS] [rI]) aGm:=aA6 bN5 aAa Tryz.func11 (by kernel_rfl) fun cs outs hk h=>by
 unfold aGm at h
 split at h
 ·simp only[Option.some.injEq,Prod.mk.injEq]at h
  obtain⟨h1,rfl⟩:=h
  rename_i ns es os ss r x rc
  have l1:=aKh h1
  rw[aAd,bB2]
  have e1':aAl (aB2 (nds ns) (ens es))=aC2 ns es:=rfl
  rw[e1']
  generalize aC2 ns es=a at l1 ⊢
  simp only[aA2,h1,aPn,decide_true,Bool.and_self,if_true]
  have:=bB3 a rc l1 9223372036854775808 0 (by omega) (by omega)
  rw[show a.length=(a.map aAn).length by rw[List.length_map]]at this
  exact this
 ·cases h
theorem bOg:aA9 Tryz.prog aZy:=aA8 (by simp[aS8,bJi])
theorem aYa:aB0 Tryz.prog 7 (sg [aB4,pS] [rI]) aGm:=aA6 bOg aAa Tryz.func7 (by kernel_rfl) fun cs outs hk h=>by
 unfold aGm at h
 split at h
 ·simp only[Option.some.injEq,Prod.mk.injEq]at h
  obtain⟨h1,rfl⟩:=h
  rename_i ns es os ss r x rc
  have l1:=aKh h1
  rw[aAd,bCf]
  have e1':aAl (aB2 (nds ns) (ens es))=aC2 ns es:=rfl
  rw[e1']
  generalize aC2 ns es=a at l1 ⊢
  have hb:a.length≤aK9:=by show a.length≤281474976710656;omega
  have tk:List.take a.length (a.map aAn)=a.map aAn:=by rw[List.take_of_length_le];simp
  simp only[aA2,aA3,h1,aPn,decide_true,Bool.and_self,if_true,List.length_map,tk,hb,aEg,aIm]
 ·cases h
noncomputable section
def mk (f:Int→List C) (s k:Int) (n:Nat):List (List C):=(List.range n).map fun (i:Nat)=>f (k+s*(i:Int))
def aRu:aCh:=fun cs=>match cs with
 |[.sl rows]=>some (aAt [.str] rows&&decide (rows.length≤1099511627776),[.sl rows])
 |_=>none
def bDj:Env:=mkE [] []
end
theorem bSg (r : List (List C)) : bDq bDj aAb [false] (sg [pSl (9 : TypeId)] [rSl (9 : TypeId)]) Tryz.f31 [C.sl r] =
 (.must true
 (.ask (false)
  (.must true
   (.ret [C.sl []]))
  (.must (decide ((0 : Nat) = (0 : Nat)) && aBe ((0 : Nat) + r.length) (16 : Nat) &&
  r.all fun r => decide (r.length = (1 : Nat)))
   (.must (decide ((0 : Nat) + r.length = r.length) && (false || r.all fun r => r.all C.flat) && true && true && true)
    (.ret [C.sl r]))))) := by kernel_rfl
theorem bOr (z : Nat) : bDq bDj aAb [true] (sg [pSl (9 : TypeId)] [rSl (9 : TypeId)]) Tryz.f31 [C.sl []] =
 (.must true
 (.ask true
  (.must true
   (.ret [C.sl []]))
  (.must true
   (.must true
    (.ret [C.sl []]))))) := by kernel_rfl
theorem bNm {ks:List K} {rows:List (List C)} (h:aAt ks rows=true) (n:Nat) (hn:ks.length=n):(rows.all fun row=>decide (row.length=n))=true:=by
 have kl:∀ (cs:List C) (ks:List K),aBf cs ks=true→cs.length=ks.length:=by
  intro cs
  induction cs with
  |nil=>intro ks h;cases ks<;>simp[aBf]at h ⊢
  |cons c cs ih=>intro ks h;cases ks<;>simp[aBf]at h ⊢;exact ih _ h.2
 simp only[aAt,List.all_eq_true]at h ⊢
 intro r hr
 simp[kl _ _ (h r hr),hn]
theorem bV8:aA9 Tryz.prog bDj:=aA8 (by simp)
theorem bGv:aB0 Tryz.prog 31 (sg [pSl 9] [rSl 9]) aRu:=bDp bV8 aAa Tryz.func31 (by kernel_rfl) rfl fun cs outs hk h bs hb=>by
 unfold aRu at h
 split at h
 ·simp only[Option.some.injEq,Prod.mk.injEq,Bool.and_eq_true,decide_eq_true_eq]at h
  obtain⟨⟨h1,h2⟩,rfl⟩:=h
  rename_i rows
  have r1:=bNm h1 1 rfl
  match bs,hb with
  |[true],hb =>
   have:rows=[]:=by simpa[aPx]using hb
   subst this
   rw[bOr 0]
   rfl
  |[false],_ =>
   rw[bSg]
   have hroom:aBe rows.length 16=true:=by unfold aBe;simp;omega
   have hf:(rows.all fun r=>r.all C.flat)=true:=by
    simp only[aAt,List.all_eq_true]at h1 ⊢
    intro r hr c hc
    have:=bQd (h1 r hr)
    rw[this]at hc
    obtain rfl:=List.mem_singleton.1 hc
    rfl
   simp only[aA2,aA4,aA3,r1,hroom,hf,Nat.zero_add,decide_true,Bool.and_self,Bool.or_true,Bool.and_true,if_true,Bool.false_eq_true,if_false]
  |[],hb=>simp[aPx]at hb
  |_::_::_,hb=>simp[aPx]at hb
 ·cases h
noncomputable section
def bVl (n:Nat) (k:Int):Nat:=(IntKind.i64.wrap ((n:Int)-aB5 k 0 n)).toNat
def aCy (l:List (List UInt8)) (n:Int):List (List UInt8):=l.drop (bVl l.length n)
def aMg:aCh:=fun cs=>match cs with
 |[.sl n1,.sl e1,.sl _,.sl _,.int .i64 _,.int .i64 _,.int .i64 a]=>some (aKr n1 e1,[.sl ((aCy (aC2 n1 e1) a).map aAn)])
 |_=>none
def aZt:Env:=mkE [] [(36,(sg [pI,pI,pI] [rI]),aFi),(10,(sg [aB4] [rSl 9]),aEh)]
def aZx:Env:=mkE [] [(32,(sg [pI,pI,pI] [rI]),aFi),(30,(sg [aB4] [rSl 9]),aEh),(31,(sg [pSl 9] [rSl 9]),aRu)]
end
theorem bAz (H:List Pt→Nat→St→T (List C)) (ns:List (List C)) (es:List (List C)) (os:List (List C)) (ss:List (List C)) (r:Int) (x:Int) (a:Int):(aAm aZt aAb (sg [aB4,pI] [rSl 9]) Tryz.f13 H [C.sl ns,C.sl es,C.sl os,C.sl ss,C.int .i64 r,C.int .i64 x,C.int .i64 a]).eval=((.must (aKr ns es) (.must ((true&&(List.map aAn (aAl (aB2 (nds ns) (ens es)))).all fun row=>decide (row.length=1))&&true&&true&&true) (.must (decide ((0:Int)≤IntKind.i64.wrap ((↑(List.map aAn (aAl (aB2 (nds ns) (ens es)))).length:Int)-aB5 a 0 (↑(List.map aAn (aAl (aB2 (nds ns) (ens es)))).length:Int)))&&decide (IntKind.i64.wrap ((↑(List.map aAn (aAl (aB2 (nds ns) (ens es)))).length:Int)-aB5 a 0 (↑(List.map aAn (aAl (aB2 (nds ns) (ens es)))).length:Int))≤(↑(List.map aAn (aAl (aB2 (nds ns) (ens es)))).length:Int))) (.must (decide (0=0)&&aBe (0+(List.take ((List.map aAn (aAl (aB2 (nds ns) (ens es)))).length-(IntKind.i64.wrap ((↑(List.map aAn (aAl (aB2 (nds ns) (ens es)))).length:Int)-aB5 a 0 (↑(List.map aAn (aAl (aB2 (nds ns) (ens es)))).length:Int))).toNat) (List.drop (0+(IntKind.i64.wrap ((↑(List.map aAn (aAl (aB2 (nds ns) (ens es)))).length:Int)-aB5 a 0 (↑(List.map aAn (aAl (aB2 (nds ns) (ens es)))).length:Int))).toNat) (List.map aAn (aAl (aB2 (nds ns) (ens es)))))).length) 16&&(List.take ((List.map aAn (aAl (aB2 (nds ns) (ens es)))).length-(IntKind.i64.wrap ((↑(List.map aAn (aAl (aB2 (nds ns) (ens es)))).length:Int)-aB5 a 0 (↑(List.map aAn (aAl (aB2 (nds ns) (ens es)))).length:Int))).toNat) (List.drop (0+(IntKind.i64.wrap ((↑(List.map aAn (aAl (aB2 (nds ns) (ens es)))).length:Int)-aB5 a 0 (↑(List.map aAn (aAl (aB2 (nds ns) (ens es)))).length:Int))).toNat) (List.map aAn (aAl (aB2 (nds ns) (ens es)))))).all fun row=>decide (row.length=1)) (.must (decide (0+(List.take ((List.map aAn (aAl (aB2 (nds ns) (ens es)))).length-(IntKind.i64.wrap ((↑(List.map aAn (aAl (aB2 (nds ns) (ens es)))).length:Int)-aB5 a 0 (↑(List.map aAn (aAl (aB2 (nds ns) (ens es)))).length:Int))).toNat) (List.drop (0+(IntKind.i64.wrap ((↑(List.map aAn (aAl (aB2 (nds ns) (ens es)))).length:Int)-aB5 a 0 (↑(List.map aAn (aAl (aB2 (nds ns) (ens es)))).length:Int))).toNat) (List.map aAn (aAl (aB2 (nds ns) (ens es)))))).length=(List.take ((List.map aAn (aAl (aB2 (nds ns) (ens es)))).length-(IntKind.i64.wrap ((↑(List.map aAn (aAl (aB2 (nds ns) (ens es)))).length:Int)-aB5 a 0 (↑(List.map aAn (aAl (aB2 (nds ns) (ens es)))).length:Int))).toNat) (List.drop (0+(IntKind.i64.wrap ((↑(List.map aAn (aAl (aB2 (nds ns) (ens es)))).length:Int)-aB5 a 0 (↑(List.map aAn (aAl (aB2 (nds ns) (ens es)))).length:Int))).toNat) (List.map aAn (aAl (aB2 (nds ns) (ens es)))))).length)&&(false||(List.take ((List.map aAn (aAl (aB2 (nds ns) (ens es)))).length-(IntKind.i64.wrap ((↑(List.map aAn (aAl (aB2 (nds ns) (ens es)))).length:Int)-aB5 a 0 (↑(List.map aAn (aAl (aB2 (nds ns) (ens es)))).length:Int))).toNat) (List.drop (0+(IntKind.i64.wrap ((↑(List.map aAn (aAl (aB2 (nds ns) (ens es)))).length:Int)-aB5 a 0 (↑(List.map aAn (aAl (aB2 (nds ns) (ens es)))).length:Int))).toNat) (List.map aAn (aAl (aB2 (nds ns) (ens es)))))).all fun r=>r.all C.flat)&&true&&true&&true) (.ret [C.sl (List.take ((List.map aAn (aAl (aB2 (nds ns) (ens es)))).length-(IntKind.i64.wrap ((↑(List.map aAn (aAl (aB2 (nds ns) (ens es)))).length:Int)-aB5 a 0 (↑(List.map aAn (aAl (aB2 (nds ns) (ens es)))).length:Int))).toNat) (List.drop (0+(IntKind.i64.wrap ((↑(List.map aAn (aAl (aB2 (nds ns) (ens es)))).length:Int)-aB5 a 0 (↑(List.map aAn (aAl (aB2 (nds ns) (ens es)))).length:Int))).toNat) (List.map aAn (aAl (aB2 (nds ns) (ens es))))))])))))):T (List C)).eval:=aAo (by kernel_rfl)
theorem bCe (H:List Pt→Nat→St→T (List C)) (ns:List (List C)) (es:List (List C)) (os:List (List C)) (ss:List (List C)) (r:Int) (x:Int) (a:Int):(aAm aZx aAb (sg [aB4,pI] [rSl 9]) Tryz.f9 H [C.sl ns,C.sl es,C.sl os,C.sl ss,C.int .i64 r,C.int .i64 x,C.int .i64 a]).eval=((.must (aKr ns es) (.must ((true&&(List.map aAn (aAl (aB2 (nds ns) (ens es)))).all fun row=>decide (row.length=1))&&true&&true&&true) (.must (decide ((0:Int)≤IntKind.i64.wrap ((↑(List.map aAn (aAl (aB2 (nds ns) (ens es)))).length:Int)-aB5 a 0 (↑(List.map aAn (aAl (aB2 (nds ns) (ens es)))).length:Int)))&&decide (IntKind.i64.wrap ((↑(List.map aAn (aAl (aB2 (nds ns) (ens es)))).length:Int)-aB5 a 0 (↑(List.map aAn (aAl (aB2 (nds ns) (ens es)))).length:Int))≤(↑(List.map aAn (aAl (aB2 (nds ns) (ens es)))).length:Int))) (.must (aAt [K.str] (List.take ((List.map aAn (aAl (aB2 (nds ns) (ens es)))).length-(IntKind.i64.wrap ((↑(List.map aAn (aAl (aB2 (nds ns) (ens es)))).length:Int)-aB5 a 0 (↑(List.map aAn (aAl (aB2 (nds ns) (ens es)))).length:Int))).toNat) (List.drop (0+(IntKind.i64.wrap ((↑(List.map aAn (aAl (aB2 (nds ns) (ens es)))).length:Int)-aB5 a 0 (↑(List.map aAn (aAl (aB2 (nds ns) (ens es)))).length:Int))).toNat) (List.map aAn (aAl (aB2 (nds ns) (ens es))))))&&decide ((List.take ((List.map aAn (aAl (aB2 (nds ns) (ens es)))).length-(IntKind.i64.wrap ((↑(List.map aAn (aAl (aB2 (nds ns) (ens es)))).length:Int)-aB5 a 0 (↑(List.map aAn (aAl (aB2 (nds ns) (ens es)))).length:Int))).toNat) (List.drop (0+(IntKind.i64.wrap ((↑(List.map aAn (aAl (aB2 (nds ns) (ens es)))).length:Int)-aB5 a 0 (↑(List.map aAn (aAl (aB2 (nds ns) (ens es)))).length:Int))).toNat) (List.map aAn (aAl (aB2 (nds ns) (ens es)))))).length≤1099511627776)) (.must ((true&&(List.take ((List.map aAn (aAl (aB2 (nds ns) (ens es)))).length-(IntKind.i64.wrap ((↑(List.map aAn (aAl (aB2 (nds ns) (ens es)))).length:Int)-aB5 a 0 (↑(List.map aAn (aAl (aB2 (nds ns) (ens es)))).length:Int))).toNat) (List.drop (0+(IntKind.i64.wrap ((↑(List.map aAn (aAl (aB2 (nds ns) (ens es)))).length:Int)-aB5 a 0 (↑(List.map aAn (aAl (aB2 (nds ns) (ens es)))).length:Int))).toNat) (List.map aAn (aAl (aB2 (nds ns) (ens es)))))).all fun row=>decide (row.length=1))&&true&&true&&true) (.must (decide ((List.take ((List.map aAn (aAl (aB2 (nds ns) (ens es)))).length-(IntKind.i64.wrap ((↑(List.map aAn (aAl (aB2 (nds ns) (ens es)))).length:Int)-aB5 a 0 (↑(List.map aAn (aAl (aB2 (nds ns) (ens es)))).length:Int))).toNat) (List.drop (0+(IntKind.i64.wrap ((↑(List.map aAn (aAl (aB2 (nds ns) (ens es)))).length:Int)-aB5 a 0 (↑(List.map aAn (aAl (aB2 (nds ns) (ens es)))).length:Int))).toNat) (List.map aAn (aAl (aB2 (nds ns) (ens es)))))).length=(List.take ((List.map aAn (aAl (aB2 (nds ns) (ens es)))).length-(IntKind.i64.wrap ((↑(List.map aAn (aAl (aB2 (nds ns) (ens es)))).length:Int)-aB5 a 0 (↑(List.map aAn (aAl (aB2 (nds ns) (ens es)))).length:Int))).toNat) (List.drop (0+(IntKind.i64.wrap ((↑(List.map aAn (aAl (aB2 (nds ns) (ens es)))).length:Int)-aB5 a 0 (↑(List.map aAn (aAl (aB2 (nds ns) (ens es)))).length:Int))).toNat) (List.map aAn (aAl (aB2 (nds ns) (ens es)))))).length)&&(false||(List.take ((List.map aAn (aAl (aB2 (nds ns) (ens es)))).length-(IntKind.i64.wrap ((↑(List.map aAn (aAl (aB2 (nds ns) (ens es)))).length:Int)-aB5 a 0 (↑(List.map aAn (aAl (aB2 (nds ns) (ens es)))).length:Int))).toNat) (List.drop (0+(IntKind.i64.wrap ((↑(List.map aAn (aAl (aB2 (nds ns) (ens es)))).length:Int)-aB5 a 0 (↑(List.map aAn (aAl (aB2 (nds ns) (ens es)))).length:Int))).toNat) (List.map aAn (aAl (aB2 (nds ns) (ens es)))))).all fun r=>r.all C.flat)&&true&&true&&true) (.ret [C.sl (List.take ((List.map aAn (aAl (aB2 (nds ns) (ens es)))).length-(IntKind.i64.wrap ((↑(List.map aAn (aAl (aB2 (nds ns) (ens es)))).length:Int)-aB5 a 0 (↑(List.map aAn (aAl (aB2 (nds ns) (ens es)))).length:Int))).toNat) (List.drop (0+(IntKind.i64.wrap ((↑(List.map aAn (aAl (aB2 (nds ns) (ens es)))).length:Int)-aB5 a 0 (↑(List.map aAn (aAl (aB2 (nds ns) (ens es)))).length:Int))).toNat) (List.map aAn (aAl (aB2 (nds ns) (ens es))))))]))))))):T (List C)).eval:=aAo (by kernel_rfl)
theorem bNn (m:List (List UInt8)) (h:m.length≤16777216):aBe (m.map aAn).length 16=true:=by unfold aBe;simp;omega
theorem cAc (m:List (List UInt8)) (h:m.length≤16777216):decide ((m.map aAn).length≤1099511627776)=true:=by simp;omega
theorem bPh (n:Nat) (k:Int) (h:n≤16777216):0≤IntKind.i64.wrap ((n:Int)-aB5 k 0 n)∧IntKind.i64.wrap ((n:Int)-aB5 k 0 n)≤n:=by
 have hb:0≤aB5 k 0 n∧aB5 k 0 n≤n:=by unfold aB5;split<;>(try split)<;>omega
 rw[aAi (by omega) (by omega)]
 omega
theorem bKq (l:List (List UInt8)) (k:Int):List.take ((l.map aAn).length-(IntKind.i64.wrap (((l.map aAn).length:Int)-aB5 k 0 ((l.map aAn).length:Int))).toNat) (List.drop (0+(IntKind.i64.wrap (((l.map aAn).length:Int)-aB5 k 0 ((l.map aAn).length:Int))).toNat) (l.map aAn))=(aCy l k).map aAn:=by
 rw[Nat.zero_add,List.length_map]
 unfold aCy bVl
 rw[List.map_drop,List.take_of_length_le]
 simp
theorem bKr (l:List (List UInt8)) (k:Int):(aCy l k).length≤l.length:=by unfold aCy;simp
theorem bN4:aA9 Tryz.prog aZt:=aA8 (by simp[aNs,aH4])
theorem aXm:aB0 Tryz.prog 13 (sg [aB4,pI] [rSl 9]) aMg:=aA6 bN4 aAa Tryz.func13 (by kernel_rfl) fun cs outs hk h=>by
 unfold aMg at h
 split at h
 ·simp only[Option.some.injEq,Prod.mk.injEq]at h
  obtain⟨h1,rfl⟩:=h
  rename_i ns es os ss r x a
  have l1:=aKh h1
  rw[aAd,bAz]
  have e1':aAl (aB2 (nds ns) (ens es))=aC2 ns es:=rfl
  rw[e1']
  generalize aC2 ns es=l at l1 ⊢
  have ta:=bPh (l.map aAn).length a (by simpa using l1)
  have l2:=bKr l a
  rw[bKq]
  generalize aCy l a=m at l2 ⊢
  have r2:=bNn m (by omega)
  simp only[aA2,aA4,aA3,h1,aPn,ta.1,ta.2,r2,aHc,decide_true,Bool.and_self,Bool.or_true,Bool.and_true,Bool.true_and,if_true,Nat.zero_add]
 ·cases h
theorem bOf:aA9 Tryz.prog aZx:=aA8 (by simp[aYf,aS8,bGv])
theorem aY9:aB0 Tryz.prog 9 (sg [aB4,pI] [rSl 9]) aMg:=aA6 bOf aAa Tryz.func9 (by kernel_rfl) fun cs outs hk h=>by
 unfold aMg at h
 split at h
 ·simp only[Option.some.injEq,Prod.mk.injEq]at h
  obtain⟨h1,rfl⟩:=h
  rename_i ns es os ss r x a
  have l1:=aKh h1
  rw[aAd,bCe]
  have e1':aAl (aB2 (nds ns) (ens es))=aC2 ns es:=rfl
  rw[e1']
  generalize aC2 ns es=l at l1 ⊢
  have ta:=bPh (l.map aAn).length a (by simpa using l1)
  have l2:=bKr l a
  rw[bKq]
  generalize aCy l a=m at l2 ⊢
  have r2:=cAc m (by omega)
  simp only[aA2,aA4,aA3,h1,aPn,aEg,ta.1,ta.2,r2,aHc,decide_true,Bool.and_self,Bool.or_true,Bool.and_true,Bool.true_and,if_true,Nat.zero_add]
 ·cases h
noncomputable section
abbrev Pl:=Int×Int
def ePl (p:Pl):List C:=[.int .i64 p.1,.int .i64 p.2]
def cAx (r:List C):Pl:=((r.getD 0 (.fn 0 [])).toInt,(r.getD 1 (.fn 0 [])).toInt)
def pls (rows:List (List C)):List Pl:=rows.map cAx
def aDu (s:Int) (os:List Int):Nat→List Pl
 |0=>[]
 |i+1=>aDu s os i++(if (i:Int) % s=0 then[((i:Int),os.getD i 0)]else[])
def aBq (s:Int) (os:List Int):List Pl:=if s<1 then[]else aDu s os os.length
def aT7 (a b:Int):Int:=if a<b∨IntKind.i64.wrap (a-b)<0 then -1 else IntKind.i64.wrap (a-b)
def bQu:Pl→List Pl→Option (List UInt8)
 |_,[]=>some []
 |q,p::r=>if aBp (aT7 p.1 q.1)=[]∨aBp (aT7 p.2 q.2)=[]then none else (bQu p r).map ((aBp (aT7 p.1 q.1)++aBp (aT7 p.2 q.2))++ ·)
def aBx (l:List Pl):List UInt8:=match bQu (0,0) l with
 |some t=>aBp l.length++t
 |none=>[]
def bTg:List Int→List UInt8→List UInt8
 |[],t=>t++[73,68,88,33]
 |x::r,t=>if aAj x 4=[]then[]else bTg r (t++aAj x 4)
def aCw (a b c d:Int):List UInt8:=bTg [a,b,c,d] []
def aCs (v s b l:Int) (os:List Int) (e:Int):List UInt8 :=
 if aF1 v s b l=false∨aBm v (b+os.length)=[]∨aBx (aBq s os)=[]∨aCw e os.length s 0=[]then[]
 else aBm v (b+os.length)++aBx (aBq s os)++aCw e os.length s (aB1 0 (aBm v (b+os.length)++aBx (aBq s os)++(aCw e os.length s 0).take 12):Nat)
def aPd (v b:Int):Int→List (List UInt8)→List UInt8→List Int→Option (List UInt8×List Int)
 |_,[],t,os=>some (t,os)
 |i,r::rs,t,os=>if 60<r.length then none else aPd v b (i+1) rs (t++aAf v (b+i) r) (os++[(t.length:Int)])
def aDt (v s b l:Int) (rs:List (List UInt8)):List UInt8 :=
 if aF1 v s b l=false∨1000<rs.length∨1000000000<b+rs.length then[]
 else match aPd v b 0 rs (aBu v s b l) []with
  |some (t,os)=>t++aCs v s b l os t.length
  |none=>[]
def aLp:aCh:=fun cs=>match cs with
 |[.int .i64 s,.sl os]=>some (aAt [.int .i64] os&&decide (os.length≤1048576),[.sl ((aBq s (aH7 os)).map ePl)])
 |_=>none
def bBw:aCh:=fun cs=>match cs with
 |[.int .i64 a,.int .i64 b]=>some (true,[.int .i64 (aT7 a b)])
 |_=>none
def aJb:aCh:=fun cs=>match cs with
 |[.sl r]=>some (aAt [.int .i64,.int .i64] r&&decide (r.length≤1048576),[.str (aBx (pls r))])
 |_=>none
def aO6:aCh:=fun cs=>match cs with
 |[.int .i64 a,.int .i64 b,.int .i64 c,.int .i64 d]=>some (inB a (-9223372036854775808) 9223372036854775807&&(inB b (-9223372036854775808) 9223372036854775807&&(inB c (-9223372036854775808) 9223372036854775807&&inB d (-9223372036854775808) 9223372036854775807)),[.str (aCw a b c d)])
 |_=>none
def bCq:aCh:=fun cs=>match cs with
 |[.int .i64 v,.int .i64 s,.int .i64 b,.int .i64 l,.sl os,.int .i64 e]=>some (aAt [.int .i64] os&&(decide (os.length≤1048576)&&inB e (-9223372036854775808) 9223372036854775807),[.str (aCs v s b l (aH7 os) e)])
 |_=>none
def aT4:aCh:=fun cs=>match cs with
 |[.int .i64 v,.int .i64 s,.int .i64 b,.int .i64 l,.sl r]=>some (aAt [.str] r&&decide (r.length≤1048576),[.str (aDt v s b l (aCm r))])
 |_=>none
abbrev bVr:PTy:=.val false [.slice 3]
abbrev bOv:PTy:=.val false [.slice 9]
abbrev bZb:PTy:=.val false [.slice 153]
abbrev bZ8:RTy:=⟨false,[(.slice 153,true)]⟩
def aIj (s:Int) (o:List (List C)) (n:Nat) (r:List (List C)) (j:Int):St:={slots:=[(0,aBc s),(1,.l (.sl o)),(5,.l (.ref 0 0 n)),(6,aBc j)],heap:=[(0,.arr 2 r)],next:=1,pins:=[]}
def aKz:Env:=mkE [(3,[0,1,5,6])] []
def bSt:Env:=mkE [] []
def aHx (r:List (List C)) (t:List UInt8) (a b j:Int):St:={slots:=[(0,.l (.sl r)),(3,aT0 t),(4,.l (.ptr 0 0)),(5,aBc j)],heap:=[(0,.box [.i .i64 a,.i .i64 b])],next:=1,pins:=[]}
def aHy:Env:=mkE [(4,[0,3,4,5])] [(125,(sg [pI] [rS]),aEd),(154,(sg [pI,pI] [rI]),bBw)]
def aMw (t:List UInt8) (a b c d j:Int):St:={slots:=[(9,aT0 t),(10,.l (.ref 0 0 4)),(11,aBc j)],heap:=[(0,.arr 1 [[.int .i64 a],[.int .i64 b],[.int .i64 c],[.int .i64 d]])],next:=1,pins:=[]}
def aN7:Env:=mkE [(4,[9,10,11])] [(88,(sg [pI,pI] [rS]),aGo)]
def bSu:Env:=mkE [] [(123,(sg [pS] [rI]),aEe),(105,(sg [aFf] [rB]),aFl),(89,(sg [pI,pI] [rS]),aFh),(136,(⟨[pI,bVr],[bZ8],true⟩),aLp),(135,(⟨[bZb],[rS],true⟩),aJb),(137,(sg [pI,pI,pI,pI] [rS]),aO6)]
def bD9 (v s b l:Int) (r:List (List C)) (n:Nat) (x:List (List C)) (q:Nat) (o:List (List C)) (j:Int):St:={slots:=[(1,.l (.sl r)),(2,.l (.ptr 0 0)),(5,.l (.ref 1 0 n)),(6,.l (.ref 2 0 q)),(7,aBc j)],heap:=[(0,.box [.i .i64 v,.i .i64 s,.i .i64 b,.i .i64 l]),(1,.arr 1 x),(2,.arr 1 o)],next:=3,pins:=[]}
def bDd:Env:=mkE [(6,[1,2,5,6,7])] [(105,(sg [aFf] [rB]),aFl),(86,(sg [aFf] [rS]),aDp),(91,(sg [pI,pI,pS] [rS]),aHb),(106,(⟨[aFf,bVr,pI],[rS],true⟩),bCq)]
end
theorem aXi (H:List Pt→Nat→St→T (List C)) (s:Int) (o:List (List C)):(aAm aKz aAb {params:=[pI,bVr],results:=[bZ8],nested:=true} Tryz.f136 H [C.int .i64 s,C.sl o]).eval=((H [Pt.r,Pt.r,Pt.l,Pt.r,Pt.b] 9223372036854775808 (aIj (s) (o) (0) ([]) ((0:Int)))):T (List C)).eval:=aAo (by kernel_rfl)
theorem aHk (H:List Pt→Nat→St→T (List C)) (s:Int) (o:List (List C)) (n:Nat) (r:List (List C)) (j:Int) (k:Nat):(aBk aKz aAb {params:=[pI,bVr],results:=[bZ8],nested:=true} Tryz.f136 H [Pt.r,Pt.r,Pt.l,Pt.r,Pt.b] k (aIj s o n r j)).eval=((.ask (decide (j<(↑o.length:Int))) (.ask (decide ((1:Int)≤s)) (.must (decide ¬s=(0:Int)) (.ask (decide (j.tmod s=(0:Int))) (.must (decide ((0:Int)≤j)&&decide (j<(↑o.length:Int))&&decide ((o.getD j.toNat []).length=1)) (.must (decide (0<(o.getD j.toNat []).length)&&C.is (K.int .i64) ((o.getD j.toNat []).getD 0 (C.fn 0 []))&&true) (.must (decide (n=r.length)&&aBe (r.length+1) 16&&(decide ((Nat.add 1 0).succ=2)&&true)) (H [Pt.r,Pt.r,Pt.l,Pt.r,Pt.b] k (aIj (s) (o) (r.length+1) (r.append [[C.int .i64 j,C.int .i64 ((o.getD j.toNat []).getD 0 (C.fn 0 [])).toInt]]) (IntKind.i64.wrap (j+(1:Int)))))))) (H [Pt.r,Pt.r,Pt.l,Pt.r,Pt.b] k (aIj (s) (o) (n) (r) (IntKind.i64.wrap (j+(1:Int))))))) (.must (decide (n=r.length)&&(true||r.all fun r=>r.all C.flat)&&true&&true&&true) (.ret [C.sl r]))) (.must (decide (n=r.length)&&(true||r.all fun r=>r.all C.flat)&&true&&true&&true) (.ret [C.sl r]))):T (List C)).eval:=aAo (by kernel_rfl)
theorem bN6 (H:List Pt→Nat→St→T (List C)) (a:Int) (b:Int):(aAm bSt aAb (sg [pI,pI] [rI]) Tryz.f154 H [C.int .i64 a,C.int .i64 b]).eval=((.ask (decide (a<b)) (.ret [C.int .i64 (-1)]) (.ask (decide (IntKind.i64.wrap (a-b)<(0:Int))) (.ret [C.int .i64 (-1)]) (.ret [C.int .i64 (IntKind.i64.wrap (a-b))]))):T (List C)).eval:=aAo (by kernel_rfl)
theorem aSq (H:List Pt→Nat→St→T (List C)) (r:List (List C)):(aAm aHy aAb {params:=[bZb],results:=[rS],nested:=true} Tryz.f135 H [C.sl r]).eval=((H [Pt.r,Pt.r,Pt.r,Pt.l,Pt.r,Pt.b] 9223372036854775808 (aHx (r) (aBp (↑r.length:Int)) ((0:Int)) ((0:Int)) ((0:Int)))):T (List C)).eval:=aAo (by kernel_rfl)
theorem aIp (H:List Pt→Nat→St→T (List C)) (r:List (List C)) (t:List UInt8) (a:Int) (b:Int) (j:Int) (k:Nat):(aBk aHy aAb {params:=[bZb],results:=[rS],nested:=true} Tryz.f135 H [Pt.r,Pt.r,Pt.r,Pt.l,Pt.r,Pt.b] k (aHx r t a b j)).eval=((.ask (decide (j<(↑r.length:Int))) (.must (decide ((0:Int)≤j)&&decide (j<(↑r.length:Int))&&decide ((r.getD j.toNat []).length=2)) (.must (decide (0<(r.getD j.toNat []).length)&&C.is (K.int .i64) ((r.getD j.toNat []).getD 0 (C.fn 0 []))&&(decide (0+1<(r.getD j.toNat []).length)&&C.is (K.int .i64) ((r.getD j.toNat []).getD (0+1) (C.fn 0 []))&&true)) (.ask (aBp (aT7 ((r.getD j.toNat []).getD 0 (C.fn 0 [])).toInt a)==[]) (.ret [C.str []]) (.ask (aBp (aT7 ((r.getD j.toNat []).getD (0+1) (C.fn 0 [])).toInt b)==[]) (.ret [C.str []]) (.must (decide (t.length+(aBp (aT7 ((r.getD j.toNat []).getD 0 (C.fn 0 [])).toInt a)).length≤9223372036854775807)) (.must (decide ((t++aBp (aT7 ((r.getD j.toNat []).getD 0 (C.fn 0 [])).toInt a)).length+(aBp (aT7 ((r.getD j.toNat []).getD (0+1) (C.fn 0 [])).toInt b)).length≤9223372036854775807)) (H [Pt.r,Pt.r,Pt.r,Pt.l,Pt.r,Pt.b] k (aHx (r) (t++aBp (aT7 ((r.getD j.toNat []).getD 0 (C.fn 0 [])).toInt a)++aBp (aT7 ((r.getD j.toNat []).getD (0+1) (C.fn 0 [])).toInt b)) (((r.getD j.toNat []).getD 0 (C.fn 0 [])).toInt) (((r.getD j.toNat []).getD (0+1) (C.fn 0 [])).toInt) (IntKind.i64.wrap (j+(1:Int))))))))))) (.ret [C.str t])):T (List C)).eval:=aAo (by kernel_rfl)
theorem bAh (H:List Pt→Nat→St→T (List C)) (a:Int) (b:Int) (c:Int) (d:Int):(aAm aN7 aAb (sg [pI,pI,pI,pI] [rS]) Tryz.f137 H [C.int .i64 a,C.int .i64 b,C.int .i64 c,C.int .i64 d]).eval=((H [Pt.r,Pt.r,Pt.r,Pt.l,Pt.r,Pt.b] 9223372036854775808 (aMw ([]) (a) (b) (c) (d) ((0:Int)))):T (List C)).eval:=aAo (by kernel_rfl)
theorem aLf (H:List Pt→Nat→St→T (List C)) (t:List UInt8) (a:Int) (b:Int) (c:Int) (d:Int) (j:Int) (k:Nat):(aBk aN7 aAb (sg [pI,pI,pI,pI] [rS]) Tryz.f137 H [Pt.r,Pt.r,Pt.r,Pt.l,Pt.r,Pt.b] k (aMw t a b c d j)).eval=((.ask (decide (j<(4:Int))) (.must (decide ((0:Int)≤j)&&decide (j<(↑(4:Nat):Int))) (.must (decide (0+j.toNat<(((Nat.add 1 0).succ.add 0).succ.add 0).succ)&&(decide (0<([[C.int .i64 a],[C.int .i64 b],[C.int .i64 c],[C.int .i64 d]].getD (0+j.toNat) []).length)&&C.is (K.int .i64) (([[C.int .i64 a],[C.int .i64 b],[C.int .i64 c],[C.int .i64 d]].getD (0+j.toNat) []).getD 0 (C.fn 0 []))&&true)) (.must (decide ((-9223372036854775808:Int)≤(([[C.int .i64 a],[C.int .i64 b],[C.int .i64 c],[C.int .i64 d]].getD (0+j.toNat) []).getD 0 (C.fn 0 [])).toInt)&&decide ((([[C.int .i64 a],[C.int .i64 b],[C.int .i64 c],[C.int .i64 d]].getD (0+j.toNat) []).getD 0 (C.fn 0 [])).toInt≤(9223372036854775807:Int))) (.ask (aAj (([[C.int .i64 a],[C.int .i64 b],[C.int .i64 c],[C.int .i64 d]].getD (0+j.toNat) []).getD 0 (C.fn 0 [])).toInt 4==[]) (.ret [C.str []]) (.must (decide (t.length+(aAj (([[C.int .i64 a],[C.int .i64 b],[C.int .i64 c],[C.int .i64 d]].getD (0+j.toNat) []).getD 0 (C.fn 0 [])).toInt 4).length≤9223372036854775807)) (H [Pt.r,Pt.r,Pt.r,Pt.l,Pt.r,Pt.b] k (aMw (t++aAj (([[C.int .i64 a],[C.int .i64 b],[C.int .i64 c],[C.int .i64 d]].getD (0+j.toNat) []).getD 0 (C.fn 0 [])).toInt 4) (a) (b) (c) (d) (IntKind.i64.wrap (j+(1:Int)))))))))) (.must (decide (t.length+4≤9223372036854775807)) (.ret [C.str (t++[(73:UInt8),68,88,33])]))):T (List C)).eval:=aAo (by kernel_rfl)
theorem bN7 (H:List Pt→Nat→St→T (List C)) (v:Int) (s:Int) (b:Int) (l:Int) (o:List (List C)) (e:Int):(aAm bSu aAb {params:=[aFf,bVr,pI],results:=[rS],nested:=true} Tryz.f106 H [C.int .i64 v,C.int .i64 s,C.int .i64 b,C.int .i64 l,C.sl o,C.int .i64 e]).eval=((.ask (aF1 v s b l) (.must (aAt [K.int .i64] o&&decide (o.length≤1048576)) (.must ((true&&(List.map ePl (aBq s (aH7 o))).all fun row=>decide (row.length=2))&&true&&true&&true) (.must (aAt [K.int .i64,K.int .i64] (List.take (List.map ePl (aBq s (aH7 o))).length (List.map ePl (aBq s (aH7 o))))&&decide ((List.take (List.map ePl (aBq s (aH7 o))).length (List.map ePl (aBq s (aH7 o)))).length≤1048576)) (.must (inB e (-9223372036854775808) 9223372036854775807&&(inB (↑o.length:Int) (-9223372036854775808) 9223372036854775807&&(inB s (-9223372036854775808) 9223372036854775807&&inB 0 (-9223372036854775808) 9223372036854775807))) (.ask (aBm v (IntKind.i64.wrap (b+(↑o.length:Int)))==[]) (.ret [C.str []]) (.ask (aBx (pls (List.take (List.map ePl (aBq s (aH7 o))).length (List.map ePl (aBq s (aH7 o)))))==[]) (.ret [C.str []]) (.ask (aCw e (↑o.length:Int) s 0==[]) (.ret [C.str []]) (.must (decide ((aBm v (IntKind.i64.wrap (b+(↑o.length:Int)))).length+(aBx (pls (List.take (List.map ePl (aBq s (aH7 o))).length (List.map ePl (aBq s (aH7 o)))))).length≤9223372036854775807)) (.must (decide ((0:Int)≤(12:Int))&&decide ((12:Int)≤(↑(aCw e (↑o.length:Int) s 0).length:Int))) (.must (decide ((aBm v (IntKind.i64.wrap (b+(↑o.length:Int)))++aBx (pls (List.take (List.map ePl (aBq s (aH7 o))).length (List.map ePl (aBq s (aH7 o)))))).length+(List.drop 0 (List.take (Int.toNat 12) (aCw e (↑o.length:Int) s 0))).length≤9223372036854775807)) (.must (decide ((aBm v (IntKind.i64.wrap (b+(↑o.length:Int)))++aBx (pls (List.take (List.map ePl (aBq s (aH7 o))).length (List.map ePl (aBq s (aH7 o)))))++List.drop 0 (List.take (Int.toNat 12) (aCw e (↑o.length:Int) s 0))).length≤281474976710656)) (.must (decide ((aBm v (IntKind.i64.wrap (b+(↑o.length:Int)))).length+(aBx (pls (List.take (List.map ePl (aBq s (aH7 o))).length (List.map ePl (aBq s (aH7 o)))))).length≤9223372036854775807)) (.must (inB e (-9223372036854775808) 9223372036854775807&&(inB (↑o.length:Int) (-9223372036854775808) 9223372036854775807&&(inB s (-9223372036854775808) 9223372036854775807&&inB (Int.ofNat (aB1 0 (aBm v (IntKind.i64.wrap (b+(↑o.length:Int)))++aBx (pls (List.take (List.map ePl (aBq s (aH7 o))).length (List.map ePl (aBq s (aH7 o)))))++List.drop 0 (List.take (Int.toNat 12) (aCw e (↑o.length:Int) s 0))))) (-9223372036854775808:Int) (9223372036854775807:Int)))) (.must (decide ((aBm v (IntKind.i64.wrap (b+(↑o.length:Int)))++aBx (pls (List.take (List.map ePl (aBq s (aH7 o))).length (List.map ePl (aBq s (aH7 o)))))).length+(aCw e (↑o.length:Int) s (Int.ofNat (aB1 0 (aBm v (IntKind.i64.wrap (b+(↑o.length:Int)))++aBx (pls (List.take (List.map ePl (aBq s (aH7 o))).length (List.map ePl (aBq s (aH7 o)))))++List.drop 0 (List.take (Int.toNat 12) (aCw e (↑o.length:Int) s 0)))))).length≤9223372036854775807)) (.ret [C.str (aBm v (IntKind.i64.wrap (b+(↑o.length:Int)))++aBx (pls (List.take (List.map ePl (aBq s (aH7 o))).length (List.map ePl (aBq s (aH7 o)))))++aCw e (↑o.length:Int) s (Int.ofNat (aB1 0 (aBm v (IntKind.i64.wrap (b+(↑o.length:Int)))++aBx (pls (List.take (List.map ePl (aBq s (aH7 o))).length (List.map ePl (aBq s (aH7 o)))))++List.drop 0 (List.take (Int.toNat 12) (aCw e (↑o.length:Int) s 0))))))]))))))))))))))) (.ret [C.str []])):T (List C)).eval:=aAo (by kernel_rfl)
theorem bMs (H:List Pt→Nat→St→T (List C)) (v:Int) (s:Int) (b:Int) (l:Int) (r:List (List C)):(aAm bDd aAb {params:=[aFf,bOv],results:=[rS],nested:=true} Tryz.f70 H [C.int .i64 v,C.int .i64 s,C.int .i64 b,C.int .i64 l,C.sl r]).eval=((.ask (aF1 v s b l) (.ask (decide ((1000:Int)<(↑r.length:Int))) (.ret [C.str []]) (.ask (decide ((1000000000:Int)<IntKind.i64.wrap (b+(↑r.length:Int)))) (.ret [C.str []]) (H [Pt.r,Pt.r,Pt.r,Pt.r,Pt.l,Pt.r,Pt.b] 9223372036854775808 (bD9 (v) (s) (b) (l) (r) ((aBu v s b l).length) (aAc (aBu v s b l)) (0) ([]) ((0:Int)))))) (.ret [C.str []])):T (List C)).eval:=aAo (by kernel_rfl)
theorem aS4 (H:List Pt→Nat→St→T (List C)) (v:Int) (s:Int) (b:Int) (l:Int) (r:List (List C)) (n:Nat) (x:List (List C)) (q:Nat) (o:List (List C)) (j:Int) (k:Nat):(aBk bDd aAb {params:=[aFf,bOv],results:=[rS],nested:=true} Tryz.f70 H [Pt.r,Pt.r,Pt.r,Pt.r,Pt.l,Pt.r,Pt.b] k (bD9 v s b l r n x q o j)).eval=((.ask (decide (j<(↑r.length:Int))) (.must (decide ((0:Int)≤j)&&decide (j<(↑r.length:Int))&&decide ((r.getD j.toNat []).length=1)) (.must (decide (0<(r.getD j.toNat []).length)&&C.is K.str ((r.getD j.toNat []).getD 0 (C.fn 0 []))&&true) (.ask (decide ((60:Int)<(↑((r.getD j.toNat []).getD 0 (C.fn 0 [])).toStr.length:Int))) (.ret [C.str []]) (.must (decide (q=o.length)&&aBe (o.length+1) 8&&(decide (1=1)&&true)) (.must (decide ((0:Int)≤j)&&decide (j<(↑r.length:Int))&&decide ((r.getD j.toNat []).length=1)) (.must (decide (0<(r.getD j.toNat []).length)&&C.is K.str ((r.getD j.toNat []).getD 0 (C.fn 0 []))&&true) (.must (decide (((r.getD j.toNat []).getD 0 (C.fn 0 [])).toStr.length≤281474976710656)) (.must (decide (n=x.length)&&aBe (x.length+(aAc (aAf v (IntKind.i64.wrap (b+j)) ((r.getD j.toNat []).getD 0 (C.fn 0 [])).toStr)).length) 1&&(aAc (aAf v (IntKind.i64.wrap (b+j)) ((r.getD j.toNat []).getD 0 (C.fn 0 [])).toStr)).all fun r=>decide (r.length=1)) (H [Pt.r,Pt.r,Pt.r,Pt.r,Pt.l,Pt.r,Pt.b] k (bD9 (v) (s) (b) (l) (r) (x.length+(aAc (aAf v (IntKind.i64.wrap (b+j)) ((r.getD j.toNat []).getD 0 (C.fn 0 [])).toStr)).length) (x.append (aAc (aAf v (IntKind.i64.wrap (b+j)) ((r.getD j.toNat []).getD 0 (C.fn 0 [])).toStr))) (o.length+1) (o.append [[C.int .i64 (↑n:Int)]]) (IntKind.i64.wrap (j+(1:Int))))))))))))) (.must (aAt [K.int .i64] (List.take q o)&&(decide ((List.take q o).length≤1048576)&&inB (↑n:Int) (-9223372036854775808) 9223372036854775807)) (.must (decide (n=x.length)&&aBe (x.length+(aAc (aCs v s b l (aH7 (List.take q o)) (↑n:Int))).length) 1&&(aAc (aCs v s b l (aH7 (List.take q o)) (↑n:Int))).all fun r=>decide (r.length=1)) (.must ((List.take (x.length+(aAc (aCs v s b l (aH7 (List.take q o)) (↑n:Int))).length) (x.append (aAc (aCs v s b l (aH7 (List.take q o)) (↑n:Int))))).all aG4) (.ret [C.str (aBv (List.take (x.length+(aAc (aCs v s b l (aH7 (List.take q o)) (↑n:Int))).length) (x.append (aAc (aCs v s b l (aH7 (List.take q o)) (↑n:Int))))))]))))):T (List C)).eval:=aAo (by kernel_rfl)
theorem bZ0 {r:List C} (h:aBf r [.int .i64,.int .i64]=true):r=ePl (cAx r):=by
 cases r with
 |nil=>simp[aBf]at h
 |cons c r =>
  cases r with
  |nil=>simp[aBf]at h
  |cons d r =>
   cases r with
   |cons e r=>simp[aBf]at h
   |nil=>cases c<;>simp[aBf,C.is]at h<;>cases d<;>simp[aBf,C.is]at h<;>(obtain⟨rfl,rfl⟩:=h;rfl)
theorem bTx {rows:List (List C)} (h:aAt [.int .i64,.int .i64] rows=true):rows=(pls rows).map ePl:=by
 simp only[aAt,List.all_eq_true]at h
 simp only[pls,List.map_map]
 rw[List.map_congr_left (g:=id)]
 ·simp
 ·intro r hr;exact (bZ0 (h r hr)).symm
@[simp] theorem bXf (l:List Pl):pls (l.map ePl)=l:=by simp[pls,cAx,ePl,Function.comp_def,C.toInt]
@[simp] theorem bNl (l:List Pl):aAt [.int .i64,.int .i64] (l.map ePl)=true:=by simp[aAt,aBf,C.is,ePl]
theorem bXo (l:List Pl):((l.map ePl).all fun row=>decide (row.length=2))=true:=by simp[ePl]
theorem aLo (s:Int) (os:List Int):∀ i,(aDu s os i).length≤i
 |0=>Nat.le_refl _
 |i+1=>by
  have:=aLo s os i
  simp only[aDu,List.length_append]
  split<;>simp<;>omega
theorem aYz (s:Int) (os:List Int):(aBq s os).length≤os.length:=by
 unfold aBq
 split
 ·simp
 ·exact aLo _ _ _
theorem bLa:∀ (l:List Pl) (q:Pl) (t:List UInt8),bQu q l=some t→t.length≤10*l.length
 |[],q,t,h=>by simp[bQu]at h;subst h;simp
 |p::r,q,t,h=>by
  unfold bQu at h
  split at h
  ·cases h
  ·cases hr:bQu p r with
   |none=>rw[hr]at h;cases h
   |some u =>
    rw[hr]at h
    simp only[Option.map_some,Option.some.injEq]at h
    subst h
    have:=bLa r p u hr
    have h1:=aDq (aT7 p.1 q.1)
    have h2:=aDq (aT7 p.2 q.2)
    simp only[List.length_append,List.length_cons]
    omega
theorem aNw (l:List Pl):(aBx l).length≤5+10*l.length:=by
 unfold aBx
 cases h:bQu (0,0) l with
 |none=>simp
 |some t =>
  have:=bLa l _ t h
  have h1:=aDq (l.length:Int)
  simp only[List.length_append]
  omega
theorem bKp:∀ (l:List Int) (t:List UInt8),bTg l t=[]∨(bTg l t).length=t.length+4*l.length+4
 |[],t=>.inr (by simp[bTg])
 |x::r,t=>by
  unfold bTg
  split
  ·exact .inl rfl
  ·rename_i hx
   have hf:(aAj x 4).length=4:=by
    unfold aAj at hx ⊢
    split at hx
    ·rename_i hc;rw[if_pos hc,aCd];rfl
    ·exact absurd rfl hx
   rcases bKp r (t++aAj x 4)with h | h
   ·exact .inl h
   ·right;rw[h];simp[hf];omega
theorem aTu (a b c d:Int):aCw a b c d=[]∨(aCw a b c d).length=20:=bKp [a,b,c,d] []
theorem aYp (a b c d:Int):(aCw a b c d).length≤20:=by
 rcases aTu a b c d with h | h<;>rw[h]<;>simp
theorem aKm (v s b l:Int):(aBu v s b l).length≤60:=by
 unfold aBu aGn
 have h1:=aBi v 1
 have h2:=aBi s 1
 have h3:=aBi b 8
 have h4:=aBi l 4
 have h5:=fun x:Int=>aBi x 4
 split
 ·simp only[List.length_append,List.length_cons,List.length_nil]
  have:=h5 ((aB1 0 ([83,69,71,77]++aAj v 1++aAj s 1++[0,0]++aAj b 8++aAj l 4):Nat):Int)
  omega
 ·simp
theorem aW1 (v s b l:Int) (os:List Int) (e:Int):(aCs v s b l os e).length≤41+10*os.length:=by
 unfold aCs
 split
 ·simp
 ·have h1:=aOq v (b+os.length)
  have h2:=aNw (aBq s os)
  have h3:=aYz s os
  simp only[List.length_append]
  have h4:=aYp e os.length s (aB1 0 (aBm v (b+os.length)++aBx (aBq s os)++(aCw e os.length s 0).take 12):Nat)
  omega
theorem aYw (v b:Int):∀ (rs:List (List UInt8)) (i:Int) (t:List UInt8) (os:List Int) (x:List UInt8×List Int),aPd v b i rs t os=some x→x.1.length≤t.length+90*rs.length∧x.2.length=os.length+rs.length
 |[],i,t,os,x,h=>by simp[aPd]at h;subst h;simp
 |r::rs,i,t,os,x,h=>by
  unfold aPd at h
  split at h
  ·cases h
  ·have:=aYw v b rs _ _ _ x h
   have h1:=aEv v (b+i) r
   simp only[List.length_append,List.length_cons,List.length_nil]at this ⊢
   omega
theorem aOc (v s b l:Int) (rs:List (List UInt8)):(aDt v s b l rs).length≤120000:=by
 unfold aDt
 split
 ·simp
 ·rename_i hc
  have hl:rs.length≤1000:=by
   have:¬1000<rs.length:=fun h=>hc (.inr (.inl h))
   omega
  cases h:aPd v b 0 rs (aBu v s b l) []with
  |none=>simp
  |some x =>
   obtain⟨t,os⟩:=x
   have h1:=aYw v b rs 0 _ _ _ h
   have h2:=aKm v s b l
   have h3:=aW1 v s b l os t.length
   simp only[List.length_append,List.length_nil]at h1 ⊢
   omega
theorem aXj (s:Int) (os:List Int) (hs:1≤s) (hl:os.length≤1048576):∀ (f n i:Nat),i+f=os.length→f<n →
  (aBn aKz aAb (⟨[pI,bVr],[bZ8],true⟩) Tryz.f136 [.r,.r,.l,.r,.b] n (aIj s (os.map aL7) (aDu s os i).length ((aDu s os i).map ePl) i)).eval=some [.sl ((aDu s os os.length).map ePl)]:=by
 intro f
 induction f with
 |zero =>
  intro n i h1 h2
  obtain⟨n,rfl⟩:∃ q,n=q+1:=⟨n-1,by omega⟩
  rw[aAz _ _ _ _ _ _ _ (by kernel_rfl),aHk]
  have c:¬((i:Int)<(os.length:Int)):=by omega
  have ei:i=os.length:=by omega
  simp only[List.length_map,aA4,aA2,aA3,decide_eq_true_eq,c,if_false,decide_true,Bool.true_or,Bool.and_self,if_true]
  rw[ei]
 |succ f ih =>
  intro n i h1 h2
  obtain⟨n,rfl⟩:∃ q,n=q+1:=⟨n-1,by omega⟩
  rw[aAz _ _ _ _ _ _ _ (by kernel_rfl),aHk]
  have hi:i<os.length:=by omega
  have c:(i:Int)<(os.length:Int):=by omega
  have z:(0:Int)≤(i:Int):=by omega
  have ns:¬s=0:=by omega
  have tm:(i:Int).tmod s=(i:Int) % s:=Int.tmod_eq_emod_of_nonneg z
  have g:=aBa aL7 os 0 i hi
  have w:IntKind.i64.wrap ((i:Int)+1)=((i+1:Nat):Int):=by rw[aAi]<;>omega
  have pl:=aLo s os i
  have ro:aBe ((aDu s os i).length+1) 16=true:=by simp only[aBe,decide_eq_true_eq];omega
  have e:=ih n (i+1) (by omega) (by omega)
  simp only[List.length_map,aA4,aA2,decide_eq_true_eq,c,hs,ns,tm,z,Int.toNat_natCast,g,w,ro,not_false_eq_true,if_true,decide_true,Bool.and_true,Bool.true_and,List.length_cons,List.length_nil,Nat.zero_add,Nat.zero_lt_one,C.is,beq_self_eq_true,List.getD_cons_zero,C.toInt]
  by_cases hm:(i:Int) % s=0
  ·have ep:aDu s os (i+1)=aDu s os i++[((i:Int),os.getD i 0)]:=by simp only[aDu,hm,if_true]
   rw[ep,List.map_append,List.length_append]at e
   simp only[hm,if_true]
   exact e
  ·have ep:aDu s os (i+1)=aDu s os i:=by simp only[aDu,hm,if_false,List.append_nil]
   rw[ep]at e
   simp only[hm,if_false]
   exact e
theorem bIc:aA9 Tryz.prog aKz:=aA8 (by simp[])
theorem aUi:aB0 Tryz.prog 136 (⟨[pI,bVr],[bZ8],true⟩) aLp:=aA6 bIc aAa Tryz.func136 (by kernel_rfl) fun cs outs hk h=>by
 unfold aLp at h
 split at h
 ·simp only[Option.some.injEq,Prod.mk.injEq,Bool.and_eq_true,decide_eq_true_eq]at h
  obtain⟨⟨h1,h2⟩,rfl⟩:=h
  rename_i s o
  have hr:=aUx h1
  generalize aH7 o=os at hr ⊢
  subst hr
  rw[List.length_map]at h2
  rw[aAd,aXi]
  by_cases hs:1≤s
  ·have e:=aXj s os hs h2 os.length 9223372036854775808 0 (by omega) (by omega)
   have ep:aBq s os=aDu s os os.length:=by unfold aBq;rw[if_neg (by omega)]
   rw[ep]
   exact e
  ·have ep:aBq s os=[]:=by unfold aBq;rw[if_pos (by omega)]
   rw[ep,aAz _ _ _ _ _ 9223372036854775807 _ (by kernel_rfl),aHk]
   by_cases c:(0:Int)<(os.length:Int)
   ·simp only[List.length_map,aA4,aA2,aA3,decide_eq_true_eq,c,hs,if_true,if_false];rfl
   ·simp only[List.length_map,aA4,aA2,aA3,decide_eq_true_eq,c,if_false];rfl
 ·cases h
theorem bWy:aA9 Tryz.prog bSt:=aA8 (by simp[])
theorem bIf:aB0 Tryz.prog 154 (sg [pI,pI] [rI]) bBw:=aA6 bWy aAa Tryz.func154 (by kernel_rfl) fun cs outs hk h=>by
 unfold bBw at h
 split at h
 ·simp only[Option.some.injEq,Prod.mk.injEq,true_and]at h
  rename_i a b
  rw[←h,aAd,bN6]
  unfold aT7
  by_cases c:a<b
  ·simp[aA4,aA3,c]
  ·by_cases d:IntKind.i64.wrap (a-b)<0<;>simp[aA4,aA3,c,d]
 ·cases h
theorem aSr (l:List Pl) (hl:l.length≤1048576):∀ (f n i:Nat) (q:Pl) (t:List UInt8),i+f=l.length→f<n→t.length≤5+10*i →
  (aBn aHy aAb (⟨[bZb],[rS],true⟩) Tryz.f135 [.r,.r,.r,.l,.r,.b] n (aHx (l.map ePl) t q.1 q.2 i)).eval=some [.str (match bQu q (l.drop i)with | some x=>t++x | none=>[])]:=by
 intro f
 induction f with
 |zero =>
  intro n i q t h1 h2 h3
  obtain⟨n,rfl⟩:∃ q,n=q+1:=⟨n-1,by omega⟩
  rw[aAz _ _ _ _ _ _ _ (by kernel_rfl),aIp]
  have c:¬((i:Int)<(l.length:Int)):=by omega
  have hd:l.drop i=[]:=List.drop_eq_nil_of_le (by omega)
  simp only[List.length_map,aA4,aA3,decide_eq_true_eq,c,if_false,hd,bQu,List.append_nil]
 |succ f ih =>
  intro n i q t h1 h2 h3
  obtain⟨n,rfl⟩:∃ q,n=q+1:=⟨n-1,by omega⟩
  rw[aAz _ _ _ _ _ _ _ (by kernel_rfl),aIp]
  have hi:i<l.length:=by omega
  have c:(i:Int)<(l.length:Int):=by omega
  have z:(0:Int)≤(i:Int):=by omega
  have g:=aBa ePl l (0,0) i hi
  have hd:=aC3 l i (0,0) hi
  generalize l.getD i (0,0)=p at g hd
  have w:IntKind.i64.wrap ((i:Int)+1)=((i+1:Nat):Int):=by rw[aAi]<;>omega
  have v1:=aDq (aT7 p.1 q.1)
  have v2:=aDq (aT7 p.2 q.2)
  have m1:t.length+(aBp (aT7 p.1 q.1)).length≤9223372036854775807:=by omega
  have m2:t.length+(aBp (aT7 p.1 q.1)).length+(aBp (aT7 p.2 q.2)).length≤9223372036854775807:=by omega
  have e:=ih n (i+1) p (t++aBp (aT7 p.1 q.1)++aBp (aT7 p.2 q.2)) (by omega) (by omega) (by simp only[List.length_append];omega)
  rw[hd]
  simp only[List.length_map,aA4,aA2,aA3,decide_eq_true_eq,c,z,Int.toNat_natCast,g,w,if_true,decide_true,Bool.and_true,Bool.true_and,ePl,List.length_cons,List.length_nil,C.is,beq_self_eq_true,List.getD_cons_zero,List.getD_cons_succ,C.toInt,Nat.zero_add,Nat.reduceAdd,Nat.reduceLT,beq_iff_eq,List.length_append,m1,m2,bQu]
  by_cases a1:aBp (aT7 p.1 q.1)=[]
  ·simp only[a1,true_or,if_true]
  ·by_cases a2:aBp (aT7 p.2 q.2)=[]
   ·simp only[a1,a2,or_true,if_true,if_false]
   ·simp only[a1,a2,or_self,if_false]
    refine e.trans ?_
    cases bQu p (l.drop (i+1))with
    |none=>rfl
    |some x=>simp only[Option.map_some,List.append_assoc]
theorem bAv:aA9 Tryz.prog aHy:=aA8 (by simp[aJ6,bIf])
theorem aR8:aB0 Tryz.prog 135 (⟨[bZb],[rS],true⟩) aJb:=aA6 bAv aAa Tryz.func135 (by kernel_rfl) fun cs outs hk h=>by
 unfold aJb at h
 split at h
 ·simp only[Option.some.injEq,Prod.mk.injEq,Bool.and_eq_true,decide_eq_true_eq]at h
  obtain⟨⟨h1,h2⟩,rfl⟩:=h
  rename_i r
  have hr:=bTx h1
  generalize pls r=l at hr ⊢
  subst hr
  rw[List.length_map]at h2
  rw[aAd,aSq,List.length_map]
  have e:=aSr l h2 l.length 9223372036854775808 0 (0,0) (aBp (l.length:Int)) (by omega) (by omega) (by have:=aDq (l.length:Int);omega)
  exact e
 ·cases h
theorem bXy (a b c d:Int) (i:Nat) (hi:i<4):([[C.int .i64 a],[C.int .i64 b],[C.int .i64 c],[C.int .i64 d]]:List (List C)).getD i []=aL7 (([a,b,c,d]:List Int).getD i 0):=by
 exact aBa aL7 [a,b,c,d] 0 i hi
theorem bAi (a b c d:Int) (hx:∀ i,i<4→ -9223372036854775808≤([a,b,c,d]:List Int).getD i 0∧([a,b,c,d]:List Int).getD i 0≤9223372036854775807):∀ (f n i:Nat) (t:List UInt8),i+f=4→f<n→t.length≤8*i →
  (aBn aN7 aAb (sg [pI,pI,pI,pI] [rS]) Tryz.f137 [.r,.r,.r,.l,.r,.b] n (aMw t a b c d i)).eval=some [.str (bTg (([a,b,c,d]:List Int).drop i) t)]:=by
 intro f
 induction f with
 |zero =>
  intro n i t h1 h2 h3
  obtain⟨n,rfl⟩:∃ q,n=q+1:=⟨n-1,by omega⟩
  rw[aAz _ _ _ _ _ _ _ (by kernel_rfl),aLf]
  have c4:¬((i:Int)<4):=by omega
  have hd:([a,b,c,d]:List Int).drop i=[]:=List.drop_eq_nil_of_le (by simp;omega)
  have m:t.length+4≤9223372036854775807:=by omega
  simp only[aA4,aA2,aA3,decide_eq_true_eq,c4,if_false,hd,bTg,m,if_true]
 |succ f ih =>
  intro n i t h1 h2 h3
  obtain⟨n,rfl⟩:∃ q,n=q+1:=⟨n-1,by omega⟩
  rw[aAz _ _ _ _ _ _ _ (by kernel_rfl),aLf]
  have hi:i<4:=by omega
  have c4:(i:Int)<4:=by omega
  have z:(0:Int)≤(i:Int):=by omega
  have g:=bXy a b c d i hi
  have hd:=aC3 ([a,b,c,d]:List Int) i 0 hi
  have hx1:=hx i hi
  generalize ([a,b,c,d]:List Int).getD i 0=x at g hd hx1
  have w:IntKind.i64.wrap ((i:Int)+1)=((i+1:Nat):Int):=by rw[aAi]<;>omega
  have v1:=aBi x 4
  have m1:t.length+(aAj x 4).length≤9223372036854775807:=by omega
  have e:=ih n (i+1) (t++aAj x 4) (by omega) (by omega) (by simp only[List.length_append];omega)
  have k1:i<(((Nat.add 1 0).succ.add 0).succ.add 0).succ:=by show i<4;omega
  rw[hd]
  have c4':(i:Int)<((4:Nat):Int):=by omega
  simp only[aA4,aA2,aA3,decide_eq_true_eq,c4,c4',z,Int.toNat_natCast,k1,g,w,if_true,decide_true,Bool.and_true,Bool.true_and,Bool.and_self,List.length_cons,List.length_nil,C.is,beq_self_eq_true,List.getD_cons_zero,C.toInt,Nat.zero_add,Nat.zero_lt_one,hx1.1,hx1.2,beq_iff_eq,m1,bTg]
  by_cases a1:aAj x 4=[]
  ·simp only[a1,if_true]
  ·simp only[a1,if_false]
   exact e
theorem bMk:aA9 Tryz.prog aN7:=aA8 (by simp[aF6])
theorem aX8:aB0 Tryz.prog 137 (sg [pI,pI,pI,pI] [rS]) aO6:=aA6 bMk aAa Tryz.func137 (by kernel_rfl) fun cs outs hk h=>by
 unfold aO6 at h
 split at h
 ·simp only[Option.some.injEq,Prod.mk.injEq,Bool.and_eq_true,aBr]at h
  obtain⟨⟨ha,hb,hc,hd⟩,rfl⟩:=h
  rename_i a b c d
  rw[aAd,bAh]
  exact bAi a b c d (fun i hi=>by
   match i,hi with
   |0,_=>exact ha
   |1,_=>exact hb
   |2,_=>exact hc
   |3,_=>exact hd) 4 9223372036854775808 0 [] (by omega) (by omega) (by simp)
 ·cases h
theorem bWz:aA9 Tryz.prog bSu:=aA8 (by simp[aIo,aKe,aNr,aUi,aR8,aX8])
theorem bIi:aB0 Tryz.prog 106 (⟨[aFf,bVr,pI],[rS],true⟩) bCq:=aA6 bWz aAa Tryz.func106 (by kernel_rfl) fun cs outs hk h=>by
 unfold bCq at h
 split at h
 ·simp only[Option.some.injEq,Prod.mk.injEq,Bool.and_eq_true,decide_eq_true_eq,aBr]at h
  obtain⟨⟨h1,h2,h3⟩,rfl⟩:=h
  rename_i v s b l o e
  have hr:=aUx h1
  rw[aAd,bN7]
  generalize aH7 o=os at hr ⊢
  subst hr
  simp only[List.length_map]at h1 h2 ⊢
  by_cases hh:aF1 v s b l=true
  ·obtain⟨hv,hs,hb,hl⟩:=(aI4 v s b l).1 hh
   have w:IntKind.i64.wrap (b+(os.length:Int))=b+os.length:=by rw[aAi]<;>omega
   have pl:=aYz s os
   have tk:List.take (aBq s os).length (List.map ePl (aBq s os))=List.map ePl (aBq s os):=List.take_of_length_le (by simp)
   have i1:inB e (-9223372036854775808) 9223372036854775807=true:=(aBr _ _ _).2 h3
   have i2:inB (os.length:Int) (-9223372036854775808) 9223372036854775807=true:=(aBr _ _ _).2 ⟨by omega,by omega⟩
   have i3:inB s (-9223372036854775808) 9223372036854775807=true:=(aBr _ _ _).2 ⟨by omega,by omega⟩
   have i4:inB 0 (-9223372036854775808) 9223372036854775807=true:=rfl
   have l1:=aOq v (b+os.length)
   have l2:=aNw (aBq s os)
   have p1:(aBq s os).length≤1048576:=by omega
   simp only[aA4,aA2,aA3,hh,if_true,w,tk,bXf,bXo,bNl,h1,h2,i1,i2,i3,i4,List.length_map,p1,decide_true,Bool.and_self,Bool.true_and,beq_iff_eq,List.drop_zero]
   unfold aCs
   by_cases c1:aBm v (b+os.length)=[]
   ·rw[if_pos c1,if_pos (.inr (.inl c1))]
   ·by_cases c2:aBx (aBq s os)=[]
    ·rw[if_neg c1,if_pos c2,if_pos (.inr (.inr (.inl c2)))]
    ·by_cases c3:aCw e os.length s 0=[]
     ·rw[if_neg c1,if_neg c2,if_pos c3,if_pos (.inr (.inr (.inr c3)))]
     ·have t20:(aCw e os.length s 0).length=20:=by
       rcases aTu e os.length s 0 with h | h
       ·exact absurd h c3
       ·exact h
      have hn:¬(aF1 v s b l=false∨aBm v (b+os.length)=[]∨aBx (aBq s os)=[]∨aCw e os.length s 0=[]):=by
       intro h
       rcases h with h | h | h | h
       ·rw[hh]at h;cases h
       ·exact c1 h
       ·exact c2 h
       ·exact c3 h
      rw[if_neg c1,if_neg c2,if_neg c3,if_neg hn]
      have t12:Int.toNat 12=12:=rfl
      have d0:List.drop 0 (List.take 12 (aCw e os.length s 0))=List.take 12 (aCw e os.length s 0):=rfl
      have cl:=aEx 0 (aBm v (b+os.length)++aBx (aBq s os)++(aCw e os.length s 0).take 12) (by omega)
      have i5:∀ z:Nat,z<4294967296→inB (Int.ofNat z) (-9223372036854775808) 9223372036854775807=true:=fun z hz=>(aBr _ _ _).2 ⟨by show _≤(z:Int);omega,by show (z:Int)≤_;omega⟩
      have l3:=aYp e os.length s (Int.ofNat (aB1 0 (aBm v (b+os.length)++aBx (aBq s os)++(aCw e os.length s 0).take 12)))
      rw[t12]
      rw[if_pos (decide_eq_true (by omega)),if_pos (by rw[t20];rfl),if_pos (decide_eq_true (by simp only[List.length_append,List.length_take];omega)),if_pos (decide_eq_true (by simp only[List.length_append,List.length_take];omega)),if_pos (decide_eq_true (by omega)),if_pos (i5 _ cl),if_pos (decide_eq_true (by simp only[List.length_append];omega))]
      rfl
  ·have hh':aF1 v s b l=false:=by simpa using hh
   simp only[aA4,aA3,hh,Bool.false_eq_true,if_false]
   unfold aCs
   rw[if_pos (.inl hh')]
 ·cases h
theorem bMt (v s b l:Int) (rs:List (List UInt8)) (hb:0≤b∧b≤1000000000) (hl:rs.length≤1000):∀ (f n i:Nat) (t:List UInt8) (os:List Int),i+f=rs.length→f<n→os.length=i→t.length≤60+90*i →
  (aBn bDd aAb (⟨[aFf,bOv],[rS],true⟩) Tryz.f70 [.r,.r,.r,.r,.l,.r,.b] n (bD9 v s b l (rs.map aAn) t.length (aAc t) os.length (os.map aL7) i)).eval=some [.str (match aPd v b i (rs.drop i) t os with | some (t',os')=>t'++aCs v s b l os' t'.length | none=>[])]:=by
 intro f
 induction f with
 |zero =>
  intro n i t os h1 h2 h3 h4
  obtain⟨n,rfl⟩:∃ q,n=q+1:=⟨n-1,by omega⟩
  rw[aAz _ _ _ _ _ _ _ (by kernel_rfl),aS4]
  have c:¬((i:Int)<(rs.length:Int)):=by omega
  have hd:rs.drop i=[]:=List.drop_eq_nil_of_le (by omega)
  have tk:List.take os.length (os.map aL7)=os.map aL7:=List.take_of_length_le (by simp)
  have i1:inB (t.length:Int) (-9223372036854775808) 9223372036854775807=true:=(aBr _ _ _).2 ⟨by omega,by omega⟩
  have fl:=aW1 v s b l os t.length
  have ro:aBe (t.length+(aCs v s b l os t.length).length) 1=true:=by simp only[aBe,decide_eq_true_eq];omega
  have ap:(aAc t).append (aAc (aCs v s b l os t.length))=aAc (t++aCs v s b l os t.length):=by rw[List.append_eq,aF7]
  have tk2:List.take (t.length+(aCs v s b l os t.length).length) (aAc (t++aCs v s b l os t.length))=aAc (t++aCs v s b l os t.length):=List.take_of_length_le (by rw[aBh,List.length_append];exact Nat.le_refl _)
  have o1:os.length≤1048576:=by omega
  have al:((aAc (aCs v s b l os t.length)).all fun r=>decide (r.length=1))=true:=by simp[aAc]
  simp only[List.length_map,aA4,aA2,aA3,decide_eq_true_eq,c,if_false,hd,aPd,tk,bUm,bIy,i1,aBh,ro,ap,tk2,aE3,aGu,o1,al,decide_true,Bool.and_self,if_true]
 |succ f ih =>
  intro n i t os h1 h2 h3 h4
  obtain⟨n,rfl⟩:∃ q,n=q+1:=⟨n-1,by omega⟩
  rw[aAz _ _ _ _ _ _ _ (by kernel_rfl),aS4]
  have hi:i<rs.length:=by omega
  have c:(i:Int)<(rs.length:Int):=by omega
  have z:(0:Int)≤(i:Int):=by omega
  have g:=aBa aAn rs [] i hi
  have hd:=aC3 rs i [] hi
  generalize rs.getD i []=r at g hd
  have w:IntKind.i64.wrap ((i:Int)+1)=((i+1:Nat):Int):=by rw[aAi]<;>omega
  have w2:IntKind.i64.wrap (b+(i:Int))=b+i:=by rw[aAi]<;>omega
  have fl:=aEv v (b+i) r
  have ro1:aBe (os.length+1) 8=true:=by simp only[aBe,decide_eq_true_eq];omega
  have ro2:aBe (t.length+(aAf v (b+i) r).length) 1=true:=by simp only[aBe,decide_eq_true_eq];omega
  have ap:(aAc t).append (aAc (aAf v (b+i) r))=aAc (t++aAf v (b+i) r):=by rw[List.append_eq,aF7]
  have ap2:(os.map aL7).append [[C.int .i64 (t.length:Int)]]=(os++[(t.length:Int)]).map aL7:=by simp
  have al:((aAc (aAf v (b+i) r)).all fun r=>decide (r.length=1))=true:=by simp[aAc]
  have e:=ih n (i+1) (t++aAf v (b+i) r) (os++[(t.length:Int)]) (by omega) (by omega) (by simp;omega) (by simp only[List.length_append];omega)
  rw[List.length_append,List.length_append]at e
  rw[hd]
  simp only[List.length_map,aA4,aA2,aA3,decide_eq_true_eq,c,z,Int.toNat_natCast,g,w,w2,if_true,decide_true,Bool.and_true,Bool.true_and,Bool.and_self,List.length_cons,List.length_nil,C.is,List.getD_cons_zero,C.toStr,Nat.zero_add,Nat.zero_lt_one,aBh,ro1,ro2,ap,ap2,al,aPd]
  by_cases h60:(60:Int)<(r.length:Int)
  ·have h60':60<r.length:=by omega
   simp only[h60,h60',if_true]
  ·have h60':¬60<r.length:=by omega
   have hm:r.length≤281474976710656:=by omega
   simp only[h60,h60',hm,if_false,if_true]
   exact e
theorem bWu:aA9 Tryz.prog bDd:=aA8 (by simp[aKe,aIa,aHl,bIi])
theorem aUa:aB0 Tryz.prog 70 (⟨[aFf,bOv],[rS],true⟩) aT4:=aA6 bWu aAa Tryz.func70 (by kernel_rfl) fun cs outs hk h=>by
 unfold aT4 at h
 split at h
 ·simp only[Option.some.injEq,Prod.mk.injEq,Bool.and_eq_true,decide_eq_true_eq]at h
  obtain⟨⟨h1,h2⟩,rfl⟩:=h
  rename_i v s b l r
  rw[aAd,bMs]
  have hr:=aFu h1
  generalize aCm r=rs at hr ⊢
  subst hr
  rw[List.length_map]at h2 ⊢
  unfold aDt
  by_cases hh:aF1 v s b l=true
  ·obtain⟨hv,hs,hb,hl⟩:=(aI4 v s b l).1 hh
   have w:IntKind.i64.wrap (b+(rs.length:Int))=b+rs.length:=by rw[aAi]<;>omega
   have hh':¬aF1 v s b l=false:=by rw[hh];decide
   simp only[aA4,aA3,hh,if_true,w,decide_eq_true_eq]
   by_cases c1:(1000:Int)<(rs.length:Int)
   ·rw[if_pos c1,if_pos (.inr (.inl (by omega)))]
   ·by_cases c2:(1000000000:Int)<b+(rs.length:Int)
    ·rw[if_neg c1,if_pos c2,if_pos (.inr (.inr c2))]
    ·have hn:¬(true=false∨1000<rs.length∨1000000000<b+(rs.length:Int)):=by
      intro h
      rcases h with h | h | h
      ·cases h
      ·omega
      ·omega
     rw[if_neg c1,if_neg c2,if_neg hn]
     have e:=bMt v s b l rs hb (by omega) rs.length 9223372036854775808 0 (aBu v s b l) [] (by omega) (by omega) rfl (by have:=aKm v s b l;omega)
     exact e
  ·have hh':aF1 v s b l=false:=by simpa using hh
   simp only[aA4,aA3,hh',Bool.false_eq_true,if_false]
   rw[if_pos (.inl trivial)]
 ·cases h
noncomputable section
def hdV (rows:List (List C)) (i h:Int):Int:=1+aAk rows i h 2
def hdS (rows:List (List C)) (i h:Int):Int:=1+aAk rows (aA0 rows i 2) (aA1 h 2) 4
def hdB (rows:List (List C)) (i h:Int):Int:=aAk rows (aA0 rows (aA0 rows i 2) 4) (aA1 (aA1 h 2) 4) 9
def hdL (rows:List (List C)) (i h:Int):Int:=aAk rows (aA0 rows (aA0 rows (aA0 rows i 2) 4) 9) (aA1 (aA1 (aA1 h 2) 4) 9) 1000000
def hdI (rows:List (List C)) (i:Int):Int:=aA0 rows (aA0 rows (aA0 rows (aA0 rows i 2) 4) 9) 1000000
def hdH (h:Int):Int:=aA1 (aA1 (aA1 (aA1 h 2) 4) 9) 1000000
def bRs:aCh:=fun cs=>match cs with
 |[.sl rows,.int .i64 i,.int .i64 h]=>some (aAr rows i,[.int .i64 (hdV rows i h),.int .i64 (hdS rows i h),.int .i64 (hdB rows i h),.int .i64 (hdL rows i h),.sl rows,.int .i64 (hdI rows i),.int .i64 (hdH h)])
 |_=>none
def bM3:Env:=mkE [] [(46,(⟨[aD2,pI],[rI],true⟩),aE1)]
def rcT (rows:List (List C)) (i h:Int):List UInt8 :=
 if aAk rows i h 6=0 then[]else if aAk rows i h 6=1 then aDl rows (aEb (20+aAk rows (aA0 rows i 6) (aA1 h 6) 41)) (aA0 rows (aA0 rows i 6) 41) (aA1 (aA1 h 6) 41)else dtT rows 12 (aA0 rows i 6) (aA1 h 6)
def rcI (rows:List (List C)) (i h:Int):Int :=
 if aAk rows i h 6=0 then aA0 rows i 6 else if aAk rows i h 6=1 then aP7 rows (aEb (20+aAk rows (aA0 rows i 6) (aA1 h 6) 41)) (aA0 rows (aA0 rows i 6) 41)else dtI rows 12 (aA0 rows i 6) (aA1 h 6)
def rcH (rows:List (List C)) (i h:Int):Int :=
 if aAk rows i h 6=0 then aA1 h 6 else if aAk rows i h 6=1 then aQz (aEb (20+aAk rows (aA0 rows i 6) (aA1 h 6) 41)) (aA1 (aA1 h 6) 41)else dtH rows 12 (aA0 rows i 6) (aA1 h 6)
def bFc:aCh:=fun cs=>match cs with
 |[.sl rows,.int .i64 i,.int .i64 h]=>some (aAr rows i,[.str (rcT rows i h),.sl rows,.int .i64 (rcI rows i h),.int .i64 (rcH rows i h)])
 |_=>none
def aZp:Env:=mkE [] [(46,(⟨[aD2,pI],[rI],true⟩),aE1),(47,(⟨[aD2,pI],[rS],true⟩),aP5)]
def bNk (rows:List (List C)) (m:Int):Nat→Int→Int→Int→List (List UInt8)→List (List UInt8)×Int×Int
 |0,_,i,h,l=>(l,i,h)
 |f+1,x,i,h,l=>if x<aAk rows i h (m+1)then bNk rows m f (x+1) (rcI rows (aA0 rows i (m+1)) (aA1 h (m+1))) (rcH rows (aA0 rows i (m+1)) (aA1 h (m+1))) (l++[rcT rows (aA0 rows i (m+1)) (aA1 h (m+1))])else (l,aA0 rows i (m+1),aA1 h (m+1))
def rsL (rows:List (List C)) (i h m:Int):List (List UInt8):=(bNk rows m (m+2).toNat 0 i h []).1
def rsI (rows:List (List C)) (i h m:Int):Int:=(bNk rows m (m+2).toNat 0 i h []).2.1
def rsH (rows:List (List C)) (i h m:Int):Int:=(bNk rows m (m+2).toNat 0 i h []).2.2
def bL3:aCh:=fun cs=>match cs with
 |[.sl rows,.int .i64 i,.int .i64 h,.int .i64 m]=>some (aAr rows i&&decide (0≤m∧m≤100),[.sl ((rsL rows i h m).map aAn),.sl rows,.int .i64 (rsI rows i h m),.int .i64 (rsH rows i h m)])
 |_=>none
def aKx (r:List (List C)) (i h m:Int) (n:Nat) (o:List (List C)) (j:Int):St:={slots:=[(0,.l (.ptr 0 0)),(1,aBc m),(5,.l (.ref 1 0 n)),(6,aBc j)],heap:=[(0,.box [.sl r,.i .i64 i,.i .i64 h]),(1,.arr 1 o)],next:=2,pins:=[0]}
def aKy:Env:=mkE [(3,[0,1,5,6])] [(46,(⟨[aD2,pI],[rI],true⟩),aE1),(27,(⟨[aD2],[rS],true⟩),bFc)]
def bnK (rows:List (List C)) (i h:Int) (t:List UInt8):Int:=aAk rows (aA0 rows i 2) (aA1 h 2) t.length
def bDk (rows:List (List C)) (i:Int) (t:List UInt8):Int:=aA0 rows (aA0 rows (aA0 rows i 2) t.length) 4
def bGy (h:Int) (t:List UInt8):Int:=aA1 (aA1 (aA1 h 2) t.length) 4
def bnC (rows:List (List C)) (i h:Int) (t:List UInt8):Int:=aAk rows (aA0 rows (aA0 rows i 2) t.length) (aA1 (aA1 h 2) t.length) 4
def bnN (rows:List (List C)) (i h:Int) (t:List UInt8):Nat:=aEb (1+aAk rows (bDk rows i t) (bGy h t) 4)
def bnB (rows:List (List C)) (i h:Int) (t:List UInt8):List UInt8:=aBv [[C.int .u8 (aOw .u8 ((t.getD (bnK rows i h t).toNat 0).toNat:Int) (aS6 .u8 1 (IntKind.u64.wrap (aAk rows (bDk rows i t) (bGy h t) 8))))]]
def bnT (rows:List (List C)) (i h:Int) (t:List UInt8):List UInt8 :=
 if t=[]then t else if aAk rows i h 2=0 then t
 else if bnC rows i h t=0 then t.take (bnK rows i h t).toNat
 else if bnC rows i h t=1 then t.take (bnK rows i h t).toNat++t.drop (bnK rows i h t+1).toNat
 else if bnC rows i h t=2 then t++aDl rows (bnN rows i h t) (aA0 rows (bDk rows i t) 4) (aA1 (bGy h t) 4)
 else t.take (bnK rows i h t).toNat++bnB rows i h t++t.drop (bnK rows i h t+1).toNat
def bnI (rows:List (List C)) (i h:Int) (t:List UInt8):Int :=
 if t=[]then i else if aAk rows i h 2=0 then aA0 rows i 2
 else if bnC rows i h t=0 then bDk rows i t
 else if bnC rows i h t=1 then bDk rows i t
 else if bnC rows i h t=2 then aP7 rows (bnN rows i h t) (aA0 rows (bDk rows i t) 4)
 else aA0 rows (bDk rows i t) 8
def bnH (rows:List (List C)) (i h:Int) (t:List UInt8):Int :=
 if t=[]then h else if aAk rows i h 2=0 then aA1 h 2
 else if bnC rows i h t=0 then bGy h t
 else if bnC rows i h t=1 then bGy h t
 else if bnC rows i h t=2 then aQz (bnN rows i h t) (aA1 (bGy h t) 4)
 else aA1 (bGy h t) 8
def bLp:aCh:=fun cs=>match cs with
 |[.sl rows,.int .i64 i,.int .i64 h,.str t]=>some (aAr rows i&&decide (t.length≤1048576),[.str (bnT rows i h t),.sl rows,.int .i64 (bnI rows i h t),.int .i64 (bnH rows i h t)])
 |_=>none
def bM4:Env:=mkE [] [(46,(⟨[aD2,pI],[rI],true⟩),aE1),(56,(⟨[aD2,pI],[rB],true⟩),aKi),(47,(⟨[aD2,pI],[rS],true⟩),aP5)]
def aIw (v b:Int):Int→List (List UInt8)→List UInt8→List UInt8
 |_,[],t=>t
 |i,r::rs,t=>aIw v b (i+1) rs (t++aAf v (b+i) r)
def aCr (v s b l:Int) (rs:List (List UInt8)):List UInt8:=aIw v b 0 rs (aBu v s b l)
def aJ5 (rows:List (List C)):Bool:=(aCm rows).all fun x=>decide (x.length≤281474976710656)
def aMt:aCh:=fun cs=>match cs with
 |[.int .i64 v,.int .i64 s,.int .i64 b,.int .i64 l,.sl r]=>some (aAt [.str] r&&(decide (r.length≤1048576)&&(inB b 0 1000000000&&aJ5 r)),[.str (aCr v s b l (aCm r))])
 |_=>none
def aQm (v s b l:Int) (r:List (List C)) (t:List UInt8) (j:Int):St:={slots:=[(1,.l (.sl r)),(2,.l (.ptr 0 0)),(5,aT0 t),(6,aBc j)],heap:=[(0,.box [.i .i64 v,.i .i64 s,.i .i64 b,.i .i64 l])],next:=1,pins:=[]}
def aQt:Env:=mkE [(3,[1,2,5,6])] [(86,(sg [aFf] [rS]),aDp),(91,(sg [pI,pI,pS] [rS]),aHb)]
def flR (rows:List (List C)) (i h:Int):List (List UInt8):=rsL rows (hdI rows i) (hdH h) 6
def flI (rows:List (List C)) (i h:Int):Int:=rsI rows (hdI rows i) (hdH h) 6
def flH (rows:List (List C)) (i h:Int):Int:=rsH rows (hdI rows i) (hdH h) 6
def flX (rows:List (List C)) (i h:Int):List UInt8:=if aAk rows (flI rows i h) (flH rows i h) 2=0 then aDt (hdV rows i h) (hdS rows i h) (hdB rows i h) (hdL rows i h) (flR rows i h)else aCr (hdV rows i h) (hdS rows i h) (hdB rows i h) (hdL rows i h) (flR rows i h)
def bOn (rows:List (List C)) (i h:Int):List UInt8:=bnT rows (aA0 rows (flI rows i h) 2) (aA1 (flH rows i h) 2) (flX rows i h)
def bV2 (rows:List (List C)) (i h:Int):Int:=bnI rows (aA0 rows (flI rows i h) 2) (aA1 (flH rows i h) 2) (flX rows i h)
def bV3 (rows:List (List C)) (i h:Int):Int:=bnH rows (aA0 rows (flI rows i h) 2) (aA1 (flH rows i h) 2) (flX rows i h)
def bCy:aCh:=fun cs=>match cs with
 |[.sl rows,.int .i64 i,.int .i64 h]=>some (aAr rows i,[.str (bOn rows i h),.sl rows,.int .i64 (bV2 rows i h),.int .i64 (bV3 rows i h)])
 |_=>none
def bSv:Env:=mkE [] [(56,(⟨[aD2,pI],[rB],true⟩),aKi),(70,(⟨[aFf,bOv],[rS],true⟩),aT4),(113,(⟨[aD2],[aV0],true⟩),bRs),(73,(⟨[aD2,pI],[rSl 9],true⟩),bL3),(75,(⟨[aD2,pS],[rS],true⟩),bLp),(74,(⟨[aFf,bOv],[rS],true⟩),aMt)]
end
theorem bIh (H:List Pt→Nat→St→T (List C)) (r:List (List C)) (i:Int) (h:Int):(aAm bM3 aAb {params:=[aD2],results:=[aV0],nested:=true} Tryz.f113 H [C.sl r,C.int .i64 i,C.int .i64 h]).eval=((.must (aAr r i) (.must (aAr r (aA0 r i 2)) (.must (aAr r (aA0 r (aA0 r i 2) 4)) (.must (aAr r (aA0 r (aA0 r (aA0 r i 2) 4) (9:Int))) (.ret [C.int .i64 (IntKind.i64.wrap ((1:Int)+aAk r i h 2)),C.int .i64 (IntKind.i64.wrap ((1:Int)+aAk r (aA0 r i 2) (aA1 h 2) 4)),C.int .i64 (aAk r (aA0 r (aA0 r i 2) 4) (aA1 (aA1 h 2) 4) (9:Int)),C.int .i64 (aAk r (aA0 r (aA0 r (aA0 r i 2) 4) (9:Int)) (aA1 (aA1 (aA1 h 2) 4) (9:Int)) (1000000:Int)),C.sl r,C.int .i64 (aA0 r (aA0 r (aA0 r (aA0 r i 2) 4) (9:Int)) (1000000:Int)),C.int .i64 (aA1 (aA1 (aA1 (aA1 h 2) 4) (9:Int)) (1000000:Int))]))))):T (List C)).eval:=aAo (by kernel_rfl)
theorem bAq (H:List Pt→Nat→St→T (List C)) (r:List (List C)) (i:Int) (h:Int):(aAm aZp aAb {params:=[aD2],results:=[rS],nested:=true} Tryz.f27 H [C.sl r,C.int .i64 i,C.int .i64 h]).eval=((.must (aAr r i) (.ask (decide (aAk r i h 6=(0:Int))) (.ret [C.str [],C.sl r,C.int .i64 (aA0 r i 6),C.int .i64 (aA1 h 6)]) (.ask (decide (aAk r i h 6=(1:Int))) (.must (aAr r (aA0 r i 6)) (.must (aAr r (aA0 r (aA0 r i 6) 41)) (.ret [C.str (aDl r (aEb (IntKind.i64.wrap ((20:Int)+aAk r (aA0 r i 6) (aA1 h 6) 41))) (aA0 r (aA0 r i 6) 41) (aA1 (aA1 h 6) 41)),C.sl r,C.int .i64 (aP7 r (aEb (IntKind.i64.wrap ((20:Int)+aAk r (aA0 r i 6) (aA1 h 6) 41))) (aA0 r (aA0 r i 6) 41)),C.int .i64 (aQz (aEb (IntKind.i64.wrap ((20:Int)+aAk r (aA0 r i 6) (aA1 h 6) 41))) (aA1 (aA1 h 6) 41))]))) (.must (aAr r (aA0 r i 6)) (.must (aAr r (aA0 r (aA0 r i 6) 12)) (.ret [C.str (aDl r (aEb (aAk r (aA0 r i 6) (aA1 h 6) 12)) (aA0 r (aA0 r i 6) 12) (aA1 (aA1 h 6) 12)),C.sl r,C.int .i64 (aP7 r (aEb (aAk r (aA0 r i 6) (aA1 h 6) 12)) (aA0 r (aA0 r i 6) 12)),C.int .i64 (aQz (aEb (aAk r (aA0 r i 6) (aA1 h 6) 12)) (aA1 (aA1 h 6) 12))])))))):T (List C)).eval:=aAo (by kernel_rfl)
theorem aXd (H:List Pt→Nat→St→T (List C)) (r:List (List C)) (i:Int) (h:Int) (m:Int):(aAm aKy aAb {params:=[aD2,pI],results:=[rSl 9],nested:=true} Tryz.f73 H [C.sl r,C.int .i64 i,C.int .i64 h,C.int .i64 m]).eval=((H [Pt.r,Pt.r,Pt.l,Pt.r,Pt.b] 9223372036854775808 (aKx (r) (i) (h) (m) (0) ([]) ((0:Int)))):T (List C)).eval:=aAo (by kernel_rfl)
theorem aSo (H:List Pt→Nat→St→T (List C)) (r:List (List C)) (i:Int) (h:Int) (m:Int) (n:Nat) (o:List (List C)) (j:Int) (k:Nat):(aBk aKy aAb {params:=[aD2,pI],results:=[rSl 9],nested:=true} Tryz.f73 H [Pt.r,Pt.r,Pt.l,Pt.r,Pt.b] k (aKx r i h m n o j)).eval=((.must (aAr r i) (.ask (decide (j<aAk r i h (IntKind.i64.wrap (m+(1:Int))))) (.must (aAr r (aA0 r i (IntKind.i64.wrap (m+(1:Int))))) (.must (decide (n=o.length)&&aBe (o.length+1) 16&&(decide (1=1)&&true)) (H [Pt.r,Pt.r,Pt.l,Pt.r,Pt.b] k (aKx (r) (rcI r (aA0 r i (IntKind.i64.wrap (m+(1:Int)))) (aA1 h (IntKind.i64.wrap (m+(1:Int))))) (rcH r (aA0 r i (IntKind.i64.wrap (m+(1:Int)))) (aA1 h (IntKind.i64.wrap (m+(1:Int))))) (m) (o.length+1) (o.append [[C.str (rcT r (aA0 r i (IntKind.i64.wrap (m+(1:Int)))) (aA1 h (IntKind.i64.wrap (m+(1:Int)))))]]) (IntKind.i64.wrap (j+(1:Int))))))) (.must (decide (n=o.length)&&(true||o.all fun r=>r.all C.flat)&&true&&true&&(true&&(true||(C.sl r).flat)&&(true&&(true||true)&&(true&&(true||true)&&true))&&true)) (.ret [C.sl o,C.sl r,C.int .i64 (aA0 r i (IntKind.i64.wrap (m+(1:Int)))),C.int .i64 (aA1 h (IntKind.i64.wrap (m+(1:Int))))])))):T (List C)).eval:=aAo (by kernel_rfl)
theorem bIs (H:List Pt→Nat→St→T (List C)) (r:List (List C)) (i:Int) (h:Int) (t:List UInt8):(aAm bM4 aAb {params:=[aD2,pS],results:=[rS],nested:=true} Tryz.f75 H [C.sl r,C.int .i64 i,C.int .i64 h,C.str t]).eval=((.ask (t==[]) (.ret [C.str t,C.sl r,C.int .i64 i,C.int .i64 h]) (.must (aAr r i) (.ask (decide (aAk r i h 2=(0:Int))) (.ret [C.str t,C.sl r,C.int .i64 (aA0 r i 2),C.int .i64 (aA1 h 2)]) (.must (aAr r (aA0 r i 2)) (.must (aAr r (aA0 r (aA0 r i 2) (↑t.length:Int))) (.ask (decide (aAk r (aA0 r (aA0 r i 2) (↑t.length:Int)) (aA1 (aA1 h 2) (↑t.length:Int)) (4:Int)=(0:Int))) (.must (decide ((0:Int)≤aAk r (aA0 r i 2) (aA1 h 2) (↑t.length:Int))&&decide (aAk r (aA0 r i 2) (aA1 h 2) (↑t.length:Int)≤(↑t.length:Int))) (.ret [C.str (List.drop 0 (List.take (aAk r (aA0 r i 2) (aA1 h 2) (↑t.length:Int)).toNat t)),C.sl r,C.int .i64 (aA0 r (aA0 r (aA0 r i 2) (↑t.length:Int)) (4:Int)),C.int .i64 (aA1 (aA1 (aA1 h 2) (↑t.length:Int)) (4:Int))])) (.ask (decide (aAk r (aA0 r (aA0 r i 2) (↑t.length:Int)) (aA1 (aA1 h 2) (↑t.length:Int)) (4:Int)=(1:Int))) (.must (decide ((0:Int)≤aAk r (aA0 r i 2) (aA1 h 2) (↑t.length:Int))&&decide (aAk r (aA0 r i 2) (aA1 h 2) (↑t.length:Int)≤(↑t.length:Int))) (.must (decide ((0:Int)≤IntKind.i64.wrap (aAk r (aA0 r i 2) (aA1 h 2) (↑t.length:Int)+(1:Int)))&&decide (IntKind.i64.wrap (aAk r (aA0 r i 2) (aA1 h 2) (↑t.length:Int)+(1:Int))≤(↑t.length:Int))) (.must (decide ((List.drop 0 (List.take (aAk r (aA0 r i 2) (aA1 h 2) (↑t.length:Int)).toNat t)).length+(List.drop (IntKind.i64.wrap (aAk r (aA0 r i 2) (aA1 h 2) (↑t.length:Int)+(1:Int))).toNat (List.take t.length t)).length≤9223372036854775807)) (.ret [C.str (List.drop 0 (List.take (aAk r (aA0 r i 2) (aA1 h 2) (↑t.length:Int)).toNat t)++List.drop (IntKind.i64.wrap (aAk r (aA0 r i 2) (aA1 h 2) (↑t.length:Int)+(1:Int))).toNat (List.take t.length t)),C.sl r,C.int .i64 (aA0 r (aA0 r (aA0 r i 2) (↑t.length:Int)) (4:Int)),C.int .i64 (aA1 (aA1 (aA1 h 2) (↑t.length:Int)) (4:Int))])))) (.ask (decide (aAk r (aA0 r (aA0 r i 2) (↑t.length:Int)) (aA1 (aA1 h 2) (↑t.length:Int)) (4:Int)=(2:Int))) (.must (aAr r (aA0 r (aA0 r (aA0 r i 2) (↑t.length:Int)) (4:Int))) (.must (aAr r (aA0 r (aA0 r (aA0 r (aA0 r i 2) (↑t.length:Int)) (4:Int)) (4:Int))) (.must (decide (t.length+(aDl r (aEb (IntKind.i64.wrap ((1:Int)+aAk r (aA0 r (aA0 r (aA0 r i 2) (↑t.length:Int)) (4:Int)) (aA1 (aA1 (aA1 h 2) (↑t.length:Int)) (4:Int)) (4:Int)))) (aA0 r (aA0 r (aA0 r (aA0 r i 2) (↑t.length:Int)) (4:Int)) (4:Int)) (aA1 (aA1 (aA1 (aA1 h 2) (↑t.length:Int)) (4:Int)) (4:Int))).length≤9223372036854775807)) (.ret [C.str (t++aDl r (aEb (IntKind.i64.wrap ((1:Int)+aAk r (aA0 r (aA0 r (aA0 r i 2) (↑t.length:Int)) (4:Int)) (aA1 (aA1 (aA1 h 2) (↑t.length:Int)) (4:Int)) (4:Int)))) (aA0 r (aA0 r (aA0 r (aA0 r i 2) (↑t.length:Int)) (4:Int)) (4:Int)) (aA1 (aA1 (aA1 (aA1 h 2) (↑t.length:Int)) (4:Int)) (4:Int))),C.sl r,C.int .i64 (aP7 r (aEb (IntKind.i64.wrap ((1:Int)+aAk r (aA0 r (aA0 r (aA0 r i 2) (↑t.length:Int)) (4:Int)) (aA1 (aA1 (aA1 h 2) (↑t.length:Int)) (4:Int)) (4:Int)))) (aA0 r (aA0 r (aA0 r (aA0 r i 2) (↑t.length:Int)) (4:Int)) (4:Int))),C.int .i64 (aQz (aEb (IntKind.i64.wrap ((1:Int)+aAk r (aA0 r (aA0 r (aA0 r i 2) (↑t.length:Int)) (4:Int)) (aA1 (aA1 (aA1 h 2) (↑t.length:Int)) (4:Int)) (4:Int)))) (aA1 (aA1 (aA1 (aA1 h 2) (↑t.length:Int)) (4:Int)) (4:Int)))])))) (.must (decide ((0:Int)≤aAk r (aA0 r i 2) (aA1 h 2) (↑t.length:Int))&&decide (aAk r (aA0 r i 2) (aA1 h 2) (↑t.length:Int)≤(↑t.length:Int))) (.must (decide ((0:Int)≤aAk r (aA0 r i 2) (aA1 h 2) (↑t.length:Int))&&decide (aAk r (aA0 r i 2) (aA1 h 2) (↑t.length:Int)<(↑t.length:Int))) (.must (aAr r (aA0 r (aA0 r (aA0 r i 2) (↑t.length:Int)) (4:Int))) (.must (decide ((0:Int)≤IntKind.u64.wrap (aAk r (aA0 r (aA0 r (aA0 r i 2) (↑t.length:Int)) (4:Int)) (aA1 (aA1 (aA1 h 2) (↑t.length:Int)) (4:Int)) (8:Int)))) (.must (decide ((List.drop 0 (List.take (aAk r (aA0 r i 2) (aA1 h 2) (↑t.length:Int)).toNat t)).length+(aBv [[C.int .u8 (aOw .u8 (↑(t.getD (aAk r (aA0 r i 2) (aA1 h 2) (↑t.length:Int)).toNat (0:UInt8)).toNat:Int) (aS6 .u8 1 (IntKind.u64.wrap (aAk r (aA0 r (aA0 r (aA0 r i 2) (↑t.length:Int)) (4:Int)) (aA1 (aA1 (aA1 h 2) (↑t.length:Int)) (4:Int)) (8:Int)))))]]).length≤9223372036854775807)) (.must (decide ((0:Int)≤IntKind.i64.wrap (aAk r (aA0 r i 2) (aA1 h 2) (↑t.length:Int)+(1:Int)))&&decide (IntKind.i64.wrap (aAk r (aA0 r i 2) (aA1 h 2) (↑t.length:Int)+(1:Int))≤(↑t.length:Int))) (.must (decide ((List.drop 0 (List.take (aAk r (aA0 r i 2) (aA1 h 2) (↑t.length:Int)).toNat t)++aBv [[C.int .u8 (aOw .u8 (↑(t.getD (aAk r (aA0 r i 2) (aA1 h 2) (↑t.length:Int)).toNat (0:UInt8)).toNat:Int) (aS6 .u8 1 (IntKind.u64.wrap (aAk r (aA0 r (aA0 r (aA0 r i 2) (↑t.length:Int)) (4:Int)) (aA1 (aA1 (aA1 h 2) (↑t.length:Int)) (4:Int)) (8:Int)))))]]).length+(List.drop (IntKind.i64.wrap (aAk r (aA0 r i 2) (aA1 h 2) (↑t.length:Int)+(1:Int))).toNat (List.take t.length t)).length≤9223372036854775807)) (.ret [C.str (List.drop 0 (List.take (aAk r (aA0 r i 2) (aA1 h 2) (↑t.length:Int)).toNat t)++aBv [[C.int .u8 (aOw .u8 (↑(t.getD (aAk r (aA0 r i 2) (aA1 h 2) (↑t.length:Int)).toNat (0:UInt8)).toNat:Int) (aS6 .u8 1 (IntKind.u64.wrap (aAk r (aA0 r (aA0 r (aA0 r i 2) (↑t.length:Int)) (4:Int)) (aA1 (aA1 (aA1 h 2) (↑t.length:Int)) (4:Int)) (8:Int)))))]]++List.drop (IntKind.i64.wrap (aAk r (aA0 r i 2) (aA1 h 2) (↑t.length:Int)+(1:Int))).toNat (List.take t.length t)),C.sl r,C.int .i64 (aA0 r (aA0 r (aA0 r (aA0 r i 2) (↑t.length:Int)) (4:Int)) (8:Int)),C.int .i64 (aA1 (aA1 (aA1 (aA1 h 2) (↑t.length:Int)) (4:Int)) (8:Int))])))))))))))))))):T (List C)).eval:=aAo (by kernel_rfl)
theorem bEm (H:List Pt→Nat→St→T (List C)) (v:Int) (s:Int) (b:Int) (l:Int) (r:List (List C)):(aAm aQt aAb {params:=[aFf,bOv],results:=[rS],nested:=true} Tryz.f74 H [C.int .i64 v,C.int .i64 s,C.int .i64 b,C.int .i64 l,C.sl r]).eval=((H [Pt.r,Pt.r,Pt.l,Pt.r,Pt.b] 9223372036854775808 (aQm (v) (s) (b) (l) (r) (aBu v s b l) ((0:Int)))):T (List C)).eval:=aAo (by kernel_rfl)
theorem aNq (H:List Pt→Nat→St→T (List C)) (v:Int) (s:Int) (b:Int) (l:Int) (r:List (List C)) (t:List UInt8) (j:Int) (k:Nat):(aBk aQt aAb {params:=[aFf,bOv],results:=[rS],nested:=true} Tryz.f74 H [Pt.r,Pt.r,Pt.l,Pt.r,Pt.b] k (aQm v s b l r t j)).eval=((.ask (decide (j<(↑r.length:Int))) (.must (decide ((0:Int)≤j)&&decide (j<(↑r.length:Int))&&decide ((r.getD j.toNat []).length=1)) (.must (decide (0<(r.getD j.toNat []).length)&&C.is K.str ((r.getD j.toNat []).getD 0 (C.fn 0 []))&&true) (.must (decide (((r.getD j.toNat []).getD 0 (C.fn 0 [])).toStr.length≤281474976710656)) (.must (decide (t.length+(aAf v (IntKind.i64.wrap (b+j)) ((r.getD j.toNat []).getD 0 (C.fn 0 [])).toStr).length≤9223372036854775807)) (H [Pt.r,Pt.r,Pt.l,Pt.r,Pt.b] k (aQm (v) (s) (b) (l) (r) (t++aAf v (IntKind.i64.wrap (b+j)) ((r.getD j.toNat []).getD 0 (C.fn 0 [])).toStr) (IntKind.i64.wrap (j+(1:Int))))))))) (.ret [C.str t])):T (List C)).eval:=aAo (by kernel_rfl)
theorem bN9 (H:List Pt→Nat→St→T (List C)) (r:List (List C)) (i:Int) (h:Int):(aAm bSv aAb {params:=[aD2],results:=[rS],nested:=true} Tryz.f78 H [C.sl r,C.int .i64 i,C.int .i64 h]).eval=((.must (aAr r i) (.must (aAr r (hdI r i)&&decide ((0:Int)≤(6:Int)∧(6:Int)≤(100:Int))) (.must ((true&&(List.map aAn (rsL r (hdI r i) (hdH h) 6)).all fun row=>decide (row.length=1))&&true&&true&&(decide (0<((Nat.add 1 0).succ.add 0).succ)&&true&&(decide (0+1<((Nat.add 1 0).succ.add 0).succ)&&true&&(decide (0+1+1<((Nat.add 1 0).succ.add 0).succ)&&true&&true))&&true)) (.must (aAr r (rsI r (hdI r i) (hdH h) 6)) (.ask (decide (aAk r (rsI r (hdI r i) (hdH h) 6) (rsH r (hdI r i) (hdH h) 6) (2:Int)=(0:Int))) (.must (aAt [K.str] (List.take (List.map aAn (rsL r (hdI r i) (hdH h) 6)).length (List.map aAn (rsL r (hdI r i) (hdH h) 6)))&&decide ((List.take (List.map aAn (rsL r (hdI r i) (hdH h) 6)).length (List.map aAn (rsL r (hdI r i) (hdH h) 6))).length≤1048576)) (.must (aAr r (aA0 r (rsI r (hdI r i) (hdH h) 6) (2:Int))&&decide ((aDt (hdV r i h) (hdS r i h) (hdB r i h) (hdL r i h) (aCm (List.take (List.map aAn (rsL r (hdI r i) (hdH h) 6)).length (List.map aAn (rsL r (hdI r i) (hdH h) 6))))).length≤1048576)) (.ret [C.str (bnT r (aA0 r (rsI r (hdI r i) (hdH h) 6) (2:Int)) (aA1 (rsH r (hdI r i) (hdH h) 6) (2:Int)) (aDt (hdV r i h) (hdS r i h) (hdB r i h) (hdL r i h) (aCm (List.take (List.map aAn (rsL r (hdI r i) (hdH h) 6)).length (List.map aAn (rsL r (hdI r i) (hdH h) 6)))))),C.sl r,C.int .i64 (bnI r (aA0 r (rsI r (hdI r i) (hdH h) 6) (2:Int)) (aA1 (rsH r (hdI r i) (hdH h) 6) (2:Int)) (aDt (hdV r i h) (hdS r i h) (hdB r i h) (hdL r i h) (aCm (List.take (List.map aAn (rsL r (hdI r i) (hdH h) 6)).length (List.map aAn (rsL r (hdI r i) (hdH h) 6)))))),C.int .i64 (bnH r (aA0 r (rsI r (hdI r i) (hdH h) 6) (2:Int)) (aA1 (rsH r (hdI r i) (hdH h) 6) (2:Int)) (aDt (hdV r i h) (hdS r i h) (hdB r i h) (hdL r i h) (aCm (List.take (List.map aAn (rsL r (hdI r i) (hdH h) 6)).length (List.map aAn (rsL r (hdI r i) (hdH h) 6))))))]))) (.must (aAt [K.str] (List.take (List.map aAn (rsL r (hdI r i) (hdH h) 6)).length (List.map aAn (rsL r (hdI r i) (hdH h) 6)))&&(decide ((List.take (List.map aAn (rsL r (hdI r i) (hdH h) 6)).length (List.map aAn (rsL r (hdI r i) (hdH h) 6))).length≤1048576)&&(inB (hdB r i h) 0 1000000000&&aJ5 (List.take (List.map aAn (rsL r (hdI r i) (hdH h) 6)).length (List.map aAn (rsL r (hdI r i) (hdH h) 6)))))) (.must (aAr r (aA0 r (rsI r (hdI r i) (hdH h) 6) (2:Int))&&decide ((aCr (hdV r i h) (hdS r i h) (hdB r i h) (hdL r i h) (aCm (List.take (List.map aAn (rsL r (hdI r i) (hdH h) 6)).length (List.map aAn (rsL r (hdI r i) (hdH h) 6))))).length≤1048576)) (.ret [C.str (bnT r (aA0 r (rsI r (hdI r i) (hdH h) 6) (2:Int)) (aA1 (rsH r (hdI r i) (hdH h) 6) (2:Int)) (aCr (hdV r i h) (hdS r i h) (hdB r i h) (hdL r i h) (aCm (List.take (List.map aAn (rsL r (hdI r i) (hdH h) 6)).length (List.map aAn (rsL r (hdI r i) (hdH h) 6)))))),C.sl r,C.int .i64 (bnI r (aA0 r (rsI r (hdI r i) (hdH h) 6) (2:Int)) (aA1 (rsH r (hdI r i) (hdH h) 6) (2:Int)) (aCr (hdV r i h) (hdS r i h) (hdB r i h) (hdL r i h) (aCm (List.take (List.map aAn (rsL r (hdI r i) (hdH h) 6)).length (List.map aAn (rsL r (hdI r i) (hdH h) 6)))))),C.int .i64 (bnH r (aA0 r (rsI r (hdI r i) (hdH h) 6) (2:Int)) (aA1 (rsH r (hdI r i) (hdH h) 6) (2:Int)) (aCr (hdV r i h) (hdS r i h) (hdB r i h) (hdL r i h) (aCm (List.take (List.map aAn (rsL r (hdI r i) (hdH h) 6)).length (List.map aAn (rsL r (hdI r i) (hdH h) 6))))))])))))))):T (List C)).eval:=aAo (by kernel_rfl)
theorem bVz (rows:List (List C)) (i:Int) (h:aAr rows i=true):aAr rows (hdI rows i)=true :=
 aAq _ _ _ (aAq _ _ _ (aAq _ _ _ (aAq _ _ _ h)))
theorem bUt (rows:List (List C)) (i h:Int):(1≤hdV rows i h∧hdV rows i h≤2)∧(1≤hdS rows i h∧hdS rows i h≤4)∧(0≤hdB rows i h∧hdB rows i h≤8)∧(0≤hdL rows i h∧hdL rows i h≤999999):=by
 have b1:=aBl rows i h 2 (by omega)
 have b2:=aBl rows (aA0 rows i 2) (aA1 h 2) 4 (by omega)
 have b3:=aBl rows (aA0 rows (aA0 rows i 2) 4) (aA1 (aA1 h 2) 4) 9 (by omega)
 have b4:=aBl rows (aA0 rows (aA0 rows (aA0 rows i 2) 4) 9) (aA1 (aA1 (aA1 h 2) 4) 9) 1000000 (by omega)
 unfold hdV hdS hdB hdL
 omega
theorem bTq:aA9 Tryz.prog bM3:=aA8 (by simp[aD0])
theorem bEj:aB0 Tryz.prog 113 (⟨[aD2],[aV0],true⟩) bRs:=aA6 bTq aAa Tryz.func113 (by kernel_rfl) fun cs outs hk h=>by
 unfold bRs at h
 split at h
 ·simp only[Option.some.injEq,Prod.mk.injEq]at h
  obtain⟨h1,rfl⟩:=h
  rename_i rows i hh
  rw[aAd,bIh]
  have o1:=aAq rows i 2 h1
  have o2:=aAq rows _ 4 o1
  have o3:=aAq rows _ 9 o2
  have b1:=aBl rows i hh 2 (by omega)
  have b2:=aBl rows (aA0 rows i 2) (aA1 hh 2) 4 (by omega)
  have w1:IntKind.i64.wrap (1+aAk rows i hh 2)=1+aAk rows i hh 2:=by rw[aAi]<;>omega
  have w2:IntKind.i64.wrap (1+aAk rows (aA0 rows i 2) (aA1 hh 2) 4)=1+aAk rows (aA0 rows i 2) (aA1 hh 2) 4:=by rw[aAi]<;>omega
  simp only[aA2,aA3,h1,o1,o2,o3,w1,w2,if_true]
  rfl
 ·cases h
theorem bQp (rows:List (List C)) (i h:Int) (ho:aAr rows i=true):aAr rows (rcI rows i h)=true:=by
 unfold rcI
 split
 ·exact aAq _ _ _ ho
 ·split
  ·exact aP6 _ _ _ (aAq _ _ _ (aAq _ _ _ ho))
  ·exact cA3 _ _ _ _ (aAq _ _ _ ho)
theorem bQo (rows:List (List C)) (i h:Int):(rcT rows i h).length≤60:=by
 unfold rcT
 split
 ·simp
 ·split
  ·rw[aGp]
   have:=aBl rows (aA0 rows i 6) (aA1 h 6) 41 (by omega)
   unfold aEb;split<;>omega
  ·have:=bY2 rows 12 (aA0 rows i 6) (aA1 h 6) (by omega) (by omega)
   omega
theorem bMw:aA9 Tryz.prog aZp:=aA8 (by simp[aD0,aOd])
theorem aJ7:aB0 Tryz.prog 27 (⟨[aD2],[rS],true⟩) bFc:=aA6 bMw aAa Tryz.func27 (by kernel_rfl) fun cs outs hk h=>by
 unfold bFc at h
 split at h
 ·simp only[Option.some.injEq,Prod.mk.injEq]at h
  obtain⟨h1,rfl⟩:=h
  rename_i rows i hh
  rw[aAd,bAq]
  have o1:=aAq rows i 6 h1
  have o2:=aAq rows _ 41 o1
  have o3:=aAq rows _ 12 o1
  have b2:=aBl rows (aA0 rows i 6) (aA1 hh 6) 41 (by omega)
  have w2:IntKind.i64.wrap (20+aAk rows (aA0 rows i 6) (aA1 hh 6) 41)=20+aAk rows (aA0 rows i 6) (aA1 hh 6) 41:=by rw[aAi]<;>omega
  unfold rcT rcI rcH dtT dtI dtH
  by_cases p0:aAk rows i hh 6=0
  ·simp only[aA2,aA4,aA3,h1,p0,decide_true,if_true]
  ·by_cases p1:aAk rows i hh 6=1
   ·have p2:¬((1:Int)=0):=by decide
    simp only[aA2,aA4,aA3,h1,o1,o2,p1,p2,w2,decide_true,decide_false,Bool.false_eq_true,if_true,if_false]
   ·simp only[aA2,aA4,aA3,h1,o1,o3,p0,p1,decide_false,Bool.false_eq_true,if_true,if_false]
 ·cases h
theorem bQ9 (rows:List (List C)) (m:Int):∀ (f:Nat) (j i h:Int) (l:List (List UInt8)),aAr rows i=true→aAr rows (bNk rows m f j i h l).2.1=true
 |0,_,_,_,_,ho=>ho
 |f+1,j,i,h,l,ho=>by
  unfold bNk
  split
  ·exact bQ9 rows m f _ _ _ _ (bQp _ _ _ (aAq _ _ _ ho))
  ·exact aAq _ _ _ ho
theorem aRa (rows:List (List C)) (m:Int):∀ (f:Nat) (j i h:Int) (l:List (List UInt8)),(∀ r,r∈l→r.length≤60)→(l.length:Int)≤j→j≤m+1→(∀ r,r∈(bNk rows m f j i h l).1→r.length≤60)∧((bNk rows m f j i h l).1.length:Int)≤m+1
 |0,_,_,_,l,h1,h2,h3=>⟨h1,by show (l.length:Int)≤m+1;omega⟩
 |f+1,j,i,h,l,h1,h2,h3=>by
  unfold bNk
  split
  ·rename_i hj
   by_cases hm:0<m+1
   ·have b:=aBl rows i h (m+1) hm
    refine aRa rows m f _ _ _ _ (fun r hr=>?_) (by simp;omega) (by omega)
    rcases List.mem_append.1 hr with hr | hr
    ·exact h1 r hr
    ·have:r=rcT rows (aA0 rows i (m+1)) (aA1 h (m+1)):=by simpa using hr
     rw[this];exact bQo _ _ _
   ·have:aAk rows i h (m+1)=0:=by unfold aAk;rw[if_pos (by omega)]
    omega
  ·exact⟨h1,by show (l.length:Int)≤_;omega⟩
theorem bQ8 (rows:List (List C)) (i h m:Int) (ho:aAr rows i=true):aAr rows (rsI rows i h m)=true:=bQ9 rows m _ _ _ _ _ ho
theorem bIx (rows:List (List C)) (i h m:Int) (hm:0≤m):((rsL rows i h m).length:Int)≤m+1:=(aRa rows m _ 0 i h [] (by simp) (by simp) (by omega)).2
theorem bF5 (rows:List (List C)) (i h m:Int) (hm:0≤m):∀ r,r∈rsL rows i h m→r.length≤60:=(aRa rows m _ 0 i h [] (by simp) (by simp) (by omega)).1
theorem aXe (rows:List (List C)) (m:Int) (hm:0≤m∧m≤100):∀ (f n:Nat) (j i h:Int) (l:List (List UInt8)),aAr rows i=true→j+f=m+2→j≤m+1→f≤n→(l.length:Int)≤j →
  (aBn aKy aAb (⟨[aD2,pI],[rSl 9],true⟩) Tryz.f73 [.r,.r,.l,.r,.b] n (aKx rows i h m l.length (l.map aAn) j)).eval=some [.sl ((bNk rows m f j i h l).1.map aAn),.sl rows,.int .i64 (bNk rows m f j i h l).2.1,.int .i64 (bNk rows m f j i h l).2.2]:=by
 intro f
 induction f with
 |zero=>intro n j i h l ho h1 h2 h3 h4;omega
 |succ f ih =>
  intro n j i h l ho h1 h2 h3 h4
  obtain⟨n,rfl⟩:∃ q,n=q+1:=⟨n-1,by omega⟩
  rw[aAz _ _ _ _ _ _ _ (by kernel_rfl),aSo]
  have w:IntKind.i64.wrap (m+1)=m+1:=by rw[aAi]<;>omega
  have w2:IntKind.i64.wrap (j+1)=j+1:=by rw[aAi]<;>omega
  have o1:=aAq rows i (m+1) ho
  have b:=aBl rows i h (m+1) (by omega)
  have ro:aBe (l.length+1) 16=true:=by simp only[aBe,decide_eq_true_eq];omega
  have ap:∀ x:List UInt8,(l.map aAn).append [[C.str x]]=(l++[x]).map aAn:=fun x=>by simp
  simp only[aA2,aA4,aA3,ho,o1,w,w2,ro,ap,List.length_map,decide_eq_true_eq,decide_true,Bool.true_or,Bool.and_true,Bool.true_and,Bool.and_self,if_true]
  unfold bNk
  by_cases c:j<aAk rows i h (m+1)
  ·have e:=ih n (j+1) (rcI rows (aA0 rows i (m+1)) (aA1 h (m+1))) (rcH rows (aA0 rows i (m+1)) (aA1 h (m+1))) (l++[rcT rows (aA0 rows i (m+1)) (aA1 h (m+1))]) (bQp _ _ _ o1) (by omega) (by omega) (by omega) (by simp;omega)
   rw[List.length_append]at e
   rw[if_pos c,if_pos c]
   exact e
  ·rw[if_neg c,if_neg c]
theorem bI8:aA9 Tryz.prog aKy:=aA8 (by simp[aD0,aJ7])
theorem aLi:aB0 Tryz.prog 73 (⟨[aD2,pI],[rSl 9],true⟩) bL3:=aA6 bI8 aAa Tryz.func73 (by kernel_rfl) fun cs outs hk h=>by
 unfold bL3 at h
 split at h
 ·simp only[Option.some.injEq,Prod.mk.injEq,Bool.and_eq_true,decide_eq_true_eq]at h
  obtain⟨⟨h1,h2⟩,rfl⟩:=h
  rename_i rows i hh m
  rw[aAd,aXd]
  exact aXe rows m h2 (m+2).toNat 9223372036854775808 0 i hh [] h1 (by omega) (by omega) (by omega) (by simp)
 ·cases h
theorem bGx (rows:List (List C)) (i h:Int) (t:List UInt8) (ho:aAr rows i=true):aAr rows (bnI rows i h t)=true:=by
 have o3:aAr rows (bDk rows i t)=true:=aAq _ _ _ (aAq _ _ _ (aAq _ _ _ ho))
 unfold bnI
 repeat' split
 ·exact ho
 ·exact aAq _ _ _ ho
 ·exact o3
 ·exact o3
 ·exact aP6 _ _ _ (aAq _ _ _ o3)
 ·exact aAq _ _ _ o3
theorem bSj (rows:List (List C)) (i h:Int) (t:List UInt8):(bnT rows i h t).length≤t.length+5:=by
 unfold bnT
 repeat' split
 ·omega
 ·omega
 ·simp only[List.length_take];omega
 ·rename_i ht _ _ _
  have bk:=aBl rows (aA0 rows i 2) (aA1 h 2) t.length (by have:=List.length_pos_iff.2 ht;omega)
  simp only[List.length_append,List.length_take,List.length_drop,bnK];omega
 ·have b:=aBl rows (bDk rows i t) (bGy h t) 4 (by omega)
  rw[List.length_append,aGp]
  unfold bnN aEb
  split<;>omega
 ·rename_i ht _ _ _ _
  have bk:=aBl rows (aA0 rows i 2) (aA1 h 2) t.length (by have:=List.length_pos_iff.2 ht;omega)
  have e:(bnB rows i h t).length=1:=rfl
  simp only[List.length_append,List.length_take,List.length_drop,e,bnK];omega
theorem bWl (x:Int) (h1:0≤x) (h2:x<256):0≤IntKind.u64.wrap x:=by
 simp only[IntKind.wrap,IntKind.bits,IntKind.signed]
 simp
 omega
theorem bTu:aA9 Tryz.prog bM4:=aA8 (by simp[aD0,aI9,aOd])
theorem aS5:aB0 Tryz.prog 75 (⟨[aD2,pS],[rS],true⟩) bLp:=aA6 bTu aAa Tryz.func75 (by kernel_rfl) fun cs outs hk h=>by
 unfold bLp at h
 split at h
 ·simp only[Option.some.injEq,Prod.mk.injEq,Bool.and_eq_true,decide_eq_true_eq]at h
  obtain⟨⟨h1,h2⟩,rfl⟩:=h
  rename_i rows i hh t
  rw[aAd,bIs]
  have o1:=aAq rows i 2 h1
  have o2:=aAq rows _ t.length o1
  have o3:=aAq rows _ 4 o2
  have o4:=aAq rows _ 4 o3
  by_cases ht:t=[]
  ·subst ht;simp[aA4,aA3,bnT,bnI,bnH]
  ·have hl:0<t.length:=List.length_pos_iff.2 ht
   have bk:=aBl rows (aA0 rows i 2) (aA1 hh 2) t.length (by omega)
   have b4:=aBl rows (bDk rows i t) (bGy hh t) 4 (by omega)
   have b8:=aBl rows (bDk rows i t) (bGy hh t) 8 (by omega)
   by_cases p:aAk rows i hh 2=0
   ·simp[aA4,aA2,aA3,ht,p,h1,bnT,bnI,bnH]
   ·have w1:IntKind.i64.wrap (bnK rows i hh t+1)=bnK rows i hh t+1:=by unfold bnK;rw[aAi]<;>omega
    have w4:IntKind.i64.wrap (1+aAk rows (bDk rows i t) (bGy hh t) 4)=1+aAk rows (bDk rows i t) (bGy hh t) 4:=by rw[aAi]<;>omega
    have u8:=bWl _ b8.1 (by omega)
    have ek:aAk rows (aA0 rows i 2) (aA1 hh 2) (t.length:Int)=bnK rows i hh t:=rfl
    have ei:aA0 rows (aA0 rows (aA0 rows i 2) (t.length:Int)) 4=bDk rows i t:=rfl
    have eh:aA1 (aA1 (aA1 hh 2) (t.length:Int)) 4=bGy hh t:=rfl
    have ec:aAk rows (aA0 rows (aA0 rows i 2) (t.length:Int)) (aA1 (aA1 hh 2) (t.length:Int)) 4=bnC rows i hh t:=rfl
    rw[ei]at o3 o4
    rw[ek]at bk
    have en:aEb (1+aAk rows (bDk rows i t) (bGy hh t) 4)=bnN rows i hh t:=rfl
    have eb:aBv [[C.int .u8 (aOw .u8 ((t.getD (bnK rows i hh t).toNat 0).toNat:Int) (aS6 .u8 1 (IntKind.u64.wrap (aAk rows (bDk rows i t) (bGy hh t) 8))))]]=bnB rows i hh t:=rfl
    have lb:(bnB rows i hh t).length=1:=rfl
    have lc:(aDl rows (bnN rows i hh t) (aA0 rows (bDk rows i t) 4) (aA1 (bGy hh t) 4)).length≤5000:=by rw[aGp];unfold bnN aEb;split<;>omega
    have tb:(t==[])=false:=by simpa using ht
    have q1:bnK rows i hh t≤(t.length:Int):=by omega
    have q2:0≤bnK rows i hh t+1:=by omega
    have q3:bnK rows i hh t+1≤(t.length:Int):=by omega
    have l1:(t.take (bnK rows i hh t).toNat).length+(t.drop (bnK rows i hh t+1).toNat).length≤9223372036854775807:=by simp only[List.length_take,List.length_drop];omega
    have l2:(t.take (bnK rows i hh t).toNat).length+(bnB rows i hh t).length≤9223372036854775807:=by simp only[List.length_take,lb];omega
    have l3:(t.take (bnK rows i hh t).toNat).length+(bnB rows i hh t).length+(t.drop (bnK rows i hh t+1).toNat).length≤9223372036854775807:=by simp only[List.length_take,List.length_drop,lb];omega
    have l4:t.length+(aDl rows (bnN rows i hh t) (aA0 rows (bDk rows i t) 4) (aA1 (bGy hh t) 4)).length≤9223372036854775807:=by omega
    simp only[aA4,aA2,aA3,tb,ek,ei,eh,ec,w1,w4,en,eb,h1,o1,o2,o3,o4,p,u8,bk.1,bk.2,q1,q2,q3,l1,l2,l3,l4,List.take_length,List.drop_zero,List.length_append,decide_true,decide_false,Bool.and_self,Bool.false_eq_true,if_true,if_false,decide_eq_true_eq]
    unfold bnT bnI bnH
    rw[if_neg ht,if_neg ht,if_neg ht,if_neg p,if_neg p,if_neg p]
    by_cases c0:bnC rows i hh t=0
    ·simp only[c0,if_true]
    ·by_cases c1:bnC rows i hh t=1
     ·rw[if_neg c0,if_neg c0,if_neg c0,if_neg c0,if_pos c1,if_pos c1,if_pos c1,if_pos c1]
     ·by_cases c2:bnC rows i hh t=2
      ·rw[if_neg c0,if_neg c0,if_neg c0,if_neg c0,if_neg c1,if_neg c1,if_neg c1,if_neg c1,if_pos c2,if_pos c2,if_pos c2,if_pos c2]
      ·rw[if_neg c0,if_neg c0,if_neg c0,if_neg c0,if_neg c1,if_neg c1,if_neg c1,if_neg c1,if_neg c2,if_neg c2,if_neg c2,if_neg c2]
 ·cases h
theorem aOb (l:List (List UInt8)):aJ5 (l.map aAn)=true↔∀ x,x∈l→x.length≤281474976710656:=by
 simp only[aJ5,aIm,List.all_eq_true,decide_eq_true_eq]
theorem aSa (v b:Int):∀ (rs:List (List UInt8)) (i:Int) (t:List UInt8),(aIw v b i rs t).length≤t.length+90*rs.length
 |[],i,t=>by simp[aIw]
 |r::rs,i,t=>by
  unfold aIw
  have:=aSa v b rs (i+1) (t++aAf v (b+i) r)
  have h1:=aEv v (b+i) r
  simp only[List.length_append,List.length_cons]at this ⊢
  omega
theorem aKn (v s b l:Int) (rs:List (List UInt8)):(aCr v s b l rs).length≤60+90*rs.length:=by
 unfold aCr
 have:=aSa v b rs 0 (aBu v s b l)
 have:=aKm v s b l
 omega
theorem bEn (v s b l:Int) (rs:List (List UInt8)) (hb:0≤b∧b≤1000000000) (hl:rs.length≤1048576) (hr:∀ r,r∈rs→r.length≤281474976710656):∀ (f n i:Nat) (t:List UInt8),i+f=rs.length→f<n→t.length≤60+90*i →
  (aBn aQt aAb (⟨[aFf,bOv],[rS],true⟩) Tryz.f74 [.r,.r,.l,.r,.b] n (aQm v s b l (rs.map aAn) t i)).eval=some [.str (aIw v b i (rs.drop i) t)]:=by
 intro f
 induction f with
 |zero =>
  intro n i t h1 h2 h3
  obtain⟨n,rfl⟩:∃ q,n=q+1:=⟨n-1,by omega⟩
  rw[aAz _ _ _ _ _ _ _ (by kernel_rfl),aNq]
  have c:¬((i:Int)<(rs.length:Int)):=by omega
  have hd:rs.drop i=[]:=List.drop_eq_nil_of_le (by omega)
  simp only[List.length_map,aA4,aA3,decide_eq_true_eq,c,if_false,hd,aIw]
 |succ f ih =>
  intro n i t h1 h2 h3
  obtain⟨n,rfl⟩:∃ q,n=q+1:=⟨n-1,by omega⟩
  rw[aAz _ _ _ _ _ _ _ (by kernel_rfl),aNq]
  have hi:i<rs.length:=by omega
  have c:(i:Int)<(rs.length:Int):=by omega
  have z:(0:Int)≤(i:Int):=by omega
  have g:=aBa aAn rs [] i hi
  have hd:=aC3 rs i [] hi
  have hm:(rs.getD i []).length≤281474976710656:=hr _ (by simp[List.getD_eq_getElem?_getD,hi])
  generalize rs.getD i []=r at g hd hm
  have w:IntKind.i64.wrap ((i:Int)+1)=((i+1:Nat):Int):=by rw[aAi]<;>omega
  have w2:IntKind.i64.wrap (b+(i:Int))=b+i:=by rw[aAi]<;>omega
  have fl:=aEv v (b+i) r
  have m1:t.length+(aAf v (b+i) r).length≤9223372036854775807:=by omega
  have e:=ih n (i+1) (t++aAf v (b+i) r) (by omega) (by omega) (by simp only[List.length_append];omega)
  rw[hd]
  simp only[List.length_map,aA4,aA2,aA3,decide_eq_true_eq,c,z,Int.toNat_natCast,g,w,w2,if_true,decide_true,Bool.and_true,Bool.true_and,Bool.and_self,List.length_cons,List.length_nil,C.is,List.getD_cons_zero,C.toStr,Nat.zero_add,Nat.zero_lt_one,hm,m1,aIw]
  exact e
theorem bQ1:aA9 Tryz.prog aQt:=aA8 (by simp[aIa,aHl])
theorem aPg:aB0 Tryz.prog 74 (⟨[aFf,bOv],[rS],true⟩) aMt:=aA6 bQ1 aAa Tryz.func74 (by kernel_rfl) fun cs outs hk h=>by
 unfold aMt at h
 split at h
 ·simp only[Option.some.injEq,Prod.mk.injEq,Bool.and_eq_true,decide_eq_true_eq,aBr]at h
  obtain⟨⟨h1,h2,h3⟩,rfl⟩:=h
  rename_i v s b l r
  rw[aAd,bEm]
  have hr:=aFu h1
  generalize aCm r=rs at hr ⊢
  subst hr
  rw[List.length_map]at h2
  have h4:=(aOb rs).1 h3.2
  exact bEn v s b l rs h3.1 h2 h4 rs.length 9223372036854775808 0 (aBu v s b l) (by omega) (by omega) (by have:=aKm v s b l;omega)
 ·cases h
theorem bZx (rows:List (List C)) (i h:Int):(flX rows i h).length≤120000:=by
 unfold flX
 split
 ·exact aOc _ _ _ _ _
 ·have h1:=aKn (hdV rows i h) (hdS rows i h) (hdB rows i h) (hdL rows i h) (flR rows i h)
  have h2:=bIx rows (hdI rows i) (hdH h) 6 (by omega)
  unfold flR at h1
  unfold flR
  omega
theorem bV0 (rows:List (List C)) (i h:Int):(bOn rows i h).length≤120005:=by
 have h1:=bSj rows (aA0 rows (flI rows i h) 2) (aA1 (flH rows i h) 2) (flX rows i h)
 have h2:=bZx rows i h
 unfold bOn
 omega
theorem bV1 (rows:List (List C)) (i h:Int) (ho:aAr rows i=true):aAr rows (bV2 rows i h)=true :=
 bGx _ _ _ _ (aAq _ _ _ (bQ8 _ _ _ _ (bVz _ _ ho)))
theorem bX0:aA9 Tryz.prog bSv:=aA8 (by simp[aI9,aUa,bEj,aLi,aS5,aPg])
theorem bIj:aB0 Tryz.prog 78 (⟨[aD2],[rS],true⟩) bCy:=aA6 bX0 aAa Tryz.func78 (by kernel_rfl) fun cs outs hk h=>by
 unfold bCy at h
 split at h
 ·simp only[Option.some.injEq,Prod.mk.injEq]at h
  obtain⟨h1,rfl⟩:=h
  rename_i rows i hh
  rw[aAd,bN9]
  have o1:=bVz rows i h1
  have o2:=bQ8 rows (hdI rows i) (hdH hh) 6 o1
  have o3:=aAq rows _ 2 o2
  have ll:=bIx rows (hdI rows i) (hdH hh) 6 (by omega)
  have l1:(rsL rows (hdI rows i) (hdH hh) 6).length≤1048576:=by omega
  have tk:List.take (rsL rows (hdI rows i) (hdH hh) 6).length (List.map aAn (rsL rows (hdI rows i) (hdH hh) 6))=List.map aAn (rsL rows (hdI rows i) (hdH hh) 6):=List.take_of_length_le (by simp)
  have so:aJ5 (List.map aAn (rsL rows (hdI rows i) (hdH hh) 6))=true:=(aOb _).2 fun x hx=>by have:=bF5 rows (hdI rows i) (hdH hh) 6 (by omega) x hx;omega
  have hr:=bUt rows i hh
  have ib:inB (hdB rows i hh) 0 1000000000=true:=(aBr _ _ _).2 ⟨by omega,by omega⟩
  have s1:=aOc (hdV rows i hh) (hdS rows i hh) (hdB rows i hh) (hdL rows i hh) (rsL rows (hdI rows i) (hdH hh) 6)
  have s2:=aKn (hdV rows i hh) (hdS rows i hh) (hdB rows i hh) (hdL rows i hh) (rsL rows (hdI rows i) (hdH hh) 6)
  have s3:(aDt (hdV rows i hh) (hdS rows i hh) (hdB rows i hh) (hdL rows i hh) (rsL rows (hdI rows i) (hdH hh) 6)).length≤1048576:=by omega
  have s4:(aCr (hdV rows i hh) (hdS rows i hh) (hdB rows i hh) (hdL rows i hh) (rsL rows (hdI rows i) (hdH hh) 6)).length≤1048576:=by omega
  have al:((List.map aAn (rsL rows (hdI rows i) (hdH hh) 6)).all fun row=>decide (row.length=1))=true:=by simp
  have d6:decide ((0:Int)≤6∧(6:Int)≤100)=true:=by decide
  unfold bOn bV2 bV3 flX flR flI flH
  simp only[aA4,aA2,aA3,h1,o1,o2,o3,List.length_map,l1,tk,so,ib,s3,s4,al,d6,aEg,aIm,decide_true,Bool.and_self,Bool.true_and,Bool.and_true,if_true,Nat.zero_add,decide_eq_true_eq]
  by_cases c:aAk rows (rsI rows (hdI rows i) (hdH hh) 6) (rsH rows (hdI rows i) (hdH hh) 6) 2=0
  ·simp only[c,if_true];rfl
  ·simp only[c,if_false];rfl
 ·cases h
noncomputable section
end
noncomputable section
def aIl (n:Int):List UInt8:=if inB n 0 1000000000 then aAp n++[46,116,109,112]else[]
def bAa:aCh:=fun cs=>match cs with
 |[.int .i64 n]=>some (true,[.str (aIl n)])
 |_=>none
def aWs:Env:=mkE [] [(53,(sg [pI] [rS]),aLd)]
end
theorem aX9 (H:List Pt→Nat→St→T (List C)) (n:Int):(aAm aWs aAb (sg [pI] [rS]) Tryz.f77 H [C.int .i64 n]).eval=((.ask (aAp n==[]) (.ret [C.str []]) (.must (decide ((aAp n).length+4≤9223372036854775807)) (.ret [C.str (aAp n++[(46:UInt8),116,109,112])]))):T (List C)).eval:=aAo (by kernel_rfl)
theorem bHx (n:Int):(aAp n).length≤100:=by
 unfold aAp
 split
 ·simp[aKt]
 ·simp
theorem bHz:aA9 Tryz.prog aWs:=aA8 (by simp[aFs])
theorem aU5:aB0 Tryz.prog 77 (sg [pI] [rS]) bAa:=aA6 bHz aAa Tryz.func77 (by kernel_rfl) fun cs outs hk h=>by
 unfold bAa at h
 split at h
 ·simp only[Option.some.injEq,Prod.mk.injEq,true_and]at h
  subst h
  rename_i n
  rw[aAd,aX9]
  have hl:=bHx n
  have h4:(aAp n).length+4≤9223372036854775807:=by omega
  by_cases hb:inB n 0 1000000000=true
  ·have hne:(aAp n==[])=false:=by unfold aAp;rw[if_pos hb];rfl
   simp only[aA4,aA2,aA3,hne,h4,hb,Bool.false_eq_true,if_false,if_true,decide_true,aIl]
  ·have hs:aAp n=[]:=by unfold aAp;rw[if_neg hb]
   simp only[aA4,aA2,aA3,hs,hb,beq_self_eq_true,if_true,if_false,aIl,Bool.false_eq_true]
 ·cases h
noncomputable section
def bW1 (x:Int):Int:=if x<10 then 48+x else 87+x
def cA0 (d:Nat):UInt8:=UInt8.ofNat (48+d)
def bKe:Nat→Nat→List UInt8→List UInt8
 |0,_,s=>s
 |f+1,n,s=>if n=0 then s else bKe f (n / 10) (cA0 (n % 10)::s)
def aG2 (n:Int):List UInt8:=if n=0 then[48]else bKe 20 n.toNat []
def bVq:List UInt8→Int→Option Int
 |[],n=>some n
 |c::r,n=>if (c.toNat:Int)<48 then none else if (c.toNat:Int)>57 then none else bVq r (10*n+c.toNat-48)
def bHo (t:List UInt8):Bool:=decide (t.length≤10)&&match bVq t 0 with | some n=>decide (n≤1000000000)&&decide (aG2 n=t) | none=>false
def aNl (t:List UInt8):Int:=if bHo t then (bVq t 0).getD 0 else 0
def bK7:aCh:=fun cs=>match cs with
 |[.int .i64 x]=>some (inB x 0 15,[.int .u8 (bW1 x)])
 |_=>none
def bD3:aCh:=fun cs=>match cs with
 |[.int .i64 x]=>some (inB x 0 9223372036854775807,[.str (aG2 x)])
 |_=>none
def bQm:aCh:=fun cs=>match cs with
 |[.str t]=>some (decide (t.length≤281474976710656),[.int .i64 (aNl t),.bool (bHo t)])
 |_=>none
def bWc:Env:=mkE [] []
def bY9 (n:Int) (s:List UInt8):St:=st0 [(0,aBc n),(3,.l (.b true)),(4,aT0 s)]
def bH2 (n:Int) (s:List UInt8):St:=st0 [(0,aBc n),(3,.l (.b false)),(4,aT0 s)]
def bMc:Env:=mkE [(5,[0,3,4])] [(158,(sg [pI] [rU8]),bK7)]
def bVe (t:List UInt8) (n i:Int):St:=st0 [(0,aT0 t),(4,aBc n),(5,aBc i)]
def bVf:Env:=mkE [(5,[0,4,5])] [(144,(sg [pI] [rS]),bD3)]
def bR6 (c:UInt8):Bool:=inB (c.toNat:Int) 97 122||inB (c.toNat:Int) 48 57||decide ((c.toNat:Int)=46)||decide ((c.toNat:Int)=45)
def aDz (t:List UInt8):Bool:=t.all bR6&&inB t.length 1 20
def aKk:aCh:=fun cs=>match cs with
 |[.str t]=>some (decide (t.length≤281474976710656),[.bool (aDz t)])
 |_=>none
def aIk (t:List UInt8) (i:Int):St:=st0 [(0,aT0 t),(3,aBc i)]
def aQs:Env:=mkE [(2,[0,3])] [(45,(sg [pI,pI,pI] [rB]),aEm)]
abbrev dN:Nat:=16777216
def aZ3 (ns:List (List C)):Bool:=aAt kNd ns&&decide (ns.length≤dN)&&(nds ns).all fun x=>decide (x.text.length≤dN)
def aJg (es:List (List C)):Bool:=aAt kEn es&&decide (es.length≤dN)&&(ens es).all fun x=>decide (x.name.length≤dN)
def bTi (ss:List (List C)):Bool:=aAt [.str] ss&&decide (ss.length≤dN)&&(aCm ss).all fun x=>decide (x.length≤dN)
def aEa (ns:List Nd):Nat:=(ns.map fun x=>x.text.length).sum
def aT3:aCh:=fun cs=>match cs with
 |[.sl ns,.sl _,.sl _,.sl _,.int .i64 _,.int .i64 _]=>some (aZ3 ns,[.int .i64 (aEa (nds ns))])
 |_=>none
def aWn (ns es os ss:List (List C)) (r x n i:Int):St:={slots:=[(1,.l (.ptr 0 0)),(3,aBc n),(4,aBc i)],heap:=[(0,bKc ns es os ss r x)],next:=1,pins:=[]}
def aWr:Env:=mkE [(3,[1,3,4])] []
def aW5 (ns:List Nd):List En→Option (List UInt8)→Bool
 |[],_=>true
 |e::r,p=>aDz e.name&&decide (0≤aAv ns e.id)&&(match p with | none=>true | some q=>Op.bytesLess q e.name)&&aW5 ns r (some e.name)
def aJt (ns:List Nd) (l:List En):Bool:=aW5 ns l none&&decide (l.length≤16)
def aOo:aCh:=fun cs=>match cs with
 |[.sl ns,.sl _,.sl _,.sl _,.int .i64 _,.int .i64 _,.sl l]=>some (aZ3 ns&&aJg l,[.bool (aJt (nds ns) (ens l))])
 |_=>none
def aK1 (ns es os ss:List (List C)) (r x:Int) (l:List (List C)) (i:Int):St:={slots:=[(1,.l (.sl l)),(2,.l (.ptr 0 0)),(5,aBc i)],heap:=[(0,bKc ns es os ss r x)],next:=1,pins:=[]}
def aNe:Env:=mkE [(2,[1,2,5])] [(92,(sg [aB4,pI] [rI]),aEt),(142,(sg [pS] [rB]),aKk)]
def bAe:aCh:=fun cs=>match cs with
 |[.sl a,.sl b]=>some (aJg a&&aJg b,[.bool (decide (ens a=ens b))])
 |_=>none
def bDa (a b:List (List C)) (i:Int):St:=st0 [(0,.l (.sl a)),(1,.l (.sl b)),(5,aBc i)]
def bDe:Env:=mkE [(4,[0,1,5])] []
def geB (a b:List UInt8):Bool:= !Op.bytesLess a b
def aHv (e:En):List En→Bool→List En
 |[],done=>if done then[]else[e]
 |x::r,done=>(if done then[]else if geB x.name e.name then[e]else[])++(if x.name=e.name then[]else[x])++aHv e r (done||geB x.name e.name)
def bFg (l:List En) (e:En):List En:=aHv e l false
def aG1 (l:List En) (nm:List UInt8):List En:=l.filter fun x=> !decide (x.name=nm)
def aFk (l:List (List C)) (nm:List UInt8) (id:Int):List (List C):=(bFg (ens l) ⟨nm,id⟩).map eEn
def aBg (l:List (List C)) (nm:List UInt8):List (List C):=(aG1 (ens l) nm).map eEn
def aV1:aCh:=fun cs=>match cs with
 |[.sl l,.str nm,.int .i64 id]=>some (aJg l,[.sl (aFk l nm id)])
 |_=>none
def aQb:aCh:=fun cs=>match cs with
 |[.sl l,.str nm]=>some (aJg l,[.sl (aBg l nm)])
 |_=>none
def aWp (l:List (List C)) (nm:List UInt8) (id:Int) (n:Nat) (o:List (List C)) (i:Int):St:={slots:=[(0,.l (.sl l)),(3,.l (.ptr 0 0)),(5,.l (.ref 1 0 n)),(6,.l (.b false)),(7,aBc i)],heap:=[(0,.box [.s nm,.i .i64 id]),(1,.arr 2 o)],next:=2,pins:=[]}
def aRx (l:List (List C)) (nm:List UInt8) (id:Int) (n:Nat) (o:List (List C)) (i:Int):St:={slots:=[(0,.l (.sl l)),(3,.l (.ptr 0 0)),(5,.l (.ref 1 0 n)),(6,.l (.b true)),(7,aBc i)],heap:=[(0,.box [.s nm,.i .i64 id]),(1,.arr 2 o)],next:=2,pins:=[]}
def aZq:Env:=mkE [(4,[0,3,5,6,7])] []
def aWq (l:List (List C)) (nm:List UInt8) (n:Nat) (o:List (List C)) (i:Int):St:=st1 [(0,.l (.sl l)),(1,aT0 nm),(5,.l (.ref 0 0 n)),(6,aBc i)] 2 o
def bDg:Env:=mkE [(3,[0,1,5,6])] []
def aBo (s:List UInt8):Int:=((s.getD 0 0).toNat:Int)
def aVg (c:UInt8):Bool:=decide (c.toNat=58)
def aRt (s:List UInt8):Int:=aD3 aVg (s.drop 1) 1
def aHs (s:List UInt8):Bool:=decide (2≤s.length)&&(decide (aBo s=43)||decide (aBo s=45)||decide (aBo s=62))
def aYt (s:List UInt8):List UInt8:=(s.take (aRt s).toNat).drop 1
def aS2 (s:List UInt8):List UInt8:=s.drop ((aRt s).toNat+1)
def aAw (s:List UInt8):List UInt8:=if aHs s then (if aBo s=45 then s.drop 1 else if aRt s<0 then[]else aYt s)else[]
def aO9 (s:List UInt8):List UInt8:=if aHs s&&decide (aBo s=62)&&decide (0≤aRt s)then aS2 s else[]
def aQv (s:List UInt8):Int:=if aHs s&&decide (aBo s=43)&&decide (0≤aRt s)then aNl (aS2 s)else 0
def aGa (s:List UInt8):Bool:=aHs s&&(decide (aBo s=45)||decide (0≤aRt s)&&(if aBo s=62 then aDz (aS2 s)&& !decide (aYt s=aS2 s)else bHo (aS2 s)&&aDz (aYt s)))
def bAb:aCh:=fun cs=>match cs with
 |[.str s]=>some (decide (s.length≤281474976710656),[.str (aAw s),.str (aO9 s),.int .i64 (aQv s),.bool (aGa s)])
 |_=>none
def aM9 (s:List UInt8) (i:Int):St:=st0 [(0,aT0 s),(6,aBc i)]
def aWt:Env:=mkE [(6,[0,6])] [(180,(sg [pS] [rI,rB]),bQm),(142,(sg [pS] [rB]),aKk)]
end
end Go.Proofs.YtajoeindkdhofaaGreatDoor.V
