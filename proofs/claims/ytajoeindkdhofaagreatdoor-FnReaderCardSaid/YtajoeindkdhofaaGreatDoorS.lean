/- Functions of the given program and of its reference: what each returns, as an equation over data; by the interpreter. -/
import Derived.Test.YtajoeindkdhofaaGreatDoorVG
import Derived.Test.YtajoeindkdhofaaGreatDoorProg
import Derived.KernelRfl
import Derived.Lib.Builder
import Derived.Lib.AppendStr
import Derived.Lib.UnsafeStr
import Derived.Lib.Walk
import Derived.WalkKit
import Derived.RegionTactic
set_option linter.unusedVariables false
set_option linter.unusedSimpArgs false
set_option linter.unusedSectionVars false
set_option linter.deprecated false
namespace Go.Proofs.YtajoeindkdhofaaGreatDoor.V
noncomputable section
def cC3:List (TypeId×TI):=[(2,⟨false,[.int .i64],[],8,false⟩),
 (3,⟨false,[.int .i64],[],8,false⟩),
 (4,⟨false,[.bool],[],1,false⟩),
 (5,⟨false,[.int .u8],[],1,false⟩),
 (6,⟨false,[.int .u8],[],1,false⟩),
 (7,⟨true,[.int .i64,.int .i64,.bool,.int .u8],[(0,2),(1,3),(2,4),(3,6)],24,false⟩),
 (8,⟨true,[.int .i64,.int .i64,.bool,.int .u8],[(0,2),(1,3),(2,4),(3,6)],24,false⟩),
 (9,⟨false,[.str],[],16,false⟩),
 (10,⟨false,[.str],[],16,false⟩),
 (11,⟨false,[.str],[],16,false⟩),
 (12,⟨false,[.int .u64],[],8,false⟩),
 (13,⟨true,[.str,.int .u64],[(0,9),(1,12)],24,false⟩),
 (14,⟨true,[.str,.int .u64],[(0,9),(1,12)],24,false⟩),
 (21,⟨false,[.int .i32],[],4,false⟩),
 (22,⟨false,[.slice 5],[],24,false⟩),
 (24,⟨false,[.slice 94],[],24,false⟩),
 (25,⟨false,[.slice 100],[],24,false⟩),
 (26,⟨false,[.slice 9],[],24,false⟩),
 (27,⟨true,[.slice 94,.slice 100,.slice 100,.slice 9,.int .i64,.int .i64],[(0,24),(1,25),(2,25),(3,26),(4,3),(5,3)],112,false⟩),
 (28,⟨true,[.slice 94,.slice 100,.slice 100,.slice 9,.int .i64,.int .i64],[(0,24),(1,25),(2,25),(3,26),(4,3),(5,3)],112,false⟩),
 (52,⟨false,[.slice 3],[],24,false⟩),
 (57,⟨true,[.int .i64,.int .i64,.int .i64,.int .i64],[(0,3),(1,3),(2,3),(3,3)],32,false⟩),
 (58,⟨true,[.int .i64,.int .i64,.int .i64,.int .i64],[(0,3),(1,3),(2,3),(3,3)],32,true⟩),
 (59,⟨true,[.bool,.int .i64,.int .i64,.int .i64,.int .i64,.slice 9,.slice 3,.int .i64,.bool],[(0,4),(1,58),(5,26),(6,52),(7,3),(8,4)],104,false⟩),
 (60,⟨true,[.bool,.int .i64,.int .i64,.int .i64,.int .i64,.slice 9,.slice 3,.int .i64,.bool],[(0,4),(1,58),(5,26),(6,52),(7,3),(8,4)],104,false⟩),
 (61,⟨true,[.int .i64,.str,.bool,.int .i64,.int .i64,.int .i64,.int .i64,.slice 9,.slice 3,.int .i64,.bool],[(0,3),(1,9),(2,60)],128,false⟩),
 (62,⟨true,[.int .i64,.str,.bool,.int .i64,.int .i64,.int .i64,.int .i64,.slice 9,.slice 3,.int .i64,.bool],[(0,3),(1,9),(2,60)],128,false⟩),
 (73,⟨true,[.slice 5,.int .i64,.int .i64],[(0,22),(1,3),(2,3)],40,false⟩),
 (74,⟨true,[.slice 5,.int .i64,.int .i64],[(0,22),(1,3),(2,3)],40,false⟩),
 (75,⟨false,[.slice 62],[],24,false⟩),
 (93,⟨true,[.int .i64,.str,.int .i64],[(0,3),(1,9),(2,3)],32,false⟩),
 (94,⟨true,[.int .i64,.str,.int .i64],[(0,3),(1,9),(2,3)],32,true⟩),
 (97,⟨false,[.int .u64],[],8,false⟩),
 (99,⟨true,[.str,.int .i64],[(0,9),(1,3)],24,false⟩),
 (100,⟨true,[.str,.int .i64],[(0,9),(1,3)],24,true⟩),
 (138,⟨false,[.slice 153],[],24,false⟩),
 (148,⟨false,[.int .u32],[],4,false⟩),
 (152,⟨true,[.int .i64,.int .i64],[(0,3),(1,3)],16,false⟩),
 (153,⟨true,[.int .i64,.int .i64],[(0,3),(1,3)],16,true⟩),
 (160,⟨false,[.int .u64],[],8,false⟩),
 (189,⟨false,[.int .u8],[],1,false⟩),
 (190,⟨false,[.int .u8],[],1,false⟩),
 (192,⟨false,[.int .i32],[],4,false⟩),
 (193,⟨false,[.int .i32],[],4,false⟩)]
def cBk:List (TypeId×Nat×TypeId):=[(159,24,5),(176,20,160),(177,65,5),(182,32,5),(183,64,5)]
def cFc : List (Nat × String) := [(0, "internal/strconv.uint64pow10"), (2, "math/bits.deBruijn32tab"), (3, "math/bits.deBruijn64tab")]
abbrev Laws:=List (FuncId×Sig×aCf)
def mkE (lv:List (Nat×List Nat)) (gs:Laws):Env:={Ty:=cE9 cC3,Γ:=fun g=>gs.lookup g,inl:=fun _=>none,lv:=fun h=>(lv.lookup h).getD [],ren:=true,fuel:=9223372036854775808,nt:=0,Arr:=fun t=>cBk.lookup t,gl:=cGn cFc}
abbrev pI:PTy:=.val false [.int .i64]
abbrev pU8:PTy:=.val false [.int .u8]
abbrev cEu:PTy:=.val false [.int .u32]
abbrev pS:PTy:=.val false [.str]
abbrev pB:PTy:=.val false [.bool]
abbrev rI:RTy:=⟨false,[(.int .i64,false)]⟩
abbrev rU8:RTy:=⟨false,[(.int .u8,false)]⟩
abbrev cEs:RTy:=⟨false,[(.int .u32,false)]⟩
abbrev rB:RTy:=⟨false,[(.bool,false)]⟩
abbrev rS:RTy:=⟨false,[(.str,false)]⟩
abbrev sg (ps:List PTy) (rs:List RTy):Sig:=⟨ps,rs,false⟩
abbrev aBf (n:Int):W:=.l (.i .i64 n)
abbrev aZu (s:List UInt8):W:=.l (.s s)
abbrev st0 (slots:List (Nat×W)):St:={slots,heap:=[],next:=0,pins:=[]}
abbrev st1 (slots:List (Nat×W)) (sz:Nat) (rows:List (List C)):St:={slots,heap:=[(0,.arr sz rows)],next:=1,pins:=[]}
theorem aVo:(cC3.all fun p=>tyB Tryz.prog p.1 p.2)=true:=by kernel_rfl
theorem aZ1:bXr Tryz.prog cC3 cBk=true:=by kernel_rfl
theorem bFw:glB Tryz.prog cFc=true:=by kernel_rfl
theorem aA8 {lv:List (Nat×List Nat)} {gs:Laws} (h:∀ p,p∈gs→aAx Tryz.prog p.1 p.2.1 p.2.2):aAa Tryz.prog (mkE lv gs) :=
 ⟨⟨(bOx aVo).1,fun g fn h=>(by cases h),fun t m e te h1 h2=>bOn aZ1 t m e te h1 h2,bWt bFw,fun t e h=>by cases h⟩,fun g sig spec hl=>h (g,sig,spec) (aG5 hl),fun g fn h=>(by cases h),by kernel_rfl⟩
def E0:Env:=mkE [] []
theorem cAx:aAa Tryz.prog E0:=aA8 (by simp)
end
noncomputable section
def aAp (ks:List K) (rows:List (List C)):Bool:=rows.all fun r=>aBm r ks
abbrev aIu (n:Int):List C:=[.int .i64 n]
def bV2 (r:List C):Int:=(r.getD 0 (.fn 0 [])).toInt
def aDo (rows:List (List C)):List Int:=rows.map bV2
abbrev aAt (s:List UInt8):List C:=[.str s]
def bV1 (r:List C):List UInt8:=(r.getD 0 (.fn 0 [])).toStr
def aCp (rows:List (List C)):List (List UInt8):=rows.map bV1
abbrev pSl (t:TypeId):PTy:=.val false [.slice t]
abbrev rSl (t:TypeId):RTy:=⟨false,[(.slice t,true)]⟩
end
theorem cCl {r:List C} (h:aBm r [.int .i64]=true):r=aIu (bV2 r):=by
 cases r with
 |nil=>simp[aBm]at h
 |cons c r =>
  cases r with
  |cons d r=>simp[aBm]at h
  |nil =>
   cases c with
   |int k n=>simp[aBm,C.is]at h;subst h;rfl
   |_=>simp[aBm,C.is]at h
theorem bV0 {r:List C} (h:aBm r [.str]=true):r=aAt (bV1 r):=by
 cases r with
 |nil=>simp[aBm]at h
 |cons c r =>
  cases r with
  |cons d r=>simp[aBm]at h
  |nil =>
   cases c with
   |str s=>rfl
   |_=>simp[aBm,C.is]at h
theorem aMx {rows:List (List C)} (h:aAp [.int .i64] rows=true):rows=(aDo rows).map aIu:=by
 simp only[aAp,List.all_eq_true]at h
 simp only[aDo,List.map_map]
 rw[List.map_congr_left (g:=id)]
 ·simp
 ·intro r hr;exact (cCl (h r hr)).symm
theorem aFq {rows:List (List C)} (h:aAp [.str] rows=true):rows=(aCp rows).map aAt:=by
 simp only[aAp,List.all_eq_true]at h
 simp only[aCp,List.map_map]
 rw[List.map_congr_left (g:=id)]
 ·simp
 ·intro r hr;exact (bV0 (h r hr)).symm
@[simp] theorem bPp (l:List Int):aDo (l.map aIu)=l:=by simp[aDo,bV2,Function.comp_def,C.toInt]
@[simp] theorem aId (l:List (List UInt8)):aCp (l.map aAt)=l:=by simp[aCp,bV1,Function.comp_def,C.toStr]
@[simp] theorem aXk (l:List Int):aAp [.int .i64] (l.map aIu)=true:=by simp[aAp,aBm,C.is]
@[simp] theorem aEy (l:List (List UInt8)):aAp [.str] (l.map aAt)=true:=by simp[aAp,aBm,C.is]
theorem bKb (l:List Int):((l.map aIu).all fun r=>r.all C.flat)=true:=by simp[C.flat]
theorem aHw (l:List (List UInt8)):((l.map aAt).all fun r=>r.all C.flat)=true:=by simp[C.flat]
theorem aBc {A:Type} (e:A→List C) (l:List A) (d:A) (i:Nat) (h:i<l.length):(l.map e).getD i []=e (l.getD i d):=by
 simp[List.getD_eq_getElem?_getD,h]
theorem cFe {E:Env} {e:TypeId} {x:C} (h:Fit E (.slice e) x):∃ rows,x=.sl rows∧∀ te,E.Ty e=some te→1≤te.bytes→rows.length≤140737488351232∧aAp te.leaves rows=true:=by
 cases h with
 |@sl _ te rows h1 h2 h3 h4 =>
  refine⟨rows,rfl,fun te' ht hb=>?_⟩
  rw[h1]at ht
  obtain rfl:=Option.some.inj ht
  refine⟨Nat.le_trans (Nat.le_mul_of_pos_right _ hb) h2,?_⟩
  simp only[aAp,List.all_eq_true]
  intro r hr
  exact aMh.kinds (E:=E) ⟨h3 r hr,fun j kd y hj hy=>h4 r hr j kd y hj hy⟩
theorem aI9 (l:List UInt8) (j:Nat):(l.getD j 0).toNat<256:=(l.getD j 0).toNat_lt
theorem aBx {A:Type} (l:List A) (i:Nat) (d:A) (hi:i<l.length):l.drop i=l.getD i d::l.drop (i+1):=by
 rw[List.drop_eq_getElem_cons hi];simp[List.getD_eq_getElem?_getD,hi]
theorem aH8 (l:List UInt8) (v:Nat) (h:v<256):(aAe l).append [[C.int .u8 (v:Int)]]=aAe (l++[UInt8.ofNat v]):=by
 have:=bEe (v:Int) (by omega) (by omega)
 rw[Int.toNat_natCast]at this
 rw[this,List.append_eq,aFr]
theorem aA5 {α:Type} {c:Bool} {n:T α} {o:Option α} (h:c=true) (e:n.eval=o):(T.must c n).eval=o:=by subst h;exact e
theorem aAg {α:Type} {c:Bool} {y n:T α} {o:Option α} (h:c=true) (e:y.eval=o):(T.ask c y n).eval=o:=by subst h;exact e
theorem aAi {α:Type} {c:Bool} {y n:T α} {o:Option α} (h:c=false) (e:n.eval=o):(T.ask c y n).eval=o:=by subst h;exact e
noncomputable section
def inB (n lo hi:Int):Bool:=decide (lo≤n)&&decide (n≤hi)
def aE4:aCf:=fun cs=>match cs with
 |[.int .i64 n,.int .i64 lo,.int .i64 hi]=>some (true,[.bool (inB n lo hi)])
 |_=>none
def cG1:Env:=mkE [] []
def cG2:Env:=mkE [] []
def aGl:aCf:=fun cs=>match cs with
 |[.int .i64 n]=>some (true,[.bool (inB n 1 2)])
 |_=>none
def aUz:Env:=mkE [] []
end
set_option maxRecDepth 100000
theorem bYz (H:List Pt→Nat→St→T (List C)) (n:Int) (a:Int) (b:Int):aAk cG1 aAc (sg [pI,pI,pI] [rB]) Tryz.f45 H [C.int .i64 n,C.int .i64 a,C.int .i64 b]=(.must true (.ask (decide (a≤n)) (.ask (decide (n≤b)) (.must true (.ret [C.bool true])) (.must true (.ret [C.bool false]))) (.must true (.ret [C.bool false])))):=by kernel_rfl
theorem cA2 (H:List Pt→Nat→St→T (List C)) (n:Int) (a:Int) (b:Int):aAk cG2 aAc (sg [pI,pI,pI] [rB]) Tryz.f37 H [C.int .i64 n,C.int .i64 a,C.int .i64 b]=(.must true (.ask (decide (a≤n)) (.ask (decide (n≤b)) (.must true (.ret [C.bool true])) (.must true (.ret [C.bool false]))) (.must true (.ret [C.bool false])))):=by kernel_rfl
theorem aYh (H:List Pt→Nat→St→T (List C)) (n:Int):aAk aUz aAc (sg [pI] [rB]) Tryz.f126 H [C.int .i64 n]=(.must true (.ask (decide (n=(1:Int))) (.must true (.ret [C.bool true])) (.ask (decide (n=(2:Int))) (.must true (.ret [C.bool true])) (.must true (.ret [C.bool false]))))):=by kernel_rfl
theorem cGc:aAa Tryz.prog cG1:=aA8 (by simp[])
theorem aDy:aAx Tryz.prog 45 (sg [pI,pI,pI] [rB]) aE4:=aA6 cGc aAb Tryz.func45 (by kernel_rfl) fun cs outs hk h=>by
 unfold aE4 at h
 split at h
 ·simp only[Option.some.injEq,Prod.mk.injEq,true_and]at h
  rw[←h,aAd,bYz]
  simp only[aA1,aA4,aA3,decide_eq_true_eq,if_true,inB]
  repeat' split
  all_goals first | rfl | (simp_all;done) | (simp_all;omega)
 ·cases h
theorem cGm:aAa Tryz.prog cG2:=aA8 (by simp[])
theorem aGm:aAx Tryz.prog 37 (sg [pI,pI,pI] [rB]) aE4:=aA6 cGm aAb Tryz.func37 (by kernel_rfl) fun cs outs hk h=>by
 unfold aE4 at h
 split at h
 ·simp only[Option.some.injEq,Prod.mk.injEq,true_and]at h
  rw[←h,aAd,cA2]
  simp only[aA1,aA4,aA3,decide_eq_true_eq,if_true,inB]
  repeat' split
  all_goals first | rfl | (simp_all;done) | (simp_all;omega)
 ·cases h
theorem bJw:aAa Tryz.prog aUz:=aA8 (by simp[])
theorem aI6:aAx Tryz.prog 126 (sg [pI] [rB]) aGl:=aA6 bJw aAb Tryz.func126 (by kernel_rfl) fun cs outs hk h=>by
 unfold aGl at h
 split at h
 ·simp only[Option.some.injEq,Prod.mk.injEq,true_and]at h
  rw[←h,aAd,aYh]
  simp only[aA1,aA4,aA3,decide_eq_true_eq,if_true,inB]
  repeat' split
  all_goals first | rfl | (simp_all;done) | (simp;omega)
 ·cases h
noncomputable section
def aL2 (n least most:Int):Int:=if most<least∨n<least then least else if n>most then most else n
def aQj:aCf:=fun cs=>match cs with
 |[.int .i64 n,.int .i64 least,.int .i64 most]=>some (true,[.int .i64 (aL2 n least most)])
 |_=>none
def bCt:Env:=mkE [] []
end
theorem bEd (H:List Pt→Nat→St→T (List C)) (n:Int) (a:Int) (b:Int):aAk bCt aAc (sg [pI,pI,pI] [rI]) Tryz.f36 H [C.int .i64 n,C.int .i64 a,C.int .i64 b]=(.must true (.ask (decide (b<a)) (.must true (.ret [C.int .i64 a])) (.ask (decide (n<a)) (.must true (.ret [C.int .i64 a])) (.ask (decide (b<n)) (.must true (.ret [C.int .i64 b])) (.must true (.ret [C.int .i64 n])))))):=by kernel_rfl
theorem bZy (x:Int):aHt .i64 x 1=x % 2:=by
 show IntKind.i64.wrap (((BitVec.ofInt 64 x&&&BitVec.ofInt 64 1).toNat:Nat):Int)=_
 rw[BitVec.toNat_and]
 have h1:(BitVec.ofInt 64 1).toNat=1:=by decide
 have h2:(BitVec.ofInt 64 x).toNat=(x % 18446744073709551616).toNat:=by simp[BitVec.toNat_ofInt]
 rw[h1,h2,Nat.and_one_is_mod,aAh]<;>omega
theorem bZw (x:Int):aKg .i64 x 1=x / 2:=by
 show x.fdiv (2^(min (Int.toNat 1) 64))=_
 rw[Int.fdiv_eq_ediv_of_nonneg]<;>simp
theorem bS0:aAa Tryz.prog bCt:=aA8 (by simp[])
theorem bAq:aAx Tryz.prog 36 (sg [pI,pI,pI] [rI]) aQj:=aA6 bS0 aAb Tryz.func36 (by kernel_rfl) fun cs outs hk h=>by
 unfold aQj at h
 split at h
 ·simp only[Option.some.injEq,Prod.mk.injEq,true_and]at h
  rw[←h,aAd,bEd]
  simp only[aA1,aA4,aA3,decide_eq_true_eq,if_true,aL2]
  repeat' split
  all_goals first | rfl | omega
 ·cases h
noncomputable section
end
noncomputable section
end
noncomputable section
def aQh (x:Nat):Nat:=if x % 2=1 then (x / 2) ^^^ 2197175160 else x / 2
def aM0:Nat→Nat→Nat
 |0,x=>x
 |n+1,x=>aM0 n (aQh x)
def aNn (s b:Nat):Nat:=aM0 8 (s ^^^ b)
def aKp (s:Int):Nat:=(s % 4294967296).toNat
def aNm (x:Nat) (t:List UInt8):Nat:=t.foldl (fun x c=>aNn x c.toNat) x
def aB6 (s:Nat) (t:List UInt8):Nat:=aNm (s ^^^ 4294967295) t ^^^ 4294967295
def aPv:aCf:=fun cs=>match cs with
 |[.int .i64 s,.int .i64 b]=>some (true,[.int .i64 (aNn (aKp s) (b % 256).toNat:Nat)])
 |_=>none
def aLg:aCf:=fun cs=>match cs with
 |[.int .u32 s,.int .u8 b]=>some (decide (0≤s∧s≤4294967295)&&decide (0≤b∧b≤255),[.int .u32 (aNn s.toNat b.toNat:Nat)])
 |_=>none
def aEx:aCf:=fun cs=>match cs with
 |[.int .i64 s,.str t]=>some (decide (t.length≤281474976710656),[.int .i64 (aB6 (aKp s) t:Nat)])
 |_=>none
def aEb:aCf:=fun cs=>match cs with
 |[.str t]=>some (decide (t.length≤281474976710656),[.int .i64 (aB6 0 t:Nat)])
 |_=>none
def aL4 (x i:Int):St:=st0 [(5,aBf x),(6,aBf i)]
def aI0 (x i:Int):St:=st0 [(0,.l (.i .u32 x)),(10,aBf i)]
def aOk (t:List UInt8) (x i:Int):St:=st0 [(1,aZu t),(5,aBf x),(6,aBf i)]
def aOq (t:List UInt8) (x n i:Int):St:=st0 [(1,aZu t),(5,.l (.i .u32 x)),(11,aBf n),(12,aBf i)]
def aOw:Env:=mkE [(3,[5,6])] []
def aK3:Env:=mkE [(3,[0,10])] []
def aOv:Env:=mkE [(3,[1,5,6])] [(124,(sg [pI,pI] [rI]),aPv)]
def aP4:Env:=mkE [(3,[1,5,11,12])] [(151,(sg [cEu,pU8] [cEs]),aLg)]
def bQf:Env:=mkE [] [(87,(sg [pI,pS] [rI]),aEx)]
def bQm:Env:=mkE [] [(121,(sg [pI,pS] [rI]),aEx)]
end
theorem bDj (H:List Pt→Nat→St→T (List C)) (s:Int) (b:Int):aAk aOw aAc (sg [pI,pI] [rI]) Tryz.f124 H [C.int .i64 s,C.int .i64 b]=(.must true (H [Pt.r,Pt.r,Pt.l,Pt.r,Pt.b] 9223372036854775808 (aL4 (aQn .i64 (aHt .i64 s 4294967295) (aHt .i64 b 255)) ((0:Int))))):=by kernel_rfl
theorem aY6 (H:List Pt→Nat→St→T (List C)) (s:Int) (b:Int):aAk aK3 aAc (sg [cEu,pU8] [cEs]) Tryz.f151 H [C.int .u32 s,C.int .u8 b]=(.must true (H [Pt.r,Pt.r,Pt.l,Pt.r,Pt.b] 9223372036854775808 (aI0 (aQn .u32 s (IntKind.u32.wrap b)) ((0:Int))))):=by kernel_rfl
theorem aWw (H:List Pt→Nat→St→T (List C)) (x:Int) (i:Int) (k:Nat):aBl aOw aAc (sg [pI,pI] [rI]) Tryz.f124 H [Pt.r,Pt.r,Pt.l,Pt.r,Pt.b] k (aL4 x i)=(.ask (decide (i<(8:Int))) (.ask (decide (aHt .i64 x 1=(1:Int))) (.must true (H [Pt.r,Pt.r,Pt.l,Pt.r,Pt.b] k (aL4 (aQn .i64 (aKg .i64 x 1) 2197175160) (IntKind.i64.wrap (i+(1:Int)))))) (.must true (H [Pt.r,Pt.r,Pt.l,Pt.r,Pt.b] k (aL4 (aKg .i64 x 1) (IntKind.i64.wrap (i+(1:Int))))))) (.must true (.ret [C.int .i64 x]))):=by kernel_rfl
theorem aTq (H:List Pt→Nat→St→T (List C)) (x:Int) (i:Int) (k:Nat):aBl aK3 aAc (sg [cEu,pU8] [cEs]) Tryz.f151 H [Pt.r,Pt.r,Pt.l,Pt.r,Pt.b] k (aI0 x i)=(.ask (decide (i<(8:Int))) (.ask (decide (aHt .u32 x 1=(1:Int))) (.must true (H [Pt.r,Pt.r,Pt.l,Pt.r,Pt.b] k (aI0 (aQn .u32 (aKg .u32 x 1) 2197175160) (IntKind.i64.wrap (i+(1:Int)))))) (.must true (H [Pt.r,Pt.r,Pt.l,Pt.r,Pt.b] k (aI0 (aKg .u32 x 1) (IntKind.i64.wrap (i+(1:Int))))))) (.must true (.ret [C.int .u32 x]))):=by kernel_rfl
theorem aWv (H:List Pt→Nat→St→T (List C)) (t:List UInt8) (x:Int) (i:Int) (k:Nat):aBl aOv aAc (sg [pI,pS] [rI]) Tryz.f87 H [Pt.r,Pt.r,Pt.l,Pt.r,Pt.b] k (aOk t x i)=(.ask (decide (i<(↑t.length:Int))) (.must (decide ((0:Int)≤i)&&decide (i<(↑t.length:Int))) (.must true (.must true (.must true (H [Pt.r,Pt.r,Pt.l,Pt.r,Pt.b] k (aOk (t) (Int.ofNat (aNn (aKp x) (IntKind.i64.wrap (↑(t.getD i.toNat (0:UInt8)).toNat:Int) % (256:Int)).toNat)) (IntKind.i64.wrap (i+(1:Int))))))))) (.must true (.ret [C.int .i64 (aQn .i64 x 4294967295)]))):=by kernel_rfl
theorem aY5 (H:List Pt→Nat→St→T (List C)) (t:List UInt8) (x:Int) (n:Int) (i:Int) (k:Nat):aBl aP4 aAc (sg [pI,pS] [rI]) Tryz.f121 H [Pt.r,Pt.r,Pt.l,Pt.r,Pt.b] k (aOq t x n i)=(.ask (decide (i<n)) (.must (decide ((0:Int)≤i)&&decide (i<(↑t.length:Int))) (.must true (.must (decide ((0:Int)≤x∧x≤(4294967295:Int))&&decide ((0:Int)≤(↑(t.getD i.toNat (0:UInt8)).toNat:Int)∧(↑(t.getD i.toNat (0:UInt8)).toNat:Int)≤(255:Int))) (.must true (H [Pt.r,Pt.r,Pt.l,Pt.r,Pt.b] k (aOq (t) (Int.ofNat (aNn x.toNat (↑(t.getD i.toNat (0:UInt8)).toNat:Int).toNat)) (n) (IntKind.i64.wrap (i+(1:Int))))))))) (.must true (.ret [C.int .i64 (IntKind.i64.wrap (aQn .u32 x 4294967295))]))):=by kernel_rfl
theorem bDh (H:List Pt→Nat→St→T (List C)) (s:Int) (t:List UInt8):aAk aOv aAc (sg [pI,pS] [rI]) Tryz.f87 H [C.int .i64 s,C.str t]=(.must true (H [Pt.r,Pt.r,Pt.l,Pt.r,Pt.b] 9223372036854775808 (aOk (t) (aQn .i64 (aHt .i64 s 4294967295) 4294967295) ((0:Int))))):=by kernel_rfl
theorem bF9 (H:List Pt→Nat→St→T (List C)) (s:Int) (t:List UInt8):aAk aP4 aAc (sg [pI,pS] [rI]) Tryz.f121 H [C.int .i64 s,C.str t]=(.must true (H [Pt.r,Pt.r,Pt.l,Pt.r,Pt.b] 9223372036854775808 (aOq (t) (aQn .u32 (IntKind.u32.wrap s) 4294967295) ((↑t.length:Int)) ((0:Int))))):=by kernel_rfl
theorem bM1 (H:List Pt→Nat→St→T (List C)) (t:List UInt8):aAk bQf aAc (sg [pS] [rI]) Tryz.f123 H [C.str t]=(.must true (.must true (.must (decide (t.length≤281474976710656)) (.must true (.must true (.ret [C.int .i64 (Int.ofNat (aB6 (aKp 0) t))])))))):=by kernel_rfl
theorem bNn (H:List Pt→Nat→St→T (List C)) (t:List UInt8):aAk bQm aAc (sg [pS] [rI]) Tryz.f129 H [C.str t]=(.must true (.must true (.must (decide (t.length≤281474976710656)) (.must true (.must true (.ret [C.int .i64 (Int.ofNat (aB6 (aKp 0) t))])))))):=by kernel_rfl
theorem cBd (s:Int):aHt .i64 s 4294967295=(aKp s:Int):=by
 show IntKind.i64.wrap (((BitVec.ofInt 64 s&&&BitVec.ofInt 64 4294967295).toNat:Nat):Int)=_
 rw[BitVec.toNat_and]
 have h1:(BitVec.ofInt 64 4294967295).toNat=2^32-1:=by decide
 have h2:(BitVec.ofInt 64 s).toNat=(s % 18446744073709551616).toNat:=by simp[BitVec.toNat_ofInt]
 rw[h1,h2,Nat.and_two_pow_sub_one_eq_mod]
 unfold aKp
 rw[aAh]<;>omega
theorem bWh (s:Int):aHt .i64 s 255=s % 256:=by
 show IntKind.i64.wrap (((BitVec.ofInt 64 s&&&BitVec.ofInt 64 255).toNat:Nat):Int)=_
 rw[BitVec.toNat_and]
 have h1:(BitVec.ofInt 64 255).toNat=2^8-1:=by decide
 have h2:(BitVec.ofInt 64 s).toNat=(s % 18446744073709551616).toNat:=by simp[BitVec.toNat_ofInt]
 rw[h1,h2,Nat.and_two_pow_sub_one_eq_mod,aAh]<;>omega
theorem aOb (a b:Nat) (ha:a<4294967296) (hb:b<4294967296):aQn .i64 (a:Int) (b:Int)=((a ^^^ b:Nat):Int):=by
 show IntKind.i64.wrap (((BitVec.ofInt 64 (a:Int) ^^^ BitVec.ofInt 64 (b:Int)).toNat:Nat):Int)=_
 rw[BitVec.toNat_xor]
 have h1:(BitVec.ofInt 64 (a:Int)).toNat=a:=by simp[BitVec.toNat_ofInt];omega
 have h2:(BitVec.ofInt 64 (b:Int)).toNat=b:=by simp[BitVec.toNat_ofInt];omega
 have h3:a ^^^ b<4294967296:=Nat.xor_lt_two_pow (n:=32) ha hb
 rw[h1,h2,aAh]<;>omega
theorem aOc (a b:Nat) (ha:a<4294967296) (hb:b<4294967296):aQn .u32 (a:Int) (b:Int)=((a ^^^ b:Nat):Int):=by
 show IntKind.u32.wrap (((BitVec.ofInt 32 (a:Int) ^^^ BitVec.ofInt 32 (b:Int)).toNat:Nat):Int)=_
 rw[BitVec.toNat_xor]
 have h1:(BitVec.ofInt 32 (a:Int)).toNat=a:=by simp[BitVec.toNat_ofInt];omega
 have h2:(BitVec.ofInt 32 (b:Int)).toNat=b:=by simp[BitVec.toNat_ofInt];omega
 have h3:a ^^^ b<4294967296:=Nat.xor_lt_two_pow (n:=32) ha hb
 rw[h1,h2,bLr]<;>omega
theorem bSt (x:Int):aHt .u32 x 1=x % 2:=by
 show IntKind.u32.wrap (((BitVec.ofInt 32 x&&&BitVec.ofInt 32 1).toNat:Nat):Int)=_
 rw[BitVec.toNat_and]
 have h1:(BitVec.ofInt 32 1).toNat=1:=by decide
 have h2:(BitVec.ofInt 32 x).toNat=(x % 4294967296).toNat:=by simp[BitVec.toNat_ofInt]
 rw[h1,h2,Nat.and_one_is_mod,bLr]<;>omega
theorem bSr (x:Int):aKg .u32 x 1=x / 2:=by
 show x.fdiv (2^(min (Int.toNat 1) 32))=_
 rw[Int.fdiv_eq_ediv_of_nonneg]<;>simp
theorem bLq (s:Int):IntKind.u32.wrap s=(aKp s:Int):=by
 unfold aKp
 simp only[IntKind.wrap,IntKind.bits,IntKind.signed]
 simp
 omega
theorem aO8 (s:Int):aKp s<4294967296:=by unfold aKp;omega
theorem aTz (x:Nat) (h:x<4294967296):aQh x<4294967296:=by
 unfold aQh
 split
 ·exact Nat.xor_lt_two_pow (n:=32) (by omega) (by omega)
 ·omega
theorem bCc:∀ (n x:Nat),x<4294967296→aM0 n x<4294967296
 |0,x,h=>h
 |n+1,x,h=>bCc n _ (aTz x h)
theorem aU0 (s b:Nat) (hs:s<4294967296) (hb:b<256):aNn s b<4294967296 :=
 bCc 8 _ (Nat.xor_lt_two_pow (n:=32) hs (by omega))
theorem bCd:∀ (t:List UInt8) (x:Nat),x<4294967296→aNm x t<4294967296
 |[],x,h=>h
 |c::t,x,h=>bCd t _ (aU0 x c.toNat h c.toNat_lt)
theorem aEn (s:Nat) (t:List UInt8) (hs:s<4294967296):aB6 s t<4294967296 :=
 Nat.xor_lt_two_pow (n:=32) (bCd t _ (Nat.xor_lt_two_pow (n:=32) hs (by omega))) (by omega)
theorem bDk:∀ (n i x:Nat),x<4294967296→i≤8→8<i+n →
  (aBr aOw aAc (sg [pI,pI] [rI]) Tryz.f124 [.r,.r,.l,.r,.b] n (aL4 x i)).eval=some [.int .i64 (aM0 (8-i) x:Nat)]:=by
 intro n
 induction n with
 |zero=>intro i x hx h1 h2;omega
 |succ n ih =>
  intro i x hx h1 h2
  rw[aAv _ _ _ _ _ _ _ (by kernel_rfl),aWw]
  by_cases hi:i<8
  ·have e:=ih (i+1) (aQh x) (aTz x hx) (by omega) (by omega)
   have hs:8-i=(8-(i+1))+1:=by omega
   have w:IntKind.i64.wrap ((i:Int)+1)=((i+1:Nat):Int):=by rw[aAh]<;>omega
   have hi':(i:Int)<8:=by omega
   have d:(x:Int) / 2=((x / 2:Nat):Int):=by omega
   have m:(x:Int) % 2=((x % 2:Nat):Int):=by omega
   have hx2:aQn .i64 ((x / 2:Nat):Int) 2197175160=((x / 2 ^^^ 2197175160:Nat):Int):=aOb (x / 2) 2197175160 (by omega) (by omega)
   rw[hs]
   simp only[aM0]
   rw[←e]
   simp only[aA1,aA4,aA3,if_true,decide_eq_true_eq,w,hi',bZy,bZw,d,m,hx2]
   unfold aQh
   by_cases ho:x % 2=1
   ·simp[ho]
   ·simp only[ho,if_false];rw[if_neg (by omega)]
  ·have:i=8:=by omega
   subst this
   simp[aA1,aA4,aA3,aM0]
theorem bR8:aAa Tryz.prog aOw:=aA8 (by simp[])
theorem bA1:aAx Tryz.prog 124 (sg [pI,pI] [rI]) aPv:=aA6 bR8 aAb Tryz.func124 (by kernel_rfl) fun cs outs hk h=>by
 unfold aPv at h
 split at h
 ·simp only[Option.some.injEq,Prod.mk.injEq,true_and]at h
  rename_i s b
  rw[←h,aAd,bDj]
  have e:b % 256=((b % 256).toNat:Int):=by omega
  have hb:(b % 256).toNat<256:=by omega
  simp only[aA1,if_true,cBd,bWh]
  rw[e,aOb _ _ (aO8 s) (by omega)]
  exact bDk _ 0 _ (Nat.xor_lt_two_pow (n:=32) (aO8 s) (by omega)) (by omega) (by omega)
 ·cases h
theorem aY7:∀ (n i x:Nat),x<4294967296→i≤8→8<i+n →
  (aBr aK3 aAc (sg [cEu,pU8] [cEs]) Tryz.f151 [.r,.r,.l,.r,.b] n (aI0 x i)).eval=some [.int .u32 (aM0 (8-i) x:Nat)]:=by
 intro n
 induction n with
 |zero=>intro i x hx h1 h2;omega
 |succ n ih =>
  intro i x hx h1 h2
  rw[aAv _ _ _ _ _ _ _ (by kernel_rfl),aTq]
  by_cases hi:i<8
  ·have e:=ih (i+1) (aQh x) (aTz x hx) (by omega) (by omega)
   have hs:8-i=(8-(i+1))+1:=by omega
   have w:IntKind.i64.wrap ((i:Int)+1)=((i+1:Nat):Int):=by rw[aAh]<;>omega
   have hi':(i:Int)<8:=by omega
   have d:(x:Int) / 2=((x / 2:Nat):Int):=by omega
   have m:(x:Int) % 2=((x % 2:Nat):Int):=by omega
   have hx2:aQn .u32 ((x / 2:Nat):Int) 2197175160=((x / 2 ^^^ 2197175160:Nat):Int):=aOc (x / 2) 2197175160 (by omega) (by omega)
   rw[hs]
   simp only[aM0]
   rw[←e]
   simp only[aA1,aA4,aA3,if_true,decide_eq_true_eq,w,hi',bSt,bSr,d,m,hx2]
   unfold aQh
   by_cases ho:x % 2=1
   ·simp[ho]
   ·simp only[ho,if_false];rw[if_neg (by omega)]
  ·have:i=8:=by omega
   subst this
   simp[aA1,aA4,aA3,aM0]
theorem bJq:aAa Tryz.prog aK3:=aA8 (by simp[])
theorem aVe:aAx Tryz.prog 151 (sg [cEu,pU8] [cEs]) aLg:=aA6 bJq aAb Tryz.func151 (by kernel_rfl) fun cs outs hk h=>by
 unfold aLg at h
 split at h
 ·simp only[Option.some.injEq,Prod.mk.injEq,Bool.and_eq_true,decide_eq_true_eq]at h
  obtain⟨⟨⟨h1,h2⟩,h3,h4⟩,rfl⟩:=h
  rename_i s b
  obtain⟨s,rfl⟩:=Int.eq_ofNat_of_zero_le h1
  obtain⟨b,rfl⟩:=Int.eq_ofNat_of_zero_le h3
  rw[aAd,aY6]
  simp only[aA1,if_true,Int.toNat_natCast]
  rw[bLr (by omega) (by omega),aOc _ _ (by omega) (by omega)]
  exact aY7 _ 0 _ (Nat.xor_lt_two_pow (n:=32) (by omega) (by omega)) (by omega) (by omega)
 ·cases h
theorem aS4 (t:List UInt8) (i:Nat) (h:i<t.length):t.drop i=t.getD i 0::t.drop (i+1):=by
 rw[List.drop_eq_getElem_cons h];simp[List.getD_eq_getElem?_getD,h]
theorem bDi (t:List UInt8) (ht:t.length≤281474976710656):∀ (n i x:Nat),x<4294967296→i≤t.length→t.length<i+n →
  (aBr aOv aAc (sg [pI,pS] [rI]) Tryz.f87 [.r,.r,.l,.r,.b] n (aOk t x i)).eval=some [.int .i64 (aNm x (t.drop i) ^^^ 4294967295:Nat)]:=by
 intro n
 induction n with
 |zero=>intro i x hx h1 h2;omega
 |succ n ih =>
  intro i x hx h1 h2
  rw[aAv _ _ _ _ _ _ _ (by kernel_rfl),aWv]
  by_cases hi:i<t.length
  ·have hb:=aI9 t i
   have e:=ih (i+1) (aNn x (t.getD i 0).toNat) (aU0 _ _ hx hb) (by omega) (by omega)
   have w:IntKind.i64.wrap ((i:Int)+1)=((i+1:Nat):Int):=by rw[aAh]<;>omega
   have hz:(0:Int)≤i:=by omega
   have w2:IntKind.i64.wrap ((t.getD i 0).toNat:Int)=((t.getD i 0).toNat:Int):=by rw[aAh]<;>omega
   have l1:aKp (x:Int)=x:=by unfold aKp;omega
   have l2:(((t.getD i 0).toNat:Int) % 256).toNat=(t.getD i 0).toNat:=by omega
   rw[aS4 t i hi]
   simp only[aNm,List.foldl_cons]at e ⊢
   simp only[aA1,aA4,aA3,if_true,decide_eq_true_eq,Bool.and_eq_true,w,hz,Int.toNat_natCast,Int.ofNat_lt,hi,and_self,w2,l1,l2]
   exact e
  ·have:i=t.length:=by omega
   subst this
   have hx2:aQn .i64 (x:Int) 4294967295=((x ^^^ 4294967295:Nat):Int):=aOb x 4294967295 hx (by omega)
   simp[aA1,aA4,aA3,aNm,hx2]
theorem bR7:aAa Tryz.prog aOv:=aA8 (by simp[bA1])
theorem aPb:aAx Tryz.prog 87 (sg [pI,pS] [rI]) aEx:=aA6 bR7 aAb Tryz.func87 (by kernel_rfl) fun cs outs hk h=>by
 unfold aEx at h
 split at h
 ·simp only[Option.some.injEq,Prod.mk.injEq,decide_eq_true_eq]at h
  obtain⟨h1,rfl⟩:=h
  rename_i s t
  rw[aAd,bDh]
  have hx2:aQn .i64 (aKp s:Int) 4294967295=((aKp s ^^^ 4294967295:Nat):Int):=aOb _ 4294967295 (aO8 s) (by omega)
  simp only[aA1,if_true,cBd,hx2]
  exact bDi t h1 _ 0 _ (Nat.xor_lt_two_pow (n:=32) (aO8 s) (by omega)) (by omega) (by omega)
 ·cases h
theorem bFa (t:List UInt8) (ht:t.length≤281474976710656):∀ (n i x:Nat),x<4294967296→i≤t.length→t.length<i+n →
  (aBr aP4 aAc (sg [pI,pS] [rI]) Tryz.f121 [.r,.r,.l,.r,.b] n (aOq t x t.length i)).eval=some [.int .i64 (aNm x (t.drop i) ^^^ 4294967295:Nat)]:=by
 intro n
 induction n with
 |zero=>intro i x hx h1 h2;omega
 |succ n ih =>
  intro i x hx h1 h2
  rw[aAv _ _ _ _ _ _ _ (by kernel_rfl),aY5]
  by_cases hi:i<t.length
  ·have hb:=aI9 t i
   have e:=ih (i+1) (aNn x (t.getD i 0).toNat) (aU0 _ _ hx hb) (by omega) (by omega)
   have w:IntKind.i64.wrap ((i:Int)+1)=((i+1:Nat):Int):=by rw[aAh]<;>omega
   have hz:(0:Int)≤i:=by omega
   have hx1:(0:Int)≤x:=by omega
   have hx2:(x:Int)≤4294967295:=by omega
   have hb1:(0:Int)≤((t.getD i 0).toNat:Int):=by omega
   have hb2:((t.getD i 0).toNat:Int)≤255:=by omega
   rw[aS4 t i hi]
   simp only[aNm,List.foldl_cons]at e ⊢
   simp only[aA1,aA4,aA3,if_true,decide_eq_true_eq,Bool.and_eq_true,w,hz,Int.toNat_natCast,Int.ofNat_lt,hi,and_self,hx1,hx2,hb1,hb2]
   exact e
  ·have:i=t.length:=by omega
   subst this
   have hx2:aQn .u32 (x:Int) 4294967295=((x ^^^ 4294967295:Nat):Int):=aOc x 4294967295 hx (by omega)
   have hl:x ^^^ 4294967295<4294967296:=Nat.xor_lt_two_pow (n:=32) hx (by omega)
   have w:IntKind.i64.wrap ((x ^^^ 4294967295:Nat):Int)=((x ^^^ 4294967295:Nat):Int):=by rw[aAh]<;>omega
   simp[aA1,aA4,aA3,aNm,hx2,w]
theorem bSw:aAa Tryz.prog aP4:=aA8 (by simp[aVe])
theorem aPk:aAx Tryz.prog 121 (sg [pI,pS] [rI]) aEx:=aA6 bSw aAb Tryz.func121 (by kernel_rfl) fun cs outs hk h=>by
 unfold aEx at h
 split at h
 ·simp only[Option.some.injEq,Prod.mk.injEq,decide_eq_true_eq]at h
  obtain⟨h1,rfl⟩:=h
  rename_i s t
  rw[aAd,bF9]
  have hx2:aQn .u32 (aKp s:Int) 4294967295=((aKp s ^^^ 4294967295:Nat):Int):=aOc _ 4294967295 (aO8 s) (by omega)
  simp only[aA1,if_true,bLq,hx2]
  exact bFa t h1 _ 0 _ (Nat.xor_lt_two_pow (n:=32) (aO8 s) (by omega)) (by omega) (by omega)
 ·cases h
theorem bYv:aAa Tryz.prog bQf:=aA8 (by simp[aPb])
theorem aJj:aAx Tryz.prog 123 (sg [pS] [rI]) aEb:=aA6 bYv aAb Tryz.func123 (by kernel_rfl) fun cs outs hk h=>by
 unfold aEb at h
 split at h
 ·simp only[Option.some.injEq,Prod.mk.injEq,decide_eq_true_eq]at h
  obtain⟨h1,rfl⟩:=h
  rw[aAd,bM1]
  simp[aA1,aA3,h1]
  rfl
 ·cases h
theorem bZz:aAa Tryz.prog bQm:=aA8 (by simp[aPk])
theorem aJr:aAx Tryz.prog 129 (sg [pS] [rI]) aEb:=aA6 bZz aAb Tryz.func129 (by kernel_rfl) fun cs outs hk h=>by
 unfold aEb at h
 split at h
 ·simp only[Option.some.injEq,Prod.mk.injEq,decide_eq_true_eq]at h
  obtain⟨h1,rfl⟩:=h
  rw[aAd,bNn]
  simp[aA1,aA3,h1]
  rfl
 ·cases h
noncomputable section
def aFk (h:Int):Int:=IntKind.i64.wrap (IntKind.i64.wrap (h*6364136223846793005)+1442695040888963407)
def cGp (h:Int):Int:=aHt .i64 (aQn .i64 (aKg .i64 (aFk h) 33) (aKg .i64 (aFk h) 45)) 255
def bEf (r:List C):Int:=(r.getD 0 (.fn 0 [])).toInt
def aBq (rows:List (List C)) (i h:Int):Int:=if i<rows.length then aHt .i64 (IntKind.i64.wrap (cGp h+IntKind.i64.wrap (bEf (rows.getD i.toNat [])))) 255 else cGp h
def aEo (rows:List (List C)) (i:Int):Int:=if i<rows.length then i+1 else i
def aAs (rows:List (List C)) (i:Int):Bool:=aAp [.int .u8] rows&&(decide (rows.length≤1048576)&&(decide (0≤i)&&decide (i≤rows.length)))
def aDa:PTy:=.box [.slice 5,.int .i64,.int .i64]
def aVy:aCf:=fun cs=>match cs with
 |[.sl rows,.int .i64 i,.int .i64 h]=>some (aAs rows i,[.int .i64 (aBq rows i h),.sl rows,.int .i64 (aEo rows i),.int .i64 (aFk h)])
 |_=>none
def bY4:Env:=mkE [] []
def aAm (rows:List (List C)) (i h n:Int):Int :=
 if n≤0 then 0 else if n≤256 then (aBq rows i h).tmod n
 else (aBq rows i h*16777216+aBq rows (aEo rows i) (aFk h)*65536+aBq rows (aEo rows (aEo rows i)) (aFk (aFk h))*256+aBq rows (aEo rows (aEo rows (aEo rows i))) (aFk (aFk (aFk h)))).tmod n
def aA0 (rows:List (List C)) (i n:Int):Int:=if n≤0 then i else if n≤256 then aEo rows i else aEo rows (aEo rows (aEo rows (aEo rows i)))
def aA2 (h n:Int):Int:=if n≤0 then h else if n≤256 then aFk h else aFk (aFk (aFk (aFk h)))
def aEh:aCf:=fun cs=>match cs with
 |[.sl rows,.int .i64 i,.int .i64 h,.int .i64 n]=>some (aAs rows i,[.int .i64 (aAm rows i h n),.sl rows,.int .i64 (aA0 rows i n),.int .i64 (aA2 h n)])
 |_=>none
def aLn:aCf:=fun cs=>match cs with
 |[.sl rows,.int .i64 i,.int .i64 h,.int .i64 n]=>some (aAs rows i,[.bool (decide (aAm rows i h n=0)),.sl rows,.int .i64 (aA0 rows i n),.int .i64 (aA2 h n)])
 |_=>none
def bQi:Env:=mkE [] [(59,(⟨[aDa],[rI],true⟩),aVy)]
def bXy:Env:=mkE [] [(46,(⟨[aDa,pI],[rI],true⟩),aEh)]
def aLm:aCf:=fun cs=>match cs with
 |[.sl rows,.int .i64 i,.int .i64 h,.sl l]=>some (aAs rows i&&(aAp [.int .i64] l&&(decide (0<l.length)&&decide (l.length≤1048576))),[.int .i64 ((aDo l).getD (aAm rows i h l.length).toNat 0),.sl rows,.int .i64 (aA0 rows i l.length),.int .i64 (aA2 h l.length)])
 |_=>none
def bCo:Env:=mkE [] [(46,(⟨[aDa,pI],[rI],true⟩),aEh)]
def aYk:Nat→Int→List (List C)→Int
 |0,h,_=>h
 |_+1,h,[]=>h
 |f+1,h,r::rows=>aYk f (aHt .i64 (IntKind.i64.wrap (IntKind.i64.wrap (IntKind.i64.wrap (h*131)+IntKind.i64.wrap (bEf r))+7)) 1073741823) rows
def cCz (rows:List (List C)):Int:=aYk 4000 (94701+rows.length) rows
def bCp:Env:=mkE [(3,[0,3,4])] []
def bQc (r:List (List C)) (h i:Int) (hp:List (Nat×Blk)) (nx:Nat) (pn:List Nat):St:={slots:=[(0,.l (.sl r)),(3,aBf h),(4,aBf i)],heap:=hp,next:=nx,pins:=pn}
def cAg:FuncId→List W→St→Option (Bool×W×St):=fun g ws σ=>match ws with
 |[.l (.sl rows)]=>if g=28 then some (aAs rows 0,.l (.ptr σ.next 0),{σ with heap:=(σ.next,.box [.sl rows,.i .i64 0,.i .i64 (cCz rows)])::σ.heap,next:=σ.next+1})else none
 |_=>none
def bOg:FuncId→Option Func:=fun g=>if g=28 then some Tryz.f28 else none
def mkD (lv:List (Nat×List Nat)) (gs:Laws):Env:={mkE lv gs with inl:=bOg}
def aE1 (rows:List (List C)):Nat→Int→Int→List UInt8
 |0,_,_=>[]
 |m+1,i,h=>UInt8.ofNat (aBq rows i h).toNat::aE1 rows m (aEo rows i) (aFk h)
def aQy (rows:List (List C)):Nat→Int→Int
 |0,i=>i
 |m+1,i=>aQy rows m (aEo rows i)
def aT2:Nat→Int→Int
 |0,h=>h
 |m+1,h=>aT2 m (aFk h)
def aEw (n:Int):Nat:=(if n>5000 then 5000 else n).toNat
def aQw:aCf:=fun cs=>match cs with
 |[.sl rows,.int .i64 i,.int .i64 h,.int .i64 n]=>some (aAs rows i,[.str (aE1 rows (aEw n) i h),.sl rows,.int .i64 (aQy rows (aEw n) i),.int .i64 (aT2 (aEw n) h)])
 |_=>none
def aZc (r:List (List C)) (i h n:Int) (m:Nat) (o:List (List C)) (k:Int):St:={slots:=[(0,.l (.ptr 0 0)),(1,aBf n),(5,.l (.ref 1 0 m)),(6,aBf k)],heap:=[(0,.box [.sl r,.i .i64 i,.i .i64 h]),(1,.arr 1 o)],next:=2,pins:=[0]}
def bGm:Env:=mkE [(5,[0,1,5,6])] [(59,(⟨[aDa],[rI],true⟩),aVy)]
end
theorem bRz (H:List Pt→Nat→St→T (List C)) (r:List (List C)) (i:Int) (h:Int):aAk bY4 aAc {params:=[aDa],results:=[rI],nested:=true} Tryz.f59 H [C.sl r,C.int .i64 i,C.int .i64 h]=(.must true (.must true (.must true (.ask (decide (i<(↑r.length:Int))) (.must (decide ((0:Int)≤i)&&decide (i<(↑r.length:Int))&&decide ((r.getD i.toNat []).length=1)) (.must (decide (0<(r.getD i.toNat []).length)&&C.is (K.int .u8) ((r.getD i.toNat []).getD 0 (C.fn 0 []))&&true) (.must true (.ret [C.int .i64 (aHt .i64 (IntKind.i64.wrap (aHt .i64 (aQn .i64 (aKg .i64 (IntKind.i64.wrap (IntKind.i64.wrap (h*(6364136223846793005:Int))+(1442695040888963407:Int))) (33:Int)) (aKg .i64 (IntKind.i64.wrap (IntKind.i64.wrap (h*(6364136223846793005:Int))+(1442695040888963407:Int))) (45:Int))) (255:Int)+IntKind.i64.wrap ((r.getD i.toNat []).getD 0 (C.fn 0 [])).toInt)) (255:Int)),C.sl r,C.int .i64 (IntKind.i64.wrap (i+(1:Int))),C.int .i64 (IntKind.i64.wrap (IntKind.i64.wrap (h*(6364136223846793005:Int))+(1442695040888963407:Int)))])))) (.must true (.ret [C.int .i64 (aHt .i64 (aQn .i64 (aKg .i64 (IntKind.i64.wrap (IntKind.i64.wrap (h*(6364136223846793005:Int))+(1442695040888963407:Int))) (33:Int)) (aKg .i64 (IntKind.i64.wrap (IntKind.i64.wrap (h*(6364136223846793005:Int))+(1442695040888963407:Int))) (45:Int))) (255:Int)),C.sl r,C.int .i64 i,C.int .i64 (IntKind.i64.wrap (IntKind.i64.wrap (h*(6364136223846793005:Int))+(1442695040888963407:Int)))])))))):=by kernel_rfl
theorem bMt (H:List Pt→Nat→St→T (List C)) (r:List (List C)) (i:Int) (h:Int) (n:Int):aAk bQi aAc {params:=[aDa,pI],results:=[rI],nested:=true} Tryz.f46 H [C.sl r,C.int .i64 i,C.int .i64 h,C.int .i64 n]=(.must true (.ask (decide (n≤(0:Int))) (.must true (.ret [C.int .i64 0,C.sl r,C.int .i64 i,C.int .i64 h])) (.ask (decide (n≤(256:Int))) (.must true (.must (aAs r i) (.must true (.must (decide ¬n=(0:Int)) (.must true (.ret [C.int .i64 ((aBq r i h).tmod n),C.sl r,C.int .i64 (aEo r i),C.int .i64 (aFk h)])))))) (.must true (.must (aAs r i) (.must true (.must true (.must (aAs r (aEo r i)) (.must true (.must true (.must (aAs r (aEo r (aEo r i))) (.must true (.must true (.must (aAs r (aEo r (aEo r (aEo r i)))) (.must true (.must (decide ¬n=(0:Int)) (.must true (.ret [C.int .i64 ((IntKind.i64.wrap (IntKind.i64.wrap (IntKind.i64.wrap (IntKind.i64.wrap (aBq r i h*(16777216:Int))+IntKind.i64.wrap (aBq r (aEo r i) (aFk h)*(65536:Int)))+IntKind.i64.wrap (aBq r (aEo r (aEo r i)) (aFk (aFk h))*(256:Int)))+aBq r (aEo r (aEo r (aEo r i))) (aFk (aFk (aFk h))))).tmod n),C.sl r,C.int .i64 (aEo r (aEo r (aEo r (aEo r i)))),C.int .i64 (aFk (aFk (aFk (aFk h))))])))))))))))))))))):=by kernel_rfl
theorem bRm (H:List Pt→Nat→St→T (List C)) (r:List (List C)) (i:Int) (h:Int) (n:Int):aAk bXy aAc {params:=[aDa,pI],results:=[rB],nested:=true} Tryz.f56 H [C.sl r,C.int .i64 i,C.int .i64 h,C.int .i64 n]=(.must true (.must true (.must (aAs r i) (.must true (.ask (decide (aAm r i h n=(0:Int))) (.must true (.ret [C.bool true,C.sl r,C.int .i64 (aA0 r i n),C.int .i64 (aA2 h n)])) (.must true (.ret [C.bool false,C.sl r,C.int .i64 (aA0 r i n),C.int .i64 (aA2 h n)]))))))):=by kernel_rfl
theorem bDw (H:List Pt→Nat→St→T (List C)) (r:List (List C)) (i:Int) (h:Int) (l:List (List C)):aAk bCo aAc {params:=[aDa,pSl 3],results:=[rI],nested:=true} Tryz.f42 H [C.sl r,C.int .i64 i,C.int .i64 h,C.sl l]=(.must true (.must true (.must (aAs r i) (.must true (.must (decide ((0:Int)≤aAm r i h (↑l.length:Int))&&decide (aAm r i h (↑l.length:Int)<(↑l.length:Int))&&decide ((l.getD (aAm r i h (↑l.length:Int)).toNat []).length=1)) (.must (decide (0<(l.getD (aAm r i h (↑l.length:Int)).toNat []).length)&&C.is (K.int .i64) ((l.getD (aAm r i h (↑l.length:Int)).toNat []).getD 0 (C.fn 0 []))&&true) (.must true (.ret [C.int .i64 ((l.getD (aAm r i h (↑l.length:Int)).toNat []).getD 0 (C.fn 0 [])).toInt,C.sl r,C.int .i64 (aA0 r i (↑l.length:Int)),C.int .i64 (aA2 h (↑l.length:Int))])))))))):=by kernel_rfl
theorem bUg (H:List Pt→Nat→St→T (W×St)) (r:List (List C)) (hp:List (Nat×Blk)) (nx:Nat) (pn:List Nat) (sl:List (Nat×W)):cG4 bCp aAc Tryz.f28 H [W.l (L.sl r)] {slots:=sl,heap:=hp,next:=nx,pins:=pn}=(H [Pt.r,Pt.r,Pt.l,Pt.r,Pt.b] 9223372036854775808 (bQc (r) (IntKind.i64.wrap ((94701:Int)+(↑r.length:Int))) ((0:Int)) (hp) (nx) (pn))):=by kernel_rfl
theorem bMe (H:List Pt→Nat→St→T (W×St)) (r:List (List C)) (h:Int) (i:Int) (hp:List (Nat×Blk)) (nx:Nat) (pn:List Nat) (sl:List (Nat×W)) (k:Nat):aVm bCp aAc Tryz.f28 {slots:=sl,heap:=hp,next:=nx,pins:=pn} H [Pt.r,Pt.r,Pt.l,Pt.r,Pt.b] k (bQc r h i hp nx pn)=(.ask (decide (i<(↑r.length:Int))) (.ask (decide (i<(4000:Int))) (.must (decide ((0:Int)≤i)&&decide (i<(↑r.length:Int))&&decide ((r.getD i.toNat []).length=1)) (.must (decide (0<(r.getD i.toNat []).length)&&C.is (K.int .u8) ((r.getD i.toNat []).getD 0 (C.fn 0 []))&&true) (H [Pt.r,Pt.r,Pt.l,Pt.r,Pt.b] k (bQc (r) (aHt .i64 (IntKind.i64.wrap (IntKind.i64.wrap (IntKind.i64.wrap (h*(131:Int))+IntKind.i64.wrap ((r.getD i.toNat []).getD 0 (C.fn 0 [])).toInt)+(7:Int))) (1073741823:Int)) (IntKind.i64.wrap (i+(1:Int))) (hp) (nx) (pn))))) (.ret (W.l (L.ptr nx 0),{slots:=[(2,W.l (L.ptr nx 0)),(31,W.l (L.ptr nx 0)),(30,W.agg [L.sl r,L.i .i64 0,L.i .i64 h]),(29,W.l (L.i .i64 h)),(28,W.l (L.sl r)),(15,W.l (L.b false)),(14,W.l (L.b false)),(13,W.l (L.i .i64 i)),(12,W.l (L.b true)),(11,W.l (L.b true)),(10,W.l (L.i .i64 (↑r.length:Int))),(9,W.l (L.sl r)),(8,W.l (L.i .i64 i)),(0,W.l (L.sl r)),(3,W.l (L.i .i64 h)),(4,W.l (L.i .i64 i))],heap:=(nx,Blk.box [L.sl r,L.i .i64 0,L.i .i64 h])::hp,next:=nx+1,pins:=pn}))) (.ret (W.l (L.ptr nx 0),{slots:=[(2,W.l (L.ptr nx 0)),(31,W.l (L.ptr nx 0)),(30,W.agg [L.sl r,L.i .i64 0,L.i .i64 h]),(29,W.l (L.i .i64 h)),(28,W.l (L.sl r)),(15,W.l (L.b false)),(14,W.l L.und),(13,W.l L.und),(12,W.l (L.b false)),(11,W.l (L.b false)),(10,W.l (L.i .i64 (↑r.length:Int))),(9,W.l (L.sl r)),(8,W.l (L.i .i64 i)),(0,W.l (L.sl r)),(3,W.l (L.i .i64 h)),(4,W.l (L.i .i64 i))],heap:=(nx,Blk.box [L.sl r,L.i .i64 0,L.i .i64 h])::hp,next:=nx+1,pins:=pn}))):=by kernel_rfl
theorem bR4 (H:List Pt→Nat→St→T (List C)) (r:List (List C)) (i:Int) (h:Int) (n:Int):aAk bGm aAc {params:=[aDa,pI],results:=[rS],nested:=true} Tryz.f47 H [C.sl r,C.int .i64 i,C.int .i64 h,C.int .i64 n]=(.must true (.ask (decide ((5000:Int)<n)) (H [Pt.r,Pt.r,Pt.r,Pt.l,Pt.r,Pt.b] 9223372036854775808 (aZc (r) (i) (h) ((5000:Int)) (0) ([]) ((0:Int)))) (H [Pt.r,Pt.r,Pt.r,Pt.l,Pt.r,Pt.b] 9223372036854775808 (aZc (r) (i) (h) (n) (0) ([]) ((0:Int)))))):=by kernel_rfl
theorem aMs (H:List Pt→Nat→St→T (List C)) (r:List (List C)) (i:Int) (h:Int) (n:Int) (q:Nat) (o:List (List C)) (j:Int) (k:Nat):aBl bGm aAc {params:=[aDa,pI],results:=[rS],nested:=true} Tryz.f47 H [Pt.r,Pt.r,Pt.r,Pt.l,Pt.r,Pt.b] k (aZc r i h n q o j)=(.ask (decide (j<n)) (.must true (.must (aAs r i) (.must true (.must (decide (q=o.length)&&aBj (o.length+1) 1&&(decide (1=1)&&true)) (H [Pt.r,Pt.r,Pt.r,Pt.l,Pt.r,Pt.b] k (aZc (r) (aEo r i) (aFk h) (n) (o.length+1) (o.append [[C.int .u8 (IntKind.u8.wrap (aBq r i h))]]) (IntKind.i64.wrap (j+(1:Int))))))))) (.must ((List.take q o).all aGw) (.must true (.ret [C.str (aC0 (List.take q o)),C.sl r,C.int .i64 i,C.int .i64 h])))):=by kernel_rfl
theorem cB3 {r:List C} (h:aBm r [.int .u8]=true):r=[C.int .u8 (bEf r)]:=by
 cases r with
 |nil=>simp[aBm]at h
 |cons c r =>
  cases r with
  |cons d r=>simp[aBm]at h
  |nil =>
   cases c with
   |int k n=>simp[aBm,C.is]at h;subst h;rfl
   |_=>simp[aBm,C.is]at h
theorem bIp {ks:List K} {rows:List (List C)} (h:aAp ks rows=true) (i:Nat) (hi:i<rows.length):aBm (rows.getD i []) ks=true:=by
 simp only[aAp,List.all_eq_true]at h
 exact h _ (by simp[List.getD_eq_getElem?_getD,hi])
theorem aL0 (rows:List (List C)) (i:Int):aAs rows i=true↔aAp [.int .u8] rows=true∧rows.length≤1048576∧0≤i∧i≤rows.length:=by simp[aAs]
theorem aKf (rows:List (List C)) (i:Int) (h:aAs rows i=true):aAs rows (aEo rows i)=true:=by
 have:=(aL0 rows i).1 h
 rw[aL0]
 unfold aEo
 refine⟨this.1,this.2.1,?_⟩
 split<;>omega
theorem bF3 (x:Int):0≤aHt .i64 x 255∧aHt .i64 x 255≤255:=by rw[bWh];omega
theorem aD4 (rows:List (List C)) (i h:Int):0≤aBq rows i h∧aBq rows i h≤255:=by
 unfold aBq cGp;split<;>exact bF3 _
theorem cCj:aAa Tryz.prog bY4:=aA8 (by simp[])
theorem aXh:aAx Tryz.prog 59 (⟨[aDa],[rI],true⟩) aVy:=aA6 cCj aAb Tryz.func59 (by kernel_rfl) fun cs outs hk h=>by
 unfold aVy at h
 split at h
 ·simp only[Option.some.injEq,Prod.mk.injEq]at h
  obtain⟨h1,rfl⟩:=h
  rename_i rows i hh
  obtain⟨a1,a2,a3,a4⟩:=(aL0 rows i).1 h1
  rw[aAd,bRz]
  by_cases hi:i<rows.length
  ·have hr:=cB3 (bIp a1 i.toNat (by omega))
   have w:IntKind.i64.wrap (i+1)=i+1:=by rw[aAh]<;>omega
   have e1:((rows.getD i.toNat []).length)=1:=by rw[hr];rfl
   have e2:C.is (K.int .u8) ((rows.getD i.toNat []).getD 0 (C.fn 0 []))=true:=by rw[hr];rfl
   simp only[aA1,aA4,aA3,if_true,decide_eq_true_eq,Bool.and_eq_true,hi,a3,e1,e2,w,aBq,aEo,and_self,Nat.zero_lt_one]
   rfl
  ·simp only[aA1,aA4,aA3,if_true,decide_eq_true_eq,hi,if_false,aBq,aEo]
   rfl
 ·cases h
theorem aBs (rows:List (List C)) (i h n:Int) (hn:0<n):0≤aAm rows i h n∧aAm rows i h n<n:=by
 have r1:=aD4 rows i h
 have r2:=aD4 rows (aEo rows i) (aFk h)
 have r3:=aD4 rows (aEo rows (aEo rows i)) (aFk (aFk h))
 have r4:=aD4 rows (aEo rows (aEo rows (aEo rows i))) (aFk (aFk (aFk h)))
 unfold aAm
 rw[if_neg (by omega)]
 split
 ·rw[Int.tmod_eq_emod_of_nonneg (by omega)]
  exact⟨Int.emod_nonneg _ (by omega),Int.emod_lt_of_pos _ hn⟩
 ·rw[Int.tmod_eq_emod_of_nonneg (by omega)]
  exact⟨Int.emod_nonneg _ (by omega),Int.emod_lt_of_pos _ hn⟩
theorem bZ5:aAa Tryz.prog bQi:=aA8 (by simp[aXh])
theorem aD6:aAx Tryz.prog 46 (⟨[aDa,pI],[rI],true⟩) aEh:=aA6 bZ5 aAb Tryz.func46 (by kernel_rfl) fun cs outs hk h=>by
 unfold aEh at h
 split at h
 ·simp only[Option.some.injEq,Prod.mk.injEq]at h
  obtain⟨h1,rfl⟩:=h
  rename_i rows i hh n
  have o1:=aKf rows i h1
  have o2:=aKf rows _ o1
  have o3:=aKf rows _ o2
  have r1:=aD4 rows i hh
  have r2:=aD4 rows (aEo rows i) (aFk hh)
  have r3:=aD4 rows (aEo rows (aEo rows i)) (aFk (aFk hh))
  have r4:=aD4 rows (aEo rows (aEo rows (aEo rows i))) (aFk (aFk (aFk hh)))
  rw[aAd,bMt]
  by_cases p1:n≤0
  ·simp[aA1,aA4,aA3,p1,aAm,aA0,aA2]
  ·by_cases p2:n≤256
   ·have hn:n≠0:=by omega
    simp[aA1,aA4,aA3,p1,p2,aAm,aA0,aA2,h1,hn]
   ·have hn:n≠0:=by omega
    have w1:IntKind.i64.wrap (aBq rows i hh*16777216)=aBq rows i hh*16777216:=by rw[aAh]<;>omega
    have w2:IntKind.i64.wrap (aBq rows (aEo rows i) (aFk hh)*65536)=aBq rows (aEo rows i) (aFk hh)*65536:=by rw[aAh]<;>omega
    have w3:IntKind.i64.wrap (aBq rows (aEo rows (aEo rows i)) (aFk (aFk hh))*256)=aBq rows (aEo rows (aEo rows i)) (aFk (aFk hh))*256:=by rw[aAh]<;>omega
    have w4:IntKind.i64.wrap (aBq rows i hh*16777216+aBq rows (aEo rows i) (aFk hh)*65536)=aBq rows i hh*16777216+aBq rows (aEo rows i) (aFk hh)*65536:=by rw[aAh]<;>omega
    have w5:IntKind.i64.wrap (aBq rows i hh*16777216+aBq rows (aEo rows i) (aFk hh)*65536+aBq rows (aEo rows (aEo rows i)) (aFk (aFk hh))*256)=aBq rows i hh*16777216+aBq rows (aEo rows i) (aFk hh)*65536+aBq rows (aEo rows (aEo rows i)) (aFk (aFk hh))*256:=by rw[aAh]<;>omega
    have w6:IntKind.i64.wrap (aBq rows i hh*16777216+aBq rows (aEo rows i) (aFk hh)*65536+aBq rows (aEo rows (aEo rows i)) (aFk (aFk hh))*256+aBq rows (aEo rows (aEo rows (aEo rows i))) (aFk (aFk (aFk hh))))=aBq rows i hh*16777216+aBq rows (aEo rows i) (aFk hh)*65536+aBq rows (aEo rows (aEo rows i)) (aFk (aFk hh))*256+aBq rows (aEo rows (aEo rows (aEo rows i))) (aFk (aFk (aFk hh))):=by rw[aAh]<;>omega
    simp[aA1,aA4,aA3,p1,p2,aAm,aA0,aA2,h1,o1,o2,o3,hn,w1,w2,w3,w4,w5,w6]
 ·cases h
theorem cCc:aAa Tryz.prog bXy:=aA8 (by simp[aD6])
theorem aIz:aAx Tryz.prog 56 (⟨[aDa,pI],[rB],true⟩) aLn:=aA6 cCc aAb Tryz.func56 (by kernel_rfl) fun cs outs hk h=>by
 unfold aLn at h
 split at h
 ·simp only[Option.some.injEq,Prod.mk.injEq]at h
  obtain⟨h1,rfl⟩:=h
  rename_i rows i hh n
  rw[aAd,bRm]
  by_cases p:aAm rows i hh n=0<;>simp[aA1,aA4,aA3,h1,p]
 ·cases h
theorem bRl:aAa Tryz.prog bCo:=aA8 (by simp[aD6])
theorem aFo:aAx Tryz.prog 42 (⟨[aDa,pSl 3],[rI],true⟩) aLm:=aA6 bRl aAb Tryz.func42 (by kernel_rfl) fun cs outs hk h=>by
 unfold aLm at h
 split at h
 ·simp only[Option.some.injEq,Prod.mk.injEq,Bool.and_eq_true,decide_eq_true_eq]at h
  obtain⟨⟨h1,h2,h3,h4⟩,rfl⟩:=h
  rename_i rows i hh l
  have hr:=aMx h2
  generalize aDo l=m at hr ⊢
  subst hr
  rw[List.length_map]at h3 h4
  rw[aAd,bDw]
  simp only[List.length_map]
  obtain⟨b1,b2⟩:=aBs rows i hh m.length (by omega)
  have hlt:(aAm rows i hh m.length).toNat<m.length:=by omega
  have g:=aBc aIu m 0 _ hlt
  simp only[aA1,aA4,aA3,if_true,decide_eq_true_eq,Bool.and_eq_true,h1,b1,b2,g,List.length_map,and_self]
  simp[C.is,C.toInt]
 ·cases h
theorem bWs (f:Nat) (h:Int) (rows:List (List C)) (i:Nat) (hi:i<rows.length):aYk (f+1) h (rows.drop i)=aYk f (aHt .i64 (IntKind.i64.wrap (IntKind.i64.wrap (IntKind.i64.wrap (h*131)+IntKind.i64.wrap (bEf (rows.getD i [])))+7)) 1073741823) (rows.drop (i+1)):=by
 rw[List.drop_eq_getElem_cons hi]
 simp[aYk,List.getD_eq_getElem?_getD,hi]
theorem cA6 (f:Nat) (h:Int):aYk f h []=h:=by cases f<;>rfl
theorem bUh (rows:List (List C)) (hok:aAs rows 0=true) (hp:List (Nat×Blk)) (nx:Nat) (pn:List Nat) (sl:List (Nat×W)):∀ (n i:Nat) (h:Int),i≤rows.length→i≤4000→4000<i+n →
  ∃ s,(aI3 bCp aAc Tryz.f28 {slots:=sl,heap:=hp,next:=nx,pins:=pn} [.r,.r,.l,.r,.b] n (bQc rows h i hp nx pn)).eval=some (.l (.ptr nx 0),s)∧s.heap=(nx,.box [.sl rows,.i .i64 0,.i .i64 (aYk (4000-i) h (rows.drop i))])::hp∧s.next=nx+1∧s.pins=pn:=by
 obtain⟨a1,a2,a3,a4⟩:=(aL0 rows 0).1 hok
 intro n
 induction n with
 |zero=>intro i h h1 h2 h3;omega
 |succ n ih =>
  intro i h h1 h2 h3
  rw[bTu _ _ _ _ _ _ _ (by kernel_rfl),bMe]
  by_cases hi:i<rows.length
  ·by_cases hj:i<4000
   ·have hr:=cB3 (bIp a1 i hi)
    have w:IntKind.i64.wrap ((i:Int)+1)=((i+1:Nat):Int):=by rw[aAh]<;>omega
    have hi':(i:Int)<rows.length:=by omega
    have hj':(i:Int)<4000:=by omega
    have hz:(0:Int)≤i:=by omega
    have e1:((rows.getD i []).length)=1:=by rw[hr];rfl
    have e2:C.is (K.int .u8) ((rows.getD i []).getD 0 (C.fn 0 []))=true:=by rw[hr];rfl
    have hs:4000-i=(4000-(i+1))+1:=by omega
    rw[hs,bWs _ _ _ _ hi]
    simp only[aA1,aA4,if_true,decide_eq_true_eq,Bool.and_eq_true,hi',hj',hz,Int.toNat_natCast,e1,e2,w,and_self,Nat.zero_lt_one]
    exact ih (i+1) _ (by omega) (by omega) (by omega)
   ·have:i=4000:=by omega
    subst this
    have hi':((4000:Nat):Int)<rows.length:=by omega
    simp only[aA4,aA3,decide_eq_true_eq,hi',if_true]
    rw[if_neg (by omega)]
    exact⟨_,rfl,rfl,rfl,rfl⟩
  ·have hd:rows.drop i=[]:=List.drop_eq_nil_of_le (by omega)
   rw[hd,cA6]
   simp only[aA4,aA3,decide_eq_true_eq]
   rw[if_neg (by omega)]
   exact⟨_,rfl,rfl,rfl,rfl⟩
theorem bPx:cFy Tryz.prog cAg:=by
 intro g ws σ x σ' hs
 unfold cAg at hs
 split at hs
 ·rename_i rows
  split at hs
  ·rename_i hg
   subst hg
   simp only[Option.some.injEq,Prod.mk.injEq]at hs
   obtain⟨hok,rfl,rfl⟩:=hs
   obtain⟨sl,hp,nx,pn⟩:=σ
   have hlen:=((aL0 rows 0).1 hok).2.1
   obtain⟨s,h1,h2,h3,h4⟩:=bUh rows hok hp nx pn sl 9223372036854775808 0 (94701+rows.length) (by omega) (by omega) (by omega)
   have w:IntKind.i64.wrap (94701+(rows.length:Int))=94701+rows.length:=by rw[aAh]<;>omega
   refine⟨bCp,1,s,Tryz.f28,Tryz.func28,aA8 (by simp),?_,h2,h3,h4,fun id hid=>aBg (by omega)⟩
   rw[cD5]
   show (cG4 bCp aAc _ (aI3 bCp aAc _ _) _ _).eval=_
   rw[bUg,w]
   exact h1
  ·cases hs
 ·cases hs
theorem bC9 {g:FuncId} {fn:Func} (h:bOg g=some fn):g=28∧fn=Tryz.f28:=by
 unfold bOg at h
 split at h
 ·rename_i hg;exact⟨hg,(Option.some.inj h).symm⟩
 ·cases h
theorem cAh : (Tryz.f28.name == "runtime.NumGoroutine") = false := by kernel_rfl
theorem cD1:Tryz.prog.follows .mixedOrders=true:=by kernel_rfl
theorem bJa {lv:List (Nat×List Nat)} {gs:Laws} (h:∀ p,p∈gs→aAx Tryz.prog p.1 p.2.1 p.2.2):aAa Tryz.prog (mkD lv gs) :=
 ⟨⟨(bOx aVo).1,fun g fn hh=>by obtain⟨rfl,rfl⟩:=bC9 hh;exact Tryz.func28,fun t m e te h1 h2=>bOn aZ1 t m e te h1 h2,bWt bFw,fun t e h=>by cases h⟩,fun g sig spec hl=>h (g,sig,spec) (aG5 hl),fun g fn hh=>(by obtain⟨rfl,rfl⟩:=bC9 hh;exact cAh),cD1⟩
theorem aHe (rows:List (List C)):∀ (m:Nat) (i h:Int),(aE1 rows m i h).length=m
 |0,_,_=>rfl
 |m+1,i,h=>by simp[aE1,aHe rows m]
theorem aQx (rows:List (List C)):∀ (m:Nat) (i:Int),aAs rows i=true→aAs rows (aQy rows m i)=true
 |0,_,h=>h
 |m+1,i,h=>aQx rows m _ (aKf rows i h)
theorem bR5 (rows:List (List C)) (n:Nat) (hn:n≤5000):∀ (f m j:Nat) (i h:Int) (l:List UInt8),aAs rows i=true→j+f=n→f<m→l.length=j →
  (aBr bGm aAc (⟨[aDa,pI],[rS],true⟩) Tryz.f47 [.r,.r,.r,.l,.r,.b] m (aZc rows i h n l.length (aAe l) j)).eval=some [.str (l++aE1 rows f i h),.sl rows,.int .i64 (aQy rows f i),.int .i64 (aT2 f h)]:=by
 intro f
 induction f with
 |zero =>
  intro m j i h l hok h1 h2 h3
  obtain⟨m,rfl⟩:∃ q,m=q+1:=⟨m-1,by omega⟩
  rw[aAv _ _ _ _ _ _ _ (by kernel_rfl),aMs]
  have c:¬((j:Int)<n):=by omega
  have tk:(aAe l).take l.length=aAe l:=List.take_of_length_le (by rw[aBp];omega)
  simp only[aA1,aA4,aA3,decide_eq_true_eq,c,if_false,tk,aEj,aHi,aE1,aQy,aT2,List.append_nil]
  simp
 |succ f ih =>
  intro m j i h l hok h1 h2 h3
  obtain⟨m,rfl⟩:∃ q,m=q+1:=⟨m-1,by omega⟩
  rw[aAv _ _ _ _ _ _ _ (by kernel_rfl),aMs]
  have hr:=aD4 rows i h
  have c:(j:Int)<n:=by omega
  have w:IntKind.i64.wrap ((j:Int)+1)=((j+1:Nat):Int):=by rw[aAh]<;>omega
  have u:IntKind.u8.wrap (aBq rows i h)=(((aBq rows i h).toNat:Nat):Int):=by rw[aQp]<;>omega
  have ro:aBj (l.length+1) 1=true:=by simp only[aBj,decide_eq_true_eq];omega
  have ra:(aAe l).append [[C.int .u8 (((aBq rows i h).toNat:Nat):Int)]]=aAe (l++[UInt8.ofNat (aBq rows i h).toNat]):=by
   have:=bEe (((aBq rows i h).toNat:Nat):Int) (by omega) (by omega)
   rw[Int.toNat_natCast]at this
   rw[this,List.append_eq,aFr]
  have e:=ih m (j+1) (aEo rows i) (aFk h) (l++[UInt8.ofNat (aBq rows i h).toNat]) (aKf rows i hok) (by omega) (by omega) (by simp;omega)
  rw[List.length_append,List.append_assoc]at e
  simp only[aA1,aA4,if_true,decide_eq_true_eq,Bool.and_eq_true,c,hok,w,u,ro,aBp,ra,and_self,aE1,aQy,aT2]
  exact e
theorem cC6:aAa Tryz.prog bGm:=aA8 (by simp[aXh])
theorem aQ1:aAx Tryz.prog 47 (⟨[aDa,pI],[rS],true⟩) aQw:=aA6 cC6 aAb Tryz.func47 (by kernel_rfl) fun cs outs hk h=>by
 unfold aQw at h
 split at h
 ·simp only[Option.some.injEq,Prod.mk.injEq]at h
  obtain⟨h1,rfl⟩:=h
  rename_i rows i hh n
  rw[aAd,bR4]
  have lp:=fun (q:Nat) (hq:q≤5000)=>bR5 rows q hq q 9223372036854775808 0 i hh [] h1 (by omega) (by omega) rfl
  by_cases p:(5000:Int)<n
  ·have en:aEw n=5000:=by unfold aEw;rw[if_pos p];rfl
   rw[en]
   simp only[aA1,aA4,if_true,decide_eq_true_eq,p]
   exact lp 5000 (by omega)
  ·have en:aEw n=n.toNat:=by unfold aEw;rw[if_neg p]
   rw[en]
   simp only[aA1,aA4,if_true,decide_eq_true_eq,p,if_false]
   by_cases p2:0≤n
   ·obtain⟨n,rfl⟩:=Int.eq_ofNat_of_zero_le p2
    exact lp n (by omega)
   ·have hz:n.toNat=0:=by omega
    rw[hz]
    rw[aAv _ _ _ _ _ 9223372036854775807 _ (by kernel_rfl),aMs]
    have c:¬((0:Int)<n):=by omega
    simp only[aA1,aA4,aA3,decide_eq_true_eq,c,if_false,aE1,aQy,aT2]
    simp[aC0]
 ·cases h
noncomputable section
def aQ8:PTy:=.val false [.slice 5]
def dtT (rows:List (List C)) (n i h:Int):List UInt8:=aE1 rows (aEw (aAm rows i h n)) (aA0 rows i n) (aA2 h n)
def dtI (rows:List (List C)) (n i h:Int):Int:=aQy rows (aEw (aAm rows i h n)) (aA0 rows i n)
def dtH (rows:List (List C)) (n i h:Int):Int:=aT2 (aEw (aAm rows i h n)) (aA2 h n)
end
theorem aAr (rows:List (List C)) (i n:Int) (h:aAs rows i=true):aAs rows (aA0 rows i n)=true:=by
 unfold aA0
 split
 ·exact h
 ·split
  ·exact aKf rows i h
  ·exact aKf _ _ (aKf _ _ (aKf _ _ (aKf rows i h)))
theorem cFj (rows:List (List C)) (n i h:Int) (ho:aAs rows i=true):aAs rows (dtI rows n i h)=true:=aQx rows _ _ (aAr rows i n ho)
theorem cDg (rows:List (List C)) (n i h:Int) (hn:0<n) (hn2:n≤5000):(dtT rows n i h).length<n:=by
 unfold dtT
 rw[aHe]
 have:=aBs rows i h n hn
 unfold aEw
 split<;>omega
noncomputable section
def aDk:aCf:=fun cs=>match cs with
 |[.int .i64 n]=>some (true,[.bool (inB n 0 1000000000)])
 |_=>none
def aZs:Env:=mkE [] [(37,(sg [pI,pI,pI] [rB]),aE4)]
def aCt:Nat→Nat→List UInt8
 |0,_=>[]
 |k+1,n=>UInt8.ofNat (n % 256)::aCt k (n / 256)
def aAl (n w:Int):List UInt8:=if 0≤n∧1≤w∧w≤8∧n.toNat<256^w.toNat then aCt w.toNat n.toNat else[]
def aJ7:List UInt8→Nat
 |[]=>0
 |c::t=>c.toNat+256*aJ7 t
def aEg (b:List UInt8) (at' w:Int):Nat:=aJ7 ((b.drop at'.toNat).take w.toNat)
def aDd (b:List UInt8) (at' w:Int):Bool:=decide (1≤w∧w≤8∧0≤at'∧at'≤b.length-w∧aEg b at' w<9223372036854775808)
def aB3 (b:List UInt8) (at' w:Int):Int:=if aDd b at' w then (aEg b at' w:Int)else 0
def aGr:aCf:=fun cs=>match cs with
 |[.int .i64 n,.int .i64 w]=>some (decide (-9223372036854775808≤n)&&decide (n≤9223372036854775807),[.str (aAl n w)])
 |_=>none
def aF0:aCf:=fun cs=>match cs with
 |[.str b,.int .i64 a,.int .i64 w]=>some (decide (b.length≤281474976710656)&&(decide (-9223372036854775808≤a)&&decide (a≤9223372036854775807)),[.int .i64 (aB3 b a w),.bool (aDd b a w)])
 |_=>none
def aOz:Env:=mkE [(5,[0,1,5,6])] [(45,(sg [pI,pI,pI] [rB]),aE4)]
def aP7:Env:=mkE [(5,[0,5,28,29])] [(37,(sg [pI,pI,pI] [rB]),aE4)]
def aOy:Env:=mkE [(7,[0,1,8,9])] [(45,(sg [pI,pI,pI] [rB]),aE4)]
def aP6:Env:=mkE [(5,[0,1,8,22,23])] [(37,(sg [pI,pI,pI] [rB]),aE4)]
def aOm (n w:Int) (m:Nat) (r:List (List C)) (i:Int):St:=st1 [(0,aBf n),(1,aBf w),(5,.l (.ref 0 0 m)),(6,aBf i)] 1 r
def aL9 (n:Int) (m:Nat) (r:List (List C)) (e i:Int):St:=st1 [(0,aBf n),(5,.l (.ref 0 0 m)),(28,aBf e),(29,aBf i)] 1 r
def aL5 (b:List UInt8) (a n i:Int):St:=st0 [(0,aZu b),(1,aBf a),(8,aBf n),(9,aBf i)]
def aOs (b:List UInt8) (a n e i:Int):St:=st0 [(0,aZu b),(1,aBf a),(8,aBf n),(22,aBf e),(23,aBf i)]
end
theorem bB8 (H:List Pt→Nat→St→T (List C)) (n:Int):aAk aZs aAc (sg [pI] [rB]) Tryz.f96 H [C.int .i64 n]=(.must true (.must true (.must true (.must true (.ask (inB n 0 1000000000) (.must true (.ret [C.bool true])) (.must true (.ret [C.bool false]))))))):=by kernel_rfl
theorem bE2 (H:List Pt→Nat→St→T (List C)) (n:Int) (w:Int):aAk aOz aAc (sg [pI,pI] [rS]) Tryz.f88 H [C.int .i64 n,C.int .i64 w]=(.must true (.ask (decide (n<(0:Int))) (.must true (.ret [C.str []])) (.must true (.must true (.must true (.ask (inB w 1 8) (H [Pt.r,Pt.r,Pt.r,Pt.l,Pt.r,Pt.b] 9223372036854775808 (aOm (n) (w) (0) ([]) ((0:Int)))) (.must true (.ret [C.str []])))))))):=by kernel_rfl
theorem aXb (H:List Pt→Nat→St→T (List C)) (n:Int) (w:Int) (q:Nat) (r:List (List C)) (i:Int) (k:Nat):aBl aOz aAc (sg [pI,pI] [rS]) Tryz.f88 H [Pt.r,Pt.r,Pt.r,Pt.l,Pt.r,Pt.b] k (aOm n w q r i)=(.ask (decide (i<w)) (.must (decide (q=r.length)&&aBj (r.length+1) 1&&(decide (1=1)&&true)) (.must true (H [Pt.r,Pt.r,Pt.r,Pt.l,Pt.r,Pt.b] k (aOm (aKg .i64 n 8) (w) (r.length+1) (r.append [[C.int .u8 (IntKind.u8.wrap n)]]) (IntKind.i64.wrap (i+(1:Int))))))) (.ask (decide ((0:Int)<n)) (.must true (.ret [C.str []])) (.must ((List.take q r).all aGw) (.must true (.ret [C.str (aC0 (List.take q r))]))))):=by kernel_rfl
theorem bFo (H:List Pt→Nat→St→T (List C)) (n:Int) (w:Int):aAk aP7 aAc (sg [pI,pI] [rS]) Tryz.f122 H [C.int .i64 n,C.int .i64 w]=(.must true (.ask (decide (n<(0:Int))) (.must true (.ret [C.str []])) (.must true (.must true (.must true (.ask (inB w 1 8) (.ask (decide (w<(8:Int))) (.must (decide ((0:Int)≤IntKind.i64.wrap ((8:Int)*w))) (.ask (aKg .i64 n (IntKind.i64.wrap ((8:Int)*w)) != (0:Int)) (.must true (.ret [C.str []])) (.must (decide ((0:Int)≤w)&&decide (w≤w)&&decide ((↑(1:Nat):Int)*w≤(281474976710656:Int))) (H [Pt.r,Pt.r,Pt.r,Pt.l,Pt.r,Pt.b] 9223372036854775808 (aL9 (n) (w.toNat) (List.replicate w.toNat [C.int .u8 0]) ((↑w.toNat:Int)) ((0:Int))))))) (.must (decide ((0:Int)≤w)&&decide (w≤w)&&decide ((↑(1:Nat):Int)*w≤(281474976710656:Int))) (H [Pt.r,Pt.r,Pt.r,Pt.l,Pt.r,Pt.b] 9223372036854775808 (aL9 (n) (w.toNat) (List.replicate w.toNat [C.int .u8 0]) ((↑w.toNat:Int)) ((0:Int)))))) (.must true (.ret [C.str []])))))))):=by kernel_rfl
theorem aYj (H:List Pt→Nat→St→T (List C)) (n:Int) (q:Nat) (r:List (List C)) (e:Int) (i:Int) (k:Nat):aBl aP7 aAc (sg [pI,pI] [rS]) Tryz.f122 H [Pt.r,Pt.r,Pt.r,Pt.l,Pt.r,Pt.b] k (aL9 n q r e i)=(.ask (decide (i<e)) (.must (decide ((0:Int)≤IntKind.i64.wrap ((8:Int)*i))) (.must (decide ((0:Int)≤i)&&decide (i<(↑q:Int))) (.must (decide (0+i.toNat<r.length)) (H [Pt.r,Pt.r,Pt.r,Pt.l,Pt.r,Pt.b] k (aL9 (n) (q) (r.set (0+i.toNat) (C.int .u8 (IntKind.u8.wrap (aKg .i64 n (IntKind.i64.wrap ((8:Int)*i))))::List.drop (0+1) (r.getD (0+i.toNat) []))) (e) (IntKind.i64.wrap (i+(1:Int)))))))) (.must ((List.take q r).all aGw) (.must true (.ret [C.str (aC0 (List.take q r))])))):=by kernel_rfl
theorem bDt (H:List Pt→Nat→St→T (List C)) (b:List UInt8) (a:Int) (w:Int):aAk aOy aAc (sg [pS,pI,pI] [rI,rB]) Tryz.f85 H [C.str b,C.int .i64 a,C.int .i64 w]=(.must true (.must true (.must true (.must true (.ask (inB w 1 8) (.must true (.must true (.must true (.ask (inB a 0 (IntKind.i64.wrap ((↑b.length:Int)-w))) (.ask (decide (w=(8:Int))) (.must (decide ((0:Int)≤IntKind.i64.wrap (a+(7:Int)))&&decide (IntKind.i64.wrap (a+(7:Int))<(↑b.length:Int))) (.ask (decide ((127:Int)<(↑(b.getD (IntKind.i64.wrap (a+(7:Int))).toNat (0:UInt8)).toNat:Int))) (.must true (.ret [C.int .i64 0,C.bool false])) (H [Pt.r,Pt.r,Pt.r,Pt.r,Pt.l,Pt.r,Pt.b] 9223372036854775808 (aL5 (b) (a) ((0:Int)) (IntKind.i64.wrap (w-(1:Int))))))) (H [Pt.r,Pt.r,Pt.r,Pt.r,Pt.l,Pt.r,Pt.b] 9223372036854775808 (aL5 (b) (a) ((0:Int)) (IntKind.i64.wrap (w-(1:Int)))))) (.must true (.ret [C.int .i64 0,C.bool false])))))) (.must true (.ret [C.int .i64 0,C.bool false]))))))):=by kernel_rfl
theorem aX2 (H:List Pt→Nat→St→T (List C)) (b:List UInt8) (a:Int) (n:Int) (i:Int) (k:Nat):aBl aOy aAc (sg [pS,pI,pI] [rI,rB]) Tryz.f85 H [Pt.r,Pt.r,Pt.r,Pt.r,Pt.l,Pt.r,Pt.b] k (aL5 b a n i)=(.ask (decide ((0:Int)≤i)) (.must true (.must (decide ((0:Int)≤IntKind.i64.wrap (a+i))&&decide (IntKind.i64.wrap (a+i)<(↑b.length:Int))) (H [Pt.r,Pt.r,Pt.r,Pt.r,Pt.l,Pt.r,Pt.b] k (aL5 (b) (a) (ior .i64 (aUk .i64 n 8) (IntKind.i64.wrap (↑(b.getD (IntKind.i64.wrap (a+i)).toNat (0:UInt8)).toNat:Int))) (IntKind.i64.wrap (i-(1:Int))))))) (.must true (.ret [C.int .i64 n,C.bool true]))):=by kernel_rfl
theorem bFf (H:List Pt→Nat→St→T (List C)) (b:List UInt8) (a:Int) (w:Int):aAk aP6 aAc (sg [pS,pI,pI] [rI,rB]) Tryz.f117 H [C.str b,C.int .i64 a,C.int .i64 w]=(.must true (.must true (.must true (.must true (.ask (inB w 1 8) (.must true (.must true (.must true (.ask (inB a 0 (IntKind.i64.wrap ((↑b.length:Int)-w))) (H [Pt.r,Pt.r,Pt.r,Pt.l,Pt.r,Pt.b] 9223372036854775808 (aOs (b) (a) ((0:Int)) (w) ((0:Int)))) (.must true (.ret [C.int .i64 0,C.bool false])))))) (.must true (.ret [C.int .i64 0,C.bool false]))))))):=by kernel_rfl
theorem aYc (H:List Pt→Nat→St→T (List C)) (b:List UInt8) (a:Int) (n:Int) (e:Int) (i:Int) (k:Nat):aBl aP6 aAc (sg [pS,pI,pI] [rI,rB]) Tryz.f117 H [Pt.r,Pt.r,Pt.r,Pt.l,Pt.r,Pt.b] k (aOs b a n e i)=(.ask (decide (i<e)) (.must (decide ((0:Int)≤IntKind.i64.wrap (a+i))&&decide (IntKind.i64.wrap (a+i)<(↑b.length:Int))) (.must (decide ((0:Int)≤IntKind.i64.wrap ((8:Int)*i))) (H [Pt.r,Pt.r,Pt.r,Pt.l,Pt.r,Pt.b] k (aOs (b) (a) (ior .i64 n (aUk .i64 (IntKind.i64.wrap (↑(b.getD (IntKind.i64.wrap (a+i)).toNat (0:UInt8)).toNat:Int)) (IntKind.i64.wrap ((8:Int)*i)))) (e) (IntKind.i64.wrap (i+(1:Int))))))) (.ask (decide (n<(0:Int))) (.must true (.ret [C.int .i64 0,C.bool false])) (.must true (.ret [C.int .i64 n,C.bool true])))):=by kernel_rfl
theorem bNz:aAa Tryz.prog aZs:=aA8 (by simp[aGm])
theorem aD9:aAx Tryz.prog 96 (sg [pI] [rB]) aDk:=aA6 bNz aAb Tryz.func96 (by kernel_rfl) fun cs outs hk h=>by
 unfold aDk at h
 split at h
 ·simp only[Option.some.injEq,Prod.mk.injEq,true_and]at h
  rw[←h,aAd,bB8]
  rename_i n
  by_cases hb:inB n 0 1000000000=true<;>simp[aA1,aA4,aA3,hb]
 ·cases h
theorem cF9 (x:Int) (k:Nat) (hk:k<64):aKg .i64 x (k:Int)=x / 2^k:=by
 show x.fdiv (2^(min ((k:Int).toNat) 64))=_
 have:min ((k:Int).toNat) 64=k:=by omega
 rw[this,Int.fdiv_eq_ediv_of_nonneg]
 exact Int.pow_nonneg (by omega)
theorem aIr (x k:Nat) (hk:k<64):aKg .i64 (x:Int) (k:Int)=((x / 2^k:Nat):Int):=by
 rw[cF9 _ _ hk]
 simp
theorem aSx (x:Int):IntKind.u8.wrap x=x % 256:=by
 simp only[IntKind.wrap,IntKind.bits,IntKind.signed]
 simp
theorem aXr (i:Nat):(2:Nat)^(8*i)=256^i:=by rw[Nat.pow_mul]
theorem aCe:∀ (k n:Nat),(aCt k n).length=k
 |0,_=>rfl
 |k+1,n=>by simp[aCt,aCe k]
theorem aN9:∀ (k n:Nat),aCt (k+1) n=aCt k n++[UInt8.ofNat (n / 256^k % 256)]
 |0,n=>by simp[aCt]
 |k+1,n=>by
  rw[aCt,aN9 k (n / 256)]
  simp only[aCt,List.cons_append]
  rw[Nat.div_div_eq_div_mul,Nat.pow_succ,Nat.mul_comm 256 (256^k)]
theorem aBi (n a b:Int):inB n a b=true↔a≤n∧n≤b:=by simp[inB]
theorem bE3 (n0 w:Nat) (hw:w≤8) (hn:n0≤9223372036854775807):∀ (n i:Nat),i≤w→w<i+n →
  (aBr aOz aAc (sg [pI,pI] [rS]) Tryz.f88 [.r,.r,.r,.l,.r,.b] n (aOm (n0 / 256^i:Nat) w i (aAe (aCt i n0)) i)).eval=some [.str (if n0<256^w then aCt w n0 else[])]:=by
 intro n
 induction n with
 |zero=>intro i h1 h2;omega
 |succ n ih =>
  intro i h1 h2
  rw[aAv _ _ _ _ _ _ _ (by kernel_rfl),aXb]
  by_cases hi:i<w
  ·have e:=ih (i+1) (by omega) (by omega)
   have w1:IntKind.i64.wrap ((i:Int)+1)=((i+1:Nat):Int):=by rw[aAh]<;>omega
   have hi':(i:Int)<w:=by omega
   have hr:aBj (i+1) 1=true:=by simp only[aBj,decide_eq_true_eq];omega
   have d:aKg .i64 ((n0 / 256^i:Nat):Int) 8=((n0 / 256^(i+1):Nat):Int):=by
    have:=aIr (n0 / 256^i) 8 (by omega)
    rw[show ((8:Nat):Int)=8 from rfl]at this
    rw[this,Nat.div_div_eq_div_mul,show (2:Nat)^8=256 from rfl,←Nat.pow_succ]
   have u:IntKind.u8.wrap ((n0 / 256^i:Nat):Int)=((n0 / 256^i % 256:Nat):Int):=by rw[aSx];omega
   have ro:[[C.int .u8 ((n0 / 256^i % 256:Nat):Int)]]=aAe [UInt8.ofNat (n0 / 256^i % 256)]:=by
    have:=bEe ((n0 / 256^i % 256:Nat):Int) (by omega) (by omega)
    rw[Int.toNat_natCast]at this
    exact this
   rw[aN9,←aFr,←ro]at e
   simp only[aA1,aA4,aA3,if_true,decide_eq_true_eq,Bool.and_eq_true,w1,hi',aBp,aCe,hr,d,u,and_self,List.append_eq]
   exact e
  ·have:i=w:=by omega
   subst this
   have hlt:¬((i:Int)<i):=by omega
   have z:(0:Int)<((n0 / 256^i:Nat):Int)↔¬n0<256^i:=by
    have hp:(256:Nat)^i≠0:=Nat.pos_iff_ne_zero.1 (Nat.pow_pos (by omega))
    have h0:n0 / 256^i=0↔n0<256^i:=by
     rw[Nat.div_eq_zero_iff]
     exact⟨fun h=>h.resolve_left hp,.inr⟩
    rw[←h0]
    generalize n0 / 256^i=y
    omega
   have tk:(aAe (aCt i n0)).take i=aAe (aCt i n0):=List.take_of_length_le (by rw[aBp,aCe];omega)
   simp only[aA1,aA4,aA3,if_true,decide_eq_true_eq,hlt,if_false,z,tk,aEj,aHi]
   by_cases hc:n0<256^i<;>simp[hc]
theorem bG4 (n w:Int) (h:¬(0≤n∧1≤w∧w≤8)):aAl n w=[]:=by
 unfold aAl;rw[if_neg (fun h'=>h ⟨h'.1,h'.2.1,h'.2.2.1⟩)]
theorem aVs (n w:Nat) (h1:1≤w) (h2:w≤8):aAl n w=if n<256^w then aCt w n else[]:=by
 unfold aAl
 simp only[Int.toNat_natCast]
 by_cases h:n<256^w
 ·rw[if_pos ⟨by omega,by omega,by omega,h⟩,if_pos h]
 ·rw[if_neg (fun h'=>h h'.2.2.2),if_neg h]
theorem bRq:aAa Tryz.prog aOz:=aA8 (by simp[aDy])
theorem aFp:aAx Tryz.prog 88 (sg [pI,pI] [rS]) aGr:=aA6 bRq aAb Tryz.func88 (by kernel_rfl) fun cs outs hk h=>by
 unfold aGr at h
 split at h
 ·simp only[Option.some.injEq,Prod.mk.injEq,Bool.and_eq_true,decide_eq_true_eq]at h
  obtain⟨⟨h1,h2⟩,rfl⟩:=h
  rename_i n w
  rw[aAd,bE2]
  by_cases hn:n<0
  ·simp[aA1,aA4,aA3,hn,bG4 n w (by omega)]
  ·by_cases hw:inB w 1 8=true
   ·have hw':=(aBi _ _ _).1 hw
    obtain⟨n,rfl⟩:=Int.eq_ofNat_of_zero_le (show 0≤n by omega)
    obtain⟨w,rfl⟩:=Int.eq_ofNat_of_zero_le (show 0≤w by omega)
    have:=bE3 n w (by omega) (by omega) 9223372036854775808 0 (by omega) (by omega)
    rw[←aVs n w (by omega) (by omega)]at this
    simp only[aA1,aA4,if_true,hn,decide_false,Bool.false_eq_true,if_false,hw,Bool.not_true]
    simpa[aCt,aAe]using this
   ·have:¬(1≤w∧w≤8):=fun h=>hw ((aBi _ _ _).2 h)
    simp[aA1,aA4,aA3,hn,hw,bG4 n w (by omega)]
 ·cases h
theorem bFp (n0 w:Nat) (hw:w≤8) (hn:n0≤9223372036854775807):∀ (n i:Nat),i≤w→w<i+n →
  (aBr aP7 aAc (sg [pI,pI] [rS]) Tryz.f122 [.r,.r,.r,.l,.r,.b] n (aL9 n0 w (aAe (aCt i n0++List.replicate (w-i) 0)) w i)).eval=some [.str (aCt w n0)]:=by
 intro n
 induction n with
 |zero=>intro i h1 h2;omega
 |succ n ih =>
  intro i h1 h2
  rw[aAv _ _ _ _ _ _ _ (by kernel_rfl),aYj]
  by_cases hi:i<w
  ·have e:=ih (i+1) (by omega) (by omega)
   have w1:IntKind.i64.wrap ((i:Int)+1)=((i+1:Nat):Int):=by rw[aAh]<;>omega
   have w2:IntKind.i64.wrap (8*(i:Int))=((8*i:Nat):Int):=by rw[aAh]<;>omega
   have hi':(i:Int)<w:=by omega
   have hz:(0:Int)≤i:=by omega
   have hz8:(0:Int)≤((8*i:Nat):Int):=by omega
   have d:aKg .i64 (n0:Int) ((8*i:Nat):Int)=((n0 / 256^i:Nat):Int):=by rw[aIr _ _ (by omega),aXr]
   have u:IntKind.u8.wrap ((n0 / 256^i:Nat):Int)=((n0 / 256^i % 256:Nat):Int):=by rw[aSx];omega
   have hlen:(aCt i n0++List.replicate (w-i) (0:UInt8)).length=w:=by simp[aCe];omega
   have g:=bPd (aCt i n0++List.replicate (w-i) 0) i (by omega)
   have sset:=bPb (aCt i n0++List.replicate (w-i) 0) i ((n0 / 256^i % 256:Nat):Int) (by omega) (by omega)
   have sl:(aCt i n0++List.replicate (w-i) (0:UInt8)).set i (UInt8.ofNat (((n0 / 256^i % 256:Nat):Int)).toNat)=aCt (i+1) n0++List.replicate (w-(i+1)) 0:=by
    obtain⟨m,hm⟩:∃ m,w-i=m+1:=⟨w-i-1,by omega⟩
    have hm2:w-(i+1)=m:=by omega
    rw[List.set_append_right _ _ (by rw[aCe];omega),aCe,Nat.sub_self,hm,hm2,List.replicate_succ,List.set_cons_zero,aN9,Int.toNat_natCast,List.append_assoc]
    rfl
   rw[sl]at sset
   simp only[aA1,aA4,aA3,if_true,decide_eq_true_eq,Bool.and_eq_true,w1,w2,hi',hz,hz8,d,u,aBp,hlen,Int.toNat_natCast,Nat.zero_add,hi,and_self,g,List.drop_succ_cons,List.drop_zero,sset]
   exact e
  ·have:i=w:=by omega
   subst this
   have hlt:¬((i:Int)<i):=by omega
   have tk:(aAe (aCt i n0)).take i=aAe (aCt i n0):=List.take_of_length_le (by rw[aBp,aCe];omega)
   simp only[aA1,aA4,aA3,if_true,decide_eq_true_eq,hlt,if_false,Nat.sub_self,List.replicate_zero,List.append_nil,tk,aEj,aHi]
theorem bT3:aAa Tryz.prog aP7:=aA8 (by simp[aGm])
theorem aFs:aAx Tryz.prog 122 (sg [pI,pI] [rS]) aGr:=aA6 bT3 aAb Tryz.func122 (by kernel_rfl) fun cs outs hk h=>by
 unfold aGr at h
 split at h
 ·simp only[Option.some.injEq,Prod.mk.injEq,Bool.and_eq_true,decide_eq_true_eq]at h
  obtain⟨⟨h1,h2⟩,rfl⟩:=h
  rename_i n w
  rw[aAd,bFo]
  by_cases hn:n<0
  ·simp[aA1,aA4,aA3,hn,bG4 n w (by omega)]
  ·by_cases hw:inB w 1 8=true
   ·have hw':=(aBi _ _ _).1 hw
    obtain⟨n,rfl⟩:=Int.eq_ofNat_of_zero_le (show 0≤n by omega)
    obtain⟨w,rfl⟩:=Int.eq_ofNat_of_zero_le (show 0≤w by omega)
    have lp:=bFp n w (by omega) (by omega) 9223372036854775808 0 (by omega) (by omega)
    have rp:aAe (aCt 0 n++List.replicate (w-0) 0)=List.replicate w [C.int .u8 0]:=by simp[aCt,aAe]
    rw[rp]at lp
    have w2:IntKind.i64.wrap (8*(w:Int))=((8*w:Nat):Int):=by rw[aAh]<;>omega
    have hz8:(0:Int)≤((8*w:Nat):Int):=by omega
    have c1:(0:Int)≤w:=by omega
    have c2:((1:Nat):Int)*(w:Int)≤281474976710656:=by omega
    rw[aVs n w (by omega) (by omega)]
    simp only[aA1,aA4,aA3,if_true,hn,decide_false,Bool.false_eq_true,if_false,hw,Bool.not_true,w2,hz8,decide_true,decide_eq_true_eq,Bool.and_eq_true,c1,c2,Int.le_refl,and_self,Int.toNat_natCast]
    by_cases h8:(w:Int)<8
    ·have d:aKg .i64 (n:Int) ((8*w:Nat):Int)=((n / 256^w:Nat):Int):=by rw[aIr _ _ (by omega),aXr]
     have z:n / 256^w=0↔n<256^w:=by
      have hp:(256:Nat)^w≠0:=Nat.pos_iff_ne_zero.1 (Nat.pow_pos (by omega))
      rw[Nat.div_eq_zero_iff]
      exact⟨fun h=>h.resolve_left hp,.inr⟩
     simp only[h8,if_true,d,bne_iff_ne,ne_eq,Int.natCast_eq_zero,z]
     by_cases hc:n<256^w
     ·simp only[hc,not_true_eq_false,if_false,if_true];exact lp
     ·simp only[hc,not_false_eq_true,if_true,if_false]
    ·have:w=8:=by omega
     subst this
     have hc:n<256^8:=by omega
     simp only[h8,if_false,hc,if_true]
     exact lp
   ·have:¬(1≤w∧w≤8):=fun h=>hw ((aBi _ _ _).2 h)
    simp[aA1,aA4,aA3,hn,hw,bG4 n w (by omega)]
 ·cases h
theorem aRu:∀ l:List UInt8,aJ7 l<256^l.length
 |[]=>by simp[aJ7]
 |c::t=>by
  have:=aRu t
  have hc:=c.toNat_lt
  simp only[aJ7,List.length_cons,Nat.pow_succ]
  omega
theorem aN8:∀ (l:List UInt8) (c:UInt8),aJ7 (l++[c])=aJ7 l+c.toNat*256^l.length
 |[],c=>by simp[aJ7]
 |x::t,c=>by
  simp only[List.cons_append,aJ7,aN8 t c,List.length_cons,Nat.pow_succ]
  rw[Nat.mul_add,←Nat.add_assoc,Nat.mul_left_comm,Nat.mul_comm 256 (256^t.length)]
theorem aRv:∀ (j:Nat) (l:List UInt8),aJ7 (l.drop j)≤aJ7 l
 |0,l=>by simp
 |j+1,[]=>by simp
 |j+1,c::t=>by
  have:=aRv j t
  simp only[List.drop_succ_cons,aJ7]
  omega
theorem aRw (n c k:Nat) (hk:n<2^k) (h:n+c*2^k<18446744073709551616) (x y:Int) (hx:(x % 18446744073709551616).toNat=n) (hy:(y % 18446744073709551616).toNat=c*2^k) :
  ior .i64 x y=IntKind.i64.wrap ((n+c*2^k:Nat):Int):=by
 show IntKind.i64.wrap (((BitVec.ofInt 64 x|||BitVec.ofInt 64 y).toNat:Nat):Int)=_
 rw[BitVec.toNat_or]
 have h1:(BitVec.ofInt 64 x).toNat=n:=by rw[←hx];simp[BitVec.toNat_ofInt]
 have h2:(BitVec.ofInt 64 y).toNat=c*2^k:=by rw[←hy];simp[BitVec.toNat_ofInt]
 rw[h1,h2,←Nat.shiftLeft_eq,Nat.or_comm,←Nat.shiftLeft_add_eq_or_of_lt hk,Nat.add_comm]
theorem bBe (x:Int):IntKind.i64.wrap x % 18446744073709551616=x % 18446744073709551616:=by
 simp only[IntKind.wrap,IntKind.bits,IntKind.signed]
 first
  |(split<;>omega)
  |(simp;split<;>omega)
theorem aTn (x:Int) (k:Nat) (hk:k<64):aUk .i64 x (k:Int) % 18446744073709551616=x*2^k % 18446744073709551616:=by
 show IntKind.i64.wrap (x*2^(min ((k:Int).toNat) 64)) % 18446744073709551616=_
 have:min ((k:Int).toNat) 64=k:=by omega
 rw[this,bBe]
theorem bDu (b:List UInt8) (a w:Nat) (hb:a+w≤b.length) (hbl:b.length≤281474976710656) (hw:w≤8) (hv:aEg b a w<9223372036854775808):∀ (n j:Nat),j≤w→j<n →
  (aBr aOy aAc (sg [pS,pI,pI] [rI,rB]) Tryz.f85 [.r,.r,.r,.r,.l,.r,.b] n (aL5 b a (aJ7 (((b.drop a).take w).drop j):Nat) ((j:Int)-1))).eval=some [.int .i64 (aEg b a w:Nat),.bool true]:=by
 intro n
 induction n with
 |zero=>intro j h1 h2;omega
 |succ n ih =>
  intro j h1 h2
  rw[aAv _ _ _ _ _ _ _ (by kernel_rfl),aX2]
  cases j with
  |zero =>
   have:¬((0:Int)≤((0:Nat):Int)-1):=by omega
   simp only[aA1,aA4,aA3,decide_eq_true_eq,this,if_false,if_true]
   simp[aEg]
  |succ i =>
   have e:=ih i (by omega) (by omega)
   have hl:((b.drop a).take w).length=w:=by simp;omega
   have hg:((b.drop a).take w).getD i 0=b.getD (a+i) 0:=by
    simp[List.getD_eq_getElem?_getD,List.getElem?_take,List.getElem?_drop,show i<w by omega]
   rw[aS4 _ i (by omega),hg]at e
   have hle:aJ7 (((b.drop a).take w).drop i)≤aEg b a w:=by
    have:=aRv i ((b.drop a).take w)
    simpa[aEg]using this
   rw[aS4 _ i (by omega),hg]at hle
   simp only[aJ7]at e hle
   generalize aJ7 (((b.drop a).take w).drop (i+1))=y at e hle
   have hc:=aI9 b (a+i)
   have w1:IntKind.i64.wrap ((((i+1:Nat):Int)-1)-1)=(i:Int)-1:=by rw[aAh]<;>omega
   have w2:IntKind.i64.wrap ((a:Int)+(((i+1:Nat):Int)-1))=((a+i:Nat):Int):=by rw[aAh]<;>omega
   have w3:IntKind.i64.wrap ((b.getD (a+i) 0).toNat:Int)=((b.getD (a+i) 0).toNat:Int):=by rw[aAh]<;>omega
   have z1:(0:Int)≤((i+1:Nat):Int)-1:=by omega
   have z2:(0:Int)≤((a+i:Nat):Int):=by omega
   have z3:a+i<b.length:=by omega
   have hm:=aTn (y:Int) 8 (by omega)
   rw[show ((8:Nat):Int)=8 from rfl]at hm
   have ho:ior .i64 (aUk .i64 (y:Int) 8) ((b.getD (a+i) 0).toNat:Int)=(((b.getD (a+i) 0).toNat+256*y:Nat):Int):=by
    have:=aRw (b.getD (a+i) 0).toNat y 8 (by omega) (by omega) ((b.getD (a+i) 0).toNat:Int) (aUk .i64 (y:Int) 8) (by omega) (by rw[hm];omega)
    rw[aAh (by omega) (by omega)]at this
    have hcomm:ior .i64 (aUk .i64 (y:Int) 8) ((b.getD (a+i) 0).toNat:Int)=ior .i64 ((b.getD (a+i) 0).toNat:Int) (aUk .i64 (y:Int) 8):=by
     unfold ior;rw[BitVec.or_comm]
    rw[hcomm,this]
    omega
   simp only[aA1,aA4,aA3,decide_eq_true_eq,Bool.and_eq_true,if_true,w1,w2,z1,z2,Int.toNat_natCast,Int.ofNat_lt,z3,w3,ho,and_self]
   exact e
theorem bT7 (b:List UInt8) (a:Nat) (hb:a+8≤b.length):aEg b a (8:Int)=aJ7 ((b.drop a).take 7)+(b.getD (a+7) 0).toNat*72057594037927936∧aJ7 ((b.drop a).take 7)<72057594037927936:=by
 have hl:((b.drop a).take 7).length=7:=by simp;omega
 have e:(b.drop a).take 8=(b.drop a).take 7++[b.getD (a+7) 0]:=by
  rw[List.take_add_one]
  simp[List.getElem?_drop,List.getD_eq_getElem?_getD,show a+7<b.length by omega]
 have h1:=aN8 ((b.drop a).take 7) (b.getD (a+7) 0)
 have h2:=aRu ((b.drop a).take 7)
 rw[hl]at h1 h2
 refine⟨?_,h2⟩
 show aJ7 ((b.drop (a:Int).toNat).take (8:Int).toNat)=_
 rw[Int.toNat_natCast,show (8:Int).toNat=8 from rfl,e,h1]
theorem bKd (b:List UInt8) (a w:Nat) (hw:w≤7):aEg b a w<72057594037927936:=by
 have h:=aRu ((b.drop a).take w)
 have hl:((b.drop a).take w).length≤w:=by simp;omega
 have:256^((b.drop a).take w).length≤256^7:=Nat.pow_le_pow_right (by omega) (by omega)
 show aJ7 ((b.drop (a:Int).toNat).take (w:Int).toNat)<_
 simp only[Int.toNat_natCast]
 omega
theorem aKu (b:List UInt8) (a w:Int):aDd b a w=true↔(1≤w∧w≤8∧0≤a∧a≤b.length-w∧aEg b a w<9223372036854775808):=by simp[aDd]
theorem bRh:aAa Tryz.prog aOy:=aA8 (by simp[aDy])
theorem aPd:aAx Tryz.prog 85 (sg [pS,pI,pI] [rI,rB]) aF0:=aA6 bRh aAb Tryz.func85 (by kernel_rfl) fun cs outs hk h=>by
 unfold aF0 at h
 split at h
 ·simp only[Option.some.injEq,Prod.mk.injEq,Bool.and_eq_true,decide_eq_true_eq]at h
  obtain⟨⟨h1,h2,h3⟩,rfl⟩:=h
  rename_i b a w
  rw[aAd,bDt]
  have bad:¬(1≤w∧w≤8∧0≤a∧a≤b.length-w∧aEg b a w<9223372036854775808)→aB3 b a w=0∧aDd b a w=false:=fun h=>by
   have:aDd b a w=false:=by
    cases hh:aDd b a w with
    |true=>exact absurd ((aKu b a w).1 hh) h
    |false=>rfl
   exact⟨by unfold aB3;rw[this];rfl,this⟩
  by_cases hw:inB w 1 8=true
  ·have hw':=(aBi _ _ _).1 hw
   have wr:IntKind.i64.wrap ((b.length:Int)-w)=b.length-w:=by rw[aAh]<;>omega
   by_cases ha:inB a 0 ((b.length:Int)-w)=true
   ·have ha':=(aBi _ _ _).1 ha
    obtain⟨a,rfl⟩:=Int.eq_ofNat_of_zero_le ha'.1
    obtain⟨w,rfl⟩:=Int.eq_ofNat_of_zero_le (show 0≤w by omega)
    have lp:=fun hv=>bDu b a w (by omega) h1 (by omega) hv 9223372036854775808 w (by omega) (by omega)
    have w1:IntKind.i64.wrap ((w:Int)-1)=(w:Int)-1:=by rw[aAh]<;>omega
    have dr:((b.drop a).take w).drop w=[]:=by
     apply List.drop_eq_nil_of_le;simp;omega
    rw[dr]at lp
    have good:aEg b a w<9223372036854775808→aB3 b a w=(aEg b a w:Nat)∧aDd b a w=true:=fun h=>by
     have:aDd b a w=true:=(aKu _ _ _).2 ⟨hw'.1,hw'.2,ha'.1,ha'.2,h⟩
     exact⟨by unfold aB3;rw[this];rfl,this⟩
    by_cases h8:(w:Int)=8
    ·have h8t:((w:Int)=8)=True:=eq_true h8
     obtain⟨t1,t2⟩:=bT7 b a (by omega)
     rw[←h8]at t1
     have w7:IntKind.i64.wrap ((a:Int)+7)=((a+7:Nat):Int):=by rw[aAh]<;>omega
     have z1:(0:Int)≤((a+7:Nat):Int):=by omega
     have z2:a+7<b.length:=by omega
     by_cases hc:(127:Int)<((b.getD (a+7) 0).toNat:Int)
     ·obtain⟨b1,b2⟩:=bad (fun h=>by
       have:=h.2.2.2.2
       rw[t1]at this
       omega)
      simp only[aA1,aA4,aA3,if_true,hw,wr,ha,Bool.not_true,Bool.false_eq_true,if_false,h8t,w7,z1,z2,Bool.and_eq_true,decide_eq_true_eq,Int.toNat_natCast,Int.ofNat_lt,and_self,hc,b1,b2]
     ·have hv:aEg b a w<9223372036854775808:=by rw[t1];omega
      obtain⟨b1,b2⟩:=good hv
      simp only[aA1,aA4,aA3,if_true,hw,wr,ha,Bool.not_true,Bool.false_eq_true,if_false,h8t,w7,z1,z2,Bool.and_eq_true,decide_eq_true_eq,Int.toNat_natCast,Int.ofNat_lt,and_self,hc,w1,b1,b2]
      exact lp hv
    ·have hv:aEg b a w<9223372036854775808:=by have:=bKd b a w (by omega);omega
     obtain⟨b1,b2⟩:=good hv
     simp only[aA1,aA4,aA3,if_true,hw,wr,ha,Bool.not_true,Bool.false_eq_true,if_false,h8,decide_false,w1,b1,b2]
     exact lp hv
   ·obtain⟨b1,b2⟩:=bad (fun h=>ha ((aBi _ _ _).2 ⟨h.2.2.1,h.2.2.2.1⟩))
    simp[aA1,aA4,aA3,hw,wr,ha,b1,b2]
  ·obtain⟨b1,b2⟩:=bad (fun h=>hw ((aBi _ _ _).2 ⟨h.1,h.2.1⟩))
   simp[aA1,aA4,aA3,hw,b1,b2]
 ·cases h
theorem bFg (b:List UInt8) (a w:Nat) (hb:a+w≤b.length) (hbl:b.length≤281474976710656) (hw1:1≤w) (hw:w≤8):∀ (n i:Nat),i≤w→w<i+n →
  (aBr aP6 aAc (sg [pS,pI,pI] [rI,rB]) Tryz.f117 [.r,.r,.r,.l,.r,.b] n (aOs b a (IntKind.i64.wrap (aJ7 ((b.drop a).take i):Nat)) w i)).eval=some [.int .i64 (aB3 b a w),.bool (aDd b a w)]:=by
 intro n
 induction n with
 |zero=>intro i h1 h2;omega
 |succ n ih =>
  intro i h1 h2
  rw[aAv _ _ _ _ _ _ _ (by kernel_rfl),aYc]
  by_cases hi:i<w
  ·have e:=ih (i+1) (by omega) (by omega)
   have hl:((b.drop a).take i).length=i:=by simp;omega
   have ee:(b.drop a).take (i+1)=(b.drop a).take i++[b.getD (a+i) 0]:=by
    rw[List.take_add_one]
    simp[List.getElem?_drop,List.getD_eq_getElem?_getD,show a+i<b.length by omega]
   rw[ee,aN8,hl]at e
   have hlt:=aRu ((b.drop a).take i)
   rw[hl]at hlt
   have h7:256^i≤256^7:=Nat.pow_le_pow_right (by omega) (by omega)
   generalize aJ7 ((b.drop a).take i)=y at e hlt
   have hc:=aI9 b (a+i)
   have w1:IntKind.i64.wrap ((i:Int)+1)=((i+1:Nat):Int):=by rw[aAh]<;>omega
   have w2:IntKind.i64.wrap ((a:Int)+i)=((a+i:Nat):Int):=by rw[aAh]<;>omega
   have w3:IntKind.i64.wrap ((b.getD (a+i) 0).toNat:Int)=((b.getD (a+i) 0).toNat:Int):=by rw[aAh]<;>omega
   have w4:IntKind.i64.wrap (8*(i:Int))=((8*i:Nat):Int):=by rw[aAh]<;>omega
   have w5:IntKind.i64.wrap (y:Int)=y:=by rw[aAh]<;>omega
   have z1:(i:Int)<w:=by omega
   have z2:(0:Int)≤((a+i:Nat):Int):=by omega
   have z3:a+i<b.length:=by omega
   have z4:(0:Int)≤((8*i:Nat):Int):=by omega
   have hm:=aTn ((b.getD (a+i) 0).toNat:Int) (8*i) (by omega)
   have hpow:(b.getD (a+i) 0).toNat*256^i≤255*256^i:=Nat.mul_le_mul_right _ (by omega)
   have hp2:((b.getD (a+i) 0).toNat:Int)*2^(8*i)=(((b.getD (a+i) 0).toNat*256^i:Nat):Int):=by
    rw[←aXr];simp
   rw[hp2]at hm
   have ho:=aRw y (b.getD (a+i) 0).toNat (8*i) (by rw[aXr];exact hlt) (by rw[aXr];omega) (y:Int) (aUk .i64 ((b.getD (a+i) 0).toNat:Int) ((8*i:Nat):Int)) (by omega) (by rw[hm,aXr];omega)
   rw[aXr]at ho
   simp only[aA1,aA4,aA3,decide_eq_true_eq,Bool.and_eq_true,if_true,w1,w2,w3,w4,w5,z1,z2,Int.toNat_natCast,Int.ofNat_lt,z3,z4,ho,and_self,hi]
   exact e
  ·have hiw:i=w:=by omega
   subst hiw
   have hlt:¬((i:Int)<i):=by omega
   have hfv:aEg b a i=aJ7 ((b.drop a).take i):=by simp[aEg]
   have hl:((b.drop a).take i).length=i:=by simp;omega
   have hb8:=aRu ((b.drop a).take i)
   rw[hl]at hb8
   have h8:256^i≤256^8:=Nat.pow_le_pow_right (by omega) (by omega)
   rw[←hfv]at hb8 ⊢
   simp only[aA1,aA4,aA3,decide_eq_true_eq,if_true,hlt,if_false]
   by_cases hv:aEg b a i<9223372036854775808
   ·have hok:aDd b a i=true:=(aKu _ _ _).2 ⟨by omega,by omega,by omega,by omega,hv⟩
    have w5:IntKind.i64.wrap ((aEg b a i:Nat):Int)=(aEg b a i:Nat):=by rw[aAh]<;>omega
    have hn:¬(((aEg b a i:Nat):Int)<0):=by omega
    simp only[w5,hn,if_false,aB3,hok,if_true]
   ·have hok:aDd b a i=false:=by
     cases hh:aDd b a i with
     |true=>exact absurd ((aKu _ _ _).1 hh).2.2.2.2 hv
     |false=>rfl
    have hr:=bGw ((aEg b a i:Nat):Int)
    have hm:=bBe ((aEg b a i:Nat):Int)
    have hn:IntKind.i64.wrap ((aEg b a i:Nat):Int)<0:=by omega
    simp only[hn,if_true,aB3,hok,Bool.false_eq_true,if_false]
theorem bT0:aAa Tryz.prog aP6:=aA8 (by simp[aGm])
theorem aPl:aAx Tryz.prog 117 (sg [pS,pI,pI] [rI,rB]) aF0:=aA6 bT0 aAb Tryz.func117 (by kernel_rfl) fun cs outs hk h=>by
 unfold aF0 at h
 split at h
 ·simp only[Option.some.injEq,Prod.mk.injEq,Bool.and_eq_true,decide_eq_true_eq]at h
  obtain⟨⟨h1,h2,h3⟩,rfl⟩:=h
  rename_i b a w
  rw[aAd,bFf]
  have bad:¬(1≤w∧w≤8∧0≤a∧a≤b.length-w∧aEg b a w<9223372036854775808)→aB3 b a w=0∧aDd b a w=false:=fun h=>by
   have:aDd b a w=false:=by
    cases hh:aDd b a w with
    |true=>exact absurd ((aKu b a w).1 hh) h
    |false=>rfl
   exact⟨by unfold aB3;rw[this];rfl,this⟩
  by_cases hw:inB w 1 8=true
  ·have hw':=(aBi _ _ _).1 hw
   have wr:IntKind.i64.wrap ((b.length:Int)-w)=b.length-w:=by rw[aAh]<;>omega
   by_cases ha:inB a 0 ((b.length:Int)-w)=true
   ·have ha':=(aBi _ _ _).1 ha
    obtain⟨a,rfl⟩:=Int.eq_ofNat_of_zero_le ha'.1
    obtain⟨w,rfl⟩:=Int.eq_ofNat_of_zero_le (show 0≤w by omega)
    have lp:=bFg b a w (by omega) h1 (by omega) (by omega) 9223372036854775808 0 (by omega) (by omega)
    simp only[aA1,aA4,aA3,if_true,hw,wr,ha,Bool.not_true,Bool.false_eq_true,if_false]
    exact lp
   ·obtain⟨b1,b2⟩:=bad (fun h=>ha ((aBi _ _ _).2 ⟨h.2.2.1,h.2.2.2.1⟩))
    simp[aA1,aA4,aA3,hw,wr,ha,b1,b2]
  ·obtain⟨b1,b2⟩:=bad (fun h=>hw ((aBi _ _ _).2 ⟨h.1,h.2.1⟩))
   simp[aA1,aA4,aA3,hw,b1,b2]
 ·cases h
noncomputable section
def aD7 (v s b l:Int):Bool:=inB v 1 2&&inB s 1 20&&inB b 0 1000000000&&inB l 0 4294967295
def aDr:PTy:=.val true [.int .i64,.int .i64,.int .i64,.int .i64]
def aN2:RTy:=⟨true,[(.int .i64,false),(.int .i64,false),(.int .i64,false),(.int .i64,false)]⟩
def aEm:aCf:=fun cs=>match cs with
 |[.int .i64 v,.int .i64 s,.int .i64 b,.int .i64 l]=>some (true,[.bool (aD7 v s b l)])
 |_=>none
def aGn (v s b l:Int):List UInt8:=[83,69,71,77]++aAl v 1++aAl s 1++[0,0]++aAl b 8++aAl l 4
def aBe (v s b l:Int):List UInt8:=if aD7 v s b l then aGn v s b l++aAl (aB6 0 (aGn v s b l):Nat) 4 else[]
def aDm:aCf:=fun cs=>match cs with
 |[.int .i64 v,.int .i64 s,.int .i64 b,.int .i64 l]=>some (true,[.str (aBe v s b l)])
 |_=>none
def bL5:Env:=mkE [] [(45,(sg [pI,pI,pI] [rB]),aE4)]
def bLi:Env:=mkE [] [(37,(sg [pI,pI,pI] [rB]),aE4),(126,(sg [pI] [rB]),aGl),(96,(sg [pI] [rB]),aDk)]
def aZm:Env:=mkE [] [(123,(sg [pS] [rI]),aEb),(88,(sg [pI,pI] [rS]),aGr),(105,(sg [aDr] [rB]),aEm)]
def aZt:Env:=mkE [] [(129,(sg [pS] [rI]),aEb),(122,(sg [pI,pI] [rS]),aGr),(95,(sg [aDr] [rB]),aEm)]
def rhV (b:List UInt8):Int:=(b.getD 4 0).toNat
def rhS (b:List UInt8):Int:=(b.getD 5 0).toNat
def rhB (b:List UInt8):Int:=aB3 b 8 8
def rhL (b:List UInt8):Int:=aB3 b 16 4
def aA9 (b:List UInt8):Bool:=decide (24≤b.length)&&aDd b 8 8&&decide (aBe (rhV b) (rhS b) (rhB b) (rhL b)=b.take 24)
def ifI (c:Bool) (x:Int):Int:=if c then x else 0
def aE3:aCf:=fun cs=>match cs with
 |[.str b]=>some (decide (b.length≤281474976710656),[.int .i64 (ifI (aA9 b) (rhV b)),.int .i64 (ifI (aA9 b) (rhS b)),.int .i64 (ifI (aA9 b) (rhB b)),.int .i64 (ifI (aA9 b) (rhL b)),.bool (aA9 b)])
 |_=>none
def aZi:Env:=mkE [] [(85,(sg [pS,pI,pI] [rI,rB]),aF0),(86,(sg [aDr] [rS]),aDm)]
def aZo:Env:=mkE [] [(117,(sg [pS,pI,pI] [rI,rB]),aF0),(100,(sg [aDr] [rS]),aDm)]
end
theorem bHy (H:List Pt→Nat→St→T (List C)) (v:Int) (s:Int) (b:Int) (l:Int):aAk bL5 aAc (sg [aDr] [rB]) Tryz.f105 H [C.int .i64 v,C.int .i64 s,C.int .i64 b,C.int .i64 l]=(.must true (.must true (.must true (.must true (.ask (inB v 1 2) (.must true (.must true (.must true (.ask (inB s 1 20) (.must true (.must true (.must true (.ask (inB b 0 1000000000) (.must true (.must true (.must true (.ask (inB l 0 4294967295) (.must true (.ret [C.bool true])) (.must true (.ret [C.bool false])))))) (.must true (.ret [C.bool false])))))) (.must true (.ret [C.bool false])))))) (.must true (.ret [C.bool false]))))))):=by kernel_rfl
theorem bJx (H:List Pt→Nat→St→T (List C)) (v:Int) (s:Int) (b:Int) (l:Int):aAk bLi aAc (sg [aDr] [rB]) Tryz.f95 H [C.int .i64 v,C.int .i64 s,C.int .i64 b,C.int .i64 l]=(.must true (.must true (.must true (.must true (.ask (inB v 1 2) (.must true (.must true (.must true (.ask (inB s 1 20) (.must true (.must true (.must true (.ask (inB b 0 1000000000) (.must true (.must true (.must true (.ask (inB l 0 4294967295) (.must true (.ret [C.bool true])) (.must true (.ret [C.bool false])))))) (.must true (.ret [C.bool false])))))) (.must true (.ret [C.bool false])))))) (.must true (.ret [C.bool false]))))))):=by kernel_rfl
theorem bAg (H:List Pt→Nat→St→T (List C)) (v:Int) (s:Int) (b:Int) (l:Int):aAk aZm aAc (sg [aDr] [rS]) Tryz.f86 H [C.int .i64 v,C.int .i64 s,C.int .i64 b,C.int .i64 l]=(.must true (.must true (.must true (.must true (.ask (aD7 v s b l) (.must true (.must (decide ((-9223372036854775808:Int)≤v)&&decide (v≤(9223372036854775807:Int))) (.must true (.must (decide (4+(aAl v 1).length≤9223372036854775807)) (.must true (.must (decide ((-9223372036854775808:Int)≤s)&&decide (s≤(9223372036854775807:Int))) (.must true (.must (decide (([(83:UInt8),69,71,77]++aAl v 1).length+(aAl s 1).length≤9223372036854775807)) (.must (decide (([(83:UInt8),69,71,77]++aAl v 1++aAl s 1).length+2≤9223372036854775807)) (.must true (.must (decide ((-9223372036854775808:Int)≤b)&&decide (b≤(9223372036854775807:Int))) (.must true (.must (decide (([(83:UInt8),69,71,77]++aAl v 1++aAl s 1++[(0:UInt8),0]).length+(aAl b 8).length≤9223372036854775807)) (.must true (.must (decide ((-9223372036854775808:Int)≤l)&&decide (l≤(9223372036854775807:Int))) (.must true (.must (decide (([(83:UInt8),69,71,77]++aAl v 1++aAl s 1++[(0:UInt8),0]++aAl b 8).length+(aAl l 4).length≤9223372036854775807)) (.must true (.must (decide (([(83:UInt8),69,71,77]++aAl v 1++aAl s 1++[(0:UInt8),0]++aAl b 8++aAl l 4).length≤281474976710656)) (.must true (.must true (.must (decide ((-9223372036854775808:Int)≤Int.ofNat (aB6 0 ([(83:UInt8),69,71,77]++aAl v 1++aAl s 1++[(0:UInt8),0]++aAl b 8++aAl l 4)))&&decide (Int.ofNat (aB6 0 ([(83:UInt8),69,71,77]++aAl v 1++aAl s 1++[(0:UInt8),0]++aAl b 8++aAl l 4))≤(9223372036854775807:Int))) (.must true (.must (decide (([(83:UInt8),69,71,77]++aAl v 1++aAl s 1++[(0:UInt8),0]++aAl b 8++aAl l 4).length+(aAl (Int.ofNat (aB6 0 ([(83:UInt8),69,71,77]++aAl v 1++aAl s 1++[(0:UInt8),0]++aAl b 8++aAl l 4))) (4:Int)).length≤9223372036854775807)) (.must true (.ret [C.str ([(83:UInt8),69,71,77]++aAl v 1++aAl s 1++[(0:UInt8),0]++aAl b 8++aAl l 4++aAl (Int.ofNat (aB6 0 ([(83:UInt8),69,71,77]++aAl v 1++aAl s 1++[(0:UInt8),0]++aAl b 8++aAl l 4))) (4:Int))])))))))))))))))))))))))))) (.must true (.ret [C.str []]))))))):=by kernel_rfl
theorem bB9 (H:List Pt→Nat→St→T (List C)) (v:Int) (s:Int) (b:Int) (l:Int):aAk aZt aAc (sg [aDr] [rS]) Tryz.f100 H [C.int .i64 v,C.int .i64 s,C.int .i64 b,C.int .i64 l]=(.must true (.must true (.must true (.must true (.ask (aD7 v s b l) (.must true (.must (decide ((-9223372036854775808:Int)≤v)&&decide (v≤(9223372036854775807:Int))) (.must true (.must (decide (4+(aAl v 1).length≤9223372036854775807)) (.must true (.must (decide ((-9223372036854775808:Int)≤s)&&decide (s≤(9223372036854775807:Int))) (.must true (.must (decide (([(83:UInt8),69,71,77]++aAl v 1).length+(aAl s 1).length≤9223372036854775807)) (.must true (.must true (.must true (.must (decide (([(83:UInt8),69,71,77]++aAl v 1++aAl s 1).length+(1+1)≤9223372036854775807)) (.must true (.must (decide ((-9223372036854775808:Int)≤b)&&decide (b≤(9223372036854775807:Int))) (.must true (.must (decide (([(83:UInt8),69,71,77]++aAl v 1++aAl s 1++aAl 0 2).length+(aAl b 8).length≤9223372036854775807)) (.must true (.must (decide ((-9223372036854775808:Int)≤l)&&decide (l≤(9223372036854775807:Int))) (.must true (.must (decide (([(83:UInt8),69,71,77]++aAl v 1++aAl s 1++aAl 0 2++aAl b 8).length+(aAl l 4).length≤9223372036854775807)) (.must true (.must (decide (([(83:UInt8),69,71,77]++aAl v 1++aAl s 1++aAl 0 2++aAl b 8++aAl l 4).length≤281474976710656)) (.must true (.must true (.must (decide ((-9223372036854775808:Int)≤Int.ofNat (aB6 0 ([(83:UInt8),69,71,77]++aAl v 1++aAl s 1++aAl 0 2++aAl b 8++aAl l 4)))&&decide (Int.ofNat (aB6 0 ([(83:UInt8),69,71,77]++aAl v 1++aAl s 1++aAl 0 2++aAl b 8++aAl l 4))≤(9223372036854775807:Int))) (.must true (.must (decide (([(83:UInt8),69,71,77]++aAl v 1++aAl s 1++aAl 0 2++aAl b 8++aAl l 4).length+(aAl (Int.ofNat (aB6 0 ([(83:UInt8),69,71,77]++aAl v 1++aAl s 1++aAl 0 2++aAl b 8++aAl l 4))) (4:Int)).length≤9223372036854775807)) (.must true (.ret [C.str ([(83:UInt8),69,71,77]++aAl v 1++aAl s 1++aAl 0 2++aAl b 8++aAl l 4++aAl (Int.ofNat (aB6 0 ([(83:UInt8),69,71,77]++aAl v 1++aAl s 1++aAl 0 2++aAl b 8++aAl l 4))) (4:Int))]))))))))))))))))))))))))))))) (.must true (.ret [C.str []]))))))):=by kernel_rfl
theorem bA7 (H:List Pt→Nat→St→T (List C)) (b:List UInt8):aAk aZi aAc (sg [pS] [aN2,rB]) Tryz.f64 H [C.str b]=(.must true (.ask (decide ((↑b.length:Int)<(24:Int))) (.must true (.ret [C.int .i64 0,C.int .i64 0,C.int .i64 0,C.int .i64 0,C.bool false])) (.must true (.must (decide (b.length≤281474976710656)&&(decide ((-9223372036854775808:Int)≤(8:Int))&&decide ((8:Int)≤(9223372036854775807:Int)))) (.must true (.ask (aDd b 8 8) (.must true (.must (decide (b.length≤281474976710656)&&(decide ((-9223372036854775808:Int)≤(16:Int))&&decide ((16:Int)≤(9223372036854775807:Int)))) (.must true (.ask (aDd b 16 4) (.must (decide ((0:Int)≤(4:Int))&&decide ((4:Int)<(↑b.length:Int))) (.must (decide ((0:Int)≤(5:Int))&&decide ((5:Int)<(↑b.length:Int))) (.must true (.must true (.must true (.must (decide ((0:Int)≤(24:Int))&&decide ((24:Int)≤(↑b.length:Int))) (.ask (!aBe (IntKind.i64.wrap (↑(b.getD (Int.toNat 4) (0:UInt8)).toNat:Int)) (IntKind.i64.wrap (↑(b.getD (Int.toNat 5) (0:UInt8)).toNat:Int)) (aB3 b 8 8) (aB3 b 16 4)==List.drop 0 (List.take (Int.toNat 24) b)) (.must true (.ret [C.int .i64 0,C.int .i64 0,C.int .i64 0,C.int .i64 0,C.bool false])) (.must true (.ret [C.int .i64 (IntKind.i64.wrap (↑(b.getD (Int.toNat 4) (0:UInt8)).toNat:Int)),C.int .i64 (IntKind.i64.wrap (↑(b.getD (Int.toNat 5) (0:UInt8)).toNat:Int)),C.int .i64 (aB3 b 8 8),C.int .i64 (aB3 b 16 4),C.bool true]))))))))) (.must (decide ((0:Int)≤(4:Int))&&decide ((4:Int)<(↑b.length:Int))) (.must (decide ((0:Int)≤(5:Int))&&decide ((5:Int)<(↑b.length:Int))) (.must true (.must true (.must true (.must (decide ((0:Int)≤(24:Int))&&decide ((24:Int)≤(↑b.length:Int))) (.ask (!aBe (IntKind.i64.wrap (↑(b.getD (Int.toNat 4) (0:UInt8)).toNat:Int)) (IntKind.i64.wrap (↑(b.getD (Int.toNat 5) (0:UInt8)).toNat:Int)) (aB3 b 8 8) (aB3 b 16 4)==List.drop 0 (List.take (Int.toNat 24) b)) (.must true (.ret [C.int .i64 0,C.int .i64 0,C.int .i64 0,C.int .i64 0,C.bool false])) (.must true (.ret [C.int .i64 (IntKind.i64.wrap (↑(b.getD (Int.toNat 4) (0:UInt8)).toNat:Int)),C.int .i64 (IntKind.i64.wrap (↑(b.getD (Int.toNat 5) (0:UInt8)).toNat:Int)),C.int .i64 (aB3 b 8 8),C.int .i64 (aB3 b 16 4),C.bool true]))))))))))))) (.must true (.must (decide (b.length≤281474976710656)&&(decide ((-9223372036854775808:Int)≤(16:Int))&&decide ((16:Int)≤(9223372036854775807:Int)))) (.must true (.ask (aDd b 16 4) (.must (decide ((0:Int)≤(4:Int))&&decide ((4:Int)<(↑b.length:Int))) (.must (decide ((0:Int)≤(5:Int))&&decide ((5:Int)<(↑b.length:Int))) (.must true (.ret [C.int .i64 0,C.int .i64 0,C.int .i64 0,C.int .i64 0,C.bool false])))) (.must (decide ((0:Int)≤(4:Int))&&decide ((4:Int)<(↑b.length:Int))) (.must (decide ((0:Int)≤(5:Int))&&decide ((5:Int)<(↑b.length:Int))) (.must true (.ret [C.int .i64 0,C.int .i64 0,C.int .i64 0,C.int .i64 0,C.bool false])))))))))))))):=by kernel_rfl
theorem bB1 (H:List Pt→Nat→St→T (List C)) (b:List UInt8):aAk aZo aAc (sg [pS] [aN2,rB]) Tryz.f81 H [C.str b]=(.must true (.ask (decide ((↑b.length:Int)<(24:Int))) (.must true (.ret [C.int .i64 0,C.int .i64 0,C.int .i64 0,C.int .i64 0,C.bool false])) (.must true (.must (decide (b.length≤281474976710656)&&(decide ((-9223372036854775808:Int)≤(8:Int))&&decide ((8:Int)≤(9223372036854775807:Int)))) (.must true (.ask (aDd b 8 8) (.must true (.must (decide (b.length≤281474976710656)&&(decide ((-9223372036854775808:Int)≤(16:Int))&&decide ((16:Int)≤(9223372036854775807:Int)))) (.must true (.ask (aDd b 16 4) (.must (decide ((0:Int)≤(4:Int))&&decide ((4:Int)<(↑b.length:Int))) (.must (decide ((0:Int)≤(5:Int))&&decide ((5:Int)<(↑b.length:Int))) (.must true (.must true (.must true (.must (decide ((0:Int)≤(24:Int))&&decide ((24:Int)≤(↑b.length:Int))) (.ask (!aBe (IntKind.i64.wrap (↑(b.getD (Int.toNat 4) (0:UInt8)).toNat:Int)) (IntKind.i64.wrap (↑(b.getD (Int.toNat 5) (0:UInt8)).toNat:Int)) (aB3 b 8 8) (aB3 b 16 4)==List.drop 0 (List.take (Int.toNat 24) b)) (.must true (.ret [C.int .i64 0,C.int .i64 0,C.int .i64 0,C.int .i64 0,C.bool false])) (.must true (.ret [C.int .i64 (IntKind.i64.wrap (↑(b.getD (Int.toNat 4) (0:UInt8)).toNat:Int)),C.int .i64 (IntKind.i64.wrap (↑(b.getD (Int.toNat 5) (0:UInt8)).toNat:Int)),C.int .i64 (aB3 b 8 8),C.int .i64 (aB3 b 16 4),C.bool true]))))))))) (.must (decide ((0:Int)≤(4:Int))&&decide ((4:Int)<(↑b.length:Int))) (.must (decide ((0:Int)≤(5:Int))&&decide ((5:Int)<(↑b.length:Int))) (.must true (.must true (.must true (.must (decide ((0:Int)≤(24:Int))&&decide ((24:Int)≤(↑b.length:Int))) (.ask (!aBe (IntKind.i64.wrap (↑(b.getD (Int.toNat 4) (0:UInt8)).toNat:Int)) (IntKind.i64.wrap (↑(b.getD (Int.toNat 5) (0:UInt8)).toNat:Int)) (aB3 b 8 8) (aB3 b 16 4)==List.drop 0 (List.take (Int.toNat 24) b)) (.must true (.ret [C.int .i64 0,C.int .i64 0,C.int .i64 0,C.int .i64 0,C.bool false])) (.must true (.ret [C.int .i64 (IntKind.i64.wrap (↑(b.getD (Int.toNat 4) (0:UInt8)).toNat:Int)),C.int .i64 (IntKind.i64.wrap (↑(b.getD (Int.toNat 5) (0:UInt8)).toNat:Int)),C.int .i64 (aB3 b 8 8),C.int .i64 (aB3 b 16 4),C.bool true]))))))))))))) (.must true (.must (decide (b.length≤281474976710656)&&(decide ((-9223372036854775808:Int)≤(16:Int))&&decide ((16:Int)≤(9223372036854775807:Int)))) (.must true (.ask (aDd b 16 4) (.must (decide ((0:Int)≤(4:Int))&&decide ((4:Int)<(↑b.length:Int))) (.must (decide ((0:Int)≤(5:Int))&&decide ((5:Int)<(↑b.length:Int))) (.must true (.ret [C.int .i64 0,C.int .i64 0,C.int .i64 0,C.int .i64 0,C.bool false])))) (.must (decide ((0:Int)≤(4:Int))&&decide ((4:Int)<(↑b.length:Int))) (.must (decide ((0:Int)≤(5:Int))&&decide ((5:Int)<(↑b.length:Int))) (.must true (.ret [C.int .i64 0,C.int .i64 0,C.int .i64 0,C.int .i64 0,C.bool false])))))))))))))):=by kernel_rfl
theorem aBn (n w:Int):(aAl n w).length≤8:=by
 unfold aAl;split
 ·rw[aCe];omega
 ·simp
theorem bUm:aAa Tryz.prog bL5:=aA8 (by simp[aDy])
theorem aLi:aAx Tryz.prog 105 (sg [aDr] [rB]) aEm:=aA6 bUm aAb Tryz.func105 (by kernel_rfl) fun cs outs hk h=>by
 unfold aEm at h
 split at h
 ·simp only[Option.some.injEq,Prod.mk.injEq,true_and]at h
  rw[←h,aAd,bHy]
  simp only[aA1,aA4,aA3,if_true,aD7]
  repeat' split
  all_goals first | rfl | (simp_all;done)
 ·cases h
theorem bWn:aAa Tryz.prog bLi:=aA8 (by simp[aGm,aI6,aD9])
theorem aLs:aAx Tryz.prog 95 (sg [aDr] [rB]) aEm:=aA6 bWn aAb Tryz.func95 (by kernel_rfl) fun cs outs hk h=>by
 unfold aEm at h
 split at h
 ·simp only[Option.some.injEq,Prod.mk.injEq,true_and]at h
  rw[←h,aAd,bJx]
  simp only[aA1,aA4,aA3,if_true,aD7]
  repeat' split
  all_goals first | rfl | (simp_all;done)
 ·cases h
theorem aDi (v s b l:Int):aD7 v s b l=true↔(1≤v∧v≤2)∧(1≤s∧s≤20)∧(0≤b∧b≤1000000000)∧(0≤l∧l≤4294967295):=by
 simp[aD7,inB,and_assoc]
theorem bMi:aAa Tryz.prog aZm:=aA8 (by simp[aJj,aFp,aLi])
theorem aJ0:aAx Tryz.prog 86 (sg [aDr] [rS]) aDm:=aA6 bMi aAb Tryz.func86 (by kernel_rfl) fun cs outs hk h=>by
 unfold aDm at h
 split at h
 ·simp only[Option.some.injEq,Prod.mk.injEq,true_and]at h
  rename_i v s b l
  rw[←h,aAd,bAg]
  by_cases hok:aD7 v s b l=true
  ·obtain⟨⟨a1,a2⟩,⟨a3,a4⟩,⟨a5,a6⟩,a7,a8⟩:=(aDi v s b l).1 hok
   have l1:=aBn v 1
   have l2:=aBn s 1
   have l3:=aBn b 8
   have l4:=aBn l 4
   have l5:=aBn (aB6 0 (aGn v s b l):Nat) 4
   have c1:=aEn 0 (aGn v s b l) (by omega)
   have e:aBe v s b l=aGn v s b l++aAl (aB6 0 (aGn v s b l):Nat) 4:=by simp[aBe,hok]
   rw[e]
   unfold aGn at *
   simp only[aA1,aA4,aA3,if_true,hok,decide_eq_true_eq,Bool.and_eq_true,List.length_append,List.length_cons,List.length_nil,Int.ofNat_eq_natCast]
   repeat rw[if_pos (by omega)]
  ·simp[aA1,aA4,aA3,hok,aBe]
 ·cases h
theorem bO0:aAa Tryz.prog aZt:=aA8 (by simp[aJr,aFs,aLs])
theorem aNg:aAx Tryz.prog 100 (sg [aDr] [rS]) aDm:=aA6 bO0 aAb Tryz.func100 (by kernel_rfl) fun cs outs hk h=>by
 unfold aDm at h
 split at h
 ·simp only[Option.some.injEq,Prod.mk.injEq,true_and]at h
  rename_i v s b l
  rw[←h,aAd,bB9]
  by_cases hok:aD7 v s b l=true
  ·obtain⟨⟨a1,a2⟩,⟨a3,a4⟩,⟨a5,a6⟩,a7,a8⟩:=(aDi v s b l).1 hok
   have l1:=aBn v 1
   have l2:=aBn s 1
   have l3:=aBn b 8
   have l4:=aBn l 4
   have l5:=aBn (aB6 0 (aGn v s b l):Nat) 4
   have c1:=aEn 0 (aGn v s b l) (by omega)
   have f0:aAl 0 2=[0,0]:=by decide
   have e:aBe v s b l=aGn v s b l++aAl (aB6 0 (aGn v s b l):Nat) 4:=by simp[aBe,hok]
   rw[e]
   unfold aGn at *
   simp only[aA1,aA4,aA3,if_true,hok,decide_eq_true_eq,Bool.and_eq_true,List.length_append,List.length_cons,List.length_nil,Int.ofNat_eq_natCast,f0]
   repeat rw[if_pos (by omega)]
  ·simp[aA1,aA4,aA3,hok,aBe]
 ·cases h
theorem bMa:aAa Tryz.prog aZi:=aA8 (by simp[aPd,aJ0])
theorem aMu:aAx Tryz.prog 64 (sg [pS] [aN2,rB]) aE3:=aA6 bMa aAb Tryz.func64 (by kernel_rfl) fun cs outs hk h=>by
 unfold aE3 at h
 split at h
 ·simp only[Option.some.injEq,Prod.mk.injEq,decide_eq_true_eq]at h
  obtain⟨h1,rfl⟩:=h
  rename_i b
  rw[aAd,bA7]
  have c4:=aI9 b 4
  have c5:=aI9 b 5
  have w4:IntKind.i64.wrap ((b.getD 4 0).toNat:Int)=rhV b:=by rw[aAh]<;>first | rfl | omega
  have w5:IntKind.i64.wrap ((b.getD 5 0).toNat:Int)=rhS b:=by rw[aAh]<;>first | rfl | omega
  have t4:Int.toNat (4:Int)=4:=rfl
  have t5:Int.toNat (5:Int)=5:=rfl
  have t24:Int.toNat (24:Int)=24:=rfl
  have eB:aB3 b 8 8=rhB b:=rfl
  have eL:aB3 b 16 4=rhL b:=rfl
  simp only[t4,t5,t24,w4,w5,eB,eL,List.drop_zero]
  by_cases h24:(b.length:Int)<24
  ·have ho:aA9 b=false:=by unfold aA9;rw[decide_eq_false (by omega)];rfl
   simp[aA1,aA4,aA3,h24,ho,ifI]
  ·have g1:(4:Int)<b.length:=by omega
   have g2:(5:Int)<b.length:=by omega
   have g3:(24:Int)≤b.length:=by omega
   have g4:24≤b.length:=by omega
   by_cases h8:aDd b 8 8=true
   ·by_cases ht:aBe (rhV b) (rhS b) (rhB b) (rhL b)=b.take 24
    ·have ho:aA9 b=true:=by unfold aA9;rw[decide_eq_true g4,h8,decide_eq_true ht];rfl
     have hb:(aBe (rhV b) (rhS b) (rhB b) (rhL b)==b.take 24)=true:=by rw[ht];simp
     by_cases h16:aDd b 16 4=true<;>simp[aA1,aA4,aA3,h24,h8,h16,h1,g1,g2,g3,t4,t5,t24,w4,w5,eB,eL,ht,ho,ifI]
    ·have ho:aA9 b=false:=by unfold aA9;rw[decide_eq_true g4,h8,decide_eq_false ht];rfl
     by_cases h16:aDd b 16 4=true<;>simp[aA1,aA4,aA3,h24,h8,h16,h1,g1,g2,g3,t4,t5,t24,w4,w5,eB,eL,ht,ho,ifI]
   ·have ho:aA9 b=false:=by unfold aA9;rw[Bool.eq_false_iff.2 h8];simp
    by_cases h16:aDd b 16 4=true<;>simp[aA1,aA4,aA3,h24,h8,h16,h1,g1,g2,g3,t4,t5,t24,ho,ifI]<;>(intros;simp_all)
 ·cases h
theorem bNu:aAa Tryz.prog aZo:=aA8 (by simp[aPl,aNg])
theorem aNf:aAx Tryz.prog 81 (sg [pS] [aN2,rB]) aE3:=aA6 bNu aAb Tryz.func81 (by kernel_rfl) fun cs outs hk h=>by
 unfold aE3 at h
 split at h
 ·simp only[Option.some.injEq,Prod.mk.injEq,decide_eq_true_eq]at h
  obtain⟨h1,rfl⟩:=h
  rename_i b
  rw[aAd,bB1]
  have c4:=aI9 b 4
  have c5:=aI9 b 5
  have w4:IntKind.i64.wrap ((b.getD 4 0).toNat:Int)=rhV b:=by rw[aAh]<;>first | rfl | omega
  have w5:IntKind.i64.wrap ((b.getD 5 0).toNat:Int)=rhS b:=by rw[aAh]<;>first | rfl | omega
  have t4:Int.toNat (4:Int)=4:=rfl
  have t5:Int.toNat (5:Int)=5:=rfl
  have t24:Int.toNat (24:Int)=24:=rfl
  have eB:aB3 b 8 8=rhB b:=rfl
  have eL:aB3 b 16 4=rhL b:=rfl
  simp only[t4,t5,t24,w4,w5,eB,eL,List.drop_zero]
  by_cases h24:(b.length:Int)<24
  ·have ho:aA9 b=false:=by unfold aA9;rw[decide_eq_false (by omega)];rfl
   simp[aA1,aA4,aA3,h24,ho,ifI]
  ·have g1:(4:Int)<b.length:=by omega
   have g2:(5:Int)<b.length:=by omega
   have g3:(24:Int)≤b.length:=by omega
   have g4:24≤b.length:=by omega
   by_cases h8:aDd b 8 8=true
   ·by_cases ht:aBe (rhV b) (rhS b) (rhB b) (rhL b)=b.take 24
    ·have ho:aA9 b=true:=by unfold aA9;rw[decide_eq_true g4,h8,decide_eq_true ht];rfl
     have hb:(aBe (rhV b) (rhS b) (rhB b) (rhL b)==b.take 24)=true:=by rw[ht];simp
     by_cases h16:aDd b 16 4=true<;>simp[aA1,aA4,aA3,h24,h8,h16,h1,g1,g2,g3,t4,t5,t24,w4,w5,eB,eL,ht,ho,ifI]
    ·have ho:aA9 b=false:=by unfold aA9;rw[decide_eq_true g4,h8,decide_eq_false ht];rfl
     by_cases h16:aDd b 16 4=true<;>simp[aA1,aA4,aA3,h24,h8,h16,h1,g1,g2,g3,t4,t5,t24,w4,w5,eB,eL,ht,ho,ifI]
   ·have ho:aA9 b=false:=by unfold aA9;rw[Bool.eq_false_iff.2 h8];simp
    by_cases h16:aDd b 16 4=true<;>simp[aA1,aA4,aA3,h24,h8,h16,h1,g1,g2,g3,t4,t5,t24,ho,ifI]<;>(intros;simp_all)
 ·cases h
noncomputable section
def aD3:Nat→Nat→List UInt8
 |0,_=>[]
 |k+1,n=>if n<128 then[UInt8.ofNat n]else UInt8.ofNat (n % 128+128)::aD3 k (n / 128)
def aB4 (n:Int):List UInt8:=if inB n 0 1000000000 then aD3 5 n.toNat else[]
def aDp:aCf:=fun cs=>match cs with
 |[.int .i64 n]=>some (true,[.str (aB4 n)])
 |_=>none
def aOi (n:Int) (m:Nat) (r:List (List C)):St:=st1 [(0,aBf n),(3,.l (.ref 0 0 m))] 1 r
def aOo (n:Int) (m:Nat) (r:List (List C)):St:=st1 [(0,aBf n),(3,.l (.ref 0 0 m))] 1 r
def aOt:Env:=mkE [(4,[0,3])] [(45,(sg [pI,pI,pI] [rB]),aE4)]
def aP2:Env:=mkE [(4,[0,3])] [(96,(sg [pI] [rB]),aDk)]
def bS2 (b:List UInt8) (at':Nat):Nat→Nat→Nat→Option (Nat×Nat)
 |0,_,_=>none
 |f+1,k,n=>if at'+k<b.length then
   if (b.getD (at'+k) 0).toNat<128 then
    if (k>0∧(b.getD (at'+k) 0).toNat=0)∨1000000000<n+(b.getD (at'+k) 0).toNat*128^k then none else some (n+(b.getD (at'+k) 0).toNat*128^k,at'+k+1)
   else bS2 b at' f (k+1) (n+((b.getD (at'+k) 0).toNat-128)*128^k)
  else none
def aK9 (b:List UInt8) (at':Int):Option (Nat×Nat):=if 0≤at' then bS2 b at'.toNat 5 0 0 else none
def bP9 (b:List UInt8) (at':Int):Bool:=(aK9 b at').isSome
def rvN (b:List UInt8) (at':Int):Int:=match aK9 b at' with | some p=>p.1 | none=>0
def aCu (b:List UInt8) (at':Int):Int:=match aK9 b at' with | some p=>p.2 | none=>0
def aH9:aCf:=fun cs=>match cs with
 |[.str b,.int .i64 a]=>some (decide (b.length≤281474976710656)&&(decide (-9223372036854775808≤a)&&decide (a≤9223372036854775807)),[.int .i64 (rvN b a),.int .i64 (aCu b a),.bool (bP9 b a)])
 |_=>none
def aOl (b:List UInt8) (a n i:Int):St:=st0 [(0,aZu b),(1,aBf a),(7,aBf n),(8,aBf i)]
def aOr (b:List UInt8) (a n i:Int):St:=st0 [(0,aZu b),(1,aBf a),(7,aBf n),(10,aBf i)]
def aOx:Env:=mkE [(5,[0,1,7,8])] [(45,(sg [pI,pI,pI] [rB]),aE4),(125,(sg [pI] [rS]),aDp)]
def aP5:Env:=mkE [(3,[0,1,7,10])] [(37,(sg [pI,pI,pI] [rB]),aE4),(96,(sg [pI] [rB]),aDk)]
end
theorem bDd (H:List Pt→Nat→St→T (List C)) (n:Int):aAk aOt aAc (sg [pI] [rS]) Tryz.f125 H [C.int .i64 n]=(.must true (.must true (.must true (.must true (.ask (inB n 0 1000000000) (H [Pt.r,Pt.r,Pt.r,Pt.l,Pt.b] 9223372036854775808 (aOi (n) (0) ([]))) (.must true (.ret [C.str []]))))))):=by kernel_rfl
theorem bF4 (H:List Pt→Nat→St→T (List C)) (n:Int):aAk aP2 aAc (sg [pI] [rS]) Tryz.f130 H [C.int .i64 n]=(.must true (.must true (.must true (.must true (.ask (inB n 0 1000000000) (H [Pt.r,Pt.r,Pt.r,Pt.l,Pt.b] 9223372036854775808 (aOo (n) (0) ([]))) (.must true (.ret [C.str []]))))))):=by kernel_rfl
theorem aMq (H:List Pt→Nat→St→T (List C)) (n:Int) (q:Nat) (r:List (List C)) (k:Nat):aBl aOt aAc (sg [pI] [rS]) Tryz.f125 H [Pt.r,Pt.r,Pt.r,Pt.l,Pt.b] k (aOi n q r)=(.ask (decide ((127:Int)<n)) (.must (decide (q=r.length)&&aBj (r.length+1) 1&&(decide (1=1)&&true)) (.must true (H [Pt.r,Pt.r,Pt.r,Pt.l,Pt.b] k (aOi (aKg .i64 n 7) (r.length+1) (r.append [[C.int .u8 (IntKind.u8.wrap (ior .i64 (aHt .i64 n 127) 128))]]))))) (.must (decide (q=r.length)&&aBj (r.length+1) 1&&(decide (1=1)&&true)) (.must ((List.take (r.length+1) (r.append [[C.int .u8 (IntKind.u8.wrap n)]])).all aGw) (.must true (.ret [C.str (aC0 (List.take (r.length+1) (r.append [[C.int .u8 (IntKind.u8.wrap n)]])))]))))):=by kernel_rfl
theorem aNa (H:List Pt→Nat→St→T (List C)) (n:Int) (q:Nat) (r:List (List C)) (k:Nat):aBl aP2 aAc (sg [pI] [rS]) Tryz.f130 H [Pt.r,Pt.r,Pt.r,Pt.l,Pt.b] k (aOo n q r)=(.ask (decide ((128:Int)≤n)) (.must (decide (q=r.length)&&aBj (r.length+1) 1&&(decide (1=1)&&true)) (.must true (H [Pt.r,Pt.r,Pt.r,Pt.l,Pt.b] k (aOo (aKg .i64 n 7) (r.length+1) (r.append [[C.int .u8 (ior .u8 (IntKind.u8.wrap n) 128)]]))))) (.must (decide (q=r.length)&&aBj (r.length+1) 1&&(decide (1=1)&&true)) (.must ((List.take (r.length+1) (r.append [[C.int .u8 (IntKind.u8.wrap n)]])).all aGw) (.must true (.ret [C.str (aC0 (List.take (r.length+1) (r.append [[C.int .u8 (IntKind.u8.wrap n)]])))]))))):=by kernel_rfl
theorem bDq (H:List Pt→Nat→St→T (List C)) (b:List UInt8) (a:Int):aAk aOx aAc (sg [pS,pI] [rI,rI,rB]) Tryz.f90 H [C.str b,C.int .i64 a]=(.must true (.must true (.must true (.must true (.ask (inB a 0 (↑b.length:Int)) (H [Pt.r,Pt.r,Pt.r,Pt.l,Pt.r,Pt.b] 9223372036854775808 (aOl (b) (a) ((0:Int)) ((0:Int)))) (.must true (.ret [C.int .i64 0,C.int .i64 0,C.bool false]))))))):=by kernel_rfl
theorem bFc (H:List Pt→Nat→St→T (List C)) (b:List UInt8) (a:Int):aAk aP5 aAc (sg [pS,pI] [rI,rI,rB]) Tryz.f120 H [C.str b,C.int .i64 a]=(.must true (H [Pt.r,Pt.r,Pt.l,Pt.r,Pt.b] 9223372036854775808 (aOr (b) (a) ((0:Int)) ((0:Int))))):=by kernel_rfl
theorem aX0 (H:List Pt→Nat→St→T (List C)) (b:List UInt8) (a:Int) (n:Int) (i:Int) (k:Nat):aBl aOx aAc (sg [pS,pI] [rI,rI,rB]) Tryz.f90 H [Pt.r,Pt.r,Pt.r,Pt.l,Pt.r,Pt.b] k (aOl b a n i)=(.ask (decide (i<(5:Int))) (.ask (decide (IntKind.i64.wrap (a+i)<(↑b.length:Int))) (.must (decide ((0:Int)≤IntKind.i64.wrap (a+i))&&decide (IntKind.i64.wrap (a+i)<(↑b.length:Int))) (.must (decide ((0:Int)≤IntKind.u64.wrap (IntKind.i64.wrap ((7:Int)*i)))) (.ask (decide (IntKind.i64.wrap (↑(b.getD (IntKind.i64.wrap (a+i)).toNat (0:UInt8)).toNat:Int)<(128:Int))) (.must true (.must true (.must true (.ask (aB4 (ior .i64 n (aUk .i64 (aHt .i64 (IntKind.i64.wrap (↑(b.getD (IntKind.i64.wrap (a+i)).toNat (0:UInt8)).toNat:Int)) (127:Int)) (IntKind.u64.wrap (IntKind.i64.wrap ((7:Int)*i)))))==[]) (.must true (.ret [C.int .i64 0,C.int .i64 0,C.bool false])) (.must (decide ((0:Int)≤IntKind.i64.wrap (IntKind.i64.wrap (a+i)+(1:Int)))&&decide (IntKind.i64.wrap (IntKind.i64.wrap (a+i)+(1:Int))≤(↑b.length:Int))&&(decide ((0:Int)≤a)&&decide (a≤IntKind.i64.wrap (IntKind.i64.wrap (a+i)+(1:Int))))) (.ask (!aB4 (ior .i64 n (aUk .i64 (aHt .i64 (IntKind.i64.wrap (↑(b.getD (IntKind.i64.wrap (a+i)).toNat (0:UInt8)).toNat:Int)) (127:Int)) (IntKind.u64.wrap (IntKind.i64.wrap ((7:Int)*i)))))==List.drop a.toNat (List.take (IntKind.i64.wrap (IntKind.i64.wrap (a+i)+(1:Int))).toNat b)) (.must true (.ret [C.int .i64 0,C.int .i64 0,C.bool false])) (.must true (.ret [C.int .i64 (ior .i64 n (aUk .i64 (aHt .i64 (IntKind.i64.wrap (↑(b.getD (IntKind.i64.wrap (a+i)).toNat (0:UInt8)).toNat:Int)) (127:Int)) (IntKind.u64.wrap (IntKind.i64.wrap ((7:Int)*i))))),C.int .i64 (IntKind.i64.wrap (IntKind.i64.wrap (a+i)+(1:Int))),C.bool true])))))))) (H [Pt.r,Pt.r,Pt.r,Pt.l,Pt.r,Pt.b] k (aOl (b) (a) (ior .i64 n (aUk .i64 (aHt .i64 (IntKind.i64.wrap (↑(b.getD (IntKind.i64.wrap (a+i)).toNat (0:UInt8)).toNat:Int)) (127:Int)) (IntKind.u64.wrap (IntKind.i64.wrap ((7:Int)*i))))) (IntKind.i64.wrap (i+(1:Int)))))))) (.must true (.ret [C.int .i64 0,C.int .i64 0,C.bool false]))) (.must true (.ret [C.int .i64 0,C.int .i64 0,C.bool false]))):=by kernel_rfl
theorem aNe (H:List Pt→Nat→St→T (List C)) (b:List UInt8) (a:Int) (n:Int) (i:Int) (k:Nat):aBl aP5 aAc (sg [pS,pI] [rI,rI,rB]) Tryz.f120 H [Pt.r,Pt.r,Pt.l,Pt.r,Pt.b] k (aOr b a n i)=(.ask (decide (i<(5:Int))) (.must true (.must true (.must true (.ask (inB a 0 (IntKind.i64.wrap (IntKind.i64.wrap ((↑b.length:Int)-(1:Int))-i))) (.must (decide ((0:Int)≤IntKind.i64.wrap (a+i))&&decide (IntKind.i64.wrap (a+i)<(↑b.length:Int))) (.must (decide ((0:Int)≤IntKind.i64.wrap ((7:Int)*i))) (.ask (decide ((128:Int)≤IntKind.i64.wrap (↑(b.getD (IntKind.i64.wrap (a+i)).toNat (0:UInt8)).toNat:Int))) (H [Pt.r,Pt.r,Pt.l,Pt.r,Pt.b] k (aOr (b) (a) (ior .i64 n (aUk .i64 (aHt .i64 (IntKind.i64.wrap (↑(b.getD (IntKind.i64.wrap (a+i)).toNat (0:UInt8)).toNat:Int)) (127:Int)) (IntKind.i64.wrap ((7:Int)*i)))) (IntKind.i64.wrap (i+(1:Int))))) (.ask (decide ((0:Int)<i)) (.ask (decide (IntKind.i64.wrap (↑(b.getD (IntKind.i64.wrap (a+i)).toNat (0:UInt8)).toNat:Int)=(0:Int))) (.must true (.ret [C.int .i64 0,C.int .i64 0,C.bool false])) (.must true (.must true (.must true (.ask (inB (ior .i64 n (aUk .i64 (aHt .i64 (IntKind.i64.wrap (↑(b.getD (IntKind.i64.wrap (a+i)).toNat (0:UInt8)).toNat:Int)) (127:Int)) (IntKind.i64.wrap ((7:Int)*i)))) (0:Int) (1000000000:Int)) (.must true (.ret [C.int .i64 (ior .i64 n (aUk .i64 (aHt .i64 (IntKind.i64.wrap (↑(b.getD (IntKind.i64.wrap (a+i)).toNat (0:UInt8)).toNat:Int)) (127:Int)) (IntKind.i64.wrap ((7:Int)*i)))),C.int .i64 (IntKind.i64.wrap (IntKind.i64.wrap (a+i)+(1:Int))),C.bool true])) (.must true (.ret [C.int .i64 0,C.int .i64 0,C.bool false]))))))) (.must true (.must true (.must true (.ask (inB (ior .i64 n (aUk .i64 (aHt .i64 (IntKind.i64.wrap (↑(b.getD (IntKind.i64.wrap (a+i)).toNat (0:UInt8)).toNat:Int)) (127:Int)) (IntKind.i64.wrap ((7:Int)*i)))) (0:Int) (1000000000:Int)) (.must true (.ret [C.int .i64 (ior .i64 n (aUk .i64 (aHt .i64 (IntKind.i64.wrap (↑(b.getD (IntKind.i64.wrap (a+i)).toNat (0:UInt8)).toNat:Int)) (127:Int)) (IntKind.i64.wrap ((7:Int)*i)))),C.int .i64 (IntKind.i64.wrap (IntKind.i64.wrap (a+i)+(1:Int))),C.bool true])) (.must true (.ret [C.int .i64 0,C.int .i64 0,C.bool false])))))))))) (.must true (.ret [C.int .i64 0,C.int .i64 0,C.bool false])))))) (.must true (.ret [C.int .i64 0,C.int .i64 0,C.bool false]))):=by kernel_rfl
theorem bNm (s:Int):aHt .i64 s 127=s % 128:=by
 show IntKind.i64.wrap (((BitVec.ofInt 64 s&&&BitVec.ofInt 64 127).toNat:Nat):Int)=_
 rw[BitVec.toNat_and]
 have h1:(BitVec.ofInt 64 127).toNat=2^7-1:=by decide
 have h2:(BitVec.ofInt 64 s).toNat=(s % 18446744073709551616).toNat:=by simp[BitVec.toNat_ofInt]
 rw[h1,h2,Nat.and_two_pow_sub_one_eq_mod,aAh]<;>omega
theorem bVo:∀ x:Fin 256,x.val|||128=x.val % 128+128:=by decide +kernel
theorem bPo (n:Nat):ior .u8 (IntKind.u8.wrap (n:Int)) 128=((n % 128+128:Nat):Int):=by
 rw[aSx]
 show IntKind.u8.wrap (((BitVec.ofInt 8 ((n:Int) % 256)|||BitVec.ofInt 8 128).toNat:Nat):Int)=_
 rw[BitVec.toNat_or]
 have h1:(BitVec.ofInt 8 128).toNat=128:=by decide
 have h2:(BitVec.ofInt 8 ((n:Int) % 256)).toNat=n % 256:=by simp[BitVec.toNat_ofInt];omega
 have h3:=bVo ⟨n % 256,by omega⟩
 simp only[]at h3
 rw[h1,h2,h3,aQp]<;>omega
theorem bJn (n:Nat):IntKind.u8.wrap (ior .i64 ((n % 128:Nat):Int) 128)=((n % 128+128:Nat):Int):=by
 have:=aRw (n % 128) 1 7 (by omega) (by omega) ((n % 128:Nat):Int) 128 (by omega) (by omega)
 rw[this,aAh (by omega) (by omega),aQp]<;>omega
theorem aE2 (f n:Nat) (h:n<128):aD3 (f+1) n=[UInt8.ofNat n]:=by simp[aD3,h]
theorem aGc (f n:Nat) (h:¬n<128):aD3 (f+1) n=UInt8.ofNat (n % 128+128)::aD3 f (n / 128):=by simp[aD3,h]
theorem bDe:∀ (f n m:Nat) (l:List UInt8),n<128^(f+1)→n≤1000000000→l.length≤100-f→f≤100→f<m →
  (aBr aOt aAc (sg [pI] [rS]) Tryz.f125 [.r,.r,.r,.l,.b] m (aOi n l.length (aAe l))).eval=some [.str (l++aD3 (f+1) n)]:=by
 intro f
 induction f with
 |zero =>
  intro n m l h1 hn h2 h3 h4
  cases m with
  |zero=>omega
  |succ m =>
   rw[aAv _ _ _ _ _ _ _ (by kernel_rfl),aMq]
   have c:¬((127:Int)<(n:Int)):=by omega
   have hr:aBj (l.length+1) 1=true:=by simp only[aBj,decide_eq_true_eq];omega
   have u:IntKind.u8.wrap (n:Int)=(n:Nat):=by rw[aQp]<;>omega
   have tk:(aAe (l++[UInt8.ofNat n])).take (l.length+1)=aAe (l++[UInt8.ofNat n]):=List.take_of_length_le (by rw[aBp];simp)
   simp only[aA1,aA4,aA3,if_true,decide_eq_true_eq,Bool.and_eq_true,c,if_false,aBp,hr,and_self,u,aH8 l n (by omega),tk,aEj,aHi,aE2 0 n (by omega)]
 |succ f ih =>
  intro n m l h1 hn h2 h3 h4
  cases m with
  |zero=>omega
  |succ m =>
   rw[aAv _ _ _ _ _ _ _ (by kernel_rfl),aMq]
   have hr:aBj (l.length+1) 1=true:=by simp only[aBj,decide_eq_true_eq];omega
   by_cases hc:n<128
   ·have c:¬((127:Int)<(n:Int)):=by omega
    have u:IntKind.u8.wrap (n:Int)=(n:Nat):=by rw[aQp]<;>omega
    have tk:(aAe (l++[UInt8.ofNat n])).take (l.length+1)=aAe (l++[UInt8.ofNat n]):=List.take_of_length_le (by rw[aBp];simp)
    simp only[aA1,aA4,aA3,if_true,decide_eq_true_eq,Bool.and_eq_true,c,if_false,aBp,hr,and_self,u,aH8 l n (by omega),tk,aEj,aHi,aE2 _ n hc]
   ·have c:(127:Int)<(n:Int):=by omega
    have d:aKg .i64 (n:Int) 7=((n / 128:Nat):Int):=aIr n 7 (by omega)
    have i1:aHt .i64 (n:Int) 127=((n % 128:Nat):Int):=by rw[bNm];omega
    have e:=ih (n / 128) m (l++[UInt8.ofNat (n % 128+128)]) (by rw[Nat.pow_succ]at h1;exact Nat.div_lt_of_lt_mul (by omega)) (by omega) (by simp;omega) (by omega) (by omega)
    rw[aGc _ n hc]
    simp only[aA1,aA4,aA3,if_true,decide_eq_true_eq,Bool.and_eq_true,c,aBp,hr,and_self,d,i1,bJn,bPo,aH8 l (n % 128+128) (by omega)]
    rw[List.length_append,List.append_assoc]at e
    exact e
theorem bR0:aAa Tryz.prog aOt:=aA8 (by simp[aDy])
theorem aK6:aAx Tryz.prog 125 (sg [pI] [rS]) aDp:=aA6 bR0 aAb Tryz.func125 (by kernel_rfl) fun cs outs hk h=>by
 unfold aDp at h
 split at h
 ·simp only[Option.some.injEq,Prod.mk.injEq,true_and]at h
  rename_i n
  rw[←h,aAd,bDd]
  by_cases hn:inB n 0 1000000000=true
  ·have hn':=(aBi _ _ _).1 hn
   obtain⟨n,rfl⟩:=Int.eq_ofNat_of_zero_le hn'.1
   have lp:=bDe 4 n 9223372036854775808 [] (by omega) (by omega) (by simp) (by omega) (by omega)
   simp only[aA1,aA4,if_true,hn,aB4,Int.toNat_natCast]
   exact lp
  ·simp[aA1,aA4,aA3,hn,aB4]
 ·cases h
theorem bF5:∀ (f n m:Nat) (l:List UInt8),n<128^(f+1)→n≤1000000000→l.length≤100-f→f≤100→f<m →
  (aBr aP2 aAc (sg [pI] [rS]) Tryz.f130 [.r,.r,.r,.l,.b] m (aOo n l.length (aAe l))).eval=some [.str (l++aD3 (f+1) n)]:=by
 intro f
 induction f with
 |zero =>
  intro n m l h1 hn h2 h3 h4
  cases m with
  |zero=>omega
  |succ m =>
   rw[aAv _ _ _ _ _ _ _ (by kernel_rfl),aNa]
   have c:¬((128:Int)≤(n:Int)):=by omega
   have hr:aBj (l.length+1) 1=true:=by simp only[aBj,decide_eq_true_eq];omega
   have u:IntKind.u8.wrap (n:Int)=(n:Nat):=by rw[aQp]<;>omega
   have tk:(aAe (l++[UInt8.ofNat n])).take (l.length+1)=aAe (l++[UInt8.ofNat n]):=List.take_of_length_le (by rw[aBp];simp)
   simp only[aA1,aA4,aA3,if_true,decide_eq_true_eq,Bool.and_eq_true,c,if_false,aBp,hr,and_self,u,aH8 l n (by omega),tk,aEj,aHi,aE2 0 n (by omega)]
 |succ f ih =>
  intro n m l h1 hn h2 h3 h4
  cases m with
  |zero=>omega
  |succ m =>
   rw[aAv _ _ _ _ _ _ _ (by kernel_rfl),aNa]
   have hr:aBj (l.length+1) 1=true:=by simp only[aBj,decide_eq_true_eq];omega
   by_cases hc:n<128
   ·have c:¬((128:Int)≤(n:Int)):=by omega
    have u:IntKind.u8.wrap (n:Int)=(n:Nat):=by rw[aQp]<;>omega
    have tk:(aAe (l++[UInt8.ofNat n])).take (l.length+1)=aAe (l++[UInt8.ofNat n]):=List.take_of_length_le (by rw[aBp];simp)
    simp only[aA1,aA4,aA3,if_true,decide_eq_true_eq,Bool.and_eq_true,c,if_false,aBp,hr,and_self,u,aH8 l n (by omega),tk,aEj,aHi,aE2 _ n hc]
   ·have c:(128:Int)≤(n:Int):=by omega
    have d:aKg .i64 (n:Int) 7=((n / 128:Nat):Int):=aIr n 7 (by omega)
    have i1:aHt .i64 (n:Int) 127=((n % 128:Nat):Int):=by rw[bNm];omega
    have e:=ih (n / 128) m (l++[UInt8.ofNat (n % 128+128)]) (by rw[Nat.pow_succ]at h1;exact Nat.div_lt_of_lt_mul (by omega)) (by omega) (by simp;omega) (by omega) (by omega)
    rw[aGc _ n hc]
    simp only[aA1,aA4,aA3,if_true,decide_eq_true_eq,Bool.and_eq_true,c,aBp,hr,and_self,d,i1,bJn,bPo,aH8 l (n % 128+128) (by omega)]
    rw[List.length_append,List.append_assoc]at e
    exact e
theorem bSu:aAa Tryz.prog aP2:=aA8 (by simp[aD9])
theorem aKd:aAx Tryz.prog 130 (sg [pI] [rS]) aDp:=aA6 bSu aAb Tryz.func130 (by kernel_rfl) fun cs outs hk h=>by
 unfold aDp at h
 split at h
 ·simp only[Option.some.injEq,Prod.mk.injEq,true_and]at h
  rename_i n
  rw[←h,aAd,bF4]
  by_cases hn:inB n 0 1000000000=true
  ·have hn':=(aBi _ _ _).1 hn
   obtain⟨n,rfl⟩:=Int.eq_ofNat_of_zero_le hn'.1
   have lp:=bF5 4 n 9223372036854775808 [] (by omega) (by omega) (by simp) (by omega) (by omega)
   simp only[aA1,aA4,if_true,hn,aB4,Int.toNat_natCast]
   exact lp
  ·simp[aA1,aA4,aA3,hn,aB4]
 ·cases h
def aQs:List UInt8→Nat→Nat
 |[],x=>x
 |c::cs,x=>(c.toNat-128)+128*aQs cs x
def bMw:Option (Nat×Nat)→List C
 |some p=>[.int .i64 p.1,.int .i64 p.2,.bool true]
 |none=>[.int .i64 0,.int .i64 0,.bool false]
theorem aVl:∀ (cs:List UInt8) (x:Nat),aQs cs x=aQs cs 0+x*128^cs.length
 |[],x=>by simp[aQs]
 |c::cs,x=>by
  have:=aVl cs x
  simp only[aQs,List.length_cons,Nat.pow_succ,this]
  rw[Nat.mul_add,←Nat.add_assoc,Nat.mul_left_comm,Nat.mul_comm 128 (128^cs.length)]
theorem bGz:∀ (cs:List UInt8) (c:UInt8) (x:Nat),aQs (cs++[c]) x=aQs cs (c.toNat-128+128*x)
 |[],c,x=>by simp[aQs]
 |d::cs,c,x=>by simp only[List.cons_append,aQs,bGz cs c x]
theorem bTt:∀ (cs:List UInt8),aQs cs 0<128^cs.length
 |[]=>by simp[aQs]
 |c::cs=>by
  have:=bTt cs
  have hc:=c.toNat_lt
  simp only[aQs,List.length_cons,Nat.pow_succ]
  omega
theorem aQr:∀ (cs:List UInt8) (x f:Nat),(∀ c,c∈cs→128≤c.toNat)→x<128→(cs=[]∨0<x)→cs.length<f→aD3 f (aQs cs x)=cs++[UInt8.ofNat x]
 |[],x,f,_,hx,_,hf=>by
  obtain⟨g,rfl⟩:∃ g,f=g+1:=⟨f-1,by simp at hf;omega⟩
  exact aE2 g x hx
 |c::cs,x,f,hc,hx,h0,hf=>by
  obtain⟨g,rfl⟩:∃ g,f=g+1:=⟨f-1,by simp at hf;omega⟩
  have hx0:0<x:=by rcases h0 with h | h;cases h;exact h
  have c1:=hc c List.mem_cons_self
  have c2:=c.toNat_lt
  have hv:0<aQs cs x:=by
   rw[aVl]
   have:0<128^cs.length:=Nat.pow_pos (by omega)
   have:0<x*128^cs.length:=Nat.mul_pos hx0 this
   omega
  have e1:((c.toNat-128)+128*aQs cs x) % 128+128=c.toNat:=by omega
  have e2:((c.toNat-128)+128*aQs cs x) / 128=aQs cs x:=by omega
  simp only[aQs]
  rw[aGc g _ (by omega),e1,e2,aQr cs x g (fun d hd=>hc d (List.mem_cons_of_mem _ hd)) hx (.inr hx0) (by simp at hf;omega)]
  simp
theorem aU7:∀ (f n:Nat) (l:List UInt8),1≤n→aD3 f n≠l++[0]
 |0,n,l,_=>by simp[aD3]
 |f+1,n,l,hn=>by
  by_cases h:n<128
  ·rw[aE2 f n h]
   intro e
   cases l with
   |nil =>
    simp at e
    have:=congrArg UInt8.toNat e
    rw[UInt8.toNat_ofNat_of_lt' (by show n<256;omega)]at this
    have h0:(0:UInt8).toNat=0:=rfl
    omega
   |cons a l=>simp at e
  ·rw[aGc f n h]
   intro e
   cases l with
   |nil =>
    rw[List.nil_append,List.cons.injEq]at e
    have h1:=congrArg UInt8.toNat e.1
    rw[UInt8.toNat_ofNat_of_lt' (by show n % 128+128<256;omega)]at h1
    have h0:(0:UInt8).toNat=0:=rfl
    omega
   |cons a l =>
    simp at e
    exact aU7 f (n / 128) l (by omega) e.2
theorem bUv (b:List UInt8) (a:Int):[C.int .i64 (rvN b a),C.int .i64 (aCu b a),C.bool (bP9 b a)]=bMw (aK9 b a):=by
 unfold rvN aCu bP9
 cases aK9 b a with
 |none=>rfl
 |some p=>rfl
theorem bWf (n x i:Nat) (hn:n<128^i) (hx:x<256) (hi:i<5):ior .i64 (n:Int) (aUk .i64 (aHt .i64 (x:Int) 127) ((7*i:Nat):Int))=((n+x % 128*128^i:Nat):Int):=by
 have hp:(2:Nat)^(7*i)=128^i:=by rw[Nat.pow_mul]
 have hq:128^i≤128^4:=Nat.pow_le_pow_right (by omega) (by omega)
 have hm:=aTn (aHt .i64 (x:Int) 127) (7*i) (by omega)
 have i1:aHt .i64 (x:Int) 127=((x % 128:Nat):Int):=by rw[bNm];omega
 have hmul:x % 128*128^i≤127*128^i:=Nat.mul_le_mul_right _ (by omega)
 rw[i1]at hm ⊢
 have hp2:((x % 128:Nat):Int)*2^(7*i)=((x % 128*128^i:Nat):Int):=by rw[←hp];simp
 rw[hp2]at hm
 have:=aRw n (x % 128) (7*i) (by rw[hp];exact hn) (by rw[hp];omega) (n:Int) (aUk .i64 ((x % 128:Nat):Int) ((7*i:Nat):Int)) (by omega) (by rw[hm,hp];omega)
 rw[this,hp,aAh (by omega) (by omega)]
theorem bFd (b:List UInt8) (a:Nat) (hb:b.length≤281474976710656) (ha:a≤9223372036854775807):∀ (m i n:Nat),i≤5→5<i+m→n<128^i →
  (aBr aP5 aAc (sg [pS,pI] [rI,rI,rB]) Tryz.f120 [.r,.r,.l,.r,.b] m (aOr b a n i)).eval=some (bMw (bS2 b a (5-i) i n)):=by
 intro m
 induction m with
 |zero=>intro i n h1 h2 h3;omega
 |succ m ih =>
  intro i n h1 h2 h3
  rw[aAv _ _ _ _ _ _ _ (by kernel_rfl),aNe]
  by_cases hi:i<5
  ·have hs:5-i=(5-(i+1))+1:=by omega
   have w1:IntKind.i64.wrap (IntKind.i64.wrap ((b.length:Int)-1)-i)=(b.length:Int)-1-i:=by
    rw[aAh (x:=(b.length:Int)-1) (by omega) (by omega),aAh (by omega) (by omega)]
   have w2:IntKind.i64.wrap ((i:Int)+1)=((i+1:Nat):Int):=by rw[aAh]<;>omega
   have hi':(i:Int)<5:=by omega
   rw[hs]
   simp only[bS2]
   by_cases hl:a+i<b.length
   ·have hin:inB (a:Int) 0 ((b.length:Int)-1-i)=true:=(aBi _ _ _).2 ⟨by omega,by omega⟩
    have w3:IntKind.i64.wrap ((a:Int)+i)=((a+i:Nat):Int):=by rw[aAh]<;>omega
    have w4:IntKind.i64.wrap (7*(i:Int))=((7*i:Nat):Int):=by rw[aAh]<;>omega
    have z1:(0:Int)≤((a+i:Nat):Int):=by omega
    have z2:(0:Int)≤((7*i:Nat):Int):=by omega
    have hx:=aI9 b (a+i)
    have w5:IntKind.i64.wrap ((b.getD (a+i) 0).toNat:Int)=((b.getD (a+i) 0).toNat:Int):=by rw[aAh]<;>omega
    have w6:IntKind.i64.wrap (((a+i:Nat):Int)+1)=((a+i+1:Nat):Int):=by rw[aAh]<;>omega
    have ho:=bWf n _ i h3 hx hi
    simp only[aA1,aA4,aA3,if_true,decide_eq_true_eq,Bool.and_eq_true,hi',w1,w2,w3,w4,w5,w6,hin,z1,z2,hl,Int.toNat_natCast,Int.ofNat_lt,and_self,ho]
    generalize (b.getD (a+i) 0).toNat=x at *
    have hpow:(0:Nat)<128^i:=Nat.pow_pos (by omega)
    by_cases hc:128≤x
    ·have hm:x % 128=x-128:=by omega
     have e:=ih (i+1) (n+(x-128)*128^i) (by omega) (by omega) (by
      have:(x-128)*128^i≤127*128^i:=Nat.mul_le_mul_right _ (by omega)
      rw[Nat.pow_succ];omega)
     rw[if_pos (show (128:Int)≤(x:Int) by omega),if_neg (show ¬x<128 by omega),hm]
     exact e
    ·have hm:x % 128=x:=by omega
     rw[if_neg (show ¬(128:Int)≤(x:Int) by omega),if_pos (show x<128 by omega),hm]
     by_cases h0:0<i∧x=0
     ·have hip:((0:Int)<i)=True:=eq_true (by omega)
      have hx0:((x:Int)=0)=True:=eq_true (by omega)
      simp only[hip,hx0,if_true]
      rw[if_pos (c:=(i>0∧x=0∨_)) (.inl ⟨h0.1,h0.2⟩)]
      rfl
     ·have hinn:inB ((n+x*128^i:Nat):Int) 0 1000000000=true↔¬1000000000<n+x*128^i:=by rw[aBi];omega
      have fin:(if inB ((n+x*128^i:Nat):Int) 0 1000000000=true then some [C.int .i64 ((n+x*128^i:Nat):Int),C.int .i64 ((a+i+1:Nat):Int),C.bool true]else some [C.int .i64 0,C.int .i64 0,C.bool false])=some (bMw (if i>0∧x=0∨1000000000<n+x*128^i then none else some (n+x*128^i,a+i+1))):=by
       by_cases hg:1000000000<n+x*128^i
       ·rw[if_neg (fun h=>(hinn.1 h) hg),if_pos (.inr hg)];rfl
       ·rw[if_pos (hinn.2 hg),if_neg (by omega)];rfl
      by_cases hip:(0:Int)<i
      ·have hx0:¬((x:Int)=0):=by omega
       rw[if_pos hip,if_neg hx0]
       exact fin
      ·rw[if_neg hip]
       exact fin
   ·have hin:¬(inB (a:Int) 0 ((b.length:Int)-1-i)=true):=fun h=>by have:=(aBi _ _ _).1 h;omega
    simp only[aA1,aA4,aA3,if_true,decide_eq_true_eq,hi',w1,hin,hl,if_false]
    rfl
  ·have:i=5:=by omega
   subst this
   simp[aA1,aA4,aA3,bS2,bMw]
theorem bSz:aAa Tryz.prog aP5:=aA8 (by simp[aGm,aD9])
theorem bB0:aAx Tryz.prog 120 (sg [pS,pI] [rI,rI,rB]) aH9:=aA6 bSz aAb Tryz.func120 (by kernel_rfl) fun cs outs hk h=>by
 unfold aH9 at h
 split at h
 ·simp only[Option.some.injEq,Prod.mk.injEq,Bool.and_eq_true,decide_eq_true_eq]at h
  obtain⟨⟨h1,h2,h3⟩,rfl⟩:=h
  rename_i b a
  rw[aAd,bFc,bUv]
  simp only[aA1,if_true]
  by_cases ha:0≤a
  ·obtain⟨a,rfl⟩:=Int.eq_ofNat_of_zero_le ha
   have:=bFd b a h1 (by omega) 9223372036854775808 0 0 (by omega) (by omega) (by omega)
   simp only[aK9,ha,if_true,Int.toNat_natCast]
   exact this
  ·rw[aAv _ _ _ _ _ 9223372036854775807 _ (by kernel_rfl),aNe]
   have hin:¬(inB a 0 (IntKind.i64.wrap (IntKind.i64.wrap ((b.length:Int)-1)-0))=true):=fun h=>by have:=(aBi _ _ _).1 h;omega
   simp only[aA1,aA4,aA3,if_true,hin,aK9,ha,if_false,decide_eq_true_eq]
   rfl
 ·cases h
theorem bDr (b:List UInt8) (a:Nat) (hb:b.length≤281474976710656) (ha:a≤b.length):∀ (m i:Nat),i≤5→5<i+m→a+i≤b.length→(∀ c,c∈(b.drop a).take i→128≤c.toNat) →
  (aBr aOx aAc (sg [pS,pI] [rI,rI,rB]) Tryz.f90 [.r,.r,.r,.l,.r,.b] m (aOl b a (aQs ((b.drop a).take i) 0:Nat) i)).eval=some (bMw (bS2 b a (5-i) i (aQs ((b.drop a).take i) 0))):=by
 intro m
 induction m with
 |zero=>intro i h1 h2 h3 h4;omega
 |succ m ih =>
  intro i h1 h2 h3 h4
  rw[aAv _ _ _ _ _ _ _ (by kernel_rfl),aX0]
  by_cases hi:i<5
  ·have hs:5-i=(5-(i+1))+1:=by omega
   have w2:IntKind.i64.wrap ((i:Int)+1)=((i+1:Nat):Int):=by rw[aAh]<;>omega
   have w3:IntKind.i64.wrap ((a:Int)+i)=((a+i:Nat):Int):=by rw[aAh]<;>omega
   have hi':(i:Int)<5:=by omega
   have hlen:((b.drop a).take i).length=i:=by simp;omega
   rw[hs]
   simp only[bS2]
   by_cases hl:a+i<b.length
   ·have w4:IntKind.i64.wrap (7*(i:Int))=((7*i:Nat):Int):=by rw[aAh]<;>omega
    have w4u:IntKind.u64.wrap ((7*i:Nat):Int)=((7*i:Nat):Int):=by rw[bD0]<;>omega
    have z1:(0:Int)≤((a+i:Nat):Int):=by omega
    have z2:(0:Int)≤((7*i:Nat):Int):=by omega
    have hx:=aI9 b (a+i)
    have w5:IntKind.i64.wrap ((b.getD (a+i) 0).toNat:Int)=((b.getD (a+i) 0).toNat:Int):=by rw[aAh]<;>omega
    have w6:IntKind.i64.wrap (((a+i:Nat):Int)+1)=((a+i+1:Nat):Int):=by rw[aAh]<;>omega
    have hlt:=bTt ((b.drop a).take i)
    rw[hlen]at hlt
    have ho:=bWf _ _ i hlt hx hi
    have ee:(b.drop a).take (i+1)=(b.drop a).take i++[b.getD (a+i) 0]:=by
     rw[List.take_add_one]
     simp[List.getElem?_drop,List.getD_eq_getElem?_getD,hl]
    have ed:(b.take (a+i+1)).drop a=(b.drop a).take i++[b.getD (a+i) 0]:=by
     rw[←ee,List.take_drop]
     first | rfl | (congr 2;omega)
    have z3:((a+i+1:Nat):Int)≤(b.length:Int):=by omega
    have z4:(0:Int)≤((a+i+1:Nat):Int):=by omega
    have z5:(a:Int)≤((a+i+1:Nat):Int):=by omega
    have z6:(0:Int)≤(a:Int):=by omega
    have hl':((a+i:Nat):Int)<(b.length:Int):=by omega
    simp only[aA1,aA4,aA3,if_true,decide_eq_true_eq,Bool.and_eq_true,hi',w2,w3,w4,w4u,w5,w6,z1,z2,z3,z4,z5,z6,hl,hl',Int.toNat_natCast,and_self,ho,ed]
    by_cases hc:(b.getD (a+i) 0).toNat<128
    ·have hm:(b.getD (a+i) 0).toNat % 128=(b.getD (a+i) 0).toNat:=by omega
     have hlin:=aVl ((b.drop a).take i) (b.getD (a+i) 0).toNat
     rw[hlen]at hlin
     rw[if_pos (by omega),if_pos hc,hm,←hlin]
     have hvb:=aQr ((b.drop a).take i) (b.getD (a+i) 0).toNat 5 h4 hc
     have hof:UInt8.ofNat (b.getD (a+i) 0).toNat=b.getD (a+i) 0:=by simp
     rw[hof,hlen]at hvb
     by_cases hg:1000000000<aQs ((b.drop a).take i) (b.getD (a+i) 0).toNat
     ·have hvt:aB4 ((aQs ((b.drop a).take i) (b.getD (a+i) 0).toNat:Nat):Int)=[]:=by
       unfold aB4;rw[if_neg];intro h;have:=(aBi _ _ _).1 h;omega
      rw[hvt,if_pos (by rfl),if_pos (.inr hg)]
      rfl
     ·have hvt:aB4 ((aQs ((b.drop a).take i) (b.getD (a+i) 0).toNat:Nat):Int)=aD3 5 (aQs ((b.drop a).take i) (b.getD (a+i) 0).toNat):=by
       unfold aB4;rw[if_pos ((aBi _ _ _).2 ⟨by omega,by omega⟩),Int.toNat_natCast]
      rw[hvt]
      by_cases h0:0<i∧(b.getD (a+i) 0).toNat=0
      ·rw[if_pos (c:=(i>0∧(b.getD (a+i) 0).toNat=0∨_)) (.inl ⟨h0.1,h0.2⟩)]
       have hb0:b.getD (a+i) 0=0:=by have:=h0.2;exact UInt8.toNat_inj.1 (by simpa using this)
       have hne:aD3 5 (aQs ((b.drop a).take i) (b.getD (a+i) 0).toNat)≠(b.drop a).take i++[b.getD (a+i) 0]:=by
        rw[hb0]
        by_cases hv:1≤aQs ((b.drop a).take i) (0:UInt8).toNat
        ·exact aU7 5 _ _ hv
        ·have:aQs ((b.drop a).take i) (0:UInt8).toNat=0:=by omega
         rw[this]
         intro e
         have:=congrArg List.length e
         rw[aE2 4 0 (by omega)]at this
         simp at this
         omega
       have hb1:(aD3 5 (aQs ((b.drop a).take i) (b.getD (a+i) 0).toNat)==(b.drop a).take i++[b.getD (a+i) 0])=false:=by simpa using hne
       rw[hb1]
       split<;>rfl
      ·have hvb2:=hvb (by
        by_cases h:i=0
        ·left;exact List.length_eq_zero_iff.1 (by rw[hlen];exact h)
        ·right;omega) (by omega)
       rw[hvb2]
       have hnil:((b.drop a).take i++[b.getD (a+i) 0]==([]:List UInt8))=false:=by
        rw[beq_eq_false_iff_ne];simp
       have hcond:¬(i>0∧(b.getD (a+i) 0).toNat=0∨1000000000<aQs ((b.drop a).take i) (b.getD (a+i) 0).toNat):=by omega
       rw[hnil,if_neg hcond]
       simp[bMw]
    ·have hm:(b.getD (a+i) 0).toNat % 128=(b.getD (a+i) 0).toNat-128:=by omega
     have hsn:=bGz ((b.drop a).take i) (b.getD (a+i) 0) 0
     rw[Nat.mul_zero,Nat.add_zero,aVl ((b.drop a).take i) ((b.getD (a+i) 0).toNat-128),hlen]at hsn
     have e:=ih (i+1) (by omega) (by omega) (by omega) (by
      rw[ee]
      intro c hcm
      rcases List.mem_append.1 hcm with h | h
      ·exact h4 c h
      ·have:c=b.getD (a+i) 0:=by simpa using h
       rw[this];omega)
     rw[ee,hsn]at e
     rw[if_neg (by omega),if_neg hc,hm]
     exact e
   ·have hl':¬(((a+i:Nat):Int)<(b.length:Int)):=by omega
    simp only[aA1,aA4,aA3,if_true,decide_eq_true_eq,hi',w3,hl',hl,if_false]
    rfl
  ·have:i=5:=by omega
   subst this
   simp[aA1,aA4,aA3,bS2,bMw]
theorem bRg:aAa Tryz.prog aOx:=aA8 (by simp[aDy,aK6])
theorem bA6:aAx Tryz.prog 90 (sg [pS,pI] [rI,rI,rB]) aH9:=aA6 bRg aAb Tryz.func90 (by kernel_rfl) fun cs outs hk h=>by
 unfold aH9 at h
 split at h
 ·simp only[Option.some.injEq,Prod.mk.injEq,Bool.and_eq_true,decide_eq_true_eq]at h
  obtain⟨⟨h1,h2,h3⟩,rfl⟩:=h
  rename_i b a
  rw[aAd,bDq,bUv]
  by_cases hin:inB a 0 (b.length:Int)=true
  ·have ha:=(aBi _ _ _).1 hin
   obtain⟨a,rfl⟩:=Int.eq_ofNat_of_zero_le ha.1
   have:=bDr b a h1 (by omega) 9223372036854775808 0 (by omega) (by omega) (by omega) (by simp)
   simp only[aA1,aA4,if_true,hin,aK9,ha.1,Int.toNat_natCast]
   exact this
  ·simp only[aA1,aA4,aA3,if_true,hin,aK9]
   by_cases ha:0≤a
   ·have:¬(a.toNat+0<b.length):=fun h=>hin ((aBi _ _ _).2 ⟨ha,by omega⟩)
    simp only[ha,if_true,bS2,this,if_false]
    rfl
   ·simp only[ha,if_false]
    rfl
 ·cases h
noncomputable section
def aF9 (b t:List UInt8):Bool:=decide (b.take t.length=t)
def aHa:aCf:=fun cs=>match cs with
 |[.str b,.str t]=>some (true,[.bool (aF9 b t)])
 |_=>none
def aSk:Env:=mkE [] []
def aUv:Env:=mkE [] [(167,(sg [pS,pS] [rB]),aHa)]
def aGa (b:List UInt8) (at':Int) (t:List UInt8):Bool:=decide (0≤at'∧at'≤b.length∧(b.drop at'.toNat).take t.length=t)
def aRz:aCf:=fun cs=>match cs with
 |[.str b,.int .i64 a,.str t]=>some (true,[.bool (aGa b a t)])
 |_=>none
def bQo:Env:=mkE [] [(37,(sg [pI,pI,pI] [rB]),aE4),(149,(sg [pS,pS] [rB]),aHa)]
def aFh (place n:Int):List UInt8:=aAl n 4++aAl (aB6 0 (aAl place 8++aAl n 4):Nat) 4
def aAf (v place:Int) (r:List UInt8):List UInt8 :=
 if inB v 1 2&&inB place 0 1000000000&&decide (r.length≤60)then (if v=2 then aFh place r.length else aB4 r.length)++r++aAl (aB6 0 r:Nat) 4 else[]
def aBa (v place:Int):List UInt8 :=
 if inB v 1 2&&inB place 0 1000000000 then (if v=1 then[255,255,255,255,15]else aFh place 4294967295)else[]
def aH3 (v place:Int) (b:List UInt8) (a:Int):Bool:=decide (aBa v place≠[])&&aGa b a (aBa v place)
def aR2:aCf:=fun cs=>match cs with
 |[.int .i64 p,.int .i64 n]=>some (decide (-9223372036854775808≤p)&&decide (p≤9223372036854775807)&&(decide (-9223372036854775808≤n)&&decide (n≤9223372036854775807)),[.str (aFh p n)])
 |_=>none
def aGq:aCf:=fun cs=>match cs with
 |[.int .i64 v,.int .i64 p,.str r]=>some (decide (r.length≤281474976710656),[.str (aAf v p r)])
 |_=>none
def aF6:aCf:=fun cs=>match cs with
 |[.int .i64 v,.int .i64 p]=>some (true,[.str (aBa v p)])
 |_=>none
def aIp:aCf:=fun cs=>match cs with
 |[.int .i64 v,.int .i64 p,.str b,.int .i64 a]=>some (decide (b.length≤281474976710656),[.bool (aH3 v p b a)])
 |_=>none
def bQn:Env:=mkE [] [(129,(sg [pS] [rI]),aEb),(122,(sg [pI,pI] [rS]),aGr)]
def aUw:Env:=mkE [] [(45,(sg [pI,pI,pI] [rB]),aE4),(123,(sg [pS] [rI]),aEb),(88,(sg [pI,pI] [rS]),aGr),(125,(sg [pI] [rS]),aDp)]
def aV0:Env:=mkE [] [(126,(sg [pI] [rB]),aGl),(129,(sg [pS] [rI]),aEb),(96,(sg [pI] [rB]),aDk),(122,(sg [pI,pI] [rS]),aGr),(130,(sg [pI] [rS]),aDp),(131,(sg [pI,pI] [rS]),aR2)]
def bCr:Env:=mkE [] [(45,(sg [pI,pI,pI] [rB]),aE4),(123,(sg [pS] [rI]),aEb),(88,(sg [pI,pI] [rS]),aGr)]
def bCw:Env:=mkE [] [(126,(sg [pI] [rB]),aGl),(96,(sg [pI] [rB]),aDk),(131,(sg [pI,pI] [rS]),aR2)]
def bL2:Env:=mkE [] [(45,(sg [pI,pI,pI] [rB]),aE4),(89,(sg [pI,pI] [rS]),aF6)]
def bLf:Env:=mkE [] [(119,(sg [pS,pI,pS] [rB]),aRz),(118,(sg [pI,pI] [rS]),aF6)]
end
theorem aV3 (H:List Pt→Nat→St→T (List C)) (b:List UInt8) (t:List UInt8):aAk aSk aAc (sg [pS,pS] [rB]) Tryz.f167 H [C.str b,C.str t]=(.must true (.ask (decide ((↑t.length:Int)≤(↑b.length:Int))) (.must (decide ((0:Int)≤(↑t.length:Int))&&decide ((↑t.length:Int)≤(↑b.length:Int))) (.ask (List.drop 0 (List.take (↑t.length:Int).toNat b)==t) (.must true (.ret [C.bool true])) (.must true (.ret [C.bool false])))) (.must true (.ret [C.bool false])))):=by kernel_rfl
theorem aX9 (H:List Pt→Nat→St→T (List C)) (b:List UInt8) (t:List UInt8):aAk aUv aAc (sg [pS,pS] [rB]) Tryz.f149 H [C.str b,C.str t]=(.must true (.must true (.must true (.must true (.ask (aF9 b t) (.must true (.ret [C.bool true])) (.must true (.ret [C.bool false]))))))):=by kernel_rfl
theorem bO1 (H:List Pt→Nat→St→T (List C)) (b:List UInt8) (a:Int) (t:List UInt8):aAk bQo aAc (sg [pS,pI,pS] [rB]) Tryz.f119 H [C.str b,C.int .i64 a,C.str t]=(.must true (.must true (.must true (.must true (.ask (inB a 0 (↑b.length:Int)) (.must (decide ((0:Int)≤a)&&decide (a≤(↑b.length:Int))) (.must true (.must true (.must true (.ask (aF9 (List.drop a.toNat (List.take b.length b)) t) (.must true (.ret [C.bool true])) (.must true (.ret [C.bool false]))))))) (.must true (.ret [C.bool false]))))))):=by kernel_rfl
theorem bNo (H:List Pt→Nat→St→T (List C)) (p:Int) (n:Int):aAk bQn aAc (sg [pI,pI] [rS]) Tryz.f131 H [C.int .i64 p,C.int .i64 n]=(.must true (.must true (.must (decide ((-9223372036854775808:Int)≤n)&&decide (n≤(9223372036854775807:Int))) (.must true (.must true (.must (decide ((-9223372036854775808:Int)≤p)&&decide (p≤(9223372036854775807:Int))) (.must true (.must (decide ((aAl p 8).length+(aAl n 4).length≤9223372036854775807)) (.must true (.must (decide ((aAl p 8++aAl n 4).length≤281474976710656)) (.must true (.must true (.must (decide ((-9223372036854775808:Int)≤Int.ofNat (aB6 0 (aAl p 8++aAl n 4)))&&decide (Int.ofNat (aB6 0 (aAl p 8++aAl n 4))≤(9223372036854775807:Int))) (.must true (.must (decide ((aAl n 4).length+(aAl (Int.ofNat (aB6 0 (aAl p 8++aAl n 4))) (4:Int)).length≤9223372036854775807)) (.must true (.ret [C.str (aAl n 4++aAl (Int.ofNat (aB6 0 (aAl p 8++aAl n 4))) (4:Int))]))))))))))))))))):=by kernel_rfl
theorem aXa (H:List Pt→Nat→St→T (List C)) (v:Int) (p:Int) (r:List UInt8):aAk aUw aAc (sg [pI,pI,pS] [rS]) Tryz.f91 H [C.int .i64 v,C.int .i64 p,C.str r]=(.must true (.must true (.must true (.must true (.ask (inB v 1 2) (.must true (.must true (.must true (.ask (inB p 0 1000000000) (.ask (decide ((60:Int)<(↑r.length:Int))) (.must true (.ret [C.str []])) (.must true (.must (decide (r.length≤281474976710656)) (.must true (.must true (.must (decide ((-9223372036854775808:Int)≤Int.ofNat (aB6 0 r))&&decide (Int.ofNat (aB6 0 r)≤(9223372036854775807:Int))) (.must true (.ask (decide (v=(1:Int))) (.must true (.must true (.must true (.must (decide ((aB4 (↑r.length:Int)).length+r.length≤9223372036854775807)) (.must (decide ((aB4 (↑r.length:Int)++r).length+(aAl (Int.ofNat (aB6 0 r)) (4:Int)).length≤9223372036854775807)) (.must true (.ret [C.str (aB4 (↑r.length:Int)++r++aAl (Int.ofNat (aB6 0 r)) (4:Int))]))))))) (.must true (.must (decide ((-9223372036854775808:Int)≤(↑r.length:Int))&&decide ((↑r.length:Int)≤(9223372036854775807:Int))) (.must true (.must true (.must (decide ((-9223372036854775808:Int)≤p)&&decide (p≤(9223372036854775807:Int))) (.must true (.must (decide ((aAl p 8).length+(aAl (↑r.length:Int) 4).length≤9223372036854775807)) (.must true (.must (decide ((aAl p 8++aAl (↑r.length:Int) 4).length≤281474976710656)) (.must true (.must true (.must (decide ((-9223372036854775808:Int)≤Int.ofNat (aB6 0 (aAl p 8++aAl (↑r.length:Int) 4)))&&decide (Int.ofNat (aB6 0 (aAl p 8++aAl (↑r.length:Int) 4))≤(9223372036854775807:Int))) (.must true (.must (decide ((aAl (↑r.length:Int) 4).length+(aAl (Int.ofNat (aB6 0 (aAl p 8++aAl (↑r.length:Int) 4))) (4:Int)).length≤9223372036854775807)) (.must (decide ((aAl (↑r.length:Int) 4++aAl (Int.ofNat (aB6 0 (aAl p 8++aAl (↑r.length:Int) 4))) (4:Int)).length+r.length≤9223372036854775807)) (.must (decide ((aAl (↑r.length:Int) 4++aAl (Int.ofNat (aB6 0 (aAl p 8++aAl (↑r.length:Int) 4))) (4:Int)++r).length+(aAl (Int.ofNat (aB6 0 r)) (4:Int)).length≤9223372036854775807)) (.must true (.ret [C.str (aAl (↑r.length:Int) 4++aAl (Int.ofNat (aB6 0 (aAl p 8++aAl (↑r.length:Int) 4))) (4:Int)++r++aAl (Int.ofNat (aB6 0 r)) (4:Int))])))))))))))))))))))))))))) (.must true (.ret [C.str []])))))) (.must true (.ret [C.str []]))))))):=by kernel_rfl
theorem aYi (H:List Pt→Nat→St→T (List C)) (v:Int) (p:Int) (r:List UInt8):aAk aV0 aAc (sg [pI,pI,pS] [rS]) Tryz.f102 H [C.int .i64 v,C.int .i64 p,C.str r]=(.must true (.must true (.must true (.must true (.ask (inB v 1 2) (.must true (.must true (.must true (.ask (inB p 0 1000000000) (.ask (decide ((60:Int)<(↑r.length:Int))) (.must true (.ret [C.str []])) (.must true (.must true (.must true (.ask (decide (v=(2:Int))) (.must true (.must (decide ((-9223372036854775808:Int)≤p)&&decide (p≤(9223372036854775807:Int))&&(decide ((-9223372036854775808:Int)≤(↑r.length:Int))&&decide ((↑r.length:Int)≤(9223372036854775807:Int)))) (.must true (.must (decide ((aFh p (↑r.length:Int)).length+r.length≤9223372036854775807)) (.must true (.must (decide (r.length≤281474976710656)) (.must true (.must true (.must (decide ((-9223372036854775808:Int)≤Int.ofNat (aB6 0 r))&&decide (Int.ofNat (aB6 0 r)≤(9223372036854775807:Int))) (.must true (.must (decide ((aFh p (↑r.length:Int)++r).length+(aAl (Int.ofNat (aB6 0 r)) (4:Int)).length≤9223372036854775807)) (.must true (.ret [C.str (aFh p (↑r.length:Int)++r++aAl (Int.ofNat (aB6 0 r)) (4:Int))]))))))))))))) (.must (decide ((aB4 (↑r.length:Int)).length+r.length≤9223372036854775807)) (.must true (.must (decide (r.length≤281474976710656)) (.must true (.must true (.must (decide ((-9223372036854775808:Int)≤Int.ofNat (aB6 0 r))&&decide (Int.ofNat (aB6 0 r)≤(9223372036854775807:Int))) (.must true (.must (decide ((aB4 (↑r.length:Int)++r).length+(aAl (Int.ofNat (aB6 0 r)) (4:Int)).length≤9223372036854775807)) (.must true (.ret [C.str (aB4 (↑r.length:Int)++r++aAl (Int.ofNat (aB6 0 r)) (4:Int))]))))))))))))))) (.must true (.ret [C.str []])))))) (.must true (.ret [C.str []]))))))):=by kernel_rfl
theorem bE6 (H:List Pt→Nat→St→T (List C)) (v:Int) (p:Int):aAk bCr aAc (sg [pI,pI] [rS]) Tryz.f89 H [C.int .i64 v,C.int .i64 p]=(.must true (.must true (.must true (.must true (.ask (inB v 1 2) (.must true (.must true (.must true (.ask (inB p 0 1000000000) (.ask (decide (v=(1:Int))) (.must true (.ret [C.str [(255:UInt8),255,255,255,15]])) (.must true (.must true (.must true (.must true (.must (decide ((-9223372036854775808:Int)≤p)&&decide (p≤(9223372036854775807:Int))) (.must true (.must (decide ((aAl p 8).length+(3+1)≤9223372036854775807)) (.must true (.must (decide ((aAl p 8++aAl 4294967295 4).length≤281474976710656)) (.must true (.must true (.must (decide ((-9223372036854775808:Int)≤Int.ofNat (aB6 0 (aAl p 8++aAl 4294967295 4)))&&decide (Int.ofNat (aB6 0 (aAl p 8++aAl 4294967295 4))≤(9223372036854775807:Int))) (.must true (.must (decide (3+1+(aAl (Int.ofNat (aB6 0 (aAl p 8++aAl 4294967295 4))) (4:Int)).length≤9223372036854775807)) (.must true (.ret [C.str (aAl 4294967295 4++aAl (Int.ofNat (aB6 0 (aAl p 8++aAl 4294967295 4))) (4:Int))]))))))))))))))))) (.must true (.ret [C.str []])))))) (.must true (.ret [C.str []]))))))):=by kernel_rfl
theorem bFr (H:List Pt→Nat→St→T (List C)) (v:Int) (p:Int):aAk bCw aAc (sg [pI,pI] [rS]) Tryz.f118 H [C.int .i64 v,C.int .i64 p]=(.must true (.must true (.must true (.must true (.ask (inB v 1 2) (.must true (.must true (.must true (.ask (inB p 0 1000000000) (.ask (decide (v=(1:Int))) (.must true (.ret [C.str [(255:UInt8),255,255,255,15]])) (.must true (.must (decide ((-9223372036854775808:Int)≤p)&&decide (p≤(9223372036854775807:Int))&&(decide ((-9223372036854775808:Int)≤(4294967295:Int))&&decide ((4294967295:Int)≤(9223372036854775807:Int)))) (.must true (.must true (.ret [C.str (aFh p 4294967295)])))))) (.must true (.ret [C.str []])))))) (.must true (.ret [C.str []]))))))):=by kernel_rfl
theorem bHu (H:List Pt→Nat→St→T (List C)) (v:Int) (p:Int) (b:List UInt8) (a:Int):aAk bL2 aAc (sg [pI,pI,pS,pI] [rB]) Tryz.f66 H [C.int .i64 v,C.int .i64 p,C.str b,C.int .i64 a]=(.must true (.must true (.must true (.must true (.ask (!aBa v p==[]) (.must true (.must true (.must true (.ask (inB a 0 (IntKind.i64.wrap ((↑b.length:Int)-(↑(aBa v p).length:Int)))) (.must (decide ((0:Int)≤IntKind.i64.wrap (a+(↑(aBa v p).length:Int)))&&decide (IntKind.i64.wrap (a+(↑(aBa v p).length:Int))≤(↑b.length:Int))&&(decide ((0:Int)≤a)&&decide (a≤IntKind.i64.wrap (a+(↑(aBa v p).length:Int))))) (.ask (List.drop a.toNat (List.take (IntKind.i64.wrap (a+(↑(aBa v p).length:Int))).toNat b)==aBa v p) (.must true (.ret [C.bool true])) (.must true (.ret [C.bool false])))) (.must true (.ret [C.bool false])))))) (.must true (.ret [C.bool false]))))))):=by kernel_rfl
theorem bJt (H:List Pt→Nat→St→T (List C)) (v:Int) (p:Int) (b:List UInt8) (a:Int):aAk bLf aAc (sg [pI,pI,pS,pI] [rB]) Tryz.f82 H [C.int .i64 v,C.int .i64 p,C.str b,C.int .i64 a]=(.must true (.must true (.must true (.must true (.ask (!aBa v p==[]) (.must true (.must true (.must true (.ask (aGa b a (aBa v p)) (.must true (.ret [C.bool true])) (.must true (.ret [C.bool false])))))) (.must true (.ret [C.bool false]))))))):=by kernel_rfl
theorem bD8:aAa Tryz.prog aSk:=aA8 (by simp[])
theorem aT5:aAx Tryz.prog 167 (sg [pS,pS] [rB]) aHa:=aA6 bD8 aAb Tryz.func167 (by kernel_rfl) fun cs outs hk h=>by
 unfold aHa at h
 split at h
 ·simp only[Option.some.injEq,Prod.mk.injEq,true_and]at h
  rename_i b t
  rw[←h,aAd,aV3]
  simp only[aA1,aA4,aA3,if_true,decide_eq_true_eq,Bool.and_eq_true,Int.toNat_natCast,List.drop_zero,beq_iff_eq,Int.ofNat_le]
  by_cases hl:t.length≤b.length
  ·have z:(0:Int)≤(t.length:Int):=by omega
   by_cases he:b.take t.length=t
   ·have:aF9 b t=true:=by unfold aF9;rw[decide_eq_true he]
    simp only[hl,z,he,if_true,and_self,this]
   ·have:aF9 b t=false:=by unfold aF9;rw[decide_eq_false he]
    simp only[hl,z,he,if_true,if_false,and_self,this]
  ·have:aF9 b t=false:=by
    unfold aF9
    rw[decide_eq_false]
    intro he
    have:=congrArg List.length he
    simp at this
    omega
   simp only[hl,if_false,this]
 ·cases h
theorem bI0:aAa Tryz.prog aUv:=aA8 (by simp[aT5])
theorem aMa:aAx Tryz.prog 149 (sg [pS,pS] [rB]) aHa:=aA6 bI0 aAb Tryz.func149 (by kernel_rfl) fun cs outs hk h=>by
 unfold aHa at h
 split at h
 ·simp only[Option.some.injEq,Prod.mk.injEq,true_and]at h
  rename_i b t
  rw[←h,aAd,aX9]
  by_cases hp:aF9 b t=true<;>simp[aA1,aA4,aA3,hp]
 ·cases h
theorem aGp (b:List UInt8) (a:Int) (t:List UInt8):aGa b a t=true↔(0≤a∧a≤b.length∧(b.drop a.toNat).take t.length=t):=by simp[aGa]
theorem cA3:aAa Tryz.prog bQo:=aA8 (by simp[aGm,aMa])
theorem aUn:aAx Tryz.prog 119 (sg [pS,pI,pS] [rB]) aRz:=aA6 cA3 aAb Tryz.func119 (by kernel_rfl) fun cs outs hk h=>by
 unfold aRz at h
 split at h
 ·simp only[Option.some.injEq,Prod.mk.injEq,true_and]at h
  rename_i b a t
  rw[←h,aAd,bO1]
  simp only[aA1,aA4,aA3,if_true,decide_eq_true_eq,Bool.and_eq_true,List.take_length]
  by_cases hin:inB a 0 (b.length:Int)=true
  ·have hh:=(aBi _ _ _).1 hin
   have e:aGa b a t=aF9 (b.drop a.toNat) t:=by
    unfold aGa aF9
    simp[hh]
   simp only[hin,hh,if_true,and_self,e]
   by_cases hp:aF9 (b.drop a.toNat) t=true<;>simp[hp]
  ·have e:aGa b a t=false:=by
    cases hx:aGa b a t with
    |true=>have:=(aGp _ _ _).1 hx;exact absurd ((aBi _ _ _).2 ⟨this.1,this.2.1⟩) hin
    |false=>rfl
   simp only[hin,if_false,e]
   rfl
 ·cases h
theorem aU8:∀ (k n:Nat),(aD3 k n).length≤k
 |0,_=>by simp[aD3]
 |k+1,n=>by
  by_cases h:n<128
  ·rw[aE2 k n h];simp
  ·rw[aGc k n h];have:=aU8 k (n / 128);simp;omega
theorem aD0 (n:Int):(aB4 n).length≤5:=by
 unfold aB4;split
 ·exact aU8 5 _
 ·simp
theorem aPx (p n:Int):(aFh p n).length≤16:=by
 unfold aFh
 have:=aBn n 4
 have:=aBn (aB6 0 (aAl p 8++aAl n 4):Nat) 4
 rw[List.length_append];omega
theorem aLx (v p:Int):(aBa v p).length≤16:=by
 unfold aBa
 have:=aPx p 4294967295
 split
 ·split
  ·simp
  ·exact this
 ·simp
theorem cA0:aAa Tryz.prog bQn:=aA8 (by simp[aJr,aFs])
theorem aUl:aAx Tryz.prog 131 (sg [pI,pI] [rS]) aR2:=aA6 cA0 aAb Tryz.func131 (by kernel_rfl) fun cs outs hk h=>by
 unfold aR2 at h
 split at h
 ·simp only[Option.some.injEq,Prod.mk.injEq,Bool.and_eq_true,decide_eq_true_eq]at h
  obtain⟨⟨⟨a1,a2⟩,a3,a4⟩,rfl⟩:=h
  rename_i p n
  rw[aAd,bNo]
  have l1:=aBn p 8
  have l2:=aBn n 4
  have l3:=aBn (aB6 0 (aAl p 8++aAl n 4):Nat) 4
  have c1:=aEn 0 (aAl p 8++aAl n 4) (by omega)
  simp only[aA1,aA4,aA3,if_true,decide_eq_true_eq,Bool.and_eq_true,List.length_append,Int.ofNat_eq_natCast]
  repeat rw[if_pos (by omega)]
  rfl
 ·cases h
theorem bI4:aAa Tryz.prog aUw:=aA8 (by simp[aDy,aJj,aFp,aK6])
theorem aI5:aAx Tryz.prog 91 (sg [pI,pI,pS] [rS]) aGq:=aA6 bI4 aAb Tryz.func91 (by kernel_rfl) fun cs outs hk h=>by
 unfold aGq at h
 split at h
 ·simp only[Option.some.injEq,Prod.mk.injEq,decide_eq_true_eq]at h
  obtain⟨h1,rfl⟩:=h
  rename_i v p r
  rw[aAd,aXa]
  by_cases hv:inB v 1 2=true
  ·by_cases hp:inB p 0 1000000000=true
   ·have hv':=(aBi _ _ _).1 hv
    have hp':=(aBi _ _ _).1 hp
    by_cases hr:(60:Int)<r.length
    ·have:¬r.length≤60:=by omega
     simp[aA1,aA4,aA3,hv,hp,hr,aAf,this]
    ·have hr':r.length≤60:=by omega
     have l1:=aBn p 8
     have l2:=aBn (r.length:Int) 4
     have l3:=aBn (aB6 0 (aAl p 8++aAl (r.length:Int) 4):Nat) 4
     have l4:=aBn (aB6 0 r:Nat) 4
     have l5:=aD0 (r.length:Int)
     have c1:=aEn 0 (aAl p 8++aAl (r.length:Int) 4) (by omega)
     have c2:=aEn 0 r (by omega)
     by_cases h1:v=1
     ·have h1t:=eq_true h1
      have e:aAf v p r=aB4 (r.length:Int)++r++aAl (aB6 0 r:Nat) 4:=by
       unfold aAf;rw[hv,hp,decide_eq_true hr',if_neg (show ¬v=2 by omega)];rfl
      rw[e]
      simp only[aA1,aA4,aA3,if_true,hv,hp,hr,h1t,if_false,decide_eq_true_eq,Bool.and_eq_true,List.length_append,Int.ofNat_eq_natCast]
      repeat rw[if_pos (by omega)]
     ·have e:aAf v p r=aFh p (r.length:Int)++r++aAl (aB6 0 r:Nat) 4:=by
       unfold aAf;rw[hv,hp,decide_eq_true hr',if_pos (show v=2 by omega)];rfl
      rw[e]
      unfold aFh
      simp only[aA1,aA4,aA3,if_true,hv,hp,hr,h1,if_false,decide_eq_true_eq,Bool.and_eq_true,List.length_append,Int.ofNat_eq_natCast]
      repeat rw[if_pos (by omega)]
   ·simp[aA1,aA4,aA3,hv,hp,aAf]
  ·simp[aA1,aA4,aA3,hv,aAf]
 ·cases h
theorem bJz:aAa Tryz.prog aV0:=aA8 (by simp[aI6,aJr,aD9,aFs,aKd,aUl])
theorem aMf:aAx Tryz.prog 102 (sg [pI,pI,pS] [rS]) aGq:=aA6 bJz aAb Tryz.func102 (by kernel_rfl) fun cs outs hk h=>by
 unfold aGq at h
 split at h
 ·simp only[Option.some.injEq,Prod.mk.injEq,decide_eq_true_eq]at h
  obtain⟨h1,rfl⟩:=h
  rename_i v p r
  rw[aAd,aYi]
  by_cases hv:inB v 1 2=true
  ·by_cases hp:inB p 0 1000000000=true
   ·have hv':=(aBi _ _ _).1 hv
    have hp':=(aBi _ _ _).1 hp
    by_cases hr:(60:Int)<r.length
    ·have:¬r.length≤60:=by omega
     simp[aA1,aA4,aA3,hv,hp,hr,aAf,this]
    ·have hr':r.length≤60:=by omega
     have l1:=aPx p (r.length:Int)
     have l4:=aBn (aB6 0 r:Nat) 4
     have l5:=aD0 (r.length:Int)
     have c2:=aEn 0 r (by omega)
     by_cases h1:v=2
     ·have h1t:=eq_true h1
      have e:aAf v p r=aFh p (r.length:Int)++r++aAl (aB6 0 r:Nat) 4:=by
       unfold aAf;rw[hv,hp,decide_eq_true hr',if_pos h1];rfl
      rw[e]
      simp only[aA1,aA4,aA3,if_true,hv,hp,hr,h1t,if_false,decide_eq_true_eq,Bool.and_eq_true,List.length_append,Int.ofNat_eq_natCast]
      repeat rw[if_pos (by omega)]
     ·have e:aAf v p r=aB4 (r.length:Int)++r++aAl (aB6 0 r:Nat) 4:=by
       unfold aAf;rw[hv,hp,decide_eq_true hr',if_neg h1];rfl
      rw[e]
      simp only[aA1,aA4,aA3,if_true,hv,hp,hr,h1,if_false,decide_eq_true_eq,Bool.and_eq_true,List.length_append,Int.ofNat_eq_natCast]
      repeat rw[if_pos (by omega)]
   ·simp[aA1,aA4,aA3,hv,hp,aAf]
  ·simp[aA1,aA4,aA3,hv,aAf]
 ·cases h
theorem bRt:aAa Tryz.prog bCr:=aA8 (by simp[aDy,aJj,aFp])
theorem aPf:aAx Tryz.prog 89 (sg [pI,pI] [rS]) aF6:=aA6 bRt aAb Tryz.func89 (by kernel_rfl) fun cs outs hk h=>by
 unfold aF6 at h
 split at h
 ·simp only[Option.some.injEq,Prod.mk.injEq,true_and]at h
  rename_i v p
  rw[←h,aAd,bE6]
  by_cases hv:inB v 1 2=true
  ·by_cases hp:inB p 0 1000000000=true
   ·have hp':=(aBi _ _ _).1 hp
    have l1:=aBn p 8
    have l2:=aBn 4294967295 4
    have l3:=aBn (aB6 0 (aAl p 8++aAl 4294967295 4):Nat) 4
    have c1:=aEn 0 (aAl p 8++aAl 4294967295 4) (by omega)
    by_cases h1:v=1
    ·have h1t:=eq_true h1
     have e:aBa v p=[255,255,255,255,15]:=by unfold aBa;rw[hv,hp,if_pos h1];rfl
     rw[e]
     simp only[aA1,aA4,aA3,if_true,hv,hp,h1t,decide_true]
    ·have e:aBa v p=aFh p 4294967295:=by unfold aBa;rw[hv,hp,if_neg h1];rfl
     rw[e]
     unfold aFh
     simp only[aA1,aA4,aA3,if_true,hv,hp,h1,if_false,decide_eq_true_eq,Bool.and_eq_true,List.length_append,Int.ofNat_eq_natCast]
     repeat rw[if_pos (by omega)]
   ·simp[aA1,aA4,aA3,hv,hp,aBa]
  ·simp[aA1,aA4,aA3,hv,aBa]
 ·cases h
theorem bT4:aAa Tryz.prog bCw:=aA8 (by simp[aI6,aD9,aUl])
theorem aPm:aAx Tryz.prog 118 (sg [pI,pI] [rS]) aF6:=aA6 bT4 aAb Tryz.func118 (by kernel_rfl) fun cs outs hk h=>by
 unfold aF6 at h
 split at h
 ·simp only[Option.some.injEq,Prod.mk.injEq,true_and]at h
  rename_i v p
  rw[←h,aAd,bFr]
  by_cases hv:inB v 1 2=true
  ·by_cases hp:inB p 0 1000000000=true
   ·have hp':=(aBi _ _ _).1 hp
    by_cases h1:v=1
    ·have h1t:=eq_true h1
     have e:aBa v p=[255,255,255,255,15]:=by unfold aBa;rw[hv,hp,if_pos h1];rfl
     rw[e]
     simp[aA1,aA4,aA3,hv,hp,h1t]
    ·have e:aBa v p=aFh p 4294967295:=by unfold aBa;rw[hv,hp,if_neg h1];rfl
     rw[e]
     simp only[aA1,aA4,aA3,if_true,hv,hp,h1,if_false,decide_eq_true_eq,Bool.and_eq_true]
     repeat rw[if_pos (by omega)]
   ·simp[aA1,aA4,aA3,hv,hp,aBa]
  ·simp[aA1,aA4,aA3,hv,aBa]
 ·cases h
theorem bUj:aAa Tryz.prog bL2:=aA8 (by simp[aDy,aPf])
theorem bDy:aAx Tryz.prog 66 (sg [pI,pI,pS,pI] [rB]) aIp:=aA6 bUj aAb Tryz.func66 (by kernel_rfl) fun cs outs hk h=>by
 unfold aIp at h
 split at h
 ·simp only[Option.some.injEq,Prod.mk.injEq,decide_eq_true_eq]at h
  obtain⟨h1,rfl⟩:=h
  rename_i v p b a
  rw[aAd,bHu]
  have lm:=aLx v p
  unfold aH3
  generalize aBa v p=m at *
  by_cases hm:m=[]
  ·simp[aA1,aA4,aA3,hm]
  ·have hb:(!m==([]:List UInt8))=true:=by simpa using hm
   have w1:IntKind.i64.wrap ((b.length:Int)-(m.length:Int))=(b.length:Int)-m.length:=by rw[aAh]<;>omega
   simp only[aA1,aA4,aA3,if_true,hb,w1,decide_eq_true_eq,Bool.and_eq_true,beq_iff_eq]
   by_cases hin:inB a 0 ((b.length:Int)-m.length)=true
   ·have hh:=(aBi _ _ _).1 hin
    obtain⟨a,rfl⟩:=Int.eq_ofNat_of_zero_le hh.1
    have w2:IntKind.i64.wrap ((a:Int)+(m.length:Int))=((a+m.length:Nat):Int):=by rw[aAh]<;>omega
    have z1:(0:Int)≤((a+m.length:Nat):Int):=by omega
    have z2:((a+m.length:Nat):Int)≤b.length:=by omega
    have z3:(a:Int)≤((a+m.length:Nat):Int):=by omega
    have ed:(b.take (a+m.length)).drop a=(b.drop a).take m.length:=by
     rw[List.take_drop]
    simp only[hin,w2,z1,z2,z3,hh.1,if_true,and_self,Int.toNat_natCast,ed]
    by_cases he:(b.drop a).take m.length=m
    ·have:aGa b a m=true:=(aGp _ _ _).2 ⟨by omega,by omega,by simpa using he⟩
     simp[he,this,hm]
    ·have:aGa b a m=false:=by
      cases hx:aGa b a m with
      |true=>exact absurd (by simpa using ((aGp _ _ _).1 hx).2.2) he
      |false=>rfl
     simp[he,this]
   ·have:aGa b a m=false:=by
     cases hx:aGa b a m with
     |true =>
      have hh:=(aGp _ _ _).1 hx
      have hl:=congrArg List.length hh.2.2
      simp at hl
      exact absurd ((aBi _ _ _).2 ⟨hh.1,by omega⟩) hin
     |false=>rfl
    simp[hin,this]
 ·cases h
theorem bWk:aAa Tryz.prog bLf:=aA8 (by simp[aUn,aPm])
theorem bFj:aAx Tryz.prog 82 (sg [pI,pI,pS,pI] [rB]) aIp:=aA6 bWk aAb Tryz.func82 (by kernel_rfl) fun cs outs hk h=>by
 unfold aIp at h
 split at h
 ·simp only[Option.some.injEq,Prod.mk.injEq,decide_eq_true_eq]at h
  obtain⟨h1,rfl⟩:=h
  rename_i v p b a
  rw[aAd,bJt]
  unfold aH3
  generalize aBa v p=m at *
  by_cases hm:m=[]
  ·simp[aA1,aA4,aA3,hm]
  ·have hb:(!m==([]:List UInt8))=true:=by simpa using hm
   by_cases hh:aGa b a m=true<;>simp[aA1,aA4,aA3,hb,hh,hm]
 ·cases h
noncomputable section
def rfN (v:Int) (b:List UInt8) (a:Int):Int:=if v=2 then aB3 b a 4 else rvN b a
def aMb (v:Int) (b:List UInt8) (a:Int):Int:=if v=2 then a+8 else aCu b a
def aRg (v:Int) (b:List UInt8) (a:Int):Bool:=if v=2 then aDd b a 4 else bP9 b a
def aJ1 (v:Int) (b:List UInt8) (a:Int):List UInt8:=(b.drop (aMb v b a).toNat).take (rfN v b a).toNat
def bEg (v p:Int) (b:List UInt8) (a:Int):Bool:=inB v 1 2&&inB p 0 1000000000&&aRg v b a&&decide (rfN v b a≤60∧aMb v b a+rfN v b a≤b.length)&&aGa b a (aAf v p (aJ1 v b a))
def aQ6 (v p:Int) (b:List UInt8) (a:Int):List UInt8:=if bEg v p b a then aJ1 v b a else[]
def aMy (v p:Int) (b:List UInt8) (a:Int):Int:=if bEg v p b a then a+(aAf v p (aJ1 v b a)).length else 0
def aF8:aCf:=fun cs=>match cs with
 |[.int .i64 v,.int .i64 p,.str b,.int .i64 a]=>some (decide (b.length≤281474976710656)&&(decide (-9223372036854775808≤a)&&decide (a≤9223372036854775807)),[.str (aQ6 v p b a),.int .i64 (aMy v p b a),.bool (bEg v p b a)])
 |_=>none
def aUu:Env:=mkE [] [(45,(sg [pI,pI,pI] [rB]),aE4),(85,(sg [pS,pI,pI] [rI,rB]),aF0),(90,(sg [pS,pI] [rI,rI,rB]),aH9),(91,(sg [pI,pI,pS] [rS]),aGq)]
def aUy:Env:=mkE [] [(117,(sg [pS,pI,pI] [rI,rB]),aF0),(120,(sg [pS,pI] [rI,rI,rB]),aH9),(119,(sg [pS,pI,pS] [rB]),aRz),(102,(sg [pI,pI,pS] [rS]),aGq)]
end
theorem aX1 (H:List Pt→Nat→St→T (List C)) (v:Int) (p:Int) (b:List UInt8) (a:Int):aAk aUu aAc (sg [pI,pI,pS,pI] [rS,rI,rB]) Tryz.f67 H [C.int .i64 v,C.int .i64 p,C.str b,C.int .i64 a]=(.must true (.must true (.must true (.must true (.ask (inB v 1 2) (.must true (.must true (.must true (.ask (inB p 0 1000000000) (.must true (.must true (.must true (.ask (inB a 0 (↑b.length:Int)) (.must true (.must (decide (b.length≤281474976710656)&&(decide ((-9223372036854775808:Int)≤a)&&decide (a≤(9223372036854775807:Int)))) (.must true (.ask (bP9 b a) (.ask (decide (v=(2:Int))) (.must true (.must (decide (b.length≤281474976710656)&&(decide ((-9223372036854775808:Int)≤a)&&decide (a≤(9223372036854775807:Int)))) (.must true (.ask (aDd b a 4) (.ask (decide ((60:Int)<aB3 b a 4)) (.must true (.ret [C.str [],C.int .i64 0,C.bool false])) (.ask (decide (IntKind.i64.wrap ((↑b.length:Int)-aB3 b a 4)<IntKind.i64.wrap (a+(8:Int)))) (.must true (.ret [C.str [],C.int .i64 0,C.bool false])) (.must (decide ((0:Int)≤IntKind.i64.wrap (IntKind.i64.wrap (a+(8:Int))+aB3 b a 4))&&decide (IntKind.i64.wrap (IntKind.i64.wrap (a+(8:Int))+aB3 b a 4)≤(↑b.length:Int))&&(decide ((0:Int)≤IntKind.i64.wrap (a+(8:Int)))&&decide (IntKind.i64.wrap (a+(8:Int))≤IntKind.i64.wrap (IntKind.i64.wrap (a+(8:Int))+aB3 b a 4)))) (.must true (.must (decide ((List.drop (IntKind.i64.wrap (a+(8:Int))).toNat (List.take (IntKind.i64.wrap (IntKind.i64.wrap (a+(8:Int))+aB3 b a 4)).toNat b)).length≤281474976710656)) (.must true (.ask (decide (IntKind.i64.wrap ((↑b.length:Int)-a)<(↑(aAf v p (List.drop (IntKind.i64.wrap (a+(8:Int))).toNat (List.take (IntKind.i64.wrap (IntKind.i64.wrap (a+(8:Int))+aB3 b a 4)).toNat b))).length:Int))) (.must true (.ret [C.str [],C.int .i64 0,C.bool false])) (.must (decide ((0:Int)≤IntKind.i64.wrap (a+(↑(aAf v p (List.drop (IntKind.i64.wrap (a+(8:Int))).toNat (List.take (IntKind.i64.wrap (IntKind.i64.wrap (a+(8:Int))+aB3 b a 4)).toNat b))).length:Int)))&&decide (IntKind.i64.wrap (a+(↑(aAf v p (List.drop (IntKind.i64.wrap (a+(8:Int))).toNat (List.take (IntKind.i64.wrap (IntKind.i64.wrap (a+(8:Int))+aB3 b a 4)).toNat b))).length:Int))≤(↑b.length:Int))&&(decide ((0:Int)≤a)&&decide (a≤IntKind.i64.wrap (a+(↑(aAf v p (List.drop (IntKind.i64.wrap (a+(8:Int))).toNat (List.take (IntKind.i64.wrap (IntKind.i64.wrap (a+(8:Int))+aB3 b a 4)).toNat b))).length:Int))))) (.ask (!List.drop a.toNat (List.take (IntKind.i64.wrap (a+(↑(aAf v p (List.drop (IntKind.i64.wrap (a+(8:Int))).toNat (List.take (IntKind.i64.wrap (IntKind.i64.wrap (a+(8:Int))+aB3 b a 4)).toNat b))).length:Int))).toNat b)==aAf v p (List.drop (IntKind.i64.wrap (a+(8:Int))).toNat (List.take (IntKind.i64.wrap (IntKind.i64.wrap (a+(8:Int))+aB3 b a 4)).toNat b))) (.must true (.ret [C.str [],C.int .i64 0,C.bool false])) (.must true (.ret [C.str (List.drop (IntKind.i64.wrap (a+(8:Int))).toNat (List.take (IntKind.i64.wrap (IntKind.i64.wrap (a+(8:Int))+aB3 b a 4)).toNat b)),C.int .i64 (IntKind.i64.wrap (a+(↑(aAf v p (List.drop (IntKind.i64.wrap (a+(8:Int))).toNat (List.take (IntKind.i64.wrap (IntKind.i64.wrap (a+(8:Int))+aB3 b a 4)).toNat b))).length:Int))),C.bool true]))))))))))) (.must true (.ret [C.str [],C.int .i64 0,C.bool false])))))) (.ask (decide ((60:Int)<rvN b a)) (.must true (.ret [C.str [],C.int .i64 0,C.bool false])) (.ask (decide (IntKind.i64.wrap ((↑b.length:Int)-rvN b a)<aCu b a)) (.must true (.ret [C.str [],C.int .i64 0,C.bool false])) (.must (decide ((0:Int)≤IntKind.i64.wrap (aCu b a+rvN b a))&&decide (IntKind.i64.wrap (aCu b a+rvN b a)≤(↑b.length:Int))&&(decide ((0:Int)≤aCu b a)&&decide (aCu b a≤IntKind.i64.wrap (aCu b a+rvN b a)))) (.must true (.must (decide ((List.drop (aCu b a).toNat (List.take (IntKind.i64.wrap (aCu b a+rvN b a)).toNat b)).length≤281474976710656)) (.must true (.ask (decide (IntKind.i64.wrap ((↑b.length:Int)-a)<(↑(aAf v p (List.drop (aCu b a).toNat (List.take (IntKind.i64.wrap (aCu b a+rvN b a)).toNat b))).length:Int))) (.must true (.ret [C.str [],C.int .i64 0,C.bool false])) (.must (decide ((0:Int)≤IntKind.i64.wrap (a+(↑(aAf v p (List.drop (aCu b a).toNat (List.take (IntKind.i64.wrap (aCu b a+rvN b a)).toNat b))).length:Int)))&&decide (IntKind.i64.wrap (a+(↑(aAf v p (List.drop (aCu b a).toNat (List.take (IntKind.i64.wrap (aCu b a+rvN b a)).toNat b))).length:Int))≤(↑b.length:Int))&&(decide ((0:Int)≤a)&&decide (a≤IntKind.i64.wrap (a+(↑(aAf v p (List.drop (aCu b a).toNat (List.take (IntKind.i64.wrap (aCu b a+rvN b a)).toNat b))).length:Int))))) (.ask (!List.drop a.toNat (List.take (IntKind.i64.wrap (a+(↑(aAf v p (List.drop (aCu b a).toNat (List.take (IntKind.i64.wrap (aCu b a+rvN b a)).toNat b))).length:Int))).toNat b)==aAf v p (List.drop (aCu b a).toNat (List.take (IntKind.i64.wrap (aCu b a+rvN b a)).toNat b))) (.must true (.ret [C.str [],C.int .i64 0,C.bool false])) (.must true (.ret [C.str (List.drop (aCu b a).toNat (List.take (IntKind.i64.wrap (aCu b a+rvN b a)).toNat b)),C.int .i64 (IntKind.i64.wrap (a+(↑(aAf v p (List.drop (aCu b a).toNat (List.take (IntKind.i64.wrap (aCu b a+rvN b a)).toNat b))).length:Int))),C.bool true])))))))))))) (.ask (decide (v=(2:Int))) (.must true (.must (decide (b.length≤281474976710656)&&(decide ((-9223372036854775808:Int)≤a)&&decide (a≤(9223372036854775807:Int)))) (.must true (.ask (aDd b a 4) (.ask (decide ((60:Int)<aB3 b a 4)) (.must true (.ret [C.str [],C.int .i64 0,C.bool false])) (.ask (decide (IntKind.i64.wrap ((↑b.length:Int)-aB3 b a 4)<IntKind.i64.wrap (a+(8:Int)))) (.must true (.ret [C.str [],C.int .i64 0,C.bool false])) (.must (decide ((0:Int)≤IntKind.i64.wrap (IntKind.i64.wrap (a+(8:Int))+aB3 b a 4))&&decide (IntKind.i64.wrap (IntKind.i64.wrap (a+(8:Int))+aB3 b a 4)≤(↑b.length:Int))&&(decide ((0:Int)≤IntKind.i64.wrap (a+(8:Int)))&&decide (IntKind.i64.wrap (a+(8:Int))≤IntKind.i64.wrap (IntKind.i64.wrap (a+(8:Int))+aB3 b a 4)))) (.must true (.must (decide ((List.drop (IntKind.i64.wrap (a+(8:Int))).toNat (List.take (IntKind.i64.wrap (IntKind.i64.wrap (a+(8:Int))+aB3 b a 4)).toNat b)).length≤281474976710656)) (.must true (.ask (decide (IntKind.i64.wrap ((↑b.length:Int)-a)<(↑(aAf v p (List.drop (IntKind.i64.wrap (a+(8:Int))).toNat (List.take (IntKind.i64.wrap (IntKind.i64.wrap (a+(8:Int))+aB3 b a 4)).toNat b))).length:Int))) (.must true (.ret [C.str [],C.int .i64 0,C.bool false])) (.must (decide ((0:Int)≤IntKind.i64.wrap (a+(↑(aAf v p (List.drop (IntKind.i64.wrap (a+(8:Int))).toNat (List.take (IntKind.i64.wrap (IntKind.i64.wrap (a+(8:Int))+aB3 b a 4)).toNat b))).length:Int)))&&decide (IntKind.i64.wrap (a+(↑(aAf v p (List.drop (IntKind.i64.wrap (a+(8:Int))).toNat (List.take (IntKind.i64.wrap (IntKind.i64.wrap (a+(8:Int))+aB3 b a 4)).toNat b))).length:Int))≤(↑b.length:Int))&&(decide ((0:Int)≤a)&&decide (a≤IntKind.i64.wrap (a+(↑(aAf v p (List.drop (IntKind.i64.wrap (a+(8:Int))).toNat (List.take (IntKind.i64.wrap (IntKind.i64.wrap (a+(8:Int))+aB3 b a 4)).toNat b))).length:Int))))) (.ask (!List.drop a.toNat (List.take (IntKind.i64.wrap (a+(↑(aAf v p (List.drop (IntKind.i64.wrap (a+(8:Int))).toNat (List.take (IntKind.i64.wrap (IntKind.i64.wrap (a+(8:Int))+aB3 b a 4)).toNat b))).length:Int))).toNat b)==aAf v p (List.drop (IntKind.i64.wrap (a+(8:Int))).toNat (List.take (IntKind.i64.wrap (IntKind.i64.wrap (a+(8:Int))+aB3 b a 4)).toNat b))) (.must true (.ret [C.str [],C.int .i64 0,C.bool false])) (.must true (.ret [C.str (List.drop (IntKind.i64.wrap (a+(8:Int))).toNat (List.take (IntKind.i64.wrap (IntKind.i64.wrap (a+(8:Int))+aB3 b a 4)).toNat b)),C.int .i64 (IntKind.i64.wrap (a+(↑(aAf v p (List.drop (IntKind.i64.wrap (a+(8:Int))).toNat (List.take (IntKind.i64.wrap (IntKind.i64.wrap (a+(8:Int))+aB3 b a 4)).toNat b))).length:Int))),C.bool true]))))))))))) (.must true (.ret [C.str [],C.int .i64 0,C.bool false])))))) (.must true (.ret [C.str [],C.int .i64 0,C.bool false]))))))) (.must true (.ret [C.str [],C.int .i64 0,C.bool false])))))) (.must true (.ret [C.str [],C.int .i64 0,C.bool false])))))) (.must true (.ret [C.str [],C.int .i64 0,C.bool false]))))))):=by kernel_rfl
theorem aYb (H:List Pt→Nat→St→T (List C)) (v:Int) (p:Int) (b:List UInt8) (a:Int):aAk aUy aAc (sg [pI,pI,pS,pI] [rS,rI,rB]) Tryz.f83 H [C.int .i64 v,C.int .i64 p,C.str b,C.int .i64 a]=(.must true (.ask (decide (v=(2:Int))) (.must true (.must (decide (b.length≤281474976710656)&&(decide ((-9223372036854775808:Int)≤a)&&decide (a≤(9223372036854775807:Int)))) (.must true (.ask (aDd b a 4) (.ask (decide ((60:Int)<aB3 b a 4)) (.must true (.ret [C.str [],C.int .i64 0,C.bool false])) (.ask (decide ((↑b.length:Int)<IntKind.i64.wrap (a+(8:Int)))) (.must true (.ret [C.str [],C.int .i64 0,C.bool false])) (.ask (decide (IntKind.i64.wrap ((↑b.length:Int)-IntKind.i64.wrap (a+(8:Int)))<aB3 b a 4)) (.must true (.ret [C.str [],C.int .i64 0,C.bool false])) (.must (decide ((0:Int)≤IntKind.i64.wrap (IntKind.i64.wrap (a+(8:Int))+aB3 b a 4))&&decide (IntKind.i64.wrap (IntKind.i64.wrap (a+(8:Int))+aB3 b a 4)≤(↑b.length:Int))&&(decide ((0:Int)≤IntKind.i64.wrap (a+(8:Int)))&&decide (IntKind.i64.wrap (a+(8:Int))≤IntKind.i64.wrap (IntKind.i64.wrap (a+(8:Int))+aB3 b a 4)))) (.must true (.must (decide ((List.drop (IntKind.i64.wrap (a+(8:Int))).toNat (List.take (IntKind.i64.wrap (IntKind.i64.wrap (a+(8:Int))+aB3 b a 4)).toNat b)).length≤281474976710656)) (.must true (.ask (aAf v p (List.drop (IntKind.i64.wrap (a+(8:Int))).toNat (List.take (IntKind.i64.wrap (IntKind.i64.wrap (a+(8:Int))+aB3 b a 4)).toNat b))==[]) (.must true (.ret [C.str [],C.int .i64 0,C.bool false])) (.must true (.must true (.must true (.ask (aGa b a (aAf v p (List.drop (IntKind.i64.wrap (a+(8:Int))).toNat (List.take (IntKind.i64.wrap (IntKind.i64.wrap (a+(8:Int))+aB3 b a 4)).toNat b)))) (.must true (.ret [C.str (List.drop (IntKind.i64.wrap (a+(8:Int))).toNat (List.take (IntKind.i64.wrap (IntKind.i64.wrap (a+(8:Int))+aB3 b a 4)).toNat b)),C.int .i64 (IntKind.i64.wrap (a+(↑(aAf v p (List.drop (IntKind.i64.wrap (a+(8:Int))).toNat (List.take (IntKind.i64.wrap (IntKind.i64.wrap (a+(8:Int))+aB3 b a 4)).toNat b))).length:Int))),C.bool true])) (.must true (.ret [C.str [],C.int .i64 0,C.bool false])))))))))))))) (.must true (.ret [C.str [],C.int .i64 0,C.bool false])))))) (.must true (.must (decide (b.length≤281474976710656)&&(decide ((-9223372036854775808:Int)≤a)&&decide (a≤(9223372036854775807:Int)))) (.must true (.ask (bP9 b a) (.ask (decide ((60:Int)<rvN b a)) (.must true (.ret [C.str [],C.int .i64 0,C.bool false])) (.ask (decide ((↑b.length:Int)<aCu b a)) (.must true (.ret [C.str [],C.int .i64 0,C.bool false])) (.ask (decide (IntKind.i64.wrap ((↑b.length:Int)-aCu b a)<rvN b a)) (.must true (.ret [C.str [],C.int .i64 0,C.bool false])) (.must (decide ((0:Int)≤IntKind.i64.wrap (aCu b a+rvN b a))&&decide (IntKind.i64.wrap (aCu b a+rvN b a)≤(↑b.length:Int))&&(decide ((0:Int)≤aCu b a)&&decide (aCu b a≤IntKind.i64.wrap (aCu b a+rvN b a)))) (.must true (.must (decide ((List.drop (aCu b a).toNat (List.take (IntKind.i64.wrap (aCu b a+rvN b a)).toNat b)).length≤281474976710656)) (.must true (.ask (aAf v p (List.drop (aCu b a).toNat (List.take (IntKind.i64.wrap (aCu b a+rvN b a)).toNat b))==[]) (.must true (.ret [C.str [],C.int .i64 0,C.bool false])) (.must true (.must true (.must true (.ask (aGa b a (aAf v p (List.drop (aCu b a).toNat (List.take (IntKind.i64.wrap (aCu b a+rvN b a)).toNat b)))) (.must true (.ret [C.str (List.drop (aCu b a).toNat (List.take (IntKind.i64.wrap (aCu b a+rvN b a)).toNat b)),C.int .i64 (IntKind.i64.wrap (a+(↑(aAf v p (List.drop (aCu b a).toNat (List.take (IntKind.i64.wrap (aCu b a+rvN b a)).toNat b))).length:Int))),C.bool true])) (.must true (.ret [C.str [],C.int .i64 0,C.bool false])))))))))))))) (.must true (.ret [C.str [],C.int .i64 0,C.bool false])))))))):=by kernel_rfl
def aKw:List C:=[C.str [],C.int IntKind.i64 (0:Int),C.bool false]
def cEj (v p : Int) (b : List UInt8) (a n f : Int) : T (List C) :=
  .ask (decide (60 < n)) (.must true (.ret aKw))
   (.ask (decide (IntKind.i64.wrap ((b.length : Int) - n) < f)) (.must true (.ret aKw))
    (.must (decide (0 ≤ IntKind.i64.wrap (f + n)) && decide (IntKind.i64.wrap (f + n) ≤ (b.length : Int)) && (decide (0 ≤ f) && decide (f ≤ IntKind.i64.wrap (f + n))))
     (.must true
      (.must (decide ((List.drop f.toNat (List.take (IntKind.i64.wrap (f + n)).toNat b)).length ≤ 281474976710656))
       (.must true
        (.ask (decide (IntKind.i64.wrap ((b.length : Int) - a) < ((aAf v p (List.drop f.toNat (List.take (IntKind.i64.wrap (f + n)).toNat b))).length : Int))) (.must true (.ret aKw))
         (.must (decide (0 ≤ IntKind.i64.wrap (a + ((aAf v p (List.drop f.toNat (List.take (IntKind.i64.wrap (f + n)).toNat b))).length : Int))) && decide (IntKind.i64.wrap (a + ((aAf v p (List.drop f.toNat (List.take (IntKind.i64.wrap (f + n)).toNat b))).length : Int)) ≤ (b.length : Int)) && (decide (0 ≤ a) && decide (a ≤ IntKind.i64.wrap (a + ((aAf v p (List.drop f.toNat (List.take (IntKind.i64.wrap (f + n)).toNat b))).length : Int)))))
          (.ask (!List.drop a.toNat (List.take (IntKind.i64.wrap (a + ((aAf v p (List.drop f.toNat (List.take (IntKind.i64.wrap (f + n)).toNat b))).length : Int))).toNat b) == aAf v p (List.drop f.toNat (List.take (IntKind.i64.wrap (f + n)).toNat b)))
           (.must true (.ret aKw))
           (.must true (.ret [C.str (List.drop f.toNat (List.take (IntKind.i64.wrap (f + n)).toNat b)), C.int IntKind.i64 (IntKind.i64.wrap (a + ((aAf v p (List.drop f.toNat (List.take (IntKind.i64.wrap (f + n)).toNat b))).length : Int))), C.bool true]))))))))))
def cFb (v p : Int) (b : List UInt8) (a n f : Int) : T (List C) :=
  .ask (decide (60 < n)) (.must true (.ret aKw))
   (.ask (decide ((b.length : Int) < f)) (.must true (.ret aKw))
    (.ask (decide (IntKind.i64.wrap ((b.length : Int) - f) < n)) (.must true (.ret aKw))
     (.must (decide (0 ≤ IntKind.i64.wrap (f + n)) && decide (IntKind.i64.wrap (f + n) ≤ (b.length : Int)) && (decide (0 ≤ f) && decide (f ≤ IntKind.i64.wrap (f + n))))
      (.must true
       (.must (decide ((List.drop f.toNat (List.take (IntKind.i64.wrap (f + n)).toNat b)).length ≤ 281474976710656))
        (.must true
         (.ask (aAf v p (List.drop f.toNat (List.take (IntKind.i64.wrap (f + n)).toNat b)) == []) (.must true (.ret aKw))
          (.must true (.must true (.must true
           (.ask (aGa b a (aAf v p (List.drop f.toNat (List.take (IntKind.i64.wrap (f + n)).toNat b))))
            (.must true (.ret [C.str (List.drop f.toNat (List.take (IntKind.i64.wrap (f + n)).toNat b)), C.int IntKind.i64 (IntKind.i64.wrap (a + ((aAf v p (List.drop f.toNat (List.take (IntKind.i64.wrap (f + n)).toNat b))).length : Int))), C.bool true]))
            (.must true (.ret aKw)))))))))))))
def aT3 (v p:Int) (b:List UInt8) (a n f:Int):List C :=
 if n≤60∧f+n≤b.length∧aGa b a (aAf v p ((b.drop f.toNat).take n.toNat))=true then[.str ((b.drop f.toNat).take n.toNat),.int .i64 (a+(aAf v p ((b.drop f.toNat).take n.toNat)).length),.bool true]else aKw
theorem aE9 (v p:Int) (r:List UInt8):(aAf v p r).length≤90:=by
 unfold aAf
 have h1:=aPx p r.length
 have h2:=aD0 r.length
 have h3:=aBn (aB6 0 r:Nat) 4
 split
 ·rename_i h
  simp only[Bool.and_eq_true,decide_eq_true_eq]at h
  split<;>simp only[List.length_append]<;>omega
 ·simp
theorem aNi (v p:Int) (r:List UInt8) (hv:inB v 1 2=true) (hp:inB p 0 1000000000=true) (hr:r.length≤60):aAf v p r≠[]:=by
 unfold aAf
 rw[hv,hp,decide_eq_true hr]
 intro h
 have h4:(aAl (aB6 0 r:Nat) 4).length=4:=by
  have hc:=aEn 0 r (by omega)
  have hg:=aVs (aB6 0 r) 4 (by omega) (by omega)
  rw[show ((4:Nat):Int)=4 from rfl]at hg
  rw[hg,if_pos (by omega),aCe]
 have:=congrArg List.length h
 simp only[Bool.and_self,if_true,List.length_append,List.length_nil]at this
 omega
theorem bFx (v p:Int) (r:List UInt8) (h:¬(inB v 1 2=true∧inB p 0 1000000000=true)):aAf v p r=[]:=by
 unfold aAf
 rw[if_neg]
 intro hh
 simp only[Bool.and_eq_true]at hh
 exact h hh.1
theorem bBs (v p:Int) (b:List UInt8) (a n f:Int) (hb:b.length≤281474976710656) (hn:0≤n) (hn2:n≤9223372036854775807) (hf:0≤f) (hf2:f≤1125899906842624) (ha:0≤a) (ha2:a≤b.length) (hv:inB v 1 2=true) (hp:inB p 0 1000000000=true) :
  (cEj v p b a n f).eval=some (aT3 v p b a n f):=by
 unfold cEj aT3
 by_cases h1:60<n
 ·have:¬n≤60:=by omega
  simp[aA1,aA4,aA3,h1,this]
 ·have w1:IntKind.i64.wrap ((b.length:Int)-n)=(b.length:Int)-n:=by rw[aAh]<;>omega
  have w2:IntKind.i64.wrap (f+n)=f+n:=by rw[aAh]<;>omega
  have h1':n≤60:=by omega
  rw[w1,w2]
  by_cases h2:(b.length:Int)-n<f
  ·have:¬(f+n≤b.length):=by omega
   simp[aA1,aA4,aA3,h1,h2,this]
  ·have h2':f+n≤b.length:=by omega
   have hrec:List.drop f.toNat (List.take (f+n).toNat b)=(b.drop f.toNat).take n.toNat:=by
    rw[List.take_drop];congr 2;omega
   rw[hrec]
   have hl:((b.drop f.toNat).take n.toNat).length≤281474976710656:=by simp;omega
   have hl60:((b.drop f.toNat).take n.toNat).length≤60:=by simp;omega
   generalize (b.drop f.toNat).take n.toNat=r at hl hl60
   have fl:=aE9 v p r
   have fne:=aNi v p r hv hp hl60
   generalize aAf v p r=t at fl fne
   have w3:IntKind.i64.wrap ((b.length:Int)-a)=(b.length:Int)-a:=by rw[aAh]<;>omega
   have w4:IntKind.i64.wrap (a+(t.length:Int))=a+t.length:=by rw[aAh]<;>omega
   rw[w3,w4]
   have z1:0≤f+n:=by omega
   have z2:f≤f+n:=by omega
   by_cases h3:(b.length:Int)-a<t.length
   ·have:aGa b a t=false:=by
     cases hx:aGa b a t with
     |true =>
      have hh:=(aGp _ _ _).1 hx
      have hl:=congrArg List.length hh.2.2
      simp at hl
      omega
     |false=>rfl
    simp[aA1,aA4,aA3,h1,h2,h2',hf,hl,h3,this,z1,z2,hn]
   ·have z3:0≤a+(t.length:Int):=by omega
    have z4:a+(t.length:Int)≤b.length:=by omega
    have z5:a≤a+(t.length:Int):=by omega
    have ed:List.drop a.toNat (List.take (a+(t.length:Int)).toNat b)=(b.drop a.toNat).take t.length:=by
     rw[List.take_drop];congr 2;omega
    rw[ed]
    by_cases he:(b.drop a.toNat).take t.length=t
    ·have hh:aGa b a t=true:=(aGp _ _ _).2 ⟨ha,ha2,he⟩
     simp[aA1,aA4,aA3,h1,h1',h2,h2',hf,hl,h3,z1,z2,z3,z4,z5,hn,ha,he,hh]
    ·have hh:aGa b a t=false:=by
      cases hx:aGa b a t with
      |true=>exact absurd ((aGp _ _ _).1 hx).2.2 he
      |false=>rfl
     simp[aA1,aA4,aA3,h1,h1',h2,h2',hf,hl,h3,z1,z2,z3,z4,z5,hn,ha,he,hh]
theorem bC3 (v p:Int) (b:List UInt8) (a n f:Int) (hb:b.length≤281474976710656) (hn:0≤n) (hn2:n≤9223372036854775807) (hf:0≤f) (hf2:f≤1125899906842624) (ha2:a≤9223372036854775807) :
  (cFb v p b a n f).eval=some (if inB v 1 2=true∧inB p 0 1000000000=true then aT3 v p b a n f else aKw):=by
 unfold cFb aT3
 by_cases h1:60<n
 ·have:¬n≤60:=by omega
  simp[aA1,aA4,aA3,h1,this]
 ·have w2:IntKind.i64.wrap (f+n)=f+n:=by rw[aAh]<;>omega
  have h1':n≤60:=by omega
  rw[w2]
  by_cases h2:(b.length:Int)<f
  ·have:¬(f+n≤b.length):=by omega
   simp[aA1,aA4,aA3,h1,h2,this]
  ·have w1:IntKind.i64.wrap ((b.length:Int)-f)=(b.length:Int)-f:=by rw[aAh]<;>omega
   rw[w1]
   by_cases h3:(b.length:Int)-f<n
   ·have:¬(f+n≤b.length):=by omega
    simp[aA1,aA4,aA3,h1,h2,h3,this]
   ·have h2':f+n≤b.length:=by omega
    have hrec:List.drop f.toNat (List.take (f+n).toNat b)=(b.drop f.toNat).take n.toNat:=by
     rw[List.take_drop];congr 2;omega
    rw[hrec]
    have hl:((b.drop f.toNat).take n.toNat).length≤281474976710656:=by simp;omega
    have hl60:((b.drop f.toNat).take n.toNat).length≤60:=by simp;omega
    generalize (b.drop f.toNat).take n.toNat=r at hl hl60
    have z1:0≤f+n:=by omega
    have z2:f≤f+n:=by omega
    by_cases hvp:inB v 1 2=true∧inB p 0 1000000000=true
    ·have fl:=aE9 v p r
     have fne:=aNi v p r hvp.1 hvp.2 hl60
     rw[if_pos hvp]
     generalize aAf v p r=t at fl fne
     have fb:(t==([]:List UInt8))=false:=by simpa using fne
     by_cases hh:aGa b a t=true
     ·have hx:=(aGp _ _ _).1 hh
      have w4:IntKind.i64.wrap (a+(t.length:Int))=a+t.length:=by rw[aAh]<;>omega
      simp[aA1,aA4,aA3,h1,h1',h2,h2',h3,hf,hl,z1,z2,hn,fb,hh,w4,fne]
     ·simp[aA1,aA4,aA3,h1,h1',h2,h2',h3,hf,hl,z1,z2,hn,fb,hh,fne]
    ·rw[if_neg hvp,bFx v p r hvp]
     simp[aA1,aA4,aA3,h1,h1',h2,h2',h3,hf,hl,z1,z2,hn]
theorem bP8 (b:List UInt8) (a:Int):0≤rvN b a∧rvN b a≤1000000000∧0≤aCu b a∧aCu b a≤b.length∧(bP9 b a=true→0≤a∧a≤b.length):=by
 have go:∀ (fu k n:Nat) (q:Nat×Nat),bS2 b a.toNat fu k n=some q→q.1≤1000000000∧q.2≤b.length∧a.toNat≤b.length:=by
  intro fu
  induction fu with
  |zero=>intro k n q h;simp[bS2]at h
  |succ fu ih =>
   intro k n q h
   simp only[bS2]at h
   split at h
   ·split at h
    ·split at h
     ·cases h
     ·obtain rfl:=Option.some.inj h
      simp only[]
      omega
    ·exact ih _ _ _ h
   ·cases h
 unfold rvN aCu bP9 aK9
 by_cases ha:0≤a
 ·rw[if_pos ha]
  cases hq:bS2 b a.toNat 5 0 0 with
  |none=>simp
  |some q=>have:=go 5 0 0 q hq;simp;omega
 ·rw[if_neg ha];simp
theorem bKc (b:List UInt8) (a w:Int):0≤aB3 b a w∧aB3 b a w≤9223372036854775807∧(aDd b a w=true→0≤a∧a≤b.length):=by
 unfold aB3
 cases h:aDd b a w with
 |true=>have:=(aKu _ _ _).1 h;simp;omega
 |false=>simp
theorem bV4 (v p:Int) (b:List UInt8) (a:Int):[C.str (aQ6 v p b a),C.int .i64 (aMy v p b a),C.bool (bEg v p b a)]=if inB v 1 2=true∧inB p 0 1000000000=true∧aRg v b a=true then aT3 v p b a (rfN v b a) (aMb v b a)else aKw:=by
 unfold aQ6 aMy bEg aT3 aJ1 aKw
 generalize aRg v b a=x
 generalize rfN v b a=n
 generalize aMb v b a=f
 generalize aAf v p ((b.drop f.toNat).take n.toNat)=t
 by_cases h1:inB v 1 2=true
 ·by_cases h2:inB p 0 1000000000=true
  ·cases x with
   |false=>simp
   |true =>
    by_cases h3:n≤60∧f+n≤b.length
    ·by_cases h4:aGa b a t=true<;>simp[h1,h2,h3,h4]
    ·have h3':¬(n≤60∧f+n≤b.length∧aGa b a t=true):=fun h=>h3 ⟨h.1,h.2.1⟩
     rw[decide_eq_false h3,if_neg h3']
     simp
  ·simp[h2]
 ·simp[h1]
theorem aC6 {α:Type} (n:T α):(T.must true n).eval=n.eval:=rfl
theorem aCr {α:Type} (y n:T α):(T.ask true y n).eval=y.eval:=rfl
theorem aEt {α:Type} (y n:T α):(T.ask false y n).eval=n.eval:=rfl
theorem bHl:aAa Tryz.prog aUu:=aA8 (by simp[aDy,aPd,bA6,aI5])
theorem aV7:aAx Tryz.prog 67 (sg [pI,pI,pS,pI] [rS,rI,rB]) aF8:=aA6 bHl aAb Tryz.func67 (by kernel_rfl) fun cs outs hk h=>by
 unfold aF8 at h
 split at h
 ·simp only[Option.some.injEq,Prod.mk.injEq,Bool.and_eq_true,decide_eq_true_eq]at h
  obtain⟨⟨h1,h2,h3⟩,rfl⟩:=h
  rename_i v p b a
  rw[aAd,aX1,bV4]
  have pre:(decide (b.length≤281474976710656)&&(decide (-9223372036854775808≤a)&&decide (a≤9223372036854775807)))=true:=by simp[h1,h2,h3]
  obtain⟨r1,r2,r3,r4,r5⟩:=bP8 b a
  obtain⟨f1,f2,f3⟩:=bKc b a 4
  have has_in:aRg v b a=true→0≤a∧a≤b.length:=by
   unfold aRg;split
   ·exact f3
   ·exact r5
  cases hv:inB v 1 2 with
  |false=>simp only[aC6,aEt,hv,Bool.false_eq_true,false_and,if_false];rfl
  |true =>
   cases hp:inB p 0 1000000000 with
   |false=>simp only[aC6,aCr,aEt,hv,hp,Bool.false_eq_true,and_false,false_and,if_false];rfl
   |true =>
    cases ha:inB a 0 (b.length:Int)with
    |false =>
     have:¬aRg v b a=true:=fun h=>by
      have:=has_in h
      have:=(aBi a 0 (b.length:Int)).2 this
      rw[ha]at this;cases this
     simp only[aC6,aCr,aEt,hv,hp,ha,this,and_false,if_false];rfl
    |true =>
     have ha':=(aBi _ _ _).1 ha
     have w8:IntKind.i64.wrap (a+8)=a+8:=by rw[aAh]<;>omega
     have e1:=bBs v p b a (aB3 b a 4) (a+8) h1 f1 f2 (by omega) (by omega) ha'.1 ha'.2 hv hp
     have e2:=bBs v p b a (rvN b a) (aCu b a) h1 r1 (by omega) r3 (by omega) ha'.1 ha'.2 hv hp
     by_cases hv2:v=2
     ·have d2:decide (v=2)=true:=decide_eq_true hv2
      have hh:aRg v b a=aDd b a 4:=by unfold aRg;rw[if_pos hv2]
      have hn:rfN v b a=aB3 b a 4:=by unfold rfN;rw[if_pos hv2]
      have hf:aMb v b a=a+8:=by unfold aMb;rw[if_pos hv2]
      rw[hh,hn,hf]
      cases hk1:aDd b a 4 with
      |false=>cases hk2:bP9 b a<;>(simp only[aC6,aCr,aEt,hv,hp,ha,pre,d2,hk1,hk2,Bool.false_eq_true,if_false,and_false];rfl)
      |true=>cases hk2:bP9 b a<;>(simp only[aC6,aCr,aEt,hv,hp,ha,pre,d2,hk1,hk2,w8,true_and,and_self,if_true];exact e1)
     ·have d2:decide (v=2)=false:=decide_eq_false hv2
      have hh:aRg v b a=bP9 b a:=by unfold aRg;rw[if_neg hv2]
      have hn:rfN v b a=rvN b a:=by unfold rfN;rw[if_neg hv2]
      have hf:aMb v b a=aCu b a:=by unfold aMb;rw[if_neg hv2]
      rw[hh,hn,hf]
      cases hk2:bP9 b a with
      |false=>simp only[aC6,aCr,aEt,hv,hp,ha,pre,hk2,Bool.false_eq_true,if_false,and_false];first | rfl | (cases hk1:aDd b a 4<;>simp only[aC6,aCr,aEt,d2]<;>rfl)
      |true=>simp only[aC6,aCr,aEt,hv,hp,ha,pre,d2,hk2,true_and,and_self,if_true];exact e2
 ·cases h
theorem bJr:aAa Tryz.prog aUy:=aA8 (by simp[aPl,bB0,aUn,aMf])
theorem aVg:aAx Tryz.prog 83 (sg [pI,pI,pS,pI] [rS,rI,rB]) aF8:=aA6 bJr aAb Tryz.func83 (by kernel_rfl) fun cs outs hk h=>by
 unfold aF8 at h
 split at h
 ·simp only[Option.some.injEq,Prod.mk.injEq,Bool.and_eq_true,decide_eq_true_eq]at h
  obtain⟨⟨h1,h2,h3⟩,rfl⟩:=h
  rename_i v p b a
  rw[aAd,aYb,bV4]
  have pre:(decide (b.length≤281474976710656)&&(decide (-9223372036854775808≤a)&&decide (a≤9223372036854775807)))=true:=by simp[h1,h2,h3]
  obtain⟨r1,r2,r3,r4,r5⟩:=bP8 b a
  obtain⟨f1,f2,f3⟩:=bKc b a 4
  by_cases hv2:v=2
  ·have d2:decide (v=2)=true:=decide_eq_true hv2
   have hh:aRg v b a=aDd b a 4:=by unfold aRg;rw[if_pos hv2]
   have hn:rfN v b a=aB3 b a 4:=by unfold rfN;rw[if_pos hv2]
   have hf:aMb v b a=a+8:=by unfold aMb;rw[if_pos hv2]
   rw[hh,hn,hf]
   cases hk1:aDd b a 4 with
   |false=>simp only[aC6,aCr,aEt,pre,d2,hk1,Bool.false_eq_true,and_false,if_false];rfl
   |true =>
    have ha:=f3 hk1
    have w8:IntKind.i64.wrap (a+8)=a+8:=by rw[aAh]<;>omega
    have e1:=bC3 v p b a (aB3 b a 4) (a+8) h1 f1 f2 (by omega) (by omega) h3
    simp only[aC6,aCr,aEt,pre,d2,hk1,w8,and_true]
    exact e1
  ·have d2:decide (v=2)=false:=decide_eq_false hv2
   have hh:aRg v b a=bP9 b a:=by unfold aRg;rw[if_neg hv2]
   have hn:rfN v b a=rvN b a:=by unfold rfN;rw[if_neg hv2]
   have hf:aMb v b a=aCu b a:=by unfold aMb;rw[if_neg hv2]
   rw[hh,hn,hf]
   cases hk1:bP9 b a with
   |false=>simp only[aC6,aCr,aEt,pre,d2,hk1,Bool.false_eq_true,and_false,if_false];rfl
   |true =>
    have e1:=bC3 v p b a (rvN b a) (aCu b a) h1 r1 (by omega) r3 (by omega) h3
    simp only[aC6,aCr,aEt,pre,d2,hk1,and_true]
    exact e1
 ·cases h
noncomputable section
def aN1:RTy:=⟨true,[(.bool,false),(.int .i64,false),(.int .i64,false),(.int .i64,false),(.int .i64,false),(.slice 9,true),(.slice 3,true),(.int .i64,false),(.bool,false)]⟩
def aDc (v p:Int) (b:List UInt8):Nat→Int→Int→List (List UInt8)→List Int→(List (List UInt8)×List Int×Int×Bool)
 |0,_,e,rs,os=>(rs,os,e,false)
 |f+1,k,e,rs,os=>if aH3 v (p+k) b e then (rs,os,e,true)else if bEg v (p+k) b e then aDc v p b f (k+1) (aMy v (p+k) b e) (rs++[aQ6 v (p+k) b e]) (os++[e])else (rs,os,e,false)
def aIw (b:List UInt8):List (List UInt8)×List Int×Int×Bool:=if aA9 b then aDc (rhV b) (rhB b) b (b.length+1) 0 24 [] []else ([],[],0,false)
def aAn (b:List UInt8):List (List UInt8):=(aIw b).1
def aFn (b:List UInt8):List Int:=(aIw b).2.1
def bHc (b:List UInt8):Int:=(aIw b).2.2.1
def aKk (b:List UInt8):Bool:=(aIw b).2.2.2
def aIe:aCf:=fun cs=>match cs with
 |[.str b]=>some (decide (b.length≤1048576),[.bool (aA9 b),.int .i64 (ifI (aA9 b) (rhV b)),.int .i64 (ifI (aA9 b) (rhS b)),.int .i64 (ifI (aA9 b) (rhB b)),.int .i64 (ifI (aA9 b) (rhL b)),.sl ((aAn b).map aAt),.sl ((aFn b).map aIu),.int .i64 (bHc b),.bool (aKk b)])
 |_=>none
def aNq (b:List UInt8) (v s bb l e:Int):St:={slots:=[(0,aZu b),(2,.l (.ptr 0 0)),(3,.l (.ptr 1 0)),(5,.l (.ptr 2 0))],heap:=[(0,.box [.b false,.i .i64 0,.i .i64 0,.i .i64 0,.i .i64 0,.nil,.nil,.i .i64 0,.b false]),(1,.box [.i .i64 v,.i .i64 s,.i .i64 bb,.i .i64 l]),(2,.box [.b true,.i .i64 v,.i .i64 s,.i .i64 bb,.i .i64 l,.nil,.nil,.i .i64 e,.b false])],next:=3,pins:=[]}
def aJz (b:List UInt8) (v s bb l e:Int) (n:Nat) (r:List (List C)) (m:Nat) (o:List (List C)):St:={slots:=[(0,aZu b),(2,.l (.ptr 0 0)),(3,.l (.ptr 1 0)),(5,.l (.ptr 2 0))],heap:=[(0,.box [.b false,.i .i64 0,.i .i64 0,.i .i64 0,.i .i64 0,.nil,.nil,.i .i64 0,.b false]),(1,.box [.i .i64 v,.i .i64 s,.i .i64 bb,.i .i64 l]),(2,.box [.b true,.i .i64 v,.i .i64 s,.i .i64 bb,.i .i64 l,.ref 3 0 n,.ref 4 0 m,.i .i64 e,.b false]),(3,.arr 1 r),(4,.arr 1 o)],next:=5,pins:=[]}
def aNv (b:List UInt8) (v s bb l e:Int):St:={slots:=[(0,aZu b),(2,.l (.ptr 0 0)),(3,.l (.ptr 1 0)),(5,.l (.ptr 2 0))],heap:=[(0,.box [.b false,.i .i64 0,.i .i64 0,.i .i64 0,.i .i64 0,.nil,.nil,.i .i64 0,.b false]),(1,.box [.i .i64 v,.i .i64 s,.i .i64 bb,.i .i64 l]),(2,.box [.b true,.i .i64 v,.i .i64 s,.i .i64 bb,.i .i64 l,.nil,.nil,.i .i64 e,.b false])],next:=3,pins:=[]}
def aK1 (b:List UInt8) (v s bb l e:Int) (n:Nat) (r:List (List C)) (m:Nat) (o:List (List C)):St:={slots:=[(0,aZu b),(2,.l (.ptr 0 0)),(3,.l (.ptr 1 0)),(5,.l (.ptr 2 0))],heap:=[(0,.box [.b false,.i .i64 0,.i .i64 0,.i .i64 0,.i .i64 0,.nil,.nil,.i .i64 0,.b false]),(1,.box [.i .i64 v,.i .i64 s,.i .i64 bb,.i .i64 l]),(2,.box [.b true,.i .i64 v,.i .i64 s,.i .i64 bb,.i .i64 l,.ref 3 0 n,.ref 4 0 m,.i .i64 e,.b false]),(3,.arr 1 r),(4,.arr 1 o)],next:=5,pins:=[]}
def aHf:Env:=mkE [(5,[0,2,3,5])] [(64,(sg [pS] [aN2,rB]),aE3),(66,(sg [pI,pI,pS,pI] [rB]),aIp),(67,(sg [pI,pI,pS,pI] [rS,rI,rB]),aF8)]
def aHg:Env:=mkE [(5,[0,2,3,5])] [(81,(sg [pS] [aN2,rB]),aE3),(82,(sg [pI,pI,pS,pI] [rB]),aIp),(83,(sg [pI,pI,pS,pI] [rS,rI,rB]),aF8)]
end
theorem bA3 (H:List Pt→Nat→St→T (List C)) (b:List UInt8):aAk aHf aAc (sg [pS] [aN1]) Tryz.f51 H [C.str b]=(.must true (.must true (.must (decide (b.length≤281474976710656)) (.must true (.ask (aA9 b) (H [Pt.r,Pt.r,Pt.r,Pt.r,Pt.b] 9223372036854775808 (aNq (b) (ifI (aA9 b) (rhV b)) (ifI (aA9 b) (rhS b)) (ifI (aA9 b) (rhB b)) (ifI (aA9 b) (rhL b)) ((24:Int)))) (.must true (.ret [C.bool false,C.int .i64 0,C.int .i64 0,C.int .i64 0,C.int .i64 0,C.sl [],C.sl [],C.int .i64 0,C.bool false]))))))):=by kernel_rfl
theorem bAz (H:List Pt→Nat→St→T (List C)) (b:List UInt8):aAk aHg aAc (sg [pS] [aN1]) Tryz.f61 H [C.str b]=(.must true (.must true (.must (decide (b.length≤281474976710656)) (.must true (.ask (aA9 b) (H [Pt.r,Pt.r,Pt.r,Pt.r,Pt.b] 9223372036854775808 (aNv (b) (ifI (aA9 b) (rhV b)) (ifI (aA9 b) (rhS b)) (ifI (aA9 b) (rhB b)) (ifI (aA9 b) (rhL b)) ((24:Int)))) (.must true (.ret [C.bool false,C.int .i64 0,C.int .i64 0,C.int .i64 0,C.int .i64 0,C.sl [],C.sl [],C.int .i64 0,C.bool false]))))))):=by kernel_rfl
theorem aTb (H:List Pt→Nat→St→T (List C)) (b:List UInt8) (v:Int) (s:Int) (q:Int) (l:Int) (e:Int) (k:Nat):aBl aHf aAc (sg [pS] [aN1]) Tryz.f51 H [Pt.r,Pt.r,Pt.r,Pt.r,Pt.b] k (aNq b v s q l e)=(.must true (.must (decide (b.length≤281474976710656)) (.must true (.ask (aH3 v (IntKind.i64.wrap (q+(0:Int))) b e) (.must true (.ret [C.bool true,C.int .i64 v,C.int .i64 s,C.int .i64 q,C.int .i64 l,C.sl [],C.sl [],C.int .i64 e,C.bool true])) (.must true (.must (decide (b.length≤281474976710656)&&(decide ((-9223372036854775808:Int)≤e)&&decide (e≤(9223372036854775807:Int)))) (.must true (.ask (bEg v (IntKind.i64.wrap (q+(0:Int))) b e) (.must true (.must true (H [Pt.r,Pt.r,Pt.r,Pt.r,Pt.b] k (aJz (b) (v) (s) (q) (l) (aMy v (IntKind.i64.wrap (q+(0:Int))) b e) (1) ([[C.str (aQ6 v (IntKind.i64.wrap (q+(0:Int))) b e)]]) (1) ([[C.int .i64 e]]))))) (.must true (.ret [C.bool true,C.int .i64 v,C.int .i64 s,C.int .i64 q,C.int .i64 l,C.sl [],C.sl [],C.int .i64 e,C.bool false])))))))))):=by kernel_rfl
theorem aTt (H:List Pt→Nat→St→T (List C)) (b:List UInt8) (v:Int) (s:Int) (q:Int) (l:Int) (e:Int) (k:Nat):aBl aHg aAc (sg [pS] [aN1]) Tryz.f61 H [Pt.r,Pt.r,Pt.r,Pt.r,Pt.b] k (aNv b v s q l e)=(.must true (.must (decide (b.length≤281474976710656)) (.must true (.ask (aH3 v (IntKind.i64.wrap (q+(0:Int))) b e) (.must true (.ret [C.bool true,C.int .i64 v,C.int .i64 s,C.int .i64 q,C.int .i64 l,C.sl [],C.sl [],C.int .i64 e,C.bool true])) (.must true (.must (decide (b.length≤281474976710656)&&(decide ((-9223372036854775808:Int)≤e)&&decide (e≤(9223372036854775807:Int)))) (.must true (.ask (bEg v (IntKind.i64.wrap (q+(0:Int))) b e) (.must true (.must true (H [Pt.r,Pt.r,Pt.r,Pt.r,Pt.b] k (aK1 (b) (v) (s) (q) (l) (aMy v (IntKind.i64.wrap (q+(0:Int))) b e) (1) ([[C.str (aQ6 v (IntKind.i64.wrap (q+(0:Int))) b e)]]) (1) ([[C.int .i64 e]]))))) (.must true (.ret [C.bool true,C.int .i64 v,C.int .i64 s,C.int .i64 q,C.int .i64 l,C.sl [],C.sl [],C.int .i64 e,C.bool false])))))))))):=by kernel_rfl
theorem aTa (H:List Pt→Nat→St→T (List C)) (b:List UInt8) (v:Int) (s:Int) (q:Int) (l:Int) (e:Int) (n:Nat) (r:List (List C)) (n2:Nat) (o:List (List C)) (k:Nat):aBl aHf aAc (sg [pS] [aN1]) Tryz.f51 H [Pt.r,Pt.r,Pt.r,Pt.r,Pt.b] k (aJz b v s q l e n r n2 o)=(.must true (.must (decide (b.length≤281474976710656)) (.must true (.ask (aH3 v (IntKind.i64.wrap (q+(↑n:Int))) b e) (.must (true&&(false||true)&&(true&&(false||true)&&(true&&(false||true)&&(true&&(false||true)&&(true&&(false||true)&&(decide (n=r.length)&&(false||r.all fun r=>r.all C.flat)&&(decide (n2=o.length)&&(false||o.all fun r=>r.all C.flat)&&(true&&(false||true)&&(true&&(false||true)&&true))))))))&&true&&true) (.ret [C.bool true,C.int .i64 v,C.int .i64 s,C.int .i64 q,C.int .i64 l,C.sl r,C.sl o,C.int .i64 e,C.bool true])) (.must true (.must (decide (b.length≤281474976710656)&&(decide ((-9223372036854775808:Int)≤e)&&decide (e≤(9223372036854775807:Int)))) (.must true (.ask (bEg v (IntKind.i64.wrap (q+(↑n:Int))) b e) (.must (decide (n=r.length)&&aBj (r.length+1) 16&&(decide (1=1)&&true)) (.must (decide (n2=o.length)&&aBj (o.length+1) 8&&(decide (1=1)&&true)) (H [Pt.r,Pt.r,Pt.r,Pt.r,Pt.b] k (aJz (b) (v) (s) (q) (l) (aMy v (IntKind.i64.wrap (q+(↑n:Int))) b e) (r.length+1) (r.append [[C.str (aQ6 v (IntKind.i64.wrap (q+(↑n:Int))) b e)]]) (o.length+1) (o.append [[C.int .i64 e]]))))) (.must (true&&(false||true)&&(true&&(false||true)&&(true&&(false||true)&&(true&&(false||true)&&(true&&(false||true)&&(decide (n=r.length)&&(false||r.all fun r=>r.all C.flat)&&(decide (n2=o.length)&&(false||o.all fun r=>r.all C.flat)&&(true&&(false||true)&&(true&&(false||true)&&true))))))))&&true&&true) (.ret [C.bool true,C.int .i64 v,C.int .i64 s,C.int .i64 q,C.int .i64 l,C.sl r,C.sl o,C.int .i64 e,C.bool false])))))))))):=by kernel_rfl
theorem aTs (H:List Pt→Nat→St→T (List C)) (b:List UInt8) (v:Int) (s:Int) (q:Int) (l:Int) (e:Int) (n:Nat) (r:List (List C)) (n2:Nat) (o:List (List C)) (k:Nat):aBl aHg aAc (sg [pS] [aN1]) Tryz.f61 H [Pt.r,Pt.r,Pt.r,Pt.r,Pt.b] k (aK1 b v s q l e n r n2 o)=(.must true (.must (decide (b.length≤281474976710656)) (.must true (.ask (aH3 v (IntKind.i64.wrap (q+(↑n:Int))) b e) (.must (true&&(false||true)&&(true&&(false||true)&&(true&&(false||true)&&(true&&(false||true)&&(true&&(false||true)&&(decide (n=r.length)&&(false||r.all fun r=>r.all C.flat)&&(decide (n2=o.length)&&(false||o.all fun r=>r.all C.flat)&&(true&&(false||true)&&(true&&(false||true)&&true))))))))&&true&&true) (.ret [C.bool true,C.int .i64 v,C.int .i64 s,C.int .i64 q,C.int .i64 l,C.sl r,C.sl o,C.int .i64 e,C.bool true])) (.must true (.must (decide (b.length≤281474976710656)&&(decide ((-9223372036854775808:Int)≤e)&&decide (e≤(9223372036854775807:Int)))) (.must true (.ask (bEg v (IntKind.i64.wrap (q+(↑n:Int))) b e) (.must (decide (n=r.length)&&aBj (r.length+1) 16&&(decide (1=1)&&true)) (.must (decide (n2=o.length)&&aBj (o.length+1) 8&&(decide (1=1)&&true)) (H [Pt.r,Pt.r,Pt.r,Pt.r,Pt.b] k (aK1 (b) (v) (s) (q) (l) (aMy v (IntKind.i64.wrap (q+(↑n:Int))) b e) (r.length+1) (r.append [[C.str (aQ6 v (IntKind.i64.wrap (q+(↑n:Int))) b e)]]) (o.length+1) (o.append [[C.int .i64 e]]))))) (.must (true&&(false||true)&&(true&&(false||true)&&(true&&(false||true)&&(true&&(false||true)&&(true&&(false||true)&&(decide (n=r.length)&&(false||r.all fun r=>r.all C.flat)&&(decide (n2=o.length)&&(false||o.all fun r=>r.all C.flat)&&(true&&(false||true)&&(true&&(false||true)&&true))))))))&&true&&true) (.ret [C.bool true,C.int .i64 v,C.int .i64 s,C.int .i64 q,C.int .i64 l,C.sl r,C.sl o,C.int .i64 e,C.bool false])))))))))):=by kernel_rfl
def bYu (v s q l:Int) (x:List (List UInt8)×List Int×Int×Bool):List C:=[.bool true,.int .i64 v,.int .i64 s,.int .i64 q,.int .i64 l,.sl (x.1.map aAt),.sl (x.2.1.map aIu),.int .i64 x.2.2.1,.bool x.2.2.2]
theorem aO1 (v p:Int) (b:List UInt8) (a:Int) (h:bEg v p b a=true):a+1≤aMy v p b a∧aMy v p b a≤b.length∧0≤a:=by
 unfold aMy
 rw[if_pos h]
 unfold bEg at h
 simp only[Bool.and_eq_true,decide_eq_true_eq]at h
 obtain⟨⟨⟨⟨hv,hp⟩,hh⟩,hn1,hn2⟩,ha⟩:=h
 have hl:(aJ1 v b a).length≤60:=by unfold aJ1;simp;omega
 have hne:=aNi v p (aJ1 v b a) hv hp hl
 obtain⟨h1,h2,h3⟩:=(aGp _ _ _).1 ha
 generalize aAf v p (aJ1 v b a)=t at hne h3
 have hpos:0<t.length:=List.length_pos_iff.2 hne
 have:=congrArg List.length h3
 simp at this
 omega
theorem bXs (rs:List (List UInt8)) (x:List UInt8):(rs.map aAt).append [[C.str x]]=(rs++[x]).map aAt:=by simp
theorem bXt (rs:List Int) (x:Int):(rs.map aIu).append [[C.int .i64 x]]=(rs++[x]).map aIu:=by simp
theorem aWx (b:List UInt8) (v s q l:Int) (hb:b.length≤1048576) (hq:0≤q∧q≤1000000000):∀ (n f:Nat) (e:Int) (rs:List (List UInt8)) (os:List Int),0≤e→e≤b.length→(b.length:Int)<e+n→(b.length:Int)<e+f→rs.length=os.length→(rs.length:Int)≤e →
  (aBr aHf aAc (sg [pS] [aN1]) Tryz.f51 [.r,.r,.r,.r,.b] n (aJz b v s q l e rs.length (rs.map aAt) os.length (os.map aIu))).eval=some (bYu v s q l (aDc v q b f rs.length e rs os)):=by
 intro n
 induction n with
 |zero=>intro f e rs os h0 h1 h2 h3 h4 h5;omega
 |succ n ih =>
  intro f e rs os h0 h1 h2 h3 h4 h5
  obtain⟨f,rfl⟩:∃ g,f=g+1:=⟨f-1,by omega⟩
  rw[aAv _ _ _ _ _ _ _ (by kernel_rfl),aTa]
  have w:IntKind.i64.wrap (q+(rs.length:Int))=q+(rs.length:Int):=by rw[aAh]<;>omega
  have pre1:decide (b.length≤281474976710656)=true:=decide_eq_true (by omega)
  have pre2:(decide ((-9223372036854775808:Int)≤e)&&decide (e≤(9223372036854775807:Int)))=true:=by simp;omega
  have ro1:aBj (rs.length+1) 16=true:=by simp only[aBj,decide_eq_true_eq];omega
  have ro2:aBj (os.length+1) 8=true:=by simp only[aBj,decide_eq_true_eq];omega
  have fl1:=aHw rs
  have fl2:=bKb os
  rw[w]
  simp only[aDc]
  cases hm:aH3 v (q+(rs.length:Int)) b e with
  |true =>
   simp only[aC6,aCr,pre1,hm,aA1,aA3,List.length_map,decide_true,fl1,fl2,Bool.false_or,Bool.or_true,Bool.and_self,if_true]
   rfl
  |false =>
   cases ho:bEg v (q+(rs.length:Int)) b e with
   |true =>
    obtain⟨g1,g2,g3⟩:=aO1 _ _ _ _ ho
    have e1:=ih f (aMy v (q+(rs.length:Int)) b e) (rs++[aQ6 v (q+(rs.length:Int)) b e]) (os++[e]) (by omega) g2 (by omega) (by omega) (by simp;omega) (by simp;omega)
    simp only[aC6,aCr,aEt,pre1,pre2,hm,ho,aA1,List.length_map,decide_true,ro1,ro2,Bool.and_self,Bool.and_true,if_true,bXs,bXt,Bool.false_eq_true,if_false]
    simp only[List.length_append,List.length_cons,List.length_nil,Nat.zero_add,Int.natCast_add,Int.natCast_one]at e1 ⊢
    exact e1
   |false =>
    simp only[aC6,aCr,aEt,pre1,pre2,hm,ho,aA1,aA3,List.length_map,decide_true,fl1,fl2,Bool.false_or,Bool.or_true,Bool.and_self,if_true,Bool.false_eq_true,if_false]
    rfl
theorem aWy (b:List UInt8) (v s q l:Int) (hb:b.length≤1048576) (h24:24≤b.length) (hq:0≤q∧q≤1000000000) (n:Nat) (hn:b.length<n) :
  (aBr aHf aAc (sg [pS] [aN1]) Tryz.f51 [.r,.r,.r,.r,.b] (n+1) (aNq b v s q l 24)).eval=some (bYu v s q l (aDc v q b (b.length+1) 0 24 [] [])):=by
 rw[aAv _ _ _ _ _ _ _ (by kernel_rfl),aTb]
 have w:IntKind.i64.wrap (q+0)=q+0:=by rw[aAh]<;>omega
 have pre1:decide (b.length≤281474976710656)=true:=decide_eq_true (by omega)
 have pre2:(decide ((-9223372036854775808:Int)≤24)&&decide ((24:Int)≤(9223372036854775807:Int)))=true:=by decide
 rw[w]
 simp only[aDc]
 cases hm:aH3 v (q+0) b 24 with
 |true =>
  simp only[aC6,aCr,pre1,hm,aA1,aA3,if_true]
  rfl
 |false =>
  cases ho:bEg v (q+0) b 24 with
  |true =>
   obtain⟨g1,g2,g3⟩:=aO1 _ _ _ _ ho
   have e1:=aWx b v s q l hb hq n b.length (aMy v (q+0) b 24) [aQ6 v (q+0) b 24] [24] (by omega) g2 (by omega) (by omega) rfl (by show (1:Int)≤_;omega)
   simp only[aC6,aCr,aEt,pre1,pre2,hm,ho,Bool.and_self,Bool.false_eq_true,if_false,if_true,List.nil_append]
   exact e1
  |false =>
   simp only[aC6,aCr,aEt,pre1,pre2,hm,ho,aA1,aA3,if_true,Bool.and_self,Bool.false_eq_true,if_false]
   rfl
theorem bM5:aAa Tryz.prog aHf:=aA8 (by simp[aMu,bDy,aV7])
theorem aIy:aAx Tryz.prog 51 (sg [pS] [aN1]) aIe:=aA6 bM5 aAb Tryz.func51 (by kernel_rfl) fun cs outs hk h=>by
 unfold aIe at h
 split at h
 ·simp only[Option.some.injEq,Prod.mk.injEq,decide_eq_true_eq]at h
  obtain⟨h1,rfl⟩:=h
  rename_i b
  rw[aAd,bA3]
  have pre1:decide (b.length≤281474976710656)=true:=decide_eq_true (by omega)
  cases hr:aA9 b with
  |false =>
   have e1:aIw b=([],[],0,false):=by unfold aIw;rw[hr];rfl
   simp only[aC6,aCr,aEt,pre1,hr,aA1,aA3,if_true,aAn,aFn,bHc,aKk,e1,ifI,Bool.false_eq_true,if_false]
   rfl
  |true =>
   have h24:24≤b.length∧aDd b 8 8=true∧aBe (rhV b) (rhS b) (rhB b) (rhL b)=b.take 24:=by
    unfold aA9 at hr
    simpa[and_assoc]using hr
   have hq:0≤rhB b∧rhB b≤1000000000:=by
    have ht:=h24.2.2
    cases hk:aD7 (rhV b) (rhS b) (rhB b) (rhL b)with
    |true=>have:=(aDi _ _ _ _).1 hk;exact this.2.2.1
    |false =>
     unfold aBe at ht
     rw[hk]at ht
     have:=congrArg List.length ht
     simp at this
     omega
   have e1:aIw b=aDc (rhV b) (rhB b) b (b.length+1) 0 24 [] []:=by unfold aIw;rw[hr];rfl
   have lp:=aWy b (rhV b) (rhS b) (rhB b) (rhL b) h1 h24.1 hq 9223372036854775807 (by omega)
   rw[←e1]at lp
   simp only[aC6,aCr,aEt,pre1,hr,ifI,if_true]
   exact lp
 ·cases h
theorem aY9 (b:List UInt8) (v s q l:Int) (hb:b.length≤1048576) (hq:0≤q∧q≤1000000000):∀ (n f:Nat) (e:Int) (rs:List (List UInt8)) (os:List Int),0≤e→e≤b.length→(b.length:Int)<e+n→(b.length:Int)<e+f→rs.length=os.length→(rs.length:Int)≤e →
  (aBr aHg aAc (sg [pS] [aN1]) Tryz.f61 [.r,.r,.r,.r,.b] n (aK1 b v s q l e rs.length (rs.map aAt) os.length (os.map aIu))).eval=some (bYu v s q l (aDc v q b f rs.length e rs os)):=by
 intro n
 induction n with
 |zero=>intro f e rs os h0 h1 h2 h3 h4 h5;omega
 |succ n ih =>
  intro f e rs os h0 h1 h2 h3 h4 h5
  obtain⟨f,rfl⟩:∃ g,f=g+1:=⟨f-1,by omega⟩
  rw[aAv _ _ _ _ _ _ _ (by kernel_rfl),aTs]
  have w:IntKind.i64.wrap (q+(rs.length:Int))=q+(rs.length:Int):=by rw[aAh]<;>omega
  have pre1:decide (b.length≤281474976710656)=true:=decide_eq_true (by omega)
  have pre2:(decide ((-9223372036854775808:Int)≤e)&&decide (e≤(9223372036854775807:Int)))=true:=by simp;omega
  have ro1:aBj (rs.length+1) 16=true:=by simp only[aBj,decide_eq_true_eq];omega
  have ro2:aBj (os.length+1) 8=true:=by simp only[aBj,decide_eq_true_eq];omega
  have fl1:=aHw rs
  have fl2:=bKb os
  rw[w]
  simp only[aDc]
  cases hm:aH3 v (q+(rs.length:Int)) b e with
  |true =>
   simp only[aC6,aCr,pre1,hm,aA1,aA3,List.length_map,decide_true,fl1,fl2,Bool.false_or,Bool.or_true,Bool.and_self,if_true]
   rfl
  |false =>
   cases ho:bEg v (q+(rs.length:Int)) b e with
   |true =>
    obtain⟨g1,g2,g3⟩:=aO1 _ _ _ _ ho
    have e1:=ih f (aMy v (q+(rs.length:Int)) b e) (rs++[aQ6 v (q+(rs.length:Int)) b e]) (os++[e]) (by omega) g2 (by omega) (by omega) (by simp;omega) (by simp;omega)
    simp only[aC6,aCr,aEt,pre1,pre2,hm,ho,aA1,List.length_map,decide_true,ro1,ro2,Bool.and_self,Bool.and_true,if_true,bXs,bXt,Bool.false_eq_true,if_false]
    simp only[List.length_append,List.length_cons,List.length_nil,Nat.zero_add,Int.natCast_add,Int.natCast_one]at e1 ⊢
    exact e1
   |false =>
    simp only[aC6,aCr,aEt,pre1,pre2,hm,ho,aA1,aA3,List.length_map,decide_true,fl1,fl2,Bool.false_or,Bool.or_true,Bool.and_self,if_true,Bool.false_eq_true,if_false]
    rfl
theorem aYa (b:List UInt8) (v s q l:Int) (hb:b.length≤1048576) (h24:24≤b.length) (hq:0≤q∧q≤1000000000) (n:Nat) (hn:b.length<n) :
  (aBr aHg aAc (sg [pS] [aN1]) Tryz.f61 [.r,.r,.r,.r,.b] (n+1) (aNv b v s q l 24)).eval=some (bYu v s q l (aDc v q b (b.length+1) 0 24 [] [])):=by
 rw[aAv _ _ _ _ _ _ _ (by kernel_rfl),aTt]
 have w:IntKind.i64.wrap (q+0)=q+0:=by rw[aAh]<;>omega
 have pre1:decide (b.length≤281474976710656)=true:=decide_eq_true (by omega)
 have pre2:(decide ((-9223372036854775808:Int)≤24)&&decide ((24:Int)≤(9223372036854775807:Int)))=true:=by decide
 rw[w]
 simp only[aDc]
 cases hm:aH3 v (q+0) b 24 with
 |true =>
  simp only[aC6,aCr,pre1,hm,aA1,aA3,if_true]
  rfl
 |false =>
  cases ho:bEg v (q+0) b 24 with
  |true =>
   obtain⟨g1,g2,g3⟩:=aO1 _ _ _ _ ho
   have e1:=aY9 b v s q l hb hq n b.length (aMy v (q+0) b 24) [aQ6 v (q+0) b 24] [24] (by omega) g2 (by omega) (by omega) rfl (by show (1:Int)≤_;omega)
   simp only[aC6,aCr,aEt,pre1,pre2,hm,ho,Bool.and_self,Bool.false_eq_true,if_false,if_true,List.nil_append]
   exact e1
  |false =>
   simp only[aC6,aCr,aEt,pre1,pre2,hm,ho,aA1,aA3,if_true,Bool.and_self,Bool.false_eq_true,if_false]
   rfl
theorem bNr:aAa Tryz.prog aHg:=aA8 (by simp[aNf,bFj,aVg])
theorem aNc:aAx Tryz.prog 61 (sg [pS] [aN1]) aIe:=aA6 bNr aAb Tryz.func61 (by kernel_rfl) fun cs outs hk h=>by
 unfold aIe at h
 split at h
 ·simp only[Option.some.injEq,Prod.mk.injEq,decide_eq_true_eq]at h
  obtain⟨h1,rfl⟩:=h
  rename_i b
  rw[aAd,bAz]
  have pre1:decide (b.length≤281474976710656)=true:=decide_eq_true (by omega)
  cases hr:aA9 b with
  |false =>
   have e1:aIw b=([],[],0,false):=by unfold aIw;rw[hr];rfl
   simp only[aC6,aCr,aEt,pre1,hr,aA1,aA3,if_true,aAn,aFn,bHc,aKk,e1,ifI,Bool.false_eq_true,if_false]
   rfl
  |true =>
   have h24:24≤b.length∧aDd b 8 8=true∧aBe (rhV b) (rhS b) (rhB b) (rhL b)=b.take 24:=by
    unfold aA9 at hr
    simpa[and_assoc]using hr
   have hq:0≤rhB b∧rhB b≤1000000000:=by
    have ht:=h24.2.2
    cases hk:aD7 (rhV b) (rhS b) (rhB b) (rhL b)with
    |true=>have:=(aDi _ _ _ _).1 hk;exact this.2.2.1
    |false =>
     unfold aBe at ht
     rw[hk]at ht
     have:=congrArg List.length ht
     simp at this
     omega
   have e1:aIw b=aDc (rhV b) (rhB b) b (b.length+1) 0 24 [] []:=by unfold aIw;rw[hr];rfl
   have lp:=aYa b (rhV b) (rhS b) (rhB b) (rhL b) h1 h24.1 hq 9223372036854775807 (by omega)
   rw[←e1]at lp
   simp only[aC6,aCr,aEt,pre1,hr,ifI,if_true]
   exact lp
 ·cases h
noncomputable section
def aNx:aCf:=fun cs=>match cs with
 |[.int .u64 n]=>some (decide (n=16),[.int .i64 4])
 |_=>none
def aXs:aCf:=fun cs=>match cs with
 |[.int .i64 n]=>some (decide (n=16),[.bool true])
 |_=>none
abbrev aVc:PTy:=.val false [.int .u64]
def aNj (n:Nat):UInt8:=([48,49,50,51,52,53,54,55,56,57,97,98,99,100,101,102]:List UInt8).getD (n % 16) 0
def bFs:Nat→Nat→List UInt8→List UInt8
 |0,_,acc=>acc
 |f+1,n,acc=>if 16≤n then bFs f (n / 16) (aNj n::acc)else aNj n::acc
def aHu (n:Nat):List UInt8:=bFs 16 n []
def aU3:aCf:=fun cs=>match cs with
 |[.sl [],.int .u64 u,.int .i64 base,.bool false,.bool false]=>some (decide (base=16)&&(decide (0≤u)&&decide (u≤1000000000)),[.sl [],.str (aHu u.toNat)])
 |_=>none
def aKt:aCf:=fun cs=>match cs with
 |[.int .i64 n,.int .i64 base]=>some (decide (base=16)&&(decide (0≤n)&&decide (n≤1000000000)),[.str (aHu n.toNat)])
 |_=>none
def aLa (u i s b m:Int) (r:List (List C)):St:=st1 [(0,.l (.sl [])),(1,.l (.i .u64 u)),(3,.l (.b false)),(4,.l (.b false)),(10,.l .nil),(11,.l (.s [])),(12,.l (.eptr 0 0 0)),(13,aBf i),(14,.l (.i .u64 s)),(15,.l (.i .u64 b)),(16,.l (.i .u64 m))] 1 r
def cBo:Env:=mkE [] []
def cH1:Env:=mkE [] [(182,(sg [aVc] [rI]),aNx)]
def bY7:Env:=mkE [] []
def aLc:Env:=mkE [(11,[0,1,3,4,10,11,12,13,14,15,16]),(18,[0,1,3,4,10,11,12,13,17])] [(178,(sg [aVc] [rI]),aNx),(177,(sg [pI] [rB]),aXs)]
def bQq:Env:=mkE [] [(164,(sg [pSl 5,aVc,pI,pB,pB] [rSl 5,rS]),aU3)]
def bLl:Env:=mkE [] [(147,(sg [pI,pI] [rS]),aKt)]
def aO7:aCf:=fun cs=>match cs with
 |[.int .u64 a,.int .u64 n]=>some (decide (a=1)&&(decide (0≤n)&&decide (n≤8)),[.int .u64 0,.int .u64 n])
 |_=>none
abbrev bTj:RTy:=⟨false,[(.int .u64,false)]⟩
def bY5:Env:=mkE [] []
def cBr:Env:=mkE [] [(166,(sg [aVc,aVc] [bTj,bTj]),aO7)]
def bEh:aCf:=fun cs=>match cs with
 |[.str s,.int .i64 n]=>some (decide (s=[48])&&(decide (0≤n)&&decide (n≤8)),[.str (List.replicate n.toNat 48)])
 |_=>none
def cBp:Env:=mkE [(38,[7,8,9])] [(149,(sg [pS,pS] [rB]),aHa),(148,(sg [aVc,aVc] [bTj,bTj]),aO7)]
def aVj:Nat→Nat→List UInt8
 |0,_=>[]
 |k+1,n=>aVj k (n / 16)++[aNj n]
def aAo (n:Int):List UInt8:=if inB n 0 1000000000 then[115]++aVj 8 n.toNat++[46,115,101,103]else[]
def aMo:aCf:=fun cs=>match cs with
 |[.int .i64 n]=>some (true,[.str (aAo n)])
 |_=>none
def aHo (n:Int) (q:Nat) (r:List (List C)) (i:Int):St:=st1 [(0,aBf n),(3,.l (.ref 0 0 q)),(4,aBf i)] 1 r
def aHq:Env:=mkE [(5,[0,3,4])] [(45,(sg [pI,pI,pI] [rB]),aE4)]
def aPp:Env:=mkE [] [(96,(sg [pI] [rB]),aDk),(115,(sg [pI,pI] [rS]),aKt),(116,(sg [pS,pI] [rS]),bEh)]
end
theorem bTx (H:List Pt→Nat→St→T (List C)):(aAk cBo aAc (sg [aVc] [rI]) Tryz.f182 H [C.int .u64 16]).eval=((.ret [C.int .i64 (IntKind.i64.wrap 4)]):T (List C)).eval:=aAj (by kernel_rfl)
theorem cC2 (H:List Pt→Nat→St→T (List C)):(aAk cH1 aAc (sg [aVc] [rI]) Tryz.f178 H [C.int .u64 16]).eval=((.ret [C.int .i64 ((4:Int))]):T (List C)).eval:=aAj (by kernel_rfl)
theorem bSs (H:List Pt→Nat→St→T (List C)):(aAk bY7 aAc (sg [pI] [rB]) Tryz.f177 H [C.int .i64 16]).eval=((.ret [C.bool true]):T (List C)).eval:=aAj (by kernel_rfl)
theorem bK9 (H:List Pt→Nat→St→T (List C)) (u:Int):(aAk aLc aAc (sg [pSl 5,aVc,pI,pB,pB] [rSl 5,rS]) Tryz.f164 H [C.sl [],C.int .u64 u,C.int .i64 16,C.bool false,C.bool false]).eval=((H [Pt.r,Pt.r,Pt.r,Pt.r,Pt.r,Pt.l,Pt.r,Pt.l,Pt.r,Pt.r,Pt.r,Pt.l,Pt.b] 9223372036854775808 (aLa (u) ((65:Int)) (IntKind.u64.wrap ((4:Int))) (IntKind.u64.wrap ((16:Int))) (IntKind.u64.wrap (IntKind.u64.wrap ((16:Int))-(1:Int))) ([[C.int .u8 0],[C.int .u8 0],[C.int .u8 0],[C.int .u8 0],[C.int .u8 0],[C.int .u8 0],[C.int .u8 0],[C.int .u8 0],[C.int .u8 0],[C.int .u8 0],[C.int .u8 0],[C.int .u8 0],[C.int .u8 0],[C.int .u8 0],[C.int .u8 0],[C.int .u8 0],[C.int .u8 0],[C.int .u8 0],[C.int .u8 0],[C.int .u8 0],[C.int .u8 0],[C.int .u8 0],[C.int .u8 0],[C.int .u8 0],[C.int .u8 0],[C.int .u8 0],[C.int .u8 0],[C.int .u8 0],[C.int .u8 0],[C.int .u8 0],[C.int .u8 0],[C.int .u8 0],[C.int .u8 0],[C.int .u8 0],[C.int .u8 0],[C.int .u8 0],[C.int .u8 0],[C.int .u8 0],[C.int .u8 0],[C.int .u8 0],[C.int .u8 0],[C.int .u8 0],[C.int .u8 0],[C.int .u8 0],[C.int .u8 0],[C.int .u8 0],[C.int .u8 0],[C.int .u8 0],[C.int .u8 0],[C.int .u8 0],[C.int .u8 0],[C.int .u8 0],[C.int .u8 0],[C.int .u8 0],[C.int .u8 0],[C.int .u8 0],[C.int .u8 0],[C.int .u8 0],[C.int .u8 0],[C.int .u8 0],[C.int .u8 0],[C.int .u8 0],[C.int .u8 0],[C.int .u8 0],[C.int .u8 0]]))):T (List C)).eval:=aAj (by kernel_rfl)
theorem aPn (H:List Pt→Nat→St→T (List C)) (u:Int) (i:Int) (s:Int) (b:Int) (m:Int) (r:List (List C)) (k:Nat):aBl aLc aAc (sg [pSl 5,aVc,pI,pB,pB] [rSl 5,rS]) Tryz.f164 H [Pt.r,Pt.r,Pt.r,Pt.r,Pt.r,Pt.l,Pt.r,Pt.l,Pt.r,Pt.r,Pt.r,Pt.l,Pt.b] k (aLa u i s b m r)=(.ask (decide (b≤u)) (.must (decide ((0:Int)≤aHt .u64 u m)&&decide (aHt .u64 u m<(↑(36:Nat):Int))) (.must (decide ((0:Int)≤IntKind.i64.wrap (i-(1:Int)))&&decide (IntKind.i64.wrap (i-(1:Int))<(↑(65:Nat):Int))) (.must (decide ((IntKind.i64.wrap (i-(1:Int))).toNat<r.length)) (.must (decide ((0:Int)≤s)) (H [Pt.r,Pt.r,Pt.r,Pt.r,Pt.r,Pt.l,Pt.r,Pt.l,Pt.r,Pt.r,Pt.r,Pt.l,Pt.b] k (aLa (aKg .u64 u s) (IntKind.i64.wrap (i-(1:Int))) (s) (b) (m) (r.set (IntKind.i64.wrap (i-(1:Int))).toNat (C.int .u8 (↑([(48:UInt8),49,50,51,52,53,54,55,56,57,97,98,99,100,101,102,103,104,105,106,107,108,109,110,111,112,113,114,115,116,117,118,119,120,121,122].getD (aHt .u64 u m).toNat (0:UInt8)).toNat:Int)::List.drop (0+1) (r.getD (IntKind.i64.wrap (i-(1:Int))).toNat []))))))))) (.must (decide ((0:Int)≤u)&&decide (u<(↑(36:Nat):Int))) (.must (decide ((0:Int)≤IntKind.i64.wrap (i-(1:Int)))&&decide (IntKind.i64.wrap (i-(1:Int))<(↑(65:Nat):Int))) (.must (decide ((IntKind.i64.wrap (i-(1:Int))).toNat<r.length)) (.must (decide (65=(r.set (IntKind.i64.wrap (i-(1:Int))).toNat (C.int .u8 (↑([(48:UInt8),49,50,51,52,53,54,55,56,57,97,98,99,100,101,102,103,104,105,106,107,108,109,110,111,112,113,114,115,116,117,118,119,120,121,122].getD u.toNat (0:UInt8)).toNat:Int)::List.drop (0+1) (r.getD (IntKind.i64.wrap (i-(1:Int))).toNat []))).length)) (.must (decide ((0:Int)≤IntKind.i64.wrap (i-(1:Int)))&&decide (IntKind.i64.wrap (i-(1:Int))≤(↑(65:Nat):Int))) (.must ((List.take (65-(IntKind.i64.wrap (i-(1:Int))).toNat) (List.drop (IntKind.i64.wrap (i-(1:Int))).toNat (r.set (IntKind.i64.wrap (i-(1:Int))).toNat (C.int .u8 (↑([(48:UInt8),49,50,51,52,53,54,55,56,57,97,98,99,100,101,102,103,104,105,106,107,108,109,110,111,112,113,114,115,116,117,118,119,120,121,122].getD u.toNat (0:UInt8)).toNat:Int)::List.drop (0+1) (r.getD (IntKind.i64.wrap (i-(1:Int))).toNat []))))).all aGw) (.must true (.ret [C.sl [],C.str (aC0 (List.take (65-(IntKind.i64.wrap (i-(1:Int))).toNat) (List.drop (IntKind.i64.wrap (i-(1:Int))).toNat (r.set (IntKind.i64.wrap (i-(1:Int))).toNat (C.int .u8 (↑([(48:UInt8),49,50,51,52,53,54,55,56,57,97,98,99,100,101,102,103,104,105,106,107,108,109,110,111,112,113,114,115,116,117,118,119,120,121,122].getD u.toNat (0:UInt8)).toNat:Int)::List.drop (0+1) (r.getD (IntKind.i64.wrap (i-(1:Int))).toNat []))))))]))))))))):=by kernel_rfl
theorem bO9 (H:List Pt→Nat→St→T (List C)) (n:Int):(aAk bQq aAc (sg [pI,pI] [rS]) Tryz.f147 H [C.int .i64 n,C.int .i64 16]).eval=((.ask (decide (n<(0:Int))) .bad (.must (decide ((16:Int)=(16:Int))&&(decide ((0:Int)≤IntKind.u64.wrap n)&&decide (IntKind.u64.wrap n≤(1000000000:Int)))) (.ret [C.str (aHu (IntKind.u64.wrap n).toNat)]))):T (List C)).eval:=aAj (by kernel_rfl)
theorem bK8 (H:List Pt→Nat→St→T (List C)) (n:Int):(aAk bLl aAc (sg [pI,pI] [rS]) Tryz.f115 H [C.int .i64 n,C.int .i64 16]).eval=((.must (decide ((16:Int)=(16:Int))&&(decide ((0:Int)≤n)&&decide (n≤(1000000000:Int)))) (.ret [C.str (aHu n.toNat)])):T (List C)).eval:=aAj (by kernel_rfl)
theorem bSk (H:List Pt→Nat→St→T (List C)) (n:Int):(aAk bY5 aAc (sg [aVc,aVc] [bTj,bTj]) Tryz.f166 H [C.int .u64 1,C.int .u64 n]).eval=((.ret [C.int .u64 (IntKind.u64.wrap (IntKind.u64.wrap (IntKind.u64.wrap (aKg .u64 ((1:Int)) (32:Int)*aKg .u64 n 32)+aKg .u64 (IntKind.u64.wrap (IntKind.u64.wrap (aKg .u64 ((1:Int)) (32:Int)*aHt .u64 n 4294967295)+aKg .u64 (IntKind.u64.wrap (aHt .u64 ((1:Int)) (4294967295:Int)*aHt .u64 n 4294967295)) (32:Int))) (32:Int))+aKg .u64 (IntKind.u64.wrap (aHt .u64 (IntKind.u64.wrap (IntKind.u64.wrap (aKg .u64 ((1:Int)) (32:Int)*aHt .u64 n 4294967295)+aKg .u64 (IntKind.u64.wrap (aHt .u64 ((1:Int)) (4294967295:Int)*aHt .u64 n 4294967295)) (32:Int))) (4294967295:Int)+IntKind.u64.wrap (aHt .u64 ((1:Int)) (4294967295:Int)*aKg .u64 n 32))) (32:Int))),C.int .u64 (IntKind.u64.wrap ((1:Int)*n))]):T (List C)).eval:=aAj (by kernel_rfl)
theorem bW2 (H:List Pt→Nat→St→T (List C)) (n:Int):(aAk cBr aAc (sg [aVc,aVc] [bTj,bTj]) Tryz.f148 H [C.int .u64 1,C.int .u64 n]).eval=((.must (decide ((1:Int)=(1:Int))&&(decide ((0:Int)≤n)&&decide (n≤(8:Int)))) (.ret [C.int .u64 ((0:Int)),C.int .u64 n])):T (List C)).eval:=aAj (by kernel_rfl)
theorem bV8 (H:List Pt→Nat→St→T (List C)) (n:Int):(aAk cBp aAc (sg [pS,pI] [rS]) Tryz.f116 H [C.str [(48:UInt8)],C.int .i64 n]).eval=((.ask (decide (n=(0:Int))) (.ret [C.str []]) (.ask (decide (n=(1:Int))) (.ret [C.str [(48:UInt8)]]) (.ask (decide (n<(0:Int))) .bad (.must (decide (IntKind.u64.wrap (↑[(48:UInt8)].length:Int)=(1:Int))&&(decide ((0:Int)≤IntKind.u64.wrap n)&&decide (IntKind.u64.wrap n≤(8:Int)))) (.ask (decide ((9223372036854775807:Int)<IntKind.u64.wrap n)) .bad (.ask (decide (IntKind.i64.wrap (IntKind.u64.wrap n)≤(128:Int))) (.ask (decide (IntKind.i64.wrap (IntKind.u64.wrap n)≤(128:Int))) (.ask (decide (IntKind.i64.wrap (IntKind.u64.wrap n)≤(64:Int))) (.must (decide ((0:Int)≤IntKind.i64.wrap (IntKind.u64.wrap n))&&decide (IntKind.i64.wrap (IntKind.u64.wrap n)≤(↑(64:Nat):Int))) (.ret [C.str (List.drop 0 (List.take (IntKind.i64.wrap (IntKind.u64.wrap n)).toNat [(48:UInt8),48,48,48,48,48,48,48,48,48,48,48,48,48,48,48,48,48,48,48,48,48,48,48,48,48,48,48,48,48,48,48,48,48,48,48,48,48,48,48,48,48,48,48,48,48,48,48,48,48,48,48,48,48,48,48,48,48,48,48,48,48,48,48]))])) (.ask (decide (IntKind.i64.wrap (IntKind.u64.wrap n)≤(128:Int))) (.ask (decide (IntKind.i64.wrap (IntKind.u64.wrap n)≤(64:Int))) (.ask (decide ((8192:Int)<IntKind.i64.wrap (IntKind.u64.wrap n))) .bad .bad) (.ask (decide ((8192:Int)<IntKind.i64.wrap (IntKind.u64.wrap n))) .bad .bad)) (.ask (decide (IntKind.i64.wrap (IntKind.u64.wrap n)≤(64:Int))) (.ask (decide ((8192:Int)<IntKind.i64.wrap (IntKind.u64.wrap n))) .bad .bad) (.ask (decide ((8192:Int)<IntKind.i64.wrap (IntKind.u64.wrap n))) .bad .bad)))) (.ask (decide (IntKind.i64.wrap (IntKind.u64.wrap n)≤(64:Int))) (.must (decide ((0:Int)≤IntKind.i64.wrap (IntKind.u64.wrap n))&&decide (IntKind.i64.wrap (IntKind.u64.wrap n)≤(↑(64:Nat):Int))) (.ret [C.str (List.drop 0 (List.take (IntKind.i64.wrap (IntKind.u64.wrap n)).toNat [(48:UInt8),48,48,48,48,48,48,48,48,48,48,48,48,48,48,48,48,48,48,48,48,48,48,48,48,48,48,48,48,48,48,48,48,48,48,48,48,48,48,48,48,48,48,48,48,48,48,48,48,48,48,48,48,48,48,48,48,48,48,48,48,48,48,48]))])) (.ask (decide (IntKind.i64.wrap (IntKind.u64.wrap n)≤(128:Int))) (.ask (decide (IntKind.i64.wrap (IntKind.u64.wrap n)≤(64:Int))) (.ask (decide ((8192:Int)<IntKind.i64.wrap (IntKind.u64.wrap n))) .bad .bad) (.ask (decide ((8192:Int)<IntKind.i64.wrap (IntKind.u64.wrap n))) .bad .bad)) (.ask (decide (IntKind.i64.wrap (IntKind.u64.wrap n)≤(64:Int))) (.ask (decide ((8192:Int)<IntKind.i64.wrap (IntKind.u64.wrap n))) .bad .bad) (.ask (decide ((8192:Int)<IntKind.i64.wrap (IntKind.u64.wrap n))) .bad .bad))))) (.ask (decide (IntKind.i64.wrap (IntKind.u64.wrap n)≤(128:Int))) (.ask (decide (IntKind.i64.wrap (IntKind.u64.wrap n)≤(64:Int))) (.must (decide ((0:Int)≤IntKind.i64.wrap (IntKind.u64.wrap n))&&decide (IntKind.i64.wrap (IntKind.u64.wrap n)≤(↑(64:Nat):Int))) (.ret [C.str (List.drop 0 (List.take (IntKind.i64.wrap (IntKind.u64.wrap n)).toNat [(48:UInt8),48,48,48,48,48,48,48,48,48,48,48,48,48,48,48,48,48,48,48,48,48,48,48,48,48,48,48,48,48,48,48,48,48,48,48,48,48,48,48,48,48,48,48,48,48,48,48,48,48,48,48,48,48,48,48,48,48,48,48,48,48,48,48]))])) (.ask (decide (IntKind.i64.wrap (IntKind.u64.wrap n)≤(128:Int))) (.ask (decide (IntKind.i64.wrap (IntKind.u64.wrap n)≤(64:Int))) (.ask (decide ((8192:Int)<IntKind.i64.wrap (IntKind.u64.wrap n))) .bad .bad) (.ask (decide ((8192:Int)<IntKind.i64.wrap (IntKind.u64.wrap n))) .bad .bad)) (.ask (decide (IntKind.i64.wrap (IntKind.u64.wrap n)≤(64:Int))) (.ask (decide ((8192:Int)<IntKind.i64.wrap (IntKind.u64.wrap n))) .bad .bad) (.ask (decide ((8192:Int)<IntKind.i64.wrap (IntKind.u64.wrap n))) .bad .bad)))) (.ask (decide (IntKind.i64.wrap (IntKind.u64.wrap n)≤(64:Int))) (.must (decide ((0:Int)≤IntKind.i64.wrap (IntKind.u64.wrap n))&&decide (IntKind.i64.wrap (IntKind.u64.wrap n)≤(↑(64:Nat):Int))) (.ret [C.str (List.drop 0 (List.take (IntKind.i64.wrap (IntKind.u64.wrap n)).toNat [(48:UInt8),48,48,48,48,48,48,48,48,48,48,48,48,48,48,48,48,48,48,48,48,48,48,48,48,48,48,48,48,48,48,48,48,48,48,48,48,48,48,48,48,48,48,48,48,48,48,48,48,48,48,48,48,48,48,48,48,48,48,48,48,48,48,48]))])) (.ask (decide (IntKind.i64.wrap (IntKind.u64.wrap n)≤(128:Int))) (.ask (decide (IntKind.i64.wrap (IntKind.u64.wrap n)≤(64:Int))) (.ask (decide ((8192:Int)<IntKind.i64.wrap (IntKind.u64.wrap n))) .bad .bad) (.ask (decide ((8192:Int)<IntKind.i64.wrap (IntKind.u64.wrap n))) .bad .bad)) (.ask (decide (IntKind.i64.wrap (IntKind.u64.wrap n)≤(64:Int))) (.ask (decide ((8192:Int)<IntKind.i64.wrap (IntKind.u64.wrap n))) .bad .bad) (.ask (decide ((8192:Int)<IntKind.i64.wrap (IntKind.u64.wrap n))) .bad .bad))))))))))):T (List C)).eval:=aAj (by kernel_rfl)
theorem aT7 (H:List Pt→Nat→St→T (List C)) (n:Int):(aAk aHq aAc (sg [pI] [rS]) Tryz.f53 H [C.int .i64 n]).eval=((.ask (inB n 0 1000000000) (H [Pt.r,Pt.r,Pt.r,Pt.l,Pt.r,Pt.b] 9223372036854775808 (aHo (n) (0) ([]) ((7:Int)))) (.ret [C.str []])):T (List C)).eval:=aAj (by kernel_rfl)
theorem aTr (H:List Pt→Nat→St→T (List C)) (n:Int):(aAk aPp aAc (sg [pI] [rS]) Tryz.f80 H [C.int .i64 n]).eval=((.ask (inB n 0 1000000000) (.must (decide ((16:Int)=(16:Int))&&(decide ((0:Int)≤n)&&decide (n≤(1000000000:Int)))) (.must (decide ([(48:UInt8)]=[(48:UInt8)])&&(decide ((0:Int)≤IntKind.i64.wrap ((8:Int)-(↑(aHu n.toNat).length:Int)))&&decide (IntKind.i64.wrap ((8:Int)-(↑(aHu n.toNat).length:Int))≤(8:Int)))) (.must (decide (1+(List.replicate (IntKind.i64.wrap ((8:Int)-(↑(aHu n.toNat).length:Int))).toNat (48:UInt8)).length≤9223372036854775807)) (.must (decide (([(115:UInt8)]++List.replicate (IntKind.i64.wrap ((8:Int)-(↑(aHu n.toNat).length:Int))).toNat (48:UInt8)).length+(aHu n.toNat).length≤9223372036854775807)) (.must (decide (([(115:UInt8)]++List.replicate (IntKind.i64.wrap ((8:Int)-(↑(aHu n.toNat).length:Int))).toNat (48:UInt8)++aHu n.toNat).length+4≤9223372036854775807)) (.ret [C.str ([(115:UInt8)]++List.replicate (IntKind.i64.wrap ((8:Int)-(↑(aHu n.toNat).length:Int))).toNat (48:UInt8)++aHu n.toNat++[(46:UInt8),115,101,103])])))))) (.ret [C.str []])):T (List C)).eval:=aAj (by kernel_rfl)
theorem aIx (H:List Pt→Nat→St→T (List C)) (n:Int) (q:Nat) (r:List (List C)) (i:Int) (k:Nat):(aBl aHq aAc (sg [pI] [rS]) Tryz.f53 H [Pt.r,Pt.r,Pt.r,Pt.l,Pt.r,Pt.b] k (aHo n q r i)).eval=((.ask (decide ((0:Int)≤i)) (.must (decide ((0:Int)≤IntKind.u64.wrap (IntKind.i64.wrap ((4:Int)*i)))) (.must (decide ((0:Int)≤aHt .i64 (aKg .i64 n (IntKind.u64.wrap (IntKind.i64.wrap ((4:Int)*i)))) (15:Int))&&decide (aHt .i64 (aKg .i64 n (IntKind.u64.wrap (IntKind.i64.wrap ((4:Int)*i)))) (15:Int)<(↑(16:Nat):Int))) (.must (decide (q=r.length)&&aBj (r.length+1) 1&&(decide (1=1)&&true)) (H [Pt.r,Pt.r,Pt.r,Pt.l,Pt.r,Pt.b] k (aHo (n) (r.length+1) (r.append [[C.int .u8 (↑([(48:UInt8),49,50,51,52,53,54,55,56,57,97,98,99,100,101,102].getD (aHt .i64 (aKg .i64 n (IntKind.u64.wrap (IntKind.i64.wrap ((4:Int)*i)))) (15:Int)).toNat (0:UInt8)).toNat:Int)]]) (IntKind.i64.wrap (i-(1:Int)))))))) (.must ((List.take q r).all aGw) (.must (decide (1+(aC0 (List.take q r)).length≤9223372036854775807)) (.must (decide (([(115:UInt8)]++aC0 (List.take q r)).length+4≤9223372036854775807)) (.ret [C.str ([(115:UInt8)]++aC0 (List.take q r)++[(46:UInt8),115,101,103])]))))):T (List C)).eval:=aAj (by kernel_rfl)
theorem cFa (n:Nat) (hn:n<18446744073709551616):aHt .u64 (n:Int) 15=((n % 16:Nat):Int):=by
 have e:(BitVec.ofInt 64 (n:Int)&&&BitVec.ofInt 64 15).toNat=n % 16:=by
  rw[BitVec.toNat_and]
  have h1:(BitVec.ofInt 64 (n:Int)).toNat=n:=by simp;omega
  have h2:(BitVec.ofInt 64 (15:Int)).toNat=15:=by decide
  rw[h1,h2]
  exact Nat.and_two_pow_sub_one_eq_mod n 4
 show IntKind.u64.wrap ((BitVec.ofInt 64 (n:Int)&&&BitVec.ofInt 64 15).toNat:Int)=_
 rw[e,bD0]<;>omega
theorem cGj (n:Nat):aKg .u64 (n:Int) 4=((n / 16:Nat):Int):=by
 unfold aKg
 simp[IntKind.bits]
 rw[Int.fdiv_eq_ediv_of_nonneg _ (by decide)]
theorem bKg (k:Nat) (hk:k<16):((([48,49,50,51,52,53,54,55,56,57,97,98,99,100,101,102,103,104,105,106,107,108,109,110,111,112,113,114,115,116,117,118,119,120,121,122]:List UInt8).getD k 0).toNat:Int)=((aNj k).toNat:Int):=by
 revert hk;revert k;decide
theorem bOc (n:Nat):aNj (n % 16)=aNj n:=by unfold aNj;rw[Nat.mod_mod]
theorem bIo (l:List UInt8) (j:Nat) (hj:j<l.length) (v:UInt8):(aAe l).set j (C.int .u8 ((v.toNat:Nat):Int)::List.drop (0+1) ((aAe l).getD j []))=aAe (l.set j v):=by
 rw[bPd l j hj]
 simp[aAe,List.map_set]
theorem bP6 (l:List UInt8) (j:Nat) (hj:j<l.length) (v:UInt8):(l.set j v).drop j=v::l.drop (j+1):=by
 rw[List.drop_eq_getElem_cons (by simpa using hj)]
 simp[List.drop_set]
theorem cE8:aAa Tryz.prog cBo:=aA8 (by simp[])
theorem bQw:aAx Tryz.prog 182 (sg [aVc] [rI]) aNx:=aA6 cE8 aAb Tryz.func182 (by kernel_rfl) fun cs outs hk h=>by
 unfold aNx at h
 split at h
 ·simp only[Option.some.injEq,Prod.mk.injEq,decide_eq_true_eq]at h
  obtain⟨rfl,rfl⟩:=h
  rw[aAd,bTx]
  rfl
 ·cases h
theorem cH2:aAa Tryz.prog cH1:=aA8 (by simp[bQw])
theorem bYp:aAx Tryz.prog 178 (sg [aVc] [rI]) aNx:=aA6 cH2 aAb Tryz.func178 (by kernel_rfl) fun cs outs hk h=>by
 unfold aNx at h
 split at h
 ·simp only[Option.some.injEq,Prod.mk.injEq,decide_eq_true_eq]at h
  obtain⟨rfl,rfl⟩:=h
  rw[aAd,cC2]
  rfl
 ·cases h
theorem cD4:aAa Tryz.prog bY7:=aA8 (by simp[])
theorem bNj:aAx Tryz.prog 177 (sg [pI] [rB]) aXs:=aA6 cD4 aAb Tryz.func177 (by kernel_rfl) fun cs outs hk h=>by
 unfold aXs at h
 split at h
 ·simp only[Option.some.injEq,Prod.mk.injEq,decide_eq_true_eq]at h
  obtain⟨rfl,rfl⟩:=h
  rw[aAd,bSs]
  rfl
 ·cases h
theorem aUp (n f i u:Nat) (l:List UInt8) (h1:u<16) (h2:1≤i) (h3:i≤65) (h4:l.length=65) (h6:0<n) (h7:0<f) :
  (aBr aLc aAc (sg [pSl 5,aVc,pI,pB,pB] [rSl 5,rS]) Tryz.f164 [.r,.r,.r,.r,.r,.l,.r,.l,.r,.r,.r,.l,.b] n (aLa u i 4 16 15 (aAe l))).eval=some [.sl [],.str (bFs f u (l.drop i))]:=by
  obtain⟨n,rfl⟩:∃ g,n=g+1:=⟨n-1,by omega⟩
  obtain⟨f,rfl⟩:∃ g,f=g+1:=⟨f-1,by omega⟩
  rw[aAv _ _ _ _ _ _ _ (by kernel_rfl),aPn]
  obtain⟨j,rfl⟩:∃ j,i=j+1:=⟨i-1,by omega⟩
  have w:IntKind.i64.wrap (((j+1:Nat):Int)-1)=(j:Int):=by rw[aAh]<;>omega
  have c1:¬(16:Int)≤(u:Int):=by omega
  have hj:j<l.length:=by omega
  have fs:=bKg u h1
  have rs:=bIo l j hj (aNj u)
  rw[←fs]at rs
  have ln:(l.set j (aNj u)).length=65:=by simpa using h4
  have hx:¬16≤u:=by omega
  simp only[bFs,if_neg hx]
  have tk:List.take (65-j) (aAe (List.drop j (l.set j (aNj u))))=aAe (aNj u::l.drop (j+1)):=by
   rw[bP6 l j hj,List.take_of_length_le]
   simp[aBp];omega
  have b1:(u:Int)<(↑(36:Nat):Int):=by omega
  have b2:(j:Int)<(↑(65:Nat):Int):=by omega
  have b3:(j:Int)≤(↑(65:Nat):Int):=by omega
  have z1:(0:Int)≤(u:Int):=by omega
  have z2:(0:Int)≤(j:Int):=by omega
  simp only[aA1,aA4,aA3,w,Int.toNat_natCast,rs,decide_eq_true_eq,c1,if_false,b1,b2,b3,z1,z2,decide_true,Bool.and_self,if_true,aBp,ln,hj,bUz,tk,aEj,aHi]
theorem bKa:∀ (k n f i u:Nat) (l:List UInt8),u<16^(k+1)→k+1≤i→i≤65→l.length=65→k<15→k<n→k<f →
  (aBr aLc aAc (sg [pSl 5,aVc,pI,pB,pB] [rSl 5,rS]) Tryz.f164 [.r,.r,.r,.r,.r,.l,.r,.l,.r,.r,.r,.l,.b] n (aLa u i 4 16 15 (aAe l))).eval=some [.sl [],.str (bFs f u (l.drop i))]:=by
 intro k
 induction k with
 |zero =>
  intro n f i u l h1 h2 h3 h4 h5 h6 h7
  exact aUp n f i u l (by simpa using h1) h2 h3 h4 h6 h7
 |succ k ih =>
  intro n f i u l h1 h2 h3 h4 h5 h6 h7
  by_cases hu:u<16
  ·exact aUp n f i u l hu (by omega) h3 h4 (by omega) (by omega)
  ·obtain⟨n,rfl⟩:∃ g,n=g+1:=⟨n-1,by omega⟩
   obtain⟨f,rfl⟩:∃ g,f=g+1:=⟨f-1,by omega⟩
   have h8:u<18446744073709551616:=by
    have:16^(k+1+1)≤16^16:=Nat.pow_le_pow_right (by omega) (by omega)
    have e:(16:Nat)^16=18446744073709551616:=by decide
    omega
   obtain⟨j,rfl⟩:∃ j,i=j+1:=⟨i-1,by omega⟩
   have hj:j<l.length:=by omega
   have e:=ih n f j (u / 16) (l.set j (aNj (u % 16))) (by rw[Nat.div_lt_iff_lt_mul (by omega)];rw[Nat.pow_succ]at h1;exact h1) (by omega) (by omega) (by simpa using h4) (by omega) (by omega) (by omega)
   rw[aAv _ _ _ _ _ _ _ (by kernel_rfl),aPn]
   have w:IntKind.i64.wrap (((j+1:Nat):Int)-1)=(j:Int):=by rw[aAh]<;>omega
   have c1:(16:Int)≤(u:Int):=by omega
   have fs:=bKg (u % 16) (by omega)
   have rs:=bIo l j hj (aNj (u % 16))
   rw[←fs,bOc]at rs
   have hx:16≤u:=by omega
   simp only[bFs,if_pos hx]
   rw[bP6 l j hj,bOc]at e
   have b1:((u % 16:Nat):Int)<(↑(36:Nat):Int):=by omega
   have b2:(j:Int)<(↑(65:Nat):Int):=by omega
   have z1:(0:Int)≤((u % 16:Nat):Int):=by omega
   have z2:(0:Int)≤(j:Int):=by omega
   have z4:(0:Int)≤4:=by omega
   simp only[aA1,aA4,w,cFa u h8,cGj,Int.toNat_natCast,rs,decide_eq_true_eq,c1,if_true,b1,b2,z1,z2,z4,decide_true,Bool.and_self,aBp,hj]
   exact e
theorem bWz:aAa Tryz.prog aLc:=aA8 (by simp[bYp,bNj])
theorem bG0:aAx Tryz.prog 164 (sg [pSl 5,aVc,pI,pB,pB] [rSl 5,rS]) aU3:=aA6 bWz aAb Tryz.func164 (by kernel_rfl) fun cs outs hk h=>by
 unfold aU3 at h
 split at h
 ·simp only[Option.some.injEq,Prod.mk.injEq,Bool.and_eq_true,decide_eq_true_eq]at h
  obtain⟨⟨rfl,h1,h2⟩,rfl⟩:=h
  rename_i u
  obtain⟨n,rfl⟩:=Int.eq_ofNat_of_zero_le h1
  rw[aAd,bK9]
  have lp:=bKa 7 9223372036854775808 16 65 n (List.replicate 65 0) (by omega) (by omega) (by omega) (by simp) (by omega) (by omega) (by omega)
  have e1:List.drop 65 (List.replicate 65 (0:UInt8))=[]:=rfl
  rw[e1]at lp
  have d1:decide (Int.ofNat 16<(2:Int))=false:=by decide
  have d2:decide ((36:Int)<Int.ofNat 16)=false:=by decide
  simp only[aA1,aA4,d1,d2,if_true,Bool.false_eq_true,if_false]
  exact Eq.trans (congrArg (fun s=>(aBr aLc aAc (sg [pSl 5,aVc,pI,pB,pB] [rSl 5,rS]) Tryz.f164 [.r,.r,.r,.r,.r,.l,.r,.l,.r,.r,.r,.l,.b] 9223372036854775808 s).eval) (rfl:_=aLa n ((65:Nat):Int) 4 16 15 (aAe (List.replicate 65 0)))) lp
 ·cases h
theorem bCz {n:Int} (h1:0≤n) (h2:n≤1000000000):IntKind.u64.wrap n=n:=by rw[bD0]<;>omega
theorem cA9:aAa Tryz.prog bQq:=aA8 (by simp[bG0])
theorem bK7:aAx Tryz.prog 147 (sg [pI,pI] [rS]) aKt:=aA6 cA9 aAb Tryz.func147 (by kernel_rfl) fun cs outs hk h=>by
 unfold aKt at h
 split at h
 ·simp only[Option.some.injEq,Prod.mk.injEq,Bool.and_eq_true,decide_eq_true_eq]at h
  obtain⟨⟨rfl,h1,h2⟩,rfl⟩:=h
  rename_i n
  rw[aAd,bO9,bCz h1 h2]
  have c:¬n<0:=by omega
  have d:decide (Int.ofNat 16=(16:Int))=true:=by decide
  simp only[aA1,aA4,aA3,decide_eq_true_eq,c,if_false,d,h1,h2,decide_true,Bool.and_self,if_true]
 ·cases h
theorem bWy:aAa Tryz.prog bLl:=aA8 (by simp[bK7])
theorem bFz:aAx Tryz.prog 115 (sg [pI,pI] [rS]) aKt:=aA6 bWy aAb Tryz.func115 (by kernel_rfl) fun cs outs hk h=>by
 unfold aKt at h
 split at h
 ·simp only[Option.some.injEq,Prod.mk.injEq,Bool.and_eq_true,decide_eq_true_eq]at h
  obtain⟨⟨rfl,h1,h2⟩,rfl⟩:=h
  rename_i n
  rw[aAd,bK8]
  have d:decide (Int.ofNat 16=(16:Int))=true:=by decide
  simp only[aA1,aA4,aA3,d,h1,h2,decide_true,Bool.and_self,if_true]
 ·cases h
theorem cD0:aAa Tryz.prog bY5:=aA8 (by simp[])
theorem bN9:aAx Tryz.prog 166 (sg [aVc,aVc] [bTj,bTj]) aO7:=aA6 cD0 aAb Tryz.func166 (by kernel_rfl) fun cs outs hk h=>by
 unfold aO7 at h
 split at h
 ·simp only[Option.some.injEq,Prod.mk.injEq,Bool.and_eq_true,decide_eq_true_eq]at h
  obtain⟨⟨rfl,h1,h2⟩,rfl⟩:=h
  rename_i n
  rw[aAd,bSk]
  obtain⟨k,rfl⟩:=Int.eq_ofNat_of_zero_le h1
  have hk:k≤8:=by omega
  have:k=0∨k=1∨k=2∨k=3∨k=4∨k=5∨k=6∨k=7∨k=8:=by omega
  rcases this with rfl | rfl | rfl | rfl | rfl | rfl | rfl | rfl | rfl<;>rfl
 ·cases h
theorem cF5:aAa Tryz.prog cBr:=aA8 (by simp[bN9])
theorem bSj:aAx Tryz.prog 148 (sg [aVc,aVc] [bTj,bTj]) aO7:=aA6 cF5 aAb Tryz.func148 (by kernel_rfl) fun cs outs hk h=>by
 unfold aO7 at h
 split at h
 ·simp only[Option.some.injEq,Prod.mk.injEq,Bool.and_eq_true,decide_eq_true_eq]at h
  obtain⟨⟨rfl,h1,h2⟩,rfl⟩:=h
  rename_i n
  rw[aAd,bW2]
  have d:decide (Int.ofNat 1=(1:Int))=true:=by decide
  simp only[aA1,aA4,aA3,d,h1,h2,decide_true,Bool.and_self,if_true]
 ·cases h
theorem cEr:aAa Tryz.prog cBp:=aA8 (by simp[aMa,bSj])
theorem bS7:aAx Tryz.prog 116 (sg [pS,pI] [rS]) bEh:=aA6 cEr aAb Tryz.func116 (by kernel_rfl) fun cs outs hk h=>by
 unfold bEh at h
 split at h
 ·simp only[Option.some.injEq,Prod.mk.injEq,Bool.and_eq_true,decide_eq_true_eq]at h
  obtain⟨⟨rfl,h1,h2⟩,rfl⟩:=h
  rename_i n
  rw[aAd,bV8]
  obtain⟨k,rfl⟩:=Int.eq_ofNat_of_zero_le h1
  have:k=0∨k=1∨k=2∨k=3∨k=4∨k=5∨k=6∨k=7∨k=8:=by omega
  rcases this with rfl | rfl | rfl | rfl | rfl | rfl | rfl | rfl | rfl<;>rfl
 ·cases h
theorem aLz:∀ (k n:Nat),(aVj k n).length=k
 |0,_=>rfl
 |k+1,n=>by simp[aVj,aLz k]
theorem bC4:∀ (f k n:Nat) (acc:List UInt8),n<16^(k+1)→k<f→∃ m,1≤m∧m≤k+1∧n<16^m∧bFs f n acc=aVj m n++acc
 |0,k,n,acc,_,h=>by omega
 |f+1,k,n,acc,h1,h2=>by
  by_cases hn:16≤n
  ·obtain⟨k,rfl⟩:∃ j,k=j+1:=⟨k-1,by
    cases k with
    |zero=>simp at h1;omega
    |succ k=>omega⟩
   obtain⟨m,a1,a2,a3,a4⟩:=bC4 f k (n / 16) (aNj n::acc) (by rw[Nat.div_lt_iff_lt_mul (by omega)];rw[Nat.pow_succ]at h1;exact h1) (by omega)
   refine⟨m+1,by omega,by omega,?_,?_⟩
   ·rw[Nat.pow_succ];rw[Nat.div_lt_iff_lt_mul (by omega)]at a3;exact a3
   ·simp only[bFs,if_pos hn,a4,aVj,List.append_assoc,List.cons_append,List.nil_append]
  ·exact⟨1,by omega,by omega,by omega,by simp[bFs,if_neg hn,aVj]⟩
theorem bKl:∀ k,aVj k 0=List.replicate k 48
 |0=>rfl
 |k+1=>by
  rw[aVj,Nat.zero_div,bKl k,List.replicate_succ']
  rfl
theorem bPy:∀ (m k n:Nat),n<16^m→aVj (k+m) n=List.replicate k 48++aVj m n
 |0,k,n,h=>by
  have:n=0:=by simpa using h
  subst this
  simp[aVj,bKl]
 |m+1,k,n,h=>by
  have:=bPy m k (n / 16) (by rw[Nat.div_lt_iff_lt_mul (by omega)];rw[Nat.pow_succ]at h;exact h)
  rw[←Nat.add_assoc,aVj,this,aVj,List.append_assoc]
theorem cDa (n:Nat) (h:n≤1000000000):(aHu n).length≤8∧List.replicate (8-(aHu n).length) 48++aHu n=aVj 8 n:=by
 obtain⟨m,a1,a2,a3,a4⟩:=bC4 16 7 n [] (by omega) (by omega)
 rw[List.append_nil]at a4
 unfold aHu
 rw[a4,aLz]
 refine⟨by omega,?_⟩
 rw[←bPy m (8-m) n a3,Nat.sub_add_cancel (by omega)]
theorem cD7 (n:Nat) (hn:n<9223372036854775808):aHt .i64 (n:Int) 15=((n % 16:Nat):Int):=by
 have e:(BitVec.ofInt 64 (n:Int)&&&BitVec.ofInt 64 15).toNat=n % 16:=by
  rw[BitVec.toNat_and]
  have h1:(BitVec.ofInt 64 (n:Int)).toNat=n:=by simp;omega
  have h2:(BitVec.ofInt 64 (15:Int)).toNat=15:=by decide
  rw[h1,h2]
  exact Nat.and_two_pow_sub_one_eq_mod n 4
 show IntKind.i64.wrap ((BitVec.ofInt 64 (n:Int)&&&BitVec.ofInt 64 15).toNat:Int)=_
 rw[e,aAh]<;>omega
theorem cDd (k:Nat) (hk:k<16):(([48,49,50,51,52,53,54,55,56,57,97,98,99,100,101,102]:List UInt8).getD k 0)=aNj k:=by
 revert hk;revert k;decide
theorem aT8 (b:Nat) (hb:b≤1000000000):∀ (j n:Nat),j≤8→j<n →
  (aBr aHq aAc (sg [pI] [rS]) Tryz.f53 [.r,.r,.r,.l,.r,.b] n (aHo b (8-j) (aAe (aVj (8-j) (b / 16^j))) ((j:Int)-1))).eval=some [.str ([115]++aVj 8 b++[46,115,101,103])]:=by
 intro j
 induction j with
 |zero =>
  intro n h1 h2
  obtain⟨n,rfl⟩:∃ g,n=g+1:=⟨n-1,by omega⟩
  rw[aAv _ _ _ _ _ _ _ (by kernel_rfl),aIx]
  have c:¬(0:Int)≤((0:Nat):Int)-1:=by omega
  have tk:List.take (8-0) (aAe (aVj (8-0) (b / 16^0)))=aAe (aVj 8 b):=by
   rw[List.take_of_length_le]
   ·simp
   ·simp[aBp,aLz]
  have l1:(1+(aVj 8 b).length≤9223372036854775807):=by rw[aLz];omega
  have l2:(([115]++aVj 8 b).length+4≤9223372036854775807):=by simp[aLz]
  simp only[aA1,aA4,aA3,decide_eq_true_eq,c,if_false,tk,aEj,aHi,if_true,l1,l2]
 |succ j ih =>
  intro n h1 h2
  obtain⟨n,rfl⟩:∃ g,n=g+1:=⟨n-1,by omega⟩
  have e:=ih n (by omega) (by omega)
  rw[aAv _ _ _ _ _ _ _ (by kernel_rfl),aIx]
  have w0:((j+1:Nat):Int)-1=(j:Int):=by omega
  have w1:IntKind.i64.wrap ((4:Int)*(j:Int))=((4*j:Nat):Int):=by rw[aAh]<;>omega
  have w2:IntKind.u64.wrap ((4*j:Nat):Int)=((4*j:Nat):Int):=by rw[bD0]<;>omega
  have s1:aKg IntKind.i64 (b:Int) ((4*j:Nat):Int)=((b / 16^j:Nat):Int):=by
   rw[aIr _ _ (by omega),Nat.pow_mul]
  have hlt:b / 16^j≤b:=Nat.div_le_self _ _
  have s2:=cD7 (b / 16^j) (by omega)
  have c:(0:Int)≤(j:Int):=by omega
  have z1:(0:Int)≤((4*j:Nat):Int):=by omega
  have z2:(0:Int)≤((b / 16^j % 16:Nat):Int):=by omega
  have z3:((b / 16^j % 16:Nat):Int)<(↑(16:Nat):Int):=by omega
  have fg:=cDd (b / 16^j % 16) (by omega)
  have ra:=aH8 (aVj (8-(j+1)) (b / 16^(j+1))) (aNj (b / 16^j % 16)).toNat (UInt8.toNat_lt _)
  have dk:aVj (8-(j+1)) (b / 16^(j+1))++[UInt8.ofNat (aNj (b / 16^j % 16)).toNat]=aVj (8-j) (b / 16^j):=by
   rw[UInt8.ofNat_toNat,bOc]
   have e1:8-j=(8-(j+1))+1:=by omega
   rw[e1,aVj,Nat.div_div_eq_div_mul,←Nat.pow_succ]
  have ro:aBj (8-j) 1=true:=by simp only[aBj,decide_eq_true_eq];omega
  have w3:IntKind.i64.wrap ((j:Int)-1)=(j:Int)-1:=by rw[aAh]<;>omega
  have e8:8-(j+1)+1=8-j:=by omega
  rw[w0]
  simp only[aA1,aA4,w1,w2,w3,s1,s2,z1,z2,z3,c,Int.toNat_natCast,fg,ra,dk,ro,aBp,aLz,decide_true,Bool.and_self,if_true,e8]
  exact e
theorem bA2:aAa Tryz.prog aHq:=aA8 (by simp[aDy])
theorem aGe:aAx Tryz.prog 53 (sg [pI] [rS]) aMo:=aA6 bA2 aAb Tryz.func53 (by kernel_rfl) fun cs outs hk h=>by
 unfold aMo at h
 split at h
 ·simp only[Option.some.injEq,Prod.mk.injEq,true_and]at h
  subst h
  rename_i n
  rw[aAd,aT7]
  by_cases hn:inB n 0 1000000000=true
  ·obtain⟨h1,h2⟩:=(aBi _ _ _).1 hn
   obtain⟨b,rfl⟩:=Int.eq_ofNat_of_zero_le h1
   simp only[aA4,hn,if_true,aAo,Int.toNat_natCast]
   have hb:b / 16^8=0:=Nat.div_eq_of_lt (by omega)
   have lp:=aT8 b (by omega) 8 9223372036854775808 (by omega) (by omega)
   rw[hb]at lp
   exact lp
  ·simp only[aA4,aA3,hn,aAo,Bool.false_eq_true,if_false]
 ·cases h
theorem bAx:aAa Tryz.prog aPp:=aA8 (by simp[aD9,bFz,bS7])
theorem aRx:aAx Tryz.prog 80 (sg [pI] [rS]) aMo:=aA6 bAx aAb Tryz.func80 (by kernel_rfl) fun cs outs hk h=>by
 unfold aMo at h
 split at h
 ·simp only[Option.some.injEq,Prod.mk.injEq,true_and]at h
  subst h
  rename_i n
  rw[aAd,aTr]
  by_cases hn:inB n 0 1000000000=true
  ·obtain⟨h1,h2⟩:=(aBi _ _ _).1 hn
   obtain⟨b,rfl⟩:=Int.eq_ofNat_of_zero_le h1
   obtain⟨p1,p2⟩:=cDa b (by omega)
   have w:IntKind.i64.wrap ((8:Int)-((aHu b).length:Int))=((8-(aHu b).length:Nat):Int):=by rw[aAh]<;>omega
   have z1:(0:Int)≤((8-(aHu b).length:Nat):Int):=by omega
   have z2:((8-(aHu b).length:Nat):Int)≤8:=by omega
   have z3:(0:Int)≤(b:Int):=by omega
   have l1:(1+(8-(aHu b).length)≤9223372036854775807):=by omega
   have l2:(0+1+(8-(aHu b).length)+(aHu b).length≤9223372036854775807):=by omega
   have l3:(0+1+(8-(aHu b).length)+(aHu b).length+4≤9223372036854775807):=by omega
   simp only[aA4,aA1,aA3,hn,if_true,aAo,Int.toNat_natCast,w,z1,z2,z3,h2,decide_true,Bool.and_self,List.length_replicate,List.length_append,List.length_cons,List.length_nil,l1,l2,l3]
   rw[←p2]
   simp
  ·simp only[aA4,aA3,hn,aAo,Bool.false_eq_true,if_false]
 ·cases h
noncomputable section
structure Nd where
 id:Int
 text:List UInt8
 sure:Int
 deriving DecidableEq
structure En where
 name:List UInt8
 id:Int
 deriving DecidableEq
abbrev eNd (x:Nd):List C:=[.int .i64 x.id,.str x.text,.int .i64 x.sure]
abbrev eEn (x:En):List C:=[.str x.name,.int .i64 x.id]
abbrev kNd:List K:=[.int .i64,.str,.int .i64]
abbrev kEn:List K:=[.str,.int .i64]
def cCm (r:List C):Nd:=⟨(r.getD 0 (.fn 0 [])).toInt,(r.getD 1 (.fn 0 [])).toStr,(r.getD 2 (.fn 0 [])).toInt⟩
def cCn (r:List C):En:=⟨(r.getD 0 (.fn 0 [])).toStr,(r.getD 1 (.fn 0 [])).toInt⟩
def nds (rows:List (List C)):List Nd:=rows.map cCm
def ens (rows:List (List C)):List En:=rows.map cCn
def bU0 (rows:List (List C)):Bool:=rows.all fun r=>r.all fun c=>match c with | .str s=>decide (s.length≤281474976710656) | _=>true
end
theorem bWe {k:IntKind} {c:C} (h:c.is (.int k)=true):c=.int k c.toInt:=by
 cases c<;>simp[C.is]at h
 subst h;rfl
theorem cBc {c:C} (h:c.is .str=true):c=.str c.toStr:=by
 cases c<;>simp[C.is]at h
 rfl
theorem cEm {r:List C} (h:aBm r kNd=true):r=eNd (cCm r):=by
 match r,h with
 |[a,b,c],h =>
  simp only[aBm,Bool.and_eq_true,and_true]at h
  obtain⟨h1,h2,h3⟩:=h
  have e1:=bWe h1
  have e2:=cBc h2
  have e3:=bWe h3
  show[a,b,c]=[.int .i64 a.toInt,.str b.toStr,.int .i64 c.toInt]
  rw[←e1,←e2,←e3]
 |[],h=>simp[aBm]at h
 |[_],h=>simp[aBm]at h
 |[_,_],h=>simp[aBm]at h
 |_::_::_::_::_,h=>simp[aBm]at h
theorem cEn {r:List C} (h:aBm r kEn=true):r=eEn (cCn r):=by
 match r,h with
 |[a,b],h =>
  simp only[aBm,Bool.and_eq_true,and_true]at h
  obtain⟨h1,h2⟩:=h
  have e1:=cBc h1
  have e2:=bWe h2
  show[a,b]=[.str a.toStr,.int .i64 b.toInt]
  rw[←e1,←e2]
 |[],h=>simp[aBm]at h
 |[_],h=>simp[aBm]at h
 |_::_::_::_,h=>simp[aBm]at h
theorem aO0 {rows:List (List C)} (h:aAp kNd rows=true):rows=(nds rows).map eNd:=by
 simp only[aAp,List.all_eq_true]at h
 simp only[nds,List.map_map]
 rw[List.map_congr_left (g:=id)]
 ·simp
 ·intro r hr;exact (cEm (h r hr)).symm
theorem aLk {rows:List (List C)} (h:aAp kEn rows=true):rows=(ens rows).map eEn:=by
 simp only[aAp,List.all_eq_true]at h
 simp only[ens,List.map_map]
 rw[List.map_congr_left (g:=id)]
 ·simp
 ·intro r hr;exact (cEn (h r hr)).symm
@[simp] theorem aGh (l:List Nd):nds (l.map eNd)=l:=by simp[nds,cCm,Function.comp_def,C.toInt,C.toStr]
@[simp] theorem aQe (l:List En):ens (l.map eEn)=l:=by simp[ens,cCn,Function.comp_def,C.toInt,C.toStr]
@[simp] theorem aTh (l:List Nd):aAp kNd (l.map eNd)=true:=by simp[aAp,aBm,C.is]
@[simp] theorem aKl (l:List En):aAp kEn (l.map eEn)=true:=by simp[aAp,aBm,C.is]
theorem aVr (l:List Nd):((l.map eNd).all fun r=>r.all C.flat)=true:=by simp[C.flat]
theorem bG3 (l:List En):((l.map eEn).all fun r=>r.all C.flat)=true:=by simp[C.flat]
theorem bX1 {E:Env} {e:TypeId} {x:C} (h:Fit E (.slice e) x):∃ rows,x=.sl rows∧bU0 rows=true:=by
 cases h with
 |@sl _ te rows h1 h2 h3 h4 =>
  refine⟨rows,rfl,?_⟩
  simp only[bU0,List.all_eq_true]
  intro r hr c hc
  split
  ·rename_i s
   obtain⟨j,hj⟩:=List.getElem?_of_mem hc
   have hjl:=(List.getElem?_eq_some_iff.1 hj).1
   have hlen:=h3 r hr
   obtain⟨s',hs,hl⟩:∃ s',C.str s=.str s'∧s'.length≤140737488351232:=by
    have hk:te.leaves[j]? =some (te.leaves[j]'(by omega)):=List.getElem?_eq_getElem (by omega)
    have hf:=h4 r hr j _ _ hk hj
    generalize te.leaves[j]'(by omega)=kd at hf
    cases hf with
    |str a=>exact⟨_,rfl,a⟩
   obtain rfl:=C.str.inj hs
   simp only[decide_eq_true_eq]
   omega
  ·rfl
theorem aU9 {A:Type} {x y:List A} {i:Nat} (d:A) (hx:i<x.length) (hy:i<y.length) (h:x.take i=y.take i) (hd:x.getD i d=y.getD i d):x.take (i+1)=y.take (i+1):=by
 rw[List.take_add_one,List.take_add_one,h]
 simp[List.getD_eq_getElem?_getD,hx,hy]at hd
 simp[hx,hy,hd]
noncomputable section
def bZe:PTy:=.val true kNd
def bSa:RTy:=⟨true,[(.int .i64,false),(.str,false),(.int .i64,false)]⟩
def aKo:PTy:=.val true kEn
end
noncomputable section
def aB0:PTy:=.val true [.slice 94,.slice 100,.slice 100,.slice 9,.int .i64,.int .i64]
def aBz:RTy:=⟨true,[(.slice 94,true),(.slice 100,true),(.slice 100,true),(.slice 9,true),(.int .i64,false),(.int .i64,false)]⟩
end
noncomputable section
def aDb {A:Type} (p:A→Bool):List A→Nat→Int
 |[],_=> -1
 |x::r,i=>if p x then (i:Int)else aDb p r (i+1)
def bXb (nm:List UInt8) (e:En):Bool:=decide (e.name=nm)
def cB9 (id:Int) (n:Nd):Bool:=decide (n.id=id)
def aCd (es:List En) (nm:List UInt8):Int:=aDb (bXb nm) es 0
def aAz (ns:List Nd) (id:Int):Int:=aDb (cB9 id) ns 0
def aBb (es:List En) (nm:List UInt8):Int:=if aCd es nm<0 then 0 else (es.getD (aCd es nm).toNat ⟨[],0⟩).id
def aGz (es:List En) (nm:List UInt8):Bool:=decide (0≤aCd es nm)
def aEe (ns:List Nd) (es:List En) (nm:List UInt8):Int:=if aCd es nm<0 then -1 else aAz ns (aBb es nm)
def cE4 (ns:List Nd) (es:List En) (nm:List UInt8):Nd:=if aEe ns es nm<0 then⟨0,[],0⟩else ns.getD (aEe ns es nm).toNat ⟨0,[],0⟩
def bK2 (ns:List Nd) (es:List En) (nm:List UInt8):Bool:=decide (0≤aEe ns es nm)
def cGh (ns:List Nd) (es:List En) (nm:List UInt8):Int:=(cE4 ns es nm).id
def aJp (ns:List Nd) (es:List En) (nm:List UInt8):List UInt8:=(cE4 ns es nm).text
def bVy (ns:List Nd) (es:List En) (nm:List UInt8):Int:=(cE4 ns es nm).sure
def aMj:Nat:=281474976710656
def aVv:aCf:=fun cs=>match cs with
 |[.str n,.int .i64 _,.pt [.str nm]]=>some (true,[.bool (decide (n=nm))])
 |_=>none
def aVp:aCf:=fun cs=>match cs with
 |[.int .i64 i,.str _,.int .i64 _,.pt [.int .i64 id]]=>some (true,[.bool (decide (i=id))])
 |_=>none
def bF2:aCf:=fun cs=>match cs with
 |[.sl rows,.fn f [.pt [.str nm]]]=>some (decide (f=171)&&(decide (rows.length≤aMj)&&aAp kEn rows),[.int .i64 (aCd (ens rows) nm)])
 |_=>none
def bF0:aCf:=fun cs=>match cs with
 |[.sl rows,.fn f [.pt [.int .i64 id]]]=>some (decide (f=173)&&(decide (rows.length≤aMj)&&aAp kNd rows),[.int .i64 (aAz (nds rows) id)])
 |_=>none
def aXu:aCf:=fun cs=>match cs with
 |[.sl rows,.str nm]=>some (decide (rows.length≤aMj)&&aAp kEn rows,[.int .i64 (aCd (ens rows) nm)])
 |_=>none
def aJb:aCf:=fun cs=>match cs with
 |[.sl rows,.str nm]=>some (decide (rows.length≤aMj)&&aAp kEn rows,[.int .i64 (aBb (ens rows) nm)])
 |_=>none
def aGo:aCf:=fun cs=>match cs with
 |[.sl rows,.str nm]=>some (decide (rows.length≤aMj)&&aAp kEn rows,[.bool (aGz (ens rows) nm)])
 |_=>none
def aFb:aCf:=fun cs=>match cs with
 |[.sl ns,.sl _,.sl _,.sl _,.int .i64 _,.int .i64 _,.int .i64 id]=>some (decide (ns.length≤aMj)&&aAp kNd ns,[.int .i64 (aAz (nds ns) id)])
 |_=>none
def bGu (ns es:List (List C)):Bool:=decide (ns.length≤aMj)&&decide (es.length≤aMj)&&aAp kNd ns&&aAp kEn es
def aTk:aCf:=fun cs=>match cs with
 |[.sl ns,.sl es,.sl _,.sl _,.int .i64 _,.int .i64 _,.str nm]=>some (bGu ns es,[.int .i64 (aEe (nds ns) (ens es) nm)])
 |_=>none
def aIo:aCf:=fun cs=>match cs with
 |[.sl ns,.sl es,.sl _,.sl _,.int .i64 _,.int .i64 _,.str nm]=>some (bGu ns es,[.int .i64 (cGh (nds ns) (ens es) nm),.str (aJp (nds ns) (ens es) nm),.int .i64 (bVy (nds ns) (ens es) nm),.bool (bK2 (nds ns) (ens es) nm)])
 |_=>none
def aG2:aCf:=fun cs=>match cs with
 |[.sl ns,.sl es,.sl _,.sl _,.int .i64 _,.int .i64 _,.str nm]=>some (bGu ns es,[.str (aJp (nds ns) (ens es) nm),.bool (bK2 (nds ns) (ens es) nm)])
 |_=>none
def aBh (ns:List Nd) (es:List En) (base:Int):List UInt8:=aJp ns es (aAo base)
def aG1:aCf:=fun cs=>match cs with
 |[.sl ns,.sl es,.sl _,.sl _,.int .i64 _,.int .i64 _,.int .i64 base]=>some (bGu ns es,[.str (aBh (nds ns) (ens es) base)])
 |_=>none
abbrev pF:PTy:=.val false [.func]
abbrev pP:PTy:=.val false [.ptr]
def bQe (r:List (List C)) (nm:List UInt8) (n i:Int):St:=st0 [(0,.l (.sl r)),(1,.l (.fn 171 [.pt [.str nm]])),(7,aBf n),(8,aBf i)]
def bQd (r:List (List C)) (id:Int) (n i:Int):St:=st0 [(0,.l (.sl r)),(1,.l (.fn 173 [.pt [.int .i64 id]])),(7,aBf n),(8,aBf i)]
def aW6 (r:List (List C)) (nm:List UInt8) (i:Int):St:=st0 [(0,.l (.sl r)),(1,aZu nm),(5,aBf i)]
def aW5 (r:List (List C)) (nm:List UInt8) (i:Int):St:=st0 [(0,.l (.sl r)),(1,aZu nm),(5,aBf i)]
def aSf (ns es os ss:List (List C)) (r x id i:Int):St:={slots:=[(1,aBf id),(2,.l (.ptr 0 0)),(5,aBf i)],heap:=[(0,.box [.sl ns,.sl es,.sl os,.sl ss,.i .i64 r,.i .i64 x])],next:=1,pins:=[]}
def cBt:Env:=mkE [] []
def cBq:Env:=mkE [] []
def bQl:Env:=mkE [(2,[0,1,7,8])] [(171,(sg [aKo,pP] [rB]),aVv)]
def bQk:Env:=mkE [(2,[0,1,7,8])] [(173,(sg [bZe,pP] [rB]),aVp)]
def bCu:Env:=mkE [] [(171,(sg [aKo,pP] [rB]),aVv),(170,(sg [pSl 100,pF] [rI]),bF2)]
def bLa:Env:=mkE [] [(173,(sg [bZe,pP] [rB]),aVp),(172,(sg [pSl 94,pF] [rI]),bF0)]
def aWd:Env:=mkE [(2,[0,1,5])] []
def aWc:Env:=mkE [(2,[0,1,5])] []
def aSo:Env:=mkE [(2,[1,2,5])] []
def bLb:Env:=mkE [] [(159,(sg [pSl 100,pS] [rI]),aXu),(160,(sg [aB0,pI] [rI]),aFb)]
def bL1:Env:=mkE [] [(93,(sg [pSl 100,pS] [rI]),aJb),(94,(sg [pSl 100,pS] [rB]),aGo),(92,(sg [aB0,pI] [rI]),aFb)]
def bLe:Env:=mkE [] [(146,(sg [aB0,pS] [rI]),aTk)]
def aZj:Env:=mkE [] [(68,(sg [aB0,pS] [bSa,rB]),aIo)]
def aZp:Env:=mkE [] [(114,(sg [aB0,pS] [bSa,rB]),aIo)]
def bKy:Env:=mkE [] [(53,(sg [pI] [rS]),aMo),(52,(sg [aB0,pS] [rS,rB]),aG2)]
def bLd:Env:=mkE [] [(80,(sg [pI] [rS]),aMo),(79,(sg [aB0,pS] [rS,rB]),aG2)]
end
theorem bXc (H:List Pt→Nat→St→T (List C)) (n:List UInt8) (i:Int) (nm:List UInt8):(aAk cBt aAc (sg [aKo,pP] [rB]) Tryz.f171 H [C.str n,C.int .i64 i,C.pt [C.str nm]]).eval=((.ask (n==nm) (.ret [C.bool true]) (.ret [C.bool false])):T (List C)).eval:=aAj (by kernel_rfl)
theorem bW0 (H:List Pt→Nat→St→T (List C)) (i:Int) (t:List UInt8) (s:Int) (id:Int):(aAk cBq aAc (sg [bZe,pP] [rB]) Tryz.f173 H [C.int .i64 i,C.str t,C.int .i64 s,C.pt [C.int .i64 id]]).eval=((.ask (decide (i=id)) (.ret [C.bool true]) (.ret [C.bool false])):T (List C)).eval:=aAj (by kernel_rfl)
theorem bWc (H:List Pt→Nat→St→T (List C)) (r:List (List C)) (nm:List UInt8):(aAk bQl aAc (sg [pSl 100,pF] [rI]) Tryz.f170 H [C.sl r,C.fn 171 [C.pt [C.str nm]]]).eval=((H [Pt.r,Pt.l,Pt.r,Pt.b] 9223372036854775808 (bQe (r) (nm) ((↑r.length:Int)) ((0:Int)))):T (List C)).eval:=aAj (by kernel_rfl)
theorem bW9 (H:List Pt→Nat→St→T (List C)) (r:List (List C)) (id:Int):(aAk bQk aAc (sg [pSl 94,pF] [rI]) Tryz.f172 H [C.sl r,C.fn 173 [C.pt [C.int .i64 id]]]).eval=((H [Pt.r,Pt.l,Pt.r,Pt.b] 9223372036854775808 (bQd (r) (id) ((↑r.length:Int)) ((0:Int)))):T (List C)).eval:=aAj (by kernel_rfl)
theorem bEk (H:List Pt→Nat→St→T (List C)) (r:List (List C)) (nm:List UInt8):(aAk bCu aAc (sg [pSl 100,pS] [rI]) Tryz.f159 H [C.sl r,C.str nm]).eval=((.must (decide (171=171)&&(decide (r.length≤aMj)&&aAp [K.str,K.int .i64] r)) (.ret [C.int .i64 (aCd (ens r) nm)])):T (List C)).eval:=aAj (by kernel_rfl)
theorem bJ5 (H:List Pt→Nat→St→T (List C)) (ns:List (List C)) (es:List (List C)) (os:List (List C)) (ss:List (List C)) (r:Int) (x:Int) (id:Int):(aAk bLa aAc (sg [aB0,pI] [rI]) Tryz.f160 H [C.sl ns,C.sl es,C.sl os,C.sl ss,C.int .i64 r,C.int .i64 x,C.int .i64 id]).eval=((.must (decide (173=173)&&(decide (ns.length≤aMj)&&aAp [K.int .i64,K.str,K.int .i64] ns)) (.ret [C.int .i64 (aAz (nds ns) id)])):T (List C)).eval:=aAj (by kernel_rfl)
theorem bOe (H:List Pt→Nat→St→T (List C)) (r:List (List C)) (nm:List UInt8):(aAk aWd aAc (sg [pSl 100,pS] [rI]) Tryz.f93 H [C.sl r,C.str nm]).eval=((H [Pt.r,Pt.l,Pt.r,Pt.b] 9223372036854775808 (aW6 (r) (nm) ((0:Int)))):T (List C)).eval:=aAj (by kernel_rfl)
theorem bO5 (H:List Pt→Nat→St→T (List C)) (r:List (List C)) (nm:List UInt8):(aAk aWc aAc (sg [pSl 100,pS] [rB]) Tryz.f94 H [C.sl r,C.str nm]).eval=((H [Pt.r,Pt.l,Pt.r,Pt.b] 9223372036854775808 (aW5 (r) (nm) ((0:Int)))):T (List C)).eval:=aAj (by kernel_rfl)
theorem bHp (H:List Pt→Nat→St→T (List C)) (ns:List (List C)) (es:List (List C)) (os:List (List C)) (ss:List (List C)) (r:Int) (x:Int) (id:Int):(aAk aSo aAc (sg [aB0,pI] [rI]) Tryz.f92 H [C.sl ns,C.sl es,C.sl os,C.sl ss,C.int .i64 r,C.int .i64 x,C.int .i64 id]).eval=((H [Pt.r,Pt.l,Pt.r,Pt.b] 9223372036854775808 (aSf (ns) (es) (os) (ss) (r) (x) (id) ((0:Int)))):T (List C)).eval:=aAj (by kernel_rfl)
theorem bJ6 (H:List Pt→Nat→St→T (List C)) (ns:List (List C)) (es:List (List C)) (os:List (List C)) (ss:List (List C)) (r:Int) (x:Int) (nm:List UInt8):(aAk bLb aAc (sg [aB0,pS] [rI]) Tryz.f146 H [C.sl ns,C.sl es,C.sl os,C.sl ss,C.int .i64 r,C.int .i64 x,C.str nm]).eval=((.must (decide (es.length≤aMj)&&aAp [K.str,K.int .i64] es) (.ask (decide (aCd (ens es) nm<(0:Int))) (.ret [C.int .i64 (-1)]) (.must (decide ((0:Int)≤aCd (ens es) nm)&&decide (aCd (ens es) nm<(↑es.length:Int))&&decide ((es.getD (aCd (ens es) nm).toNat []).length=2)) (.must (decide (0+1<(es.getD (aCd (ens es) nm).toNat []).length)&&C.is (K.int .i64) ((es.getD (aCd (ens es) nm).toNat []).getD (0+1) (C.fn 0 []))&&true) (.must (decide (ns.length≤aMj)&&aAp [K.int .i64,K.str,K.int .i64] ns) (.ret [C.int .i64 (aAz (nds ns) ((es.getD (aCd (ens es) nm).toNat []).getD (0+1) (C.fn 0 [])).toInt)])))))):T (List C)).eval:=aAj (by kernel_rfl)
theorem bHr (H:List Pt→Nat→St→T (List C)) (ns:List (List C)) (es:List (List C)) (os:List (List C)) (ss:List (List C)) (r:Int) (x:Int) (nm:List UInt8):(aAk bL1 aAc (sg [aB0,pS] [bSa,rB]) Tryz.f68 H [C.sl ns,C.sl es,C.sl os,C.sl ss,C.int .i64 r,C.int .i64 x,C.str nm]).eval=((.must (decide (es.length≤aMj)&&aAp [K.str,K.int .i64] es) (.must (decide (ns.length≤aMj)&&aAp [K.int .i64,K.str,K.int .i64] ns) (.ask (decide (aAz (nds ns) (aBb (ens es) nm)<(0:Int))) (.ret [C.int .i64 0,C.str [],C.int .i64 0,C.bool false]) (.must (decide (es.length≤aMj)&&aAp [K.str,K.int .i64] es) (.ask (aGz (ens es) nm) (.must (decide ((0:Int)≤aAz (nds ns) (aBb (ens es) nm))&&decide (aAz (nds ns) (aBb (ens es) nm)<(↑ns.length:Int))&&decide ((ns.getD (aAz (nds ns) (aBb (ens es) nm)).toNat []).length=3)) (.must (decide (0<(ns.getD (aAz (nds ns) (aBb (ens es) nm)).toNat []).length)&&C.is (K.int .i64) ((ns.getD (aAz (nds ns) (aBb (ens es) nm)).toNat []).getD 0 (C.fn 0 []))&&(decide (0+1<(ns.getD (aAz (nds ns) (aBb (ens es) nm)).toNat []).length)&&C.is K.str ((ns.getD (aAz (nds ns) (aBb (ens es) nm)).toNat []).getD (0+1) (C.fn 0 []))&&(decide (0+1+1<(ns.getD (aAz (nds ns) (aBb (ens es) nm)).toNat []).length)&&C.is (K.int .i64) ((ns.getD (aAz (nds ns) (aBb (ens es) nm)).toNat []).getD (0+1+1) (C.fn 0 []))&&true))) (.ret [C.int .i64 ((ns.getD (aAz (nds ns) (aBb (ens es) nm)).toNat []).getD 0 (C.fn 0 [])).toInt,C.str ((ns.getD (aAz (nds ns) (aBb (ens es) nm)).toNat []).getD (0+1) (C.fn 0 [])).toStr,C.int .i64 ((ns.getD (aAz (nds ns) (aBb (ens es) nm)).toNat []).getD (0+1+1) (C.fn 0 [])).toInt,C.bool true]))) (.ret [C.int .i64 0,C.str [],C.int .i64 0,C.bool false])))))):T (List C)).eval:=aAj (by kernel_rfl)
theorem bJs (H:List Pt→Nat→St→T (List C)) (ns:List (List C)) (es:List (List C)) (os:List (List C)) (ss:List (List C)) (r:Int) (x:Int) (nm:List UInt8):(aAk bLe aAc (sg [aB0,pS] [bSa,rB]) Tryz.f114 H [C.sl ns,C.sl es,C.sl os,C.sl ss,C.int .i64 r,C.int .i64 x,C.str nm]).eval=((.must (bGu ns es) (.ask (decide (aEe (nds ns) (ens es) nm<(0:Int))) (.ret [C.int .i64 0,C.str [],C.int .i64 0,C.bool false]) (.must (decide ((0:Int)≤aEe (nds ns) (ens es) nm)&&decide (aEe (nds ns) (ens es) nm<(↑ns.length:Int))&&decide ((ns.getD (aEe (nds ns) (ens es) nm).toNat []).length=3)) (.must (decide (0<(ns.getD (aEe (nds ns) (ens es) nm).toNat []).length)&&C.is (K.int .i64) ((ns.getD (aEe (nds ns) (ens es) nm).toNat []).getD 0 (C.fn 0 []))&&(decide (0+1<(ns.getD (aEe (nds ns) (ens es) nm).toNat []).length)&&C.is K.str ((ns.getD (aEe (nds ns) (ens es) nm).toNat []).getD (0+1) (C.fn 0 []))&&(decide (0+1+1<(ns.getD (aEe (nds ns) (ens es) nm).toNat []).length)&&C.is (K.int .i64) ((ns.getD (aEe (nds ns) (ens es) nm).toNat []).getD (0+1+1) (C.fn 0 []))&&true))) (.ret [C.int .i64 ((ns.getD (aEe (nds ns) (ens es) nm).toNat []).getD 0 (C.fn 0 [])).toInt,C.str ((ns.getD (aEe (nds ns) (ens es) nm).toNat []).getD (0+1) (C.fn 0 [])).toStr,C.int .i64 ((ns.getD (aEe (nds ns) (ens es) nm).toNat []).getD (0+1+1) (C.fn 0 [])).toInt,C.bool true]))))):T (List C)).eval:=aAj (by kernel_rfl)
theorem bA8 (H:List Pt→Nat→St→T (List C)) (ns:List (List C)) (es:List (List C)) (os:List (List C)) (ss:List (List C)) (r:Int) (x:Int) (nm:List UInt8):(aAk aZj aAc (sg [aB0,pS] [rS,rB]) Tryz.f52 H [C.sl ns,C.sl es,C.sl os,C.sl ss,C.int .i64 r,C.int .i64 x,C.str nm]).eval=((.must (bGu ns es) (.ask (bK2 (nds ns) (ens es) nm) (.ret [C.str (aJp (nds ns) (ens es) nm),C.bool true]) (.ret [C.str (aJp (nds ns) (ens es) nm),C.bool false]))):T (List C)).eval:=aAj (by kernel_rfl)
theorem bB2 (H:List Pt→Nat→St→T (List C)) (ns:List (List C)) (es:List (List C)) (os:List (List C)) (ss:List (List C)) (r:Int) (x:Int) (nm:List UInt8):(aAk aZp aAc (sg [aB0,pS] [rS,rB]) Tryz.f79 H [C.sl ns,C.sl es,C.sl os,C.sl ss,C.int .i64 r,C.int .i64 x,C.str nm]).eval=((.must (bGu ns es) (.ask (bK2 (nds ns) (ens es) nm) (.ret [C.str (aJp (nds ns) (ens es) nm),C.bool true]) (.ret [C.str (aJp (nds ns) (ens es) nm),C.bool false]))):T (List C)).eval:=aAj (by kernel_rfl)
theorem bHe (H:List Pt→Nat→St→T (List C)) (ns:List (List C)) (es:List (List C)) (os:List (List C)) (ss:List (List C)) (r:Int) (x:Int) (b:Int):(aAk bKy aAc (sg [aB0,pI] [rS]) Tryz.f35 H [C.sl ns,C.sl es,C.sl os,C.sl ss,C.int .i64 r,C.int .i64 x,C.int .i64 b]).eval=((.must (bGu ns es) (.ask (bK2 (nds ns) (ens es) (aAo b)) (.ret [C.str (aJp (nds ns) (ens es) (aAo b))]) (.ret [C.str (aJp (nds ns) (ens es) (aAo b))]))):T (List C)).eval:=aAj (by kernel_rfl)
theorem bJp (H:List Pt→Nat→St→T (List C)) (ns:List (List C)) (es:List (List C)) (os:List (List C)) (ss:List (List C)) (r:Int) (x:Int) (b:Int):(aAk bLd aAc (sg [aB0,pI] [rS]) Tryz.f60 H [C.sl ns,C.sl es,C.sl os,C.sl ss,C.int .i64 r,C.int .i64 x,C.int .i64 b]).eval=((.must (bGu ns es) (.ask (bK2 (nds ns) (ens es) (aAo b)) (.ret [C.str (aJp (nds ns) (ens es) (aAo b))]) (.ret [C.str (aJp (nds ns) (ens es) (aAo b))]))):T (List C)).eval:=aAj (by kernel_rfl)
theorem bNi (H:List Pt→Nat→St→T (List C)) (r:List (List C)) (nm:List UInt8) (n:Int) (i:Int) (k:Nat):(aBl bQl aAc (sg [pSl 100,pF] [rI]) Tryz.f170 H [Pt.r,Pt.l,Pt.r,Pt.b] k (bQe r nm n i)).eval=((.ask (decide (i<n)) (.must (decide ((0:Int)≤i)&&decide (i<(↑r.length:Int))&&decide ((r.getD i.toNat []).length=2)) (.must (decide (0<(r.getD i.toNat []).length)&&C.is K.str ((r.getD i.toNat []).getD 0 (C.fn 0 []))&&(decide (0+1<(r.getD i.toNat []).length)&&C.is (K.int .i64) ((r.getD i.toNat []).getD (0+1) (C.fn 0 []))&&true)) (.ask (decide (((r.getD i.toNat []).getD 0 (C.fn 0 [])).toStr=nm)) (.ret [C.int .i64 i]) (H [Pt.r,Pt.l,Pt.r,Pt.b] k (bQe (r) (nm) (n) (IntKind.i64.wrap (i+(1:Int)))))))) (.ret [C.int .i64 (-1)])):T (List C)).eval:=aAj (by kernel_rfl)
theorem bNh (H:List Pt→Nat→St→T (List C)) (r:List (List C)) (id:Int) (n:Int) (i:Int) (k:Nat):(aBl bQk aAc (sg [pSl 94,pF] [rI]) Tryz.f172 H [Pt.r,Pt.l,Pt.r,Pt.b] k (bQd r id n i)).eval=((.ask (decide (i<n)) (.must (decide ((0:Int)≤i)&&decide (i<(↑r.length:Int))&&decide ((r.getD i.toNat []).length=3)) (.must (decide (0<(r.getD i.toNat []).length)&&C.is (K.int .i64) ((r.getD i.toNat []).getD 0 (C.fn 0 []))&&(decide (0+1<(r.getD i.toNat []).length)&&C.is K.str ((r.getD i.toNat []).getD (0+1) (C.fn 0 []))&&(decide (0+1+1<(r.getD i.toNat []).length)&&C.is (K.int .i64) ((r.getD i.toNat []).getD (0+1+1) (C.fn 0 []))&&true))) (.ask (decide (((r.getD i.toNat []).getD 0 (C.fn 0 [])).toInt=id)) (.ret [C.int .i64 i]) (H [Pt.r,Pt.l,Pt.r,Pt.b] k (bQd (r) (id) (n) (IntKind.i64.wrap (i+(1:Int)))))))) (.ret [C.int .i64 (-1)])):T (List C)).eval:=aAj (by kernel_rfl)
theorem bG8 (H:List Pt→Nat→St→T (List C)) (r:List (List C)) (nm:List UInt8) (i:Int) (k:Nat):(aBl aWd aAc (sg [pSl 100,pS] [rI]) Tryz.f93 H [Pt.r,Pt.l,Pt.r,Pt.b] k (aW6 r nm i)).eval=((.ask (decide (i<(↑r.length:Int))) (.must (decide ((0:Int)≤i)&&decide (i<(↑r.length:Int))&&decide ((r.getD i.toNat []).length=2)) (.must (decide (0+0<(r.getD i.toNat []).length)&&C.is K.str ((r.getD i.toNat []).getD (0+0) (C.fn 0 []))&&true) (.ask (((r.getD i.toNat []).getD (0+0) (C.fn 0 [])).toStr==nm) (.must (decide ((0:Int)≤i)&&decide (i<(↑r.length:Int))&&decide ((r.getD i.toNat []).length=2)) (.must (decide (0+1<(r.getD i.toNat []).length)&&C.is (K.int .i64) ((r.getD i.toNat []).getD (0+1) (C.fn 0 []))&&true) (.ret [C.int .i64 ((r.getD i.toNat []).getD (0+1) (C.fn 0 [])).toInt]))) (H [Pt.r,Pt.l,Pt.r,Pt.b] k (aW6 (r) (nm) (IntKind.i64.wrap (i+(1:Int)))))))) (.ret [C.int .i64 0])):T (List C)).eval:=aAj (by kernel_rfl)
theorem bFu (H:List Pt→Nat→St→T (List C)) (r:List (List C)) (nm:List UInt8) (i:Int) (k:Nat):(aBl aWc aAc (sg [pSl 100,pS] [rB]) Tryz.f94 H [Pt.r,Pt.l,Pt.r,Pt.b] k (aW5 r nm i)).eval=((.ask (decide (i<(↑r.length:Int))) (.must (decide ((0:Int)≤i)&&decide (i<(↑r.length:Int))&&decide ((r.getD i.toNat []).length=2)) (.must (decide (0+0<(r.getD i.toNat []).length)&&C.is K.str ((r.getD i.toNat []).getD (0+0) (C.fn 0 []))&&true) (.ask (((r.getD i.toNat []).getD (0+0) (C.fn 0 [])).toStr==nm) (.ret [C.bool true]) (H [Pt.r,Pt.l,Pt.r,Pt.b] k (aW5 (r) (nm) (IntKind.i64.wrap (i+(1:Int)))))))) (.ret [C.bool false])):T (List C)).eval:=aAj (by kernel_rfl)
theorem bAb (H:List Pt→Nat→St→T (List C)) (ns:List (List C)) (es:List (List C)) (os:List (List C)) (ss:List (List C)) (r:Int) (x:Int) (id:Int) (i:Int) (k:Nat):(aBl aSo aAc (sg [aB0,pI] [rI]) Tryz.f92 H [Pt.r,Pt.l,Pt.r,Pt.b] k (aSf ns es os ss r x id i)).eval=((.ask (decide (i<(↑ns.length:Int))) (.must (decide ((0:Int)≤i)&&decide (i<(↑ns.length:Int))&&decide ((ns.getD i.toNat []).length=3)) (.must (decide (0+0<(ns.getD i.toNat []).length)&&C.is (K.int .i64) ((ns.getD i.toNat []).getD (0+0) (C.fn 0 []))&&true) (.ask (decide (((ns.getD i.toNat []).getD (0+0) (C.fn 0 [])).toInt=id)) (.ret [C.int .i64 i]) (H [Pt.r,Pt.l,Pt.r,Pt.b] k (aSf (ns) (es) (os) (ss) (r) (x) (id) (IntKind.i64.wrap (i+(1:Int)))))))) (.ret [C.int .i64 (-1)])):T (List C)).eval:=aAj (by kernel_rfl)
end Go.Proofs.YtajoeindkdhofaaGreatDoor.V
