/- Functions of the given program and of its reference: what each returns, as an equation over data; by the interpreter. -/
import Derived.Test.YtfljomghcbaepaaGreatDoorVG
import Derived.Test.YtfljomghcbaepaaGreatDoorProg
import Derived.KernelRfl
import Derived.Lib.Builder
import Derived.Lib.AppendStr
import Derived.Lib.UnsafeStr
import Derived.Lib.Walk
import Derived.WalkKit
import Derived.RegionTactic
import Derived.Lib.Strings
import Derived.Lib.BufferWrite
import Derived.Laws.MakeOwn
set_option linter.unusedVariables false
set_option linter.unusedSimpArgs false
set_option linter.unusedSectionVars false
set_option linter.deprecated false
namespace Go.Proofs.YtfljomghcbaepaaGreatDoor.V
noncomputable section
def bXw:List (TypeId×TI):=[(2,⟨false,[.int .i64],[],8,false⟩),
 (3,⟨false,[.int .i64],[],8,false⟩),
 (4,⟨false,[.bool],[],1,false⟩),
 (5,⟨false,[.int .u8],[],1,false⟩),
 (6,⟨false,[.int .u8],[],1,false⟩),
 (7,⟨true,[.int .i64,.int .i64,.bool,.int .u8],[(0,2),(1,3),(2,4),(3,6)],24,false⟩),
 (8,⟨true,[.int .i64,.int .i64,.bool,.int .u8],[(0,2),(1,3),(2,4),(3,6)],24,false⟩),
 (9,⟨false,[.str],[],16,false⟩),
 (10,⟨false,[.str],[],16,false⟩),
 (11,⟨false,[.str],[],16,false⟩),
 (12,⟨false,[.int .u64],[],8,false⟩),
 (13,⟨true,[.str,.int .u64],[(0,9),(1,12)],24,false⟩),
 (14,⟨true,[.str,.int .u64],[(0,9),(1,12)],24,false⟩),
 (20,⟨false,[.err],[],16,false⟩),
 (21,⟨false,[.int .i32],[],4,false⟩),
 (22,⟨false,[.slice 92],[],24,false⟩),
 (23,⟨false,[.slice 95],[],24,false⟩),
 (24,⟨false,[.slice 9],[],24,false⟩),
 (25,⟨true,[.slice 92,.slice 95,.slice 95,.slice 9,.int .i64,.int .i64],[(0,22),(1,23),(2,23),(3,24),(4,3),(5,3)],112,false⟩),
 (26,⟨true,[.slice 92,.slice 95,.slice 95,.slice 9,.int .i64,.int .i64],[(0,22),(1,23),(2,23),(3,24),(4,3),(5,3)],112,false⟩),
 (29,⟨false,[.slice 70],[],24,false⟩),
 (30,⟨false,[.slice 97],[],24,false⟩),
 (31,⟨true,[.slice 70,.slice 97,.slice 97,.slice 9,.int .i64,.int .i64],[(0,29),(1,30),(2,30),(3,24),(4,3),(5,3)],112,false⟩),
 (32,⟨true,[.slice 70,.slice 97,.slice 97,.slice 9,.int .i64,.int .i64],[(0,29),(1,30),(2,30),(3,24),(4,3),(5,3)],112,false⟩),
 (36,⟨false,[.slice 3],[],24,false⟩),
 (37,⟨true,[.int .i64,.int .i64,.int .i64,.int .i64,.int .i64,.slice 3,.int .i64,.bool,.int .i64],[(0,3),(1,3),(2,3),(3,3),(4,3),(5,36),(6,3),(7,4),(8,3)],88,false⟩),
 (38,⟨true,[.int .i64,.int .i64,.int .i64,.int .i64,.int .i64,.slice 3,.int .i64,.bool,.int .i64],[(0,3),(1,3),(2,3),(3,3),(4,3),(5,36),(6,3),(7,4),(8,3)],88,false⟩),
 (44,⟨false,[.slice 58],[],24,false⟩),
 (57,⟨true,[.int .i64,.str,.str,.str],[(0,3),(1,9),(2,9),(3,9)],56,false⟩),
 (58,⟨true,[.int .i64,.str,.str,.str],[(0,3),(1,9),(2,9),(3,9)],56,true⟩),
 (69,⟨true,[.int .i64,.str,.int .i64],[(0,3),(1,9),(2,3)],32,false⟩),
 (70,⟨true,[.int .i64,.str,.int .i64],[(0,3),(1,9),(2,3)],32,true⟩),
 (79,⟨false,[.slice 86],[],24,false⟩),
 (81,⟨true,[.int .i64,.int .i64,.int .i64,.int .i64],[(0,3),(1,3),(2,3),(3,3)],32,false⟩),
 (82,⟨true,[.int .i64,.int .i64,.int .i64,.int .i64],[(0,3),(1,3),(2,3),(3,3)],32,true⟩),
 (83,⟨true,[.bool,.int .i64,.int .i64,.int .i64,.int .i64,.slice 9,.slice 3,.int .i64,.bool],[(0,4),(1,82),(5,24),(6,36),(7,3),(8,4)],104,false⟩),
 (84,⟨true,[.bool,.int .i64,.int .i64,.int .i64,.int .i64,.slice 9,.slice 3,.int .i64,.bool],[(0,4),(1,82),(5,24),(6,36),(7,3),(8,4)],104,false⟩),
 (85,⟨true,[.int .i64,.str,.bool,.int .i64,.int .i64,.int .i64,.int .i64,.slice 9,.slice 3,.int .i64,.bool],[(0,3),(1,9),(2,84)],128,false⟩),
 (86,⟨true,[.int .i64,.str,.bool,.int .i64,.int .i64,.int .i64,.int .i64,.slice 9,.slice 3,.int .i64,.bool],[(0,3),(1,9),(2,84)],128,false⟩),
 (92,⟨true,[.int .i64,.str,.int .i64],[(0,3),(1,9),(2,3)],32,true⟩),
 (94,⟨true,[.str,.int .i64],[(0,9),(1,3)],24,false⟩),
 (95,⟨true,[.str,.int .i64],[(0,9),(1,3)],24,true⟩),
 (97,⟨true,[.str,.int .i64],[(0,9),(1,3)],24,true⟩),
 (101,⟨false,[.slice 126],[],24,false⟩),
 (107,⟨false,[.slice 5],[],24,false⟩),
 (108,⟨false,[.int .u64],[],8,false⟩),
 (120,⟨false,[.int .u64],[],8,false⟩),
 (121,⟨false,[.err],[],16,false⟩),
 (122,⟨false,[.err],[],16,false⟩),
 (125,⟨true,[.str,.int .i64],[(0,9),(1,3)],24,false⟩),
 (126,⟨true,[.str,.int .i64],[(0,9),(1,3)],24,true⟩),
 (161,⟨false,[.slice 187],[],24,false⟩),
 (174,⟨false,[.int .u32],[],4,false⟩),
 (180,⟨false,[.int .i64],[],8,false⟩),
 (182,⟨false,[.ptr],[],8,false⟩),
 (186,⟨true,[.int .i64,.int .i64],[(0,3),(1,3)],16,false⟩),
 (187,⟨true,[.int .i64,.int .i64],[(0,3),(1,3)],16,true⟩),
 (197,⟨true,[.str,.str,.err],[(0,9),(1,9),(2,122)],48,false⟩),
 (198,⟨true,[.str,.str,.err],[(0,9),(1,9),(2,122)],48,false⟩),
 (202,⟨true,[.str],[(0,9)],16,false⟩),
 (203,⟨true,[.str],[(0,9)],16,false⟩),
 (211,⟨false,[.int .u8],[],1,false⟩),
 (212,⟨false,[.int .u8],[],1,false⟩),
 (214,⟨false,[.int .i32],[],4,false⟩),
 (215,⟨false,[.int .i32],[],4,false⟩)]
def bXf:List (TypeId×Nat×TypeId):=[(169,24,5),(190,20,120),(191,65,5),(204,32,5),(205,64,5)]
def cA9 : List (Nat × String) := [(0, "internal/strconv.uint64pow10"), (1, "strconv.ErrSyntax"), (2, "strconv.ErrRange"), (4, "math/bits.deBruijn32tab"), (5, "math/bits.deBruijn64tab")]
abbrev Laws:=List (FuncId×Sig×aC0)
def mkE (lv:List (Nat×List Nat)) (gs:Laws):Env:={Ty:=bZi bXw,Γ:=fun g=>gs.lookup g,inl:=fun _=>none,lv:=fun h=>(lv.lookup h).getD [],ren:=true,fuel:=9223372036854775808,nt:=0,Arr:=fun t=>bXf.lookup t,gl:=cBc cA9}
abbrev pI:PTy:=.val false [.int .i64]
abbrev pU8:PTy:=.val false [.int .u8]
abbrev bZu:PTy:=.val false [.int .u32]
abbrev pS:PTy:=.val false [.str]
abbrev pB:PTy:=.val false [.bool]
abbrev rI:RTy:=⟨false,[(.int .i64,false)]⟩
abbrev rU8:RTy:=⟨false,[(.int .u8,false)]⟩
abbrev bZr:RTy:=⟨false,[(.int .u32,false)]⟩
abbrev rB:RTy:=⟨false,[(.bool,false)]⟩
abbrev rS:RTy:=⟨false,[(.str,false)]⟩
abbrev sg (ps:List PTy) (rs:List RTy):Sig:=⟨ps,rs,false⟩
abbrev aB0 (n:Int):W:=.l (.i .i64 n)
abbrev bEe (s:List UInt8):W:=.l (.s s)
abbrev st0 (slots:List (Nat×W)):St:={slots,heap:=[],next:=0,pins:=[]}
abbrev st1 (slots:List (Nat×W)) (sz:Nat) (rows:List (List C)):St:={slots,heap:=[(0,.arr sz rows)],next:=1,pins:=[]}
theorem aSw:(bXw.all fun p=>tyB Tryz.prog p.1 p.2)=true:=by kernel_rfl
theorem aWn:bTu Tryz.prog bXw bXf=true:=by kernel_rfl
theorem bDe:glB Tryz.prog cA9=true:=by kernel_rfl
theorem aA5 {lv:List (Nat×List Nat)} {gs:Laws} (h:∀ p,p∈gs→aAm Tryz.prog p.1 p.2.1 p.2.2):aA6 Tryz.prog (mkE lv gs) :=
 ⟨⟨(bMa aSw).1,fun g fn h=>(by cases h),fun t m e te h1 h2=>bM1 aWn t m e te h1 h2,bSy bDe,fun t e h=>by cases h⟩,fun g sig spec hl=>h (g,sig,spec) (aEv hl),fun g fn h=>(by cases h),by kernel_rfl⟩
def E0:Env:=mkE [] []
theorem bWy:aA6 Tryz.prog E0:=aA5 (by simp)
end
noncomputable section
def aAi (ks:List K) (rows:List (List C)):Bool:=rows.all fun r=>aB7 r ks
abbrev aEf (n:Int):List C:=[.int .i64 n]
def bRh (r:List C):Int:=(r.getD 0 (.fn 0 [])).toInt
def aCp (rows:List (List C)):List Int:=rows.map bRh
abbrev aBf (s:List UInt8):List C:=[.str s]
def bMj (r:List C):List UInt8:=(r.getD 0 (.fn 0 [])).toStr
def aGh (rows:List (List C)):List (List UInt8):=rows.map bMj
abbrev pSl (t:TypeId):PTy:=.val false [.slice t]
abbrev rSl (t:TypeId):RTy:=⟨false,[(.slice t,true)]⟩
end
theorem bY2 {r:List C} (h:aB7 r [.int .i64]=true):r=aEf (bRh r):=by
 cases r with
 |nil=>simp[aB7]at h
 |cons c r =>
  cases r with
  |cons d r=>simp[aB7]at h
  |nil =>
   cases c with
   |int k n=>simp[aB7,C.is]at h;subst h;rfl
   |_=>simp[aB7,C.is]at h
theorem bRg {r:List C} (h:aB7 r [.str]=true):r=aBf (bMj r):=by
 cases r with
 |nil=>simp[aB7]at h
 |cons c r =>
  cases r with
  |cons d r=>simp[aB7]at h
  |nil =>
   cases c with
   |str s=>rfl
   |_=>simp[aB7,C.is]at h
theorem aG9 {rows:List (List C)} (h:aAi [.int .i64] rows=true):rows=(aCp rows).map aEf:=by
 simp only[aAi,List.all_eq_true]at h
 simp only[aCp,List.map_map]
 rw[List.map_congr_left (g:=id)]
 ·simp
 ·intro r hr;exact (bY2 (h r hr)).symm
theorem aDs {rows:List (List C)} (h:aAi [.str] rows=true):rows=(aGh rows).map aBf:=by
 simp only[aAi,List.all_eq_true]at h
 simp only[aGh,List.map_map]
 rw[List.map_congr_left (g:=id)]
 ·simp
 ·intro r hr;exact (bRg (h r hr)).symm
@[simp] theorem aT0 (l:List Int):aCp (l.map aEf)=l:=by simp[aCp,bRh,Function.comp_def,C.toInt]
@[simp] theorem aLw (l:List (List UInt8)):aGh (l.map aBf)=l:=by simp[aGh,bMj,Function.comp_def,C.toStr]
@[simp] theorem aJc (l:List Int):aAi [.int .i64] (l.map aEf)=true:=by simp[aAi,aB7,C.is]
@[simp] theorem aJb (l:List (List UInt8)):aAi [.str] (l.map aBf)=true:=by simp[aAi,aB7,C.is]
theorem aW8 (l:List Int):((l.map aEf).all fun r=>r.all C.flat)=true:=by simp[C.flat]
theorem aGf (l:List (List UInt8)):((l.map aBf).all fun r=>r.all C.flat)=true:=by simp[C.flat]
theorem aB1 {A:Type} (e:A→List C) (l:List A) (d:A) (i:Nat) (h:i<l.length):(l.map e).getD i []=e (l.getD i d):=by
 simp[List.getD_eq_getElem?_getD,h]
theorem bE0 {A:Type} (l:List A) (z:A) (d:A) (i:Nat) (h:i<l.length):(l.take i++List.replicate (l.length-i) z).set i (l.getD i d)=l.take (i+1)++List.replicate (l.length-(i+1)) z:=by
 have hlen:(l.take i).length=i:=by simp;omega
 rw[List.set_append_right _ _ (by omega),hlen,Nat.sub_self]
 obtain⟨m,hm⟩:∃ m,l.length-i=m+1:=⟨l.length-i-1,by omega⟩
 have hm2:l.length-(i+1)=m:=by omega
 rw[hm,hm2,List.replicate_succ,List.set_cons_zero,List.take_succ_eq_append_getElem h,List.append_assoc]
 simp[List.getD_eq_getElem?_getD,h]
theorem aWa {E:Env} {x:C} (h:Fit E (.int .i64) x):∃ n,x=.int .i64 n∧ -9223372036854775808≤n∧n≤9223372036854775807:=by
 cases h with
 |int a b=>exact⟨_,rfl,a,b⟩
theorem bMy {E:Env} {e:TypeId} {x:C} (h:Fit E (.slice e) x):∃ rows,x=.sl rows∧∀ te,E.Ty e=some te→1≤te.bytes→rows.length≤140737488351232∧aAi te.leaves rows=true:=by
 cases h with
 |@sl _ te rows h1 h2 h3 h4 =>
  refine⟨rows,rfl,fun te' ht hb=>?_⟩
  rw[h1]at ht
  obtain rfl:=Option.some.inj ht
  refine⟨Nat.le_trans (Nat.le_mul_of_pos_right _ hb) h2,?_⟩
  simp only[aAi,List.all_eq_true]
  intro r hr
  exact aKi.kinds (E:=E) ⟨h3 r hr,fun j kd y hj hy=>h4 r hr j kd y hj hy⟩
theorem aGn (l:List UInt8) (j:Nat):(l.getD j 0).toNat<256:=(l.getD j 0).toNat_lt
theorem aBq {A:Type} (l:List A) (i:Nat) (d:A) (hi:i<l.length):l.drop i=l.getD i d::l.drop (i+1):=by
 rw[List.drop_eq_getElem_cons hi];simp[List.getD_eq_getElem?_getD,hi]
theorem aFq (l:List UInt8) (v:Nat) (h:v<256):(aAa l).append [[C.int .u8 (v:Int)]]=aAa (l++[UInt8.ofNat v]):=by
 have:=bMi (v:Int) (by omega) (by omega)
 rw[Int.toNat_natCast]at this
 rw[this,List.append_eq,aG1]
noncomputable section
def inB (n lo hi:Int):Bool:=decide (lo≤n)&&decide (n≤hi)
def aE0:aC0:=fun cs=>match cs with
 |[.int .i64 n,.int .i64 lo,.int .i64 hi]=>some (true,[.bool (inB n lo hi)])
 |_=>none
def cAn:Env:=mkE [] []
def cAp:Env:=mkE [] []
def aEd:aC0:=fun cs=>match cs with
 |[.int .i64 n]=>some (true,[.bool (inB n 1 2)])
 |_=>none
def aS5:Env:=mkE [] []
def aAy (v s r:Int):Bool:=inB v 1 2&&inB s 1 20&&inB r 1 50
def sel (b:Bool) (x:Int):Int:=if b then x else 0
def aE3:aC0:=fun cs=>match cs with
 |[.int .i64 v,.int .i64 s,.int .i64 r]=>some (true,[.int .i64 (sel (aAy v s r) v),.int .i64 (sel (aAy v s r) s),.int .i64 (sel (aAy v s r) r),.int .i64 0,.int .i64 0,.sl [],.int .i64 0,.bool false,.int .i64 0,.bool (aAy v s r)])
 |_=>none
def aGm:RTy:=⟨true,[(.int .i64,false),(.int .i64,false),(.int .i64,false),(.int .i64,false),(.int .i64,false),(.slice 36,true),(.int .i64,false),(.bool,false),(.int .i64,false)]⟩
def aRx:Env:=mkE [] [(53,(sg [pI,pI,pI] [rB]),aE0)]
def aS3:Env:=mkE [] [(78,(sg [pI,pI,pI] [rB]),aE0),(63,(sg [pI] [rB]),aEd)]
end
set_option maxRecDepth 100000
theorem bUs (H:List Pt→Nat→St→T (List C)) (n:Int) (a:Int) (b:Int):aAe cAn aAb (sg [pI,pI,pI] [rB]) Tryz.f53 H [C.int .i64 n,C.int .i64 a,C.int .i64 b]=(.must true (.ask (decide (a≤n)) (.ask (decide (n≤b)) (.must true (.ret [C.bool true])) (.must true (.ret [C.bool false]))) (.must true (.ret [C.bool false])))):=by kernel_rfl
theorem bW1 (H:List Pt→Nat→St→T (List C)) (n:Int) (a:Int) (b:Int):aAe cAp aAb (sg [pI,pI,pI] [rB]) Tryz.f78 H [C.int .i64 n,C.int .i64 a,C.int .i64 b]=(.must true (.ask (decide (a≤n)) (.ask (decide (n≤b)) (.must true (.ret [C.bool true])) (.must true (.ret [C.bool false]))) (.must true (.ret [C.bool false])))):=by kernel_rfl
theorem aVy (H:List Pt→Nat→St→T (List C)) (n:Int):aAe aS5 aAb (sg [pI] [rB]) Tryz.f63 H [C.int .i64 n]=(.must true (.ask (decide (n=(1:Int))) (.must true (.ret [C.bool true])) (.ask (decide (n=(2:Int))) (.must true (.ret [C.bool true])) (.must true (.ret [C.bool false]))))):=by kernel_rfl
theorem aUf (H:List Pt→Nat→St→T (List C)) (n:Int) (a:Int) (b:Int):aAe aRx aAb (sg [pI,pI,pI] [aGm,rB]) Tryz.f34 H [C.int .i64 n,C.int .i64 a,C.int .i64 b]=(.must true (.must true (.must true (.must true (.ask (inB n 1 2) (.must true (.must true (.must true (.ask (inB a 1 20) (.must true (.must true (.must true (.ask (inB b 1 50) (.must true (.ret [C.int .i64 n,C.int .i64 a,C.int .i64 b,C.int .i64 0,C.int .i64 0,C.sl [],C.int .i64 0,C.bool false,C.int .i64 0,C.bool true])) (.must true (.ret [C.int .i64 0,C.int .i64 0,C.int .i64 0,C.int .i64 0,C.int .i64 0,C.sl [],C.int .i64 0,C.bool false,C.int .i64 0,C.bool false])))))) (.must true (.ret [C.int .i64 0,C.int .i64 0,C.int .i64 0,C.int .i64 0,C.int .i64 0,C.sl [],C.int .i64 0,C.bool false,C.int .i64 0,C.bool false])))))) (.must true (.ret [C.int .i64 0,C.int .i64 0,C.int .i64 0,C.int .i64 0,C.int .i64 0,C.sl [],C.int .i64 0,C.bool false,C.int .i64 0,C.bool false]))))))):=by kernel_rfl
theorem aVl (H:List Pt→Nat→St→T (List C)) (n:Int) (a:Int) (b:Int):aAe aS3 aAb (sg [pI,pI,pI] [aGm,rB]) Tryz.f38 H [C.int .i64 n,C.int .i64 a,C.int .i64 b]=(.must true (.must true (.must true (.must true (.ask (inB n 1 2) (.must true (.must true (.must true (.ask (inB a 1 20) (.must true (.must true (.must true (.ask (inB b 1 50) (.must true (.ret [C.int .i64 n,C.int .i64 a,C.int .i64 b,C.int .i64 0,C.int .i64 0,C.sl [],C.int .i64 0,C.bool false,C.int .i64 0,C.bool true])) (.must true (.ret [C.int .i64 0,C.int .i64 0,C.int .i64 0,C.int .i64 0,C.int .i64 0,C.sl [],C.int .i64 0,C.bool false,C.int .i64 0,C.bool false])))))) (.must true (.ret [C.int .i64 0,C.int .i64 0,C.int .i64 0,C.int .i64 0,C.int .i64 0,C.sl [],C.int .i64 0,C.bool false,C.int .i64 0,C.bool false])))))) (.must true (.ret [C.int .i64 0,C.int .i64 0,C.int .i64 0,C.int .i64 0,C.int .i64 0,C.sl [],C.int .i64 0,C.bool false,C.int .i64 0,C.bool false]))))))):=by kernel_rfl
theorem cAx:aA6 Tryz.prog cAn:=aA5 (by simp[])
theorem aDd:aAm Tryz.prog 53 (sg [pI,pI,pI] [rB]) aE0:=aA3 cAx aA7 Tryz.func53 (by kernel_rfl) fun cs outs hk h=>by
 unfold aE0 at h
 split at h
 ·simp only[Option.some.injEq,Prod.mk.injEq,true_and]at h
  rw[←h,aA9,bUs]
  simp only[aA0,aA2,aA1,decide_eq_true_eq,if_true,inB]
  repeat' split
  all_goals first | rfl | (simp_all;done) | (simp_all;omega)
 ·cases h
theorem cBb:aA6 Tryz.prog cAp:=aA5 (by simp[])
theorem aHg:aAm Tryz.prog 78 (sg [pI,pI,pI] [rB]) aE0:=aA3 cBb aA7 Tryz.func78 (by kernel_rfl) fun cs outs hk h=>by
 unfold aE0 at h
 split at h
 ·simp only[Option.some.injEq,Prod.mk.injEq,true_and]at h
  rw[←h,aA9,bW1]
  simp only[aA0,aA2,aA1,decide_eq_true_eq,if_true,inB]
  repeat' split
  all_goals first | rfl | (simp_all;done) | (simp_all;omega)
 ·cases h
theorem bH2:aA6 Tryz.prog aS5:=aA5 (by simp[])
theorem aEm:aAm Tryz.prog 63 (sg [pI] [rB]) aEd:=aA3 bH2 aA7 Tryz.func63 (by kernel_rfl) fun cs outs hk h=>by
 unfold aEd at h
 split at h
 ·simp only[Option.some.injEq,Prod.mk.injEq,true_and]at h
  rw[←h,aA9,aVy]
  simp only[aA0,aA2,aA1,decide_eq_true_eq,if_true,inB]
  repeat' split
  all_goals first | rfl | (simp_all;done) | (simp;omega)
 ·cases h
theorem bF3:aA6 Tryz.prog aRx:=aA5 (by simp[aDd])
theorem aSc:aAm Tryz.prog 34 (sg [pI,pI,pI] [aGm,rB]) aE3:=aA3 bF3 aA7 Tryz.func34 (by kernel_rfl) fun cs outs hk h=>by
 unfold aE3 at h
 split at h
 ·simp only[Option.some.injEq,Prod.mk.injEq,true_and]at h
  rw[←h,aA9,aUf]
  simp only[aA0,aA2,aA1,if_true,aAy,sel]
  repeat' split
  all_goals first | rfl | simp_all
 ·cases h
theorem bGr:aA6 Tryz.prog aS3:=aA5 (by simp[aHg,aEm])
theorem aSn:aAm Tryz.prog 38 (sg [pI,pI,pI] [aGm,rB]) aE3:=aA3 bGr aA7 Tryz.func38 (by kernel_rfl) fun cs outs hk h=>by
 unfold aE3 at h
 split at h
 ·simp only[Option.some.injEq,Prod.mk.injEq,true_and]at h
  rw[←h,aA9,aVl]
  simp only[aA0,aA2,aA1,if_true,aAy,sel]
  repeat' split
  all_goals first | rfl | simp_all
 ·cases h
noncomputable section
end
theorem bVw (x:Int):aIf .i64 x 1=x % 2:=by
 show IntKind.i64.wrap (((BitVec.ofInt 64 x&&&BitVec.ofInt 64 1).toNat:Nat):Int)=_
 rw[BitVec.toNat_and]
 have h1:(BitVec.ofInt 64 1).toNat=1:=by decide
 have h2:(BitVec.ofInt 64 x).toNat=(x % 18446744073709551616).toNat:=by simp[BitVec.toNat_ofInt]
 rw[h1,h2,Nat.and_one_is_mod,aAh]<;>omega
theorem bVu (x:Int):aKk .i64 x 1=x / 2:=by
 show x.fdiv (2^(min (Int.toNat 1) 64))=_
 rw[Int.fdiv_eq_ediv_of_nonneg]<;>simp
noncomputable section
end
noncomputable section
end
noncomputable section
def aOc (x:Nat):Nat:=if x % 2=1 then (x / 2) ^^^ 2197175160 else x / 2
def aJs:Nat→Nat→Nat
 |0,x=>x
 |n+1,x=>aJs n (aOc x)
def aLm (s b:Nat):Nat:=aJs 8 (s ^^^ b)
def aIn (s:Int):Nat:=(s % 4294967296).toNat
def aLl (x:Nat) (t:List UInt8):Nat:=t.foldl (fun x c=>aLm x c.toNat) x
def aAs (s:Nat) (t:List UInt8):Nat:=aLl (s ^^^ 4294967295) t ^^^ 4294967295
def aNx:aC0:=fun cs=>match cs with
 |[.int .i64 s,.int .i64 b]=>some (true,[.int .i64 (aLm (aIn s) (b % 256).toNat:Nat)])
 |_=>none
def aJ6:aC0:=fun cs=>match cs with
 |[.int .u32 s,.int .u8 b]=>some (decide (0≤s∧s≤4294967295)&&decide (0≤b∧b≤255),[.int .u32 (aLm s.toNat b.toNat:Nat)])
 |_=>none
def aDr:aC0:=fun cs=>match cs with
 |[.int .i64 s,.str t]=>some (decide (t.length≤281474976710656),[.int .i64 (aAs (aIn s) t:Nat)])
 |_=>none
def aDc:aC0:=fun cs=>match cs with
 |[.str t]=>some (decide (t.length≤281474976710656),[.int .i64 (aAs 0 t:Nat)])
 |_=>none
def aIx (x i:Int):St:=st0 [(5,aB0 x),(6,aB0 i)]
def aGg (x i:Int):St:=st0 [(0,.l (.i .u32 x)),(10,aB0 i)]
def aMf (t:List UInt8) (x i:Int):St:=st0 [(1,bEe t),(5,aB0 x),(6,aB0 i)]
def aMl (t:List UInt8) (x n i:Int):St:=st0 [(1,bEe t),(5,.l (.i .u32 x)),(11,aB0 n),(12,aB0 i)]
def aMu:Env:=mkE [(3,[5,6])] []
def aI6:Env:=mkE [(3,[0,10])] []
def aMt:Env:=mkE [(3,[1,5,6])] [(187,(sg [pI,pI] [rI]),aNx)]
def aN1:Env:=mkE [(3,[1,5,11,12])] [(190,(sg [bZu,pU8] [bZr]),aJ6)]
def bNe:Env:=mkE [] [(144,(sg [pI,pS] [rI]),aDr)]
def bNn:Env:=mkE [] [(160,(sg [pI,pS] [rI]),aDr)]
end
theorem bB8 (H:List Pt→Nat→St→T (List C)) (s:Int) (b:Int):aAe aMu aAb (sg [pI,pI] [rI]) Tryz.f187 H [C.int .i64 s,C.int .i64 b]=(.must true (H [Pt.r,Pt.r,Pt.l,Pt.r,Pt.b] 9223372036854775808 (aIx (bEh .i64 (aIf .i64 s 4294967295) (aIf .i64 b 255)) ((0:Int))))):=by kernel_rfl
theorem aVp (H:List Pt→Nat→St→T (List C)) (s:Int) (b:Int):aAe aI6 aAb (sg [bZu,pU8] [bZr]) Tryz.f190 H [C.int .u32 s,C.int .u8 b]=(.must true (H [Pt.r,Pt.r,Pt.l,Pt.r,Pt.b] 9223372036854775808 (aGg (bEh .u32 s (IntKind.u32.wrap b)) ((0:Int))))):=by kernel_rfl
theorem aUj (H:List Pt→Nat→St→T (List C)) (x:Int) (i:Int) (k:Nat):aB3 aMu aAb (sg [pI,pI] [rI]) Tryz.f187 H [Pt.r,Pt.r,Pt.l,Pt.r,Pt.b] k (aIx x i)=(.ask (decide (i<(8:Int))) (.ask (decide (aIf .i64 x 1=(1:Int))) (.must true (H [Pt.r,Pt.r,Pt.l,Pt.r,Pt.b] k (aIx (bEh .i64 (aKk .i64 x 1) 2197175160) (IntKind.i64.wrap (i+(1:Int)))))) (.must true (H [Pt.r,Pt.r,Pt.l,Pt.r,Pt.b] k (aIx (aKk .i64 x 1) (IntKind.i64.wrap (i+(1:Int))))))) (.must true (.ret [C.int .i64 x]))):=by kernel_rfl
theorem aQw (H:List Pt→Nat→St→T (List C)) (x:Int) (i:Int) (k:Nat):aB3 aI6 aAb (sg [bZu,pU8] [bZr]) Tryz.f190 H [Pt.r,Pt.r,Pt.l,Pt.r,Pt.b] k (aGg x i)=(.ask (decide (i<(8:Int))) (.ask (decide (aIf .u32 x 1=(1:Int))) (.must true (H [Pt.r,Pt.r,Pt.l,Pt.r,Pt.b] k (aGg (bEh .u32 (aKk .u32 x 1) 2197175160) (IntKind.i64.wrap (i+(1:Int)))))) (.must true (H [Pt.r,Pt.r,Pt.l,Pt.r,Pt.b] k (aGg (aKk .u32 x 1) (IntKind.i64.wrap (i+(1:Int))))))) (.must true (.ret [C.int .u32 x]))):=by kernel_rfl
theorem aUi (H:List Pt→Nat→St→T (List C)) (t:List UInt8) (x:Int) (i:Int) (k:Nat):aB3 aMt aAb (sg [pI,pS] [rI]) Tryz.f144 H [Pt.r,Pt.r,Pt.l,Pt.r,Pt.b] k (aMf t x i)=(.ask (decide (i<(↑t.length:Int))) (.must (decide ((0:Int)≤i)&&decide (i<(↑t.length:Int))) (.must true (.must true (.must true (H [Pt.r,Pt.r,Pt.l,Pt.r,Pt.b] k (aMf (t) (Int.ofNat (aLm (aIn x) (IntKind.i64.wrap (↑(t.getD i.toNat (0:UInt8)).toNat:Int) % (256:Int)).toNat)) (IntKind.i64.wrap (i+(1:Int))))))))) (.must true (.ret [C.int .i64 (bEh .i64 x 4294967295)]))):=by kernel_rfl
theorem aVo (H:List Pt→Nat→St→T (List C)) (t:List UInt8) (x:Int) (n:Int) (i:Int) (k:Nat):aB3 aN1 aAb (sg [pI,pS] [rI]) Tryz.f160 H [Pt.r,Pt.r,Pt.l,Pt.r,Pt.b] k (aMl t x n i)=(.ask (decide (i<n)) (.must (decide ((0:Int)≤i)&&decide (i<(↑t.length:Int))) (.must true (.must (decide ((0:Int)≤x∧x≤(4294967295:Int))&&decide ((0:Int)≤(↑(t.getD i.toNat (0:UInt8)).toNat:Int)∧(↑(t.getD i.toNat (0:UInt8)).toNat:Int)≤(255:Int))) (.must true (H [Pt.r,Pt.r,Pt.l,Pt.r,Pt.b] k (aMl (t) (Int.ofNat (aLm x.toNat (↑(t.getD i.toNat (0:UInt8)).toNat:Int).toNat)) (n) (IntKind.i64.wrap (i+(1:Int))))))))) (.must true (.ret [C.int .i64 (IntKind.i64.wrap (bEh .u32 x 4294967295))]))):=by kernel_rfl
theorem bB6 (H:List Pt→Nat→St→T (List C)) (s:Int) (t:List UInt8):aAe aMt aAb (sg [pI,pS] [rI]) Tryz.f144 H [C.int .i64 s,C.str t]=(.must true (H [Pt.r,Pt.r,Pt.l,Pt.r,Pt.b] 9223372036854775808 (aMf (t) (bEh .i64 (aIf .i64 s 4294967295) 4294967295) ((0:Int))))):=by kernel_rfl
theorem bCp (H:List Pt→Nat→St→T (List C)) (s:Int) (t:List UInt8):aAe aN1 aAb (sg [pI,pS] [rI]) Tryz.f160 H [C.int .i64 s,C.str t]=(.must true (H [Pt.r,Pt.r,Pt.l,Pt.r,Pt.b] 9223372036854775808 (aMl (t) (bEh .u32 (IntKind.u32.wrap s) 4294967295) ((↑t.length:Int)) ((0:Int))))):=by kernel_rfl
theorem bJ7 (H:List Pt→Nat→St→T (List C)) (t:List UInt8):aAe bNe aAb (sg [pS] [rI]) Tryz.f151 H [C.str t]=(.must true (.must true (.must (decide (t.length≤281474976710656)) (.must true (.must true (.ret [C.int .i64 (Int.ofNat (aAs (aIn 0) t))])))))):=by kernel_rfl
theorem bKu (H:List Pt→Nat→St→T (List C)) (t:List UInt8):aAe bNn aAb (sg [pS] [rI]) Tryz.f181 H [C.str t]=(.must true (.must true (.must (decide (t.length≤281474976710656)) (.must true (.must true (.ret [C.int .i64 (Int.ofNat (aAs (aIn 0) t))])))))):=by kernel_rfl
theorem bXb (s:Int):aIf .i64 s 4294967295=(aIn s:Int):=by
 show IntKind.i64.wrap (((BitVec.ofInt 64 s&&&BitVec.ofInt 64 4294967295).toNat:Nat):Int)=_
 rw[BitVec.toNat_and]
 have h1:(BitVec.ofInt 64 4294967295).toNat=2^32-1:=by decide
 have h2:(BitVec.ofInt 64 s).toNat=(s % 18446744073709551616).toNat:=by simp[BitVec.toNat_ofInt]
 rw[h1,h2,Nat.and_two_pow_sub_one_eq_mod]
 unfold aIn
 rw[aAh]<;>omega
theorem bYm (s:Int):aIf .i64 s 255=s % 256:=by
 show IntKind.i64.wrap (((BitVec.ofInt 64 s&&&BitVec.ofInt 64 255).toNat:Nat):Int)=_
 rw[BitVec.toNat_and]
 have h1:(BitVec.ofInt 64 255).toNat=2^8-1:=by decide
 have h2:(BitVec.ofInt 64 s).toNat=(s % 18446744073709551616).toNat:=by simp[BitVec.toNat_ofInt]
 rw[h1,h2,Nat.and_two_pow_sub_one_eq_mod,aAh]<;>omega
theorem aM7 (a b:Nat) (ha:a<4294967296) (hb:b<4294967296):bEh .i64 (a:Int) (b:Int)=((a ^^^ b:Nat):Int):=by
 show IntKind.i64.wrap (((BitVec.ofInt 64 (a:Int) ^^^ BitVec.ofInt 64 (b:Int)).toNat:Nat):Int)=_
 rw[BitVec.toNat_xor]
 have h1:(BitVec.ofInt 64 (a:Int)).toNat=a:=by simp[BitVec.toNat_ofInt];omega
 have h2:(BitVec.ofInt 64 (b:Int)).toNat=b:=by simp[BitVec.toNat_ofInt];omega
 have h3:a ^^^ b<4294967296:=Nat.xor_lt_two_pow (n:=32) ha hb
 rw[h1,h2,aAh]<;>omega
theorem aM8 (a b:Nat) (ha:a<4294967296) (hb:b<4294967296):bEh .u32 (a:Int) (b:Int)=((a ^^^ b:Nat):Int):=by
 show IntKind.u32.wrap (((BitVec.ofInt 32 (a:Int) ^^^ BitVec.ofInt 32 (b:Int)).toNat:Nat):Int)=_
 rw[BitVec.toNat_xor]
 have h1:(BitVec.ofInt 32 (a:Int)).toNat=a:=by simp[BitVec.toNat_ofInt];omega
 have h2:(BitVec.ofInt 32 (b:Int)).toNat=b:=by simp[BitVec.toNat_ofInt];omega
 have h3:a ^^^ b<4294967296:=Nat.xor_lt_two_pow (n:=32) ha hb
 rw[h1,h2,bIq]<;>omega
theorem bPe (x:Int):aIf .u32 x 1=x % 2:=by
 show IntKind.u32.wrap (((BitVec.ofInt 32 x&&&BitVec.ofInt 32 1).toNat:Nat):Int)=_
 rw[BitVec.toNat_and]
 have h1:(BitVec.ofInt 32 1).toNat=1:=by decide
 have h2:(BitVec.ofInt 32 x).toNat=(x % 4294967296).toNat:=by simp[BitVec.toNat_ofInt]
 rw[h1,h2,Nat.and_one_is_mod,bIq]<;>omega
theorem bPc (x:Int):aKk .u32 x 1=x / 2:=by
 show x.fdiv (2^(min (Int.toNat 1) 32))=_
 rw[Int.fdiv_eq_ediv_of_nonneg]<;>simp
theorem bIp (s:Int):IntKind.u32.wrap s=(aIn s:Int):=by
 unfold aIn
 simp only[IntKind.wrap,IntKind.bits,IntKind.signed]
 simp
 omega
theorem aM4 (s:Int):aIn s<4294967296:=by unfold aIn;omega
theorem aR7 (x:Nat) (h:x<4294967296):aOc x<4294967296:=by
 unfold aOc
 split
 ·exact Nat.xor_lt_two_pow (n:=32) (by omega) (by omega)
 ·omega
theorem aZw:∀ (n x:Nat),x<4294967296→aJs n x<4294967296
 |0,x,h=>h
 |n+1,x,h=>aZw n _ (aR7 x h)
theorem aR8 (s b:Nat) (hs:s<4294967296) (hb:b<256):aLm s b<4294967296 :=
 aZw 8 _ (Nat.xor_lt_two_pow (n:=32) hs (by omega))
theorem aZx:∀ (t:List UInt8) (x:Nat),x<4294967296→aLl x t<4294967296
 |[],x,h=>h
 |c::t,x,h=>aZx t _ (aR8 x c.toNat h c.toNat_lt)
theorem aDi (s:Nat) (t:List UInt8) (hs:s<4294967296):aAs s t<4294967296 :=
 Nat.xor_lt_two_pow (n:=32) (aZx t _ (Nat.xor_lt_two_pow (n:=32) hs (by omega))) (by omega)
theorem bB9:∀ (n i x:Nat),x<4294967296→i≤8→8<i+n →
  (aBl aMu aAb (sg [pI,pI] [rI]) Tryz.f187 [.r,.r,.l,.r,.b] n (aIx x i)).eval=some [.int .i64 (aJs (8-i) x:Nat)]:=by
 intro n
 induction n with
 |zero=>intro i x hx h1 h2;omega
 |succ n ih =>
  intro i x hx h1 h2
  rw[aAo _ _ _ _ _ _ _ (by kernel_rfl),aUj]
  by_cases hi:i<8
  ·have e:=ih (i+1) (aOc x) (aR7 x hx) (by omega) (by omega)
   have hs:8-i=(8-(i+1))+1:=by omega
   have w:IntKind.i64.wrap ((i:Int)+1)=((i+1:Nat):Int):=by rw[aAh]<;>omega
   have hi':(i:Int)<8:=by omega
   have d:(x:Int) / 2=((x / 2:Nat):Int):=by omega
   have m:(x:Int) % 2=((x % 2:Nat):Int):=by omega
   have hx2:bEh .i64 ((x / 2:Nat):Int) 2197175160=((x / 2 ^^^ 2197175160:Nat):Int):=aM7 (x / 2) 2197175160 (by omega) (by omega)
   rw[hs]
   simp only[aJs]
   rw[←e]
   simp only[aA0,aA2,aA1,if_true,decide_eq_true_eq,w,hi',bVw,bVu,d,m,hx2]
   unfold aOc
   by_cases ho:x % 2=1
   ·simp[ho]
   ·simp only[ho,if_false];rw[if_neg (by omega)]
  ·have:i=8:=by omega
   subst this
   simp[aA0,aA2,aA1,aJs]
theorem bOg:aA6 Tryz.prog aMu:=aA5 (by simp[])
theorem aXs:aAm Tryz.prog 187 (sg [pI,pI] [rI]) aNx:=aA3 bOg aA7 Tryz.func187 (by kernel_rfl) fun cs outs hk h=>by
 unfold aNx at h
 split at h
 ·simp only[Option.some.injEq,Prod.mk.injEq,true_and]at h
  rename_i s b
  rw[←h,aA9,bB8]
  have e:b % 256=((b % 256).toNat:Int):=by omega
  have hb:(b % 256).toNat<256:=by omega
  simp only[aA0,if_true,bXb,bYm]
  rw[e,aM7 _ _ (aM4 s) (by omega)]
  exact bB9 _ 0 _ (Nat.xor_lt_two_pow (n:=32) (aM4 s) (by omega)) (by omega) (by omega)
 ·cases h
theorem aVq:∀ (n i x:Nat),x<4294967296→i≤8→8<i+n →
  (aBl aI6 aAb (sg [bZu,pU8] [bZr]) Tryz.f190 [.r,.r,.l,.r,.b] n (aGg x i)).eval=some [.int .u32 (aJs (8-i) x:Nat)]:=by
 intro n
 induction n with
 |zero=>intro i x hx h1 h2;omega
 |succ n ih =>
  intro i x hx h1 h2
  rw[aAo _ _ _ _ _ _ _ (by kernel_rfl),aQw]
  by_cases hi:i<8
  ·have e:=ih (i+1) (aOc x) (aR7 x hx) (by omega) (by omega)
   have hs:8-i=(8-(i+1))+1:=by omega
   have w:IntKind.i64.wrap ((i:Int)+1)=((i+1:Nat):Int):=by rw[aAh]<;>omega
   have hi':(i:Int)<8:=by omega
   have d:(x:Int) / 2=((x / 2:Nat):Int):=by omega
   have m:(x:Int) % 2=((x % 2:Nat):Int):=by omega
   have hx2:bEh .u32 ((x / 2:Nat):Int) 2197175160=((x / 2 ^^^ 2197175160:Nat):Int):=aM8 (x / 2) 2197175160 (by omega) (by omega)
   rw[hs]
   simp only[aJs]
   rw[←e]
   simp only[aA0,aA2,aA1,if_true,decide_eq_true_eq,w,hi',bPe,bPc,d,m,hx2]
   unfold aOc
   by_cases ho:x % 2=1
   ·simp[ho]
   ·simp only[ho,if_false];rw[if_neg (by omega)]
  ·have:i=8:=by omega
   subst this
   simp[aA0,aA2,aA1,aJs]
theorem bGt:aA6 Tryz.prog aI6:=aA5 (by simp[])
theorem aSo:aAm Tryz.prog 190 (sg [bZu,pU8] [bZr]) aJ6:=aA3 bGt aA7 Tryz.func190 (by kernel_rfl) fun cs outs hk h=>by
 unfold aJ6 at h
 split at h
 ·simp only[Option.some.injEq,Prod.mk.injEq,Bool.and_eq_true,decide_eq_true_eq]at h
  obtain⟨⟨⟨h1,h2⟩,h3,h4⟩,rfl⟩:=h
  rename_i s b
  obtain⟨s,rfl⟩:=Int.eq_ofNat_of_zero_le h1
  obtain⟨b,rfl⟩:=Int.eq_ofNat_of_zero_le h3
  rw[aA9,aVp]
  simp only[aA0,if_true,Int.toNat_natCast]
  rw[bIq (by omega) (by omega),aM8 _ _ (by omega) (by omega)]
  exact aVq _ 0 _ (Nat.xor_lt_two_pow (n:=32) (by omega) (by omega)) (by omega) (by omega)
 ·cases h
theorem aPb (t:List UInt8) (i:Nat) (h:i<t.length):t.drop i=t.getD i 0::t.drop (i+1):=by
 rw[List.drop_eq_getElem_cons h];simp[List.getD_eq_getElem?_getD,h]
theorem bB7 (t:List UInt8) (ht:t.length≤281474976710656):∀ (n i x:Nat),x<4294967296→i≤t.length→t.length<i+n →
  (aBl aMt aAb (sg [pI,pS] [rI]) Tryz.f144 [.r,.r,.l,.r,.b] n (aMf t x i)).eval=some [.int .i64 (aLl x (t.drop i) ^^^ 4294967295:Nat)]:=by
 intro n
 induction n with
 |zero=>intro i x hx h1 h2;omega
 |succ n ih =>
  intro i x hx h1 h2
  rw[aAo _ _ _ _ _ _ _ (by kernel_rfl),aUi]
  by_cases hi:i<t.length
  ·have hb:=aGn t i
   have e:=ih (i+1) (aLm x (t.getD i 0).toNat) (aR8 _ _ hx hb) (by omega) (by omega)
   have w:IntKind.i64.wrap ((i:Int)+1)=((i+1:Nat):Int):=by rw[aAh]<;>omega
   have hz:(0:Int)≤i:=by omega
   have w2:IntKind.i64.wrap ((t.getD i 0).toNat:Int)=((t.getD i 0).toNat:Int):=by rw[aAh]<;>omega
   have l1:aIn (x:Int)=x:=by unfold aIn;omega
   have l2:(((t.getD i 0).toNat:Int) % 256).toNat=(t.getD i 0).toNat:=by omega
   rw[aPb t i hi]
   simp only[aLl,List.foldl_cons]at e ⊢
   simp only[aA0,aA2,aA1,if_true,decide_eq_true_eq,Bool.and_eq_true,w,hz,Int.toNat_natCast,Int.ofNat_lt,hi,and_self,w2,l1,l2]
   exact e
  ·have:i=t.length:=by omega
   subst this
   have hx2:bEh .i64 (x:Int) 4294967295=((x ^^^ 4294967295:Nat):Int):=aM7 x 4294967295 hx (by omega)
   simp[aA0,aA2,aA1,aLl,hx2]
theorem bOf:aA6 Tryz.prog aMt:=aA5 (by simp[aXs])
theorem aNa:aAm Tryz.prog 144 (sg [pI,pS] [rI]) aDr:=aA3 bOf aA7 Tryz.func144 (by kernel_rfl) fun cs outs hk h=>by
 unfold aDr at h
 split at h
 ·simp only[Option.some.injEq,Prod.mk.injEq,decide_eq_true_eq]at h
  obtain⟨h1,rfl⟩:=h
  rename_i s t
  rw[aA9,bB6]
  have hx2:bEh .i64 (aIn s:Int) 4294967295=((aIn s ^^^ 4294967295:Nat):Int):=aM7 _ 4294967295 (aM4 s) (by omega)
  simp only[aA0,if_true,bXb,hx2]
  exact bB7 t h1 _ 0 _ (Nat.xor_lt_two_pow (n:=32) (aM4 s) (by omega)) (by omega) (by omega)
 ·cases h
theorem bCq (t:List UInt8) (ht:t.length≤281474976710656):∀ (n i x:Nat),x<4294967296→i≤t.length→t.length<i+n →
  (aBl aN1 aAb (sg [pI,pS] [rI]) Tryz.f160 [.r,.r,.l,.r,.b] n (aMl t x t.length i)).eval=some [.int .i64 (aLl x (t.drop i) ^^^ 4294967295:Nat)]:=by
 intro n
 induction n with
 |zero=>intro i x hx h1 h2;omega
 |succ n ih =>
  intro i x hx h1 h2
  rw[aAo _ _ _ _ _ _ _ (by kernel_rfl),aVo]
  by_cases hi:i<t.length
  ·have hb:=aGn t i
   have e:=ih (i+1) (aLm x (t.getD i 0).toNat) (aR8 _ _ hx hb) (by omega) (by omega)
   have w:IntKind.i64.wrap ((i:Int)+1)=((i+1:Nat):Int):=by rw[aAh]<;>omega
   have hz:(0:Int)≤i:=by omega
   have hx1:(0:Int)≤x:=by omega
   have hx2:(x:Int)≤4294967295:=by omega
   have hb1:(0:Int)≤((t.getD i 0).toNat:Int):=by omega
   have hb2:((t.getD i 0).toNat:Int)≤255:=by omega
   rw[aPb t i hi]
   simp only[aLl,List.foldl_cons]at e ⊢
   simp only[aA0,aA2,aA1,if_true,decide_eq_true_eq,Bool.and_eq_true,w,hz,Int.toNat_natCast,Int.ofNat_lt,hi,and_self,hx1,hx2,hb1,hb2]
   exact e
  ·have:i=t.length:=by omega
   subst this
   have hx2:bEh .u32 (x:Int) 4294967295=((x ^^^ 4294967295:Nat):Int):=aM8 x 4294967295 hx (by omega)
   have hl:x ^^^ 4294967295<4294967296:=Nat.xor_lt_two_pow (n:=32) hx (by omega)
   have w:IntKind.i64.wrap ((x ^^^ 4294967295:Nat):Int)=((x ^^^ 4294967295:Nat):Int):=by rw[aAh]<;>omega
   simp[aA0,aA2,aA1,aLl,hx2,w]
theorem bPh:aA6 Tryz.prog aN1:=aA5 (by simp[aSo])
theorem aNh:aAm Tryz.prog 160 (sg [pI,pS] [rI]) aDr:=aA3 bPh aA7 Tryz.func160 (by kernel_rfl) fun cs outs hk h=>by
 unfold aDr at h
 split at h
 ·simp only[Option.some.injEq,Prod.mk.injEq,decide_eq_true_eq]at h
  obtain⟨h1,rfl⟩:=h
  rename_i s t
  rw[aA9,bCp]
  have hx2:bEh .u32 (aIn s:Int) 4294967295=((aIn s ^^^ 4294967295:Nat):Int):=aM8 _ 4294967295 (aM4 s) (by omega)
  simp only[aA0,if_true,bIp,hx2]
  exact bCq t h1 _ 0 _ (Nat.xor_lt_two_pow (n:=32) (aM4 s) (by omega)) (by omega) (by omega)
 ·cases h
theorem bUq:aA6 Tryz.prog bNe:=aA5 (by simp[aNa])
theorem aHt:aAm Tryz.prog 151 (sg [pS] [rI]) aDc:=aA3 bUq aA7 Tryz.func151 (by kernel_rfl) fun cs outs hk h=>by
 unfold aDc at h
 split at h
 ·simp only[Option.some.injEq,Prod.mk.injEq,decide_eq_true_eq]at h
  obtain⟨h1,rfl⟩:=h
  rw[aA9,bJ7]
  simp[aA0,aA1,h1]
  rfl
 ·cases h
theorem bVx:aA6 Tryz.prog bNn:=aA5 (by simp[aNh])
theorem aHy:aAm Tryz.prog 181 (sg [pS] [rI]) aDc:=aA3 bVx aA7 Tryz.func181 (by kernel_rfl) fun cs outs hk h=>by
 unfold aDc at h
 split at h
 ·simp only[Option.some.injEq,Prod.mk.injEq,decide_eq_true_eq]at h
  obtain⟨h1,rfl⟩:=h
  rw[aA9,bKu]
  simp[aA0,aA1,h1]
  rfl
 ·cases h
noncomputable section
def aCg:aC0:=fun cs=>match cs with
 |[.int .i64 n]=>some (true,[.bool (inB n 0 1000000000)])
 |_=>none
def aX7:Env:=mkE [] [(78,(sg [pI,pI,pI] [rB]),aE0)]
def aCf:Nat→Nat→List UInt8
 |0,_=>[]
 |k+1,n=>UInt8.ofNat (n % 256)::aCf k (n / 256)
def aAg (n w:Int):List UInt8:=if 0≤n∧1≤w∧w≤8∧n.toNat<256^w.toNat then aCf w.toNat n.toNat else[]
def aHd:List UInt8→Nat
 |[]=>0
 |c::t=>c.toNat+256*aHd t
def aDf (b:List UInt8) (at' w:Int):Nat:=aHd ((b.drop at'.toNat).take w.toNat)
def aD2 (b:List UInt8) (at' w:Int):Bool:=decide (1≤w∧w≤8∧0≤at'∧at'≤b.length-w∧aDf b at' w<9223372036854775808)
def aAq (b:List UInt8) (at' w:Int):Int:=if aD2 b at' w then (aDf b at' w:Int)else 0
def aFh:aC0:=fun cs=>match cs with
 |[.int .i64 n,.int .i64 w]=>some (decide (-9223372036854775808≤n)&&decide (n≤9223372036854775807),[.str (aAg n w)])
 |_=>none
def aDw:aC0:=fun cs=>match cs with
 |[.str b,.int .i64 a,.int .i64 w]=>some (decide (b.length≤281474976710656)&&(decide (-9223372036854775808≤a)&&decide (a≤9223372036854775807)),[.int .i64 (aAq b a w),.bool (aD2 b a w)])
 |_=>none
def aMx:Env:=mkE [(5,[0,1,5,6])] [(53,(sg [pI,pI,pI] [rB]),aE0)]
def aN4:Env:=mkE [(5,[0,5,28,29])] [(78,(sg [pI,pI,pI] [rB]),aE0)]
def aMw:Env:=mkE [(7,[0,1,8,9])] [(53,(sg [pI,pI,pI] [rB]),aE0)]
def aN3:Env:=mkE [(5,[0,1,8,22,23])] [(78,(sg [pI,pI,pI] [rB]),aE0)]
def aMh (n w:Int) (m:Nat) (r:List (List C)) (i:Int):St:=st1 [(0,aB0 n),(1,aB0 w),(5,.l (.ref 0 0 m)),(6,aB0 i)] 1 r
def aIz (n:Int) (m:Nat) (r:List (List C)) (e i:Int):St:=st1 [(0,aB0 n),(5,.l (.ref 0 0 m)),(28,aB0 e),(29,aB0 i)] 1 r
def aIy (b:List UInt8) (a n i:Int):St:=st0 [(0,bEe b),(1,aB0 a),(8,aB0 n),(9,aB0 i)]
def aMn (b:List UInt8) (a n e i:Int):St:=st0 [(0,bEe b),(1,aB0 a),(8,aB0 n),(22,aB0 e),(23,aB0 i)]
end
theorem aYu (H:List Pt→Nat→St→T (List C)) (n:Int):aAe aX7 aAb (sg [pI] [rB]) Tryz.f97 H [C.int .i64 n]=(.must true (.must true (.must true (.must true (.ask (inB n 0 1000000000) (.must true (.ret [C.bool true])) (.must true (.ret [C.bool false]))))))):=by kernel_rfl
theorem bBo (H:List Pt→Nat→St→T (List C)) (n:Int) (w:Int):aAe aMx aAb (sg [pI,pI] [rS]) Tryz.f145 H [C.int .i64 n,C.int .i64 w]=(.must true (.ask (decide (n<(0:Int))) (.must true (.ret [C.str []])) (.must true (.must true (.must true (.ask (inB w 1 8) (H [Pt.r,Pt.r,Pt.r,Pt.l,Pt.r,Pt.b] 9223372036854775808 (aMh (n) (w) (0) ([]) ((0:Int)))) (.must true (.ret [C.str []])))))))):=by kernel_rfl
theorem aUx (H:List Pt→Nat→St→T (List C)) (n:Int) (w:Int) (q:Nat) (r:List (List C)) (i:Int) (k:Nat):aB3 aMx aAb (sg [pI,pI] [rS]) Tryz.f145 H [Pt.r,Pt.r,Pt.r,Pt.l,Pt.r,Pt.b] k (aMh n w q r i)=(.ask (decide (i<w)) (.must (decide (q=r.length)&&aBg (r.length+1) 1&&(decide (1=1)&&true)) (.must true (H [Pt.r,Pt.r,Pt.r,Pt.l,Pt.r,Pt.b] k (aMh (aKk .i64 n 8) (w) (r.length+1) (r.append [[C.int .u8 (IntKind.u8.wrap n)]]) (IntKind.i64.wrap (i+(1:Int))))))) (.ask (decide ((0:Int)<n)) (.must true (.ret [C.str []])) (.must ((List.take q r).all aFv) (.must true (.ret [C.str (aCl (List.take q r))]))))):=by kernel_rfl
theorem bD6 (H:List Pt→Nat→St→T (List C)) (n:Int) (w:Int):aAe aN4 aAb (sg [pI,pI] [rS]) Tryz.f161 H [C.int .i64 n,C.int .i64 w]=(.must true (.ask (decide (n<(0:Int))) (.must true (.ret [C.str []])) (.must true (.must true (.must true (.ask (inB w 1 8) (.ask (decide (w<(8:Int))) (.must (decide ((0:Int)≤IntKind.i64.wrap ((8:Int)*w))) (.ask (aKk .i64 n (IntKind.i64.wrap ((8:Int)*w)) != (0:Int)) (.must true (.ret [C.str []])) (.must (decide ((0:Int)≤w)&&decide (w≤w)&&decide ((↑(1:Nat):Int)*w≤(281474976710656:Int))) (H [Pt.r,Pt.r,Pt.r,Pt.l,Pt.r,Pt.b] 9223372036854775808 (aIz (n) (w.toNat) (List.replicate w.toNat [C.int .u8 0]) ((↑w.toNat:Int)) ((0:Int))))))) (.must (decide ((0:Int)≤w)&&decide (w≤w)&&decide ((↑(1:Nat):Int)*w≤(281474976710656:Int))) (H [Pt.r,Pt.r,Pt.r,Pt.l,Pt.r,Pt.b] 9223372036854775808 (aIz (n) (w.toNat) (List.replicate w.toNat [C.int .u8 0]) ((↑w.toNat:Int)) ((0:Int)))))) (.must true (.ret [C.str []])))))))):=by kernel_rfl
theorem aW0 (H:List Pt→Nat→St→T (List C)) (n:Int) (q:Nat) (r:List (List C)) (e:Int) (i:Int) (k:Nat):aB3 aN4 aAb (sg [pI,pI] [rS]) Tryz.f161 H [Pt.r,Pt.r,Pt.r,Pt.l,Pt.r,Pt.b] k (aIz n q r e i)=(.ask (decide (i<e)) (.must (decide ((0:Int)≤IntKind.i64.wrap ((8:Int)*i))) (.must (decide ((0:Int)≤i)&&decide (i<(↑q:Int))) (.must (decide (0+i.toNat<r.length)) (H [Pt.r,Pt.r,Pt.r,Pt.l,Pt.r,Pt.b] k (aIz (n) (q) (r.set (0+i.toNat) (C.int .u8 (IntKind.u8.wrap (aKk .i64 n (IntKind.i64.wrap ((8:Int)*i))))::List.drop (0+1) (r.getD (0+i.toNat) []))) (e) (IntKind.i64.wrap (i+(1:Int)))))))) (.must ((List.take q r).all aFv) (.must true (.ret [C.str (aCl (List.take q r))])))):=by kernel_rfl
theorem bBf (H:List Pt→Nat→St→T (List C)) (b:List UInt8) (a:Int) (w:Int):aAe aMw aAb (sg [pS,pI,pI] [rI,rB]) Tryz.f148 H [C.str b,C.int .i64 a,C.int .i64 w]=(.must true (.must true (.must true (.must true (.ask (inB w 1 8) (.must true (.must true (.must true (.ask (inB a 0 (IntKind.i64.wrap ((↑b.length:Int)-w))) (.ask (decide (w=(8:Int))) (.must (decide ((0:Int)≤IntKind.i64.wrap (a+(7:Int)))&&decide (IntKind.i64.wrap (a+(7:Int))<(↑b.length:Int))) (.ask (decide ((127:Int)<(↑(b.getD (IntKind.i64.wrap (a+(7:Int))).toNat (0:UInt8)).toNat:Int))) (.must true (.ret [C.int .i64 0,C.bool false])) (H [Pt.r,Pt.r,Pt.r,Pt.r,Pt.l,Pt.r,Pt.b] 9223372036854775808 (aIy (b) (a) ((0:Int)) (IntKind.i64.wrap (w-(1:Int))))))) (H [Pt.r,Pt.r,Pt.r,Pt.r,Pt.l,Pt.r,Pt.b] 9223372036854775808 (aIy (b) (a) ((0:Int)) (IntKind.i64.wrap (w-(1:Int)))))) (.must true (.ret [C.int .i64 0,C.bool false])))))) (.must true (.ret [C.int .i64 0,C.bool false]))))))):=by kernel_rfl
theorem aUq (H:List Pt→Nat→St→T (List C)) (b:List UInt8) (a:Int) (n:Int) (i:Int) (k:Nat):aB3 aMw aAb (sg [pS,pI,pI] [rI,rB]) Tryz.f148 H [Pt.r,Pt.r,Pt.r,Pt.r,Pt.l,Pt.r,Pt.b] k (aIy b a n i)=(.ask (decide ((0:Int)≤i)) (.must true (.must (decide ((0:Int)≤IntKind.i64.wrap (a+i))&&decide (IntKind.i64.wrap (a+i)<(↑b.length:Int))) (H [Pt.r,Pt.r,Pt.r,Pt.r,Pt.l,Pt.r,Pt.b] k (aIy (b) (a) (ior .i64 (aX9 .i64 n 8) (IntKind.i64.wrap (↑(b.getD (IntKind.i64.wrap (a+i)).toNat (0:UInt8)).toNat:Int))) (IntKind.i64.wrap (i-(1:Int))))))) (.must true (.ret [C.int .i64 n,C.bool true]))):=by kernel_rfl
theorem bCw (H:List Pt→Nat→St→T (List C)) (b:List UInt8) (a:Int) (w:Int):aAe aN3 aAb (sg [pS,pI,pI] [rI,rB]) Tryz.f156 H [C.str b,C.int .i64 a,C.int .i64 w]=(.must true (.must true (.must true (.must true (.ask (inB w 1 8) (.must true (.must true (.must true (.ask (inB a 0 (IntKind.i64.wrap ((↑b.length:Int)-w))) (H [Pt.r,Pt.r,Pt.r,Pt.l,Pt.r,Pt.b] 9223372036854775808 (aMn (b) (a) ((0:Int)) (w) ((0:Int)))) (.must true (.ret [C.int .i64 0,C.bool false])))))) (.must true (.ret [C.int .i64 0,C.bool false]))))))):=by kernel_rfl
theorem aVu (H:List Pt→Nat→St→T (List C)) (b:List UInt8) (a:Int) (n:Int) (e:Int) (i:Int) (k:Nat):aB3 aN3 aAb (sg [pS,pI,pI] [rI,rB]) Tryz.f156 H [Pt.r,Pt.r,Pt.r,Pt.l,Pt.r,Pt.b] k (aMn b a n e i)=(.ask (decide (i<e)) (.must (decide ((0:Int)≤IntKind.i64.wrap (a+i))&&decide (IntKind.i64.wrap (a+i)<(↑b.length:Int))) (.must (decide ((0:Int)≤IntKind.i64.wrap ((8:Int)*i))) (H [Pt.r,Pt.r,Pt.r,Pt.l,Pt.r,Pt.b] k (aMn (b) (a) (ior .i64 n (aX9 .i64 (IntKind.i64.wrap (↑(b.getD (IntKind.i64.wrap (a+i)).toNat (0:UInt8)).toNat:Int)) (IntKind.i64.wrap ((8:Int)*i)))) (e) (IntKind.i64.wrap (i+(1:Int))))))) (.ask (decide (n<(0:Int))) (.must true (.ret [C.int .i64 0,C.bool false])) (.must true (.ret [C.int .i64 n,C.bool true])))):=by kernel_rfl
theorem bL7:aA6 Tryz.prog aX7:=aA5 (by simp[aHg])
theorem aC7:aAm Tryz.prog 97 (sg [pI] [rB]) aCg:=aA3 bL7 aA7 Tryz.func97 (by kernel_rfl) fun cs outs hk h=>by
 unfold aCg at h
 split at h
 ·simp only[Option.some.injEq,Prod.mk.injEq,true_and]at h
  rw[←h,aA9,aYu]
  rename_i n
  by_cases hb:inB n 0 1000000000=true<;>simp[aA0,aA2,aA1,hb]
 ·cases h
theorem cA6 (x:Int) (k:Nat) (hk:k<64):aKk .i64 x (k:Int)=x / 2^k:=by
 show x.fdiv (2^(min ((k:Int).toNat) 64))=_
 have:min ((k:Int).toNat) 64=k:=by omega
 rw[this,Int.fdiv_eq_ediv_of_nonneg]
 exact Int.pow_nonneg (by omega)
theorem aH4 (x k:Nat) (hk:k<64):aKk .i64 (x:Int) (k:Int)=((x / 2^k:Nat):Int):=by
 rw[cA6 _ _ hk]
 simp
theorem aPz (x:Int):IntKind.u8.wrap x=x % 256:=by
 simp only[IntKind.wrap,IntKind.bits,IntKind.signed]
 simp
theorem aV2 (i:Nat):(2:Nat)^(8*i)=256^i:=by rw[Nat.pow_mul]
theorem aBx:∀ (k n:Nat),(aCf k n).length=k
 |0,_=>rfl
 |k+1,n=>by simp[aCf,aBx k]
theorem aL9:∀ (k n:Nat),aCf (k+1) n=aCf k n++[UInt8.ofNat (n / 256^k % 256)]
 |0,n=>by simp[aCf]
 |k+1,n=>by
  rw[aCf,aL9 k (n / 256)]
  simp only[aCf,List.cons_append]
  rw[Nat.div_div_eq_div_mul,Nat.pow_succ,Nat.mul_comm 256 (256^k)]
theorem aBb (n a b:Int):inB n a b=true↔a≤n∧n≤b:=by simp[inB]
theorem bBp (n0 w:Nat) (hw:w≤8) (hn:n0≤9223372036854775807):∀ (n i:Nat),i≤w→w<i+n →
  (aBl aMx aAb (sg [pI,pI] [rS]) Tryz.f145 [.r,.r,.r,.l,.r,.b] n (aMh (n0 / 256^i:Nat) w i (aAa (aCf i n0)) i)).eval=some [.str (if n0<256^w then aCf w n0 else[])]:=by
 intro n
 induction n with
 |zero=>intro i h1 h2;omega
 |succ n ih =>
  intro i h1 h2
  rw[aAo _ _ _ _ _ _ _ (by kernel_rfl),aUx]
  by_cases hi:i<w
  ·have e:=ih (i+1) (by omega) (by omega)
   have w1:IntKind.i64.wrap ((i:Int)+1)=((i+1:Nat):Int):=by rw[aAh]<;>omega
   have hi':(i:Int)<w:=by omega
   have hr:aBg (i+1) 1=true:=by simp only[aBg,decide_eq_true_eq];omega
   have d:aKk .i64 ((n0 / 256^i:Nat):Int) 8=((n0 / 256^(i+1):Nat):Int):=by
    have:=aH4 (n0 / 256^i) 8 (by omega)
    rw[show ((8:Nat):Int)=8 from rfl]at this
    rw[this,Nat.div_div_eq_div_mul,show (2:Nat)^8=256 from rfl,←Nat.pow_succ]
   have u:IntKind.u8.wrap ((n0 / 256^i:Nat):Int)=((n0 / 256^i % 256:Nat):Int):=by rw[aPz];omega
   have ro:[[C.int .u8 ((n0 / 256^i % 256:Nat):Int)]]=aAa [UInt8.ofNat (n0 / 256^i % 256)]:=by
    have:=bMi ((n0 / 256^i % 256:Nat):Int) (by omega) (by omega)
    rw[Int.toNat_natCast]at this
    exact this
   rw[aL9,←aG1,←ro]at e
   simp only[aA0,aA2,aA1,if_true,decide_eq_true_eq,Bool.and_eq_true,w1,hi',aB9,aBx,hr,d,u,and_self,List.append_eq]
   exact e
  ·have:i=w:=by omega
   subst this
   have hlt:¬((i:Int)<i):=by omega
   have z:(0:Int)<((n0 / 256^i:Nat):Int)↔¬n0<256^i:=by
    have hp:(256:Nat)^i≠0:=Nat.pos_iff_ne_zero.1 (Nat.pow_pos (by omega))
    have h0:n0 / 256^i=0↔n0<256^i:=by
     rw[Nat.div_eq_zero_iff]
     exact⟨fun h=>h.resolve_left hp,.inr⟩
    rw[←h0]
    generalize n0 / 256^i=y
    omega
   have tk:(aAa (aCf i n0)).take i=aAa (aCf i n0):=List.take_of_length_le (by rw[aB9,aBx];omega)
   simp only[aA0,aA2,aA1,if_true,decide_eq_true_eq,hlt,if_false,z,tk,aE8,aGr]
   by_cases hc:n0<256^i<;>simp[hc]
theorem bDl (n w:Int) (h:¬(0≤n∧1≤w∧w≤8)):aAg n w=[]:=by
 unfold aAg;rw[if_neg (fun h'=>h ⟨h'.1,h'.2.1,h'.2.2.1⟩)]
theorem aT1 (n w:Nat) (h1:1≤w) (h2:w≤8):aAg n w=if n<256^w then aCf w n else[]:=by
 unfold aAg
 simp only[Int.toNat_natCast]
 by_cases h:n<256^w
 ·rw[if_pos ⟨by omega,by omega,by omega,h⟩,if_pos h]
 ·rw[if_neg (fun h'=>h h'.2.2.2),if_neg h]
theorem bOp:aA6 Tryz.prog aMx:=aA5 (by simp[aDd])
theorem aEj:aAm Tryz.prog 145 (sg [pI,pI] [rS]) aFh:=aA3 bOp aA7 Tryz.func145 (by kernel_rfl) fun cs outs hk h=>by
 unfold aFh at h
 split at h
 ·simp only[Option.some.injEq,Prod.mk.injEq,Bool.and_eq_true,decide_eq_true_eq]at h
  obtain⟨⟨h1,h2⟩,rfl⟩:=h
  rename_i n w
  rw[aA9,bBo]
  by_cases hn:n<0
  ·simp[aA0,aA2,aA1,hn,bDl n w (by omega)]
  ·by_cases hw:inB w 1 8=true
   ·have hw':=(aBb _ _ _).1 hw
    obtain⟨n,rfl⟩:=Int.eq_ofNat_of_zero_le (show 0≤n by omega)
    obtain⟨w,rfl⟩:=Int.eq_ofNat_of_zero_le (show 0≤w by omega)
    have:=bBp n w (by omega) (by omega) 9223372036854775808 0 (by omega) (by omega)
    rw[←aT1 n w (by omega) (by omega)]at this
    simp only[aA0,aA2,if_true,hn,decide_false,Bool.false_eq_true,if_false,hw,Bool.not_true]
    simpa[aCf,aAa]using this
   ·have:¬(1≤w∧w≤8):=fun h=>hw ((aBb _ _ _).2 h)
    simp[aA0,aA2,aA1,hn,hw,bDl n w (by omega)]
 ·cases h
theorem bD7 (n0 w:Nat) (hw:w≤8) (hn:n0≤9223372036854775807):∀ (n i:Nat),i≤w→w<i+n →
  (aBl aN4 aAb (sg [pI,pI] [rS]) Tryz.f161 [.r,.r,.r,.l,.r,.b] n (aIz n0 w (aAa (aCf i n0++List.replicate (w-i) 0)) w i)).eval=some [.str (aCf w n0)]:=by
 intro n
 induction n with
 |zero=>intro i h1 h2;omega
 |succ n ih =>
  intro i h1 h2
  rw[aAo _ _ _ _ _ _ _ (by kernel_rfl),aW0]
  by_cases hi:i<w
  ·have e:=ih (i+1) (by omega) (by omega)
   have w1:IntKind.i64.wrap ((i:Int)+1)=((i+1:Nat):Int):=by rw[aAh]<;>omega
   have w2:IntKind.i64.wrap (8*(i:Int))=((8*i:Nat):Int):=by rw[aAh]<;>omega
   have hi':(i:Int)<w:=by omega
   have hz:(0:Int)≤i:=by omega
   have hz8:(0:Int)≤((8*i:Nat):Int):=by omega
   have d:aKk .i64 (n0:Int) ((8*i:Nat):Int)=((n0 / 256^i:Nat):Int):=by rw[aH4 _ _ (by omega),aV2]
   have u:IntKind.u8.wrap ((n0 / 256^i:Nat):Int)=((n0 / 256^i % 256:Nat):Int):=by rw[aPz];omega
   have hlen:(aCf i n0++List.replicate (w-i) (0:UInt8)).length=w:=by simp[aBx];omega
   have g:=bBr (aCf i n0++List.replicate (w-i) 0) i (by omega)
   have sset:=bMg (aCf i n0++List.replicate (w-i) 0) i ((n0 / 256^i % 256:Nat):Int) (by omega) (by omega)
   have sl:(aCf i n0++List.replicate (w-i) (0:UInt8)).set i (UInt8.ofNat (((n0 / 256^i % 256:Nat):Int)).toNat)=aCf (i+1) n0++List.replicate (w-(i+1)) 0:=by
    obtain⟨m,hm⟩:∃ m,w-i=m+1:=⟨w-i-1,by omega⟩
    have hm2:w-(i+1)=m:=by omega
    rw[List.set_append_right _ _ (by rw[aBx];omega),aBx,Nat.sub_self,hm,hm2,List.replicate_succ,List.set_cons_zero,aL9,Int.toNat_natCast,List.append_assoc]
    rfl
   rw[sl]at sset
   simp only[aA0,aA2,aA1,if_true,decide_eq_true_eq,Bool.and_eq_true,w1,w2,hi',hz,hz8,d,u,aB9,hlen,Int.toNat_natCast,Nat.zero_add,hi,and_self,g,List.drop_succ_cons,List.drop_zero,sset]
   exact e
  ·have:i=w:=by omega
   subst this
   have hlt:¬((i:Int)<i):=by omega
   have tk:(aAa (aCf i n0)).take i=aAa (aCf i n0):=List.take_of_length_le (by rw[aB9,aBx];omega)
   simp only[aA0,aA2,aA1,if_true,decide_eq_true_eq,hlt,if_false,Nat.sub_self,List.replicate_zero,List.append_nil,tk,aE8,aGr]
theorem bPo:aA6 Tryz.prog aN4:=aA5 (by simp[aHg])
theorem aEk:aAm Tryz.prog 161 (sg [pI,pI] [rS]) aFh:=aA3 bPo aA7 Tryz.func161 (by kernel_rfl) fun cs outs hk h=>by
 unfold aFh at h
 split at h
 ·simp only[Option.some.injEq,Prod.mk.injEq,Bool.and_eq_true,decide_eq_true_eq]at h
  obtain⟨⟨h1,h2⟩,rfl⟩:=h
  rename_i n w
  rw[aA9,bD6]
  by_cases hn:n<0
  ·simp[aA0,aA2,aA1,hn,bDl n w (by omega)]
  ·by_cases hw:inB w 1 8=true
   ·have hw':=(aBb _ _ _).1 hw
    obtain⟨n,rfl⟩:=Int.eq_ofNat_of_zero_le (show 0≤n by omega)
    obtain⟨w,rfl⟩:=Int.eq_ofNat_of_zero_le (show 0≤w by omega)
    have lp:=bD7 n w (by omega) (by omega) 9223372036854775808 0 (by omega) (by omega)
    have rp:aAa (aCf 0 n++List.replicate (w-0) 0)=List.replicate w [C.int .u8 0]:=by simp[aCf,aAa]
    rw[rp]at lp
    have w2:IntKind.i64.wrap (8*(w:Int))=((8*w:Nat):Int):=by rw[aAh]<;>omega
    have hz8:(0:Int)≤((8*w:Nat):Int):=by omega
    have c1:(0:Int)≤w:=by omega
    have c2:((1:Nat):Int)*(w:Int)≤281474976710656:=by omega
    rw[aT1 n w (by omega) (by omega)]
    simp only[aA0,aA2,aA1,if_true,hn,decide_false,Bool.false_eq_true,if_false,hw,Bool.not_true,w2,hz8,decide_true,decide_eq_true_eq,Bool.and_eq_true,c1,c2,Int.le_refl,and_self,Int.toNat_natCast]
    by_cases h8:(w:Int)<8
    ·have d:aKk .i64 (n:Int) ((8*w:Nat):Int)=((n / 256^w:Nat):Int):=by rw[aH4 _ _ (by omega),aV2]
     have z:n / 256^w=0↔n<256^w:=by
      have hp:(256:Nat)^w≠0:=Nat.pos_iff_ne_zero.1 (Nat.pow_pos (by omega))
      rw[Nat.div_eq_zero_iff]
      exact⟨fun h=>h.resolve_left hp,.inr⟩
     simp only[h8,if_true,d,bne_iff_ne,ne_eq,Int.natCast_eq_zero,z]
     by_cases hc:n<256^w
     ·simp only[hc,not_true_eq_false,if_false,if_true];exact lp
     ·simp only[hc,not_false_eq_true,if_true,if_false]
    ·have:w=8:=by omega
     subst this
     have hc:n<256^8:=by omega
     simp only[h8,if_false,hc,if_true]
     exact lp
   ·have:¬(1≤w∧w≤8):=fun h=>hw ((aBb _ _ _).2 h)
    simp[aA0,aA2,aA1,hn,hw,bDl n w (by omega)]
 ·cases h
theorem aP1:∀ l:List UInt8,aHd l<256^l.length
 |[]=>by simp[aHd]
 |c::t=>by
  have:=aP1 t
  have hc:=c.toNat_lt
  simp only[aHd,List.length_cons,Nat.pow_succ]
  omega
theorem aL8:∀ (l:List UInt8) (c:UInt8),aHd (l++[c])=aHd l+c.toNat*256^l.length
 |[],c=>by simp[aHd]
 |x::t,c=>by
  simp only[List.cons_append,aHd,aL8 t c,List.length_cons,Nat.pow_succ]
  rw[Nat.mul_add,←Nat.add_assoc,Nat.mul_left_comm,Nat.mul_comm 256 (256^t.length)]
theorem aP2:∀ (j:Nat) (l:List UInt8),aHd (l.drop j)≤aHd l
 |0,l=>by simp
 |j+1,[]=>by simp
 |j+1,c::t=>by
  have:=aP2 j t
  simp only[List.drop_succ_cons,aHd]
  omega
theorem aP3 (n c k:Nat) (hk:n<2^k) (h:n+c*2^k<18446744073709551616) (x y:Int) (hx:(x % 18446744073709551616).toNat=n) (hy:(y % 18446744073709551616).toNat=c*2^k) :
  ior .i64 x y=IntKind.i64.wrap ((n+c*2^k:Nat):Int):=by
 show IntKind.i64.wrap (((BitVec.ofInt 64 x|||BitVec.ofInt 64 y).toNat:Nat):Int)=_
 rw[BitVec.toNat_or]
 have h1:(BitVec.ofInt 64 x).toNat=n:=by rw[←hx];simp[BitVec.toNat_ofInt]
 have h2:(BitVec.ofInt 64 y).toNat=c*2^k:=by rw[←hy];simp[BitVec.toNat_ofInt]
 rw[h1,h2,←Nat.shiftLeft_eq,Nat.or_comm,←Nat.shiftLeft_add_eq_or_of_lt hk,Nat.add_comm]
theorem aZ6 (x:Int):IntKind.i64.wrap x % 18446744073709551616=x % 18446744073709551616:=by
 simp only[IntKind.wrap,IntKind.bits,IntKind.signed]
 first
  |(split<;>omega)
  |(simp;split<;>omega)
theorem aQt (x:Int) (k:Nat) (hk:k<64):aX9 .i64 x (k:Int) % 18446744073709551616=x*2^k % 18446744073709551616:=by
 show IntKind.i64.wrap (x*2^(min ((k:Int).toNat) 64)) % 18446744073709551616=_
 have:min ((k:Int).toNat) 64=k:=by omega
 rw[this,aZ6]
theorem bBg (b:List UInt8) (a w:Nat) (hb:a+w≤b.length) (hbl:b.length≤281474976710656) (hw:w≤8) (hv:aDf b a w<9223372036854775808):∀ (n j:Nat),j≤w→j<n →
  (aBl aMw aAb (sg [pS,pI,pI] [rI,rB]) Tryz.f148 [.r,.r,.r,.r,.l,.r,.b] n (aIy b a (aHd (((b.drop a).take w).drop j):Nat) ((j:Int)-1))).eval=some [.int .i64 (aDf b a w:Nat),.bool true]:=by
 intro n
 induction n with
 |zero=>intro j h1 h2;omega
 |succ n ih =>
  intro j h1 h2
  rw[aAo _ _ _ _ _ _ _ (by kernel_rfl),aUq]
  cases j with
  |zero =>
   have:¬((0:Int)≤((0:Nat):Int)-1):=by omega
   simp only[aA0,aA2,aA1,decide_eq_true_eq,this,if_false,if_true]
   simp[aDf]
  |succ i =>
   have e:=ih i (by omega) (by omega)
   have hl:((b.drop a).take w).length=w:=by simp;omega
   have hg:((b.drop a).take w).getD i 0=b.getD (a+i) 0:=by
    simp[List.getD_eq_getElem?_getD,List.getElem?_take,List.getElem?_drop,show i<w by omega]
   rw[aPb _ i (by omega),hg]at e
   have hle:aHd (((b.drop a).take w).drop i)≤aDf b a w:=by
    have:=aP2 i ((b.drop a).take w)
    simpa[aDf]using this
   rw[aPb _ i (by omega),hg]at hle
   simp only[aHd]at e hle
   generalize aHd (((b.drop a).take w).drop (i+1))=y at e hle
   have hc:=aGn b (a+i)
   have w1:IntKind.i64.wrap ((((i+1:Nat):Int)-1)-1)=(i:Int)-1:=by rw[aAh]<;>omega
   have w2:IntKind.i64.wrap ((a:Int)+(((i+1:Nat):Int)-1))=((a+i:Nat):Int):=by rw[aAh]<;>omega
   have w3:IntKind.i64.wrap ((b.getD (a+i) 0).toNat:Int)=((b.getD (a+i) 0).toNat:Int):=by rw[aAh]<;>omega
   have z1:(0:Int)≤((i+1:Nat):Int)-1:=by omega
   have z2:(0:Int)≤((a+i:Nat):Int):=by omega
   have z3:a+i<b.length:=by omega
   have hm:=aQt (y:Int) 8 (by omega)
   rw[show ((8:Nat):Int)=8 from rfl]at hm
   have ho:ior .i64 (aX9 .i64 (y:Int) 8) ((b.getD (a+i) 0).toNat:Int)=(((b.getD (a+i) 0).toNat+256*y:Nat):Int):=by
    have:=aP3 (b.getD (a+i) 0).toNat y 8 (by omega) (by omega) ((b.getD (a+i) 0).toNat:Int) (aX9 .i64 (y:Int) 8) (by omega) (by rw[hm];omega)
    rw[aAh (by omega) (by omega)]at this
    have hcomm:ior .i64 (aX9 .i64 (y:Int) 8) ((b.getD (a+i) 0).toNat:Int)=ior .i64 ((b.getD (a+i) 0).toNat:Int) (aX9 .i64 (y:Int) 8):=by
     unfold ior;rw[BitVec.or_comm]
    rw[hcomm,this]
    omega
   simp only[aA0,aA2,aA1,decide_eq_true_eq,Bool.and_eq_true,if_true,w1,w2,z1,z2,Int.toNat_natCast,Int.ofNat_lt,z3,w3,ho,and_self]
   exact e
theorem bPu (b:List UInt8) (a:Nat) (hb:a+8≤b.length):aDf b a (8:Int)=aHd ((b.drop a).take 7)+(b.getD (a+7) 0).toNat*72057594037927936∧aHd ((b.drop a).take 7)<72057594037927936:=by
 have hl:((b.drop a).take 7).length=7:=by simp;omega
 have e:(b.drop a).take 8=(b.drop a).take 7++[b.getD (a+7) 0]:=by
  rw[List.take_add_one]
  simp[List.getElem?_drop,List.getD_eq_getElem?_getD,show a+7<b.length by omega]
 have h1:=aL8 ((b.drop a).take 7) (b.getD (a+7) 0)
 have h2:=aP1 ((b.drop a).take 7)
 rw[hl]at h1 h2
 refine⟨?_,h2⟩
 show aHd ((b.drop (a:Int).toNat).take (8:Int).toNat)=_
 rw[Int.toNat_natCast,show (8:Int).toNat=8 from rfl,e,h1]
theorem bHl (b:List UInt8) (a w:Nat) (hw:w≤7):aDf b a w<72057594037927936:=by
 have h:=aP1 ((b.drop a).take w)
 have hl:((b.drop a).take w).length≤w:=by simp;omega
 have:256^((b.drop a).take w).length≤256^7:=Nat.pow_le_pow_right (by omega) (by omega)
 show aHd ((b.drop (a:Int).toNat).take (w:Int).toNat)<_
 simp only[Int.toNat_natCast]
 omega
theorem aIs (b:List UInt8) (a w:Int):aD2 b a w=true↔(1≤w∧w≤8∧0≤a∧a≤b.length-w∧aDf b a w<9223372036854775808):=by simp[aD2]
theorem bOl:aA6 Tryz.prog aMw:=aA5 (by simp[aDd])
theorem aNb:aAm Tryz.prog 148 (sg [pS,pI,pI] [rI,rB]) aDw:=aA3 bOl aA7 Tryz.func148 (by kernel_rfl) fun cs outs hk h=>by
 unfold aDw at h
 split at h
 ·simp only[Option.some.injEq,Prod.mk.injEq,Bool.and_eq_true,decide_eq_true_eq]at h
  obtain⟨⟨h1,h2,h3⟩,rfl⟩:=h
  rename_i b a w
  rw[aA9,bBf]
  have bad:¬(1≤w∧w≤8∧0≤a∧a≤b.length-w∧aDf b a w<9223372036854775808)→aAq b a w=0∧aD2 b a w=false:=fun h=>by
   have:aD2 b a w=false:=by
    cases hh:aD2 b a w with
    |true=>exact absurd ((aIs b a w).1 hh) h
    |false=>rfl
   exact⟨by unfold aAq;rw[this];rfl,this⟩
  by_cases hw:inB w 1 8=true
  ·have hw':=(aBb _ _ _).1 hw
   have wr:IntKind.i64.wrap ((b.length:Int)-w)=b.length-w:=by rw[aAh]<;>omega
   by_cases ha:inB a 0 ((b.length:Int)-w)=true
   ·have ha':=(aBb _ _ _).1 ha
    obtain⟨a,rfl⟩:=Int.eq_ofNat_of_zero_le ha'.1
    obtain⟨w,rfl⟩:=Int.eq_ofNat_of_zero_le (show 0≤w by omega)
    have lp:=fun hv=>bBg b a w (by omega) h1 (by omega) hv 9223372036854775808 w (by omega) (by omega)
    have w1:IntKind.i64.wrap ((w:Int)-1)=(w:Int)-1:=by rw[aAh]<;>omega
    have dr:((b.drop a).take w).drop w=[]:=by
     apply List.drop_eq_nil_of_le;simp;omega
    rw[dr]at lp
    have good:aDf b a w<9223372036854775808→aAq b a w=(aDf b a w:Nat)∧aD2 b a w=true:=fun h=>by
     have:aD2 b a w=true:=(aIs _ _ _).2 ⟨hw'.1,hw'.2,ha'.1,ha'.2,h⟩
     exact⟨by unfold aAq;rw[this];rfl,this⟩
    by_cases h8:(w:Int)=8
    ·have h8t:((w:Int)=8)=True:=eq_true h8
     obtain⟨t1,t2⟩:=bPu b a (by omega)
     rw[←h8]at t1
     have w7:IntKind.i64.wrap ((a:Int)+7)=((a+7:Nat):Int):=by rw[aAh]<;>omega
     have z1:(0:Int)≤((a+7:Nat):Int):=by omega
     have z2:a+7<b.length:=by omega
     by_cases hc:(127:Int)<((b.getD (a+7) 0).toNat:Int)
     ·obtain⟨b1,b2⟩:=bad (fun h=>by
       have:=h.2.2.2.2
       rw[t1]at this
       omega)
      simp only[aA0,aA2,aA1,if_true,hw,wr,ha,Bool.not_true,Bool.false_eq_true,if_false,h8t,w7,z1,z2,Bool.and_eq_true,decide_eq_true_eq,Int.toNat_natCast,Int.ofNat_lt,and_self,hc,b1,b2]
     ·have hv:aDf b a w<9223372036854775808:=by rw[t1];omega
      obtain⟨b1,b2⟩:=good hv
      simp only[aA0,aA2,aA1,if_true,hw,wr,ha,Bool.not_true,Bool.false_eq_true,if_false,h8t,w7,z1,z2,Bool.and_eq_true,decide_eq_true_eq,Int.toNat_natCast,Int.ofNat_lt,and_self,hc,w1,b1,b2]
      exact lp hv
    ·have hv:aDf b a w<9223372036854775808:=by have:=bHl b a w (by omega);omega
     obtain⟨b1,b2⟩:=good hv
     simp only[aA0,aA2,aA1,if_true,hw,wr,ha,Bool.not_true,Bool.false_eq_true,if_false,h8,decide_false,w1,b1,b2]
     exact lp hv
   ·obtain⟨b1,b2⟩:=bad (fun h=>ha ((aBb _ _ _).2 ⟨h.2.2.1,h.2.2.2.1⟩))
    simp[aA0,aA2,aA1,hw,wr,ha,b1,b2]
  ·obtain⟨b1,b2⟩:=bad (fun h=>hw ((aBb _ _ _).2 ⟨h.1,h.2.1⟩))
   simp[aA0,aA2,aA1,hw,b1,b2]
 ·cases h
theorem bCx (b:List UInt8) (a w:Nat) (hb:a+w≤b.length) (hbl:b.length≤281474976710656) (hw1:1≤w) (hw:w≤8):∀ (n i:Nat),i≤w→w<i+n →
  (aBl aN3 aAb (sg [pS,pI,pI] [rI,rB]) Tryz.f156 [.r,.r,.r,.l,.r,.b] n (aMn b a (IntKind.i64.wrap (aHd ((b.drop a).take i):Nat)) w i)).eval=some [.int .i64 (aAq b a w),.bool (aD2 b a w)]:=by
 intro n
 induction n with
 |zero=>intro i h1 h2;omega
 |succ n ih =>
  intro i h1 h2
  rw[aAo _ _ _ _ _ _ _ (by kernel_rfl),aVu]
  by_cases hi:i<w
  ·have e:=ih (i+1) (by omega) (by omega)
   have hl:((b.drop a).take i).length=i:=by simp;omega
   have ee:(b.drop a).take (i+1)=(b.drop a).take i++[b.getD (a+i) 0]:=by
    rw[List.take_add_one]
    simp[List.getElem?_drop,List.getD_eq_getElem?_getD,show a+i<b.length by omega]
   rw[ee,aL8,hl]at e
   have hlt:=aP1 ((b.drop a).take i)
   rw[hl]at hlt
   have h7:256^i≤256^7:=Nat.pow_le_pow_right (by omega) (by omega)
   generalize aHd ((b.drop a).take i)=y at e hlt
   have hc:=aGn b (a+i)
   have w1:IntKind.i64.wrap ((i:Int)+1)=((i+1:Nat):Int):=by rw[aAh]<;>omega
   have w2:IntKind.i64.wrap ((a:Int)+i)=((a+i:Nat):Int):=by rw[aAh]<;>omega
   have w3:IntKind.i64.wrap ((b.getD (a+i) 0).toNat:Int)=((b.getD (a+i) 0).toNat:Int):=by rw[aAh]<;>omega
   have w4:IntKind.i64.wrap (8*(i:Int))=((8*i:Nat):Int):=by rw[aAh]<;>omega
   have w5:IntKind.i64.wrap (y:Int)=y:=by rw[aAh]<;>omega
   have z1:(i:Int)<w:=by omega
   have z2:(0:Int)≤((a+i:Nat):Int):=by omega
   have z3:a+i<b.length:=by omega
   have z4:(0:Int)≤((8*i:Nat):Int):=by omega
   have hm:=aQt ((b.getD (a+i) 0).toNat:Int) (8*i) (by omega)
   have hpow:(b.getD (a+i) 0).toNat*256^i≤255*256^i:=Nat.mul_le_mul_right _ (by omega)
   have hp2:((b.getD (a+i) 0).toNat:Int)*2^(8*i)=(((b.getD (a+i) 0).toNat*256^i:Nat):Int):=by
    rw[←aV2];simp
   rw[hp2]at hm
   have ho:=aP3 y (b.getD (a+i) 0).toNat (8*i) (by rw[aV2];exact hlt) (by rw[aV2];omega) (y:Int) (aX9 .i64 ((b.getD (a+i) 0).toNat:Int) ((8*i:Nat):Int)) (by omega) (by rw[hm,aV2];omega)
   rw[aV2]at ho
   simp only[aA0,aA2,aA1,decide_eq_true_eq,Bool.and_eq_true,if_true,w1,w2,w3,w4,w5,z1,z2,Int.toNat_natCast,Int.ofNat_lt,z3,z4,ho,and_self,hi]
   exact e
  ·have hiw:i=w:=by omega
   subst hiw
   have hlt:¬((i:Int)<i):=by omega
   have hfv:aDf b a i=aHd ((b.drop a).take i):=by simp[aDf]
   have hl:((b.drop a).take i).length=i:=by simp;omega
   have hb8:=aP1 ((b.drop a).take i)
   rw[hl]at hb8
   have h8:256^i≤256^8:=Nat.pow_le_pow_right (by omega) (by omega)
   rw[←hfv]at hb8 ⊢
   simp only[aA0,aA2,aA1,decide_eq_true_eq,if_true,hlt,if_false]
   by_cases hv:aDf b a i<9223372036854775808
   ·have hok:aD2 b a i=true:=(aIs _ _ _).2 ⟨by omega,by omega,by omega,by omega,hv⟩
    have w5:IntKind.i64.wrap ((aDf b a i:Nat):Int)=(aDf b a i:Nat):=by rw[aAh]<;>omega
    have hn:¬(((aDf b a i:Nat):Int)<0):=by omega
    simp only[w5,hn,if_false,aAq,hok,if_true]
   ·have hok:aD2 b a i=false:=by
     cases hh:aD2 b a i with
     |true=>exact absurd ((aIs _ _ _).1 hh).2.2.2.2 hv
     |false=>rfl
    have hr:=bEi ((aDf b a i:Nat):Int)
    have hm:=aZ6 ((aDf b a i:Nat):Int)
    have hn:IntKind.i64.wrap ((aDf b a i:Nat):Int)<0:=by omega
    simp only[hn,if_true,aAq,hok,Bool.false_eq_true,if_false]
theorem bPm:aA6 Tryz.prog aN3:=aA5 (by simp[aHg])
theorem aNi:aAm Tryz.prog 156 (sg [pS,pI,pI] [rI,rB]) aDw:=aA3 bPm aA7 Tryz.func156 (by kernel_rfl) fun cs outs hk h=>by
 unfold aDw at h
 split at h
 ·simp only[Option.some.injEq,Prod.mk.injEq,Bool.and_eq_true,decide_eq_true_eq]at h
  obtain⟨⟨h1,h2,h3⟩,rfl⟩:=h
  rename_i b a w
  rw[aA9,bCw]
  have bad:¬(1≤w∧w≤8∧0≤a∧a≤b.length-w∧aDf b a w<9223372036854775808)→aAq b a w=0∧aD2 b a w=false:=fun h=>by
   have:aD2 b a w=false:=by
    cases hh:aD2 b a w with
    |true=>exact absurd ((aIs b a w).1 hh) h
    |false=>rfl
   exact⟨by unfold aAq;rw[this];rfl,this⟩
  by_cases hw:inB w 1 8=true
  ·have hw':=(aBb _ _ _).1 hw
   have wr:IntKind.i64.wrap ((b.length:Int)-w)=b.length-w:=by rw[aAh]<;>omega
   by_cases ha:inB a 0 ((b.length:Int)-w)=true
   ·have ha':=(aBb _ _ _).1 ha
    obtain⟨a,rfl⟩:=Int.eq_ofNat_of_zero_le ha'.1
    obtain⟨w,rfl⟩:=Int.eq_ofNat_of_zero_le (show 0≤w by omega)
    have lp:=bCx b a w (by omega) h1 (by omega) (by omega) 9223372036854775808 0 (by omega) (by omega)
    simp only[aA0,aA2,aA1,if_true,hw,wr,ha,Bool.not_true,Bool.false_eq_true,if_false]
    exact lp
   ·obtain⟨b1,b2⟩:=bad (fun h=>ha ((aBb _ _ _).2 ⟨h.2.2.1,h.2.2.2.1⟩))
    simp[aA0,aA2,aA1,hw,wr,ha,b1,b2]
  ·obtain⟨b1,b2⟩:=bad (fun h=>hw ((aBb _ _ _).2 ⟨h.1,h.2.1⟩))
   simp[aA0,aA2,aA1,hw,b1,b2]
 ·cases h
noncomputable section
def aCq (v s b l:Int):Bool:=inB v 1 2&&inB s 1 20&&inB b 0 1000000000&&inB l 0 4294967295
def aEb:PTy:=.val true [.int .i64,.int .i64,.int .i64,.int .i64]
def aOw:RTy:=⟨true,[(.int .i64,false),(.int .i64,false),(.int .i64,false),(.int .i64,false)]⟩
def aDh:aC0:=fun cs=>match cs with
 |[.int .i64 v,.int .i64 s,.int .i64 b,.int .i64 l]=>some (true,[.bool (aCq v s b l)])
 |_=>none
def aFd (v s b l:Int):List UInt8:=[83,69,71,77]++aAg v 1++aAg s 1++[0,0]++aAg b 8++aAg l 4
def aB6 (v s b l:Int):List UInt8:=if aCq v s b l then aFd v s b l++aAg (aAs 0 (aFd v s b l):Nat) 4 else[]
def aD9:aC0:=fun cs=>match cs with
 |[.int .i64 v,.int .i64 s,.int .i64 b,.int .i64 l]=>some (true,[.str (aB6 v s b l)])
 |_=>none
def bI8:Env:=mkE [] [(53,(sg [pI,pI,pI] [rB]),aE0)]
def bIi:Env:=mkE [] [(78,(sg [pI,pI,pI] [rB]),aE0),(63,(sg [pI] [rB]),aEd),(97,(sg [pI] [rB]),aCg)]
def aWz:Env:=mkE [] [(151,(sg [pS] [rI]),aDc),(145,(sg [pI,pI] [rS]),aFh),(115,(sg [aEb] [rB]),aDh)]
def aX8:Env:=mkE [] [(181,(sg [pS] [rI]),aDc),(161,(sg [pI,pI] [rS]),aFh),(137,(sg [aEb] [rB]),aDh)]
def rhV (b:List UInt8):Int:=(b.getD 4 0).toNat
def rhS (b:List UInt8):Int:=(b.getD 5 0).toNat
def rhB (b:List UInt8):Int:=aAq b 8 8
def rhL (b:List UInt8):Int:=aAq b 16 4
def aA8 (b:List UInt8):Bool:=decide (24≤b.length)&&aD2 b 8 8&&decide (aB6 (rhV b) (rhS b) (rhB b) (rhL b)=b.take 24)
def ifI (c:Bool) (x:Int):Int:=if c then x else 0
def aD8:aC0:=fun cs=>match cs with
 |[.str b]=>some (decide (b.length≤281474976710656),[.int .i64 (ifI (aA8 b) (rhV b)),.int .i64 (ifI (aA8 b) (rhS b)),.int .i64 (ifI (aA8 b) (rhB b)),.int .i64 (ifI (aA8 b) (rhL b)),.bool (aA8 b)])
 |_=>none
def aWw:Env:=mkE [] [(148,(sg [pS,pI,pI] [rI,rB]),aDw),(116,(sg [aEb] [rS]),aD9)]
def aX4:Env:=mkE [] [(156,(sg [pS,pI,pI] [rI,rB]),aDw),(140,(sg [aEb] [rS]),aD9)]
end
theorem bFg (H:List Pt→Nat→St→T (List C)) (v:Int) (s:Int) (b:Int) (l:Int):aAe bI8 aAb (sg [aEb] [rB]) Tryz.f115 H [C.int .i64 v,C.int .i64 s,C.int .i64 b,C.int .i64 l]=(.must true (.must true (.must true (.must true (.ask (inB v 1 2) (.must true (.must true (.must true (.ask (inB s 1 20) (.must true (.must true (.must true (.ask (inB b 0 1000000000) (.must true (.must true (.must true (.ask (inB l 0 4294967295) (.must true (.ret [C.bool true])) (.must true (.ret [C.bool false])))))) (.must true (.ret [C.bool false])))))) (.must true (.ret [C.bool false])))))) (.must true (.ret [C.bool false]))))))):=by kernel_rfl
theorem bH3 (H:List Pt→Nat→St→T (List C)) (v:Int) (s:Int) (b:Int) (l:Int):aAe bIi aAb (sg [aEb] [rB]) Tryz.f137 H [C.int .i64 v,C.int .i64 s,C.int .i64 b,C.int .i64 l]=(.must true (.must true (.must true (.must true (.ask (inB v 1 2) (.must true (.must true (.must true (.ask (inB s 1 20) (.must true (.must true (.must true (.ask (inB b 0 1000000000) (.must true (.must true (.must true (.ask (inB l 0 4294967295) (.must true (.ret [C.bool true])) (.must true (.ret [C.bool false])))))) (.must true (.ret [C.bool false])))))) (.must true (.ret [C.bool false])))))) (.must true (.ret [C.bool false]))))))):=by kernel_rfl
theorem aY7 (H:List Pt→Nat→St→T (List C)) (v:Int) (s:Int) (b:Int) (l:Int):aAe aWz aAb (sg [aEb] [rS]) Tryz.f116 H [C.int .i64 v,C.int .i64 s,C.int .i64 b,C.int .i64 l]=(.must true (.must true (.must true (.must true (.ask (aCq v s b l) (.must true (.must (decide ((-9223372036854775808:Int)≤v)&&decide (v≤(9223372036854775807:Int))) (.must true (.must (decide (4+(aAg v 1).length≤9223372036854775807)) (.must true (.must (decide ((-9223372036854775808:Int)≤s)&&decide (s≤(9223372036854775807:Int))) (.must true (.must (decide (([(83:UInt8),69,71,77]++aAg v 1).length+(aAg s 1).length≤9223372036854775807)) (.must (decide (([(83:UInt8),69,71,77]++aAg v 1++aAg s 1).length+2≤9223372036854775807)) (.must true (.must (decide ((-9223372036854775808:Int)≤b)&&decide (b≤(9223372036854775807:Int))) (.must true (.must (decide (([(83:UInt8),69,71,77]++aAg v 1++aAg s 1++[(0:UInt8),0]).length+(aAg b 8).length≤9223372036854775807)) (.must true (.must (decide ((-9223372036854775808:Int)≤l)&&decide (l≤(9223372036854775807:Int))) (.must true (.must (decide (([(83:UInt8),69,71,77]++aAg v 1++aAg s 1++[(0:UInt8),0]++aAg b 8).length+(aAg l 4).length≤9223372036854775807)) (.must true (.must (decide (([(83:UInt8),69,71,77]++aAg v 1++aAg s 1++[(0:UInt8),0]++aAg b 8++aAg l 4).length≤281474976710656)) (.must true (.must true (.must (decide ((-9223372036854775808:Int)≤Int.ofNat (aAs 0 ([(83:UInt8),69,71,77]++aAg v 1++aAg s 1++[(0:UInt8),0]++aAg b 8++aAg l 4)))&&decide (Int.ofNat (aAs 0 ([(83:UInt8),69,71,77]++aAg v 1++aAg s 1++[(0:UInt8),0]++aAg b 8++aAg l 4))≤(9223372036854775807:Int))) (.must true (.must (decide (([(83:UInt8),69,71,77]++aAg v 1++aAg s 1++[(0:UInt8),0]++aAg b 8++aAg l 4).length+(aAg (Int.ofNat (aAs 0 ([(83:UInt8),69,71,77]++aAg v 1++aAg s 1++[(0:UInt8),0]++aAg b 8++aAg l 4))) (4:Int)).length≤9223372036854775807)) (.must true (.ret [C.str ([(83:UInt8),69,71,77]++aAg v 1++aAg s 1++[(0:UInt8),0]++aAg b 8++aAg l 4++aAg (Int.ofNat (aAs 0 ([(83:UInt8),69,71,77]++aAg v 1++aAg s 1++[(0:UInt8),0]++aAg b 8++aAg l 4))) (4:Int))])))))))))))))))))))))))))) (.must true (.ret [C.str []]))))))):=by kernel_rfl
theorem aYv (H:List Pt→Nat→St→T (List C)) (v:Int) (s:Int) (b:Int) (l:Int):aAe aX8 aAb (sg [aEb] [rS]) Tryz.f140 H [C.int .i64 v,C.int .i64 s,C.int .i64 b,C.int .i64 l]=(.must true (.must true (.must true (.must true (.ask (aCq v s b l) (.must true (.must (decide ((-9223372036854775808:Int)≤v)&&decide (v≤(9223372036854775807:Int))) (.must true (.must (decide (4+(aAg v 1).length≤9223372036854775807)) (.must true (.must (decide ((-9223372036854775808:Int)≤s)&&decide (s≤(9223372036854775807:Int))) (.must true (.must (decide (([(83:UInt8),69,71,77]++aAg v 1).length+(aAg s 1).length≤9223372036854775807)) (.must true (.must true (.must true (.must (decide (([(83:UInt8),69,71,77]++aAg v 1++aAg s 1).length+(1+1)≤9223372036854775807)) (.must true (.must (decide ((-9223372036854775808:Int)≤b)&&decide (b≤(9223372036854775807:Int))) (.must true (.must (decide (([(83:UInt8),69,71,77]++aAg v 1++aAg s 1++aAg 0 2).length+(aAg b 8).length≤9223372036854775807)) (.must true (.must (decide ((-9223372036854775808:Int)≤l)&&decide (l≤(9223372036854775807:Int))) (.must true (.must (decide (([(83:UInt8),69,71,77]++aAg v 1++aAg s 1++aAg 0 2++aAg b 8).length+(aAg l 4).length≤9223372036854775807)) (.must true (.must (decide (([(83:UInt8),69,71,77]++aAg v 1++aAg s 1++aAg 0 2++aAg b 8++aAg l 4).length≤281474976710656)) (.must true (.must true (.must (decide ((-9223372036854775808:Int)≤Int.ofNat (aAs 0 ([(83:UInt8),69,71,77]++aAg v 1++aAg s 1++aAg 0 2++aAg b 8++aAg l 4)))&&decide (Int.ofNat (aAs 0 ([(83:UInt8),69,71,77]++aAg v 1++aAg s 1++aAg 0 2++aAg b 8++aAg l 4))≤(9223372036854775807:Int))) (.must true (.must (decide (([(83:UInt8),69,71,77]++aAg v 1++aAg s 1++aAg 0 2++aAg b 8++aAg l 4).length+(aAg (Int.ofNat (aAs 0 ([(83:UInt8),69,71,77]++aAg v 1++aAg s 1++aAg 0 2++aAg b 8++aAg l 4))) (4:Int)).length≤9223372036854775807)) (.must true (.ret [C.str ([(83:UInt8),69,71,77]++aAg v 1++aAg s 1++aAg 0 2++aAg b 8++aAg l 4++aAg (Int.ofNat (aAs 0 ([(83:UInt8),69,71,77]++aAg v 1++aAg s 1++aAg 0 2++aAg b 8++aAg l 4))) (4:Int))]))))))))))))))))))))))))))))) (.must true (.ret [C.str []]))))))):=by kernel_rfl
theorem aXz (H:List Pt→Nat→St→T (List C)) (b:List UInt8):aAe aWw aAb (sg [pS] [aOw,rB]) Tryz.f112 H [C.str b]=(.must true (.ask (decide ((↑b.length:Int)<(24:Int))) (.must true (.ret [C.int .i64 0,C.int .i64 0,C.int .i64 0,C.int .i64 0,C.bool false])) (.must true (.must (decide (b.length≤281474976710656)&&(decide ((-9223372036854775808:Int)≤(8:Int))&&decide ((8:Int)≤(9223372036854775807:Int)))) (.must true (.ask (aD2 b 8 8) (.must true (.must (decide (b.length≤281474976710656)&&(decide ((-9223372036854775808:Int)≤(16:Int))&&decide ((16:Int)≤(9223372036854775807:Int)))) (.must true (.ask (aD2 b 16 4) (.must (decide ((0:Int)≤(4:Int))&&decide ((4:Int)<(↑b.length:Int))) (.must (decide ((0:Int)≤(5:Int))&&decide ((5:Int)<(↑b.length:Int))) (.must true (.must true (.must true (.must (decide ((0:Int)≤(24:Int))&&decide ((24:Int)≤(↑b.length:Int))) (.ask (!aB6 (IntKind.i64.wrap (↑(b.getD (Int.toNat 4) (0:UInt8)).toNat:Int)) (IntKind.i64.wrap (↑(b.getD (Int.toNat 5) (0:UInt8)).toNat:Int)) (aAq b 8 8) (aAq b 16 4)==List.drop 0 (List.take (Int.toNat 24) b)) (.must true (.ret [C.int .i64 0,C.int .i64 0,C.int .i64 0,C.int .i64 0,C.bool false])) (.must true (.ret [C.int .i64 (IntKind.i64.wrap (↑(b.getD (Int.toNat 4) (0:UInt8)).toNat:Int)),C.int .i64 (IntKind.i64.wrap (↑(b.getD (Int.toNat 5) (0:UInt8)).toNat:Int)),C.int .i64 (aAq b 8 8),C.int .i64 (aAq b 16 4),C.bool true]))))))))) (.must (decide ((0:Int)≤(4:Int))&&decide ((4:Int)<(↑b.length:Int))) (.must (decide ((0:Int)≤(5:Int))&&decide ((5:Int)<(↑b.length:Int))) (.must true (.must true (.must true (.must (decide ((0:Int)≤(24:Int))&&decide ((24:Int)≤(↑b.length:Int))) (.ask (!aB6 (IntKind.i64.wrap (↑(b.getD (Int.toNat 4) (0:UInt8)).toNat:Int)) (IntKind.i64.wrap (↑(b.getD (Int.toNat 5) (0:UInt8)).toNat:Int)) (aAq b 8 8) (aAq b 16 4)==List.drop 0 (List.take (Int.toNat 24) b)) (.must true (.ret [C.int .i64 0,C.int .i64 0,C.int .i64 0,C.int .i64 0,C.bool false])) (.must true (.ret [C.int .i64 (IntKind.i64.wrap (↑(b.getD (Int.toNat 4) (0:UInt8)).toNat:Int)),C.int .i64 (IntKind.i64.wrap (↑(b.getD (Int.toNat 5) (0:UInt8)).toNat:Int)),C.int .i64 (aAq b 8 8),C.int .i64 (aAq b 16 4),C.bool true]))))))))))))) (.must true (.must (decide (b.length≤281474976710656)&&(decide ((-9223372036854775808:Int)≤(16:Int))&&decide ((16:Int)≤(9223372036854775807:Int)))) (.must true (.ask (aD2 b 16 4) (.must (decide ((0:Int)≤(4:Int))&&decide ((4:Int)<(↑b.length:Int))) (.must (decide ((0:Int)≤(5:Int))&&decide ((5:Int)<(↑b.length:Int))) (.must true (.ret [C.int .i64 0,C.int .i64 0,C.int .i64 0,C.int .i64 0,C.bool false])))) (.must (decide ((0:Int)≤(4:Int))&&decide ((4:Int)<(↑b.length:Int))) (.must (decide ((0:Int)≤(5:Int))&&decide ((5:Int)<(↑b.length:Int))) (.must true (.ret [C.int .i64 0,C.int .i64 0,C.int .i64 0,C.int .i64 0,C.bool false])))))))))))))):=by kernel_rfl
theorem aYo (H:List Pt→Nat→St→T (List C)) (b:List UInt8):aAe aX4 aAb (sg [pS] [aOw,rB]) Tryz.f120 H [C.str b]=(.must true (.ask (decide ((↑b.length:Int)<(24:Int))) (.must true (.ret [C.int .i64 0,C.int .i64 0,C.int .i64 0,C.int .i64 0,C.bool false])) (.must true (.must (decide (b.length≤281474976710656)&&(decide ((-9223372036854775808:Int)≤(8:Int))&&decide ((8:Int)≤(9223372036854775807:Int)))) (.must true (.ask (aD2 b 8 8) (.must true (.must (decide (b.length≤281474976710656)&&(decide ((-9223372036854775808:Int)≤(16:Int))&&decide ((16:Int)≤(9223372036854775807:Int)))) (.must true (.ask (aD2 b 16 4) (.must (decide ((0:Int)≤(4:Int))&&decide ((4:Int)<(↑b.length:Int))) (.must (decide ((0:Int)≤(5:Int))&&decide ((5:Int)<(↑b.length:Int))) (.must true (.must true (.must true (.must (decide ((0:Int)≤(24:Int))&&decide ((24:Int)≤(↑b.length:Int))) (.ask (!aB6 (IntKind.i64.wrap (↑(b.getD (Int.toNat 4) (0:UInt8)).toNat:Int)) (IntKind.i64.wrap (↑(b.getD (Int.toNat 5) (0:UInt8)).toNat:Int)) (aAq b 8 8) (aAq b 16 4)==List.drop 0 (List.take (Int.toNat 24) b)) (.must true (.ret [C.int .i64 0,C.int .i64 0,C.int .i64 0,C.int .i64 0,C.bool false])) (.must true (.ret [C.int .i64 (IntKind.i64.wrap (↑(b.getD (Int.toNat 4) (0:UInt8)).toNat:Int)),C.int .i64 (IntKind.i64.wrap (↑(b.getD (Int.toNat 5) (0:UInt8)).toNat:Int)),C.int .i64 (aAq b 8 8),C.int .i64 (aAq b 16 4),C.bool true]))))))))) (.must (decide ((0:Int)≤(4:Int))&&decide ((4:Int)<(↑b.length:Int))) (.must (decide ((0:Int)≤(5:Int))&&decide ((5:Int)<(↑b.length:Int))) (.must true (.must true (.must true (.must (decide ((0:Int)≤(24:Int))&&decide ((24:Int)≤(↑b.length:Int))) (.ask (!aB6 (IntKind.i64.wrap (↑(b.getD (Int.toNat 4) (0:UInt8)).toNat:Int)) (IntKind.i64.wrap (↑(b.getD (Int.toNat 5) (0:UInt8)).toNat:Int)) (aAq b 8 8) (aAq b 16 4)==List.drop 0 (List.take (Int.toNat 24) b)) (.must true (.ret [C.int .i64 0,C.int .i64 0,C.int .i64 0,C.int .i64 0,C.bool false])) (.must true (.ret [C.int .i64 (IntKind.i64.wrap (↑(b.getD (Int.toNat 4) (0:UInt8)).toNat:Int)),C.int .i64 (IntKind.i64.wrap (↑(b.getD (Int.toNat 5) (0:UInt8)).toNat:Int)),C.int .i64 (aAq b 8 8),C.int .i64 (aAq b 16 4),C.bool true]))))))))))))) (.must true (.must (decide (b.length≤281474976710656)&&(decide ((-9223372036854775808:Int)≤(16:Int))&&decide ((16:Int)≤(9223372036854775807:Int)))) (.must true (.ask (aD2 b 16 4) (.must (decide ((0:Int)≤(4:Int))&&decide ((4:Int)<(↑b.length:Int))) (.must (decide ((0:Int)≤(5:Int))&&decide ((5:Int)<(↑b.length:Int))) (.must true (.ret [C.int .i64 0,C.int .i64 0,C.int .i64 0,C.int .i64 0,C.bool false])))) (.must (decide ((0:Int)≤(4:Int))&&decide ((4:Int)<(↑b.length:Int))) (.must (decide ((0:Int)≤(5:Int))&&decide ((5:Int)<(↑b.length:Int))) (.must true (.ret [C.int .i64 0,C.int .i64 0,C.int .i64 0,C.int .i64 0,C.bool false])))))))))))))):=by kernel_rfl
theorem aB5 (n w:Int):(aAg n w).length≤8:=by
 unfold aAg;split
 ·rw[aBx];omega
 ·simp
theorem bRb:aA6 Tryz.prog bI8:=aA5 (by simp[aDd])
theorem aJ8:aAm Tryz.prog 115 (sg [aEb] [rB]) aDh:=aA3 bRb aA7 Tryz.func115 (by kernel_rfl) fun cs outs hk h=>by
 unfold aDh at h
 split at h
 ·simp only[Option.some.injEq,Prod.mk.injEq,true_and]at h
  rw[←h,aA9,bFg]
  simp only[aA0,aA2,aA1,if_true,aCq]
  repeat' split
  all_goals first | rfl | (simp_all;done)
 ·cases h
theorem bSv:aA6 Tryz.prog bIi:=aA5 (by simp[aHg,aEm,aC7])
theorem aJk:aAm Tryz.prog 137 (sg [aEb] [rB]) aDh:=aA3 bSv aA7 Tryz.func137 (by kernel_rfl) fun cs outs hk h=>by
 unfold aDh at h
 split at h
 ·simp only[Option.some.injEq,Prod.mk.injEq,true_and]at h
  rw[←h,aA9,bH3]
  simp only[aA0,aA2,aA1,if_true,aCq]
  repeat' split
  all_goals first | rfl | (simp_all;done)
 ·cases h
theorem aEe (v s b l:Int):aCq v s b l=true↔(1≤v∧v≤2)∧(1≤s∧s≤20)∧(0≤b∧b≤1000000000)∧(0≤l∧l≤4294967295):=by
 simp[aCq,inB,and_assoc]
theorem bJi:aA6 Tryz.prog aWz:=aA5 (by simp[aHt,aEj,aJ8])
theorem aKw:aAm Tryz.prog 116 (sg [aEb] [rS]) aD9:=aA3 bJi aA7 Tryz.func116 (by kernel_rfl) fun cs outs hk h=>by
 unfold aD9 at h
 split at h
 ·simp only[Option.some.injEq,Prod.mk.injEq,true_and]at h
  rename_i v s b l
  rw[←h,aA9,aY7]
  by_cases hok:aCq v s b l=true
  ·obtain⟨⟨a1,a2⟩,⟨a3,a4⟩,⟨a5,a6⟩,a7,a8⟩:=(aEe v s b l).1 hok
   have l1:=aB5 v 1
   have l2:=aB5 s 1
   have l3:=aB5 b 8
   have l4:=aB5 l 4
   have l5:=aB5 (aAs 0 (aFd v s b l):Nat) 4
   have c1:=aDi 0 (aFd v s b l) (by omega)
   have e:aB6 v s b l=aFd v s b l++aAg (aAs 0 (aFd v s b l):Nat) 4:=by simp[aB6,hok]
   rw[e]
   unfold aFd at *
   simp only[aA0,aA2,aA1,if_true,hok,decide_eq_true_eq,Bool.and_eq_true,List.length_append,List.length_cons,List.length_nil,Int.ofNat_eq_natCast]
   repeat rw[if_pos (by omega)]
  ·simp[aA0,aA2,aA1,hok,aB6]
 ·cases h
theorem bL8:aA6 Tryz.prog aX8:=aA5 (by simp[aHy,aEk,aJk])
theorem aLf:aAm Tryz.prog 140 (sg [aEb] [rS]) aD9:=aA3 bL8 aA7 Tryz.func140 (by kernel_rfl) fun cs outs hk h=>by
 unfold aD9 at h
 split at h
 ·simp only[Option.some.injEq,Prod.mk.injEq,true_and]at h
  rename_i v s b l
  rw[←h,aA9,aYv]
  by_cases hok:aCq v s b l=true
  ·obtain⟨⟨a1,a2⟩,⟨a3,a4⟩,⟨a5,a6⟩,a7,a8⟩:=(aEe v s b l).1 hok
   have l1:=aB5 v 1
   have l2:=aB5 s 1
   have l3:=aB5 b 8
   have l4:=aB5 l 4
   have l5:=aB5 (aAs 0 (aFd v s b l):Nat) 4
   have c1:=aDi 0 (aFd v s b l) (by omega)
   have f0:aAg 0 2=[0,0]:=by decide
   have e:aB6 v s b l=aFd v s b l++aAg (aAs 0 (aFd v s b l):Nat) 4:=by simp[aB6,hok]
   rw[e]
   unfold aFd at *
   simp only[aA0,aA2,aA1,if_true,hok,decide_eq_true_eq,Bool.and_eq_true,List.length_append,List.length_cons,List.length_nil,Int.ofNat_eq_natCast,f0]
   repeat rw[if_pos (by omega)]
  ·simp[aA0,aA2,aA1,hok,aB6]
 ·cases h
theorem bJd:aA6 Tryz.prog aWw:=aA5 (by simp[aNb,aKw])
theorem aKu:aAm Tryz.prog 112 (sg [pS] [aOw,rB]) aD8:=aA3 bJd aA7 Tryz.func112 (by kernel_rfl) fun cs outs hk h=>by
 unfold aD8 at h
 split at h
 ·simp only[Option.some.injEq,Prod.mk.injEq,decide_eq_true_eq]at h
  obtain⟨h1,rfl⟩:=h
  rename_i b
  rw[aA9,aXz]
  have c4:=aGn b 4
  have c5:=aGn b 5
  have w4:IntKind.i64.wrap ((b.getD 4 0).toNat:Int)=rhV b:=by rw[aAh]<;>first | rfl | omega
  have w5:IntKind.i64.wrap ((b.getD 5 0).toNat:Int)=rhS b:=by rw[aAh]<;>first | rfl | omega
  have t4:Int.toNat (4:Int)=4:=rfl
  have t5:Int.toNat (5:Int)=5:=rfl
  have t24:Int.toNat (24:Int)=24:=rfl
  have eB:aAq b 8 8=rhB b:=rfl
  have eL:aAq b 16 4=rhL b:=rfl
  simp only[t4,t5,t24,w4,w5,eB,eL,List.drop_zero]
  by_cases h24:(b.length:Int)<24
  ·have ho:aA8 b=false:=by unfold aA8;rw[decide_eq_false (by omega)];rfl
   simp[aA0,aA2,aA1,h24,ho,ifI]
  ·have g1:(4:Int)<b.length:=by omega
   have g2:(5:Int)<b.length:=by omega
   have g3:(24:Int)≤b.length:=by omega
   have g4:24≤b.length:=by omega
   by_cases h8:aD2 b 8 8=true
   ·by_cases ht:aB6 (rhV b) (rhS b) (rhB b) (rhL b)=b.take 24
    ·have ho:aA8 b=true:=by unfold aA8;rw[decide_eq_true g4,h8,decide_eq_true ht];rfl
     have hb:(aB6 (rhV b) (rhS b) (rhB b) (rhL b)==b.take 24)=true:=by rw[ht];simp
     by_cases h16:aD2 b 16 4=true<;>simp[aA0,aA2,aA1,h24,h8,h16,h1,g1,g2,g3,t4,t5,t24,w4,w5,eB,eL,ht,ho,ifI]
    ·have ho:aA8 b=false:=by unfold aA8;rw[decide_eq_true g4,h8,decide_eq_false ht];rfl
     by_cases h16:aD2 b 16 4=true<;>simp[aA0,aA2,aA1,h24,h8,h16,h1,g1,g2,g3,t4,t5,t24,w4,w5,eB,eL,ht,ho,ifI]
   ·have ho:aA8 b=false:=by unfold aA8;rw[Bool.eq_false_iff.2 h8];simp
    by_cases h16:aD2 b 16 4=true<;>simp[aA0,aA2,aA1,h24,h8,h16,h1,g1,g2,g3,t4,t5,t24,ho,ifI]<;>(intros;simp_all)
 ·cases h
theorem bL1:aA6 Tryz.prog aX4:=aA5 (by simp[aNi,aLf])
theorem aLe:aAm Tryz.prog 120 (sg [pS] [aOw,rB]) aD8:=aA3 bL1 aA7 Tryz.func120 (by kernel_rfl) fun cs outs hk h=>by
 unfold aD8 at h
 split at h
 ·simp only[Option.some.injEq,Prod.mk.injEq,decide_eq_true_eq]at h
  obtain⟨h1,rfl⟩:=h
  rename_i b
  rw[aA9,aYo]
  have c4:=aGn b 4
  have c5:=aGn b 5
  have w4:IntKind.i64.wrap ((b.getD 4 0).toNat:Int)=rhV b:=by rw[aAh]<;>first | rfl | omega
  have w5:IntKind.i64.wrap ((b.getD 5 0).toNat:Int)=rhS b:=by rw[aAh]<;>first | rfl | omega
  have t4:Int.toNat (4:Int)=4:=rfl
  have t5:Int.toNat (5:Int)=5:=rfl
  have t24:Int.toNat (24:Int)=24:=rfl
  have eB:aAq b 8 8=rhB b:=rfl
  have eL:aAq b 16 4=rhL b:=rfl
  simp only[t4,t5,t24,w4,w5,eB,eL,List.drop_zero]
  by_cases h24:(b.length:Int)<24
  ·have ho:aA8 b=false:=by unfold aA8;rw[decide_eq_false (by omega)];rfl
   simp[aA0,aA2,aA1,h24,ho,ifI]
  ·have g1:(4:Int)<b.length:=by omega
   have g2:(5:Int)<b.length:=by omega
   have g3:(24:Int)≤b.length:=by omega
   have g4:24≤b.length:=by omega
   by_cases h8:aD2 b 8 8=true
   ·by_cases ht:aB6 (rhV b) (rhS b) (rhB b) (rhL b)=b.take 24
    ·have ho:aA8 b=true:=by unfold aA8;rw[decide_eq_true g4,h8,decide_eq_true ht];rfl
     have hb:(aB6 (rhV b) (rhS b) (rhB b) (rhL b)==b.take 24)=true:=by rw[ht];simp
     by_cases h16:aD2 b 16 4=true<;>simp[aA0,aA2,aA1,h24,h8,h16,h1,g1,g2,g3,t4,t5,t24,w4,w5,eB,eL,ht,ho,ifI]
    ·have ho:aA8 b=false:=by unfold aA8;rw[decide_eq_true g4,h8,decide_eq_false ht];rfl
     by_cases h16:aD2 b 16 4=true<;>simp[aA0,aA2,aA1,h24,h8,h16,h1,g1,g2,g3,t4,t5,t24,w4,w5,eB,eL,ht,ho,ifI]
   ·have ho:aA8 b=false:=by unfold aA8;rw[Bool.eq_false_iff.2 h8];simp
    by_cases h16:aD2 b 16 4=true<;>simp[aA0,aA2,aA1,h24,h8,h16,h1,g1,g2,g3,t4,t5,t24,ho,ifI]<;>(intros;simp_all)
 ·cases h
noncomputable section
def aCm:Nat→Nat→List UInt8
 |0,_=>[]
 |k+1,n=>if n<128 then[UInt8.ofNat n]else UInt8.ofNat (n % 128+128)::aCm k (n / 128)
def aAr (n:Int):List UInt8:=if inB n 0 1000000000 then aCm 5 n.toNat else[]
def aD3:aC0:=fun cs=>match cs with
 |[.int .i64 n]=>some (true,[.str (aAr n)])
 |_=>none
def aMd (n:Int) (m:Nat) (r:List (List C)):St:=st1 [(0,aB0 n),(3,.l (.ref 0 0 m))] 1 r
def aMj (n:Int) (m:Nat) (r:List (List C)):St:=st1 [(0,aB0 n),(3,.l (.ref 0 0 m))] 1 r
def aMr:Env:=mkE [(4,[0,3])] [(53,(sg [pI,pI,pI] [rB]),aE0)]
def aMz:Env:=mkE [(4,[0,3])] [(97,(sg [pI] [rB]),aCg)]
def bOr (b:List UInt8) (at':Nat):Nat→Nat→Nat→Option (Nat×Nat)
 |0,_,_=>none
 |f+1,k,n=>if at'+k<b.length then
   if (b.getD (at'+k) 0).toNat<128 then
    if (k>0∧(b.getD (at'+k) 0).toNat=0)∨1000000000<n+(b.getD (at'+k) 0).toNat*128^k then none else some (n+(b.getD (at'+k) 0).toNat*128^k,at'+k+1)
   else bOr b at' f (k+1) (n+((b.getD (at'+k) 0).toNat-128)*128^k)
  else none
def aIb (b:List UInt8) (at':Int):Option (Nat×Nat):=if 0≤at' then bOr b at'.toNat 5 0 0 else none
def bMf (b:List UInt8) (at':Int):Bool:=(aIb b at').isSome
def rvN (b:List UInt8) (at':Int):Int:=match aIb b at' with | some p=>p.1 | none=>0
def aCh (b:List UInt8) (at':Int):Int:=match aIb b at' with | some p=>p.2 | none=>0
def aFs:aC0:=fun cs=>match cs with
 |[.str b,.int .i64 a]=>some (decide (b.length≤281474976710656)&&(decide (-9223372036854775808≤a)&&decide (a≤9223372036854775807)),[.int .i64 (rvN b a),.int .i64 (aCh b a),.bool (bMf b a)])
 |_=>none
def aMg (b:List UInt8) (a n i:Int):St:=st0 [(0,bEe b),(1,aB0 a),(7,aB0 n),(8,aB0 i)]
def aMm (b:List UInt8) (a n i:Int):St:=st0 [(0,bEe b),(1,aB0 a),(7,aB0 n),(10,aB0 i)]
def aMv:Env:=mkE [(5,[0,1,7,8])] [(53,(sg [pI,pI,pI] [rB]),aE0),(152,(sg [pI] [rS]),aD3)]
def aN2:Env:=mkE [(3,[0,1,7,10])] [(78,(sg [pI,pI,pI] [rB]),aE0),(97,(sg [pI] [rB]),aCg)]
end
theorem bB2 (H:List Pt→Nat→St→T (List C)) (n:Int):aAe aMr aAb (sg [pI] [rS]) Tryz.f152 H [C.int .i64 n]=(.must true (.must true (.must true (.must true (.ask (inB n 0 1000000000) (H [Pt.r,Pt.r,Pt.r,Pt.l,Pt.b] 9223372036854775808 (aMd (n) (0) ([]))) (.must true (.ret [C.str []]))))))):=by kernel_rfl
theorem bCl (H:List Pt→Nat→St→T (List C)) (n:Int):aAe aMz aAb (sg [pI] [rS]) Tryz.f182 H [C.int .i64 n]=(.must true (.must true (.must true (.must true (.ask (inB n 0 1000000000) (H [Pt.r,Pt.r,Pt.r,Pt.l,Pt.b] 9223372036854775808 (aMj (n) (0) ([]))) (.must true (.ret [C.str []]))))))):=by kernel_rfl
theorem aKs (H:List Pt→Nat→St→T (List C)) (n:Int) (q:Nat) (r:List (List C)) (k:Nat):aB3 aMr aAb (sg [pI] [rS]) Tryz.f152 H [Pt.r,Pt.r,Pt.r,Pt.l,Pt.b] k (aMd n q r)=(.ask (decide ((127:Int)<n)) (.must (decide (q=r.length)&&aBg (r.length+1) 1&&(decide (1=1)&&true)) (.must true (H [Pt.r,Pt.r,Pt.r,Pt.l,Pt.b] k (aMd (aKk .i64 n 7) (r.length+1) (r.append [[C.int .u8 (IntKind.u8.wrap (ior .i64 (aIf .i64 n 127) 128))]]))))) (.must (decide (q=r.length)&&aBg (r.length+1) 1&&(decide (1=1)&&true)) (.must ((List.take (r.length+1) (r.append [[C.int .u8 (IntKind.u8.wrap n)]])).all aFv) (.must true (.ret [C.str (aCl (List.take (r.length+1) (r.append [[C.int .u8 (IntKind.u8.wrap n)]])))]))))):=by kernel_rfl
theorem aLa (H:List Pt→Nat→St→T (List C)) (n:Int) (q:Nat) (r:List (List C)) (k:Nat):aB3 aMz aAb (sg [pI] [rS]) Tryz.f182 H [Pt.r,Pt.r,Pt.r,Pt.l,Pt.b] k (aMj n q r)=(.ask (decide ((128:Int)≤n)) (.must (decide (q=r.length)&&aBg (r.length+1) 1&&(decide (1=1)&&true)) (.must true (H [Pt.r,Pt.r,Pt.r,Pt.l,Pt.b] k (aMj (aKk .i64 n 7) (r.length+1) (r.append [[C.int .u8 (ior .u8 (IntKind.u8.wrap n) 128)]]))))) (.must (decide (q=r.length)&&aBg (r.length+1) 1&&(decide (1=1)&&true)) (.must ((List.take (r.length+1) (r.append [[C.int .u8 (IntKind.u8.wrap n)]])).all aFv) (.must true (.ret [C.str (aCl (List.take (r.length+1) (r.append [[C.int .u8 (IntKind.u8.wrap n)]])))]))))):=by kernel_rfl
theorem bBc (H:List Pt→Nat→St→T (List C)) (b:List UInt8) (a:Int):aAe aMv aAb (sg [pS,pI] [rI,rI,rB]) Tryz.f150 H [C.str b,C.int .i64 a]=(.must true (.must true (.must true (.must true (.ask (inB a 0 (↑b.length:Int)) (H [Pt.r,Pt.r,Pt.r,Pt.l,Pt.r,Pt.b] 9223372036854775808 (aMg (b) (a) ((0:Int)) ((0:Int)))) (.must true (.ret [C.int .i64 0,C.int .i64 0,C.bool false]))))))):=by kernel_rfl
theorem bCt (H:List Pt→Nat→St→T (List C)) (b:List UInt8) (a:Int):aAe aN2 aAb (sg [pS,pI] [rI,rI,rB]) Tryz.f159 H [C.str b,C.int .i64 a]=(.must true (H [Pt.r,Pt.r,Pt.l,Pt.r,Pt.b] 9223372036854775808 (aMm (b) (a) ((0:Int)) ((0:Int))))):=by kernel_rfl
theorem aUn (H:List Pt→Nat→St→T (List C)) (b:List UInt8) (a:Int) (n:Int) (i:Int) (k:Nat):aB3 aMv aAb (sg [pS,pI] [rI,rI,rB]) Tryz.f150 H [Pt.r,Pt.r,Pt.r,Pt.l,Pt.r,Pt.b] k (aMg b a n i)=(.ask (decide (i<(5:Int))) (.ask (decide (IntKind.i64.wrap (a+i)<(↑b.length:Int))) (.must (decide ((0:Int)≤IntKind.i64.wrap (a+i))&&decide (IntKind.i64.wrap (a+i)<(↑b.length:Int))) (.must (decide ((0:Int)≤IntKind.u64.wrap (IntKind.i64.wrap ((7:Int)*i)))) (.ask (decide (IntKind.i64.wrap (↑(b.getD (IntKind.i64.wrap (a+i)).toNat (0:UInt8)).toNat:Int)<(128:Int))) (.must true (.must true (.must true (.ask (aAr (ior .i64 n (aX9 .i64 (aIf .i64 (IntKind.i64.wrap (↑(b.getD (IntKind.i64.wrap (a+i)).toNat (0:UInt8)).toNat:Int)) (127:Int)) (IntKind.u64.wrap (IntKind.i64.wrap ((7:Int)*i)))))==[]) (.must true (.ret [C.int .i64 0,C.int .i64 0,C.bool false])) (.must (decide ((0:Int)≤IntKind.i64.wrap (IntKind.i64.wrap (a+i)+(1:Int)))&&decide (IntKind.i64.wrap (IntKind.i64.wrap (a+i)+(1:Int))≤(↑b.length:Int))&&(decide ((0:Int)≤a)&&decide (a≤IntKind.i64.wrap (IntKind.i64.wrap (a+i)+(1:Int))))) (.ask (!aAr (ior .i64 n (aX9 .i64 (aIf .i64 (IntKind.i64.wrap (↑(b.getD (IntKind.i64.wrap (a+i)).toNat (0:UInt8)).toNat:Int)) (127:Int)) (IntKind.u64.wrap (IntKind.i64.wrap ((7:Int)*i)))))==List.drop a.toNat (List.take (IntKind.i64.wrap (IntKind.i64.wrap (a+i)+(1:Int))).toNat b)) (.must true (.ret [C.int .i64 0,C.int .i64 0,C.bool false])) (.must true (.ret [C.int .i64 (ior .i64 n (aX9 .i64 (aIf .i64 (IntKind.i64.wrap (↑(b.getD (IntKind.i64.wrap (a+i)).toNat (0:UInt8)).toNat:Int)) (127:Int)) (IntKind.u64.wrap (IntKind.i64.wrap ((7:Int)*i))))),C.int .i64 (IntKind.i64.wrap (IntKind.i64.wrap (a+i)+(1:Int))),C.bool true])))))))) (H [Pt.r,Pt.r,Pt.r,Pt.l,Pt.r,Pt.b] k (aMg (b) (a) (ior .i64 n (aX9 .i64 (aIf .i64 (IntKind.i64.wrap (↑(b.getD (IntKind.i64.wrap (a+i)).toNat (0:UInt8)).toNat:Int)) (127:Int)) (IntKind.u64.wrap (IntKind.i64.wrap ((7:Int)*i))))) (IntKind.i64.wrap (i+(1:Int)))))))) (.must true (.ret [C.int .i64 0,C.int .i64 0,C.bool false]))) (.must true (.ret [C.int .i64 0,C.int .i64 0,C.bool false]))):=by kernel_rfl
theorem aLc (H:List Pt→Nat→St→T (List C)) (b:List UInt8) (a:Int) (n:Int) (i:Int) (k:Nat):aB3 aN2 aAb (sg [pS,pI] [rI,rI,rB]) Tryz.f159 H [Pt.r,Pt.r,Pt.l,Pt.r,Pt.b] k (aMm b a n i)=(.ask (decide (i<(5:Int))) (.must true (.must true (.must true (.ask (inB a 0 (IntKind.i64.wrap (IntKind.i64.wrap ((↑b.length:Int)-(1:Int))-i))) (.must (decide ((0:Int)≤IntKind.i64.wrap (a+i))&&decide (IntKind.i64.wrap (a+i)<(↑b.length:Int))) (.must (decide ((0:Int)≤IntKind.i64.wrap ((7:Int)*i))) (.ask (decide ((128:Int)≤IntKind.i64.wrap (↑(b.getD (IntKind.i64.wrap (a+i)).toNat (0:UInt8)).toNat:Int))) (H [Pt.r,Pt.r,Pt.l,Pt.r,Pt.b] k (aMm (b) (a) (ior .i64 n (aX9 .i64 (aIf .i64 (IntKind.i64.wrap (↑(b.getD (IntKind.i64.wrap (a+i)).toNat (0:UInt8)).toNat:Int)) (127:Int)) (IntKind.i64.wrap ((7:Int)*i)))) (IntKind.i64.wrap (i+(1:Int))))) (.ask (decide ((0:Int)<i)) (.ask (decide (IntKind.i64.wrap (↑(b.getD (IntKind.i64.wrap (a+i)).toNat (0:UInt8)).toNat:Int)=(0:Int))) (.must true (.ret [C.int .i64 0,C.int .i64 0,C.bool false])) (.must true (.must true (.must true (.ask (inB (ior .i64 n (aX9 .i64 (aIf .i64 (IntKind.i64.wrap (↑(b.getD (IntKind.i64.wrap (a+i)).toNat (0:UInt8)).toNat:Int)) (127:Int)) (IntKind.i64.wrap ((7:Int)*i)))) (0:Int) (1000000000:Int)) (.must true (.ret [C.int .i64 (ior .i64 n (aX9 .i64 (aIf .i64 (IntKind.i64.wrap (↑(b.getD (IntKind.i64.wrap (a+i)).toNat (0:UInt8)).toNat:Int)) (127:Int)) (IntKind.i64.wrap ((7:Int)*i)))),C.int .i64 (IntKind.i64.wrap (IntKind.i64.wrap (a+i)+(1:Int))),C.bool true])) (.must true (.ret [C.int .i64 0,C.int .i64 0,C.bool false]))))))) (.must true (.must true (.must true (.ask (inB (ior .i64 n (aX9 .i64 (aIf .i64 (IntKind.i64.wrap (↑(b.getD (IntKind.i64.wrap (a+i)).toNat (0:UInt8)).toNat:Int)) (127:Int)) (IntKind.i64.wrap ((7:Int)*i)))) (0:Int) (1000000000:Int)) (.must true (.ret [C.int .i64 (ior .i64 n (aX9 .i64 (aIf .i64 (IntKind.i64.wrap (↑(b.getD (IntKind.i64.wrap (a+i)).toNat (0:UInt8)).toNat:Int)) (127:Int)) (IntKind.i64.wrap ((7:Int)*i)))),C.int .i64 (IntKind.i64.wrap (IntKind.i64.wrap (a+i)+(1:Int))),C.bool true])) (.must true (.ret [C.int .i64 0,C.int .i64 0,C.bool false])))))))))) (.must true (.ret [C.int .i64 0,C.int .i64 0,C.bool false])))))) (.must true (.ret [C.int .i64 0,C.int .i64 0,C.bool false]))):=by kernel_rfl
theorem bKr (s:Int):aIf .i64 s 127=s % 128:=by
 show IntKind.i64.wrap (((BitVec.ofInt 64 s&&&BitVec.ofInt 64 127).toNat:Nat):Int)=_
 rw[BitVec.toNat_and]
 have h1:(BitVec.ofInt 64 127).toNat=2^7-1:=by decide
 have h2:(BitVec.ofInt 64 s).toNat=(s % 18446744073709551616).toNat:=by simp[BitVec.toNat_ofInt]
 rw[h1,h2,Nat.and_two_pow_sub_one_eq_mod,aAh]<;>omega
theorem bRy:∀ x:Fin 256,x.val|||128=x.val % 128+128:=by decide +kernel
theorem bMr (n:Nat):ior .u8 (IntKind.u8.wrap (n:Int)) 128=((n % 128+128:Nat):Int):=by
 rw[aPz]
 show IntKind.u8.wrap (((BitVec.ofInt 8 ((n:Int) % 256)|||BitVec.ofInt 8 128).toNat:Nat):Int)=_
 rw[BitVec.toNat_or]
 have h1:(BitVec.ofInt 8 128).toNat=128:=by decide
 have h2:(BitVec.ofInt 8 ((n:Int) % 256)).toNat=n % 256:=by simp[BitVec.toNat_ofInt];omega
 have h3:=bRy ⟨n % 256,by omega⟩
 simp only[]at h3
 rw[h1,h2,h3,aKl]<;>omega
theorem bGq (n:Nat):IntKind.u8.wrap (ior .i64 ((n % 128:Nat):Int) 128)=((n % 128+128:Nat):Int):=by
 have:=aP3 (n % 128) 1 7 (by omega) (by omega) ((n % 128:Nat):Int) 128 (by omega) (by omega)
 rw[this,aAh (by omega) (by omega),aKl]<;>omega
theorem aD7 (f n:Nat) (h:n<128):aCm (f+1) n=[UInt8.ofNat n]:=by simp[aCm,h]
theorem aF2 (f n:Nat) (h:¬n<128):aCm (f+1) n=UInt8.ofNat (n % 128+128)::aCm f (n / 128):=by simp[aCm,h]
theorem bB3:∀ (f n m:Nat) (l:List UInt8),n<128^(f+1)→n≤1000000000→l.length≤100-f→f≤100→f<m →
  (aBl aMr aAb (sg [pI] [rS]) Tryz.f152 [.r,.r,.r,.l,.b] m (aMd n l.length (aAa l))).eval=some [.str (l++aCm (f+1) n)]:=by
 intro f
 induction f with
 |zero =>
  intro n m l h1 hn h2 h3 h4
  cases m with
  |zero=>omega
  |succ m =>
   rw[aAo _ _ _ _ _ _ _ (by kernel_rfl),aKs]
   have c:¬((127:Int)<(n:Int)):=by omega
   have hr:aBg (l.length+1) 1=true:=by simp only[aBg,decide_eq_true_eq];omega
   have u:IntKind.u8.wrap (n:Int)=(n:Nat):=by rw[aKl]<;>omega
   have tk:(aAa (l++[UInt8.ofNat n])).take (l.length+1)=aAa (l++[UInt8.ofNat n]):=List.take_of_length_le (by rw[aB9];simp)
   simp only[aA0,aA2,aA1,if_true,decide_eq_true_eq,Bool.and_eq_true,c,if_false,aB9,hr,and_self,u,aFq l n (by omega),tk,aE8,aGr,aD7 0 n (by omega)]
 |succ f ih =>
  intro n m l h1 hn h2 h3 h4
  cases m with
  |zero=>omega
  |succ m =>
   rw[aAo _ _ _ _ _ _ _ (by kernel_rfl),aKs]
   have hr:aBg (l.length+1) 1=true:=by simp only[aBg,decide_eq_true_eq];omega
   by_cases hc:n<128
   ·have c:¬((127:Int)<(n:Int)):=by omega
    have u:IntKind.u8.wrap (n:Int)=(n:Nat):=by rw[aKl]<;>omega
    have tk:(aAa (l++[UInt8.ofNat n])).take (l.length+1)=aAa (l++[UInt8.ofNat n]):=List.take_of_length_le (by rw[aB9];simp)
    simp only[aA0,aA2,aA1,if_true,decide_eq_true_eq,Bool.and_eq_true,c,if_false,aB9,hr,and_self,u,aFq l n (by omega),tk,aE8,aGr,aD7 _ n hc]
   ·have c:(127:Int)<(n:Int):=by omega
    have d:aKk .i64 (n:Int) 7=((n / 128:Nat):Int):=aH4 n 7 (by omega)
    have i1:aIf .i64 (n:Int) 127=((n % 128:Nat):Int):=by rw[bKr];omega
    have e:=ih (n / 128) m (l++[UInt8.ofNat (n % 128+128)]) (by rw[Nat.pow_succ]at h1;exact Nat.div_lt_of_lt_mul (by omega)) (by omega) (by simp;omega) (by omega) (by omega)
    rw[aF2 _ n hc]
    simp only[aA0,aA2,aA1,if_true,decide_eq_true_eq,Bool.and_eq_true,c,aB9,hr,and_self,d,i1,bGq,bMr,aFq l (n % 128+128) (by omega)]
    rw[List.length_append,List.append_assoc]at e
    exact e
theorem bOd:aA6 Tryz.prog aMr:=aA5 (by simp[aDd])
theorem aI9:aAm Tryz.prog 152 (sg [pI] [rS]) aD3:=aA3 bOd aA7 Tryz.func152 (by kernel_rfl) fun cs outs hk h=>by
 unfold aD3 at h
 split at h
 ·simp only[Option.some.injEq,Prod.mk.injEq,true_and]at h
  rename_i n
  rw[←h,aA9,bB2]
  by_cases hn:inB n 0 1000000000=true
  ·have hn':=(aBb _ _ _).1 hn
   obtain⟨n,rfl⟩:=Int.eq_ofNat_of_zero_le hn'.1
   have lp:=bB3 4 n 9223372036854775808 [] (by omega) (by omega) (by simp) (by omega) (by omega)
   simp only[aA0,aA2,if_true,hn,aAr,Int.toNat_natCast]
   exact lp
  ·simp[aA0,aA2,aA1,hn,aAr]
 ·cases h
theorem bCm:∀ (f n m:Nat) (l:List UInt8),n<128^(f+1)→n≤1000000000→l.length≤100-f→f≤100→f<m →
  (aBl aMz aAb (sg [pI] [rS]) Tryz.f182 [.r,.r,.r,.l,.b] m (aMj n l.length (aAa l))).eval=some [.str (l++aCm (f+1) n)]:=by
 intro f
 induction f with
 |zero =>
  intro n m l h1 hn h2 h3 h4
  cases m with
  |zero=>omega
  |succ m =>
   rw[aAo _ _ _ _ _ _ _ (by kernel_rfl),aLa]
   have c:¬((128:Int)≤(n:Int)):=by omega
   have hr:aBg (l.length+1) 1=true:=by simp only[aBg,decide_eq_true_eq];omega
   have u:IntKind.u8.wrap (n:Int)=(n:Nat):=by rw[aKl]<;>omega
   have tk:(aAa (l++[UInt8.ofNat n])).take (l.length+1)=aAa (l++[UInt8.ofNat n]):=List.take_of_length_le (by rw[aB9];simp)
   simp only[aA0,aA2,aA1,if_true,decide_eq_true_eq,Bool.and_eq_true,c,if_false,aB9,hr,and_self,u,aFq l n (by omega),tk,aE8,aGr,aD7 0 n (by omega)]
 |succ f ih =>
  intro n m l h1 hn h2 h3 h4
  cases m with
  |zero=>omega
  |succ m =>
   rw[aAo _ _ _ _ _ _ _ (by kernel_rfl),aLa]
   have hr:aBg (l.length+1) 1=true:=by simp only[aBg,decide_eq_true_eq];omega
   by_cases hc:n<128
   ·have c:¬((128:Int)≤(n:Int)):=by omega
    have u:IntKind.u8.wrap (n:Int)=(n:Nat):=by rw[aKl]<;>omega
    have tk:(aAa (l++[UInt8.ofNat n])).take (l.length+1)=aAa (l++[UInt8.ofNat n]):=List.take_of_length_le (by rw[aB9];simp)
    simp only[aA0,aA2,aA1,if_true,decide_eq_true_eq,Bool.and_eq_true,c,if_false,aB9,hr,and_self,u,aFq l n (by omega),tk,aE8,aGr,aD7 _ n hc]
   ·have c:(128:Int)≤(n:Int):=by omega
    have d:aKk .i64 (n:Int) 7=((n / 128:Nat):Int):=aH4 n 7 (by omega)
    have i1:aIf .i64 (n:Int) 127=((n % 128:Nat):Int):=by rw[bKr];omega
    have e:=ih (n / 128) m (l++[UInt8.ofNat (n % 128+128)]) (by rw[Nat.pow_succ]at h1;exact Nat.div_lt_of_lt_mul (by omega)) (by omega) (by simp;omega) (by omega) (by omega)
    rw[aF2 _ n hc]
    simp only[aA0,aA2,aA1,if_true,decide_eq_true_eq,Bool.and_eq_true,c,aB9,hr,and_self,d,i1,bGq,bMr,aFq l (n % 128+128) (by omega)]
    rw[List.length_append,List.append_assoc]at e
    exact e
theorem bPf:aA6 Tryz.prog aMz:=aA5 (by simp[aC7])
theorem aIg:aAm Tryz.prog 182 (sg [pI] [rS]) aD3:=aA3 bPf aA7 Tryz.func182 (by kernel_rfl) fun cs outs hk h=>by
 unfold aD3 at h
 split at h
 ·simp only[Option.some.injEq,Prod.mk.injEq,true_and]at h
  rename_i n
  rw[←h,aA9,bCl]
  by_cases hn:inB n 0 1000000000=true
  ·have hn':=(aBb _ _ _).1 hn
   obtain⟨n,rfl⟩:=Int.eq_ofNat_of_zero_le hn'.1
   have lp:=bCm 4 n 9223372036854775808 [] (by omega) (by omega) (by simp) (by omega) (by omega)
   simp only[aA0,aA2,if_true,hn,aAr,Int.toNat_natCast]
   exact lp
  ·simp[aA0,aA2,aA1,hn,aAr]
 ·cases h
def aOk:List UInt8→Nat→Nat
 |[],x=>x
 |c::cs,x=>(c.toNat-128)+128*aOk cs x
def bJo:Option (Nat×Nat)→List C
 |some p=>[.int .i64 p.1,.int .i64 p.2,.bool true]
 |none=>[.int .i64 0,.int .i64 0,.bool false]
theorem aSv:∀ (cs:List UInt8) (x:Nat),aOk cs x=aOk cs 0+x*128^cs.length
 |[],x=>by simp[aOk]
 |c::cs,x=>by
  have:=aSv cs x
  simp only[aOk,List.length_cons,Nat.pow_succ,this]
  rw[Nat.mul_add,←Nat.add_assoc,Nat.mul_left_comm,Nat.mul_comm 128 (128^cs.length)]
theorem bEl:∀ (cs:List UInt8) (c:UInt8) (x:Nat),aOk (cs++[c]) x=aOk cs (c.toNat-128+128*x)
 |[],c,x=>by simp[aOk]
 |d::cs,c,x=>by simp only[List.cons_append,aOk,bEl cs c x]
theorem bQk:∀ (cs:List UInt8),aOk cs 0<128^cs.length
 |[]=>by simp[aOk]
 |c::cs=>by
  have:=bQk cs
  have hc:=c.toNat_lt
  simp only[aOk,List.length_cons,Nat.pow_succ]
  omega
theorem aOj:∀ (cs:List UInt8) (x f:Nat),(∀ c,c∈cs→128≤c.toNat)→x<128→(cs=[]∨0<x)→cs.length<f→aCm f (aOk cs x)=cs++[UInt8.ofNat x]
 |[],x,f,_,hx,_,hf=>by
  obtain⟨g,rfl⟩:∃ g,f=g+1:=⟨f-1,by simp at hf;omega⟩
  exact aD7 g x hx
 |c::cs,x,f,hc,hx,h0,hf=>by
  obtain⟨g,rfl⟩:∃ g,f=g+1:=⟨f-1,by simp at hf;omega⟩
  have hx0:0<x:=by rcases h0 with h | h;cases h;exact h
  have c1:=hc c List.mem_cons_self
  have c2:=c.toNat_lt
  have hv:0<aOk cs x:=by
   rw[aSv]
   have:0<128^cs.length:=Nat.pow_pos (by omega)
   have:0<x*128^cs.length:=Nat.mul_pos hx0 this
   omega
  have e1:((c.toNat-128)+128*aOk cs x) % 128+128=c.toNat:=by omega
  have e2:((c.toNat-128)+128*aOk cs x) / 128=aOk cs x:=by omega
  simp only[aOk]
  rw[aF2 g _ (by omega),e1,e2,aOj cs x g (fun d hd=>hc d (List.mem_cons_of_mem _ hd)) hx (.inr hx0) (by simp at hf;omega)]
  simp
theorem aRe:∀ (f n:Nat) (l:List UInt8),1≤n→aCm f n≠l++[0]
 |0,n,l,_=>by simp[aCm]
 |f+1,n,l,hn=>by
  by_cases h:n<128
  ·rw[aD7 f n h]
   intro e
   cases l with
   |nil =>
    simp at e
    have:=congrArg UInt8.toNat e
    rw[UInt8.toNat_ofNat_of_lt' (by show n<256;omega)]at this
    have h0:(0:UInt8).toNat=0:=rfl
    omega
   |cons a l=>simp at e
  ·rw[aF2 f n h]
   intro e
   cases l with
   |nil =>
    rw[List.nil_append,List.cons.injEq]at e
    have h1:=congrArg UInt8.toNat e.1
    rw[UInt8.toNat_ofNat_of_lt' (by show n % 128+128<256;omega)]at h1
    have h0:(0:UInt8).toNat=0:=rfl
    omega
   |cons a l =>
    simp at e
    exact aRe f (n / 128) l (by omega) e.2
theorem bRd (b:List UInt8) (a:Int):[C.int .i64 (rvN b a),C.int .i64 (aCh b a),C.bool (bMf b a)]=bJo (aIb b a):=by
 unfold rvN aCh bMf
 cases aIb b a with
 |none=>rfl
 |some p=>rfl
theorem bSm (n x i:Nat) (hn:n<128^i) (hx:x<256) (hi:i<5):ior .i64 (n:Int) (aX9 .i64 (aIf .i64 (x:Int) 127) ((7*i:Nat):Int))=((n+x % 128*128^i:Nat):Int):=by
 have hp:(2:Nat)^(7*i)=128^i:=by rw[Nat.pow_mul]
 have hq:128^i≤128^4:=Nat.pow_le_pow_right (by omega) (by omega)
 have hm:=aQt (aIf .i64 (x:Int) 127) (7*i) (by omega)
 have i1:aIf .i64 (x:Int) 127=((x % 128:Nat):Int):=by rw[bKr];omega
 have hmul:x % 128*128^i≤127*128^i:=Nat.mul_le_mul_right _ (by omega)
 rw[i1]at hm ⊢
 have hp2:((x % 128:Nat):Int)*2^(7*i)=((x % 128*128^i:Nat):Int):=by rw[←hp];simp
 rw[hp2]at hm
 have:=aP3 n (x % 128) (7*i) (by rw[hp];exact hn) (by rw[hp];omega) (n:Int) (aX9 .i64 ((x % 128:Nat):Int) ((7*i:Nat):Int)) (by omega) (by rw[hm,hp];omega)
 rw[this,hp,aAh (by omega) (by omega)]
theorem bCu (b:List UInt8) (a:Nat) (hb:b.length≤281474976710656) (ha:a≤9223372036854775807):∀ (m i n:Nat),i≤5→5<i+m→n<128^i →
  (aBl aN2 aAb (sg [pS,pI] [rI,rI,rB]) Tryz.f159 [.r,.r,.l,.r,.b] m (aMm b a n i)).eval=some (bJo (bOr b a (5-i) i n)):=by
 intro m
 induction m with
 |zero=>intro i n h1 h2 h3;omega
 |succ m ih =>
  intro i n h1 h2 h3
  rw[aAo _ _ _ _ _ _ _ (by kernel_rfl),aLc]
  by_cases hi:i<5
  ·have hs:5-i=(5-(i+1))+1:=by omega
   have w1:IntKind.i64.wrap (IntKind.i64.wrap ((b.length:Int)-1)-i)=(b.length:Int)-1-i:=by
    rw[aAh (x:=(b.length:Int)-1) (by omega) (by omega),aAh (by omega) (by omega)]
   have w2:IntKind.i64.wrap ((i:Int)+1)=((i+1:Nat):Int):=by rw[aAh]<;>omega
   have hi':(i:Int)<5:=by omega
   rw[hs]
   simp only[bOr]
   by_cases hl:a+i<b.length
   ·have hin:inB (a:Int) 0 ((b.length:Int)-1-i)=true:=(aBb _ _ _).2 ⟨by omega,by omega⟩
    have w3:IntKind.i64.wrap ((a:Int)+i)=((a+i:Nat):Int):=by rw[aAh]<;>omega
    have w4:IntKind.i64.wrap (7*(i:Int))=((7*i:Nat):Int):=by rw[aAh]<;>omega
    have z1:(0:Int)≤((a+i:Nat):Int):=by omega
    have z2:(0:Int)≤((7*i:Nat):Int):=by omega
    have hx:=aGn b (a+i)
    have w5:IntKind.i64.wrap ((b.getD (a+i) 0).toNat:Int)=((b.getD (a+i) 0).toNat:Int):=by rw[aAh]<;>omega
    have w6:IntKind.i64.wrap (((a+i:Nat):Int)+1)=((a+i+1:Nat):Int):=by rw[aAh]<;>omega
    have ho:=bSm n _ i h3 hx hi
    simp only[aA0,aA2,aA1,if_true,decide_eq_true_eq,Bool.and_eq_true,hi',w1,w2,w3,w4,w5,w6,hin,z1,z2,hl,Int.toNat_natCast,Int.ofNat_lt,and_self,ho]
    generalize (b.getD (a+i) 0).toNat=x at *
    have hpow:(0:Nat)<128^i:=Nat.pow_pos (by omega)
    by_cases hc:128≤x
    ·have hm:x % 128=x-128:=by omega
     have e:=ih (i+1) (n+(x-128)*128^i) (by omega) (by omega) (by
      have:(x-128)*128^i≤127*128^i:=Nat.mul_le_mul_right _ (by omega)
      rw[Nat.pow_succ];omega)
     rw[if_pos (show (128:Int)≤(x:Int) by omega),if_neg (show ¬x<128 by omega),hm]
     exact e
    ·have hm:x % 128=x:=by omega
     rw[if_neg (show ¬(128:Int)≤(x:Int) by omega),if_pos (show x<128 by omega),hm]
     by_cases h0:0<i∧x=0
     ·have hip:((0:Int)<i)=True:=eq_true (by omega)
      have hx0:((x:Int)=0)=True:=eq_true (by omega)
      simp only[hip,hx0,if_true]
      rw[if_pos (c:=(i>0∧x=0∨_)) (.inl ⟨h0.1,h0.2⟩)]
      rfl
     ·have hinn:inB ((n+x*128^i:Nat):Int) 0 1000000000=true↔¬1000000000<n+x*128^i:=by rw[aBb];omega
      have fin:(if inB ((n+x*128^i:Nat):Int) 0 1000000000=true then some [C.int .i64 ((n+x*128^i:Nat):Int),C.int .i64 ((a+i+1:Nat):Int),C.bool true]else some [C.int .i64 0,C.int .i64 0,C.bool false])=some (bJo (if i>0∧x=0∨1000000000<n+x*128^i then none else some (n+x*128^i,a+i+1))):=by
       by_cases hg:1000000000<n+x*128^i
       ·rw[if_neg (fun h=>(hinn.1 h) hg),if_pos (.inr hg)];rfl
       ·rw[if_pos (hinn.2 hg),if_neg (by omega)];rfl
      by_cases hip:(0:Int)<i
      ·have hx0:¬((x:Int)=0):=by omega
       rw[if_pos hip,if_neg hx0]
       exact fin
      ·rw[if_neg hip]
       exact fin
   ·have hin:¬(inB (a:Int) 0 ((b.length:Int)-1-i)=true):=fun h=>by have:=(aBb _ _ _).1 h;omega
    simp only[aA0,aA2,aA1,if_true,decide_eq_true_eq,hi',w1,hin,hl,if_false]
    rfl
  ·have:i=5:=by omega
   subst this
   simp[aA0,aA2,aA1,bOr,bJo]
theorem bPl:aA6 Tryz.prog aN2:=aA5 (by simp[aHg,aC7])
theorem aYm:aAm Tryz.prog 159 (sg [pS,pI] [rI,rI,rB]) aFs:=aA3 bPl aA7 Tryz.func159 (by kernel_rfl) fun cs outs hk h=>by
 unfold aFs at h
 split at h
 ·simp only[Option.some.injEq,Prod.mk.injEq,Bool.and_eq_true,decide_eq_true_eq]at h
  obtain⟨⟨h1,h2,h3⟩,rfl⟩:=h
  rename_i b a
  rw[aA9,bCt,bRd]
  simp only[aA0,if_true]
  by_cases ha:0≤a
  ·obtain⟨a,rfl⟩:=Int.eq_ofNat_of_zero_le ha
   have:=bCu b a h1 (by omega) 9223372036854775808 0 0 (by omega) (by omega) (by omega)
   simp only[aIb,ha,if_true,Int.toNat_natCast]
   exact this
  ·rw[aAo _ _ _ _ _ 9223372036854775807 _ (by kernel_rfl),aLc]
   have hin:¬(inB a 0 (IntKind.i64.wrap (IntKind.i64.wrap ((b.length:Int)-1)-0))=true):=fun h=>by have:=(aBb _ _ _).1 h;omega
   simp only[aA0,aA2,aA1,if_true,hin,aIb,ha,if_false,decide_eq_true_eq]
   rfl
 ·cases h
theorem bBd (b:List UInt8) (a:Nat) (hb:b.length≤281474976710656) (ha:a≤b.length):∀ (m i:Nat),i≤5→5<i+m→a+i≤b.length→(∀ c,c∈(b.drop a).take i→128≤c.toNat) →
  (aBl aMv aAb (sg [pS,pI] [rI,rI,rB]) Tryz.f150 [.r,.r,.r,.l,.r,.b] m (aMg b a (aOk ((b.drop a).take i) 0:Nat) i)).eval=some (bJo (bOr b a (5-i) i (aOk ((b.drop a).take i) 0))):=by
 intro m
 induction m with
 |zero=>intro i h1 h2 h3 h4;omega
 |succ m ih =>
  intro i h1 h2 h3 h4
  rw[aAo _ _ _ _ _ _ _ (by kernel_rfl),aUn]
  by_cases hi:i<5
  ·have hs:5-i=(5-(i+1))+1:=by omega
   have w2:IntKind.i64.wrap ((i:Int)+1)=((i+1:Nat):Int):=by rw[aAh]<;>omega
   have w3:IntKind.i64.wrap ((a:Int)+i)=((a+i:Nat):Int):=by rw[aAh]<;>omega
   have hi':(i:Int)<5:=by omega
   have hlen:((b.drop a).take i).length=i:=by simp;omega
   rw[hs]
   simp only[bOr]
   by_cases hl:a+i<b.length
   ·have w4:IntKind.i64.wrap (7*(i:Int))=((7*i:Nat):Int):=by rw[aAh]<;>omega
    have w4u:IntKind.u64.wrap ((7*i:Nat):Int)=((7*i:Nat):Int):=by rw[aNp]<;>omega
    have z1:(0:Int)≤((a+i:Nat):Int):=by omega
    have z2:(0:Int)≤((7*i:Nat):Int):=by omega
    have hx:=aGn b (a+i)
    have w5:IntKind.i64.wrap ((b.getD (a+i) 0).toNat:Int)=((b.getD (a+i) 0).toNat:Int):=by rw[aAh]<;>omega
    have w6:IntKind.i64.wrap (((a+i:Nat):Int)+1)=((a+i+1:Nat):Int):=by rw[aAh]<;>omega
    have hlt:=bQk ((b.drop a).take i)
    rw[hlen]at hlt
    have ho:=bSm _ _ i hlt hx hi
    have ee:(b.drop a).take (i+1)=(b.drop a).take i++[b.getD (a+i) 0]:=by
     rw[List.take_add_one]
     simp[List.getElem?_drop,List.getD_eq_getElem?_getD,hl]
    have ed:(b.take (a+i+1)).drop a=(b.drop a).take i++[b.getD (a+i) 0]:=by
     rw[←ee,List.take_drop]
     first | rfl | (congr 2;omega)
    have z3:((a+i+1:Nat):Int)≤(b.length:Int):=by omega
    have z4:(0:Int)≤((a+i+1:Nat):Int):=by omega
    have z5:(a:Int)≤((a+i+1:Nat):Int):=by omega
    have z6:(0:Int)≤(a:Int):=by omega
    have hl':((a+i:Nat):Int)<(b.length:Int):=by omega
    simp only[aA0,aA2,aA1,if_true,decide_eq_true_eq,Bool.and_eq_true,hi',w2,w3,w4,w4u,w5,w6,z1,z2,z3,z4,z5,z6,hl,hl',Int.toNat_natCast,and_self,ho,ed]
    by_cases hc:(b.getD (a+i) 0).toNat<128
    ·have hm:(b.getD (a+i) 0).toNat % 128=(b.getD (a+i) 0).toNat:=by omega
     have hlin:=aSv ((b.drop a).take i) (b.getD (a+i) 0).toNat
     rw[hlen]at hlin
     rw[if_pos (by omega),if_pos hc,hm,←hlin]
     have hvb:=aOj ((b.drop a).take i) (b.getD (a+i) 0).toNat 5 h4 hc
     have hof:UInt8.ofNat (b.getD (a+i) 0).toNat=b.getD (a+i) 0:=by simp
     rw[hof,hlen]at hvb
     by_cases hg:1000000000<aOk ((b.drop a).take i) (b.getD (a+i) 0).toNat
     ·have hvt:aAr ((aOk ((b.drop a).take i) (b.getD (a+i) 0).toNat:Nat):Int)=[]:=by
       unfold aAr;rw[if_neg];intro h;have:=(aBb _ _ _).1 h;omega
      rw[hvt,if_pos (by rfl),if_pos (.inr hg)]
      rfl
     ·have hvt:aAr ((aOk ((b.drop a).take i) (b.getD (a+i) 0).toNat:Nat):Int)=aCm 5 (aOk ((b.drop a).take i) (b.getD (a+i) 0).toNat):=by
       unfold aAr;rw[if_pos ((aBb _ _ _).2 ⟨by omega,by omega⟩),Int.toNat_natCast]
      rw[hvt]
      by_cases h0:0<i∧(b.getD (a+i) 0).toNat=0
      ·rw[if_pos (c:=(i>0∧(b.getD (a+i) 0).toNat=0∨_)) (.inl ⟨h0.1,h0.2⟩)]
       have hb0:b.getD (a+i) 0=0:=by have:=h0.2;exact UInt8.toNat_inj.1 (by simpa using this)
       have hne:aCm 5 (aOk ((b.drop a).take i) (b.getD (a+i) 0).toNat)≠(b.drop a).take i++[b.getD (a+i) 0]:=by
        rw[hb0]
        by_cases hv:1≤aOk ((b.drop a).take i) (0:UInt8).toNat
        ·exact aRe 5 _ _ hv
        ·have:aOk ((b.drop a).take i) (0:UInt8).toNat=0:=by omega
         rw[this]
         intro e
         have:=congrArg List.length e
         rw[aD7 4 0 (by omega)]at this
         simp at this
         omega
       have hb1:(aCm 5 (aOk ((b.drop a).take i) (b.getD (a+i) 0).toNat)==(b.drop a).take i++[b.getD (a+i) 0])=false:=by simpa using hne
       rw[hb1]
       split<;>rfl
      ·have hvb2:=hvb (by
        by_cases h:i=0
        ·left;exact List.length_eq_zero_iff.1 (by rw[hlen];exact h)
        ·right;omega) (by omega)
       rw[hvb2]
       have hnil:((b.drop a).take i++[b.getD (a+i) 0]==([]:List UInt8))=false:=by
        rw[beq_eq_false_iff_ne];simp
       have hcond:¬(i>0∧(b.getD (a+i) 0).toNat=0∨1000000000<aOk ((b.drop a).take i) (b.getD (a+i) 0).toNat):=by omega
       rw[hnil,if_neg hcond]
       simp[bJo]
    ·have hm:(b.getD (a+i) 0).toNat % 128=(b.getD (a+i) 0).toNat-128:=by omega
     have hsn:=bEl ((b.drop a).take i) (b.getD (a+i) 0) 0
     rw[Nat.mul_zero,Nat.add_zero,aSv ((b.drop a).take i) ((b.getD (a+i) 0).toNat-128),hlen]at hsn
     have e:=ih (i+1) (by omega) (by omega) (by omega) (by
      rw[ee]
      intro c hcm
      rcases List.mem_append.1 hcm with h | h
      ·exact h4 c h
      ·have:c=b.getD (a+i) 0:=by simpa using h
       rw[this];omega)
     rw[ee,hsn]at e
     rw[if_neg (by omega),if_neg hc,hm]
     exact e
   ·have hl':¬(((a+i:Nat):Int)<(b.length:Int)):=by omega
    simp only[aA0,aA2,aA1,if_true,decide_eq_true_eq,hi',w3,hl',hl,if_false]
    rfl
  ·have:i=5:=by omega
   subst this
   simp[aA0,aA2,aA1,bOr,bJo]
theorem bOk:aA6 Tryz.prog aMv:=aA5 (by simp[aDd,aI9])
theorem aXw:aAm Tryz.prog 150 (sg [pS,pI] [rI,rI,rB]) aFs:=aA3 bOk aA7 Tryz.func150 (by kernel_rfl) fun cs outs hk h=>by
 unfold aFs at h
 split at h
 ·simp only[Option.some.injEq,Prod.mk.injEq,Bool.and_eq_true,decide_eq_true_eq]at h
  obtain⟨⟨h1,h2,h3⟩,rfl⟩:=h
  rename_i b a
  rw[aA9,bBc,bRd]
  by_cases hin:inB a 0 (b.length:Int)=true
  ·have ha:=(aBb _ _ _).1 hin
   obtain⟨a,rfl⟩:=Int.eq_ofNat_of_zero_le ha.1
   have:=bBd b a h1 (by omega) 9223372036854775808 0 (by omega) (by omega) (by omega) (by simp)
   simp only[aA0,aA2,if_true,hin,aIb,ha.1,Int.toNat_natCast]
   exact this
  ·simp only[aA0,aA2,aA1,if_true,hin,aIb]
   by_cases ha:0≤a
   ·have:¬(a.toNat+0<b.length):=fun h=>hin ((aBb _ _ _).2 ⟨ha,by omega⟩)
    simp only[ha,if_true,bOr,this,if_false]
    rfl
   ·simp only[ha,if_false]
    rfl
 ·cases h
noncomputable section
def aEa (b t:List UInt8):Bool:=decide (b.take t.length=t)
def aFt:aC0:=fun cs=>match cs with
 |[.str b,.str t]=>some (true,[.bool (aEa b t)])
 |_=>none
def aPq:Env:=mkE [] []
def aS0:Env:=mkE [] [(172,(sg [pS,pS] [rB]),aFt)]
def aF0 (b:List UInt8) (at':Int) (t:List UInt8):Bool:=decide (0≤at'∧at'≤b.length∧(b.drop at'.toNat).take t.length=t)
def aP6:aC0:=fun cs=>match cs with
 |[.str b,.int .i64 a,.str t]=>some (true,[.bool (aF0 b a t)])
 |_=>none
def bNp:Env:=mkE [] [(78,(sg [pI,pI,pI] [rB]),aE0),(128,(sg [pS,pS] [rB]),aFt)]
def aEh (place n:Int):List UInt8:=aAg n 4++aAg (aAs 0 (aAg place 8++aAg n 4):Nat) 4
def aAc (v place:Int) (r:List UInt8):List UInt8 :=
 if inB v 1 2&&inB place 0 1000000000&&decide (r.length≤60)then (if v=2 then aEh place r.length else aAr r.length)++r++aAg (aAs 0 r:Nat) 4 else[]
def aAx (v place:Int):List UInt8 :=
 if inB v 1 2&&inB place 0 1000000000 then (if v=1 then[255,255,255,255,15]else aEh place 4294967295)else[]
def aFm (v place:Int) (b:List UInt8) (a:Int):Bool:=decide (aAx v place≠[])&&aF0 b a (aAx v place)
def aOp:aC0:=fun cs=>match cs with
 |[.int .i64 p,.int .i64 n]=>some (decide (-9223372036854775808≤p)&&decide (p≤9223372036854775807)&&(decide (-9223372036854775808≤n)&&decide (n≤9223372036854775807)),[.str (aEh p n)])
 |_=>none
def aGe:aC0:=fun cs=>match cs with
 |[.int .i64 v,.int .i64 p,.str r]=>some (decide (r.length≤281474976710656),[.str (aAc v p r)])
 |_=>none
def aE2:aC0:=fun cs=>match cs with
 |[.int .i64 v,.int .i64 p]=>some (true,[.str (aAx v p)])
 |_=>none
def aH1:aC0:=fun cs=>match cs with
 |[.int .i64 v,.int .i64 p,.str b,.int .i64 a]=>some (decide (b.length≤281474976710656),[.bool (aFm v p b a)])
 |_=>none
def bNo:Env:=mkE [] [(181,(sg [pS] [rI]),aDc),(161,(sg [pI,pI] [rS]),aFh)]
def aS1:Env:=mkE [] [(53,(sg [pI,pI,pI] [rB]),aE0),(151,(sg [pS] [rI]),aDc),(145,(sg [pI,pI] [rS]),aFh),(152,(sg [pI] [rS]),aD3)]
def aS6:Env:=mkE [] [(63,(sg [pI] [rB]),aEd),(181,(sg [pS] [rI]),aDc),(97,(sg [pI] [rB]),aCg),(161,(sg [pI,pI] [rS]),aFh),(182,(sg [pI] [rS]),aD3),(183,(sg [pI,pI] [rS]),aOp)]
def bAa:Env:=mkE [] [(53,(sg [pI,pI,pI] [rB]),aE0),(151,(sg [pS] [rI]),aDc),(145,(sg [pI,pI] [rS]),aFh)]
def bAd:Env:=mkE [] [(63,(sg [pI] [rB]),aEd),(97,(sg [pI] [rB]),aCg),(183,(sg [pI,pI] [rS]),aOp)]
def bI7:Env:=mkE [] [(53,(sg [pI,pI,pI] [rB]),aE0),(149,(sg [pI,pI] [rS]),aE2)]
def bIf:Env:=mkE [] [(158,(sg [pS,pI,pS] [rB]),aP6),(157,(sg [pI,pI] [rS]),aE2)]
end
theorem aSb (H:List Pt→Nat→St→T (List C)) (b:List UInt8) (t:List UInt8):aAe aPq aAb (sg [pS,pS] [rB]) Tryz.f172 H [C.str b,C.str t]=(.must true (.ask (decide ((↑t.length:Int)≤(↑b.length:Int))) (.must (decide ((0:Int)≤(↑t.length:Int))&&decide ((↑t.length:Int)≤(↑b.length:Int))) (.ask (List.drop 0 (List.take (↑t.length:Int).toNat b)==t) (.must true (.ret [C.bool true])) (.must true (.ret [C.bool false])))) (.must true (.ret [C.bool false])))):=by kernel_rfl
theorem aUv (H:List Pt→Nat→St→T (List C)) (b:List UInt8) (t:List UInt8):aAe aS0 aAb (sg [pS,pS] [rB]) Tryz.f128 H [C.str b,C.str t]=(.must true (.must true (.must true (.must true (.ask (aEa b t) (.must true (.ret [C.bool true])) (.must true (.ret [C.bool false]))))))):=by kernel_rfl
theorem bL9 (H:List Pt→Nat→St→T (List C)) (b:List UInt8) (a:Int) (t:List UInt8):aAe bNp aAb (sg [pS,pI,pS] [rB]) Tryz.f158 H [C.str b,C.int .i64 a,C.str t]=(.must true (.must true (.must true (.must true (.ask (inB a 0 (↑b.length:Int)) (.must (decide ((0:Int)≤a)&&decide (a≤(↑b.length:Int))) (.must true (.must true (.must true (.ask (aEa (List.drop a.toNat (List.take b.length b)) t) (.must true (.ret [C.bool true])) (.must true (.ret [C.bool false]))))))) (.must true (.ret [C.bool false]))))))):=by kernel_rfl
theorem bKv (H:List Pt→Nat→St→T (List C)) (p:Int) (n:Int):aAe bNo aAb (sg [pI,pI] [rS]) Tryz.f183 H [C.int .i64 p,C.int .i64 n]=(.must true (.must true (.must (decide ((-9223372036854775808:Int)≤n)&&decide (n≤(9223372036854775807:Int))) (.must true (.must true (.must (decide ((-9223372036854775808:Int)≤p)&&decide (p≤(9223372036854775807:Int))) (.must true (.must (decide ((aAg p 8).length+(aAg n 4).length≤9223372036854775807)) (.must true (.must (decide ((aAg p 8++aAg n 4).length≤281474976710656)) (.must true (.must true (.must (decide ((-9223372036854775808:Int)≤Int.ofNat (aAs 0 (aAg p 8++aAg n 4)))&&decide (Int.ofNat (aAs 0 (aAg p 8++aAg n 4))≤(9223372036854775807:Int))) (.must true (.must (decide ((aAg n 4).length+(aAg (Int.ofNat (aAs 0 (aAg p 8++aAg n 4))) (4:Int)).length≤9223372036854775807)) (.must true (.ret [C.str (aAg n 4++aAg (Int.ofNat (aAs 0 (aAg p 8++aAg n 4))) (4:Int))]))))))))))))))))):=by kernel_rfl
theorem aUw (H:List Pt→Nat→St→T (List C)) (v:Int) (p:Int) (r:List UInt8):aAe aS1 aAb (sg [pI,pI,pS] [rS]) Tryz.f117 H [C.int .i64 v,C.int .i64 p,C.str r]=(.must true (.must true (.must true (.must true (.ask (inB v 1 2) (.must true (.must true (.must true (.ask (inB p 0 1000000000) (.ask (decide ((60:Int)<(↑r.length:Int))) (.must true (.ret [C.str []])) (.must true (.must (decide (r.length≤281474976710656)) (.must true (.must true (.must (decide ((-9223372036854775808:Int)≤Int.ofNat (aAs 0 r))&&decide (Int.ofNat (aAs 0 r)≤(9223372036854775807:Int))) (.must true (.ask (decide (v=(1:Int))) (.must true (.must true (.must true (.must (decide ((aAr (↑r.length:Int)).length+r.length≤9223372036854775807)) (.must (decide ((aAr (↑r.length:Int)++r).length+(aAg (Int.ofNat (aAs 0 r)) (4:Int)).length≤9223372036854775807)) (.must true (.ret [C.str (aAr (↑r.length:Int)++r++aAg (Int.ofNat (aAs 0 r)) (4:Int))]))))))) (.must true (.must (decide ((-9223372036854775808:Int)≤(↑r.length:Int))&&decide ((↑r.length:Int)≤(9223372036854775807:Int))) (.must true (.must true (.must (decide ((-9223372036854775808:Int)≤p)&&decide (p≤(9223372036854775807:Int))) (.must true (.must (decide ((aAg p 8).length+(aAg (↑r.length:Int) 4).length≤9223372036854775807)) (.must true (.must (decide ((aAg p 8++aAg (↑r.length:Int) 4).length≤281474976710656)) (.must true (.must true (.must (decide ((-9223372036854775808:Int)≤Int.ofNat (aAs 0 (aAg p 8++aAg (↑r.length:Int) 4)))&&decide (Int.ofNat (aAs 0 (aAg p 8++aAg (↑r.length:Int) 4))≤(9223372036854775807:Int))) (.must true (.must (decide ((aAg (↑r.length:Int) 4).length+(aAg (Int.ofNat (aAs 0 (aAg p 8++aAg (↑r.length:Int) 4))) (4:Int)).length≤9223372036854775807)) (.must (decide ((aAg (↑r.length:Int) 4++aAg (Int.ofNat (aAs 0 (aAg p 8++aAg (↑r.length:Int) 4))) (4:Int)).length+r.length≤9223372036854775807)) (.must (decide ((aAg (↑r.length:Int) 4++aAg (Int.ofNat (aAs 0 (aAg p 8++aAg (↑r.length:Int) 4))) (4:Int)++r).length+(aAg (Int.ofNat (aAs 0 r)) (4:Int)).length≤9223372036854775807)) (.must true (.ret [C.str (aAg (↑r.length:Int) 4++aAg (Int.ofNat (aAs 0 (aAg p 8++aAg (↑r.length:Int) 4))) (4:Int)++r++aAg (Int.ofNat (aAs 0 r)) (4:Int))])))))))))))))))))))))))))) (.must true (.ret [C.str []])))))) (.must true (.ret [C.str []]))))))):=by kernel_rfl
theorem aVz (H:List Pt→Nat→St→T (List C)) (v:Int) (p:Int) (r:List UInt8):aAe aS6 aAb (sg [pI,pI,pS] [rS]) Tryz.f141 H [C.int .i64 v,C.int .i64 p,C.str r]=(.must true (.must true (.must true (.must true (.ask (inB v 1 2) (.must true (.must true (.must true (.ask (inB p 0 1000000000) (.ask (decide ((60:Int)<(↑r.length:Int))) (.must true (.ret [C.str []])) (.must true (.must true (.must true (.ask (decide (v=(2:Int))) (.must true (.must (decide ((-9223372036854775808:Int)≤p)&&decide (p≤(9223372036854775807:Int))&&(decide ((-9223372036854775808:Int)≤(↑r.length:Int))&&decide ((↑r.length:Int)≤(9223372036854775807:Int)))) (.must true (.must (decide ((aEh p (↑r.length:Int)).length+r.length≤9223372036854775807)) (.must true (.must (decide (r.length≤281474976710656)) (.must true (.must true (.must (decide ((-9223372036854775808:Int)≤Int.ofNat (aAs 0 r))&&decide (Int.ofNat (aAs 0 r)≤(9223372036854775807:Int))) (.must true (.must (decide ((aEh p (↑r.length:Int)++r).length+(aAg (Int.ofNat (aAs 0 r)) (4:Int)).length≤9223372036854775807)) (.must true (.ret [C.str (aEh p (↑r.length:Int)++r++aAg (Int.ofNat (aAs 0 r)) (4:Int))]))))))))))))) (.must (decide ((aAr (↑r.length:Int)).length+r.length≤9223372036854775807)) (.must true (.must (decide (r.length≤281474976710656)) (.must true (.must true (.must (decide ((-9223372036854775808:Int)≤Int.ofNat (aAs 0 r))&&decide (Int.ofNat (aAs 0 r)≤(9223372036854775807:Int))) (.must true (.must (decide ((aAr (↑r.length:Int)++r).length+(aAg (Int.ofNat (aAs 0 r)) (4:Int)).length≤9223372036854775807)) (.must true (.ret [C.str (aAr (↑r.length:Int)++r++aAg (Int.ofNat (aAs 0 r)) (4:Int))]))))))))))))))) (.must true (.ret [C.str []])))))) (.must true (.ret [C.str []]))))))):=by kernel_rfl
theorem bBq (H:List Pt→Nat→St→T (List C)) (v:Int) (p:Int):aAe bAa aAb (sg [pI,pI] [rS]) Tryz.f149 H [C.int .i64 v,C.int .i64 p]=(.must true (.must true (.must true (.must true (.ask (inB v 1 2) (.must true (.must true (.must true (.ask (inB p 0 1000000000) (.ask (decide (v=(1:Int))) (.must true (.ret [C.str [(255:UInt8),255,255,255,15]])) (.must true (.must true (.must true (.must true (.must (decide ((-9223372036854775808:Int)≤p)&&decide (p≤(9223372036854775807:Int))) (.must true (.must (decide ((aAg p 8).length+(3+1)≤9223372036854775807)) (.must true (.must (decide ((aAg p 8++aAg 4294967295 4).length≤281474976710656)) (.must true (.must true (.must (decide ((-9223372036854775808:Int)≤Int.ofNat (aAs 0 (aAg p 8++aAg 4294967295 4)))&&decide (Int.ofNat (aAs 0 (aAg p 8++aAg 4294967295 4))≤(9223372036854775807:Int))) (.must true (.must (decide (3+1+(aAg (Int.ofNat (aAs 0 (aAg p 8++aAg 4294967295 4))) (4:Int)).length≤9223372036854775807)) (.must true (.ret [C.str (aAg 4294967295 4++aAg (Int.ofNat (aAs 0 (aAg p 8++aAg 4294967295 4))) (4:Int))]))))))))))))))))) (.must true (.ret [C.str []])))))) (.must true (.ret [C.str []]))))))):=by kernel_rfl
theorem bD8 (H:List Pt→Nat→St→T (List C)) (v:Int) (p:Int):aAe bAd aAb (sg [pI,pI] [rS]) Tryz.f157 H [C.int .i64 v,C.int .i64 p]=(.must true (.must true (.must true (.must true (.ask (inB v 1 2) (.must true (.must true (.must true (.ask (inB p 0 1000000000) (.ask (decide (v=(1:Int))) (.must true (.ret [C.str [(255:UInt8),255,255,255,15]])) (.must true (.must (decide ((-9223372036854775808:Int)≤p)&&decide (p≤(9223372036854775807:Int))&&(decide ((-9223372036854775808:Int)≤(4294967295:Int))&&decide ((4294967295:Int)≤(9223372036854775807:Int)))) (.must true (.must true (.ret [C.str (aEh p 4294967295)])))))) (.must true (.ret [C.str []])))))) (.must true (.ret [C.str []]))))))):=by kernel_rfl
theorem bFa (H:List Pt→Nat→St→T (List C)) (v:Int) (p:Int) (b:List UInt8) (a:Int):aAe bI7 aAb (sg [pI,pI,pS,pI] [rB]) Tryz.f113 H [C.int .i64 v,C.int .i64 p,C.str b,C.int .i64 a]=(.must true (.must true (.must true (.must true (.ask (!aAx v p==[]) (.must true (.must true (.must true (.ask (inB a 0 (IntKind.i64.wrap ((↑b.length:Int)-(↑(aAx v p).length:Int)))) (.must (decide ((0:Int)≤IntKind.i64.wrap (a+(↑(aAx v p).length:Int)))&&decide (IntKind.i64.wrap (a+(↑(aAx v p).length:Int))≤(↑b.length:Int))&&(decide ((0:Int)≤a)&&decide (a≤IntKind.i64.wrap (a+(↑(aAx v p).length:Int))))) (.ask (List.drop a.toNat (List.take (IntKind.i64.wrap (a+(↑(aAx v p).length:Int))).toNat b)==aAx v p) (.must true (.ret [C.bool true])) (.must true (.ret [C.bool false])))) (.must true (.ret [C.bool false])))))) (.must true (.ret [C.bool false]))))))):=by kernel_rfl
theorem bGx (H:List Pt→Nat→St→T (List C)) (v:Int) (p:Int) (b:List UInt8) (a:Int):aAe bIf aAb (sg [pI,pI,pS,pI] [rB]) Tryz.f121 H [C.int .i64 v,C.int .i64 p,C.str b,C.int .i64 a]=(.must true (.must true (.must true (.must true (.ask (!aAx v p==[]) (.must true (.must true (.must true (.ask (aF0 b a (aAx v p)) (.must true (.ret [C.bool true])) (.must true (.ret [C.bool false])))))) (.must true (.ret [C.bool false]))))))):=by kernel_rfl
theorem bAz:aA6 Tryz.prog aPq:=aA5 (by simp[])
theorem aQ9:aAm Tryz.prog 172 (sg [pS,pS] [rB]) aFt:=aA3 bAz aA7 Tryz.func172 (by kernel_rfl) fun cs outs hk h=>by
 unfold aFt at h
 split at h
 ·simp only[Option.some.injEq,Prod.mk.injEq,true_and]at h
  rename_i b t
  rw[←h,aA9,aSb]
  simp only[aA0,aA2,aA1,if_true,decide_eq_true_eq,Bool.and_eq_true,Int.toNat_natCast,List.drop_zero,beq_iff_eq,Int.ofNat_le]
  by_cases hl:t.length≤b.length
  ·have z:(0:Int)≤(t.length:Int):=by omega
   by_cases he:b.take t.length=t
   ·have:aEa b t=true:=by unfold aEa;rw[decide_eq_true he]
    simp only[hl,z,he,if_true,and_self,this]
   ·have:aEa b t=false:=by unfold aEa;rw[decide_eq_false he]
    simp only[hl,z,he,if_true,if_false,and_self,this]
  ·have:aEa b t=false:=by
    unfold aEa
    rw[decide_eq_false]
    intro he
    have:=congrArg List.length he
    simp at this
    omega
   simp only[hl,if_false,this]
 ·cases h
theorem bFh:aA6 Tryz.prog aS0:=aA5 (by simp[aQ9])
theorem aK8:aAm Tryz.prog 128 (sg [pS,pS] [rB]) aFt:=aA3 bFh aA7 Tryz.func128 (by kernel_rfl) fun cs outs hk h=>by
 unfold aFt at h
 split at h
 ·simp only[Option.some.injEq,Prod.mk.injEq,true_and]at h
  rename_i b t
  rw[←h,aA9,aUv]
  by_cases hp:aEa b t=true<;>simp[aA0,aA2,aA1,hp]
 ·cases h
theorem aFf (b:List UInt8) (a:Int) (t:List UInt8):aF0 b a t=true↔(0≤a∧a≤b.length∧(b.drop a.toNat).take t.length=t):=by simp[aF0]
theorem bW2:aA6 Tryz.prog bNp:=aA5 (by simp[aHg,aK8])
theorem aRv:aAm Tryz.prog 158 (sg [pS,pI,pS] [rB]) aP6:=aA3 bW2 aA7 Tryz.func158 (by kernel_rfl) fun cs outs hk h=>by
 unfold aP6 at h
 split at h
 ·simp only[Option.some.injEq,Prod.mk.injEq,true_and]at h
  rename_i b a t
  rw[←h,aA9,bL9]
  simp only[aA0,aA2,aA1,if_true,decide_eq_true_eq,Bool.and_eq_true,List.take_length]
  by_cases hin:inB a 0 (b.length:Int)=true
  ·have hh:=(aBb _ _ _).1 hin
   have e:aF0 b a t=aEa (b.drop a.toNat) t:=by
    unfold aF0 aEa
    simp[hh]
   simp only[hin,hh,if_true,and_self,e]
   by_cases hp:aEa (b.drop a.toNat) t=true<;>simp[hp]
  ·have e:aF0 b a t=false:=by
    cases hx:aF0 b a t with
    |true=>have:=(aFf _ _ _).1 hx;exact absurd ((aBb _ _ _).2 ⟨this.1,this.2.1⟩) hin
    |false=>rfl
   simp only[hin,if_false,e]
   rfl
 ·cases h
theorem aRf:∀ (k n:Nat),(aCm k n).length≤k
 |0,_=>by simp[aCm]
 |k+1,n=>by
  by_cases h:n<128
  ·rw[aD7 k n h];simp
  ·rw[aF2 k n h];have:=aRf k (n / 128);simp;omega
theorem aCj (n:Int):(aAr n).length≤5:=by
 unfold aAr;split
 ·exact aRf 5 _
 ·simp
theorem aNy (p n:Int):(aEh p n).length≤16:=by
 unfold aEh
 have:=aB5 n 4
 have:=aB5 (aAs 0 (aAg p 8++aAg n 4):Nat) 4
 rw[List.length_append];omega
theorem aJp (v p:Int):(aAx v p).length≤16:=by
 unfold aAx
 have:=aNy p 4294967295
 split
 ·split
  ·simp
  ·exact this
 ·simp
theorem bVy:aA6 Tryz.prog bNo:=aA5 (by simp[aHy,aEk])
theorem aRs:aAm Tryz.prog 183 (sg [pI,pI] [rS]) aOp:=aA3 bVy aA7 Tryz.func183 (by kernel_rfl) fun cs outs hk h=>by
 unfold aOp at h
 split at h
 ·simp only[Option.some.injEq,Prod.mk.injEq,Bool.and_eq_true,decide_eq_true_eq]at h
  obtain⟨⟨⟨a1,a2⟩,a3,a4⟩,rfl⟩:=h
  rename_i p n
  rw[aA9,bKv]
  have l1:=aB5 p 8
  have l2:=aB5 n 4
  have l3:=aB5 (aAs 0 (aAg p 8++aAg n 4):Nat) 4
  have c1:=aDi 0 (aAg p 8++aAg n 4) (by omega)
  simp only[aA0,aA2,aA1,if_true,decide_eq_true_eq,Bool.and_eq_true,List.length_append,Int.ofNat_eq_natCast]
  repeat rw[if_pos (by omega)]
  rfl
 ·cases h
theorem bFk:aA6 Tryz.prog aS1:=aA5 (by simp[aDd,aHt,aEj,aI9])
theorem aK9:aAm Tryz.prog 117 (sg [pI,pI,pS] [rS]) aGe:=aA3 bFk aA7 Tryz.func117 (by kernel_rfl) fun cs outs hk h=>by
 unfold aGe at h
 split at h
 ·simp only[Option.some.injEq,Prod.mk.injEq,decide_eq_true_eq]at h
  obtain⟨h1,rfl⟩:=h
  rename_i v p r
  rw[aA9,aUw]
  by_cases hv:inB v 1 2=true
  ·by_cases hp:inB p 0 1000000000=true
   ·have hv':=(aBb _ _ _).1 hv
    have hp':=(aBb _ _ _).1 hp
    by_cases hr:(60:Int)<r.length
    ·have:¬r.length≤60:=by omega
     simp[aA0,aA2,aA1,hv,hp,hr,aAc,this]
    ·have hr':r.length≤60:=by omega
     have l1:=aB5 p 8
     have l2:=aB5 (r.length:Int) 4
     have l3:=aB5 (aAs 0 (aAg p 8++aAg (r.length:Int) 4):Nat) 4
     have l4:=aB5 (aAs 0 r:Nat) 4
     have l5:=aCj (r.length:Int)
     have c1:=aDi 0 (aAg p 8++aAg (r.length:Int) 4) (by omega)
     have c2:=aDi 0 r (by omega)
     by_cases h1:v=1
     ·have h1t:=eq_true h1
      have e:aAc v p r=aAr (r.length:Int)++r++aAg (aAs 0 r:Nat) 4:=by
       unfold aAc;rw[hv,hp,decide_eq_true hr',if_neg (show ¬v=2 by omega)];rfl
      rw[e]
      simp only[aA0,aA2,aA1,if_true,hv,hp,hr,h1t,if_false,decide_eq_true_eq,Bool.and_eq_true,List.length_append,Int.ofNat_eq_natCast]
      repeat rw[if_pos (by omega)]
     ·have e:aAc v p r=aEh p (r.length:Int)++r++aAg (aAs 0 r:Nat) 4:=by
       unfold aAc;rw[hv,hp,decide_eq_true hr',if_pos (show v=2 by omega)];rfl
      rw[e]
      unfold aEh
      simp only[aA0,aA2,aA1,if_true,hv,hp,hr,h1,if_false,decide_eq_true_eq,Bool.and_eq_true,List.length_append,Int.ofNat_eq_natCast]
      repeat rw[if_pos (by omega)]
   ·simp[aA0,aA2,aA1,hv,hp,aAc]
  ·simp[aA0,aA2,aA1,hv,aAc]
 ·cases h
theorem bH5:aA6 Tryz.prog aS6:=aA5 (by simp[aEm,aHy,aC7,aEk,aIg,aRs])
theorem aKg:aAm Tryz.prog 141 (sg [pI,pI,pS] [rS]) aGe:=aA3 bH5 aA7 Tryz.func141 (by kernel_rfl) fun cs outs hk h=>by
 unfold aGe at h
 split at h
 ·simp only[Option.some.injEq,Prod.mk.injEq,decide_eq_true_eq]at h
  obtain⟨h1,rfl⟩:=h
  rename_i v p r
  rw[aA9,aVz]
  by_cases hv:inB v 1 2=true
  ·by_cases hp:inB p 0 1000000000=true
   ·have hv':=(aBb _ _ _).1 hv
    have hp':=(aBb _ _ _).1 hp
    by_cases hr:(60:Int)<r.length
    ·have:¬r.length≤60:=by omega
     simp[aA0,aA2,aA1,hv,hp,hr,aAc,this]
    ·have hr':r.length≤60:=by omega
     have l1:=aNy p (r.length:Int)
     have l4:=aB5 (aAs 0 r:Nat) 4
     have l5:=aCj (r.length:Int)
     have c2:=aDi 0 r (by omega)
     by_cases h1:v=2
     ·have h1t:=eq_true h1
      have e:aAc v p r=aEh p (r.length:Int)++r++aAg (aAs 0 r:Nat) 4:=by
       unfold aAc;rw[hv,hp,decide_eq_true hr',if_pos h1];rfl
      rw[e]
      simp only[aA0,aA2,aA1,if_true,hv,hp,hr,h1t,if_false,decide_eq_true_eq,Bool.and_eq_true,List.length_append,Int.ofNat_eq_natCast]
      repeat rw[if_pos (by omega)]
     ·have e:aAc v p r=aAr (r.length:Int)++r++aAg (aAs 0 r:Nat) 4:=by
       unfold aAc;rw[hv,hp,decide_eq_true hr',if_neg h1];rfl
      rw[e]
      simp only[aA0,aA2,aA1,if_true,hv,hp,hr,h1,if_false,decide_eq_true_eq,Bool.and_eq_true,List.length_append,Int.ofNat_eq_natCast]
      repeat rw[if_pos (by omega)]
   ·simp[aA0,aA2,aA1,hv,hp,aAc]
  ·simp[aA0,aA2,aA1,hv,aAc]
 ·cases h
theorem bOq:aA6 Tryz.prog bAa:=aA5 (by simp[aDd,aHt,aEj])
theorem aNc:aAm Tryz.prog 149 (sg [pI,pI] [rS]) aE2:=aA3 bOq aA7 Tryz.func149 (by kernel_rfl) fun cs outs hk h=>by
 unfold aE2 at h
 split at h
 ·simp only[Option.some.injEq,Prod.mk.injEq,true_and]at h
  rename_i v p
  rw[←h,aA9,bBq]
  by_cases hv:inB v 1 2=true
  ·by_cases hp:inB p 0 1000000000=true
   ·have hp':=(aBb _ _ _).1 hp
    have l1:=aB5 p 8
    have l2:=aB5 4294967295 4
    have l3:=aB5 (aAs 0 (aAg p 8++aAg 4294967295 4):Nat) 4
    have c1:=aDi 0 (aAg p 8++aAg 4294967295 4) (by omega)
    by_cases h1:v=1
    ·have h1t:=eq_true h1
     have e:aAx v p=[255,255,255,255,15]:=by unfold aAx;rw[hv,hp,if_pos h1];rfl
     rw[e]
     simp only[aA0,aA2,aA1,if_true,hv,hp,h1t,decide_true]
    ·have e:aAx v p=aEh p 4294967295:=by unfold aAx;rw[hv,hp,if_neg h1];rfl
     rw[e]
     unfold aEh
     simp only[aA0,aA2,aA1,if_true,hv,hp,h1,if_false,decide_eq_true_eq,Bool.and_eq_true,List.length_append,Int.ofNat_eq_natCast]
     repeat rw[if_pos (by omega)]
   ·simp[aA0,aA2,aA1,hv,hp,aAx]
  ·simp[aA0,aA2,aA1,hv,aAx]
 ·cases h
theorem bPp:aA6 Tryz.prog bAd:=aA5 (by simp[aEm,aC7,aRs])
theorem aNj:aAm Tryz.prog 157 (sg [pI,pI] [rS]) aE2:=aA3 bPp aA7 Tryz.func157 (by kernel_rfl) fun cs outs hk h=>by
 unfold aE2 at h
 split at h
 ·simp only[Option.some.injEq,Prod.mk.injEq,true_and]at h
  rename_i v p
  rw[←h,aA9,bD8]
  by_cases hv:inB v 1 2=true
  ·by_cases hp:inB p 0 1000000000=true
   ·have hp':=(aBb _ _ _).1 hp
    by_cases h1:v=1
    ·have h1t:=eq_true h1
     have e:aAx v p=[255,255,255,255,15]:=by unfold aAx;rw[hv,hp,if_pos h1];rfl
     rw[e]
     simp[aA0,aA2,aA1,hv,hp,h1t]
    ·have e:aAx v p=aEh p 4294967295:=by unfold aAx;rw[hv,hp,if_neg h1];rfl
     rw[e]
     simp only[aA0,aA2,aA1,if_true,hv,hp,h1,if_false,decide_eq_true_eq,Bool.and_eq_true]
     repeat rw[if_pos (by omega)]
   ·simp[aA0,aA2,aA1,hv,hp,aAx]
  ·simp[aA0,aA2,aA1,hv,aAx]
 ·cases h
theorem bR8:aA6 Tryz.prog bI7:=aA5 (by simp[aDd,aNc])
theorem bBk:aAm Tryz.prog 113 (sg [pI,pI,pS,pI] [rB]) aH1:=aA3 bR8 aA7 Tryz.func113 (by kernel_rfl) fun cs outs hk h=>by
 unfold aH1 at h
 split at h
 ·simp only[Option.some.injEq,Prod.mk.injEq,decide_eq_true_eq]at h
  obtain⟨h1,rfl⟩:=h
  rename_i v p b a
  rw[aA9,bFa]
  have lm:=aJp v p
  unfold aFm
  generalize aAx v p=m at *
  by_cases hm:m=[]
  ·simp[aA0,aA2,aA1,hm]
  ·have hb:(!m==([]:List UInt8))=true:=by simpa using hm
   have w1:IntKind.i64.wrap ((b.length:Int)-(m.length:Int))=(b.length:Int)-m.length:=by rw[aAh]<;>omega
   simp only[aA0,aA2,aA1,if_true,hb,w1,decide_eq_true_eq,Bool.and_eq_true,beq_iff_eq]
   by_cases hin:inB a 0 ((b.length:Int)-m.length)=true
   ·have hh:=(aBb _ _ _).1 hin
    obtain⟨a,rfl⟩:=Int.eq_ofNat_of_zero_le hh.1
    have w2:IntKind.i64.wrap ((a:Int)+(m.length:Int))=((a+m.length:Nat):Int):=by rw[aAh]<;>omega
    have z1:(0:Int)≤((a+m.length:Nat):Int):=by omega
    have z2:((a+m.length:Nat):Int)≤b.length:=by omega
    have z3:(a:Int)≤((a+m.length:Nat):Int):=by omega
    have ed:(b.take (a+m.length)).drop a=(b.drop a).take m.length:=by
     rw[List.take_drop]
    simp only[hin,w2,z1,z2,z3,hh.1,if_true,and_self,Int.toNat_natCast,ed]
    by_cases he:(b.drop a).take m.length=m
    ·have:aF0 b a m=true:=(aFf _ _ _).2 ⟨by omega,by omega,by simpa using he⟩
     simp[he,this,hm]
    ·have:aF0 b a m=false:=by
      cases hx:aF0 b a m with
      |true=>exact absurd (by simpa using ((aFf _ _ _).1 hx).2.2) he
      |false=>rfl
     simp[he,this]
   ·have:aF0 b a m=false:=by
     cases hx:aF0 b a m with
     |true =>
      have hh:=(aFf _ _ _).1 hx
      have hl:=congrArg List.length hh.2.2
      simp at hl
      exact absurd ((aBb _ _ _).2 ⟨hh.1,by omega⟩) hin
     |false=>rfl
    simp[hin,this]
 ·cases h
theorem bSr:aA6 Tryz.prog bIf:=aA5 (by simp[aRv,aNj])
theorem bD1:aAm Tryz.prog 121 (sg [pI,pI,pS,pI] [rB]) aH1:=aA3 bSr aA7 Tryz.func121 (by kernel_rfl) fun cs outs hk h=>by
 unfold aH1 at h
 split at h
 ·simp only[Option.some.injEq,Prod.mk.injEq,decide_eq_true_eq]at h
  obtain⟨h1,rfl⟩:=h
  rename_i v p b a
  rw[aA9,bGx]
  unfold aFm
  generalize aAx v p=m at *
  by_cases hm:m=[]
  ·simp[aA0,aA2,aA1,hm]
  ·have hb:(!m==([]:List UInt8))=true:=by simpa using hm
   by_cases hh:aF0 b a m=true<;>simp[aA0,aA2,aA1,hb,hh,hm]
 ·cases h
noncomputable section
def rfN (v:Int) (b:List UInt8) (a:Int):Int:=if v=2 then aAq b a 4 else rvN b a
def aKa (v:Int) (b:List UInt8) (a:Int):Int:=if v=2 then a+8 else aCh b a
def aOu (v:Int) (b:List UInt8) (a:Int):Bool:=if v=2 then aD2 b a 4 else bMf b a
def aHa (v:Int) (b:List UInt8) (a:Int):List UInt8:=(b.drop (aKa v b a).toNat).take (rfN v b a).toNat
def bBs (v p:Int) (b:List UInt8) (a:Int):Bool:=inB v 1 2&&inB p 0 1000000000&&aOu v b a&&decide (rfN v b a≤60∧aKa v b a+rfN v b a≤b.length)&&aF0 b a (aAc v p (aHa v b a))
def aO1 (v p:Int) (b:List UInt8) (a:Int):List UInt8:=if bBs v p b a then aHa v b a else[]
def aKy (v p:Int) (b:List UInt8) (a:Int):Int:=if bBs v p b a then a+(aAc v p (aHa v b a)).length else 0
def aE9:aC0:=fun cs=>match cs with
 |[.int .i64 v,.int .i64 p,.str b,.int .i64 a]=>some (decide (b.length≤281474976710656)&&(decide (-9223372036854775808≤a)&&decide (a≤9223372036854775807)),[.str (aO1 v p b a),.int .i64 (aKy v p b a),.bool (bBs v p b a)])
 |_=>none
def aRz:Env:=mkE [] [(53,(sg [pI,pI,pI] [rB]),aE0),(148,(sg [pS,pI,pI] [rI,rB]),aDw),(150,(sg [pS,pI] [rI,rI,rB]),aFs),(117,(sg [pI,pI,pS] [rS]),aGe)]
def aS4:Env:=mkE [] [(156,(sg [pS,pI,pI] [rI,rB]),aDw),(159,(sg [pS,pI] [rI,rI,rB]),aFs),(158,(sg [pS,pI,pS] [rB]),aP6),(141,(sg [pI,pI,pS] [rS]),aGe)]
end
theorem aUp (H:List Pt→Nat→St→T (List C)) (v:Int) (p:Int) (b:List UInt8) (a:Int):aAe aRz aAb (sg [pI,pI,pS,pI] [rS,rI,rB]) Tryz.f114 H [C.int .i64 v,C.int .i64 p,C.str b,C.int .i64 a]=(.must true (.must true (.must true (.must true (.ask (inB v 1 2) (.must true (.must true (.must true (.ask (inB p 0 1000000000) (.must true (.must true (.must true (.ask (inB a 0 (↑b.length:Int)) (.must true (.must (decide (b.length≤281474976710656)&&(decide ((-9223372036854775808:Int)≤a)&&decide (a≤(9223372036854775807:Int)))) (.must true (.ask (bMf b a) (.ask (decide (v=(2:Int))) (.must true (.must (decide (b.length≤281474976710656)&&(decide ((-9223372036854775808:Int)≤a)&&decide (a≤(9223372036854775807:Int)))) (.must true (.ask (aD2 b a 4) (.ask (decide ((60:Int)<aAq b a 4)) (.must true (.ret [C.str [],C.int .i64 0,C.bool false])) (.ask (decide (IntKind.i64.wrap ((↑b.length:Int)-aAq b a 4)<IntKind.i64.wrap (a+(8:Int)))) (.must true (.ret [C.str [],C.int .i64 0,C.bool false])) (.must (decide ((0:Int)≤IntKind.i64.wrap (IntKind.i64.wrap (a+(8:Int))+aAq b a 4))&&decide (IntKind.i64.wrap (IntKind.i64.wrap (a+(8:Int))+aAq b a 4)≤(↑b.length:Int))&&(decide ((0:Int)≤IntKind.i64.wrap (a+(8:Int)))&&decide (IntKind.i64.wrap (a+(8:Int))≤IntKind.i64.wrap (IntKind.i64.wrap (a+(8:Int))+aAq b a 4)))) (.must true (.must (decide ((List.drop (IntKind.i64.wrap (a+(8:Int))).toNat (List.take (IntKind.i64.wrap (IntKind.i64.wrap (a+(8:Int))+aAq b a 4)).toNat b)).length≤281474976710656)) (.must true (.ask (decide (IntKind.i64.wrap ((↑b.length:Int)-a)<(↑(aAc v p (List.drop (IntKind.i64.wrap (a+(8:Int))).toNat (List.take (IntKind.i64.wrap (IntKind.i64.wrap (a+(8:Int))+aAq b a 4)).toNat b))).length:Int))) (.must true (.ret [C.str [],C.int .i64 0,C.bool false])) (.must (decide ((0:Int)≤IntKind.i64.wrap (a+(↑(aAc v p (List.drop (IntKind.i64.wrap (a+(8:Int))).toNat (List.take (IntKind.i64.wrap (IntKind.i64.wrap (a+(8:Int))+aAq b a 4)).toNat b))).length:Int)))&&decide (IntKind.i64.wrap (a+(↑(aAc v p (List.drop (IntKind.i64.wrap (a+(8:Int))).toNat (List.take (IntKind.i64.wrap (IntKind.i64.wrap (a+(8:Int))+aAq b a 4)).toNat b))).length:Int))≤(↑b.length:Int))&&(decide ((0:Int)≤a)&&decide (a≤IntKind.i64.wrap (a+(↑(aAc v p (List.drop (IntKind.i64.wrap (a+(8:Int))).toNat (List.take (IntKind.i64.wrap (IntKind.i64.wrap (a+(8:Int))+aAq b a 4)).toNat b))).length:Int))))) (.ask (!List.drop a.toNat (List.take (IntKind.i64.wrap (a+(↑(aAc v p (List.drop (IntKind.i64.wrap (a+(8:Int))).toNat (List.take (IntKind.i64.wrap (IntKind.i64.wrap (a+(8:Int))+aAq b a 4)).toNat b))).length:Int))).toNat b)==aAc v p (List.drop (IntKind.i64.wrap (a+(8:Int))).toNat (List.take (IntKind.i64.wrap (IntKind.i64.wrap (a+(8:Int))+aAq b a 4)).toNat b))) (.must true (.ret [C.str [],C.int .i64 0,C.bool false])) (.must true (.ret [C.str (List.drop (IntKind.i64.wrap (a+(8:Int))).toNat (List.take (IntKind.i64.wrap (IntKind.i64.wrap (a+(8:Int))+aAq b a 4)).toNat b)),C.int .i64 (IntKind.i64.wrap (a+(↑(aAc v p (List.drop (IntKind.i64.wrap (a+(8:Int))).toNat (List.take (IntKind.i64.wrap (IntKind.i64.wrap (a+(8:Int))+aAq b a 4)).toNat b))).length:Int))),C.bool true]))))))))))) (.must true (.ret [C.str [],C.int .i64 0,C.bool false])))))) (.ask (decide ((60:Int)<rvN b a)) (.must true (.ret [C.str [],C.int .i64 0,C.bool false])) (.ask (decide (IntKind.i64.wrap ((↑b.length:Int)-rvN b a)<aCh b a)) (.must true (.ret [C.str [],C.int .i64 0,C.bool false])) (.must (decide ((0:Int)≤IntKind.i64.wrap (aCh b a+rvN b a))&&decide (IntKind.i64.wrap (aCh b a+rvN b a)≤(↑b.length:Int))&&(decide ((0:Int)≤aCh b a)&&decide (aCh b a≤IntKind.i64.wrap (aCh b a+rvN b a)))) (.must true (.must (decide ((List.drop (aCh b a).toNat (List.take (IntKind.i64.wrap (aCh b a+rvN b a)).toNat b)).length≤281474976710656)) (.must true (.ask (decide (IntKind.i64.wrap ((↑b.length:Int)-a)<(↑(aAc v p (List.drop (aCh b a).toNat (List.take (IntKind.i64.wrap (aCh b a+rvN b a)).toNat b))).length:Int))) (.must true (.ret [C.str [],C.int .i64 0,C.bool false])) (.must (decide ((0:Int)≤IntKind.i64.wrap (a+(↑(aAc v p (List.drop (aCh b a).toNat (List.take (IntKind.i64.wrap (aCh b a+rvN b a)).toNat b))).length:Int)))&&decide (IntKind.i64.wrap (a+(↑(aAc v p (List.drop (aCh b a).toNat (List.take (IntKind.i64.wrap (aCh b a+rvN b a)).toNat b))).length:Int))≤(↑b.length:Int))&&(decide ((0:Int)≤a)&&decide (a≤IntKind.i64.wrap (a+(↑(aAc v p (List.drop (aCh b a).toNat (List.take (IntKind.i64.wrap (aCh b a+rvN b a)).toNat b))).length:Int))))) (.ask (!List.drop a.toNat (List.take (IntKind.i64.wrap (a+(↑(aAc v p (List.drop (aCh b a).toNat (List.take (IntKind.i64.wrap (aCh b a+rvN b a)).toNat b))).length:Int))).toNat b)==aAc v p (List.drop (aCh b a).toNat (List.take (IntKind.i64.wrap (aCh b a+rvN b a)).toNat b))) (.must true (.ret [C.str [],C.int .i64 0,C.bool false])) (.must true (.ret [C.str (List.drop (aCh b a).toNat (List.take (IntKind.i64.wrap (aCh b a+rvN b a)).toNat b)),C.int .i64 (IntKind.i64.wrap (a+(↑(aAc v p (List.drop (aCh b a).toNat (List.take (IntKind.i64.wrap (aCh b a+rvN b a)).toNat b))).length:Int))),C.bool true])))))))))))) (.ask (decide (v=(2:Int))) (.must true (.must (decide (b.length≤281474976710656)&&(decide ((-9223372036854775808:Int)≤a)&&decide (a≤(9223372036854775807:Int)))) (.must true (.ask (aD2 b a 4) (.ask (decide ((60:Int)<aAq b a 4)) (.must true (.ret [C.str [],C.int .i64 0,C.bool false])) (.ask (decide (IntKind.i64.wrap ((↑b.length:Int)-aAq b a 4)<IntKind.i64.wrap (a+(8:Int)))) (.must true (.ret [C.str [],C.int .i64 0,C.bool false])) (.must (decide ((0:Int)≤IntKind.i64.wrap (IntKind.i64.wrap (a+(8:Int))+aAq b a 4))&&decide (IntKind.i64.wrap (IntKind.i64.wrap (a+(8:Int))+aAq b a 4)≤(↑b.length:Int))&&(decide ((0:Int)≤IntKind.i64.wrap (a+(8:Int)))&&decide (IntKind.i64.wrap (a+(8:Int))≤IntKind.i64.wrap (IntKind.i64.wrap (a+(8:Int))+aAq b a 4)))) (.must true (.must (decide ((List.drop (IntKind.i64.wrap (a+(8:Int))).toNat (List.take (IntKind.i64.wrap (IntKind.i64.wrap (a+(8:Int))+aAq b a 4)).toNat b)).length≤281474976710656)) (.must true (.ask (decide (IntKind.i64.wrap ((↑b.length:Int)-a)<(↑(aAc v p (List.drop (IntKind.i64.wrap (a+(8:Int))).toNat (List.take (IntKind.i64.wrap (IntKind.i64.wrap (a+(8:Int))+aAq b a 4)).toNat b))).length:Int))) (.must true (.ret [C.str [],C.int .i64 0,C.bool false])) (.must (decide ((0:Int)≤IntKind.i64.wrap (a+(↑(aAc v p (List.drop (IntKind.i64.wrap (a+(8:Int))).toNat (List.take (IntKind.i64.wrap (IntKind.i64.wrap (a+(8:Int))+aAq b a 4)).toNat b))).length:Int)))&&decide (IntKind.i64.wrap (a+(↑(aAc v p (List.drop (IntKind.i64.wrap (a+(8:Int))).toNat (List.take (IntKind.i64.wrap (IntKind.i64.wrap (a+(8:Int))+aAq b a 4)).toNat b))).length:Int))≤(↑b.length:Int))&&(decide ((0:Int)≤a)&&decide (a≤IntKind.i64.wrap (a+(↑(aAc v p (List.drop (IntKind.i64.wrap (a+(8:Int))).toNat (List.take (IntKind.i64.wrap (IntKind.i64.wrap (a+(8:Int))+aAq b a 4)).toNat b))).length:Int))))) (.ask (!List.drop a.toNat (List.take (IntKind.i64.wrap (a+(↑(aAc v p (List.drop (IntKind.i64.wrap (a+(8:Int))).toNat (List.take (IntKind.i64.wrap (IntKind.i64.wrap (a+(8:Int))+aAq b a 4)).toNat b))).length:Int))).toNat b)==aAc v p (List.drop (IntKind.i64.wrap (a+(8:Int))).toNat (List.take (IntKind.i64.wrap (IntKind.i64.wrap (a+(8:Int))+aAq b a 4)).toNat b))) (.must true (.ret [C.str [],C.int .i64 0,C.bool false])) (.must true (.ret [C.str (List.drop (IntKind.i64.wrap (a+(8:Int))).toNat (List.take (IntKind.i64.wrap (IntKind.i64.wrap (a+(8:Int))+aAq b a 4)).toNat b)),C.int .i64 (IntKind.i64.wrap (a+(↑(aAc v p (List.drop (IntKind.i64.wrap (a+(8:Int))).toNat (List.take (IntKind.i64.wrap (IntKind.i64.wrap (a+(8:Int))+aAq b a 4)).toNat b))).length:Int))),C.bool true]))))))))))) (.must true (.ret [C.str [],C.int .i64 0,C.bool false])))))) (.must true (.ret [C.str [],C.int .i64 0,C.bool false]))))))) (.must true (.ret [C.str [],C.int .i64 0,C.bool false])))))) (.must true (.ret [C.str [],C.int .i64 0,C.bool false])))))) (.must true (.ret [C.str [],C.int .i64 0,C.bool false]))))))):=by kernel_rfl
theorem aVt (H:List Pt→Nat→St→T (List C)) (v:Int) (p:Int) (b:List UInt8) (a:Int):aAe aS4 aAb (sg [pI,pI,pS,pI] [rS,rI,rB]) Tryz.f122 H [C.int .i64 v,C.int .i64 p,C.str b,C.int .i64 a]=(.must true (.ask (decide (v=(2:Int))) (.must true (.must (decide (b.length≤281474976710656)&&(decide ((-9223372036854775808:Int)≤a)&&decide (a≤(9223372036854775807:Int)))) (.must true (.ask (aD2 b a 4) (.ask (decide ((60:Int)<aAq b a 4)) (.must true (.ret [C.str [],C.int .i64 0,C.bool false])) (.ask (decide ((↑b.length:Int)<IntKind.i64.wrap (a+(8:Int)))) (.must true (.ret [C.str [],C.int .i64 0,C.bool false])) (.ask (decide (IntKind.i64.wrap ((↑b.length:Int)-IntKind.i64.wrap (a+(8:Int)))<aAq b a 4)) (.must true (.ret [C.str [],C.int .i64 0,C.bool false])) (.must (decide ((0:Int)≤IntKind.i64.wrap (IntKind.i64.wrap (a+(8:Int))+aAq b a 4))&&decide (IntKind.i64.wrap (IntKind.i64.wrap (a+(8:Int))+aAq b a 4)≤(↑b.length:Int))&&(decide ((0:Int)≤IntKind.i64.wrap (a+(8:Int)))&&decide (IntKind.i64.wrap (a+(8:Int))≤IntKind.i64.wrap (IntKind.i64.wrap (a+(8:Int))+aAq b a 4)))) (.must true (.must (decide ((List.drop (IntKind.i64.wrap (a+(8:Int))).toNat (List.take (IntKind.i64.wrap (IntKind.i64.wrap (a+(8:Int))+aAq b a 4)).toNat b)).length≤281474976710656)) (.must true (.ask (aAc v p (List.drop (IntKind.i64.wrap (a+(8:Int))).toNat (List.take (IntKind.i64.wrap (IntKind.i64.wrap (a+(8:Int))+aAq b a 4)).toNat b))==[]) (.must true (.ret [C.str [],C.int .i64 0,C.bool false])) (.must true (.must true (.must true (.ask (aF0 b a (aAc v p (List.drop (IntKind.i64.wrap (a+(8:Int))).toNat (List.take (IntKind.i64.wrap (IntKind.i64.wrap (a+(8:Int))+aAq b a 4)).toNat b)))) (.must true (.ret [C.str (List.drop (IntKind.i64.wrap (a+(8:Int))).toNat (List.take (IntKind.i64.wrap (IntKind.i64.wrap (a+(8:Int))+aAq b a 4)).toNat b)),C.int .i64 (IntKind.i64.wrap (a+(↑(aAc v p (List.drop (IntKind.i64.wrap (a+(8:Int))).toNat (List.take (IntKind.i64.wrap (IntKind.i64.wrap (a+(8:Int))+aAq b a 4)).toNat b))).length:Int))),C.bool true])) (.must true (.ret [C.str [],C.int .i64 0,C.bool false])))))))))))))) (.must true (.ret [C.str [],C.int .i64 0,C.bool false])))))) (.must true (.must (decide (b.length≤281474976710656)&&(decide ((-9223372036854775808:Int)≤a)&&decide (a≤(9223372036854775807:Int)))) (.must true (.ask (bMf b a) (.ask (decide ((60:Int)<rvN b a)) (.must true (.ret [C.str [],C.int .i64 0,C.bool false])) (.ask (decide ((↑b.length:Int)<aCh b a)) (.must true (.ret [C.str [],C.int .i64 0,C.bool false])) (.ask (decide (IntKind.i64.wrap ((↑b.length:Int)-aCh b a)<rvN b a)) (.must true (.ret [C.str [],C.int .i64 0,C.bool false])) (.must (decide ((0:Int)≤IntKind.i64.wrap (aCh b a+rvN b a))&&decide (IntKind.i64.wrap (aCh b a+rvN b a)≤(↑b.length:Int))&&(decide ((0:Int)≤aCh b a)&&decide (aCh b a≤IntKind.i64.wrap (aCh b a+rvN b a)))) (.must true (.must (decide ((List.drop (aCh b a).toNat (List.take (IntKind.i64.wrap (aCh b a+rvN b a)).toNat b)).length≤281474976710656)) (.must true (.ask (aAc v p (List.drop (aCh b a).toNat (List.take (IntKind.i64.wrap (aCh b a+rvN b a)).toNat b))==[]) (.must true (.ret [C.str [],C.int .i64 0,C.bool false])) (.must true (.must true (.must true (.ask (aF0 b a (aAc v p (List.drop (aCh b a).toNat (List.take (IntKind.i64.wrap (aCh b a+rvN b a)).toNat b)))) (.must true (.ret [C.str (List.drop (aCh b a).toNat (List.take (IntKind.i64.wrap (aCh b a+rvN b a)).toNat b)),C.int .i64 (IntKind.i64.wrap (a+(↑(aAc v p (List.drop (aCh b a).toNat (List.take (IntKind.i64.wrap (aCh b a+rvN b a)).toNat b))).length:Int))),C.bool true])) (.must true (.ret [C.str [],C.int .i64 0,C.bool false])))))))))))))) (.must true (.ret [C.str [],C.int .i64 0,C.bool false])))))))):=by kernel_rfl
def aIt:List C:=[C.str [],C.int IntKind.i64 (0:Int),C.bool false]
def bZl (v p : Int) (b : List UInt8) (a n f : Int) : T (List C) :=
  .ask (decide (60 < n)) (.must true (.ret aIt))
   (.ask (decide (IntKind.i64.wrap ((b.length : Int) - n) < f)) (.must true (.ret aIt))
    (.must (decide (0 ≤ IntKind.i64.wrap (f + n)) && decide (IntKind.i64.wrap (f + n) ≤ (b.length : Int)) && (decide (0 ≤ f) && decide (f ≤ IntKind.i64.wrap (f + n))))
     (.must true
      (.must (decide ((List.drop f.toNat (List.take (IntKind.i64.wrap (f + n)).toNat b)).length ≤ 281474976710656))
       (.must true
        (.ask (decide (IntKind.i64.wrap ((b.length : Int) - a) < ((aAc v p (List.drop f.toNat (List.take (IntKind.i64.wrap (f + n)).toNat b))).length : Int))) (.must true (.ret aIt))
         (.must (decide (0 ≤ IntKind.i64.wrap (a + ((aAc v p (List.drop f.toNat (List.take (IntKind.i64.wrap (f + n)).toNat b))).length : Int))) && decide (IntKind.i64.wrap (a + ((aAc v p (List.drop f.toNat (List.take (IntKind.i64.wrap (f + n)).toNat b))).length : Int)) ≤ (b.length : Int)) && (decide (0 ≤ a) && decide (a ≤ IntKind.i64.wrap (a + ((aAc v p (List.drop f.toNat (List.take (IntKind.i64.wrap (f + n)).toNat b))).length : Int)))))
          (.ask (!List.drop a.toNat (List.take (IntKind.i64.wrap (a + ((aAc v p (List.drop f.toNat (List.take (IntKind.i64.wrap (f + n)).toNat b))).length : Int))).toNat b) == aAc v p (List.drop f.toNat (List.take (IntKind.i64.wrap (f + n)).toNat b)))
           (.must true (.ret aIt))
           (.must true (.ret [C.str (List.drop f.toNat (List.take (IntKind.i64.wrap (f + n)).toNat b)), C.int IntKind.i64 (IntKind.i64.wrap (a + ((aAc v p (List.drop f.toNat (List.take (IntKind.i64.wrap (f + n)).toNat b))).length : Int))), C.bool true]))))))))))
def cA8 (v p : Int) (b : List UInt8) (a n f : Int) : T (List C) :=
  .ask (decide (60 < n)) (.must true (.ret aIt))
   (.ask (decide ((b.length : Int) < f)) (.must true (.ret aIt))
    (.ask (decide (IntKind.i64.wrap ((b.length : Int) - f) < n)) (.must true (.ret aIt))
     (.must (decide (0 ≤ IntKind.i64.wrap (f + n)) && decide (IntKind.i64.wrap (f + n) ≤ (b.length : Int)) && (decide (0 ≤ f) && decide (f ≤ IntKind.i64.wrap (f + n))))
      (.must true
       (.must (decide ((List.drop f.toNat (List.take (IntKind.i64.wrap (f + n)).toNat b)).length ≤ 281474976710656))
        (.must true
         (.ask (aAc v p (List.drop f.toNat (List.take (IntKind.i64.wrap (f + n)).toNat b)) == []) (.must true (.ret aIt))
          (.must true (.must true (.must true
           (.ask (aF0 b a (aAc v p (List.drop f.toNat (List.take (IntKind.i64.wrap (f + n)).toNat b))))
            (.must true (.ret [C.str (List.drop f.toNat (List.take (IntKind.i64.wrap (f + n)).toNat b)), C.int IntKind.i64 (IntKind.i64.wrap (a + ((aAc v p (List.drop f.toNat (List.take (IntKind.i64.wrap (f + n)).toNat b))).length : Int))), C.bool true]))
            (.must true (.ret aIt)))))))))))))
def aQ5 (v p:Int) (b:List UInt8) (a n f:Int):List C :=
 if n≤60∧f+n≤b.length∧aF0 b a (aAc v p ((b.drop f.toNat).take n.toNat))=true then[.str ((b.drop f.toNat).take n.toNat),.int .i64 (a+(aAc v p ((b.drop f.toNat).take n.toNat)).length),.bool true]else aIt
theorem aFg (v p:Int) (r:List UInt8):(aAc v p r).length≤90:=by
 unfold aAc
 have h1:=aNy p r.length
 have h2:=aCj r.length
 have h3:=aB5 (aAs 0 r:Nat) 4
 split
 ·rename_i h
  simp only[Bool.and_eq_true,decide_eq_true_eq]at h
  split<;>simp only[List.length_append]<;>omega
 ·simp
theorem aLh (v p:Int) (r:List UInt8) (hv:inB v 1 2=true) (hp:inB p 0 1000000000=true) (hr:r.length≤60):aAc v p r≠[]:=by
 unfold aAc
 rw[hv,hp,decide_eq_true hr]
 intro h
 have h4:(aAg (aAs 0 r:Nat) 4).length=4:=by
  have hc:=aDi 0 r (by omega)
  have hg:=aT1 (aAs 0 r) 4 (by omega) (by omega)
  rw[show ((4:Nat):Int)=4 from rfl]at hg
  rw[hg,if_pos (by omega),aBx]
 have:=congrArg List.length h
 simp only[Bool.and_self,if_true,List.length_append,List.length_nil]at this
 omega
theorem bDg (v p:Int) (r:List UInt8) (h:¬(inB v 1 2=true∧inB p 0 1000000000=true)):aAc v p r=[]:=by
 unfold aAc
 rw[if_neg]
 intro hh
 simp only[Bool.and_eq_true]at hh
 exact h hh.1
theorem aZh (v p:Int) (b:List UInt8) (a n f:Int) (hb:b.length≤281474976710656) (hn:0≤n) (hn2:n≤9223372036854775807) (hf:0≤f) (hf2:f≤1125899906842624) (ha:0≤a) (ha2:a≤b.length) (hv:inB v 1 2=true) (hp:inB p 0 1000000000=true) :
  (bZl v p b a n f).eval=some (aQ5 v p b a n f):=by
 unfold bZl aQ5
 by_cases h1:60<n
 ·have:¬n≤60:=by omega
  simp[aA0,aA2,aA1,h1,this]
 ·have w1:IntKind.i64.wrap ((b.length:Int)-n)=(b.length:Int)-n:=by rw[aAh]<;>omega
  have w2:IntKind.i64.wrap (f+n)=f+n:=by rw[aAh]<;>omega
  have h1':n≤60:=by omega
  rw[w1,w2]
  by_cases h2:(b.length:Int)-n<f
  ·have:¬(f+n≤b.length):=by omega
   simp[aA0,aA2,aA1,h1,h2,this]
  ·have h2':f+n≤b.length:=by omega
   have hrec:List.drop f.toNat (List.take (f+n).toNat b)=(b.drop f.toNat).take n.toNat:=by
    rw[List.take_drop];congr 2;omega
   rw[hrec]
   have hl:((b.drop f.toNat).take n.toNat).length≤281474976710656:=by simp;omega
   have hl60:((b.drop f.toNat).take n.toNat).length≤60:=by simp;omega
   generalize (b.drop f.toNat).take n.toNat=r at hl hl60
   have fl:=aFg v p r
   have fne:=aLh v p r hv hp hl60
   generalize aAc v p r=t at fl fne
   have w3:IntKind.i64.wrap ((b.length:Int)-a)=(b.length:Int)-a:=by rw[aAh]<;>omega
   have w4:IntKind.i64.wrap (a+(t.length:Int))=a+t.length:=by rw[aAh]<;>omega
   rw[w3,w4]
   have z1:0≤f+n:=by omega
   have z2:f≤f+n:=by omega
   by_cases h3:(b.length:Int)-a<t.length
   ·have:aF0 b a t=false:=by
     cases hx:aF0 b a t with
     |true =>
      have hh:=(aFf _ _ _).1 hx
      have hl:=congrArg List.length hh.2.2
      simp at hl
      omega
     |false=>rfl
    simp[aA0,aA2,aA1,h1,h2,h2',hf,hl,h3,this,z1,z2,hn]
   ·have z3:0≤a+(t.length:Int):=by omega
    have z4:a+(t.length:Int)≤b.length:=by omega
    have z5:a≤a+(t.length:Int):=by omega
    have ed:List.drop a.toNat (List.take (a+(t.length:Int)).toNat b)=(b.drop a.toNat).take t.length:=by
     rw[List.take_drop];congr 2;omega
    rw[ed]
    by_cases he:(b.drop a.toNat).take t.length=t
    ·have hh:aF0 b a t=true:=(aFf _ _ _).2 ⟨ha,ha2,he⟩
     simp[aA0,aA2,aA1,h1,h1',h2,h2',hf,hl,h3,z1,z2,z3,z4,z5,hn,ha,he,hh]
    ·have hh:aF0 b a t=false:=by
      cases hx:aF0 b a t with
      |true=>exact absurd ((aFf _ _ _).1 hx).2.2 he
      |false=>rfl
     simp[aA0,aA2,aA1,h1,h1',h2,h2',hf,hl,h3,z1,z2,z3,z4,z5,hn,ha,he,hh]
theorem aZp (v p:Int) (b:List UInt8) (a n f:Int) (hb:b.length≤281474976710656) (hn:0≤n) (hn2:n≤9223372036854775807) (hf:0≤f) (hf2:f≤1125899906842624) (ha2:a≤9223372036854775807) :
  (cA8 v p b a n f).eval=some (if inB v 1 2=true∧inB p 0 1000000000=true then aQ5 v p b a n f else aIt):=by
 unfold cA8 aQ5
 by_cases h1:60<n
 ·have:¬n≤60:=by omega
  simp[aA0,aA2,aA1,h1,this]
 ·have w2:IntKind.i64.wrap (f+n)=f+n:=by rw[aAh]<;>omega
  have h1':n≤60:=by omega
  rw[w2]
  by_cases h2:(b.length:Int)<f
  ·have:¬(f+n≤b.length):=by omega
   simp[aA0,aA2,aA1,h1,h2,this]
  ·have w1:IntKind.i64.wrap ((b.length:Int)-f)=(b.length:Int)-f:=by rw[aAh]<;>omega
   rw[w1]
   by_cases h3:(b.length:Int)-f<n
   ·have:¬(f+n≤b.length):=by omega
    simp[aA0,aA2,aA1,h1,h2,h3,this]
   ·have h2':f+n≤b.length:=by omega
    have hrec:List.drop f.toNat (List.take (f+n).toNat b)=(b.drop f.toNat).take n.toNat:=by
     rw[List.take_drop];congr 2;omega
    rw[hrec]
    have hl:((b.drop f.toNat).take n.toNat).length≤281474976710656:=by simp;omega
    have hl60:((b.drop f.toNat).take n.toNat).length≤60:=by simp;omega
    generalize (b.drop f.toNat).take n.toNat=r at hl hl60
    have z1:0≤f+n:=by omega
    have z2:f≤f+n:=by omega
    by_cases hvp:inB v 1 2=true∧inB p 0 1000000000=true
    ·have fl:=aFg v p r
     have fne:=aLh v p r hvp.1 hvp.2 hl60
     rw[if_pos hvp]
     generalize aAc v p r=t at fl fne
     have fb:(t==([]:List UInt8))=false:=by simpa using fne
     by_cases hh:aF0 b a t=true
     ·have hx:=(aFf _ _ _).1 hh
      have w4:IntKind.i64.wrap (a+(t.length:Int))=a+t.length:=by rw[aAh]<;>omega
      simp[aA0,aA2,aA1,h1,h1',h2,h2',h3,hf,hl,z1,z2,hn,fb,hh,w4,fne]
     ·simp[aA0,aA2,aA1,h1,h1',h2,h2',h3,hf,hl,z1,z2,hn,fb,hh,fne]
    ·rw[if_neg hvp,bDg v p r hvp]
     simp[aA0,aA2,aA1,h1,h1',h2,h2',h3,hf,hl,z1,z2,hn]
theorem bMe (b:List UInt8) (a:Int):0≤rvN b a∧rvN b a≤1000000000∧0≤aCh b a∧aCh b a≤b.length∧(bMf b a=true→0≤a∧a≤b.length):=by
 have go:∀ (fu k n:Nat) (q:Nat×Nat),bOr b a.toNat fu k n=some q→q.1≤1000000000∧q.2≤b.length∧a.toNat≤b.length:=by
  intro fu
  induction fu with
  |zero=>intro k n q h;simp[bOr]at h
  |succ fu ih =>
   intro k n q h
   simp only[bOr]at h
   split at h
   ·split at h
    ·split at h
     ·cases h
     ·obtain rfl:=Option.some.inj h
      simp only[]
      omega
    ·exact ih _ _ _ h
   ·cases h
 unfold rvN aCh bMf aIb
 by_cases ha:0≤a
 ·rw[if_pos ha]
  cases hq:bOr b a.toNat 5 0 0 with
  |none=>simp
  |some q=>have:=go 5 0 0 q hq;simp;omega
 ·rw[if_neg ha];simp
theorem bHk (b:List UInt8) (a w:Int):0≤aAq b a w∧aAq b a w≤9223372036854775807∧(aD2 b a w=true→0≤a∧a≤b.length):=by
 unfold aAq
 cases h:aD2 b a w with
 |true=>have:=(aIs _ _ _).1 h;simp;omega
 |false=>simp
theorem bRi (v p:Int) (b:List UInt8) (a:Int):[C.str (aO1 v p b a),C.int .i64 (aKy v p b a),C.bool (bBs v p b a)]=if inB v 1 2=true∧inB p 0 1000000000=true∧aOu v b a=true then aQ5 v p b a (rfN v b a) (aKa v b a)else aIt:=by
 unfold aO1 aKy bBs aQ5 aHa aIt
 generalize aOu v b a=x
 generalize rfN v b a=n
 generalize aKa v b a=f
 generalize aAc v p ((b.drop f.toNat).take n.toNat)=t
 by_cases h1:inB v 1 2=true
 ·by_cases h2:inB p 0 1000000000=true
  ·cases x with
   |false=>simp
   |true =>
    by_cases h3:n≤60∧f+n≤b.length
    ·by_cases h4:aF0 b a t=true<;>simp[h1,h2,h3,h4]
    ·have h3':¬(n≤60∧f+n≤b.length∧aF0 b a t=true):=fun h=>h3 ⟨h.1,h.2.1⟩
     rw[decide_eq_false h3,if_neg h3']
     simp
  ·simp[h2]
 ·simp[h1]
theorem aBo {α:Type} (n:T α):(T.must true n).eval=n.eval:=rfl
theorem aCb {α:Type} (y n:T α):(T.ask true y n).eval=y.eval:=rfl
theorem aDp {α:Type} (y n:T α):(T.ask false y n).eval=n.eval:=rfl
theorem bF6:aA6 Tryz.prog aRz:=aA5 (by simp[aDd,aNb,aXw,aK9])
theorem aSf:aAm Tryz.prog 114 (sg [pI,pI,pS,pI] [rS,rI,rB]) aE9:=aA3 bF6 aA7 Tryz.func114 (by kernel_rfl) fun cs outs hk h=>by
 unfold aE9 at h
 split at h
 ·simp only[Option.some.injEq,Prod.mk.injEq,Bool.and_eq_true,decide_eq_true_eq]at h
  obtain⟨⟨h1,h2,h3⟩,rfl⟩:=h
  rename_i v p b a
  rw[aA9,aUp,bRi]
  have pre:(decide (b.length≤281474976710656)&&(decide (-9223372036854775808≤a)&&decide (a≤9223372036854775807)))=true:=by simp[h1,h2,h3]
  obtain⟨r1,r2,r3,r4,r5⟩:=bMe b a
  obtain⟨f1,f2,f3⟩:=bHk b a 4
  have has_in:aOu v b a=true→0≤a∧a≤b.length:=by
   unfold aOu;split
   ·exact f3
   ·exact r5
  cases hv:inB v 1 2 with
  |false=>simp only[aBo,aDp,hv,Bool.false_eq_true,false_and,if_false];rfl
  |true =>
   cases hp:inB p 0 1000000000 with
   |false=>simp only[aBo,aCb,aDp,hv,hp,Bool.false_eq_true,and_false,false_and,if_false];rfl
   |true =>
    cases ha:inB a 0 (b.length:Int)with
    |false =>
     have:¬aOu v b a=true:=fun h=>by
      have:=has_in h
      have:=(aBb a 0 (b.length:Int)).2 this
      rw[ha]at this;cases this
     simp only[aBo,aCb,aDp,hv,hp,ha,this,and_false,if_false];rfl
    |true =>
     have ha':=(aBb _ _ _).1 ha
     have w8:IntKind.i64.wrap (a+8)=a+8:=by rw[aAh]<;>omega
     have e1:=aZh v p b a (aAq b a 4) (a+8) h1 f1 f2 (by omega) (by omega) ha'.1 ha'.2 hv hp
     have e2:=aZh v p b a (rvN b a) (aCh b a) h1 r1 (by omega) r3 (by omega) ha'.1 ha'.2 hv hp
     by_cases hv2:v=2
     ·have d2:decide (v=2)=true:=decide_eq_true hv2
      have hh:aOu v b a=aD2 b a 4:=by unfold aOu;rw[if_pos hv2]
      have hn:rfN v b a=aAq b a 4:=by unfold rfN;rw[if_pos hv2]
      have hf:aKa v b a=a+8:=by unfold aKa;rw[if_pos hv2]
      rw[hh,hn,hf]
      cases hk1:aD2 b a 4 with
      |false=>cases hk2:bMf b a<;>(simp only[aBo,aCb,aDp,hv,hp,ha,pre,d2,hk1,hk2,Bool.false_eq_true,if_false,and_false];rfl)
      |true=>cases hk2:bMf b a<;>(simp only[aBo,aCb,aDp,hv,hp,ha,pre,d2,hk1,hk2,w8,true_and,and_self,if_true];exact e1)
     ·have d2:decide (v=2)=false:=decide_eq_false hv2
      have hh:aOu v b a=bMf b a:=by unfold aOu;rw[if_neg hv2]
      have hn:rfN v b a=rvN b a:=by unfold rfN;rw[if_neg hv2]
      have hf:aKa v b a=aCh b a:=by unfold aKa;rw[if_neg hv2]
      rw[hh,hn,hf]
      cases hk2:bMf b a with
      |false=>simp only[aBo,aCb,aDp,hv,hp,ha,pre,hk2,Bool.false_eq_true,if_false,and_false];first | rfl | (cases hk1:aD2 b a 4<;>simp only[aBo,aCb,aDp,d2]<;>rfl)
      |true=>simp only[aBo,aCb,aDp,hv,hp,ha,pre,d2,hk2,true_and,and_self,if_true];exact e2
 ·cases h
theorem bGu:aA6 Tryz.prog aS4:=aA5 (by simp[aNi,aYm,aRv,aKg])
theorem aSq:aAm Tryz.prog 122 (sg [pI,pI,pS,pI] [rS,rI,rB]) aE9:=aA3 bGu aA7 Tryz.func122 (by kernel_rfl) fun cs outs hk h=>by
 unfold aE9 at h
 split at h
 ·simp only[Option.some.injEq,Prod.mk.injEq,Bool.and_eq_true,decide_eq_true_eq]at h
  obtain⟨⟨h1,h2,h3⟩,rfl⟩:=h
  rename_i v p b a
  rw[aA9,aVt,bRi]
  have pre:(decide (b.length≤281474976710656)&&(decide (-9223372036854775808≤a)&&decide (a≤9223372036854775807)))=true:=by simp[h1,h2,h3]
  obtain⟨r1,r2,r3,r4,r5⟩:=bMe b a
  obtain⟨f1,f2,f3⟩:=bHk b a 4
  by_cases hv2:v=2
  ·have d2:decide (v=2)=true:=decide_eq_true hv2
   have hh:aOu v b a=aD2 b a 4:=by unfold aOu;rw[if_pos hv2]
   have hn:rfN v b a=aAq b a 4:=by unfold rfN;rw[if_pos hv2]
   have hf:aKa v b a=a+8:=by unfold aKa;rw[if_pos hv2]
   rw[hh,hn,hf]
   cases hk1:aD2 b a 4 with
   |false=>simp only[aBo,aCb,aDp,pre,d2,hk1,Bool.false_eq_true,and_false,if_false];rfl
   |true =>
    have ha:=f3 hk1
    have w8:IntKind.i64.wrap (a+8)=a+8:=by rw[aAh]<;>omega
    have e1:=aZp v p b a (aAq b a 4) (a+8) h1 f1 f2 (by omega) (by omega) h3
    simp only[aBo,aCb,aDp,pre,d2,hk1,w8,and_true]
    exact e1
  ·have d2:decide (v=2)=false:=decide_eq_false hv2
   have hh:aOu v b a=bMf b a:=by unfold aOu;rw[if_neg hv2]
   have hn:rfN v b a=rvN b a:=by unfold rfN;rw[if_neg hv2]
   have hf:aKa v b a=aCh b a:=by unfold aKa;rw[if_neg hv2]
   rw[hh,hn,hf]
   cases hk1:bMf b a with
   |false=>simp only[aBo,aCb,aDp,pre,d2,hk1,Bool.false_eq_true,and_false,if_false];rfl
   |true =>
    have e1:=aZp v p b a (rvN b a) (aCh b a) h1 r1 (by omega) r3 (by omega) h3
    simp only[aBo,aCb,aDp,pre,d2,hk1,and_true]
    exact e1
 ·cases h
noncomputable section
def aJd:RTy:=⟨true,[(.bool,false),(.int .i64,false),(.int .i64,false),(.int .i64,false),(.int .i64,false),(.slice 9,true),(.slice 3,true),(.int .i64,false),(.bool,false)]⟩
def aCr (v p:Int) (b:List UInt8):Nat→Int→Int→List (List UInt8)→List Int→(List (List UInt8)×List Int×Int×Bool)
 |0,_,e,rs,os=>(rs,os,e,false)
 |f+1,k,e,rs,os=>if aFm v (p+k) b e then (rs,os,e,true)else if bBs v (p+k) b e then aCr v p b f (k+1) (aKy v (p+k) b e) (rs++[aO1 v (p+k) b e]) (os++[e])else (rs,os,e,false)
def aH8 (b:List UInt8):List (List UInt8)×List Int×Int×Bool:=if aA8 b then aCr (rhV b) (rhB b) b (b.length+1) 0 24 [] []else ([],[],0,false)
def aAn (b:List UInt8):List (List UInt8):=(aH8 b).1
def aEg (b:List UInt8):List Int:=(aH8 b).2.1
def aKr (b:List UInt8):Int:=(aH8 b).2.2.1
def aK6 (b:List UInt8):Bool:=(aH8 b).2.2.2
def aF4:aC0:=fun cs=>match cs with
 |[.str b]=>some (decide (b.length≤1048576),[.bool (aA8 b),.int .i64 (ifI (aA8 b) (rhV b)),.int .i64 (ifI (aA8 b) (rhS b)),.int .i64 (ifI (aA8 b) (rhB b)),.int .i64 (ifI (aA8 b) (rhL b)),.sl ((aAn b).map aBf),.sl ((aEg b).map aEf),.int .i64 (aKr b),.bool (aK6 b)])
 |_=>none
def aLp (b:List UInt8) (v s bb l e:Int):St:={slots:=[(0,bEe b),(2,.l (.ptr 0 0)),(3,.l (.ptr 1 0)),(5,.l (.ptr 2 0))],heap:=[(0,.box [.b false,.i .i64 0,.i .i64 0,.i .i64 0,.i .i64 0,.nil,.nil,.i .i64 0,.b false]),(1,.box [.i .i64 v,.i .i64 s,.i .i64 bb,.i .i64 l]),(2,.box [.b true,.i .i64 v,.i .i64 s,.i .i64 bb,.i .i64 l,.nil,.nil,.i .i64 e,.b false])],next:=3,pins:=[]}
def aI2 (b:List UInt8) (v s bb l e:Int) (n:Nat) (r:List (List C)) (m:Nat) (o:List (List C)):St:={slots:=[(0,bEe b),(2,.l (.ptr 0 0)),(3,.l (.ptr 1 0)),(5,.l (.ptr 2 0))],heap:=[(0,.box [.b false,.i .i64 0,.i .i64 0,.i .i64 0,.i .i64 0,.nil,.nil,.i .i64 0,.b false]),(1,.box [.i .i64 v,.i .i64 s,.i .i64 bb,.i .i64 l]),(2,.box [.b true,.i .i64 v,.i .i64 s,.i .i64 bb,.i .i64 l,.ref 3 0 n,.ref 4 0 m,.i .i64 e,.b false]),(3,.arr 1 r),(4,.arr 1 o)],next:=5,pins:=[]}
def aLq (b:List UInt8) (v s bb l e:Int):St:={slots:=[(0,bEe b),(2,.l (.ptr 0 0)),(3,.l (.ptr 1 0)),(5,.l (.ptr 2 0))],heap:=[(0,.box [.b false,.i .i64 0,.i .i64 0,.i .i64 0,.i .i64 0,.nil,.nil,.i .i64 0,.b false]),(1,.box [.i .i64 v,.i .i64 s,.i .i64 bb,.i .i64 l]),(2,.box [.b true,.i .i64 v,.i .i64 s,.i .i64 bb,.i .i64 l,.nil,.nil,.i .i64 e,.b false])],next:=3,pins:=[]}
def aI4 (b:List UInt8) (v s bb l e:Int) (n:Nat) (r:List (List C)) (m:Nat) (o:List (List C)):St:={slots:=[(0,bEe b),(2,.l (.ptr 0 0)),(3,.l (.ptr 1 0)),(5,.l (.ptr 2 0))],heap:=[(0,.box [.b false,.i .i64 0,.i .i64 0,.i .i64 0,.i .i64 0,.nil,.nil,.i .i64 0,.b false]),(1,.box [.i .i64 v,.i .i64 s,.i .i64 bb,.i .i64 l]),(2,.box [.b true,.i .i64 v,.i .i64 s,.i .i64 bb,.i .i64 l,.ref 3 0 n,.ref 4 0 m,.i .i64 e,.b false]),(3,.arr 1 r),(4,.arr 1 o)],next:=5,pins:=[]}
def aFx:Env:=mkE [(5,[0,2,3,5])] [(112,(sg [pS] [aOw,rB]),aD8),(113,(sg [pI,pI,pS,pI] [rB]),aH1),(114,(sg [pI,pI,pS,pI] [rS,rI,rB]),aE9)]
def aFy:Env:=mkE [(5,[0,2,3,5])] [(120,(sg [pS] [aOw,rB]),aD8),(121,(sg [pI,pI,pS,pI] [rB]),aH1),(122,(sg [pI,pI,pS,pI] [rS,rI,rB]),aE9)]
end
theorem aXu (H:List Pt→Nat→St→T (List C)) (b:List UInt8):aAe aFx aAb (sg [pS] [aJd]) Tryz.f90 H [C.str b]=(.must true (.must true (.must (decide (b.length≤281474976710656)) (.must true (.ask (aA8 b) (H [Pt.r,Pt.r,Pt.r,Pt.r,Pt.b] 9223372036854775808 (aLp (b) (ifI (aA8 b) (rhV b)) (ifI (aA8 b) (rhS b)) (ifI (aA8 b) (rhB b)) (ifI (aA8 b) (rhL b)) ((24:Int)))) (.must true (.ret [C.bool false,C.int .i64 0,C.int .i64 0,C.int .i64 0,C.int .i64 0,C.sl [],C.sl [],C.int .i64 0,C.bool false]))))))):=by kernel_rfl
theorem aYk (H:List Pt→Nat→St→T (List C)) (b:List UInt8):aAe aFy aAb (sg [pS] [aJd]) Tryz.f93 H [C.str b]=(.must true (.must true (.must (decide (b.length≤281474976710656)) (.must true (.ask (aA8 b) (H [Pt.r,Pt.r,Pt.r,Pt.r,Pt.b] 9223372036854775808 (aLq (b) (ifI (aA8 b) (rhV b)) (ifI (aA8 b) (rhS b)) (ifI (aA8 b) (rhB b)) (ifI (aA8 b) (rhL b)) ((24:Int)))) (.must true (.ret [C.bool false,C.int .i64 0,C.int .i64 0,C.int .i64 0,C.int .i64 0,C.sl [],C.sl [],C.int .i64 0,C.bool false]))))))):=by kernel_rfl
theorem aQe (H:List Pt→Nat→St→T (List C)) (b:List UInt8) (v:Int) (s:Int) (q:Int) (l:Int) (e:Int) (k:Nat):aB3 aFx aAb (sg [pS] [aJd]) Tryz.f90 H [Pt.r,Pt.r,Pt.r,Pt.r,Pt.b] k (aLp b v s q l e)=(.must true (.must (decide (b.length≤281474976710656)) (.must true (.ask (aFm v (IntKind.i64.wrap (q+(0:Int))) b e) (.must true (.ret [C.bool true,C.int .i64 v,C.int .i64 s,C.int .i64 q,C.int .i64 l,C.sl [],C.sl [],C.int .i64 e,C.bool true])) (.must true (.must (decide (b.length≤281474976710656)&&(decide ((-9223372036854775808:Int)≤e)&&decide (e≤(9223372036854775807:Int)))) (.must true (.ask (bBs v (IntKind.i64.wrap (q+(0:Int))) b e) (.must true (.must true (H [Pt.r,Pt.r,Pt.r,Pt.r,Pt.b] k (aI2 (b) (v) (s) (q) (l) (aKy v (IntKind.i64.wrap (q+(0:Int))) b e) (1) ([[C.str (aO1 v (IntKind.i64.wrap (q+(0:Int))) b e)]]) (1) ([[C.int .i64 e]]))))) (.must true (.ret [C.bool true,C.int .i64 v,C.int .i64 s,C.int .i64 q,C.int .i64 l,C.sl [],C.sl [],C.int .i64 e,C.bool false])))))))))):=by kernel_rfl
theorem aQz (H:List Pt→Nat→St→T (List C)) (b:List UInt8) (v:Int) (s:Int) (q:Int) (l:Int) (e:Int) (k:Nat):aB3 aFy aAb (sg [pS] [aJd]) Tryz.f93 H [Pt.r,Pt.r,Pt.r,Pt.r,Pt.b] k (aLq b v s q l e)=(.must true (.must (decide (b.length≤281474976710656)) (.must true (.ask (aFm v (IntKind.i64.wrap (q+(0:Int))) b e) (.must true (.ret [C.bool true,C.int .i64 v,C.int .i64 s,C.int .i64 q,C.int .i64 l,C.sl [],C.sl [],C.int .i64 e,C.bool true])) (.must true (.must (decide (b.length≤281474976710656)&&(decide ((-9223372036854775808:Int)≤e)&&decide (e≤(9223372036854775807:Int)))) (.must true (.ask (bBs v (IntKind.i64.wrap (q+(0:Int))) b e) (.must true (.must true (H [Pt.r,Pt.r,Pt.r,Pt.r,Pt.b] k (aI4 (b) (v) (s) (q) (l) (aKy v (IntKind.i64.wrap (q+(0:Int))) b e) (1) ([[C.str (aO1 v (IntKind.i64.wrap (q+(0:Int))) b e)]]) (1) ([[C.int .i64 e]]))))) (.must true (.ret [C.bool true,C.int .i64 v,C.int .i64 s,C.int .i64 q,C.int .i64 l,C.sl [],C.sl [],C.int .i64 e,C.bool false])))))))))):=by kernel_rfl
theorem aQd (H:List Pt→Nat→St→T (List C)) (b:List UInt8) (v:Int) (s:Int) (q:Int) (l:Int) (e:Int) (n:Nat) (r:List (List C)) (n2:Nat) (o:List (List C)) (k:Nat):aB3 aFx aAb (sg [pS] [aJd]) Tryz.f90 H [Pt.r,Pt.r,Pt.r,Pt.r,Pt.b] k (aI2 b v s q l e n r n2 o)=(.must true (.must (decide (b.length≤281474976710656)) (.must true (.ask (aFm v (IntKind.i64.wrap (q+(↑n:Int))) b e) (.must (true&&(false||true)&&(true&&(false||true)&&(true&&(false||true)&&(true&&(false||true)&&(true&&(false||true)&&(decide (n=r.length)&&(false||r.all fun r=>r.all C.flat)&&(decide (n2=o.length)&&(false||o.all fun r=>r.all C.flat)&&(true&&(false||true)&&(true&&(false||true)&&true))))))))&&true&&true) (.ret [C.bool true,C.int .i64 v,C.int .i64 s,C.int .i64 q,C.int .i64 l,C.sl r,C.sl o,C.int .i64 e,C.bool true])) (.must true (.must (decide (b.length≤281474976710656)&&(decide ((-9223372036854775808:Int)≤e)&&decide (e≤(9223372036854775807:Int)))) (.must true (.ask (bBs v (IntKind.i64.wrap (q+(↑n:Int))) b e) (.must (decide (n=r.length)&&aBg (r.length+1) 16&&(decide (1=1)&&true)) (.must (decide (n2=o.length)&&aBg (o.length+1) 8&&(decide (1=1)&&true)) (H [Pt.r,Pt.r,Pt.r,Pt.r,Pt.b] k (aI2 (b) (v) (s) (q) (l) (aKy v (IntKind.i64.wrap (q+(↑n:Int))) b e) (r.length+1) (r.append [[C.str (aO1 v (IntKind.i64.wrap (q+(↑n:Int))) b e)]]) (o.length+1) (o.append [[C.int .i64 e]]))))) (.must (true&&(false||true)&&(true&&(false||true)&&(true&&(false||true)&&(true&&(false||true)&&(true&&(false||true)&&(decide (n=r.length)&&(false||r.all fun r=>r.all C.flat)&&(decide (n2=o.length)&&(false||o.all fun r=>r.all C.flat)&&(true&&(false||true)&&(true&&(false||true)&&true))))))))&&true&&true) (.ret [C.bool true,C.int .i64 v,C.int .i64 s,C.int .i64 q,C.int .i64 l,C.sl r,C.sl o,C.int .i64 e,C.bool false])))))))))):=by kernel_rfl
theorem aQy (H:List Pt→Nat→St→T (List C)) (b:List UInt8) (v:Int) (s:Int) (q:Int) (l:Int) (e:Int) (n:Nat) (r:List (List C)) (n2:Nat) (o:List (List C)) (k:Nat):aB3 aFy aAb (sg [pS] [aJd]) Tryz.f93 H [Pt.r,Pt.r,Pt.r,Pt.r,Pt.b] k (aI4 b v s q l e n r n2 o)=(.must true (.must (decide (b.length≤281474976710656)) (.must true (.ask (aFm v (IntKind.i64.wrap (q+(↑n:Int))) b e) (.must (true&&(false||true)&&(true&&(false||true)&&(true&&(false||true)&&(true&&(false||true)&&(true&&(false||true)&&(decide (n=r.length)&&(false||r.all fun r=>r.all C.flat)&&(decide (n2=o.length)&&(false||o.all fun r=>r.all C.flat)&&(true&&(false||true)&&(true&&(false||true)&&true))))))))&&true&&true) (.ret [C.bool true,C.int .i64 v,C.int .i64 s,C.int .i64 q,C.int .i64 l,C.sl r,C.sl o,C.int .i64 e,C.bool true])) (.must true (.must (decide (b.length≤281474976710656)&&(decide ((-9223372036854775808:Int)≤e)&&decide (e≤(9223372036854775807:Int)))) (.must true (.ask (bBs v (IntKind.i64.wrap (q+(↑n:Int))) b e) (.must (decide (n=r.length)&&aBg (r.length+1) 16&&(decide (1=1)&&true)) (.must (decide (n2=o.length)&&aBg (o.length+1) 8&&(decide (1=1)&&true)) (H [Pt.r,Pt.r,Pt.r,Pt.r,Pt.b] k (aI4 (b) (v) (s) (q) (l) (aKy v (IntKind.i64.wrap (q+(↑n:Int))) b e) (r.length+1) (r.append [[C.str (aO1 v (IntKind.i64.wrap (q+(↑n:Int))) b e)]]) (o.length+1) (o.append [[C.int .i64 e]]))))) (.must (true&&(false||true)&&(true&&(false||true)&&(true&&(false||true)&&(true&&(false||true)&&(true&&(false||true)&&(decide (n=r.length)&&(false||r.all fun r=>r.all C.flat)&&(decide (n2=o.length)&&(false||o.all fun r=>r.all C.flat)&&(true&&(false||true)&&(true&&(false||true)&&true))))))))&&true&&true) (.ret [C.bool true,C.int .i64 v,C.int .i64 s,C.int .i64 q,C.int .i64 l,C.sl r,C.sl o,C.int .i64 e,C.bool false])))))))))):=by kernel_rfl
def bUp (v s q l:Int) (x:List (List UInt8)×List Int×Int×Bool):List C:=[.bool true,.int .i64 v,.int .i64 s,.int .i64 q,.int .i64 l,.sl (x.1.map aBf),.sl (x.2.1.map aEf),.int .i64 x.2.2.1,.bool x.2.2.2]
theorem aLx (v p:Int) (b:List UInt8) (a:Int) (h:bBs v p b a=true):a+1≤aKy v p b a∧aKy v p b a≤b.length∧0≤a:=by
 unfold aKy
 rw[if_pos h]
 unfold bBs at h
 simp only[Bool.and_eq_true,decide_eq_true_eq]at h
 obtain⟨⟨⟨⟨hv,hp⟩,hh⟩,hn1,hn2⟩,ha⟩:=h
 have hl:(aHa v b a).length≤60:=by unfold aHa;simp;omega
 have hne:=aLh v p (aHa v b a) hv hp hl
 obtain⟨h1,h2,h3⟩:=(aFf _ _ _).1 ha
 generalize aAc v p (aHa v b a)=t at hne h3
 have hpos:0<t.length:=List.length_pos_iff.2 hne
 have:=congrArg List.length h3
 simp at this
 omega
theorem bTv (rs:List (List UInt8)) (x:List UInt8):(rs.map aBf).append [[C.str x]]=(rs++[x]).map aBf:=by simp
theorem bTw (rs:List Int) (x:Int):(rs.map aEf).append [[C.int .i64 x]]=(rs++[x]).map aEf:=by simp
theorem aUk (b:List UInt8) (v s q l:Int) (hb:b.length≤1048576) (hq:0≤q∧q≤1000000000):∀ (n f:Nat) (e:Int) (rs:List (List UInt8)) (os:List Int),0≤e→e≤b.length→(b.length:Int)<e+n→(b.length:Int)<e+f→rs.length=os.length→(rs.length:Int)≤e →
  (aBl aFx aAb (sg [pS] [aJd]) Tryz.f90 [.r,.r,.r,.r,.b] n (aI2 b v s q l e rs.length (rs.map aBf) os.length (os.map aEf))).eval=some (bUp v s q l (aCr v q b f rs.length e rs os)):=by
 intro n
 induction n with
 |zero=>intro f e rs os h0 h1 h2 h3 h4 h5;omega
 |succ n ih =>
  intro f e rs os h0 h1 h2 h3 h4 h5
  obtain⟨f,rfl⟩:∃ g,f=g+1:=⟨f-1,by omega⟩
  rw[aAo _ _ _ _ _ _ _ (by kernel_rfl),aQd]
  have w:IntKind.i64.wrap (q+(rs.length:Int))=q+(rs.length:Int):=by rw[aAh]<;>omega
  have pre1:decide (b.length≤281474976710656)=true:=decide_eq_true (by omega)
  have pre2:(decide ((-9223372036854775808:Int)≤e)&&decide (e≤(9223372036854775807:Int)))=true:=by simp;omega
  have ro1:aBg (rs.length+1) 16=true:=by simp only[aBg,decide_eq_true_eq];omega
  have ro2:aBg (os.length+1) 8=true:=by simp only[aBg,decide_eq_true_eq];omega
  have fl1:=aGf rs
  have fl2:=aW8 os
  rw[w]
  simp only[aCr]
  cases hm:aFm v (q+(rs.length:Int)) b e with
  |true =>
   simp only[aBo,aCb,pre1,hm,aA0,aA1,List.length_map,decide_true,fl1,fl2,Bool.false_or,Bool.or_true,Bool.and_self,if_true]
   rfl
  |false =>
   cases ho:bBs v (q+(rs.length:Int)) b e with
   |true =>
    obtain⟨g1,g2,g3⟩:=aLx _ _ _ _ ho
    have e1:=ih f (aKy v (q+(rs.length:Int)) b e) (rs++[aO1 v (q+(rs.length:Int)) b e]) (os++[e]) (by omega) g2 (by omega) (by omega) (by simp;omega) (by simp;omega)
    simp only[aBo,aCb,aDp,pre1,pre2,hm,ho,aA0,List.length_map,decide_true,ro1,ro2,Bool.and_self,Bool.and_true,if_true,bTv,bTw,Bool.false_eq_true,if_false]
    simp only[List.length_append,List.length_cons,List.length_nil,Nat.zero_add,Int.natCast_add,Int.natCast_one]at e1 ⊢
    exact e1
   |false =>
    simp only[aBo,aCb,aDp,pre1,pre2,hm,ho,aA0,aA1,List.length_map,decide_true,fl1,fl2,Bool.false_or,Bool.or_true,Bool.and_self,if_true,Bool.false_eq_true,if_false]
    rfl
theorem aUl (b:List UInt8) (v s q l:Int) (hb:b.length≤1048576) (h24:24≤b.length) (hq:0≤q∧q≤1000000000) (n:Nat) (hn:b.length<n) :
  (aBl aFx aAb (sg [pS] [aJd]) Tryz.f90 [.r,.r,.r,.r,.b] (n+1) (aLp b v s q l 24)).eval=some (bUp v s q l (aCr v q b (b.length+1) 0 24 [] [])):=by
 rw[aAo _ _ _ _ _ _ _ (by kernel_rfl),aQe]
 have w:IntKind.i64.wrap (q+0)=q+0:=by rw[aAh]<;>omega
 have pre1:decide (b.length≤281474976710656)=true:=decide_eq_true (by omega)
 have pre2:(decide ((-9223372036854775808:Int)≤24)&&decide ((24:Int)≤(9223372036854775807:Int)))=true:=by decide
 rw[w]
 simp only[aCr]
 cases hm:aFm v (q+0) b 24 with
 |true =>
  simp only[aBo,aCb,pre1,hm,aA0,aA1,if_true]
  rfl
 |false =>
  cases ho:bBs v (q+0) b 24 with
  |true =>
   obtain⟨g1,g2,g3⟩:=aLx _ _ _ _ ho
   have e1:=aUk b v s q l hb hq n b.length (aKy v (q+0) b 24) [aO1 v (q+0) b 24] [24] (by omega) g2 (by omega) (by omega) rfl (by show (1:Int)≤_;omega)
   simp only[aBo,aCb,aDp,pre1,pre2,hm,ho,Bool.and_self,Bool.false_eq_true,if_false,if_true,List.nil_append]
   exact e1
  |false =>
   simp only[aBo,aCb,aDp,pre1,pre2,hm,ho,aA0,aA1,if_true,Bool.and_self,Bool.false_eq_true,if_false]
   rfl
theorem bJ9:aA6 Tryz.prog aFx:=aA5 (by simp[aKu,bBk,aSf])
theorem aF6:aAm Tryz.prog 90 (sg [pS] [aJd]) aF4:=aA3 bJ9 aA7 Tryz.func90 (by kernel_rfl) fun cs outs hk h=>by
 unfold aF4 at h
 split at h
 ·simp only[Option.some.injEq,Prod.mk.injEq,decide_eq_true_eq]at h
  obtain⟨h1,rfl⟩:=h
  rename_i b
  rw[aA9,aXu]
  have pre1:decide (b.length≤281474976710656)=true:=decide_eq_true (by omega)
  cases hr:aA8 b with
  |false =>
   have e1:aH8 b=([],[],0,false):=by unfold aH8;rw[hr];rfl
   simp only[aBo,aCb,aDp,pre1,hr,aA0,aA1,if_true,aAn,aEg,aKr,aK6,e1,ifI,Bool.false_eq_true,if_false]
   rfl
  |true =>
   have h24:24≤b.length∧aD2 b 8 8=true∧aB6 (rhV b) (rhS b) (rhB b) (rhL b)=b.take 24:=by
    unfold aA8 at hr
    simpa[and_assoc]using hr
   have hq:0≤rhB b∧rhB b≤1000000000:=by
    have ht:=h24.2.2
    cases hk:aCq (rhV b) (rhS b) (rhB b) (rhL b)with
    |true=>have:=(aEe _ _ _ _).1 hk;exact this.2.2.1
    |false =>
     unfold aB6 at ht
     rw[hk]at ht
     have:=congrArg List.length ht
     simp at this
     omega
   have e1:aH8 b=aCr (rhV b) (rhB b) b (b.length+1) 0 24 [] []:=by unfold aH8;rw[hr];rfl
   have lp:=aUl b (rhV b) (rhS b) (rhB b) (rhL b) h1 h24.1 hq 9223372036854775807 (by omega)
   rw[←e1]at lp
   simp only[aBo,aCb,aDp,pre1,hr,ifI,if_true]
   exact lp
 ·cases h
theorem aVr (b:List UInt8) (v s q l:Int) (hb:b.length≤1048576) (hq:0≤q∧q≤1000000000):∀ (n f:Nat) (e:Int) (rs:List (List UInt8)) (os:List Int),0≤e→e≤b.length→(b.length:Int)<e+n→(b.length:Int)<e+f→rs.length=os.length→(rs.length:Int)≤e →
  (aBl aFy aAb (sg [pS] [aJd]) Tryz.f93 [.r,.r,.r,.r,.b] n (aI4 b v s q l e rs.length (rs.map aBf) os.length (os.map aEf))).eval=some (bUp v s q l (aCr v q b f rs.length e rs os)):=by
 intro n
 induction n with
 |zero=>intro f e rs os h0 h1 h2 h3 h4 h5;omega
 |succ n ih =>
  intro f e rs os h0 h1 h2 h3 h4 h5
  obtain⟨f,rfl⟩:∃ g,f=g+1:=⟨f-1,by omega⟩
  rw[aAo _ _ _ _ _ _ _ (by kernel_rfl),aQy]
  have w:IntKind.i64.wrap (q+(rs.length:Int))=q+(rs.length:Int):=by rw[aAh]<;>omega
  have pre1:decide (b.length≤281474976710656)=true:=decide_eq_true (by omega)
  have pre2:(decide ((-9223372036854775808:Int)≤e)&&decide (e≤(9223372036854775807:Int)))=true:=by simp;omega
  have ro1:aBg (rs.length+1) 16=true:=by simp only[aBg,decide_eq_true_eq];omega
  have ro2:aBg (os.length+1) 8=true:=by simp only[aBg,decide_eq_true_eq];omega
  have fl1:=aGf rs
  have fl2:=aW8 os
  rw[w]
  simp only[aCr]
  cases hm:aFm v (q+(rs.length:Int)) b e with
  |true =>
   simp only[aBo,aCb,pre1,hm,aA0,aA1,List.length_map,decide_true,fl1,fl2,Bool.false_or,Bool.or_true,Bool.and_self,if_true]
   rfl
  |false =>
   cases ho:bBs v (q+(rs.length:Int)) b e with
   |true =>
    obtain⟨g1,g2,g3⟩:=aLx _ _ _ _ ho
    have e1:=ih f (aKy v (q+(rs.length:Int)) b e) (rs++[aO1 v (q+(rs.length:Int)) b e]) (os++[e]) (by omega) g2 (by omega) (by omega) (by simp;omega) (by simp;omega)
    simp only[aBo,aCb,aDp,pre1,pre2,hm,ho,aA0,List.length_map,decide_true,ro1,ro2,Bool.and_self,Bool.and_true,if_true,bTv,bTw,Bool.false_eq_true,if_false]
    simp only[List.length_append,List.length_cons,List.length_nil,Nat.zero_add,Int.natCast_add,Int.natCast_one]at e1 ⊢
    exact e1
   |false =>
    simp only[aBo,aCb,aDp,pre1,pre2,hm,ho,aA0,aA1,List.length_map,decide_true,fl1,fl2,Bool.false_or,Bool.or_true,Bool.and_self,if_true,Bool.false_eq_true,if_false]
    rfl
theorem aVs (b:List UInt8) (v s q l:Int) (hb:b.length≤1048576) (h24:24≤b.length) (hq:0≤q∧q≤1000000000) (n:Nat) (hn:b.length<n) :
  (aBl aFy aAb (sg [pS] [aJd]) Tryz.f93 [.r,.r,.r,.r,.b] (n+1) (aLq b v s q l 24)).eval=some (bUp v s q l (aCr v q b (b.length+1) 0 24 [] [])):=by
 rw[aAo _ _ _ _ _ _ _ (by kernel_rfl),aQz]
 have w:IntKind.i64.wrap (q+0)=q+0:=by rw[aAh]<;>omega
 have pre1:decide (b.length≤281474976710656)=true:=decide_eq_true (by omega)
 have pre2:(decide ((-9223372036854775808:Int)≤24)&&decide ((24:Int)≤(9223372036854775807:Int)))=true:=by decide
 rw[w]
 simp only[aCr]
 cases hm:aFm v (q+0) b 24 with
 |true =>
  simp only[aBo,aCb,pre1,hm,aA0,aA1,if_true]
  rfl
 |false =>
  cases ho:bBs v (q+0) b 24 with
  |true =>
   obtain⟨g1,g2,g3⟩:=aLx _ _ _ _ ho
   have e1:=aVr b v s q l hb hq n b.length (aKy v (q+0) b 24) [aO1 v (q+0) b 24] [24] (by omega) g2 (by omega) (by omega) rfl (by show (1:Int)≤_;omega)
   simp only[aBo,aCb,aDp,pre1,pre2,hm,ho,Bool.and_self,Bool.false_eq_true,if_false,if_true,List.nil_append]
   exact e1
  |false =>
   simp only[aBo,aCb,aDp,pre1,pre2,hm,ho,aA0,aA1,if_true,Bool.and_self,Bool.false_eq_true,if_false]
   rfl
theorem bKx:aA6 Tryz.prog aFy:=aA5 (by simp[aLe,bD1,aSq])
theorem aHf:aAm Tryz.prog 93 (sg [pS] [aJd]) aF4:=aA3 bKx aA7 Tryz.func93 (by kernel_rfl) fun cs outs hk h=>by
 unfold aF4 at h
 split at h
 ·simp only[Option.some.injEq,Prod.mk.injEq,decide_eq_true_eq]at h
  obtain⟨h1,rfl⟩:=h
  rename_i b
  rw[aA9,aYk]
  have pre1:decide (b.length≤281474976710656)=true:=decide_eq_true (by omega)
  cases hr:aA8 b with
  |false =>
   have e1:aH8 b=([],[],0,false):=by unfold aH8;rw[hr];rfl
   simp only[aBo,aCb,aDp,pre1,hr,aA0,aA1,if_true,aAn,aEg,aKr,aK6,e1,ifI,Bool.false_eq_true,if_false]
   rfl
  |true =>
   have h24:24≤b.length∧aD2 b 8 8=true∧aB6 (rhV b) (rhS b) (rhB b) (rhL b)=b.take 24:=by
    unfold aA8 at hr
    simpa[and_assoc]using hr
   have hq:0≤rhB b∧rhB b≤1000000000:=by
    have ht:=h24.2.2
    cases hk:aCq (rhV b) (rhS b) (rhB b) (rhL b)with
    |true=>have:=(aEe _ _ _ _).1 hk;exact this.2.2.1
    |false =>
     unfold aB6 at ht
     rw[hk]at ht
     have:=congrArg List.length ht
     simp at this
     omega
   have e1:aH8 b=aCr (rhV b) (rhB b) b (b.length+1) 0 24 [] []:=by unfold aH8;rw[hr];rfl
   have lp:=aVs b (rhV b) (rhS b) (rhB b) (rhL b) h1 h24.1 hq 9223372036854775807 (by omega)
   rw[←e1]at lp
   simp only[aBo,aCb,aDp,pre1,hr,ifI,if_true]
   exact lp
 ·cases h
noncomputable section
def aLs:aC0:=fun cs=>match cs with
 |[.int .u64 n]=>some (decide (n=16),[.int .i64 4])
 |_=>none
def aV3:aC0:=fun cs=>match cs with
 |[.int .i64 n]=>some (decide (n=16),[.bool true])
 |_=>none
abbrev aSk:PTy:=.val false [.int .u64]
def aJn (n:Nat):UInt8:=([48,49,50,51,52,53,54,55,56,57,97,98,99,100,101,102]:List UInt8).getD (n % 16) 0
def bDa:Nat→Nat→List UInt8→List UInt8
 |0,_,acc=>acc
 |f+1,n,acc=>if 16≤n then bDa f (n / 16) (aJn n::acc)else aJn n::acc
def aGc (n:Nat):List UInt8:=bDa 16 n []
def aR9:aC0:=fun cs=>match cs with
 |[.sl [],.int .u64 u,.int .i64 base,.bool false,.bool false]=>some (decide (base=16)&&(decide (0≤u)&&decide (u≤1000000000)),[.sl [],.str (aGc u.toNat)])
 |_=>none
def aIr:aC0:=fun cs=>match cs with
 |[.int .i64 n,.int .i64 base]=>some (decide (base=16)&&(decide (0≤n)&&decide (n≤1000000000)),[.str (aGc n.toNat)])
 |_=>none
def aJ0 (u i s b m:Int) (r:List (List C)):St:=st1 [(0,.l (.sl [])),(1,.l (.i .u64 u)),(3,.l (.b false)),(4,.l (.b false)),(10,.l .nil),(11,.l (.s [])),(12,.l (.eptr 0 0 0)),(13,aB0 i),(14,.l (.i .u64 s)),(15,.l (.i .u64 b)),(16,.l (.i .u64 m))] 1 r
def bXj:Env:=mkE [] []
def cBn:Env:=mkE [] [(203,(sg [aSk] [rI]),aLs)]
def bU3:Env:=mkE [] []
def aJ1:Env:=mkE [(11,[0,1,3,4,10,11,12,13,14,15,16]),(18,[0,1,3,4,10,11,12,13,17])] [(195,(sg [aSk] [rI]),aLs),(194,(sg [pI] [rB]),aV3)]
def bNs:Env:=mkE [] [(169,(sg [pSl 5,aSk,pI,pB,pB] [rSl 5,rS]),aR9)]
def bIk:Env:=mkE [] [(126,(sg [pI,pI] [rS]),aIr)]
def aM2:aC0:=fun cs=>match cs with
 |[.int .u64 a,.int .u64 n]=>some (decide (a=1)&&(decide (0≤n)&&decide (n≤8)),[.int .u64 0,.int .u64 n])
 |_=>none
abbrev bQ9:RTy:=⟨false,[(.int .u64,false)]⟩
def bU2:Env:=mkE [] []
def bXm:Env:=mkE [] [(171,(sg [aSk,aSk] [bQ9,bQ9]),aM2)]
def bBt:aC0:=fun cs=>match cs with
 |[.str s,.int .i64 n]=>some (decide (s=[48])&&(decide (0≤n)&&decide (n≤8)),[.str (List.replicate n.toNat 48)])
 |_=>none
def bXk:Env:=mkE [(38,[7,8,9])] [(128,(sg [pS,pS] [rB]),aFt),(127,(sg [aSk,aSk] [bQ9,bQ9]),aM2)]
def aJr:Nat→Nat→List UInt8
 |0,_=>[]
 |k+1,n=>aJr k (n / 16)++[aJn n]
def aB8 (n:Int):List UInt8:=if inB n 0 1000000000 then[115]++aJr 8 n.toNat++[46,115,101,103]else[]
def aI8:aC0:=fun cs=>match cs with
 |[.int .i64 n]=>some (true,[.str (aB8 n)])
 |_=>none
def aG3 (n:Int) (q:Nat) (r:List (List C)) (i:Int):St:=st1 [(0,aB0 n),(3,.l (.ref 0 0 q)),(4,aB0 i)] 1 r
def aG4:Env:=mkE [(5,[0,3,4])] [(53,(sg [pI,pI,pI] [rB]),aE0)]
def aNn:Env:=mkE [] [(97,(sg [pI] [rB]),aCg),(98,(sg [pI,pI] [rS]),aIr),(99,(sg [pS,pI] [rS]),bBt)]
end
theorem bQm (H:List Pt→Nat→St→T (List C)):(aAe bXj aAb (sg [aSk] [rI]) Tryz.f203 H [C.int .u64 16]).eval=((.ret [C.int .i64 (IntKind.i64.wrap 4)]):T (List C)).eval:=aAd (by kernel_rfl)
theorem bXv (H:List Pt→Nat→St→T (List C)):(aAe cBn aAb (sg [aSk] [rI]) Tryz.f195 H [C.int .u64 16]).eval=((.ret [C.int .i64 ((4:Int))]):T (List C)).eval:=aAd (by kernel_rfl)
theorem bPd (H:List Pt→Nat→St→T (List C)):(aAe bU3 aAb (sg [pI] [rB]) Tryz.f194 H [C.int .i64 16]).eval=((.ret [C.bool true]):T (List C)).eval:=aAd (by kernel_rfl)
theorem bHi (H:List Pt→Nat→St→T (List C)) (u:Int):(aAe aJ1 aAb (sg [pSl 5,aSk,pI,pB,pB] [rSl 5,rS]) Tryz.f169 H [C.sl [],C.int .u64 u,C.int .i64 16,C.bool false,C.bool false]).eval=((H [Pt.r,Pt.r,Pt.r,Pt.r,Pt.r,Pt.l,Pt.r,Pt.l,Pt.r,Pt.r,Pt.r,Pt.l,Pt.b] 9223372036854775808 (aJ0 (u) ((65:Int)) (IntKind.u64.wrap ((4:Int))) (IntKind.u64.wrap ((16:Int))) (IntKind.u64.wrap (IntKind.u64.wrap ((16:Int))-(1:Int))) ([[C.int .u8 0],[C.int .u8 0],[C.int .u8 0],[C.int .u8 0],[C.int .u8 0],[C.int .u8 0],[C.int .u8 0],[C.int .u8 0],[C.int .u8 0],[C.int .u8 0],[C.int .u8 0],[C.int .u8 0],[C.int .u8 0],[C.int .u8 0],[C.int .u8 0],[C.int .u8 0],[C.int .u8 0],[C.int .u8 0],[C.int .u8 0],[C.int .u8 0],[C.int .u8 0],[C.int .u8 0],[C.int .u8 0],[C.int .u8 0],[C.int .u8 0],[C.int .u8 0],[C.int .u8 0],[C.int .u8 0],[C.int .u8 0],[C.int .u8 0],[C.int .u8 0],[C.int .u8 0],[C.int .u8 0],[C.int .u8 0],[C.int .u8 0],[C.int .u8 0],[C.int .u8 0],[C.int .u8 0],[C.int .u8 0],[C.int .u8 0],[C.int .u8 0],[C.int .u8 0],[C.int .u8 0],[C.int .u8 0],[C.int .u8 0],[C.int .u8 0],[C.int .u8 0],[C.int .u8 0],[C.int .u8 0],[C.int .u8 0],[C.int .u8 0],[C.int .u8 0],[C.int .u8 0],[C.int .u8 0],[C.int .u8 0],[C.int .u8 0],[C.int .u8 0],[C.int .u8 0],[C.int .u8 0],[C.int .u8 0],[C.int .u8 0],[C.int .u8 0],[C.int .u8 0],[C.int .u8 0],[C.int .u8 0]]))):T (List C)).eval:=aAd (by kernel_rfl)
theorem aNk (H:List Pt→Nat→St→T (List C)) (u:Int) (i:Int) (s:Int) (b:Int) (m:Int) (r:List (List C)) (k:Nat):aB3 aJ1 aAb (sg [pSl 5,aSk,pI,pB,pB] [rSl 5,rS]) Tryz.f169 H [Pt.r,Pt.r,Pt.r,Pt.r,Pt.r,Pt.l,Pt.r,Pt.l,Pt.r,Pt.r,Pt.r,Pt.l,Pt.b] k (aJ0 u i s b m r)=(.ask (decide (b≤u)) (.must (decide ((0:Int)≤aIf .u64 u m)&&decide (aIf .u64 u m<(↑(36:Nat):Int))) (.must (decide ((0:Int)≤IntKind.i64.wrap (i-(1:Int)))&&decide (IntKind.i64.wrap (i-(1:Int))<(↑(65:Nat):Int))) (.must (decide ((IntKind.i64.wrap (i-(1:Int))).toNat<r.length)) (.must (decide ((0:Int)≤s)) (H [Pt.r,Pt.r,Pt.r,Pt.r,Pt.r,Pt.l,Pt.r,Pt.l,Pt.r,Pt.r,Pt.r,Pt.l,Pt.b] k (aJ0 (aKk .u64 u s) (IntKind.i64.wrap (i-(1:Int))) (s) (b) (m) (r.set (IntKind.i64.wrap (i-(1:Int))).toNat (C.int .u8 (↑([(48:UInt8),49,50,51,52,53,54,55,56,57,97,98,99,100,101,102,103,104,105,106,107,108,109,110,111,112,113,114,115,116,117,118,119,120,121,122].getD (aIf .u64 u m).toNat (0:UInt8)).toNat:Int)::List.drop (0+1) (r.getD (IntKind.i64.wrap (i-(1:Int))).toNat []))))))))) (.must (decide ((0:Int)≤u)&&decide (u<(↑(36:Nat):Int))) (.must (decide ((0:Int)≤IntKind.i64.wrap (i-(1:Int)))&&decide (IntKind.i64.wrap (i-(1:Int))<(↑(65:Nat):Int))) (.must (decide ((IntKind.i64.wrap (i-(1:Int))).toNat<r.length)) (.must (decide (65=(r.set (IntKind.i64.wrap (i-(1:Int))).toNat (C.int .u8 (↑([(48:UInt8),49,50,51,52,53,54,55,56,57,97,98,99,100,101,102,103,104,105,106,107,108,109,110,111,112,113,114,115,116,117,118,119,120,121,122].getD u.toNat (0:UInt8)).toNat:Int)::List.drop (0+1) (r.getD (IntKind.i64.wrap (i-(1:Int))).toNat []))).length)) (.must (decide ((0:Int)≤IntKind.i64.wrap (i-(1:Int)))&&decide (IntKind.i64.wrap (i-(1:Int))≤(↑(65:Nat):Int))) (.must ((List.take (65-(IntKind.i64.wrap (i-(1:Int))).toNat) (List.drop (IntKind.i64.wrap (i-(1:Int))).toNat (r.set (IntKind.i64.wrap (i-(1:Int))).toNat (C.int .u8 (↑([(48:UInt8),49,50,51,52,53,54,55,56,57,97,98,99,100,101,102,103,104,105,106,107,108,109,110,111,112,113,114,115,116,117,118,119,120,121,122].getD u.toNat (0:UInt8)).toNat:Int)::List.drop (0+1) (r.getD (IntKind.i64.wrap (i-(1:Int))).toNat []))))).all aFv) (.must true (.ret [C.sl [],C.str (aCl (List.take (65-(IntKind.i64.wrap (i-(1:Int))).toNat) (List.drop (IntKind.i64.wrap (i-(1:Int))).toNat (r.set (IntKind.i64.wrap (i-(1:Int))).toNat (C.int .u8 (↑([(48:UInt8),49,50,51,52,53,54,55,56,57,97,98,99,100,101,102,103,104,105,106,107,108,109,110,111,112,113,114,115,116,117,118,119,120,121,122].getD u.toNat (0:UInt8)).toNat:Int)::List.drop (0+1) (r.getD (IntKind.i64.wrap (i-(1:Int))).toNat []))))))]))))))))):=by kernel_rfl
theorem bLk (H:List Pt→Nat→St→T (List C)) (n:Int):(aAe bNs aAb (sg [pI,pI] [rS]) Tryz.f126 H [C.int .i64 n,C.int .i64 16]).eval=((.ask (decide (n<(0:Int))) .bad (.must (decide ((16:Int)=(16:Int))&&(decide ((0:Int)≤IntKind.u64.wrap n)&&decide (IntKind.u64.wrap n≤(1000000000:Int)))) (.ret [C.str (aGc (IntKind.u64.wrap n).toNat)]))):T (List C)).eval:=aAd (by kernel_rfl)
theorem bHh (H:List Pt→Nat→St→T (List C)) (n:Int):(aAe bIk aAb (sg [pI,pI] [rS]) Tryz.f98 H [C.int .i64 n,C.int .i64 16]).eval=((.must (decide ((16:Int)=(16:Int))&&(decide ((0:Int)≤n)&&decide (n≤(1000000000:Int)))) (.ret [C.str (aGc n.toNat)])):T (List C)).eval:=aAd (by kernel_rfl)
theorem bP6 (H:List Pt→Nat→St→T (List C)) (n:Int):(aAe bU2 aAb (sg [aSk,aSk] [bQ9,bQ9]) Tryz.f171 H [C.int .u64 1,C.int .u64 n]).eval=((.ret [C.int .u64 (IntKind.u64.wrap (IntKind.u64.wrap (IntKind.u64.wrap (aKk .u64 ((1:Int)) (32:Int)*aKk .u64 n 32)+aKk .u64 (IntKind.u64.wrap (IntKind.u64.wrap (aKk .u64 ((1:Int)) (32:Int)*aIf .u64 n 4294967295)+aKk .u64 (IntKind.u64.wrap (aIf .u64 ((1:Int)) (4294967295:Int)*aIf .u64 n 4294967295)) (32:Int))) (32:Int))+aKk .u64 (IntKind.u64.wrap (aIf .u64 (IntKind.u64.wrap (IntKind.u64.wrap (aKk .u64 ((1:Int)) (32:Int)*aIf .u64 n 4294967295)+aKk .u64 (IntKind.u64.wrap (aIf .u64 ((1:Int)) (4294967295:Int)*aIf .u64 n 4294967295)) (32:Int))) (4294967295:Int)+IntKind.u64.wrap (aIf .u64 ((1:Int)) (4294967295:Int)*aKk .u64 n 32))) (32:Int))),C.int .u64 (IntKind.u64.wrap ((1:Int)*n))]):T (List C)).eval:=aAd (by kernel_rfl)
theorem bS8 (H:List Pt→Nat→St→T (List C)) (n:Int):(aAe bXm aAb (sg [aSk,aSk] [bQ9,bQ9]) Tryz.f127 H [C.int .u64 1,C.int .u64 n]).eval=((.must (decide ((1:Int)=(1:Int))&&(decide ((0:Int)≤n)&&decide (n≤(8:Int)))) (.ret [C.int .u64 ((0:Int)),C.int .u64 n])):T (List C)).eval:=aAd (by kernel_rfl)
theorem bRm (H:List Pt→Nat→St→T (List C)) (n:Int):(aAe bXk aAb (sg [pS,pI] [rS]) Tryz.f99 H [C.str [(48:UInt8)],C.int .i64 n]).eval=((.ask (decide (n=(0:Int))) (.ret [C.str []]) (.ask (decide (n=(1:Int))) (.ret [C.str [(48:UInt8)]]) (.ask (decide (n<(0:Int))) .bad (.must (decide (IntKind.u64.wrap (↑[(48:UInt8)].length:Int)=(1:Int))&&(decide ((0:Int)≤IntKind.u64.wrap n)&&decide (IntKind.u64.wrap n≤(8:Int)))) (.ask (decide ((9223372036854775807:Int)<IntKind.u64.wrap n)) .bad (.ask (decide (IntKind.i64.wrap (IntKind.u64.wrap n)≤(128:Int))) (.ask (decide (IntKind.i64.wrap (IntKind.u64.wrap n)≤(128:Int))) (.ask (decide (IntKind.i64.wrap (IntKind.u64.wrap n)≤(64:Int))) (.must (decide ((0:Int)≤IntKind.i64.wrap (IntKind.u64.wrap n))&&decide (IntKind.i64.wrap (IntKind.u64.wrap n)≤(↑(64:Nat):Int))) (.ret [C.str (List.drop 0 (List.take (IntKind.i64.wrap (IntKind.u64.wrap n)).toNat [(48:UInt8),48,48,48,48,48,48,48,48,48,48,48,48,48,48,48,48,48,48,48,48,48,48,48,48,48,48,48,48,48,48,48,48,48,48,48,48,48,48,48,48,48,48,48,48,48,48,48,48,48,48,48,48,48,48,48,48,48,48,48,48,48,48,48]))])) (.ask (decide (IntKind.i64.wrap (IntKind.u64.wrap n)≤(128:Int))) (.ask (decide (IntKind.i64.wrap (IntKind.u64.wrap n)≤(64:Int))) (.ask (decide ((8192:Int)<IntKind.i64.wrap (IntKind.u64.wrap n))) .bad .bad) (.ask (decide ((8192:Int)<IntKind.i64.wrap (IntKind.u64.wrap n))) .bad .bad)) (.ask (decide (IntKind.i64.wrap (IntKind.u64.wrap n)≤(64:Int))) (.ask (decide ((8192:Int)<IntKind.i64.wrap (IntKind.u64.wrap n))) .bad .bad) (.ask (decide ((8192:Int)<IntKind.i64.wrap (IntKind.u64.wrap n))) .bad .bad)))) (.ask (decide (IntKind.i64.wrap (IntKind.u64.wrap n)≤(64:Int))) (.must (decide ((0:Int)≤IntKind.i64.wrap (IntKind.u64.wrap n))&&decide (IntKind.i64.wrap (IntKind.u64.wrap n)≤(↑(64:Nat):Int))) (.ret [C.str (List.drop 0 (List.take (IntKind.i64.wrap (IntKind.u64.wrap n)).toNat [(48:UInt8),48,48,48,48,48,48,48,48,48,48,48,48,48,48,48,48,48,48,48,48,48,48,48,48,48,48,48,48,48,48,48,48,48,48,48,48,48,48,48,48,48,48,48,48,48,48,48,48,48,48,48,48,48,48,48,48,48,48,48,48,48,48,48]))])) (.ask (decide (IntKind.i64.wrap (IntKind.u64.wrap n)≤(128:Int))) (.ask (decide (IntKind.i64.wrap (IntKind.u64.wrap n)≤(64:Int))) (.ask (decide ((8192:Int)<IntKind.i64.wrap (IntKind.u64.wrap n))) .bad .bad) (.ask (decide ((8192:Int)<IntKind.i64.wrap (IntKind.u64.wrap n))) .bad .bad)) (.ask (decide (IntKind.i64.wrap (IntKind.u64.wrap n)≤(64:Int))) (.ask (decide ((8192:Int)<IntKind.i64.wrap (IntKind.u64.wrap n))) .bad .bad) (.ask (decide ((8192:Int)<IntKind.i64.wrap (IntKind.u64.wrap n))) .bad .bad))))) (.ask (decide (IntKind.i64.wrap (IntKind.u64.wrap n)≤(128:Int))) (.ask (decide (IntKind.i64.wrap (IntKind.u64.wrap n)≤(64:Int))) (.must (decide ((0:Int)≤IntKind.i64.wrap (IntKind.u64.wrap n))&&decide (IntKind.i64.wrap (IntKind.u64.wrap n)≤(↑(64:Nat):Int))) (.ret [C.str (List.drop 0 (List.take (IntKind.i64.wrap (IntKind.u64.wrap n)).toNat [(48:UInt8),48,48,48,48,48,48,48,48,48,48,48,48,48,48,48,48,48,48,48,48,48,48,48,48,48,48,48,48,48,48,48,48,48,48,48,48,48,48,48,48,48,48,48,48,48,48,48,48,48,48,48,48,48,48,48,48,48,48,48,48,48,48,48]))])) (.ask (decide (IntKind.i64.wrap (IntKind.u64.wrap n)≤(128:Int))) (.ask (decide (IntKind.i64.wrap (IntKind.u64.wrap n)≤(64:Int))) (.ask (decide ((8192:Int)<IntKind.i64.wrap (IntKind.u64.wrap n))) .bad .bad) (.ask (decide ((8192:Int)<IntKind.i64.wrap (IntKind.u64.wrap n))) .bad .bad)) (.ask (decide (IntKind.i64.wrap (IntKind.u64.wrap n)≤(64:Int))) (.ask (decide ((8192:Int)<IntKind.i64.wrap (IntKind.u64.wrap n))) .bad .bad) (.ask (decide ((8192:Int)<IntKind.i64.wrap (IntKind.u64.wrap n))) .bad .bad)))) (.ask (decide (IntKind.i64.wrap (IntKind.u64.wrap n)≤(64:Int))) (.must (decide ((0:Int)≤IntKind.i64.wrap (IntKind.u64.wrap n))&&decide (IntKind.i64.wrap (IntKind.u64.wrap n)≤(↑(64:Nat):Int))) (.ret [C.str (List.drop 0 (List.take (IntKind.i64.wrap (IntKind.u64.wrap n)).toNat [(48:UInt8),48,48,48,48,48,48,48,48,48,48,48,48,48,48,48,48,48,48,48,48,48,48,48,48,48,48,48,48,48,48,48,48,48,48,48,48,48,48,48,48,48,48,48,48,48,48,48,48,48,48,48,48,48,48,48,48,48,48,48,48,48,48,48]))])) (.ask (decide (IntKind.i64.wrap (IntKind.u64.wrap n)≤(128:Int))) (.ask (decide (IntKind.i64.wrap (IntKind.u64.wrap n)≤(64:Int))) (.ask (decide ((8192:Int)<IntKind.i64.wrap (IntKind.u64.wrap n))) .bad .bad) (.ask (decide ((8192:Int)<IntKind.i64.wrap (IntKind.u64.wrap n))) .bad .bad)) (.ask (decide (IntKind.i64.wrap (IntKind.u64.wrap n)≤(64:Int))) (.ask (decide ((8192:Int)<IntKind.i64.wrap (IntKind.u64.wrap n))) .bad .bad) (.ask (decide ((8192:Int)<IntKind.i64.wrap (IntKind.u64.wrap n))) .bad .bad))))))))))):T (List C)).eval:=aAd (by kernel_rfl)
theorem aQb (H:List Pt→Nat→St→T (List C)) (n:Int):(aAe aG4 aAb (sg [pI] [rS]) Tryz.f49 H [C.int .i64 n]).eval=((.ask (inB n 0 1000000000) (H [Pt.r,Pt.r,Pt.r,Pt.l,Pt.r,Pt.b] 9223372036854775808 (aG3 (n) (0) ([]) ((7:Int)))) (.ret [C.str []])):T (List C)).eval:=aAd (by kernel_rfl)
theorem aQx (H:List Pt→Nat→St→T (List C)) (n:Int):(aAe aNn aAb (sg [pI] [rS]) Tryz.f59 H [C.int .i64 n]).eval=((.ask (inB n 0 1000000000) (.must (decide ((16:Int)=(16:Int))&&(decide ((0:Int)≤n)&&decide (n≤(1000000000:Int)))) (.must (decide ([(48:UInt8)]=[(48:UInt8)])&&(decide ((0:Int)≤IntKind.i64.wrap ((8:Int)-(↑(aGc n.toNat).length:Int)))&&decide (IntKind.i64.wrap ((8:Int)-(↑(aGc n.toNat).length:Int))≤(8:Int)))) (.must (decide (1+(List.replicate (IntKind.i64.wrap ((8:Int)-(↑(aGc n.toNat).length:Int))).toNat (48:UInt8)).length≤9223372036854775807)) (.must (decide (([(115:UInt8)]++List.replicate (IntKind.i64.wrap ((8:Int)-(↑(aGc n.toNat).length:Int))).toNat (48:UInt8)).length+(aGc n.toNat).length≤9223372036854775807)) (.must (decide (([(115:UInt8)]++List.replicate (IntKind.i64.wrap ((8:Int)-(↑(aGc n.toNat).length:Int))).toNat (48:UInt8)++aGc n.toNat).length+4≤9223372036854775807)) (.ret [C.str ([(115:UInt8)]++List.replicate (IntKind.i64.wrap ((8:Int)-(↑(aGc n.toNat).length:Int))).toNat (48:UInt8)++aGc n.toNat++[(46:UInt8),115,101,103])])))))) (.ret [C.str []])):T (List C)).eval:=aAd (by kernel_rfl)
theorem aH9 (H:List Pt→Nat→St→T (List C)) (n:Int) (q:Nat) (r:List (List C)) (i:Int) (k:Nat):(aB3 aG4 aAb (sg [pI] [rS]) Tryz.f49 H [Pt.r,Pt.r,Pt.r,Pt.l,Pt.r,Pt.b] k (aG3 n q r i)).eval=((.ask (decide ((0:Int)≤i)) (.must (decide ((0:Int)≤IntKind.u64.wrap (IntKind.i64.wrap ((4:Int)*i)))) (.must (decide ((0:Int)≤aIf .i64 (aKk .i64 n (IntKind.u64.wrap (IntKind.i64.wrap ((4:Int)*i)))) (15:Int))&&decide (aIf .i64 (aKk .i64 n (IntKind.u64.wrap (IntKind.i64.wrap ((4:Int)*i)))) (15:Int)<(↑(16:Nat):Int))) (.must (decide (q=r.length)&&aBg (r.length+1) 1&&(decide (1=1)&&true)) (H [Pt.r,Pt.r,Pt.r,Pt.l,Pt.r,Pt.b] k (aG3 (n) (r.length+1) (r.append [[C.int .u8 (↑([(48:UInt8),49,50,51,52,53,54,55,56,57,97,98,99,100,101,102].getD (aIf .i64 (aKk .i64 n (IntKind.u64.wrap (IntKind.i64.wrap ((4:Int)*i)))) (15:Int)).toNat (0:UInt8)).toNat:Int)]]) (IntKind.i64.wrap (i-(1:Int)))))))) (.must ((List.take q r).all aFv) (.must (decide (1+(aCl (List.take q r)).length≤9223372036854775807)) (.must (decide (([(115:UInt8)]++aCl (List.take q r)).length+4≤9223372036854775807)) (.ret [C.str ([(115:UInt8)]++aCl (List.take q r)++[(46:UInt8),115,101,103])]))))):T (List C)).eval:=aAd (by kernel_rfl)
theorem cA7 (n:Nat) (hn:n<18446744073709551616):aIf .u64 (n:Int) 15=((n % 16:Nat):Int):=by
 have e:(BitVec.ofInt 64 (n:Int)&&&BitVec.ofInt 64 15).toNat=n % 16:=by
  rw[BitVec.toNat_and]
  have h1:(BitVec.ofInt 64 (n:Int)).toNat=n:=by simp;omega
  have h2:(BitVec.ofInt 64 (15:Int)).toNat=15:=by decide
  rw[h1,h2]
  exact Nat.and_two_pow_sub_one_eq_mod n 4
 show IntKind.u64.wrap ((BitVec.ofInt 64 (n:Int)&&&BitVec.ofInt 64 15).toNat:Int)=_
 rw[e,aNp]<;>omega
theorem cB8 (n:Nat):aKk .u64 (n:Int) 4=((n / 16:Nat):Int):=by
 unfold aKk
 simp[IntKind.bits]
 rw[Int.fdiv_eq_ediv_of_nonneg _ (by decide)]
theorem bHm (k:Nat) (hk:k<16):((([48,49,50,51,52,53,54,55,56,57,97,98,99,100,101,102,103,104,105,106,107,108,109,110,111,112,113,114,115,116,117,118,119,120,121,122]:List UInt8).getD k 0).toNat:Int)=((aJn k).toNat:Int):=by
 revert hk;revert k;decide
theorem bDm (n:Nat):aJn (n % 16)=aJn n:=by unfold aJn;rw[Nat.mod_mod]
theorem bFo (l:List UInt8) (j:Nat) (hj:j<l.length) (v:UInt8):(aAa l).set j (C.int .u8 ((v.toNat:Nat):Int)::List.drop (0+1) ((aAa l).getD j []))=aAa (l.set j v):=by
 rw[bBr l j hj]
 simp[aAa,List.map_set]
theorem bMd (l:List UInt8) (j:Nat) (hj:j<l.length) (v:UInt8):(l.set j v).drop j=v::l.drop (j+1):=by
 rw[List.drop_eq_getElem_cons (by simpa using hj)]
 simp[List.drop_set]
theorem bZh:aA6 Tryz.prog bXj:=aA5 (by simp[])
theorem bO3:aAm Tryz.prog 203 (sg [aSk] [rI]) aLs:=aA3 bZh aA7 Tryz.func203 (by kernel_rfl) fun cs outs hk h=>by
 unfold aLs at h
 split at h
 ·simp only[Option.some.injEq,Prod.mk.injEq,decide_eq_true_eq]at h
  obtain⟨rfl,rfl⟩:=h
  rw[aA9,bQm]
  rfl
 ·cases h
theorem cBo:aA6 Tryz.prog cBn:=aA5 (by simp[bO3])
theorem bUi:aAm Tryz.prog 195 (sg [aSk] [rI]) aLs:=aA3 cBo aA7 Tryz.func195 (by kernel_rfl) fun cs outs hk h=>by
 unfold aLs at h
 split at h
 ·simp only[Option.some.injEq,Prod.mk.injEq,decide_eq_true_eq]at h
  obtain⟨rfl,rfl⟩:=h
  rw[aA9,bXv]
  rfl
 ·cases h
theorem bYl:aA6 Tryz.prog bU3:=aA5 (by simp[])
theorem bKo:aAm Tryz.prog 194 (sg [pI] [rB]) aV3:=aA3 bYl aA7 Tryz.func194 (by kernel_rfl) fun cs outs hk h=>by
 unfold aV3 at h
 split at h
 ·simp only[Option.some.injEq,Prod.mk.injEq,decide_eq_true_eq]at h
  obtain⟨rfl,rfl⟩:=h
  rw[aA9,bPd]
  rfl
 ·cases h
theorem aRw (n f i u:Nat) (l:List UInt8) (h1:u<16) (h2:1≤i) (h3:i≤65) (h4:l.length=65) (h6:0<n) (h7:0<f) :
  (aBl aJ1 aAb (sg [pSl 5,aSk,pI,pB,pB] [rSl 5,rS]) Tryz.f169 [.r,.r,.r,.r,.r,.l,.r,.l,.r,.r,.r,.l,.b] n (aJ0 u i 4 16 15 (aAa l))).eval=some [.sl [],.str (bDa f u (l.drop i))]:=by
  obtain⟨n,rfl⟩:∃ g,n=g+1:=⟨n-1,by omega⟩
  obtain⟨f,rfl⟩:∃ g,f=g+1:=⟨f-1,by omega⟩
  rw[aAo _ _ _ _ _ _ _ (by kernel_rfl),aNk]
  obtain⟨j,rfl⟩:∃ j,i=j+1:=⟨i-1,by omega⟩
  have w:IntKind.i64.wrap (((j+1:Nat):Int)-1)=(j:Int):=by rw[aAh]<;>omega
  have c1:¬(16:Int)≤(u:Int):=by omega
  have hj:j<l.length:=by omega
  have fs:=bHm u h1
  have rs:=bFo l j hj (aJn u)
  rw[←fs]at rs
  have ln:(l.set j (aJn u)).length=65:=by simpa using h4
  have hx:¬16≤u:=by omega
  simp only[bDa,if_neg hx]
  have tk:List.take (65-j) (aAa (List.drop j (l.set j (aJn u))))=aAa (aJn u::l.drop (j+1)):=by
   rw[bMd l j hj,List.take_of_length_le]
   simp[aB9];omega
  have b1:(u:Int)<(↑(36:Nat):Int):=by omega
  have b2:(j:Int)<(↑(65:Nat):Int):=by omega
  have b3:(j:Int)≤(↑(65:Nat):Int):=by omega
  have z1:(0:Int)≤(u:Int):=by omega
  have z2:(0:Int)≤(j:Int):=by omega
  simp only[aA0,aA2,aA1,w,Int.toNat_natCast,rs,decide_eq_true_eq,c1,if_false,b1,b2,b3,z1,z2,decide_true,Bool.and_self,if_true,aB9,ln,hj,bRf,tk,aE8,aGr]
theorem bHj:∀ (k n f i u:Nat) (l:List UInt8),u<16^(k+1)→k+1≤i→i≤65→l.length=65→k<15→k<n→k<f →
  (aBl aJ1 aAb (sg [pSl 5,aSk,pI,pB,pB] [rSl 5,rS]) Tryz.f169 [.r,.r,.r,.r,.r,.l,.r,.l,.r,.r,.r,.l,.b] n (aJ0 u i 4 16 15 (aAa l))).eval=some [.sl [],.str (bDa f u (l.drop i))]:=by
 intro k
 induction k with
 |zero =>
  intro n f i u l h1 h2 h3 h4 h5 h6 h7
  exact aRw n f i u l (by simpa using h1) h2 h3 h4 h6 h7
 |succ k ih =>
  intro n f i u l h1 h2 h3 h4 h5 h6 h7
  by_cases hu:u<16
  ·exact aRw n f i u l hu (by omega) h3 h4 (by omega) (by omega)
  ·obtain⟨n,rfl⟩:∃ g,n=g+1:=⟨n-1,by omega⟩
   obtain⟨f,rfl⟩:∃ g,f=g+1:=⟨f-1,by omega⟩
   have h8:u<18446744073709551616:=by
    have:16^(k+1+1)≤16^16:=Nat.pow_le_pow_right (by omega) (by omega)
    have e:(16:Nat)^16=18446744073709551616:=by decide
    omega
   obtain⟨j,rfl⟩:∃ j,i=j+1:=⟨i-1,by omega⟩
   have hj:j<l.length:=by omega
   have e:=ih n f j (u / 16) (l.set j (aJn (u % 16))) (by rw[Nat.div_lt_iff_lt_mul (by omega)];rw[Nat.pow_succ]at h1;exact h1) (by omega) (by omega) (by simpa using h4) (by omega) (by omega) (by omega)
   rw[aAo _ _ _ _ _ _ _ (by kernel_rfl),aNk]
   have w:IntKind.i64.wrap (((j+1:Nat):Int)-1)=(j:Int):=by rw[aAh]<;>omega
   have c1:(16:Int)≤(u:Int):=by omega
   have fs:=bHm (u % 16) (by omega)
   have rs:=bFo l j hj (aJn (u % 16))
   rw[←fs,bDm]at rs
   have hx:16≤u:=by omega
   simp only[bDa,if_pos hx]
   rw[bMd l j hj,bDm]at e
   have b1:((u % 16:Nat):Int)<(↑(36:Nat):Int):=by omega
   have b2:(j:Int)<(↑(65:Nat):Int):=by omega
   have z1:(0:Int)≤((u % 16:Nat):Int):=by omega
   have z2:(0:Int)≤(j:Int):=by omega
   have z4:(0:Int)≤4:=by omega
   simp only[aA0,aA2,w,cA7 u h8,cB8,Int.toNat_natCast,rs,decide_eq_true_eq,c1,if_true,b1,b2,z1,z2,z4,decide_true,Bool.and_self,aB9,hj]
   exact e
theorem bT4:aA6 Tryz.prog aJ1:=aA5 (by simp[bUi,bKo])
theorem bDj:aAm Tryz.prog 169 (sg [pSl 5,aSk,pI,pB,pB] [rSl 5,rS]) aR9:=aA3 bT4 aA7 Tryz.func169 (by kernel_rfl) fun cs outs hk h=>by
 unfold aR9 at h
 split at h
 ·simp only[Option.some.injEq,Prod.mk.injEq,Bool.and_eq_true,decide_eq_true_eq]at h
  obtain⟨⟨rfl,h1,h2⟩,rfl⟩:=h
  rename_i u
  obtain⟨n,rfl⟩:=Int.eq_ofNat_of_zero_le h1
  rw[aA9,bHi]
  have lp:=bHj 7 9223372036854775808 16 65 n (List.replicate 65 0) (by omega) (by omega) (by omega) (by simp) (by omega) (by omega) (by omega)
  have e1:List.drop 65 (List.replicate 65 (0:UInt8))=[]:=rfl
  rw[e1]at lp
  have d1:decide (Int.ofNat 16<(2:Int))=false:=by decide
  have d2:decide ((36:Int)<Int.ofNat 16)=false:=by decide
  simp only[aA0,aA2,d1,d2,if_true,Bool.false_eq_true,if_false]
  exact Eq.trans (congrArg (fun s=>(aBl aJ1 aAb (sg [pSl 5,aSk,pI,pB,pB] [rSl 5,rS]) Tryz.f169 [.r,.r,.r,.r,.r,.l,.r,.l,.r,.r,.r,.l,.b] 9223372036854775808 s).eval) (rfl:_=aJ0 n ((65:Nat):Int) 4 16 15 (aAa (List.replicate 65 0)))) lp
 ·cases h
theorem bAh {n:Int} (h1:0≤n) (h2:n≤1000000000):IntKind.u64.wrap n=n:=by rw[aNp]<;>omega
theorem bW9:aA6 Tryz.prog bNs:=aA5 (by simp[bDj])
theorem bHg:aAm Tryz.prog 126 (sg [pI,pI] [rS]) aIr:=aA3 bW9 aA7 Tryz.func126 (by kernel_rfl) fun cs outs hk h=>by
 unfold aIr at h
 split at h
 ·simp only[Option.some.injEq,Prod.mk.injEq,Bool.and_eq_true,decide_eq_true_eq]at h
  obtain⟨⟨rfl,h1,h2⟩,rfl⟩:=h
  rename_i n
  rw[aA9,bLk,bAh h1 h2]
  have c:¬n<0:=by omega
  have d:decide (Int.ofNat 16=(16:Int))=true:=by decide
  simp only[aA0,aA2,aA1,decide_eq_true_eq,c,if_false,d,h1,h2,decide_true,Bool.and_self,if_true]
 ·cases h
theorem bT3:aA6 Tryz.prog bIk:=aA5 (by simp[bHg])
theorem bDi:aAm Tryz.prog 98 (sg [pI,pI] [rS]) aIr:=aA3 bT3 aA7 Tryz.func98 (by kernel_rfl) fun cs outs hk h=>by
 unfold aIr at h
 split at h
 ·simp only[Option.some.injEq,Prod.mk.injEq,Bool.and_eq_true,decide_eq_true_eq]at h
  obtain⟨⟨rfl,h1,h2⟩,rfl⟩:=h
  rename_i n
  rw[aA9,bHh]
  have d:decide (Int.ofNat 16=(16:Int))=true:=by decide
  simp only[aA0,aA2,aA1,d,h1,h2,decide_true,Bool.and_self,if_true]
 ·cases h
theorem bYi:aA6 Tryz.prog bU2:=aA5 (by simp[])
theorem bK2:aAm Tryz.prog 171 (sg [aSk,aSk] [bQ9,bQ9]) aM2:=aA3 bYi aA7 Tryz.func171 (by kernel_rfl) fun cs outs hk h=>by
 unfold aM2 at h
 split at h
 ·simp only[Option.some.injEq,Prod.mk.injEq,Bool.and_eq_true,decide_eq_true_eq]at h
  obtain⟨⟨rfl,h1,h2⟩,rfl⟩:=h
  rename_i n
  rw[aA9,bP6]
  obtain⟨k,rfl⟩:=Int.eq_ofNat_of_zero_le h1
  have hk:k≤8:=by omega
  have:k=0∨k=1∨k=2∨k=3∨k=4∨k=5∨k=6∨k=7∨k=8:=by omega
  rcases this with rfl | rfl | rfl | rfl | rfl | rfl | rfl | rfl | rfl<;>rfl
 ·cases h
theorem cA0:aA6 Tryz.prog bXm:=aA5 (by simp[bK2])
theorem bP5:aAm Tryz.prog 127 (sg [aSk,aSk] [bQ9,bQ9]) aM2:=aA3 cA0 aA7 Tryz.func127 (by kernel_rfl) fun cs outs hk h=>by
 unfold aM2 at h
 split at h
 ·simp only[Option.some.injEq,Prod.mk.injEq,Bool.and_eq_true,decide_eq_true_eq]at h
  obtain⟨⟨rfl,h1,h2⟩,rfl⟩:=h
  rename_i n
  rw[aA9,bS8]
  have d:decide (Int.ofNat 1=(1:Int))=true:=by decide
  simp only[aA0,aA2,aA1,d,h1,h2,decide_true,Bool.and_self,if_true]
 ·cases h
theorem bZq:aA6 Tryz.prog bXk:=aA5 (by simp[aK8,bP5])
theorem bOt:aAm Tryz.prog 99 (sg [pS,pI] [rS]) bBt:=aA3 bZq aA7 Tryz.func99 (by kernel_rfl) fun cs outs hk h=>by
 unfold bBt at h
 split at h
 ·simp only[Option.some.injEq,Prod.mk.injEq,Bool.and_eq_true,decide_eq_true_eq]at h
  obtain⟨⟨rfl,h1,h2⟩,rfl⟩:=h
  rename_i n
  rw[aA9,bRm]
  obtain⟨k,rfl⟩:=Int.eq_ofNat_of_zero_le h1
  have:k=0∨k=1∨k=2∨k=3∨k=4∨k=5∨k=6∨k=7∨k=8:=by omega
  rcases this with rfl | rfl | rfl | rfl | rfl | rfl | rfl | rfl | rfl<;>rfl
 ·cases h
theorem aJq:∀ (k n:Nat),(aJr k n).length=k
 |0,_=>rfl
 |k+1,n=>by simp[aJr,aJq k]
theorem aZq:∀ (f k n:Nat) (acc:List UInt8),n<16^(k+1)→k<f→∃ m,1≤m∧m≤k+1∧n<16^m∧bDa f n acc=aJr m n++acc
 |0,k,n,acc,_,h=>by omega
 |f+1,k,n,acc,h1,h2=>by
  by_cases hn:16≤n
  ·obtain⟨k,rfl⟩:∃ j,k=j+1:=⟨k-1,by
    cases k with
    |zero=>simp at h1;omega
    |succ k=>omega⟩
   obtain⟨m,a1,a2,a3,a4⟩:=aZq f k (n / 16) (aJn n::acc) (by rw[Nat.div_lt_iff_lt_mul (by omega)];rw[Nat.pow_succ]at h1;exact h1) (by omega)
   refine⟨m+1,by omega,by omega,?_,?_⟩
   ·rw[Nat.pow_succ];rw[Nat.div_lt_iff_lt_mul (by omega)]at a3;exact a3
   ·simp only[bDa,if_pos hn,a4,aJr,List.append_assoc,List.cons_append,List.nil_append]
  ·exact⟨1,by omega,by omega,by omega,by simp[bDa,if_neg hn,aJr]⟩
theorem bHw:∀ k,aJr k 0=List.replicate k 48
 |0=>rfl
 |k+1=>by
  rw[aJr,Nat.zero_div,bHw k,List.replicate_succ']
  rfl
theorem bN1:∀ (m k n:Nat),n<16^m→aJr (k+m) n=List.replicate k 48++aJr m n
 |0,k,n,h=>by
  have:n=0:=by simpa using h
  subst this
  simp[aJr,bHw]
 |m+1,k,n,h=>by
  have:=bN1 m k (n / 16) (by rw[Nat.div_lt_iff_lt_mul (by omega)];rw[Nat.pow_succ]at h;exact h)
  rw[←Nat.add_assoc,aJr,this,aJr,List.append_assoc]
theorem bYq (n:Nat) (h:n≤1000000000):(aGc n).length≤8∧List.replicate (8-(aGc n).length) 48++aGc n=aJr 8 n:=by
 obtain⟨m,a1,a2,a3,a4⟩:=aZq 16 7 n [] (by omega) (by omega)
 rw[List.append_nil]at a4
 unfold aGc
 rw[a4,aJq]
 refine⟨by omega,?_⟩
 rw[←bN1 m (8-m) n a3,Nat.sub_add_cancel (by omega)]
theorem bYn (n:Nat) (hn:n<9223372036854775808):aIf .i64 (n:Int) 15=((n % 16:Nat):Int):=by
 have e:(BitVec.ofInt 64 (n:Int)&&&BitVec.ofInt 64 15).toNat=n % 16:=by
  rw[BitVec.toNat_and]
  have h1:(BitVec.ofInt 64 (n:Int)).toNat=n:=by simp;omega
  have h2:(BitVec.ofInt 64 (15:Int)).toNat=15:=by decide
  rw[h1,h2]
  exact Nat.and_two_pow_sub_one_eq_mod n 4
 show IntKind.i64.wrap ((BitVec.ofInt 64 (n:Int)&&&BitVec.ofInt 64 15).toNat:Int)=_
 rw[e,aAh]<;>omega
theorem bYs (k:Nat) (hk:k<16):(([48,49,50,51,52,53,54,55,56,57,97,98,99,100,101,102]:List UInt8).getD k 0)=aJn k:=by
 revert hk;revert k;decide
theorem aQc (b:Nat) (hb:b≤1000000000):∀ (j n:Nat),j≤8→j<n →
  (aBl aG4 aAb (sg [pI] [rS]) Tryz.f49 [.r,.r,.r,.l,.r,.b] n (aG3 b (8-j) (aAa (aJr (8-j) (b / 16^j))) ((j:Int)-1))).eval=some [.str ([115]++aJr 8 b++[46,115,101,103])]:=by
 intro j
 induction j with
 |zero =>
  intro n h1 h2
  obtain⟨n,rfl⟩:∃ g,n=g+1:=⟨n-1,by omega⟩
  rw[aAo _ _ _ _ _ _ _ (by kernel_rfl),aH9]
  have c:¬(0:Int)≤((0:Nat):Int)-1:=by omega
  have tk:List.take (8-0) (aAa (aJr (8-0) (b / 16^0)))=aAa (aJr 8 b):=by
   rw[List.take_of_length_le]
   ·simp
   ·simp[aB9,aJq]
  have l1:(1+(aJr 8 b).length≤9223372036854775807):=by rw[aJq];omega
  have l2:(([115]++aJr 8 b).length+4≤9223372036854775807):=by simp[aJq]
  simp only[aA0,aA2,aA1,decide_eq_true_eq,c,if_false,tk,aE8,aGr,if_true,l1,l2]
 |succ j ih =>
  intro n h1 h2
  obtain⟨n,rfl⟩:∃ g,n=g+1:=⟨n-1,by omega⟩
  have e:=ih n (by omega) (by omega)
  rw[aAo _ _ _ _ _ _ _ (by kernel_rfl),aH9]
  have w0:((j+1:Nat):Int)-1=(j:Int):=by omega
  have w1:IntKind.i64.wrap ((4:Int)*(j:Int))=((4*j:Nat):Int):=by rw[aAh]<;>omega
  have w2:IntKind.u64.wrap ((4*j:Nat):Int)=((4*j:Nat):Int):=by rw[aNp]<;>omega
  have s1:aKk IntKind.i64 (b:Int) ((4*j:Nat):Int)=((b / 16^j:Nat):Int):=by
   rw[aH4 _ _ (by omega),Nat.pow_mul]
  have hlt:b / 16^j≤b:=Nat.div_le_self _ _
  have s2:=bYn (b / 16^j) (by omega)
  have c:(0:Int)≤(j:Int):=by omega
  have z1:(0:Int)≤((4*j:Nat):Int):=by omega
  have z2:(0:Int)≤((b / 16^j % 16:Nat):Int):=by omega
  have z3:((b / 16^j % 16:Nat):Int)<(↑(16:Nat):Int):=by omega
  have fg:=bYs (b / 16^j % 16) (by omega)
  have ra:=aFq (aJr (8-(j+1)) (b / 16^(j+1))) (aJn (b / 16^j % 16)).toNat (UInt8.toNat_lt _)
  have dk:aJr (8-(j+1)) (b / 16^(j+1))++[UInt8.ofNat (aJn (b / 16^j % 16)).toNat]=aJr (8-j) (b / 16^j):=by
   rw[UInt8.ofNat_toNat,bDm]
   have e1:8-j=(8-(j+1))+1:=by omega
   rw[e1,aJr,Nat.div_div_eq_div_mul,←Nat.pow_succ]
  have ro:aBg (8-j) 1=true:=by simp only[aBg,decide_eq_true_eq];omega
  have w3:IntKind.i64.wrap ((j:Int)-1)=(j:Int)-1:=by rw[aAh]<;>omega
  have e8:8-(j+1)+1=8-j:=by omega
  rw[w0]
  simp only[aA0,aA2,w1,w2,w3,s1,s2,z1,z2,z3,c,Int.toNat_natCast,fg,ra,dk,ro,aB9,aJq,decide_true,Bool.and_self,if_true,e8]
  exact e
theorem aXt:aA6 Tryz.prog aG4:=aA5 (by simp[aDd])
theorem aF5:aAm Tryz.prog 49 (sg [pI] [rS]) aI8:=aA3 aXt aA7 Tryz.func49 (by kernel_rfl) fun cs outs hk h=>by
 unfold aI8 at h
 split at h
 ·simp only[Option.some.injEq,Prod.mk.injEq,true_and]at h
  subst h
  rename_i n
  rw[aA9,aQb]
  by_cases hn:inB n 0 1000000000=true
  ·obtain⟨h1,h2⟩:=(aBb _ _ _).1 hn
   obtain⟨b,rfl⟩:=Int.eq_ofNat_of_zero_le h1
   simp only[aA2,hn,if_true,aB8,Int.toNat_natCast]
   have hb:b / 16^8=0:=Nat.div_eq_of_lt (by omega)
   have lp:=aQc b (by omega) 8 9223372036854775808 (by omega) (by omega)
   rw[hb]at lp
   exact lp
  ·simp only[aA2,aA1,hn,aB8,Bool.false_eq_true,if_false]
 ·cases h
theorem aYj:aA6 Tryz.prog aNn:=aA5 (by simp[aC7,bDi,bOt])
theorem aFc:aAm Tryz.prog 59 (sg [pI] [rS]) aI8:=aA3 aYj aA7 Tryz.func59 (by kernel_rfl) fun cs outs hk h=>by
 unfold aI8 at h
 split at h
 ·simp only[Option.some.injEq,Prod.mk.injEq,true_and]at h
  subst h
  rename_i n
  rw[aA9,aQx]
  by_cases hn:inB n 0 1000000000=true
  ·obtain⟨h1,h2⟩:=(aBb _ _ _).1 hn
   obtain⟨b,rfl⟩:=Int.eq_ofNat_of_zero_le h1
   obtain⟨p1,p2⟩:=bYq b (by omega)
   have w:IntKind.i64.wrap ((8:Int)-((aGc b).length:Int))=((8-(aGc b).length:Nat):Int):=by rw[aAh]<;>omega
   have z1:(0:Int)≤((8-(aGc b).length:Nat):Int):=by omega
   have z2:((8-(aGc b).length:Nat):Int)≤8:=by omega
   have z3:(0:Int)≤(b:Int):=by omega
   have l1:(1+(8-(aGc b).length)≤9223372036854775807):=by omega
   have l2:(0+1+(8-(aGc b).length)+(aGc b).length≤9223372036854775807):=by omega
   have l3:(0+1+(8-(aGc b).length)+(aGc b).length+4≤9223372036854775807):=by omega
   simp only[aA2,aA0,aA1,hn,if_true,aB8,Int.toNat_natCast,w,z1,z2,z3,h2,decide_true,Bool.and_self,List.length_replicate,List.length_append,List.length_cons,List.length_nil,l1,l2,l3]
   rw[←p2]
   simp
  ·simp only[aA2,aA1,hn,aB8,Bool.false_eq_true,if_false]
 ·cases h
noncomputable section
def aC5 (n:Int):List UInt8:=if inB n 0 1000000000 then aB8 n++[46,116,109,112]else[]
def aLt:aC0:=fun cs=>match cs with
 |[.int .i64 n]=>some (true,[.str (aC5 n)])
 |_=>none
def aWv:Env:=mkE [] [(49,(sg [pI] [rS]),aI8)]
def aX2:Env:=mkE [] [(97,(sg [pI] [rB]),aCg),(59,(sg [pI] [rS]),aI8)]
end
theorem aXr (H:List Pt→Nat→St→T (List C)) (n:Int):(aAe aWv aAb (sg [pI] [rS]) Tryz.f88 H [C.int .i64 n]).eval=((.ask (aB8 n==[]) (.ret [C.str []]) (.must (decide ((aB8 n).length+4≤9223372036854775807)) (.ret [C.str (aB8 n++[(46:UInt8),116,109,112])]))):T (List C)).eval:=aAd (by kernel_rfl)
theorem aYi (H:List Pt→Nat→St→T (List C)) (n:Int):(aAe aX2 aAb (sg [pI] [rS]) Tryz.f106 H [C.int .i64 n]).eval=((.ask (inB n 0 1000000000) (.must (decide ((aB8 n).length+4≤9223372036854775807)) (.ret [C.str (aB8 n++[(46:UInt8),116,109,112])])) (.ret [C.str []])):T (List C)).eval:=aAd (by kernel_rfl)
theorem bR4 (n:Int):(aB8 n).length≤100:=by
 unfold aB8
 split
 ·simp[aJq]
 ·simp
theorem bJ6:aA6 Tryz.prog aWv:=aA5 (by simp[aF5])
theorem aUh:aAm Tryz.prog 88 (sg [pI] [rS]) aLt:=aA3 bJ6 aA7 Tryz.func88 (by kernel_rfl) fun cs outs hk h=>by
 unfold aLt at h
 split at h
 ·simp only[Option.some.injEq,Prod.mk.injEq,true_and]at h
  subst h
  rename_i n
  rw[aA9,aXr]
  have hl:=bR4 n
  have h4:(aB8 n).length+4≤9223372036854775807:=by omega
  by_cases hb:inB n 0 1000000000=true
  ·have hne:(aB8 n==[])=false:=by unfold aB8;rw[if_pos hb];rfl
   simp only[aA2,aA0,aA1,hne,h4,hb,Bool.false_eq_true,if_false,if_true,decide_true,aC5]
  ·have hs:aB8 n=[]:=by unfold aB8;rw[if_neg hb]
   simp only[aA2,aA0,aA1,hs,hb,beq_self_eq_true,if_true,if_false,aC5,Bool.false_eq_true]
 ·cases h
theorem bKt:aA6 Tryz.prog aX2:=aA5 (by simp[aC7,aFc])
theorem aVn:aAm Tryz.prog 106 (sg [pI] [rS]) aLt:=aA3 bKt aA7 Tryz.func106 (by kernel_rfl) fun cs outs hk h=>by
 unfold aLt at h
 split at h
 ·simp only[Option.some.injEq,Prod.mk.injEq,true_and]at h
  subst h
  rename_i n
  rw[aA9,aYi]
  have hl:=bR4 n
  have h4:(aB8 n).length+4≤9223372036854775807:=by omega
  by_cases hb:inB n 0 1000000000=true
  ·simp only[aA2,aA0,aA1,h4,hb,if_true,decide_true,aC5]
  ·simp only[aA2,aA0,aA1,hb,if_false,aC5,Bool.false_eq_true]
 ·cases h
noncomputable section
structure Nd where
 id:Int
 text:List UInt8
 sure:Int
 deriving DecidableEq
structure En where
 name:List UInt8
 id:Int
 deriving DecidableEq
abbrev eNd (x:Nd):List C:=[.int .i64 x.id,.str x.text,.int .i64 x.sure]
abbrev eEn (x:En):List C:=[.str x.name,.int .i64 x.id]
abbrev kNd:List K:=[.int .i64,.str,.int .i64]
abbrev kEn:List K:=[.str,.int .i64]
def bY3 (r:List C):Nd:=⟨(r.getD 0 (.fn 0 [])).toInt,(r.getD 1 (.fn 0 [])).toStr,(r.getD 2 (.fn 0 [])).toInt⟩
def bY4 (r:List C):En:=⟨(r.getD 0 (.fn 0 [])).toStr,(r.getD 1 (.fn 0 [])).toInt⟩
def nds (rows:List (List C)):List Nd:=rows.map bY3
def ens (rows:List (List C)):List En:=rows.map bY4
def aCo (rows:List (List C)):Bool:=rows.all fun r=>r.all fun c=>match c with | .str s=>decide (s.length≤281474976710656) | _=>true
def aSa (n:Nat) (left:Int):Int:=if left-n<0 then -1 else left-n
def aF3:List Nat→Int→Int
 |[],left=>left
 |n::r,left=>if left-n<0 then -1 else aF3 r (left-n)
def aBj (ns:List Nat) (left:Int):Int:=if left-ns.length<0 then -1 else aF3 ns (left-ns.length)
def aU5:aC0:=fun cs=>match cs with
 |[.sl rows,.int .i64 left]=>some (decide (0≤left)&&decide (left≤1048576)&&(decide (rows.length≤281474976710656)&&(aAi [.str] rows&&aCo rows)),[.int .i64 (aBj ((aGh rows).map List.length) left)])
 |_=>none
def aJx (r:List (List C)) (left:Int) (i:Int):St:=st0 [(0,.l (.sl r)),(1,aB0 left),(5,aB0 i)]
def aK1:Env:=mkE [(5,[0,1,5])] []
def aU0:aC0:=fun cs=>match cs with
 |[.sl rows]=>some (decide (rows.length≤1048576)&&aAi [.str] rows,[.sl rows])
 |_=>none
def aJw (r:List (List C)) (n:Nat) (out:List (List C)) (i:Int):St:=st1 [(0,.l (.sl r)),(3,.l (.ref 0 0 n)),(4,aB0 i)] 1 out
def aK0:Env:=mkE [(3,[0,3,4])] []
def aWd:aC0:=fun cs=>match cs with
 |[.sl x,.sl y]=>some (decide (x.length≤1073741824)&&(aAi [.str] x&&aAi [.str] y),[.bool (decide (aGh x=aGh y))])
 |_=>none
def aJz (x y:List (List C)) (i:Int):St:=st0 [(0,.l (.sl x)),(1,.l (.sl y)),(5,aB0 i)]
def aK5:Env:=mkE [(4,[0,1,5])] []
end
theorem aXl (H:List Pt→Nat→St→T (List C)) (r:List (List C)) (n:Int):(aAe aK1 aAb (sg [pSl 9,pI] [rI]) Tryz.f27 H [C.sl r,C.int .i64 n]).eval=((.ask (decide (IntKind.i64.wrap (n-(↑r.length:Int))<(0:Int))) (.ret [C.int .i64 (-1)]) (H [Pt.r,Pt.r,Pt.r,Pt.l,Pt.r,Pt.b] 9223372036854775808 (aJx (r) (IntKind.i64.wrap (n-(↑r.length:Int))) ((0:Int))))):T (List C)).eval:=aAd (by kernel_rfl)
theorem aS9 (H:List Pt→Nat→St→T (List C)) (r:List (List C)) (n:Int) (i:Int) (k:Nat):(aB3 aK1 aAb (sg [pSl 9,pI] [rI]) Tryz.f27 H [Pt.r,Pt.r,Pt.r,Pt.l,Pt.r,Pt.b] k (aJx r n i)).eval=((.ask (decide (i<(↑r.length:Int))) (.must (decide ((0:Int)≤i)&&decide (i<(↑r.length:Int))&&decide ((r.getD i.toNat []).length=1)) (.must (decide (0<(r.getD i.toNat []).length)&&C.is K.str ((r.getD i.toNat []).getD 0 (C.fn 0 []))&&true) (.ask (decide (IntKind.i64.wrap (n-(↑((r.getD i.toNat []).getD 0 (C.fn 0 [])).toStr.length:Int))<(0:Int))) (.ret [C.int .i64 (-1)]) (H [Pt.r,Pt.r,Pt.r,Pt.l,Pt.r,Pt.b] k (aJx (r) (IntKind.i64.wrap (n-(↑((r.getD i.toNat []).getD 0 (C.fn 0 [])).toStr.length:Int))) (IntKind.i64.wrap (i+(1:Int)))))))) (.ret [C.int .i64 n])):T (List C)).eval:=aAd (by kernel_rfl)
theorem aXf (H:List Pt→Nat→St→T (List C)) (r:List (List C)):(aAe aK0 aAb (sg [pSl 9] [rSl 9]) Tryz.f30 H [C.sl r]).eval=((.must (decide ((0:Int)≤(↑r.length:Int))&&decide ((↑r.length:Int)≤(↑r.length:Int))&&decide ((↑(16:Nat):Int)*(↑r.length:Int)≤(281474976710656:Int))) (H [Pt.r,Pt.r,Pt.l,Pt.r,Pt.b] 9223372036854775808 (aJw (r) ((↑r.length:Int).toNat) (List.replicate (↑r.length:Int).toNat [C.str []]) ((0:Int))))):T (List C)).eval:=aAd (by kernel_rfl)
theorem aS8 (H:List Pt→Nat→St→T (List C)) (r:List (List C)) (n:Nat) (o:List (List C)) (i:Int) (k:Nat):(aB3 aK0 aAb (sg [pSl 9] [rSl 9]) Tryz.f30 H [Pt.r,Pt.r,Pt.l,Pt.r,Pt.b] k (aJw r n o i)).eval=((.ask (decide (i<(↑r.length:Int))) (.must (decide ((0:Int)≤i)&&decide (i<(↑r.length:Int))&&decide ((r.getD i.toNat []).length=1)) (.must (decide (0<(r.getD i.toNat []).length)&&C.is K.str ((r.getD i.toNat []).getD 0 (C.fn 0 []))&&true) (.must (decide ((0:Int)≤i)&&decide (i<(↑n:Int))) (.must (decide (0+i.toNat<o.length)) (H [Pt.r,Pt.r,Pt.l,Pt.r,Pt.b] k (aJw (r) (n) (o.set (0+i.toNat) (C.str ((r.getD i.toNat []).getD 0 (C.fn 0 [])).toStr::List.drop (0+1) (o.getD (0+i.toNat) []))) (IntKind.i64.wrap (i+(1:Int))))))))) (.must (decide (n=o.length)&&(false||o.all fun r=>r.all C.flat)&&true&&true&&true) (.ret [C.sl o]))):T (List C)).eval:=aAd (by kernel_rfl)
theorem aYz (H:List Pt→Nat→St→T (List C)) (x:List (List C)) (y:List (List C)):(aAe aK5 aAb (sg [pSl 9,pSl 9] [rB]) Tryz.f33 H [C.sl x,C.sl y]).eval=((.ask ((↑x.length:Int) != (↑y.length:Int)) (.ret [C.bool false]) (H [Pt.r,Pt.r,Pt.l,Pt.r,Pt.b] 9223372036854775808 (aJz (x) (y) ((0:Int))))):T (List C)).eval:=aAd (by kernel_rfl)
theorem aSu (H:List Pt→Nat→St→T (List C)) (x:List (List C)) (y:List (List C)) (i:Int) (k:Nat):(aB3 aK5 aAb (sg [pSl 9,pSl 9] [rB]) Tryz.f33 H [Pt.r,Pt.r,Pt.l,Pt.r,Pt.b] k (aJz x y i)).eval=((.ask (decide (i<(↑x.length:Int))) (.must (decide ((0:Int)≤i)&&decide (i<(↑x.length:Int))&&decide ((x.getD i.toNat []).length=1)) (.must (decide (0<(x.getD i.toNat []).length)&&C.is K.str ((x.getD i.toNat []).getD 0 (C.fn 0 []))&&true) (.must (decide ((0:Int)≤i)&&decide (i<(↑y.length:Int))&&decide ((y.getD i.toNat []).length=1)) (.must (decide (0<(y.getD i.toNat []).length)&&C.is K.str ((y.getD i.toNat []).getD 0 (C.fn 0 []))&&true) (.ask (!((x.getD i.toNat []).getD 0 (C.fn 0 [])).toStr==((y.getD i.toNat []).getD 0 (C.fn 0 [])).toStr) (.ret [C.bool false]) (H [Pt.r,Pt.r,Pt.l,Pt.r,Pt.b] k (aJz (x) (y) (IntKind.i64.wrap (i+(1:Int)))))))))) (.ret [C.bool true])):T (List C)).eval:=aAd (by kernel_rfl)
theorem bSl {k:IntKind} {c:C} (h:c.is (.int k)=true):c=.int k c.toInt:=by
 cases c<;>simp[C.is]at h
 subst h;rfl
theorem bXa {c:C} (h:c.is .str=true):c=.str c.toStr:=by
 cases c<;>simp[C.is]at h
 rfl
theorem bX3 {r:List C} (h:aB7 r kNd=true):r=eNd (bY3 r):=by
 match r,h with
 |[a,b,c],h =>
  simp only[aB7,Bool.and_eq_true,and_true]at h
  obtain⟨h1,h2,h3⟩:=h
  have e1:=bSl h1
  have e2:=bXa h2
  have e3:=bSl h3
  show[a,b,c]=[.int .i64 a.toInt,.str b.toStr,.int .i64 c.toInt]
  rw[←e1,←e2,←e3]
 |[],h=>simp[aB7]at h
 |[_],h=>simp[aB7]at h
 |[_,_],h=>simp[aB7]at h
 |_::_::_::_::_,h=>simp[aB7]at h
theorem bX4 {r:List C} (h:aB7 r kEn=true):r=eEn (bY4 r):=by
 match r,h with
 |[a,b],h =>
  simp only[aB7,Bool.and_eq_true,and_true]at h
  obtain⟨h1,h2⟩:=h
  have e1:=bXa h1
  have e2:=bSl h2
  show[a,b]=[.str a.toStr,.int .i64 b.toInt]
  rw[←e1,←e2]
 |[],h=>simp[aB7]at h
 |[_],h=>simp[aB7]at h
 |_::_::_::_,h=>simp[aB7]at h
theorem aGs {rows:List (List C)} (h:aAi kNd rows=true):rows=(nds rows).map eNd:=by
 simp only[aAi,List.all_eq_true]at h
 simp only[nds,List.map_map]
 rw[List.map_congr_left (g:=id)]
 ·simp
 ·intro r hr;exact (bX3 (h r hr)).symm
theorem aF7 {rows:List (List C)} (h:aAi kEn rows=true):rows=(ens rows).map eEn:=by
 simp only[aAi,List.all_eq_true]at h
 simp only[ens,List.map_map]
 rw[List.map_congr_left (g:=id)]
 ·simp
 ·intro r hr;exact (bX4 (h r hr)).symm
@[simp] theorem cB2 (l:List Nd):nds (l.map eNd)=l:=by simp[nds,bY3,Function.comp_def,C.toInt,C.toStr]
@[simp] theorem bTf (l:List En):ens (l.map eEn)=l:=by simp[ens,bY4,Function.comp_def,C.toInt,C.toStr]
@[simp] theorem bZ9 (l:List Nd):aAi kNd (l.map eNd)=true:=by simp[aAi,aB7,C.is]
@[simp] theorem bZa (l:List En):aAi kEn (l.map eEn)=true:=by simp[aAi,aB7,C.is]
theorem bMu (l:List Nd):((l.map eNd).all fun r=>r.all C.flat)=true:=by simp[C.flat]
theorem bMx (l:List En):((l.map eEn).all fun r=>r.all C.flat)=true:=by simp[C.flat]
theorem bO8 (l:List (List UInt8)):aCo (l.map aBf)=true↔∀ x∈l,x.length≤281474976710656:=by simp[aCo]
theorem bQs (l:List Nd):aCo (l.map eNd)=true↔∀ x∈l,x.text.length≤281474976710656:=by simp[aCo]
theorem bQt (l:List En):aCo (l.map eEn)=true↔∀ x∈l,x.name.length≤281474976710656:=by simp[aCo]
theorem aP9 {E:Env} {e:TypeId} {x:C} (h:Fit E (.slice e) x):∃ rows,x=.sl rows∧aCo rows=true:=by
 cases h with
 |@sl _ te rows h1 h2 h3 h4 =>
  refine⟨rows,rfl,?_⟩
  simp only[aCo,List.all_eq_true]
  intro r hr c hc
  split
  ·rename_i s
   obtain⟨j,hj⟩:=List.getElem?_of_mem hc
   have hjl:=(List.getElem?_eq_some_iff.1 hj).1
   have hlen:=h3 r hr
   obtain⟨s',hs,hl⟩:∃ s',C.str s=.str s'∧s'.length≤140737488351232:=by
    have hk:te.leaves[j]? =some (te.leaves[j]'(by omega)):=List.getElem?_eq_getElem (by omega)
    have hf:=h4 r hr j _ _ hk hj
    generalize te.leaves[j]'(by omega)=kd at hf
    cases hf with
    |str a=>exact⟨_,rfl,a⟩
   obtain rfl:=C.str.inj hs
   simp only[decide_eq_true_eq]
   omega
  ·rfl
theorem bOb (ns:List Nat) (left:Int) (h0:0≤left) (h:0≤aF3 ns left):aF3 ns left+(ns.sum:Int)=left:=by
 induction ns generalizing left with
 |nil=>simp[aF3]
 |cons n r ih =>
  simp only[aF3]at h ⊢
  split at h
  ·omega
  ·rename_i hn
   rw[if_neg hn]
   have:=ih (left-n) (by omega) h
   simp only[List.sum_cons,Int.natCast_add]
   omega
theorem aLu (ns:List Nat) (left:Int) (h:0≤aBj ns left):aBj ns left+(ns.length:Int)+(ns.sum:Int)=left:=by
 unfold aBj at h ⊢
 split at h
 ·omega
 ·rename_i hn
  rw[if_neg hn]
  have:=bOb ns _ (by omega) h
  omega
theorem aHs {A:Type} {x y:List A} {i:Nat} (d:A) (hx:i<x.length) (hy:i<y.length) (h:x.take i=y.take i) (hd:x.getD i d=y.getD i d):x.take (i+1)=y.take (i+1):=by
 rw[List.take_add_one,List.take_add_one,h]
 simp[List.getD_eq_getElem?_getD,hx,hy]at hd
 simp[hx,hy,hd]
theorem aXm (l:List (List UInt8)) (hl:l.length≤281474976710656) (ht:∀ x∈l,x.length≤281474976710656):∀ (n i:Nat) (left:Int),i≤l.length→l.length<i+n→0≤left→left≤1048576 →
  (aBl aK1 aAb (sg [pSl 9,pI] [rI]) Tryz.f27 [.r,.r,.r,.l,.r,.b] n (aJx (l.map aBf) left i)).eval=some [.int .i64 (aF3 ((l.drop i).map List.length) left)]:=by
 intro n
 induction n with
 |zero=>intro i left h1 h2;omega
 |succ n ih =>
  intro i left h1 h2 h3 h4
  rw[aAo _ _ _ _ _ _ _ (by kernel_rfl),aS9]
  by_cases hi:i<l.length
  ·have g:=aB1 aBf l [] i hi
   have hd:l.drop i=l.getD i []::l.drop (i+1):=by rw[List.drop_eq_getElem_cons hi];simp[List.getD_eq_getElem?_getD,hi]
   have hm:l.getD i []∈l:=by rw[List.getD_eq_getElem?_getD,List.getElem?_eq_getElem hi];exact List.getElem_mem hi
   have hx:=ht _ hm
   have w1:IntKind.i64.wrap (left-((l.getD i []).length:Int))=left-((l.getD i []).length:Int):=by rw[aAh]<;>omega
   have w:IntKind.i64.wrap ((i:Int)+1)=((i+1:Nat):Int):=by rw[aAh]<;>omega
   have hz:(0:Int)≤i:=by omega
   have hi':(i:Int)<l.length:=by omega
   rw[hd,List.map_cons]
   simp only[aA0,aA2,aA1,if_true,decide_eq_true_eq,Bool.and_eq_true,w,hz,hi',Int.toNat_natCast,List.length_map,g,and_self,List.getD_cons_zero,C.toStr,C.is,List.length_cons,List.length_nil,Nat.zero_add,Nat.zero_lt_succ,w1,aF3]
   by_cases hn:left-((l.getD i []).length:Int)<0
   ·simp only[hn,if_true]
   ·simp only[hn,if_false]
    exact ih (i+1) _ (by omega) (by omega) (by omega) (by omega)
  ·have e:i=l.length:=by omega
   subst e
   have hi':¬((l.length:Int)<(l.length:Int)):=by omega
   simp only[aA2,aA1,decide_eq_true_eq,List.length_map,hi',if_false,List.drop_length,List.map_nil,aF3]
theorem bJ0:aA6 Tryz.prog aK1:=aA5 (by simp[])
theorem aU4:aAm Tryz.prog 27 (sg [pSl 9,pI] [rI]) aU5:=aA3 bJ0 aA7 Tryz.func27 (by kernel_rfl) fun cs outs hk h=>by
 unfold aU5 at h
 split at h
 ·simp only[Option.some.injEq,Prod.mk.injEq,Bool.and_eq_true,decide_eq_true_eq]at h
  obtain⟨⟨⟨h1,h2⟩,h3,h4,h5⟩,rfl⟩:=h
  rename_i rows left
  have hr:=aDs h4
  generalize aGh rows=l at hr ⊢
  subst hr
  rw[List.length_map]at h3
  rw[aA9,aXl]
  have w:IntKind.i64.wrap (left-(l.length:Int))=left-l.length:=by rw[aAh]<;>omega
  simp only[aA2,aA1,decide_eq_true_eq,List.length_map,w,aBj]
  split
  ·rfl
  ·exact aXm l h3 ((bO8 l).1 h5) _ 0 _ (by omega) (by omega) (by omega) (by omega)
 ·cases h
theorem aXg (l:List (List UInt8)) (hl:l.length≤1048576):∀ (n i:Nat),i≤l.length→l.length<i+n →
  (aBl aK0 aAb (sg [pSl 9] [rSl 9]) Tryz.f30 [.r,.r,.l,.r,.b] n (aJw (l.map aBf) l.length ((l.take i++List.replicate (l.length-i) []).map aBf) i)).eval=some [.sl (l.map aBf)]:=by
 intro n
 induction n with
 |zero=>intro i h1 h2;omega
 |succ n ih =>
  intro i h1 h2
  rw[aAo _ _ _ _ _ _ _ (by kernel_rfl),aS8]
  by_cases hi:i<l.length
  ·have e:=ih (i+1) (by omega) (by omega)
   rw[←bE0 l [] [] i hi,List.map_set]at e
   have w:IntKind.i64.wrap ((i:Int)+1)=((i+1:Nat):Int):=by rw[aAh]<;>omega
   have hz:(0:Int)≤i:=by omega
   have hi':(i:Int)<l.length:=by omega
   have g:=aB1 aBf l [] i hi
   have hlen:(l.take i++List.replicate (l.length-i) ([]:List UInt8)).length=l.length:=by simp;omega
   have g2:=aB1 aBf (l.take i++List.replicate (l.length-i) []) [] i (by omega)
   simp only[aA0,aA2,aA1,if_true,decide_eq_true_eq,Bool.and_eq_true,w,hz,hi',Int.toNat_natCast,List.length_map,Nat.zero_add,g,g2,hlen,hi,and_self,List.getD_cons_zero,C.toStr,C.is,List.length_cons,List.length_nil,Nat.zero_lt_succ,List.drop_succ_cons,List.drop_nil]
   exact e
  ·have:i=l.length:=by omega
   subst this
   have f:=aGf l
   simp[aA0,aA2,aA1,C.flat]
theorem bIs:aA6 Tryz.prog aK0:=aA5 (by simp[])
theorem aTz:aAm Tryz.prog 30 (sg [pSl 9] [rSl 9]) aU0:=aA3 bIs aA7 Tryz.func30 (by kernel_rfl) fun cs outs hk h=>by
 unfold aU0 at h
 split at h
 ·simp only[Option.some.injEq,Prod.mk.injEq,Bool.and_eq_true,decide_eq_true_eq]at h
  obtain⟨⟨h1,h2⟩,rfl⟩:=h
  rename_i rows
  have hr:=aDs h2
  generalize aGh rows=l at hr
  subst hr
  rw[List.length_map]at h1
  rw[aA9,aXf]
  have c2:(0:Int)≤l.length:=by omega
  have:=aXg l h1 9223372036854775808 0 (by omega) (by omega)
  simp only[List.take_zero,List.nil_append,Nat.sub_zero,List.map_replicate]at this
  simp only[aA0,if_true,decide_eq_true_eq,Bool.and_eq_true,List.length_map,Int.toNat_natCast,c2,Int.le_refl,and_self,true_and]
  rw[if_pos (by omega)]
  exact this
 ·cases h
theorem aZ0 (x y:List (List UInt8)) (hx:x.length≤1073741824) (hl:x.length=y.length):∀ (n i:Nat),i≤x.length→x.length<i+n→x.take i=y.take i →
  (aBl aK5 aAb (sg [pSl 9,pSl 9] [rB]) Tryz.f33 [.r,.r,.l,.r,.b] n (aJz (x.map aBf) (y.map aBf) i)).eval=some [.bool (decide (x=y))]:=by
 intro n
 induction n with
 |zero=>intro i h1 h2;omega
 |succ n ih =>
  intro i h1 h2 h3
  rw[aAo _ _ _ _ _ _ _ (by kernel_rfl),aSu]
  by_cases hi:i<x.length
  ·have hi2:i<y.length:=by omega
   have w:IntKind.i64.wrap ((i:Int)+1)=((i+1:Nat):Int):=by rw[aAh]<;>omega
   have hz:(0:Int)≤i:=by omega
   have g:=aB1 aBf x [] i hi
   have g2:=aB1 aBf y [] i hi2
   simp only[aA0,aA2,aA1,if_true,decide_eq_true_eq,Bool.and_eq_true,w,hz,Int.toNat_natCast,Int.ofNat_lt,List.length_map,g,g2,hi,hi2,and_self,List.getD_cons_zero,C.toStr,C.is,List.length_cons,List.length_nil,Nat.zero_add,Nat.zero_lt_succ,Bool.not_eq_true',beq_eq_false_iff_ne,ne_eq]
   by_cases hxy:x.getD i []=y.getD i []
   ·have e:=ih (i+1) (by omega) (by omega) (aHs [] hi hi2 h3 hxy)
    simp only[hxy,not_true_eq_false,if_false]
    exact e
   ·have:x≠y:=fun h=>hxy (by rw[h])
    simp only[hxy,not_false_eq_true,if_true,this,decide_false]
  ·have e1:i=x.length:=by omega
   have:x=y:=by
    rw[e1,List.take_length,hl,List.take_length]at h3
    exact h3
   have e2:decide (x=y)=true:=by simp[this]
   simp only[aA0,aA2,aA1,decide_eq_true_eq,List.length_map,Int.ofNat_lt,hi,if_false,if_true,e2]
theorem bLo:aA6 Tryz.prog aK5:=aA5 (by simp[])
theorem aWc:aAm Tryz.prog 33 (sg [pSl 9,pSl 9] [rB]) aWd:=aA3 bLo aA7 Tryz.func33 (by kernel_rfl) fun cs outs hk h=>by
 unfold aWd at h
 split at h
 ·simp only[Option.some.injEq,Prod.mk.injEq,Bool.and_eq_true,decide_eq_true_eq]at h
  obtain⟨⟨h1,h2,h3⟩,rfl⟩:=h
  rename_i x y
  have hx:=aDs h2
  have hy:=aDs h3
  generalize aGh x=l at hx ⊢
  generalize aGh y=m at hy ⊢
  subst hx;subst hy
  rw[List.length_map]at h1
  rw[aA9,aYz]
  simp only[aA0,aA2,aA1,if_true,bne_iff_ne,ne_eq,List.length_map,Int.ofNat_inj]
  by_cases hl:l.length=m.length
  ·simp only[hl,not_true_eq_false,if_false]
   exact aZ0 l m h1 hl _ 0 (by omega) (by omega) rfl
  ·have:l≠m:=fun h=>hl (by rw[h])
   simp[hl,this]
 ·cases h
noncomputable section
def aN8:PTy:=.val true kNd
def bBv:RTy:=⟨true,[(.int .i64,false),(.str,false),(.int .i64,false)]⟩
def aQ6:aC0:=fun cs=>match cs with
 |[.int .i64 i1,.str t1,.int .i64 s1,.int .i64 left]=>some (decide (0≤left)&&decide (left≤1048576)&&decide (t1.length≤281474976710656),[.int .i64 (aSa t1.length left)])
 |_=>none
def aNv:aC0:=fun cs=>match cs with
 |[.sl rows,.int .i64 left]=>some (decide (0≤left)&&decide (left≤1048576)&&(decide (rows.length≤281474976710656)&&(aAi kNd rows&&aCo rows)),[.int .i64 (aBj ((nds rows).map fun x=>x.text.length) left)])
 |_=>none
def aPj (r:List (List C)) (left:Int) (i:Int):St:=st0 [(0,.l (.sl r)),(1,aB0 left),(5,aB0 i)]
def bNc:Env:=mkE [] []
def aPp:Env:=mkE [(5,[0,1,5])] [(69,(sg [aN8,pI] [rI]),aQ6)]
def aQ3:aC0:=fun cs=>match cs with
 |[.int .i64 i1,.str t1,.int .i64 s1]=>some (true,[.int .i64 i1,.str t1,.int .i64 s1])
 |_=>none
def aNt:aC0:=fun cs=>match cs with
 |[.sl rows]=>some (decide (rows.length≤1048576)&&aAi kNd rows,[.sl rows])
 |_=>none
def aPi (r:List (List C)) (n:Nat) (out:List (List C)) (i:Int):St:=st1 [(0,.l (.sl r)),(3,.l (.ref 0 0 n)),(4,aB0 i)] 3 out
def bNa:Env:=mkE [] []
def aPo:Env:=mkE [(3,[0,3,4])] [(71,(sg [aN8] [bBv]),aQ3)]
def cAa (i1:Int) (t1:List UInt8) (s1 i2:Int) (t2:List UInt8) (s2:Int):Bool:=decide ((⟨i1,t1,s1⟩:Nd)=⟨i2,t2,s2⟩)
def aR4:aC0:=fun cs=>match cs with
 |[.int .i64 i1,.str t1,.int .i64 s1,.int .i64 i2,.str t2,.int .i64 s2]=>some (true,[.bool (cAa i1 t1 s1 i2 t2 s2)])
 |_=>none
def aO7:aC0:=fun cs=>match cs with
 |[.sl x,.sl y]=>some (decide (x.length≤1048576)&&(aAi kNd x&&aAi kNd y),[.bool (decide (nds x=nds y))])
 |_=>none
def aPn (x y:List (List C)) (i:Int):St:=st0 [(0,.l (.sl x)),(1,.l (.sl y)),(5,aB0 i)]
def bNt:Env:=mkE [] []
def aPy:Env:=mkE [(4,[0,1,5])] [(73,(sg [aN8,aN8] [rB]),aR4)]
def aGp:PTy:=.val true kEn
def bRn:RTy:=⟨true,[(.str,false),(.int .i64,false)]⟩
def aNw:aC0:=fun cs=>match cs with
 |[.str t1,.int .i64 i1,.int .i64 left]=>some (decide (0≤left)&&decide (left≤1048576)&&decide (t1.length≤281474976710656),[.int .i64 (aSa t1.length left)])
 |_=>none
def aKq:aC0:=fun cs=>match cs with
 |[.sl rows,.int .i64 left]=>some (decide (0≤left)&&decide (left≤1048576)&&(decide (rows.length≤281474976710656)&&(aAi kEn rows&&aCo rows)),[.int .i64 (aBj ((ens rows).map fun x=>x.name.length) left)])
 |_=>none
def aMc (r:List (List C)) (left:Int) (i:Int):St:=st0 [(0,.l (.sl r)),(1,aB0 left),(5,aB0 i)]
def bI3:Env:=mkE [] []
def aMq:Env:=mkE [(5,[0,1,5])] [(70,(sg [aGp,pI] [rI]),aNw)]
def aNu:aC0:=fun cs=>match cs with
 |[.str t1,.int .i64 i1]=>some (true,[.str t1,.int .i64 i1])
 |_=>none
def aKp:aC0:=fun cs=>match cs with
 |[.sl rows]=>some (decide (rows.length≤1048576)&&aAi kEn rows,[.sl rows])
 |_=>none
def aMb (r:List (List C)) (n:Nat) (out:List (List C)) (i:Int):St:=st1 [(0,.l (.sl r)),(3,.l (.ref 0 0 n)),(4,aB0 i)] 2 out
def bI2:Env:=mkE [] []
def aMp:Env:=mkE [(3,[0,3,4])] [(72,(sg [aGp] [bRn]),aNu)]
def cAb (t1:List UInt8) (i1:Int) (t2:List UInt8) (i2:Int):Bool:=decide ((⟨t1,i1⟩:En)=⟨t2,i2⟩)
def aO8:aC0:=fun cs=>match cs with
 |[.str t1,.int .i64 i1,.str t2,.int .i64 i2]=>some (true,[.bool (cAb t1 i1 t2 i2)])
 |_=>none
def aLk:aC0:=fun cs=>match cs with
 |[.sl x,.sl y]=>some (decide (x.length≤1048576)&&(aAi kEn x&&aAi kEn y),[.bool (decide (ens x=ens y))])
 |_=>none
def aMo (x y:List (List C)) (i:Int):St:=st0 [(0,.l (.sl x)),(1,.l (.sl y)),(5,aB0 i)]
def bIl:Env:=mkE [] []
def aN5:Env:=mkE [(4,[0,1,5])] [(74,(sg [aGp,aGp] [rB]),aO8)]
end
theorem bJ1 (H:List Pt→Nat→St→T (List C)) (i1:Int) (t1:List UInt8) (s1:Int) (left:Int):(aAe bNc aAb (sg [aN8,pI] [rI]) Tryz.f69 H [C.int .i64 i1,C.str t1,C.int .i64 s1,C.int .i64 left]).eval=((.ask (decide (IntKind.i64.wrap (left-(↑t1.length:Int))<(0:Int))) (.ret [C.int .i64 (-1)]) (.ret [C.int .i64 (IntKind.i64.wrap (left-(↑t1.length:Int)))])):T (List C)).eval:=aAd (by kernel_rfl)
theorem bEu (H:List Pt→Nat→St→T (List C)) (r:List (List C)) (n:Int):(aAe aPp aAb (sg [pSl 92,pI] [rI]) Tryz.f25 H [C.sl r,C.int .i64 n]).eval=((.ask (decide (IntKind.i64.wrap (n-(↑r.length:Int))<(0:Int))) (.ret [C.int .i64 (-1)]) (H [Pt.r,Pt.r,Pt.r,Pt.l,Pt.r,Pt.b] 9223372036854775808 (aPj (r) (IntKind.i64.wrap (n-(↑r.length:Int))) ((0:Int))))):T (List C)).eval:=aAd (by kernel_rfl)
theorem aXn (H:List Pt→Nat→St→T (List C)) (r:List (List C)) (n:Int) (i:Int) (k:Nat):(aB3 aPp aAb (sg [pSl 92,pI] [rI]) Tryz.f25 H [Pt.r,Pt.r,Pt.r,Pt.l,Pt.r,Pt.b] k (aPj r n i)).eval=((.ask (decide (i<(↑r.length:Int))) (.must (decide ((0:Int)≤i)&&decide (i<(↑r.length:Int))&&decide ((r.getD i.toNat []).length=3)) (.must (decide (0<(r.getD i.toNat []).length)&&C.is (K.int .i64) ((r.getD i.toNat []).getD 0 (C.fn 0 []))&&(decide (0+1<(r.getD i.toNat []).length)&&C.is K.str ((r.getD i.toNat []).getD (0+1) (C.fn 0 []))&&(decide (0+1+1<(r.getD i.toNat []).length)&&C.is (K.int .i64) ((r.getD i.toNat []).getD (0+1+1) (C.fn 0 []))&&true))) (.must (decide ((0:Int)≤n)&&decide (n≤(1048576:Int))&&decide (((r.getD i.toNat []).getD (0+1) (C.fn 0 [])).toStr.length≤281474976710656)) (.ask (decide (aSa ((r.getD i.toNat []).getD (0+1) (C.fn 0 [])).toStr.length n<(0:Int))) (.ret [C.int .i64 (-1)]) (H [Pt.r,Pt.r,Pt.r,Pt.l,Pt.r,Pt.b] k (aPj (r) (aSa ((r.getD i.toNat []).getD (0+1) (C.fn 0 [])).toStr.length n) (IntKind.i64.wrap (i+(1:Int))))))))) (.ret [C.int .i64 n])):T (List C)).eval:=aAd (by kernel_rfl)
theorem bIt (H:List Pt→Nat→St→T (List C)) (i1:Int) (t1:List UInt8) (s1:Int):(aAe bNa aAb (sg [aN8] [bBv]) Tryz.f71 H [C.int .i64 i1,C.str t1,C.int .i64 s1]).eval=((.ret [C.int .i64 i1,C.str t1,C.int .i64 s1]):T (List C)).eval:=aAd (by kernel_rfl)
theorem bEn (H:List Pt→Nat→St→T (List C)) (r:List (List C)):(aAe aPo aAb (sg [pSl 92] [rSl 70]) Tryz.f28 H [C.sl r]).eval=((.must (decide ((0:Int)≤(↑r.length:Int))&&decide ((↑r.length:Int)≤(↑r.length:Int))&&decide ((↑(32:Nat):Int)*(↑r.length:Int)≤(281474976710656:Int))) (H [Pt.r,Pt.r,Pt.l,Pt.r,Pt.b] 9223372036854775808 (aPi (r) ((↑r.length:Int).toNat) (List.replicate (↑r.length:Int).toNat [C.int .i64 0,C.str [],C.int .i64 0]) ((0:Int))))):T (List C)).eval:=aAd (by kernel_rfl)
theorem aXh (H:List Pt→Nat→St→T (List C)) (r:List (List C)) (n:Nat) (o:List (List C)) (i:Int) (k:Nat):(aB3 aPo aAb (sg [pSl 92] [rSl 70]) Tryz.f28 H [Pt.r,Pt.r,Pt.l,Pt.r,Pt.b] k (aPi r n o i)).eval=((.ask (decide (i<(↑r.length:Int))) (.must (decide ((0:Int)≤i)&&decide (i<(↑r.length:Int))&&decide ((r.getD i.toNat []).length=3)) (.must (decide (0<(r.getD i.toNat []).length)&&C.is (K.int .i64) ((r.getD i.toNat []).getD 0 (C.fn 0 []))&&(decide (0+1<(r.getD i.toNat []).length)&&C.is K.str ((r.getD i.toNat []).getD (0+1) (C.fn 0 []))&&(decide (0+1+1<(r.getD i.toNat []).length)&&C.is (K.int .i64) ((r.getD i.toNat []).getD (0+1+1) (C.fn 0 []))&&true))) (.must (decide ((0:Int)≤i)&&decide (i<(↑n:Int))) (.must (decide (0+i.toNat<o.length)) (H [Pt.r,Pt.r,Pt.l,Pt.r,Pt.b] k (aPi (r) (n) (o.set (0+i.toNat) (C.int .i64 (C.int .i64 ((r.getD i.toNat []).getD 0 (C.fn 0 [])).toInt).toInt::C.str (C.str ((r.getD i.toNat []).getD (0+1) (C.fn 0 [])).toStr).toStr::C.int .i64 (C.int .i64 ((r.getD i.toNat []).getD (0+1+1) (C.fn 0 [])).toInt).toInt::List.drop (0+((Nat.add 1 0).succ.add 0).succ) (o.getD (0+i.toNat) []))) (IntKind.i64.wrap (i+(1:Int))))))))) (.must (decide (n=o.length)&&(false||o.all fun r=>r.all C.flat)&&true&&true&&true) (.ret [C.sl o]))):T (List C)).eval:=aAd (by kernel_rfl)
theorem bLp (H:List Pt→Nat→St→T (List C)) (i1:Int) (t1:List UInt8) (s1:Int) (i2:Int) (t2:List UInt8) (s2:Int):(aAe bNt aAb (sg [aN8,aN8] [rB]) Tryz.f73 H [C.int .i64 i1,C.str t1,C.int .i64 s1,C.int .i64 i2,C.str t2,C.int .i64 s2]).eval=((.ask (i1 != i2) (.ret [C.bool false]) (.ask (!t1==t2) (.ret [C.bool false]) (.ask (s1 != s2) (.ret [C.bool false]) (.ret [C.bool true])))):T (List C)).eval:=aAd (by kernel_rfl)
theorem bHq (H:List Pt→Nat→St→T (List C)) (x:List (List C)) (y:List (List C)):(aAe aPy aAb (sg [pSl 70,pSl 70] [rB]) Tryz.f31 H [C.sl x,C.sl y]).eval=((.ask ((↑x.length:Int) != (↑y.length:Int)) (.ret [C.bool false]) (H [Pt.r,Pt.r,Pt.l,Pt.r,Pt.b] 9223372036854775808 (aPn (x) (y) ((0:Int))))):T (List C)).eval:=aAd (by kernel_rfl)
theorem aZ1 (H:List Pt→Nat→St→T (List C)) (x:List (List C)) (y:List (List C)) (i:Int) (k:Nat):(aB3 aPy aAb (sg [pSl 70,pSl 70] [rB]) Tryz.f31 H [Pt.r,Pt.r,Pt.l,Pt.r,Pt.b] k (aPn x y i)).eval=((.ask (decide (i<(↑x.length:Int))) (.must (decide ((0:Int)≤i)&&decide (i<(↑x.length:Int))&&decide ((x.getD i.toNat []).length=3)) (.must (decide (0<(x.getD i.toNat []).length)&&C.is (K.int .i64) ((x.getD i.toNat []).getD 0 (C.fn 0 []))&&(decide (0+1<(x.getD i.toNat []).length)&&C.is K.str ((x.getD i.toNat []).getD (0+1) (C.fn 0 []))&&(decide (0+1+1<(x.getD i.toNat []).length)&&C.is (K.int .i64) ((x.getD i.toNat []).getD (0+1+1) (C.fn 0 []))&&true))) (.must (decide ((0:Int)≤i)&&decide (i<(↑y.length:Int))&&decide ((y.getD i.toNat []).length=3)) (.must (decide (0<(y.getD i.toNat []).length)&&C.is (K.int .i64) ((y.getD i.toNat []).getD 0 (C.fn 0 []))&&(decide (0+1<(y.getD i.toNat []).length)&&C.is K.str ((y.getD i.toNat []).getD (0+1) (C.fn 0 []))&&(decide (0+1+1<(y.getD i.toNat []).length)&&C.is (K.int .i64) ((y.getD i.toNat []).getD (0+1+1) (C.fn 0 []))&&true))) (.ask (cAa ((x.getD i.toNat []).getD 0 (C.fn 0 [])).toInt ((x.getD i.toNat []).getD (0+1) (C.fn 0 [])).toStr ((x.getD i.toNat []).getD (0+1+1) (C.fn 0 [])).toInt ((y.getD i.toNat []).getD 0 (C.fn 0 [])).toInt ((y.getD i.toNat []).getD (0+1) (C.fn 0 [])).toStr ((y.getD i.toNat []).getD (0+1+1) (C.fn 0 [])).toInt) (H [Pt.r,Pt.r,Pt.l,Pt.r,Pt.b] k (aPn (x) (y) (IntKind.i64.wrap (i+(1:Int))))) (.ret [C.bool false])))))) (.ret [C.bool true])):T (List C)).eval:=aAd (by kernel_rfl)
theorem bEw (H:List Pt→Nat→St→T (List C)) (t1:List UInt8) (i1:Int) (left:Int):(aAe bI3 aAb (sg [aGp,pI] [rI]) Tryz.f70 H [C.str t1,C.int .i64 i1,C.int .i64 left]).eval=((.ask (decide (IntKind.i64.wrap (left-(↑t1.length:Int))<(0:Int))) (.ret [C.int .i64 (-1)]) (.ret [C.int .i64 (IntKind.i64.wrap (left-(↑t1.length:Int)))])):T (List C)).eval:=aAd (by kernel_rfl)
theorem bAw (H:List Pt→Nat→St→T (List C)) (r:List (List C)) (n:Int):(aAe aMq aAb (sg [pSl 95,pI] [rI]) Tryz.f26 H [C.sl r,C.int .i64 n]).eval=((.ask (decide (IntKind.i64.wrap (n-(↑r.length:Int))<(0:Int))) (.ret [C.int .i64 (-1)]) (H [Pt.r,Pt.r,Pt.r,Pt.l,Pt.r,Pt.b] 9223372036854775808 (aMc (r) (IntKind.i64.wrap (n-(↑r.length:Int))) ((0:Int))))):T (List C)).eval:=aAd (by kernel_rfl)
theorem aU6 (H:List Pt→Nat→St→T (List C)) (r:List (List C)) (n:Int) (i:Int) (k:Nat):(aB3 aMq aAb (sg [pSl 95,pI] [rI]) Tryz.f26 H [Pt.r,Pt.r,Pt.r,Pt.l,Pt.r,Pt.b] k (aMc r n i)).eval=((.ask (decide (i<(↑r.length:Int))) (.must (decide ((0:Int)≤i)&&decide (i<(↑r.length:Int))&&decide ((r.getD i.toNat []).length=2)) (.must (decide (0<(r.getD i.toNat []).length)&&C.is K.str ((r.getD i.toNat []).getD 0 (C.fn 0 []))&&(decide (0+1<(r.getD i.toNat []).length)&&C.is (K.int .i64) ((r.getD i.toNat []).getD (0+1) (C.fn 0 []))&&true)) (.must (decide ((0:Int)≤n)&&decide (n≤(1048576:Int))&&decide (((r.getD i.toNat []).getD 0 (C.fn 0 [])).toStr.length≤281474976710656)) (.ask (decide (aSa ((r.getD i.toNat []).getD 0 (C.fn 0 [])).toStr.length n<(0:Int))) (.ret [C.int .i64 (-1)]) (H [Pt.r,Pt.r,Pt.r,Pt.l,Pt.r,Pt.b] k (aMc (r) (aSa ((r.getD i.toNat []).getD 0 (C.fn 0 [])).toStr.length n) (IntKind.i64.wrap (i+(1:Int))))))))) (.ret [C.int .i64 n])):T (List C)).eval:=aAd (by kernel_rfl)
theorem bEp (H:List Pt→Nat→St→T (List C)) (t1:List UInt8) (i1:Int):(aAe bI2 aAb (sg [aGp] [bRn]) Tryz.f72 H [C.str t1,C.int .i64 i1]).eval=((.ret [C.str t1,C.int .i64 i1]):T (List C)).eval:=aAd (by kernel_rfl)
theorem bAs (H:List Pt→Nat→St→T (List C)) (r:List (List C)):(aAe aMp aAb (sg [pSl 95] [rSl 97]) Tryz.f29 H [C.sl r]).eval=((.must (decide ((0:Int)≤(↑r.length:Int))&&decide ((↑r.length:Int)≤(↑r.length:Int))&&decide ((↑(24:Nat):Int)*(↑r.length:Int)≤(281474976710656:Int))) (H [Pt.r,Pt.r,Pt.l,Pt.r,Pt.b] 9223372036854775808 (aMb (r) ((↑r.length:Int).toNat) (List.replicate (↑r.length:Int).toNat [C.str [],C.int .i64 0]) ((0:Int))))):T (List C)).eval:=aAd (by kernel_rfl)
theorem aU2 (H:List Pt→Nat→St→T (List C)) (r:List (List C)) (n:Nat) (o:List (List C)) (i:Int) (k:Nat):(aB3 aMp aAb (sg [pSl 95] [rSl 97]) Tryz.f29 H [Pt.r,Pt.r,Pt.l,Pt.r,Pt.b] k (aMb r n o i)).eval=((.ask (decide (i<(↑r.length:Int))) (.must (decide ((0:Int)≤i)&&decide (i<(↑r.length:Int))&&decide ((r.getD i.toNat []).length=2)) (.must (decide (0<(r.getD i.toNat []).length)&&C.is K.str ((r.getD i.toNat []).getD 0 (C.fn 0 []))&&(decide (0+1<(r.getD i.toNat []).length)&&C.is (K.int .i64) ((r.getD i.toNat []).getD (0+1) (C.fn 0 []))&&true)) (.must (decide ((0:Int)≤i)&&decide (i<(↑n:Int))) (.must (decide (0+i.toNat<o.length)) (H [Pt.r,Pt.r,Pt.l,Pt.r,Pt.b] k (aMb (r) (n) (o.set (0+i.toNat) (C.str (C.str ((r.getD i.toNat []).getD 0 (C.fn 0 [])).toStr).toStr::C.int .i64 (C.int .i64 ((r.getD i.toNat []).getD (0+1) (C.fn 0 [])).toInt).toInt::List.drop (0+(Nat.add 1 0).succ) (o.getD (0+i.toNat) []))) (IntKind.i64.wrap (i+(1:Int))))))))) (.must (decide (n=o.length)&&(false||o.all fun r=>r.all C.flat)&&true&&true&&true) (.ret [C.sl o]))):T (List C)).eval:=aAd (by kernel_rfl)
theorem bHt (H:List Pt→Nat→St→T (List C)) (t1:List UInt8) (i1:Int) (t2:List UInt8) (i2:Int):(aAe bIl aAb (sg [aGp,aGp] [rB]) Tryz.f74 H [C.str t1,C.int .i64 i1,C.str t2,C.int .i64 i2]).eval=((.ask (!t1==t2) (.ret [C.bool false]) (.ask (i1 != i2) (.ret [C.bool false]) (.ret [C.bool true]))):T (List C)).eval:=aAd (by kernel_rfl)
theorem bDt (H:List Pt→Nat→St→T (List C)) (x:List (List C)) (y:List (List C)):(aAe aN5 aAb (sg [pSl 97,pSl 97] [rB]) Tryz.f32 H [C.sl x,C.sl y]).eval=((.ask ((↑x.length:Int) != (↑y.length:Int)) (.ret [C.bool false]) (H [Pt.r,Pt.r,Pt.l,Pt.r,Pt.b] 9223372036854775808 (aMo (x) (y) ((0:Int))))):T (List C)).eval:=aAd (by kernel_rfl)
theorem aWg (H:List Pt→Nat→St→T (List C)) (x:List (List C)) (y:List (List C)) (i:Int) (k:Nat):(aB3 aN5 aAb (sg [pSl 97,pSl 97] [rB]) Tryz.f32 H [Pt.r,Pt.r,Pt.l,Pt.r,Pt.b] k (aMo x y i)).eval=((.ask (decide (i<(↑x.length:Int))) (.must (decide ((0:Int)≤i)&&decide (i<(↑x.length:Int))&&decide ((x.getD i.toNat []).length=2)) (.must (decide (0<(x.getD i.toNat []).length)&&C.is K.str ((x.getD i.toNat []).getD 0 (C.fn 0 []))&&(decide (0+1<(x.getD i.toNat []).length)&&C.is (K.int .i64) ((x.getD i.toNat []).getD (0+1) (C.fn 0 []))&&true)) (.must (decide ((0:Int)≤i)&&decide (i<(↑y.length:Int))&&decide ((y.getD i.toNat []).length=2)) (.must (decide (0<(y.getD i.toNat []).length)&&C.is K.str ((y.getD i.toNat []).getD 0 (C.fn 0 []))&&(decide (0+1<(y.getD i.toNat []).length)&&C.is (K.int .i64) ((y.getD i.toNat []).getD (0+1) (C.fn 0 []))&&true)) (.ask (cAb ((x.getD i.toNat []).getD 0 (C.fn 0 [])).toStr ((x.getD i.toNat []).getD (0+1) (C.fn 0 [])).toInt ((y.getD i.toNat []).getD 0 (C.fn 0 [])).toStr ((y.getD i.toNat []).getD (0+1) (C.fn 0 [])).toInt) (H [Pt.r,Pt.r,Pt.l,Pt.r,Pt.b] k (aMo (x) (y) (IntKind.i64.wrap (i+(1:Int))))) (.ret [C.bool false])))))) (.ret [C.bool true])):T (List C)).eval:=aAd (by kernel_rfl)
end Go.Proofs.YtfljomghcbaepaaGreatDoor.V
