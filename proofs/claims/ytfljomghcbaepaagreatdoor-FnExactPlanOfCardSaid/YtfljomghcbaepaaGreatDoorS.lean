/- Functions of the given program and of its reference: what each returns, as an equation over data; by the interpreter. -/
import Derived.Test.YtfljomghcbaepaaGreatDoorVG
import Derived.Test.YtfljomghcbaepaaGreatDoorProg
import Derived.KernelRfl
import Derived.Lib.Builder
import Derived.Lib.AppendStr
import Derived.Lib.UnsafeStr
import Derived.Lib.Walk
import Derived.WalkKit
import Derived.RegionTactic
import Derived.Lib.Strings
import Derived.Lib.BufferWrite
import Derived.Laws.MakeOwn
set_option linter.unusedVariables false
set_option linter.unusedSimpArgs false
set_option linter.unusedSectionVars false
set_option linter.deprecated false
namespace Go.Proofs.YtfljomghcbaepaaGreatDoor.V
noncomputable section
def bYe:List (TypeId×TI):=[(2,⟨false,[.int .i64],[],8,false⟩),
 (3,⟨false,[.int .i64],[],8,false⟩),
 (4,⟨false,[.bool],[],1,false⟩),
 (5,⟨false,[.int .u8],[],1,false⟩),
 (6,⟨false,[.int .u8],[],1,false⟩),
 (7,⟨true,[.int .i64,.int .i64,.bool,.int .u8],[(0,2),(1,3),(2,4),(3,6)],24,false⟩),
 (8,⟨true,[.int .i64,.int .i64,.bool,.int .u8],[(0,2),(1,3),(2,4),(3,6)],24,false⟩),
 (9,⟨false,[.str],[],16,false⟩),
 (10,⟨false,[.str],[],16,false⟩),
 (11,⟨false,[.str],[],16,false⟩),
 (12,⟨false,[.int .u64],[],8,false⟩),
 (13,⟨true,[.str,.int .u64],[(0,9),(1,12)],24,false⟩),
 (14,⟨true,[.str,.int .u64],[(0,9),(1,12)],24,false⟩),
 (20,⟨false,[.err],[],16,false⟩),
 (21,⟨false,[.int .i32],[],4,false⟩),
 (22,⟨false,[.slice 92],[],24,false⟩),
 (23,⟨false,[.slice 95],[],24,false⟩),
 (24,⟨false,[.slice 9],[],24,false⟩),
 (25,⟨true,[.slice 92,.slice 95,.slice 95,.slice 9,.int .i64,.int .i64],[(0,22),(1,23),(2,23),(3,24),(4,3),(5,3)],112,false⟩),
 (26,⟨true,[.slice 92,.slice 95,.slice 95,.slice 9,.int .i64,.int .i64],[(0,22),(1,23),(2,23),(3,24),(4,3),(5,3)],112,false⟩),
 (29,⟨false,[.slice 70],[],24,false⟩),
 (30,⟨false,[.slice 97],[],24,false⟩),
 (31,⟨true,[.slice 70,.slice 97,.slice 97,.slice 9,.int .i64,.int .i64],[(0,29),(1,30),(2,30),(3,24),(4,3),(5,3)],112,false⟩),
 (32,⟨true,[.slice 70,.slice 97,.slice 97,.slice 9,.int .i64,.int .i64],[(0,29),(1,30),(2,30),(3,24),(4,3),(5,3)],112,false⟩),
 (36,⟨false,[.slice 3],[],24,false⟩),
 (37,⟨true,[.int .i64,.int .i64,.int .i64,.int .i64,.int .i64,.slice 3,.int .i64,.bool,.int .i64],[(0,3),(1,3),(2,3),(3,3),(4,3),(5,36),(6,3),(7,4),(8,3)],88,false⟩),
 (38,⟨true,[.int .i64,.int .i64,.int .i64,.int .i64,.int .i64,.slice 3,.int .i64,.bool,.int .i64],[(0,3),(1,3),(2,3),(3,3),(4,3),(5,36),(6,3),(7,4),(8,3)],88,false⟩),
 (44,⟨false,[.slice 58],[],24,false⟩),
 (57,⟨true,[.int .i64,.str,.str,.str],[(0,3),(1,9),(2,9),(3,9)],56,false⟩),
 (58,⟨true,[.int .i64,.str,.str,.str],[(0,3),(1,9),(2,9),(3,9)],56,true⟩),
 (69,⟨true,[.int .i64,.str,.int .i64],[(0,3),(1,9),(2,3)],32,false⟩),
 (70,⟨true,[.int .i64,.str,.int .i64],[(0,3),(1,9),(2,3)],32,true⟩),
 (79,⟨false,[.slice 86],[],24,false⟩),
 (81,⟨true,[.int .i64,.int .i64,.int .i64,.int .i64],[(0,3),(1,3),(2,3),(3,3)],32,false⟩),
 (82,⟨true,[.int .i64,.int .i64,.int .i64,.int .i64],[(0,3),(1,3),(2,3),(3,3)],32,true⟩),
 (83,⟨true,[.bool,.int .i64,.int .i64,.int .i64,.int .i64,.slice 9,.slice 3,.int .i64,.bool],[(0,4),(1,82),(5,24),(6,36),(7,3),(8,4)],104,false⟩),
 (84,⟨true,[.bool,.int .i64,.int .i64,.int .i64,.int .i64,.slice 9,.slice 3,.int .i64,.bool],[(0,4),(1,82),(5,24),(6,36),(7,3),(8,4)],104,false⟩),
 (85,⟨true,[.int .i64,.str,.bool,.int .i64,.int .i64,.int .i64,.int .i64,.slice 9,.slice 3,.int .i64,.bool],[(0,3),(1,9),(2,84)],128,false⟩),
 (86,⟨true,[.int .i64,.str,.bool,.int .i64,.int .i64,.int .i64,.int .i64,.slice 9,.slice 3,.int .i64,.bool],[(0,3),(1,9),(2,84)],128,false⟩),
 (92,⟨true,[.int .i64,.str,.int .i64],[(0,3),(1,9),(2,3)],32,true⟩),
 (94,⟨true,[.str,.int .i64],[(0,9),(1,3)],24,false⟩),
 (95,⟨true,[.str,.int .i64],[(0,9),(1,3)],24,true⟩),
 (97,⟨true,[.str,.int .i64],[(0,9),(1,3)],24,true⟩),
 (101,⟨false,[.slice 126],[],24,false⟩),
 (107,⟨false,[.slice 5],[],24,false⟩),
 (108,⟨false,[.int .u64],[],8,false⟩),
 (120,⟨false,[.int .u64],[],8,false⟩),
 (121,⟨false,[.err],[],16,false⟩),
 (122,⟨false,[.err],[],16,false⟩),
 (125,⟨true,[.str,.int .i64],[(0,9),(1,3)],24,false⟩),
 (126,⟨true,[.str,.int .i64],[(0,9),(1,3)],24,true⟩),
 (161,⟨false,[.slice 187],[],24,false⟩),
 (174,⟨false,[.int .u32],[],4,false⟩),
 (180,⟨false,[.int .i64],[],8,false⟩),
 (182,⟨false,[.ptr],[],8,false⟩),
 (186,⟨true,[.int .i64,.int .i64],[(0,3),(1,3)],16,false⟩),
 (187,⟨true,[.int .i64,.int .i64],[(0,3),(1,3)],16,true⟩),
 (197,⟨true,[.str,.str,.err],[(0,9),(1,9),(2,122)],48,false⟩),
 (198,⟨true,[.str,.str,.err],[(0,9),(1,9),(2,122)],48,false⟩),
 (202,⟨true,[.str],[(0,9)],16,false⟩),
 (203,⟨true,[.str],[(0,9)],16,false⟩),
 (211,⟨false,[.int .u8],[],1,false⟩),
 (212,⟨false,[.int .u8],[],1,false⟩),
 (214,⟨false,[.int .i32],[],4,false⟩),
 (215,⟨false,[.int .i32],[],4,false⟩)]
def bXw:List (TypeId×Nat×TypeId):=[(169,24,5),(190,20,120),(191,65,5),(204,32,5),(205,64,5)]
def cAy : List (Nat × String) := [(0, "internal/strconv.uint64pow10"), (1, "strconv.ErrSyntax"), (2, "strconv.ErrRange"), (4, "math/bits.deBruijn32tab"), (5, "math/bits.deBruijn64tab")]
abbrev Laws:=List (FuncId×Sig×aC3)
def mkE (lv:List (Nat×List Nat)) (gs:Laws):Env:={Ty:=cA7 bYe,Γ:=fun g=>gs.lookup g,inl:=fun _=>none,lv:=fun h=>(lv.lookup h).getD [],ren:=true,fuel:=9223372036854775808,nt:=0,Arr:=fun t=>bXw.lookup t,gl:=cC4 cAy}
abbrev pI:PTy:=.val false [.int .i64]
abbrev pU8:PTy:=.val false [.int .u8]
abbrev cAj:PTy:=.val false [.int .u32]
abbrev pS:PTy:=.val false [.str]
abbrev pB:PTy:=.val false [.bool]
abbrev rI:RTy:=⟨false,[(.int .i64,false)]⟩
abbrev rU8:RTy:=⟨false,[(.int .u8,false)]⟩
abbrev cAg:RTy:=⟨false,[(.int .u32,false)]⟩
abbrev rB:RTy:=⟨false,[(.bool,false)]⟩
abbrev rS:RTy:=⟨false,[(.str,false)]⟩
abbrev sg (ps:List PTy) (rs:List RTy):Sig:=⟨ps,rs,false⟩
abbrev aAw (n:Int):W:=.l (.i .i64 n)
abbrev bEp (s:List UInt8):W:=.l (.s s)
abbrev st0 (slots:List (Nat×W)):St:={slots,heap:=[],next:=0,pins:=[]}
abbrev st1 (slots:List (Nat×W)) (sz:Nat) (rows:List (List C)):St:={slots,heap:=[(0,.arr sz rows)],next:=1,pins:=[]}
theorem aMi:(bYe.all fun p=>tyB Tryz.prog p.1 p.2)=true:=by kernel_rfl
theorem aXb:bUb Tryz.prog bYe bXw=true:=by kernel_rfl
theorem bDm:glB Tryz.prog cAy=true:=by kernel_rfl
theorem aA5 {lv:List (Nat×List Nat)} {gs:Laws} (h:∀ p,p∈gs→aAn Tryz.prog p.1 p.2.1 p.2.2):aA6 Tryz.prog (mkE lv gs) :=
 ⟨⟨(aZn aMi).1,fun g fn h=>(by cases h),fun t m e te h1 h2=>bMe aXb t m e te h1 h2,bTf bDm,fun t e h=>by cases h⟩,fun g sig spec hl=>h (g,sig,spec) (aEz hl),fun g fn h=>(by cases h),by kernel_rfl⟩
def E0:Env:=mkE [] []
theorem bEo:aA6 Tryz.prog E0:=aA5 (by simp)
end
noncomputable section
def aAf (ks:List K) (rows:List (List C)):Bool:=rows.all fun r=>aB3 r ks
abbrev aF3 (n:Int):List C:=[.int .i64 n]
def bRy (r:List C):Int:=(r.getD 0 (.fn 0 [])).toInt
def aC1 (rows:List (List C)):List Int:=rows.map bRy
abbrev aB5 (s:List UInt8):List C:=[.str s]
def bMt (r:List C):List UInt8:=(r.getD 0 (.fn 0 [])).toStr
def aCb (rows:List (List C)):List (List UInt8):=rows.map bMt
abbrev pSl (t:TypeId):PTy:=.val false [.slice t]
abbrev rSl (t:TypeId):RTy:=⟨false,[(.slice t,true)]⟩
end
theorem bYn {r:List C} (h:aB3 r [.int .i64]=true):r=aF3 (bRy r):=by
 cases r with
 |nil=>simp[aB3]at h
 |cons c r =>
  cases r with
  |cons d r=>simp[aB3]at h
  |nil =>
   cases c with
   |int k n=>simp[aB3,C.is]at h;subst h;rfl
   |_=>simp[aB3,C.is]at h
theorem bRx {r:List C} (h:aB3 r [.str]=true):r=aB5 (bMt r):=by
 cases r with
 |nil=>simp[aB3]at h
 |cons c r =>
  cases r with
  |cons d r=>simp[aB3]at h
  |nil =>
   cases c with
   |str s=>rfl
   |_=>simp[aB3,C.is]at h
theorem aIr {rows:List (List C)} (h:aAf [.int .i64] rows=true):rows=(aC1 rows).map aF3:=by
 simp only[aAf,List.all_eq_true]at h
 simp only[aC1,List.map_map]
 rw[List.map_congr_left (g:=id)]
 ·simp
 ·intro r hr;exact (bYn (h r hr)).symm
theorem aDa {rows:List (List C)} (h:aAf [.str] rows=true):rows=(aCb rows).map aB5:=by
 simp only[aAf,List.all_eq_true]at h
 simp only[aCb,List.map_map]
 rw[List.map_congr_left (g:=id)]
 ·simp
 ·intro r hr;exact (bRx (h r hr)).symm
@[simp] theorem aTt (l:List Int):aC1 (l.map aF3)=l:=by simp[aC1,bRy,Function.comp_def,C.toInt]
@[simp] theorem aG3 (l:List (List UInt8)):aCb (l.map aB5)=l:=by simp[aCb,bMt,Function.comp_def,C.toStr]
@[simp] theorem aJm (l:List Int):aAf [.int .i64] (l.map aF3)=true:=by simp[aAf,aB3,C.is]
@[simp] theorem aEr (l:List (List UInt8)):aAf [.str] (l.map aB5)=true:=by simp[aAf,aB3,C.is]
theorem aWv (l:List Int):((l.map aF3).all fun r=>r.all C.flat)=true:=by simp[C.flat]
theorem aEl (l:List (List UInt8)):((l.map aB5).all fun r=>r.all C.flat)=true:=by simp[C.flat]
theorem aAv {A:Type} (e:A→List C) (l:List A) (d:A) (i:Nat) (h:i<l.length):(l.map e).getD i []=e (l.getD i d):=by
 simp[List.getD_eq_getElem?_getD,h]
theorem bE4 {A:Type} (l:List A) (z:A) (d:A) (i:Nat) (h:i<l.length):(l.take i++List.replicate (l.length-i) z).set i (l.getD i d)=l.take (i+1)++List.replicate (l.length-(i+1)) z:=by
 have hlen:(l.take i).length=i:=by simp;omega
 rw[List.set_append_right _ _ (by omega),hlen,Nat.sub_self]
 obtain⟨m,hm⟩:∃ m,l.length-i=m+1:=⟨l.length-i-1,by omega⟩
 have hm2:l.length-(i+1)=m:=by omega
 rw[hm,hm2,List.replicate_succ,List.set_cons_zero,List.take_succ_eq_append_getElem h,List.append_assoc]
 simp[List.getD_eq_getElem?_getD,h]
theorem aK0 {E:Env} {x:C} (h:Fit E (.int .i64) x):∃ n,x=.int .i64 n∧ -9223372036854775808≤n∧n≤9223372036854775807:=by
 cases h with
 |int a b=>exact⟨_,rfl,a,b⟩
theorem aKx {E:Env} {e:TypeId} {x:C} (h:Fit E (.slice e) x):∃ rows,x=.sl rows∧∀ te,E.Ty e=some te→1≤te.bytes→rows.length≤140737488351232∧aAf te.leaves rows=true:=by
 cases h with
 |@sl _ te rows h1 h2 h3 h4 =>
  refine⟨rows,rfl,fun te' ht hb=>?_⟩
  rw[h1]at ht
  obtain rfl:=Option.some.inj ht
  refine⟨Nat.le_trans (Nat.le_mul_of_pos_right _ hb) h2,?_⟩
  simp only[aAf,List.all_eq_true]
  intro r hr
  exact aKz.kinds (E:=E) ⟨h3 r hr,fun j kd y hj hy=>h4 r hr j kd y hj hy⟩
theorem aGl (l:List UInt8) (j:Nat):(l.getD j 0).toNat<256:=(l.getD j 0).toNat_lt
theorem aB9 {A:Type} (l:List A) (i:Nat) (d:A) (hi:i<l.length):l.drop i=l.getD i d::l.drop (i+1):=by
 rw[List.drop_eq_getElem_cons hi];simp[List.getD_eq_getElem?_getD,hi]
theorem aFt (l:List UInt8) (v:Nat) (h:v<256):(aAb l).append [[C.int .u8 (v:Int)]]=aAb (l++[UInt8.ofNat v]):=by
 have:=bMs (v:Int) (by omega) (by omega)
 rw[Int.toNat_natCast]at this
 rw[this,List.append_eq,aG4]
noncomputable section
def inB (n lo hi:Int):Bool:=decide (lo≤n)&&decide (n≤hi)
def aE3:aC3:=fun cs=>match cs with
 |[.int .i64 n,.int .i64 lo,.int .i64 hi]=>some (true,[.bool (inB n lo hi)])
 |_=>none
def cBe:Env:=mkE [] []
def cBg:Env:=mkE [] []
def aDj:aC3:=fun cs=>match cs with
 |[.int .i64 n]=>some (true,[.bool (inB n 1 2)])
 |_=>none
def aT1:Env:=mkE [] []
end
set_option maxRecDepth 100000
theorem bVc (H:List Pt→Nat→St→T (List C)) (n:Int) (a:Int) (b:Int):aAg cBe aAa (sg [pI,pI,pI] [rB]) Tryz.f53 H [C.int .i64 n,C.int .i64 a,C.int .i64 b]=(.must true (.ask (decide (a≤n)) (.ask (decide (n≤b)) (.must true (.ret [C.bool true])) (.must true (.ret [C.bool false]))) (.must true (.ret [C.bool false])))):=by kernel_rfl
theorem bWn (H:List Pt→Nat→St→T (List C)) (n:Int) (a:Int) (b:Int):aAg cBg aAa (sg [pI,pI,pI] [rB]) Tryz.f78 H [C.int .i64 n,C.int .i64 a,C.int .i64 b]=(.must true (.ask (decide (a≤n)) (.ask (decide (n≤b)) (.must true (.ret [C.bool true])) (.must true (.ret [C.bool false]))) (.must true (.ret [C.bool false])))):=by kernel_rfl
theorem aWl (H:List Pt→Nat→St→T (List C)) (n:Int):aAg aT1 aAa (sg [pI] [rB]) Tryz.f63 H [C.int .i64 n]=(.must true (.ask (decide (n=(1:Int))) (.must true (.ret [C.bool true])) (.ask (decide (n=(2:Int))) (.must true (.ret [C.bool true])) (.must true (.ret [C.bool false]))))):=by kernel_rfl
theorem cBn:aA6 Tryz.prog cBe:=aA5 (by simp[])
theorem aD9:aAn Tryz.prog 53 (sg [pI,pI,pI] [rB]) aE3:=aA4 cBn aA7 Tryz.func53 (by kernel_rfl) fun cs outs hk h=>by
 unfold aE3 at h
 split at h
 ·simp only[Option.some.injEq,Prod.mk.injEq,true_and]at h
  rw[←h,aA9,bVc]
  simp only[aA0,aA1,aA2,decide_eq_true_eq,if_true,inB]
  repeat' split
  all_goals first | rfl | (simp_all;done) | (simp_all;omega)
 ·cases h
theorem cC3:aA6 Tryz.prog cBg:=aA5 (by simp[])
theorem aIy:aAn Tryz.prog 78 (sg [pI,pI,pI] [rB]) aE3:=aA4 cC3 aA7 Tryz.func78 (by kernel_rfl) fun cs outs hk h=>by
 unfold aE3 at h
 split at h
 ·simp only[Option.some.injEq,Prod.mk.injEq,true_and]at h
  rw[←h,aA9,bWn]
  simp only[aA0,aA1,aA2,decide_eq_true_eq,if_true,inB]
  repeat' split
  all_goals first | rfl | (simp_all;done) | (simp_all;omega)
 ·cases h
theorem bH2:aA6 Tryz.prog aT1:=aA5 (by simp[])
theorem aDm:aAn Tryz.prog 63 (sg [pI] [rB]) aDj:=aA4 bH2 aA7 Tryz.func63 (by kernel_rfl) fun cs outs hk h=>by
 unfold aDj at h
 split at h
 ·simp only[Option.some.injEq,Prod.mk.injEq,true_and]at h
  rw[←h,aA9,aWl]
  simp only[aA0,aA1,aA2,decide_eq_true_eq,if_true,inB]
  repeat' split
  all_goals first | rfl | (simp_all;done) | (simp;omega)
 ·cases h
noncomputable section
end
theorem bWi (x:Int):aIh .i64 x 1=x % 2:=by
 show IntKind.i64.wrap (((BitVec.ofInt 64 x&&&BitVec.ofInt 64 1).toNat:Nat):Int)=_
 rw[BitVec.toNat_and]
 have h1:(BitVec.ofInt 64 1).toNat=1:=by decide
 have h2:(BitVec.ofInt 64 x).toNat=(x % 18446744073709551616).toNat:=by simp[BitVec.toNat_ofInt]
 rw[h1,h2,Nat.and_one_is_mod,aAd]<;>omega
theorem bWg (x:Int):aL3 .i64 x 1=x / 2:=by
 show x.fdiv (2^(min (Int.toNat 1) 64))=_
 rw[Int.fdiv_eq_ediv_of_nonneg]<;>simp
noncomputable section
end
noncomputable section
end
noncomputable section
def aPe (x:Nat):Nat:=if x % 2=1 then (x / 2) ^^^ 2197175160 else x / 2
def aK6:Nat→Nat→Nat
 |0,x=>x
 |n+1,x=>aK6 n (aPe x)
def aMb (s b:Nat):Nat:=aK6 8 (s ^^^ b)
def aIv (s:Int):Nat:=(s % 4294967296).toNat
def aMa (x:Nat) (t:List UInt8):Nat:=t.foldl (fun x c=>aMb x c.toNat) x
def aAs (s:Nat) (t:List UInt8):Nat:=aMa (s ^^^ 4294967295) t ^^^ 4294967295
def aOx:aC3:=fun cs=>match cs with
 |[.int .i64 s,.int .i64 b]=>some (true,[.int .i64 (aMb (aIv s) (b % 256).toNat:Nat)])
 |_=>none
def aJi:aC3:=fun cs=>match cs with
 |[.int .u32 s,.int .u8 b]=>some (decide (0≤s∧s≤4294967295)&&decide (0≤b∧b≤255),[.int .u32 (aMb s.toNat b.toNat:Nat)])
 |_=>none
def aDx:aC3:=fun cs=>match cs with
 |[.int .i64 s,.str t]=>some (decide (t.length≤281474976710656),[.int .i64 (aAs (aIv s) t:Nat)])
 |_=>none
def aDk:aC3:=fun cs=>match cs with
 |[.str t]=>some (decide (t.length≤281474976710656),[.int .i64 (aAs 0 t:Nat)])
 |_=>none
def aJ9 (x i:Int):St:=st0 [(5,aAw x),(6,aAw i)]
def aGh (x i:Int):St:=st0 [(0,.l (.i .u32 x)),(10,aAw i)]
def aN4 (t:List UInt8) (x i:Int):St:=st0 [(1,bEp t),(5,aAw x),(6,aAw i)]
def aNb (t:List UInt8) (x n i:Int):St:=st0 [(1,bEp t),(5,.l (.i .u32 x)),(11,aAw n),(12,aAw i)]
def aNm:Env:=mkE [(3,[5,6])] []
def aI8:Env:=mkE [(3,[0,10])] []
def aNl:Env:=mkE [(3,[1,5,6])] [(187,(sg [pI,pI] [rI]),aOx)]
def aNu:Env:=mkE [(3,[1,5,11,12])] [(190,(sg [cAj,pU8] [cAg]),aJi)]
def bNm:Env:=mkE [] [(144,(sg [pI,pS] [rI]),aDx)]
def bNu:Env:=mkE [] [(160,(sg [pI,pS] [rI]),aDx)]
end
theorem bBf (H:List Pt→Nat→St→T (List C)) (s:Int) (b:Int):aAg aNm aAa (sg [pI,pI] [rI]) Tryz.f187 H [C.int .i64 s,C.int .i64 b]=(.must true (H [Pt.r,Pt.r,Pt.l,Pt.r,Pt.b] 9223372036854775808 (aJ9 (bEt .i64 (aIh .i64 s 4294967295) (aIh .i64 b 255)) ((0:Int))))):=by kernel_rfl
theorem aWc (H:List Pt→Nat→St→T (List C)) (s:Int) (b:Int):aAg aI8 aAa (sg [cAj,pU8] [cAg]) Tryz.f190 H [C.int .u32 s,C.int .u8 b]=(.must true (H [Pt.r,Pt.r,Pt.l,Pt.r,Pt.b] 9223372036854775808 (aGh (bEt .u32 s (IntKind.u32.wrap b)) ((0:Int))))):=by kernel_rfl
theorem aVa (H:List Pt→Nat→St→T (List C)) (x:Int) (i:Int) (k:Nat):aB1 aNm aAa (sg [pI,pI] [rI]) Tryz.f187 H [Pt.r,Pt.r,Pt.l,Pt.r,Pt.b] k (aJ9 x i)=(.ask (decide (i<(8:Int))) (.ask (decide (aIh .i64 x 1=(1:Int))) (.must true (H [Pt.r,Pt.r,Pt.l,Pt.r,Pt.b] k (aJ9 (bEt .i64 (aL3 .i64 x 1) 2197175160) (IntKind.i64.wrap (i+(1:Int)))))) (.must true (H [Pt.r,Pt.r,Pt.l,Pt.r,Pt.b] k (aJ9 (aL3 .i64 x 1) (IntKind.i64.wrap (i+(1:Int))))))) (.must true (.ret [C.int .i64 x]))):=by kernel_rfl
theorem aRz (H:List Pt→Nat→St→T (List C)) (x:Int) (i:Int) (k:Nat):aB1 aI8 aAa (sg [cAj,pU8] [cAg]) Tryz.f190 H [Pt.r,Pt.r,Pt.l,Pt.r,Pt.b] k (aGh x i)=(.ask (decide (i<(8:Int))) (.ask (decide (aIh .u32 x 1=(1:Int))) (.must true (H [Pt.r,Pt.r,Pt.l,Pt.r,Pt.b] k (aGh (bEt .u32 (aL3 .u32 x 1) 2197175160) (IntKind.i64.wrap (i+(1:Int)))))) (.must true (H [Pt.r,Pt.r,Pt.l,Pt.r,Pt.b] k (aGh (aL3 .u32 x 1) (IntKind.i64.wrap (i+(1:Int))))))) (.must true (.ret [C.int .u32 x]))):=by kernel_rfl
theorem aV9 (H:List Pt→Nat→St→T (List C)) (t:List UInt8) (x:Int) (i:Int) (k:Nat):aB1 aNl aAa (sg [pI,pS] [rI]) Tryz.f144 H [Pt.r,Pt.r,Pt.l,Pt.r,Pt.b] k (aN4 t x i)=(.ask (decide (i<(↑t.length:Int))) (.must (decide ((0:Int)≤i)&&decide (i<(↑t.length:Int))) (.must true (.must true (.must true (H [Pt.r,Pt.r,Pt.l,Pt.r,Pt.b] k (aN4 (t) (Int.ofNat (aMb (aIv x) (IntKind.i64.wrap (↑(t.getD i.toNat (0:UInt8)).toNat:Int) % (256:Int)).toNat)) (IntKind.i64.wrap (i+(1:Int))))))))) (.must true (.ret [C.int .i64 (bEt .i64 x 4294967295)]))):=by kernel_rfl
theorem aWb (H:List Pt→Nat→St→T (List C)) (t:List UInt8) (x:Int) (n:Int) (i:Int) (k:Nat):aB1 aNu aAa (sg [pI,pS] [rI]) Tryz.f160 H [Pt.r,Pt.r,Pt.l,Pt.r,Pt.b] k (aNb t x n i)=(.ask (decide (i<n)) (.must (decide ((0:Int)≤i)&&decide (i<(↑t.length:Int))) (.must true (.must (decide ((0:Int)≤x∧x≤(4294967295:Int))&&decide ((0:Int)≤(↑(t.getD i.toNat (0:UInt8)).toNat:Int)∧(↑(t.getD i.toNat (0:UInt8)).toNat:Int)≤(255:Int))) (.must true (H [Pt.r,Pt.r,Pt.l,Pt.r,Pt.b] k (aNb (t) (Int.ofNat (aMb x.toNat (↑(t.getD i.toNat (0:UInt8)).toNat:Int).toNat)) (n) (IntKind.i64.wrap (i+(1:Int))))))))) (.must true (.ret [C.int .i64 (IntKind.i64.wrap (bEt .u32 x 4294967295))]))):=by kernel_rfl
theorem bBd (H:List Pt→Nat→St→T (List C)) (s:Int) (t:List UInt8):aAg aNl aAa (sg [pI,pS] [rI]) Tryz.f144 H [C.int .i64 s,C.str t]=(.must true (H [Pt.r,Pt.r,Pt.l,Pt.r,Pt.b] 9223372036854775808 (aN4 (t) (bEt .i64 (aIh .i64 s 4294967295) 4294967295) ((0:Int))))):=by kernel_rfl
theorem bD0 (H:List Pt→Nat→St→T (List C)) (s:Int) (t:List UInt8):aAg aNu aAa (sg [pI,pS] [rI]) Tryz.f160 H [C.int .i64 s,C.str t]=(.must true (H [Pt.r,Pt.r,Pt.l,Pt.r,Pt.b] 9223372036854775808 (aNb (t) (bEt .u32 (IntKind.u32.wrap s) 4294967295) ((↑t.length:Int)) ((0:Int))))):=by kernel_rfl
theorem bJ3 (H:List Pt→Nat→St→T (List C)) (t:List UInt8):aAg bNm aAa (sg [pS] [rI]) Tryz.f151 H [C.str t]=(.must true (.must true (.must (decide (t.length≤281474976710656)) (.must true (.must true (.ret [C.int .i64 (Int.ofNat (aAs (aIv 0) t))])))))):=by kernel_rfl
theorem bL1 (H:List Pt→Nat→St→T (List C)) (t:List UInt8):aAg bNu aAa (sg [pS] [rI]) Tryz.f181 H [C.str t]=(.must true (.must true (.must (decide (t.length≤281474976710656)) (.must true (.must true (.ret [C.int .i64 (Int.ofNat (aAs (aIv 0) t))])))))):=by kernel_rfl
theorem bXt (s:Int):aIh .i64 s 4294967295=(aIv s:Int):=by
 show IntKind.i64.wrap (((BitVec.ofInt 64 s&&&BitVec.ofInt 64 4294967295).toNat:Nat):Int)=_
 rw[BitVec.toNat_and]
 have h1:(BitVec.ofInt 64 4294967295).toNat=2^32-1:=by decide
 have h2:(BitVec.ofInt 64 s).toNat=(s % 18446744073709551616).toNat:=by simp[BitVec.toNat_ofInt]
 rw[h1,h2,Nat.and_two_pow_sub_one_eq_mod]
 unfold aIv
 rw[aAd]<;>omega
theorem bZ6 (s:Int):aIh .i64 s 255=s % 256:=by
 show IntKind.i64.wrap (((BitVec.ofInt 64 s&&&BitVec.ofInt 64 255).toNat:Nat):Int)=_
 rw[BitVec.toNat_and]
 have h1:(BitVec.ofInt 64 255).toNat=2^8-1:=by decide
 have h2:(BitVec.ofInt 64 s).toNat=(s % 18446744073709551616).toNat:=by simp[BitVec.toNat_ofInt]
 rw[h1,h2,Nat.and_two_pow_sub_one_eq_mod,aAd]<;>omega
theorem aMu (a b:Nat) (ha:a<4294967296) (hb:b<4294967296):bEt .i64 (a:Int) (b:Int)=((a ^^^ b:Nat):Int):=by
 show IntKind.i64.wrap (((BitVec.ofInt 64 (a:Int) ^^^ BitVec.ofInt 64 (b:Int)).toNat:Nat):Int)=_
 rw[BitVec.toNat_xor]
 have h1:(BitVec.ofInt 64 (a:Int)).toNat=a:=by simp[BitVec.toNat_ofInt];omega
 have h2:(BitVec.ofInt 64 (b:Int)).toNat=b:=by simp[BitVec.toNat_ofInt];omega
 have h3:a ^^^ b<4294967296:=Nat.xor_lt_two_pow (n:=32) ha hb
 rw[h1,h2,aAd]<;>omega
theorem aMv (a b:Nat) (ha:a<4294967296) (hb:b<4294967296):bEt .u32 (a:Int) (b:Int)=((a ^^^ b:Nat):Int):=by
 show IntKind.u32.wrap (((BitVec.ofInt 32 (a:Int) ^^^ BitVec.ofInt 32 (b:Int)).toNat:Nat):Int)=_
 rw[BitVec.toNat_xor]
 have h1:(BitVec.ofInt 32 (a:Int)).toNat=a:=by simp[BitVec.toNat_ofInt];omega
 have h2:(BitVec.ofInt 32 (b:Int)).toNat=b:=by simp[BitVec.toNat_ofInt];omega
 have h3:a ^^^ b<4294967296:=Nat.xor_lt_two_pow (n:=32) ha hb
 rw[h1,h2,bIp]<;>omega
theorem bPs (x:Int):aIh .u32 x 1=x % 2:=by
 show IntKind.u32.wrap (((BitVec.ofInt 32 x&&&BitVec.ofInt 32 1).toNat:Nat):Int)=_
 rw[BitVec.toNat_and]
 have h1:(BitVec.ofInt 32 1).toNat=1:=by decide
 have h2:(BitVec.ofInt 32 x).toNat=(x % 4294967296).toNat:=by simp[BitVec.toNat_ofInt]
 rw[h1,h2,Nat.and_one_is_mod,bIp]<;>omega
theorem bPp (x:Int):aL3 .u32 x 1=x / 2:=by
 show x.fdiv (2^(min (Int.toNat 1) 32))=_
 rw[Int.fdiv_eq_ediv_of_nonneg]<;>simp
theorem bIo (s:Int):IntKind.u32.wrap s=(aIv s:Int):=by
 unfold aIv
 simp only[IntKind.wrap,IntKind.bits,IntKind.signed]
 simp
 omega
theorem aMs (s:Int):aIv s<4294967296:=by unfold aIv;omega
theorem aS9 (x:Nat) (h:x<4294967296):aPe x<4294967296:=by
 unfold aPe
 split
 ·exact Nat.xor_lt_two_pow (n:=32) (by omega) (by omega)
 ·omega
theorem bAa:∀ (n x:Nat),x<4294967296→aK6 n x<4294967296
 |0,x,h=>h
 |n+1,x,h=>bAa n _ (aS9 x h)
theorem aSa (s b:Nat) (hs:s<4294967296) (hb:b<256):aMb s b<4294967296 :=
 bAa 8 _ (Nat.xor_lt_two_pow (n:=32) hs (by omega))
theorem bAb:∀ (t:List UInt8) (x:Nat),x<4294967296→aMa x t<4294967296
 |[],x,h=>h
 |c::t,x,h=>bAb t _ (aSa x c.toNat h c.toNat_lt)
theorem aDq (s:Nat) (t:List UInt8) (hs:s<4294967296):aAs s t<4294967296 :=
 Nat.xor_lt_two_pow (n:=32) (bAb t _ (Nat.xor_lt_two_pow (n:=32) hs (by omega))) (by omega)
theorem bBg:∀ (n i x:Nat),x<4294967296→i≤8→8<i+n →
  (aBf aNm aAa (sg [pI,pI] [rI]) Tryz.f187 [.r,.r,.l,.r,.b] n (aJ9 x i)).eval=some [.int .i64 (aK6 (8-i) x:Nat)]:=by
 intro n
 induction n with
 |zero=>intro i x hx h1 h2;omega
 |succ n ih =>
  intro i x hx h1 h2
  rw[aAi _ _ _ _ _ _ _ (by kernel_rfl),aVa]
  by_cases hi:i<8
  ·have e:=ih (i+1) (aPe x) (aS9 x hx) (by omega) (by omega)
   have hs:8-i=(8-(i+1))+1:=by omega
   have w:IntKind.i64.wrap ((i:Int)+1)=((i+1:Nat):Int):=by rw[aAd]<;>omega
   have hi':(i:Int)<8:=by omega
   have d:(x:Int) / 2=((x / 2:Nat):Int):=by omega
   have m:(x:Int) % 2=((x % 2:Nat):Int):=by omega
   have hx2:bEt .i64 ((x / 2:Nat):Int) 2197175160=((x / 2 ^^^ 2197175160:Nat):Int):=aMu (x / 2) 2197175160 (by omega) (by omega)
   rw[hs]
   simp only[aK6]
   rw[←e]
   simp only[aA0,aA1,aA2,if_true,decide_eq_true_eq,w,hi',bWi,bWg,d,m,hx2]
   unfold aPe
   by_cases ho:x % 2=1
   ·simp[ho]
   ·simp only[ho,if_false];rw[if_neg (by omega)]
  ·have:i=8:=by omega
   subst this
   simp[aA0,aA1,aA2,aK6]
theorem bOl:aA6 Tryz.prog aNm:=aA5 (by simp[])
theorem aYb:aAn Tryz.prog 187 (sg [pI,pI] [rI]) aOx:=aA4 bOl aA7 Tryz.func187 (by kernel_rfl) fun cs outs hk h=>by
 unfold aOx at h
 split at h
 ·simp only[Option.some.injEq,Prod.mk.injEq,true_and]at h
  rename_i s b
  rw[←h,aA9,bBf]
  have e:b % 256=((b % 256).toNat:Int):=by omega
  have hb:(b % 256).toNat<256:=by omega
  simp only[aA0,if_true,bXt,bZ6]
  rw[e,aMu _ _ (aMs s) (by omega)]
  exact bBg _ 0 _ (Nat.xor_lt_two_pow (n:=32) (aMs s) (by omega)) (by omega) (by omega)
 ·cases h
theorem aWd:∀ (n i x:Nat),x<4294967296→i≤8→8<i+n →
  (aBf aI8 aAa (sg [cAj,pU8] [cAg]) Tryz.f190 [.r,.r,.l,.r,.b] n (aGh x i)).eval=some [.int .u32 (aK6 (8-i) x:Nat)]:=by
 intro n
 induction n with
 |zero=>intro i x hx h1 h2;omega
 |succ n ih =>
  intro i x hx h1 h2
  rw[aAi _ _ _ _ _ _ _ (by kernel_rfl),aRz]
  by_cases hi:i<8
  ·have e:=ih (i+1) (aPe x) (aS9 x hx) (by omega) (by omega)
   have hs:8-i=(8-(i+1))+1:=by omega
   have w:IntKind.i64.wrap ((i:Int)+1)=((i+1:Nat):Int):=by rw[aAd]<;>omega
   have hi':(i:Int)<8:=by omega
   have d:(x:Int) / 2=((x / 2:Nat):Int):=by omega
   have m:(x:Int) % 2=((x % 2:Nat):Int):=by omega
   have hx2:bEt .u32 ((x / 2:Nat):Int) 2197175160=((x / 2 ^^^ 2197175160:Nat):Int):=aMv (x / 2) 2197175160 (by omega) (by omega)
   rw[hs]
   simp only[aK6]
   rw[←e]
   simp only[aA0,aA1,aA2,if_true,decide_eq_true_eq,w,hi',bPs,bPp,d,m,hx2]
   unfold aPe
   by_cases ho:x % 2=1
   ·simp[ho]
   ·simp only[ho,if_false];rw[if_neg (by omega)]
  ·have:i=8:=by omega
   subst this
   simp[aA0,aA1,aA2,aK6]
theorem bGu:aA6 Tryz.prog aI8:=aA5 (by simp[])
theorem aTi:aAn Tryz.prog 190 (sg [cAj,pU8] [cAg]) aJi:=aA4 bGu aA7 Tryz.func190 (by kernel_rfl) fun cs outs hk h=>by
 unfold aJi at h
 split at h
 ·simp only[Option.some.injEq,Prod.mk.injEq,Bool.and_eq_true,decide_eq_true_eq]at h
  obtain⟨⟨⟨h1,h2⟩,h3,h4⟩,rfl⟩:=h
  rename_i s b
  obtain⟨s,rfl⟩:=Int.eq_ofNat_of_zero_le h1
  obtain⟨b,rfl⟩:=Int.eq_ofNat_of_zero_le h3
  rw[aA9,aWc]
  simp only[aA0,if_true,Int.toNat_natCast]
  rw[bIp (by omega) (by omega),aMv _ _ (by omega) (by omega)]
  exact aWd _ 0 _ (Nat.xor_lt_two_pow (n:=32) (by omega) (by omega)) (by omega) (by omega)
 ·cases h
theorem aQn (t:List UInt8) (i:Nat) (h:i<t.length):t.drop i=t.getD i 0::t.drop (i+1):=by
 rw[List.drop_eq_getElem_cons h];simp[List.getD_eq_getElem?_getD,h]
theorem bBe (t:List UInt8) (ht:t.length≤281474976710656):∀ (n i x:Nat),x<4294967296→i≤t.length→t.length<i+n →
  (aBf aNl aAa (sg [pI,pS] [rI]) Tryz.f144 [.r,.r,.l,.r,.b] n (aN4 t x i)).eval=some [.int .i64 (aMa x (t.drop i) ^^^ 4294967295:Nat)]:=by
 intro n
 induction n with
 |zero=>intro i x hx h1 h2;omega
 |succ n ih =>
  intro i x hx h1 h2
  rw[aAi _ _ _ _ _ _ _ (by kernel_rfl),aV9]
  by_cases hi:i<t.length
  ·have hb:=aGl t i
   have e:=ih (i+1) (aMb x (t.getD i 0).toNat) (aSa _ _ hx hb) (by omega) (by omega)
   have w:IntKind.i64.wrap ((i:Int)+1)=((i+1:Nat):Int):=by rw[aAd]<;>omega
   have hz:(0:Int)≤i:=by omega
   have w2:IntKind.i64.wrap ((t.getD i 0).toNat:Int)=((t.getD i 0).toNat:Int):=by rw[aAd]<;>omega
   have l1:aIv (x:Int)=x:=by unfold aIv;omega
   have l2:(((t.getD i 0).toNat:Int) % 256).toNat=(t.getD i 0).toNat:=by omega
   rw[aQn t i hi]
   simp only[aMa,List.foldl_cons]at e ⊢
   simp only[aA0,aA1,aA2,if_true,decide_eq_true_eq,Bool.and_eq_true,w,hz,Int.toNat_natCast,Int.ofNat_lt,hi,and_self,w2,l1,l2]
   exact e
  ·have:i=t.length:=by omega
   subst this
   have hx2:bEt .i64 (x:Int) 4294967295=((x ^^^ 4294967295:Nat):Int):=aMu x 4294967295 hx (by omega)
   simp[aA0,aA1,aA2,aMa,hx2]
theorem bOk:aA6 Tryz.prog aNl:=aA5 (by simp[aYb])
theorem aO9:aAn Tryz.prog 144 (sg [pI,pS] [rI]) aDx:=aA4 bOk aA7 Tryz.func144 (by kernel_rfl) fun cs outs hk h=>by
 unfold aDx at h
 split at h
 ·simp only[Option.some.injEq,Prod.mk.injEq,decide_eq_true_eq]at h
  obtain⟨h1,rfl⟩:=h
  rename_i s t
  rw[aA9,bBd]
  have hx2:bEt .i64 (aIv s:Int) 4294967295=((aIv s ^^^ 4294967295:Nat):Int):=aMu _ 4294967295 (aMs s) (by omega)
  simp only[aA0,if_true,bXt,hx2]
  exact bBe t h1 _ 0 _ (Nat.xor_lt_two_pow (n:=32) (aMs s) (by omega)) (by omega) (by omega)
 ·cases h
theorem bD1 (t:List UInt8) (ht:t.length≤281474976710656):∀ (n i x:Nat),x<4294967296→i≤t.length→t.length<i+n →
  (aBf aNu aAa (sg [pI,pS] [rI]) Tryz.f160 [.r,.r,.l,.r,.b] n (aNb t x t.length i)).eval=some [.int .i64 (aMa x (t.drop i) ^^^ 4294967295:Nat)]:=by
 intro n
 induction n with
 |zero=>intro i x hx h1 h2;omega
 |succ n ih =>
  intro i x hx h1 h2
  rw[aAi _ _ _ _ _ _ _ (by kernel_rfl),aWb]
  by_cases hi:i<t.length
  ·have hb:=aGl t i
   have e:=ih (i+1) (aMb x (t.getD i 0).toNat) (aSa _ _ hx hb) (by omega) (by omega)
   have w:IntKind.i64.wrap ((i:Int)+1)=((i+1:Nat):Int):=by rw[aAd]<;>omega
   have hz:(0:Int)≤i:=by omega
   have hx1:(0:Int)≤x:=by omega
   have hx2:(x:Int)≤4294967295:=by omega
   have hb1:(0:Int)≤((t.getD i 0).toNat:Int):=by omega
   have hb2:((t.getD i 0).toNat:Int)≤255:=by omega
   rw[aQn t i hi]
   simp only[aMa,List.foldl_cons]at e ⊢
   simp only[aA0,aA1,aA2,if_true,decide_eq_true_eq,Bool.and_eq_true,w,hz,Int.toNat_natCast,Int.ofNat_lt,hi,and_self,hx1,hx2,hb1,hb2]
   exact e
  ·have:i=t.length:=by omega
   subst this
   have hx2:bEt .u32 (x:Int) 4294967295=((x ^^^ 4294967295:Nat):Int):=aMv x 4294967295 hx (by omega)
   have hl:x ^^^ 4294967295<4294967296:=Nat.xor_lt_two_pow (n:=32) hx (by omega)
   have w:IntKind.i64.wrap ((x ^^^ 4294967295:Nat):Int)=((x ^^^ 4294967295:Nat):Int):=by rw[aAd]<;>omega
   simp[aA0,aA1,aA2,aMa,hx2,w]
theorem bPv:aA6 Tryz.prog aNu:=aA5 (by simp[aTi])
theorem aOf:aAn Tryz.prog 160 (sg [pI,pS] [rI]) aDx:=aA4 bPv aA7 Tryz.func160 (by kernel_rfl) fun cs outs hk h=>by
 unfold aDx at h
 split at h
 ·simp only[Option.some.injEq,Prod.mk.injEq,decide_eq_true_eq]at h
  obtain⟨h1,rfl⟩:=h
  rename_i s t
  rw[aA9,bD0]
  have hx2:bEt .u32 (aIv s:Int) 4294967295=((aIv s ^^^ 4294967295:Nat):Int):=aMv _ 4294967295 (aMs s) (by omega)
  simp only[aA0,if_true,bIo,hx2]
  exact bD1 t h1 _ 0 _ (Nat.xor_lt_two_pow (n:=32) (aMs s) (by omega)) (by omega) (by omega)
 ·cases h
theorem bVa:aA6 Tryz.prog bNm:=aA5 (by simp[aO9])
theorem aHs:aAn Tryz.prog 151 (sg [pS] [rI]) aDk:=aA4 bVa aA7 Tryz.func151 (by kernel_rfl) fun cs outs hk h=>by
 unfold aDk at h
 split at h
 ·simp only[Option.some.injEq,Prod.mk.injEq,decide_eq_true_eq]at h
  obtain⟨h1,rfl⟩:=h
  rw[aA9,bJ3]
  simp[aA0,aA2,h1]
  rfl
 ·cases h
theorem bWj:aA6 Tryz.prog bNu:=aA5 (by simp[aOf])
theorem aHx:aAn Tryz.prog 181 (sg [pS] [rI]) aDk:=aA4 bWj aA7 Tryz.func181 (by kernel_rfl) fun cs outs hk h=>by
 unfold aDk at h
 split at h
 ·simp only[Option.some.injEq,Prod.mk.injEq,decide_eq_true_eq]at h
  obtain⟨h1,rfl⟩:=h
  rw[aA9,bL1]
  simp[aA0,aA2,h1]
  rfl
 ·cases h
noncomputable section
def aCh:aC3:=fun cs=>match cs with
 |[.int .i64 n]=>some (true,[.bool (inB n 0 1000000000)])
 |_=>none
def aXu:Env:=mkE [] [(78,(sg [pI,pI,pI] [rB]),aE3)]
def aCg:Nat→Nat→List UInt8
 |0,_=>[]
 |k+1,n=>UInt8.ofNat (n % 256)::aCg k (n / 256)
def aAh (n w:Int):List UInt8:=if 0≤n∧1≤w∧w≤8∧n.toNat<256^w.toNat then aCg w.toNat n.toNat else[]
def aHf:List UInt8→Nat
 |[]=>0
 |c::t=>c.toNat+256*aHf t
def aDn (b:List UInt8) (at' w:Int):Nat:=aHf ((b.drop at'.toNat).take w.toNat)
def aD4 (b:List UInt8) (at' w:Int):Bool:=decide (1≤w∧w≤8∧0≤at'∧at'≤b.length-w∧aDn b at' w<9223372036854775808)
def aAo (b:List UInt8) (at' w:Int):Int:=if aD4 b at' w then (aDn b at' w:Int)else 0
def aFj:aC3:=fun cs=>match cs with
 |[.int .i64 n,.int .i64 w]=>some (decide (-9223372036854775808≤n)&&decide (n≤9223372036854775807),[.str (aAh n w)])
 |_=>none
def aDy:aC3:=fun cs=>match cs with
 |[.str b,.int .i64 a,.int .i64 w]=>some (decide (b.length≤281474976710656)&&(decide (-9223372036854775808≤a)&&decide (a≤9223372036854775807)),[.int .i64 (aAo b a w),.bool (aD4 b a w)])
 |_=>none
def aNp:Env:=mkE [(5,[0,1,5,6])] [(53,(sg [pI,pI,pI] [rB]),aE3)]
def aNx:Env:=mkE [(5,[0,5,28,29])] [(78,(sg [pI,pI,pI] [rB]),aE3)]
def aNo:Env:=mkE [(7,[0,1,8,9])] [(53,(sg [pI,pI,pI] [rB]),aE3)]
def aNw:Env:=mkE [(5,[0,1,8,22,23])] [(78,(sg [pI,pI,pI] [rB]),aE3)]
def aN6 (n w:Int) (m:Nat) (r:List (List C)) (i:Int):St:=st1 [(0,aAw n),(1,aAw w),(5,.l (.ref 0 0 m)),(6,aAw i)] 1 r
def aJb (n:Int) (m:Nat) (r:List (List C)) (e i:Int):St:=st1 [(0,aAw n),(5,.l (.ref 0 0 m)),(28,aAw e),(29,aAw i)] 1 r
def aJa (b:List UInt8) (a n i:Int):St:=st0 [(0,bEp b),(1,aAw a),(8,aAw n),(9,aAw i)]
def aNd (b:List UInt8) (a n e i:Int):St:=st0 [(0,bEp b),(1,aAw a),(8,aAw n),(22,aAw e),(23,aAw i)]
end
theorem aZ9 (H:List Pt→Nat→St→T (List C)) (n:Int):aAg aXu aAa (sg [pI] [rB]) Tryz.f97 H [C.int .i64 n]=(.must true (.must true (.must true (.must true (.ask (inB n 0 1000000000) (.must true (.ret [C.bool true])) (.must true (.ret [C.bool false]))))))):=by kernel_rfl
theorem bBw (H:List Pt→Nat→St→T (List C)) (n:Int) (w:Int):aAg aNp aAa (sg [pI,pI] [rS]) Tryz.f145 H [C.int .i64 n,C.int .i64 w]=(.must true (.ask (decide (n<(0:Int))) (.must true (.ret [C.str []])) (.must true (.must true (.must true (.ask (inB w 1 8) (H [Pt.r,Pt.r,Pt.r,Pt.l,Pt.r,Pt.b] 9223372036854775808 (aN6 (n) (w) (0) ([]) ((0:Int)))) (.must true (.ret [C.str []])))))))):=by kernel_rfl
theorem aVp (H:List Pt→Nat→St→T (List C)) (n:Int) (w:Int) (q:Nat) (r:List (List C)) (i:Int) (k:Nat):aB1 aNp aAa (sg [pI,pI] [rS]) Tryz.f145 H [Pt.r,Pt.r,Pt.r,Pt.l,Pt.r,Pt.b] k (aN6 n w q r i)=(.ask (decide (i<w)) (.must (decide (q=r.length)&&aBb (r.length+1) 1&&(decide (1=1)&&true)) (.must true (H [Pt.r,Pt.r,Pt.r,Pt.l,Pt.r,Pt.b] k (aN6 (aL3 .i64 n 8) (w) (r.length+1) (r.append [[C.int .u8 (IntKind.u8.wrap n)]]) (IntKind.i64.wrap (i+(1:Int))))))) (.ask (decide ((0:Int)<n)) (.must true (.ret [C.str []])) (.must ((List.take q r).all aFy) (.must true (.ret [C.str (aCo (List.take q r))]))))):=by kernel_rfl
theorem bDf (H:List Pt→Nat→St→T (List C)) (n:Int) (w:Int):aAg aNx aAa (sg [pI,pI] [rS]) Tryz.f161 H [C.int .i64 n,C.int .i64 w]=(.must true (.ask (decide (n<(0:Int))) (.must true (.ret [C.str []])) (.must true (.must true (.must true (.ask (inB w 1 8) (.ask (decide (w<(8:Int))) (.must (decide ((0:Int)≤IntKind.i64.wrap ((8:Int)*w))) (.ask (aL3 .i64 n (IntKind.i64.wrap ((8:Int)*w)) != (0:Int)) (.must true (.ret [C.str []])) (.must (decide ((0:Int)≤w)&&decide (w≤w)&&decide ((↑(1:Nat):Int)*w≤(281474976710656:Int))) (H [Pt.r,Pt.r,Pt.r,Pt.l,Pt.r,Pt.b] 9223372036854775808 (aJb (n) (w.toNat) (List.replicate w.toNat [C.int .u8 0]) ((↑w.toNat:Int)) ((0:Int))))))) (.must (decide ((0:Int)≤w)&&decide (w≤w)&&decide ((↑(1:Nat):Int)*w≤(281474976710656:Int))) (H [Pt.r,Pt.r,Pt.r,Pt.l,Pt.r,Pt.b] 9223372036854775808 (aJb (n) (w.toNat) (List.replicate w.toNat [C.int .u8 0]) ((↑w.toNat:Int)) ((0:Int)))))) (.must true (.ret [C.str []])))))))):=by kernel_rfl
theorem aWn (H:List Pt→Nat→St→T (List C)) (n:Int) (q:Nat) (r:List (List C)) (e:Int) (i:Int) (k:Nat):aB1 aNx aAa (sg [pI,pI] [rS]) Tryz.f161 H [Pt.r,Pt.r,Pt.r,Pt.l,Pt.r,Pt.b] k (aJb n q r e i)=(.ask (decide (i<e)) (.must (decide ((0:Int)≤IntKind.i64.wrap ((8:Int)*i))) (.must (decide ((0:Int)≤i)&&decide (i<(↑q:Int))) (.must (decide (0+i.toNat<r.length)) (H [Pt.r,Pt.r,Pt.r,Pt.l,Pt.r,Pt.b] k (aJb (n) (q) (r.set (0+i.toNat) (C.int .u8 (IntKind.u8.wrap (aL3 .i64 n (IntKind.i64.wrap ((8:Int)*i))))::List.drop (0+1) (r.getD (0+i.toNat) []))) (e) (IntKind.i64.wrap (i+(1:Int)))))))) (.must ((List.take q r).all aFy) (.must true (.ret [C.str (aCo (List.take q r))])))):=by kernel_rfl
theorem bBk (H:List Pt→Nat→St→T (List C)) (b:List UInt8) (a:Int) (w:Int):aAg aNo aAa (sg [pS,pI,pI] [rI,rB]) Tryz.f148 H [C.str b,C.int .i64 a,C.int .i64 w]=(.must true (.must true (.must true (.must true (.ask (inB w 1 8) (.must true (.must true (.must true (.ask (inB a 0 (IntKind.i64.wrap ((↑b.length:Int)-w))) (.ask (decide (w=(8:Int))) (.must (decide ((0:Int)≤IntKind.i64.wrap (a+(7:Int)))&&decide (IntKind.i64.wrap (a+(7:Int))<(↑b.length:Int))) (.ask (decide ((127:Int)<(↑(b.getD (IntKind.i64.wrap (a+(7:Int))).toNat (0:UInt8)).toNat:Int))) (.must true (.ret [C.int .i64 0,C.bool false])) (H [Pt.r,Pt.r,Pt.r,Pt.r,Pt.l,Pt.r,Pt.b] 9223372036854775808 (aJa (b) (a) ((0:Int)) (IntKind.i64.wrap (w-(1:Int))))))) (H [Pt.r,Pt.r,Pt.r,Pt.r,Pt.l,Pt.r,Pt.b] 9223372036854775808 (aJa (b) (a) ((0:Int)) (IntKind.i64.wrap (w-(1:Int)))))) (.must true (.ret [C.int .i64 0,C.bool false])))))) (.must true (.ret [C.int .i64 0,C.bool false]))))))):=by kernel_rfl
theorem aVg (H:List Pt→Nat→St→T (List C)) (b:List UInt8) (a:Int) (n:Int) (i:Int) (k:Nat):aB1 aNo aAa (sg [pS,pI,pI] [rI,rB]) Tryz.f148 H [Pt.r,Pt.r,Pt.r,Pt.r,Pt.l,Pt.r,Pt.b] k (aJa b a n i)=(.ask (decide ((0:Int)≤i)) (.must true (.must (decide ((0:Int)≤IntKind.i64.wrap (a+i))&&decide (IntKind.i64.wrap (a+i)<(↑b.length:Int))) (H [Pt.r,Pt.r,Pt.r,Pt.r,Pt.l,Pt.r,Pt.b] k (aJa (b) (a) (ior .i64 (aXw .i64 n 8) (IntKind.i64.wrap (↑(b.getD (IntKind.i64.wrap (a+i)).toNat (0:UInt8)).toNat:Int))) (IntKind.i64.wrap (i-(1:Int))))))) (.must true (.ret [C.int .i64 n,C.bool true]))):=by kernel_rfl
theorem bD5 (H:List Pt→Nat→St→T (List C)) (b:List UInt8) (a:Int) (w:Int):aAg aNw aAa (sg [pS,pI,pI] [rI,rB]) Tryz.f156 H [C.str b,C.int .i64 a,C.int .i64 w]=(.must true (.must true (.must true (.must true (.ask (inB w 1 8) (.must true (.must true (.must true (.ask (inB a 0 (IntKind.i64.wrap ((↑b.length:Int)-w))) (H [Pt.r,Pt.r,Pt.r,Pt.l,Pt.r,Pt.b] 9223372036854775808 (aNd (b) (a) ((0:Int)) (w) ((0:Int)))) (.must true (.ret [C.int .i64 0,C.bool false])))))) (.must true (.ret [C.int .i64 0,C.bool false]))))))):=by kernel_rfl
theorem aWh (H:List Pt→Nat→St→T (List C)) (b:List UInt8) (a:Int) (n:Int) (e:Int) (i:Int) (k:Nat):aB1 aNw aAa (sg [pS,pI,pI] [rI,rB]) Tryz.f156 H [Pt.r,Pt.r,Pt.r,Pt.l,Pt.r,Pt.b] k (aNd b a n e i)=(.ask (decide (i<e)) (.must (decide ((0:Int)≤IntKind.i64.wrap (a+i))&&decide (IntKind.i64.wrap (a+i)<(↑b.length:Int))) (.must (decide ((0:Int)≤IntKind.i64.wrap ((8:Int)*i))) (H [Pt.r,Pt.r,Pt.r,Pt.l,Pt.r,Pt.b] k (aNd (b) (a) (ior .i64 n (aXw .i64 (IntKind.i64.wrap (↑(b.getD (IntKind.i64.wrap (a+i)).toNat (0:UInt8)).toNat:Int)) (IntKind.i64.wrap ((8:Int)*i)))) (e) (IntKind.i64.wrap (i+(1:Int))))))) (.ask (decide (n<(0:Int))) (.must true (.ret [C.int .i64 0,C.bool false])) (.must true (.ret [C.int .i64 n,C.bool true])))):=by kernel_rfl
theorem bLh:aA6 Tryz.prog aXu:=aA5 (by simp[aIy])
theorem aC6:aAn Tryz.prog 97 (sg [pI] [rB]) aCh:=aA4 bLh aA7 Tryz.func97 (by kernel_rfl) fun cs outs hk h=>by
 unfold aCh at h
 split at h
 ·simp only[Option.some.injEq,Prod.mk.injEq,true_and]at h
  rw[←h,aA9,aZ9]
  rename_i n
  by_cases hb:inB n 0 1000000000=true<;>simp[aA0,aA1,aA2,hb]
 ·cases h
theorem cAv (x:Int) (k:Nat) (hk:k<64):aL3 .i64 x (k:Int)=x / 2^k:=by
 show x.fdiv (2^(min ((k:Int).toNat) 64))=_
 have:min ((k:Int).toNat) 64=k:=by omega
 rw[this,Int.fdiv_eq_ediv_of_nonneg]
 exact Int.pow_nonneg (by omega)
theorem aH4 (x k:Nat) (hk:k<64):aL3 .i64 (x:Int) (k:Int)=((x / 2^k:Nat):Int):=by
 rw[cAv _ _ hk]
 simp
theorem aR9 (x:Int):IntKind.u8.wrap x=x % 256:=by
 simp only[IntKind.wrap,IntKind.bits,IntKind.signed]
 simp
theorem aVw (i:Nat):(2:Nat)^(8*i)=256^i:=by rw[Nat.pow_mul]
theorem aC4:∀ (k n:Nat),(aCg k n).length=k
 |0,_=>rfl
 |k+1,n=>by simp[aCg,aC4 k]
theorem aLu:∀ (k n:Nat),aCg (k+1) n=aCg k n++[UInt8.ofNat (n / 256^k % 256)]
 |0,n=>by simp[aCg]
 |k+1,n=>by
  rw[aCg,aLu k (n / 256)]
  simp only[aCg,List.cons_append]
  rw[Nat.div_div_eq_div_mul,Nat.pow_succ,Nat.mul_comm 256 (256^k)]
theorem aBg (n a b:Int):inB n a b=true↔a≤n∧n≤b:=by simp[inB]
theorem bBx (n0 w:Nat) (hw:w≤8) (hn:n0≤9223372036854775807):∀ (n i:Nat),i≤w→w<i+n →
  (aBf aNp aAa (sg [pI,pI] [rS]) Tryz.f145 [.r,.r,.r,.l,.r,.b] n (aN6 (n0 / 256^i:Nat) w i (aAb (aCg i n0)) i)).eval=some [.str (if n0<256^w then aCg w n0 else[])]:=by
 intro n
 induction n with
 |zero=>intro i h1 h2;omega
 |succ n ih =>
  intro i h1 h2
  rw[aAi _ _ _ _ _ _ _ (by kernel_rfl),aVp]
  by_cases hi:i<w
  ·have e:=ih (i+1) (by omega) (by omega)
   have w1:IntKind.i64.wrap ((i:Int)+1)=((i+1:Nat):Int):=by rw[aAd]<;>omega
   have hi':(i:Int)<w:=by omega
   have hr:aBb (i+1) 1=true:=by simp only[aBb,decide_eq_true_eq];omega
   have d:aL3 .i64 ((n0 / 256^i:Nat):Int) 8=((n0 / 256^(i+1):Nat):Int):=by
    have:=aH4 (n0 / 256^i) 8 (by omega)
    rw[show ((8:Nat):Int)=8 from rfl]at this
    rw[this,Nat.div_div_eq_div_mul,show (2:Nat)^8=256 from rfl,←Nat.pow_succ]
   have u:IntKind.u8.wrap ((n0 / 256^i:Nat):Int)=((n0 / 256^i % 256:Nat):Int):=by rw[aR9];omega
   have ro:[[C.int .u8 ((n0 / 256^i % 256:Nat):Int)]]=aAb [UInt8.ofNat (n0 / 256^i % 256)]:=by
    have:=bMs ((n0 / 256^i % 256:Nat):Int) (by omega) (by omega)
    rw[Int.toNat_natCast]at this
    exact this
   rw[aLu,←aG4,←ro]at e
   simp only[aA0,aA1,aA2,if_true,decide_eq_true_eq,Bool.and_eq_true,w1,hi',aBa,aC4,hr,d,u,and_self,List.append_eq]
   exact e
  ·have:i=w:=by omega
   subst this
   have hlt:¬((i:Int)<i):=by omega
   have z:(0:Int)<((n0 / 256^i:Nat):Int)↔¬n0<256^i:=by
    have hp:(256:Nat)^i≠0:=Nat.pos_iff_ne_zero.1 (Nat.pow_pos (by omega))
    have h0:n0 / 256^i=0↔n0<256^i:=by
     rw[Nat.div_eq_zero_iff]
     exact⟨fun h=>h.resolve_left hp,.inr⟩
    rw[←h0]
    generalize n0 / 256^i=y
    omega
   have tk:(aAb (aCg i n0)).take i=aAb (aCg i n0):=List.take_of_length_le (by rw[aBa,aC4];omega)
   simp only[aA0,aA1,aA2,if_true,decide_eq_true_eq,hlt,if_false,z,tk,aE9,aGr]
   by_cases hc:n0<256^i<;>simp[hc]
theorem bDt (n w:Int) (h:¬(0≤n∧1≤w∧w≤8)):aAh n w=[]:=by
 unfold aAh;rw[if_neg (fun h'=>h ⟨h'.1,h'.2.1,h'.2.2.1⟩)]
theorem bDs (n w:Nat) (h1:1≤w) (h2:w≤8):aAh n w=if n<256^w then aCg w n else[]:=by
 unfold aAh
 simp only[Int.toNat_natCast]
 by_cases h:n<256^w
 ·rw[if_pos ⟨by omega,by omega,by omega,h⟩,if_pos h]
 ·rw[if_neg (fun h'=>h h'.2.2.2),if_neg h]
theorem bOx:aA6 Tryz.prog aNp:=aA5 (by simp[aD9])
theorem aEh:aAn Tryz.prog 145 (sg [pI,pI] [rS]) aFj:=aA4 bOx aA7 Tryz.func145 (by kernel_rfl) fun cs outs hk h=>by
 unfold aFj at h
 split at h
 ·simp only[Option.some.injEq,Prod.mk.injEq,Bool.and_eq_true,decide_eq_true_eq]at h
  obtain⟨⟨h1,h2⟩,rfl⟩:=h
  rename_i n w
  rw[aA9,bBw]
  by_cases hn:n<0
  ·simp[aA0,aA1,aA2,hn,bDt n w (by omega)]
  ·by_cases hw:inB w 1 8=true
   ·have hw':=(aBg _ _ _).1 hw
    obtain⟨n,rfl⟩:=Int.eq_ofNat_of_zero_le (show 0≤n by omega)
    obtain⟨w,rfl⟩:=Int.eq_ofNat_of_zero_le (show 0≤w by omega)
    have:=bBx n w (by omega) (by omega) 9223372036854775808 0 (by omega) (by omega)
    rw[←bDs n w (by omega) (by omega)]at this
    simp only[aA0,aA1,if_true,hn,decide_false,Bool.false_eq_true,if_false,hw,Bool.not_true]
    simpa[aCg,aAb]using this
   ·have:¬(1≤w∧w≤8):=fun h=>hw ((aBg _ _ _).2 h)
    simp[aA0,aA1,aA2,hn,hw,bDt n w (by omega)]
 ·cases h
theorem bDg (n0 w:Nat) (hw:w≤8) (hn:n0≤9223372036854775807):∀ (n i:Nat),i≤w→w<i+n →
  (aBf aNx aAa (sg [pI,pI] [rS]) Tryz.f161 [.r,.r,.r,.l,.r,.b] n (aJb n0 w (aAb (aCg i n0++List.replicate (w-i) 0)) w i)).eval=some [.str (aCg w n0)]:=by
 intro n
 induction n with
 |zero=>intro i h1 h2;omega
 |succ n ih =>
  intro i h1 h2
  rw[aAi _ _ _ _ _ _ _ (by kernel_rfl),aWn]
  by_cases hi:i<w
  ·have e:=ih (i+1) (by omega) (by omega)
   have w1:IntKind.i64.wrap ((i:Int)+1)=((i+1:Nat):Int):=by rw[aAd]<;>omega
   have w2:IntKind.i64.wrap (8*(i:Int))=((8*i:Nat):Int):=by rw[aAd]<;>omega
   have hi':(i:Int)<w:=by omega
   have hz:(0:Int)≤i:=by omega
   have hz8:(0:Int)≤((8*i:Nat):Int):=by omega
   have d:aL3 .i64 (n0:Int) ((8*i:Nat):Int)=((n0 / 256^i:Nat):Int):=by rw[aH4 _ _ (by omega),aVw]
   have u:IntKind.u8.wrap ((n0 / 256^i:Nat):Int)=((n0 / 256^i % 256:Nat):Int):=by rw[aR9];omega
   have hlen:(aCg i n0++List.replicate (w-i) (0:UInt8)).length=w:=by simp[aC4];omega
   have g:=bC0 (aCg i n0++List.replicate (w-i) 0) i (by omega)
   have sset:=bMq (aCg i n0++List.replicate (w-i) 0) i ((n0 / 256^i % 256:Nat):Int) (by omega) (by omega)
   have sl:(aCg i n0++List.replicate (w-i) (0:UInt8)).set i (UInt8.ofNat (((n0 / 256^i % 256:Nat):Int)).toNat)=aCg (i+1) n0++List.replicate (w-(i+1)) 0:=by
    obtain⟨m,hm⟩:∃ m,w-i=m+1:=⟨w-i-1,by omega⟩
    have hm2:w-(i+1)=m:=by omega
    rw[List.set_append_right _ _ (by rw[aC4];omega),aC4,Nat.sub_self,hm,hm2,List.replicate_succ,List.set_cons_zero,aLu,Int.toNat_natCast,List.append_assoc]
    rfl
   rw[sl]at sset
   simp only[aA0,aA1,aA2,if_true,decide_eq_true_eq,Bool.and_eq_true,w1,w2,hi',hz,hz8,d,u,aBa,hlen,Int.toNat_natCast,Nat.zero_add,hi,and_self,g,List.drop_succ_cons,List.drop_zero,sset]
   exact e
  ·have:i=w:=by omega
   subst this
   have hlt:¬((i:Int)<i):=by omega
   have tk:(aAb (aCg i n0)).take i=aAb (aCg i n0):=List.take_of_length_le (by rw[aBa,aC4];omega)
   simp only[aA0,aA1,aA2,if_true,decide_eq_true_eq,hlt,if_false,Nat.sub_self,List.replicate_zero,List.append_nil,tk,aE9,aGr]
theorem bQ5:aA6 Tryz.prog aNx:=aA5 (by simp[aIy])
theorem aEj:aAn Tryz.prog 161 (sg [pI,pI] [rS]) aFj:=aA4 bQ5 aA7 Tryz.func161 (by kernel_rfl) fun cs outs hk h=>by
 unfold aFj at h
 split at h
 ·simp only[Option.some.injEq,Prod.mk.injEq,Bool.and_eq_true,decide_eq_true_eq]at h
  obtain⟨⟨h1,h2⟩,rfl⟩:=h
  rename_i n w
  rw[aA9,bDf]
  by_cases hn:n<0
  ·simp[aA0,aA1,aA2,hn,bDt n w (by omega)]
  ·by_cases hw:inB w 1 8=true
   ·have hw':=(aBg _ _ _).1 hw
    obtain⟨n,rfl⟩:=Int.eq_ofNat_of_zero_le (show 0≤n by omega)
    obtain⟨w,rfl⟩:=Int.eq_ofNat_of_zero_le (show 0≤w by omega)
    have lp:=bDg n w (by omega) (by omega) 9223372036854775808 0 (by omega) (by omega)
    have rp:aAb (aCg 0 n++List.replicate (w-0) 0)=List.replicate w [C.int .u8 0]:=by simp[aCg,aAb]
    rw[rp]at lp
    have w2:IntKind.i64.wrap (8*(w:Int))=((8*w:Nat):Int):=by rw[aAd]<;>omega
    have hz8:(0:Int)≤((8*w:Nat):Int):=by omega
    have c1:(0:Int)≤w:=by omega
    have c2:((1:Nat):Int)*(w:Int)≤281474976710656:=by omega
    rw[bDs n w (by omega) (by omega)]
    simp only[aA0,aA1,aA2,if_true,hn,decide_false,Bool.false_eq_true,if_false,hw,Bool.not_true,w2,hz8,decide_true,decide_eq_true_eq,Bool.and_eq_true,c1,c2,Int.le_refl,and_self,Int.toNat_natCast]
    by_cases h8:(w:Int)<8
    ·have d:aL3 .i64 (n:Int) ((8*w:Nat):Int)=((n / 256^w:Nat):Int):=by rw[aH4 _ _ (by omega),aVw]
     have z:n / 256^w=0↔n<256^w:=by
      have hp:(256:Nat)^w≠0:=Nat.pos_iff_ne_zero.1 (Nat.pow_pos (by omega))
      rw[Nat.div_eq_zero_iff]
      exact⟨fun h=>h.resolve_left hp,.inr⟩
     simp only[h8,if_true,d,bne_iff_ne,ne_eq,Int.natCast_eq_zero,z]
     by_cases hc:n<256^w
     ·simp only[hc,not_true_eq_false,if_false,if_true];exact lp
     ·simp only[hc,not_false_eq_true,if_true,if_false]
    ·have:w=8:=by omega
     subst this
     have hc:n<256^8:=by omega
     simp only[h8,if_false,hc,if_true]
     exact lp
   ·have:¬(1≤w∧w≤8):=fun h=>hw ((aBg _ _ _).2 h)
    simp[aA0,aA1,aA2,hn,hw,bDt n w (by omega)]
 ·cases h
theorem aQ9:∀ l:List UInt8,aHf l<256^l.length
 |[]=>by simp[aHf]
 |c::t=>by
  have:=aQ9 t
  have hc:=c.toNat_lt
  simp only[aHf,List.length_cons,Nat.pow_succ]
  omega
theorem aLt:∀ (l:List UInt8) (c:UInt8),aHf (l++[c])=aHf l+c.toNat*256^l.length
 |[],c=>by simp[aHf]
 |x::t,c=>by
  simp only[List.cons_append,aHf,aLt t c,List.length_cons,Nat.pow_succ]
  rw[Nat.mul_add,←Nat.add_assoc,Nat.mul_left_comm,Nat.mul_comm 256 (256^t.length)]
theorem aQa:∀ (j:Nat) (l:List UInt8),aHf (l.drop j)≤aHf l
 |0,l=>by simp
 |j+1,[]=>by simp
 |j+1,c::t=>by
  have:=aQa j t
  simp only[List.drop_succ_cons,aHf]
  omega
theorem aQb (n c k:Nat) (hk:n<2^k) (h:n+c*2^k<18446744073709551616) (x y:Int) (hx:(x % 18446744073709551616).toNat=n) (hy:(y % 18446744073709551616).toNat=c*2^k) :
  ior .i64 x y=IntKind.i64.wrap ((n+c*2^k:Nat):Int):=by
 show IntKind.i64.wrap (((BitVec.ofInt 64 x|||BitVec.ofInt 64 y).toNat:Nat):Int)=_
 rw[BitVec.toNat_or]
 have h1:(BitVec.ofInt 64 x).toNat=n:=by rw[←hx];simp[BitVec.toNat_ofInt]
 have h2:(BitVec.ofInt 64 y).toNat=c*2^k:=by rw[←hy];simp[BitVec.toNat_ofInt]
 rw[h1,h2,←Nat.shiftLeft_eq,Nat.or_comm,←Nat.shiftLeft_add_eq_or_of_lt hk,Nat.add_comm]
theorem aZk (x:Int):IntKind.i64.wrap x % 18446744073709551616=x % 18446744073709551616:=by
 simp only[IntKind.wrap,IntKind.bits,IntKind.signed]
 first
  |(split<;>omega)
  |(simp;split<;>omega)
theorem aRv (x:Int) (k:Nat) (hk:k<64):aXw .i64 x (k:Int) % 18446744073709551616=x*2^k % 18446744073709551616:=by
 show IntKind.i64.wrap (x*2^(min ((k:Int).toNat) 64)) % 18446744073709551616=_
 have:min ((k:Int).toNat) 64=k:=by omega
 rw[this,aZk]
theorem bBl (b:List UInt8) (a w:Nat) (hb:a+w≤b.length) (hbl:b.length≤281474976710656) (hw:w≤8) (hv:aDn b a w<9223372036854775808):∀ (n j:Nat),j≤w→j<n →
  (aBf aNo aAa (sg [pS,pI,pI] [rI,rB]) Tryz.f148 [.r,.r,.r,.r,.l,.r,.b] n (aJa b a (aHf (((b.drop a).take w).drop j):Nat) ((j:Int)-1))).eval=some [.int .i64 (aDn b a w:Nat),.bool true]:=by
 intro n
 induction n with
 |zero=>intro j h1 h2;omega
 |succ n ih =>
  intro j h1 h2
  rw[aAi _ _ _ _ _ _ _ (by kernel_rfl),aVg]
  cases j with
  |zero =>
   have:¬((0:Int)≤((0:Nat):Int)-1):=by omega
   simp only[aA0,aA1,aA2,decide_eq_true_eq,this,if_false,if_true]
   simp[aDn]
  |succ i =>
   have e:=ih i (by omega) (by omega)
   have hl:((b.drop a).take w).length=w:=by simp;omega
   have hg:((b.drop a).take w).getD i 0=b.getD (a+i) 0:=by
    simp[List.getD_eq_getElem?_getD,List.getElem?_take,List.getElem?_drop,show i<w by omega]
   rw[aQn _ i (by omega),hg]at e
   have hle:aHf (((b.drop a).take w).drop i)≤aDn b a w:=by
    have:=aQa i ((b.drop a).take w)
    simpa[aDn]using this
   rw[aQn _ i (by omega),hg]at hle
   simp only[aHf]at e hle
   generalize aHf (((b.drop a).take w).drop (i+1))=y at e hle
   have hc:=aGl b (a+i)
   have w1:IntKind.i64.wrap ((((i+1:Nat):Int)-1)-1)=(i:Int)-1:=by rw[aAd]<;>omega
   have w2:IntKind.i64.wrap ((a:Int)+(((i+1:Nat):Int)-1))=((a+i:Nat):Int):=by rw[aAd]<;>omega
   have w3:IntKind.i64.wrap ((b.getD (a+i) 0).toNat:Int)=((b.getD (a+i) 0).toNat:Int):=by rw[aAd]<;>omega
   have z1:(0:Int)≤((i+1:Nat):Int)-1:=by omega
   have z2:(0:Int)≤((a+i:Nat):Int):=by omega
   have z3:a+i<b.length:=by omega
   have hm:=aRv (y:Int) 8 (by omega)
   rw[show ((8:Nat):Int)=8 from rfl]at hm
   have ho:ior .i64 (aXw .i64 (y:Int) 8) ((b.getD (a+i) 0).toNat:Int)=(((b.getD (a+i) 0).toNat+256*y:Nat):Int):=by
    have:=aQb (b.getD (a+i) 0).toNat y 8 (by omega) (by omega) ((b.getD (a+i) 0).toNat:Int) (aXw .i64 (y:Int) 8) (by omega) (by rw[hm];omega)
    rw[aAd (by omega) (by omega)]at this
    have hcomm:ior .i64 (aXw .i64 (y:Int) 8) ((b.getD (a+i) 0).toNat:Int)=ior .i64 ((b.getD (a+i) 0).toNat:Int) (aXw .i64 (y:Int) 8):=by
     unfold ior;rw[BitVec.or_comm]
    rw[hcomm,this]
    omega
   simp only[aA0,aA1,aA2,decide_eq_true_eq,Bool.and_eq_true,if_true,w1,w2,z1,z2,Int.toNat_natCast,Int.ofNat_lt,z3,w3,ho,and_self]
   exact e
theorem bQa (b:List UInt8) (a:Nat) (hb:a+8≤b.length):aDn b a (8:Int)=aHf ((b.drop a).take 7)+(b.getD (a+7) 0).toNat*72057594037927936∧aHf ((b.drop a).take 7)<72057594037927936:=by
 have hl:((b.drop a).take 7).length=7:=by simp;omega
 have e:(b.drop a).take 8=(b.drop a).take 7++[b.getD (a+7) 0]:=by
  rw[List.take_add_one]
  simp[List.getElem?_drop,List.getD_eq_getElem?_getD,show a+7<b.length by omega]
 have h1:=aLt ((b.drop a).take 7) (b.getD (a+7) 0)
 have h2:=aQ9 ((b.drop a).take 7)
 rw[hl]at h1 h2
 refine⟨?_,h2⟩
 show aHf ((b.drop (a:Int).toNat).take (8:Int).toNat)=_
 rw[Int.toNat_natCast,show (8:Int).toNat=8 from rfl,e,h1]
theorem bHh (b:List UInt8) (a w:Nat) (hw:w≤7):aDn b a w<72057594037927936:=by
 have h:=aQ9 ((b.drop a).take w)
 have hl:((b.drop a).take w).length≤w:=by simp;omega
 have:256^((b.drop a).take w).length≤256^7:=Nat.pow_le_pow_right (by omega) (by omega)
 show aHf ((b.drop (a:Int).toNat).take (w:Int).toNat)<_
 simp only[Int.toNat_natCast]
 omega
theorem aJ5 (b:List UInt8) (a w:Int):aD4 b a w=true↔(1≤w∧w≤8∧0≤a∧a≤b.length-w∧aDn b a w<9223372036854775808):=by simp[aD4]
theorem bOr:aA6 Tryz.prog aNo:=aA5 (by simp[aD9])
theorem aOa:aAn Tryz.prog 148 (sg [pS,pI,pI] [rI,rB]) aDy:=aA4 bOr aA7 Tryz.func148 (by kernel_rfl) fun cs outs hk h=>by
 unfold aDy at h
 split at h
 ·simp only[Option.some.injEq,Prod.mk.injEq,Bool.and_eq_true,decide_eq_true_eq]at h
  obtain⟨⟨h1,h2,h3⟩,rfl⟩:=h
  rename_i b a w
  rw[aA9,bBk]
  have bad:¬(1≤w∧w≤8∧0≤a∧a≤b.length-w∧aDn b a w<9223372036854775808)→aAo b a w=0∧aD4 b a w=false:=fun h=>by
   have:aD4 b a w=false:=by
    cases hh:aD4 b a w with
    |true=>exact absurd ((aJ5 b a w).1 hh) h
    |false=>rfl
   exact⟨by unfold aAo;rw[this];rfl,this⟩
  by_cases hw:inB w 1 8=true
  ·have hw':=(aBg _ _ _).1 hw
   have wr:IntKind.i64.wrap ((b.length:Int)-w)=b.length-w:=by rw[aAd]<;>omega
   by_cases ha:inB a 0 ((b.length:Int)-w)=true
   ·have ha':=(aBg _ _ _).1 ha
    obtain⟨a,rfl⟩:=Int.eq_ofNat_of_zero_le ha'.1
    obtain⟨w,rfl⟩:=Int.eq_ofNat_of_zero_le (show 0≤w by omega)
    have lp:=fun hv=>bBl b a w (by omega) h1 (by omega) hv 9223372036854775808 w (by omega) (by omega)
    have w1:IntKind.i64.wrap ((w:Int)-1)=(w:Int)-1:=by rw[aAd]<;>omega
    have dr:((b.drop a).take w).drop w=[]:=by
     apply List.drop_eq_nil_of_le;simp;omega
    rw[dr]at lp
    have good:aDn b a w<9223372036854775808→aAo b a w=(aDn b a w:Nat)∧aD4 b a w=true:=fun h=>by
     have:aD4 b a w=true:=(aJ5 _ _ _).2 ⟨hw'.1,hw'.2,ha'.1,ha'.2,h⟩
     exact⟨by unfold aAo;rw[this];rfl,this⟩
    by_cases h8:(w:Int)=8
    ·have h8t:((w:Int)=8)=True:=eq_true h8
     obtain⟨t1,t2⟩:=bQa b a (by omega)
     rw[←h8]at t1
     have w7:IntKind.i64.wrap ((a:Int)+7)=((a+7:Nat):Int):=by rw[aAd]<;>omega
     have z1:(0:Int)≤((a+7:Nat):Int):=by omega
     have z2:a+7<b.length:=by omega
     by_cases hc:(127:Int)<((b.getD (a+7) 0).toNat:Int)
     ·obtain⟨b1,b2⟩:=bad (fun h=>by
       have:=h.2.2.2.2
       rw[t1]at this
       omega)
      simp only[aA0,aA1,aA2,if_true,hw,wr,ha,Bool.not_true,Bool.false_eq_true,if_false,h8t,w7,z1,z2,Bool.and_eq_true,decide_eq_true_eq,Int.toNat_natCast,Int.ofNat_lt,and_self,hc,b1,b2]
     ·have hv:aDn b a w<9223372036854775808:=by rw[t1];omega
      obtain⟨b1,b2⟩:=good hv
      simp only[aA0,aA1,aA2,if_true,hw,wr,ha,Bool.not_true,Bool.false_eq_true,if_false,h8t,w7,z1,z2,Bool.and_eq_true,decide_eq_true_eq,Int.toNat_natCast,Int.ofNat_lt,and_self,hc,w1,b1,b2]
      exact lp hv
    ·have hv:aDn b a w<9223372036854775808:=by have:=bHh b a w (by omega);omega
     obtain⟨b1,b2⟩:=good hv
     simp only[aA0,aA1,aA2,if_true,hw,wr,ha,Bool.not_true,Bool.false_eq_true,if_false,h8,decide_false,w1,b1,b2]
     exact lp hv
   ·obtain⟨b1,b2⟩:=bad (fun h=>ha ((aBg _ _ _).2 ⟨h.2.2.1,h.2.2.2.1⟩))
    simp[aA0,aA1,aA2,hw,wr,ha,b1,b2]
  ·obtain⟨b1,b2⟩:=bad (fun h=>hw ((aBg _ _ _).2 ⟨h.1,h.2.1⟩))
   simp[aA0,aA1,aA2,hw,b1,b2]
 ·cases h
theorem bD6 (b:List UInt8) (a w:Nat) (hb:a+w≤b.length) (hbl:b.length≤281474976710656) (hw1:1≤w) (hw:w≤8):∀ (n i:Nat),i≤w→w<i+n →
  (aBf aNw aAa (sg [pS,pI,pI] [rI,rB]) Tryz.f156 [.r,.r,.r,.l,.r,.b] n (aNd b a (IntKind.i64.wrap (aHf ((b.drop a).take i):Nat)) w i)).eval=some [.int .i64 (aAo b a w),.bool (aD4 b a w)]:=by
 intro n
 induction n with
 |zero=>intro i h1 h2;omega
 |succ n ih =>
  intro i h1 h2
  rw[aAi _ _ _ _ _ _ _ (by kernel_rfl),aWh]
  by_cases hi:i<w
  ·have e:=ih (i+1) (by omega) (by omega)
   have hl:((b.drop a).take i).length=i:=by simp;omega
   have ee:(b.drop a).take (i+1)=(b.drop a).take i++[b.getD (a+i) 0]:=by
    rw[List.take_add_one]
    simp[List.getElem?_drop,List.getD_eq_getElem?_getD,show a+i<b.length by omega]
   rw[ee,aLt,hl]at e
   have hlt:=aQ9 ((b.drop a).take i)
   rw[hl]at hlt
   have h7:256^i≤256^7:=Nat.pow_le_pow_right (by omega) (by omega)
   generalize aHf ((b.drop a).take i)=y at e hlt
   have hc:=aGl b (a+i)
   have w1:IntKind.i64.wrap ((i:Int)+1)=((i+1:Nat):Int):=by rw[aAd]<;>omega
   have w2:IntKind.i64.wrap ((a:Int)+i)=((a+i:Nat):Int):=by rw[aAd]<;>omega
   have w3:IntKind.i64.wrap ((b.getD (a+i) 0).toNat:Int)=((b.getD (a+i) 0).toNat:Int):=by rw[aAd]<;>omega
   have w4:IntKind.i64.wrap (8*(i:Int))=((8*i:Nat):Int):=by rw[aAd]<;>omega
   have w5:IntKind.i64.wrap (y:Int)=y:=by rw[aAd]<;>omega
   have z1:(i:Int)<w:=by omega
   have z2:(0:Int)≤((a+i:Nat):Int):=by omega
   have z3:a+i<b.length:=by omega
   have z4:(0:Int)≤((8*i:Nat):Int):=by omega
   have hm:=aRv ((b.getD (a+i) 0).toNat:Int) (8*i) (by omega)
   have hpow:(b.getD (a+i) 0).toNat*256^i≤255*256^i:=Nat.mul_le_mul_right _ (by omega)
   have hp2:((b.getD (a+i) 0).toNat:Int)*2^(8*i)=(((b.getD (a+i) 0).toNat*256^i:Nat):Int):=by
    rw[←aVw];simp
   rw[hp2]at hm
   have ho:=aQb y (b.getD (a+i) 0).toNat (8*i) (by rw[aVw];exact hlt) (by rw[aVw];omega) (y:Int) (aXw .i64 ((b.getD (a+i) 0).toNat:Int) ((8*i:Nat):Int)) (by omega) (by rw[hm,aVw];omega)
   rw[aVw]at ho
   simp only[aA0,aA1,aA2,decide_eq_true_eq,Bool.and_eq_true,if_true,w1,w2,w3,w4,w5,z1,z2,Int.toNat_natCast,Int.ofNat_lt,z3,z4,ho,and_self,hi]
   exact e
  ·have hiw:i=w:=by omega
   subst hiw
   have hlt:¬((i:Int)<i):=by omega
   have hfv:aDn b a i=aHf ((b.drop a).take i):=by simp[aDn]
   have hl:((b.drop a).take i).length=i:=by simp;omega
   have hb8:=aQ9 ((b.drop a).take i)
   rw[hl]at hb8
   have h8:256^i≤256^8:=Nat.pow_le_pow_right (by omega) (by omega)
   rw[←hfv]at hb8 ⊢
   simp only[aA0,aA1,aA2,decide_eq_true_eq,if_true,hlt,if_false]
   by_cases hv:aDn b a i<9223372036854775808
   ·have hok:aD4 b a i=true:=(aJ5 _ _ _).2 ⟨by omega,by omega,by omega,by omega,hv⟩
    have w5:IntKind.i64.wrap ((aDn b a i:Nat):Int)=(aDn b a i:Nat):=by rw[aAd]<;>omega
    have hn:¬(((aDn b a i:Nat):Int)<0):=by omega
    simp only[w5,hn,if_false,aAo,hok,if_true]
   ·have hok:aD4 b a i=false:=by
     cases hh:aD4 b a i with
     |true=>exact absurd ((aJ5 _ _ _).1 hh).2.2.2.2 hv
     |false=>rfl
    have hr:=bEu ((aDn b a i:Nat):Int)
    have hm:=aZk ((aDn b a i:Nat):Int)
    have hn:IntKind.i64.wrap ((aDn b a i:Nat):Int)<0:=by omega
    simp only[hn,if_true,aAo,hok,Bool.false_eq_true,if_false]
theorem bQ1:aA6 Tryz.prog aNw:=aA5 (by simp[aIy])
theorem aOg:aAn Tryz.prog 156 (sg [pS,pI,pI] [rI,rB]) aDy:=aA4 bQ1 aA7 Tryz.func156 (by kernel_rfl) fun cs outs hk h=>by
 unfold aDy at h
 split at h
 ·simp only[Option.some.injEq,Prod.mk.injEq,Bool.and_eq_true,decide_eq_true_eq]at h
  obtain⟨⟨h1,h2,h3⟩,rfl⟩:=h
  rename_i b a w
  rw[aA9,bD5]
  have bad:¬(1≤w∧w≤8∧0≤a∧a≤b.length-w∧aDn b a w<9223372036854775808)→aAo b a w=0∧aD4 b a w=false:=fun h=>by
   have:aD4 b a w=false:=by
    cases hh:aD4 b a w with
    |true=>exact absurd ((aJ5 b a w).1 hh) h
    |false=>rfl
   exact⟨by unfold aAo;rw[this];rfl,this⟩
  by_cases hw:inB w 1 8=true
  ·have hw':=(aBg _ _ _).1 hw
   have wr:IntKind.i64.wrap ((b.length:Int)-w)=b.length-w:=by rw[aAd]<;>omega
   by_cases ha:inB a 0 ((b.length:Int)-w)=true
   ·have ha':=(aBg _ _ _).1 ha
    obtain⟨a,rfl⟩:=Int.eq_ofNat_of_zero_le ha'.1
    obtain⟨w,rfl⟩:=Int.eq_ofNat_of_zero_le (show 0≤w by omega)
    have lp:=bD6 b a w (by omega) h1 (by omega) (by omega) 9223372036854775808 0 (by omega) (by omega)
    simp only[aA0,aA1,aA2,if_true,hw,wr,ha,Bool.not_true,Bool.false_eq_true,if_false]
    exact lp
   ·obtain⟨b1,b2⟩:=bad (fun h=>ha ((aBg _ _ _).2 ⟨h.2.2.1,h.2.2.2.1⟩))
    simp[aA0,aA1,aA2,hw,wr,ha,b1,b2]
  ·obtain⟨b1,b2⟩:=bad (fun h=>hw ((aBg _ _ _).2 ⟨h.1,h.2.1⟩))
   simp[aA0,aA1,aA2,hw,b1,b2]
 ·cases h
noncomputable section
def aD3 (v s b l:Int):Bool:=inB v 1 2&&inB s 1 20&&inB b 0 1000000000&&inB l 0 4294967295
def aEd:PTy:=.val true [.int .i64,.int .i64,.int .i64,.int .i64]
def bFx:RTy:=⟨true,[(.int .i64,false),(.int .i64,false),(.int .i64,false),(.int .i64,false)]⟩
def aDp:aC3:=fun cs=>match cs with
 |[.int .i64 v,.int .i64 s,.int .i64 b,.int .i64 l]=>some (true,[.bool (aD3 v s b l)])
 |_=>none
def aFg (v s b l:Int):List UInt8:=[83,69,71,77]++aAh v 1++aAh s 1++[0,0]++aAh b 8++aAh l 4
def aBc (v s b l:Int):List UInt8:=if aD3 v s b l then aFg v s b l++aAh (aAs 0 (aFg v s b l):Nat) 4 else[]
def aDg:aC3:=fun cs=>match cs with
 |[.int .i64 v,.int .i64 s,.int .i64 b,.int .i64 l]=>some (true,[.str (aBc v s b l)])
 |_=>none
def bI8:Env:=mkE [] [(53,(sg [pI,pI,pI] [rB]),aE3)]
def bIh:Env:=mkE [] [(78,(sg [pI,pI,pI] [rB]),aE3),(63,(sg [pI] [rB]),aDj),(97,(sg [pI] [rB]),aCh)]
def aXo:Env:=mkE [] [(151,(sg [pS] [rI]),aDk),(145,(sg [pI,pI] [rS]),aFj),(115,(sg [aEd] [rB]),aDp)]
def aXv:Env:=mkE [] [(181,(sg [pS] [rI]),aDk),(161,(sg [pI,pI] [rS]),aFj),(137,(sg [aEd] [rB]),aDp)]
def rhV (b:List UInt8):Int:=(b.getD 4 0).toNat
def rhS (b:List UInt8):Int:=(b.getD 5 0).toNat
def rhB (b:List UInt8):Int:=aAo b 8 8
def rhL (b:List UInt8):Int:=aAo b 16 4
def aA8 (b:List UInt8):Bool:=decide (24≤b.length)&&aD4 b 8 8&&decide (aBc (rhV b) (rhS b) (rhB b) (rhL b)=b.take 24)
def ifI (c:Bool) (x:Int):Int:=if c then x else 0
def aDe:aC3:=fun cs=>match cs with
 |[.str b]=>some (decide (b.length≤281474976710656),[.int .i64 (ifI (aA8 b) (rhV b)),.int .i64 (ifI (aA8 b) (rhS b)),.int .i64 (ifI (aA8 b) (rhB b)),.int .i64 (ifI (aA8 b) (rhL b)),.bool (aA8 b)])
 |_=>none
def aXl:Env:=mkE [] [(148,(sg [pS,pI,pI] [rI,rB]),aDy),(116,(sg [aEd] [rS]),aDg)]
def aXr:Env:=mkE [] [(156,(sg [pS,pI,pI] [rI,rB]),aDy),(140,(sg [aEd] [rS]),aDg)]
end
theorem bFl (H:List Pt→Nat→St→T (List C)) (v:Int) (s:Int) (b:Int) (l:Int):aAg bI8 aAa (sg [aEd] [rB]) Tryz.f115 H [C.int .i64 v,C.int .i64 s,C.int .i64 b,C.int .i64 l]=(.must true (.must true (.must true (.must true (.ask (inB v 1 2) (.must true (.must true (.must true (.ask (inB s 1 20) (.must true (.must true (.must true (.ask (inB b 0 1000000000) (.must true (.must true (.must true (.ask (inB l 0 4294967295) (.must true (.ret [C.bool true])) (.must true (.ret [C.bool false])))))) (.must true (.ret [C.bool false])))))) (.must true (.ret [C.bool false])))))) (.must true (.ret [C.bool false]))))))):=by kernel_rfl
theorem bH3 (H:List Pt→Nat→St→T (List C)) (v:Int) (s:Int) (b:Int) (l:Int):aAg bIh aAa (sg [aEd] [rB]) Tryz.f137 H [C.int .i64 v,C.int .i64 s,C.int .i64 b,C.int .i64 l]=(.must true (.must true (.must true (.must true (.ask (inB v 1 2) (.must true (.must true (.must true (.ask (inB s 1 20) (.must true (.must true (.must true (.ask (inB b 0 1000000000) (.must true (.must true (.must true (.ask (inB l 0 4294967295) (.must true (.ret [C.bool true])) (.must true (.ret [C.bool false])))))) (.must true (.ret [C.bool false])))))) (.must true (.ret [C.bool false])))))) (.must true (.ret [C.bool false]))))))):=by kernel_rfl
theorem aYo (H:List Pt→Nat→St→T (List C)) (v:Int) (s:Int) (b:Int) (l:Int):aAg aXo aAa (sg [aEd] [rS]) Tryz.f116 H [C.int .i64 v,C.int .i64 s,C.int .i64 b,C.int .i64 l]=(.must true (.must true (.must true (.must true (.ask (aD3 v s b l) (.must true (.must (decide ((-9223372036854775808:Int)≤v)&&decide (v≤(9223372036854775807:Int))) (.must true (.must (decide (4+(aAh v 1).length≤9223372036854775807)) (.must true (.must (decide ((-9223372036854775808:Int)≤s)&&decide (s≤(9223372036854775807:Int))) (.must true (.must (decide (([(83:UInt8),69,71,77]++aAh v 1).length+(aAh s 1).length≤9223372036854775807)) (.must (decide (([(83:UInt8),69,71,77]++aAh v 1++aAh s 1).length+2≤9223372036854775807)) (.must true (.must (decide ((-9223372036854775808:Int)≤b)&&decide (b≤(9223372036854775807:Int))) (.must true (.must (decide (([(83:UInt8),69,71,77]++aAh v 1++aAh s 1++[(0:UInt8),0]).length+(aAh b 8).length≤9223372036854775807)) (.must true (.must (decide ((-9223372036854775808:Int)≤l)&&decide (l≤(9223372036854775807:Int))) (.must true (.must (decide (([(83:UInt8),69,71,77]++aAh v 1++aAh s 1++[(0:UInt8),0]++aAh b 8).length+(aAh l 4).length≤9223372036854775807)) (.must true (.must (decide (([(83:UInt8),69,71,77]++aAh v 1++aAh s 1++[(0:UInt8),0]++aAh b 8++aAh l 4).length≤281474976710656)) (.must true (.must true (.must (decide ((-9223372036854775808:Int)≤Int.ofNat (aAs 0 ([(83:UInt8),69,71,77]++aAh v 1++aAh s 1++[(0:UInt8),0]++aAh b 8++aAh l 4)))&&decide (Int.ofNat (aAs 0 ([(83:UInt8),69,71,77]++aAh v 1++aAh s 1++[(0:UInt8),0]++aAh b 8++aAh l 4))≤(9223372036854775807:Int))) (.must true (.must (decide (([(83:UInt8),69,71,77]++aAh v 1++aAh s 1++[(0:UInt8),0]++aAh b 8++aAh l 4).length+(aAh (Int.ofNat (aAs 0 ([(83:UInt8),69,71,77]++aAh v 1++aAh s 1++[(0:UInt8),0]++aAh b 8++aAh l 4))) (4:Int)).length≤9223372036854775807)) (.must true (.ret [C.str ([(83:UInt8),69,71,77]++aAh v 1++aAh s 1++[(0:UInt8),0]++aAh b 8++aAh l 4++aAh (Int.ofNat (aAs 0 ([(83:UInt8),69,71,77]++aAh v 1++aAh s 1++[(0:UInt8),0]++aAh b 8++aAh l 4))) (4:Int))])))))))))))))))))))))))))) (.must true (.ret [C.str []]))))))):=by kernel_rfl
theorem aZa (H:List Pt→Nat→St→T (List C)) (v:Int) (s:Int) (b:Int) (l:Int):aAg aXv aAa (sg [aEd] [rS]) Tryz.f140 H [C.int .i64 v,C.int .i64 s,C.int .i64 b,C.int .i64 l]=(.must true (.must true (.must true (.must true (.ask (aD3 v s b l) (.must true (.must (decide ((-9223372036854775808:Int)≤v)&&decide (v≤(9223372036854775807:Int))) (.must true (.must (decide (4+(aAh v 1).length≤9223372036854775807)) (.must true (.must (decide ((-9223372036854775808:Int)≤s)&&decide (s≤(9223372036854775807:Int))) (.must true (.must (decide (([(83:UInt8),69,71,77]++aAh v 1).length+(aAh s 1).length≤9223372036854775807)) (.must true (.must true (.must true (.must (decide (([(83:UInt8),69,71,77]++aAh v 1++aAh s 1).length+(1+1)≤9223372036854775807)) (.must true (.must (decide ((-9223372036854775808:Int)≤b)&&decide (b≤(9223372036854775807:Int))) (.must true (.must (decide (([(83:UInt8),69,71,77]++aAh v 1++aAh s 1++aAh 0 2).length+(aAh b 8).length≤9223372036854775807)) (.must true (.must (decide ((-9223372036854775808:Int)≤l)&&decide (l≤(9223372036854775807:Int))) (.must true (.must (decide (([(83:UInt8),69,71,77]++aAh v 1++aAh s 1++aAh 0 2++aAh b 8).length+(aAh l 4).length≤9223372036854775807)) (.must true (.must (decide (([(83:UInt8),69,71,77]++aAh v 1++aAh s 1++aAh 0 2++aAh b 8++aAh l 4).length≤281474976710656)) (.must true (.must true (.must (decide ((-9223372036854775808:Int)≤Int.ofNat (aAs 0 ([(83:UInt8),69,71,77]++aAh v 1++aAh s 1++aAh 0 2++aAh b 8++aAh l 4)))&&decide (Int.ofNat (aAs 0 ([(83:UInt8),69,71,77]++aAh v 1++aAh s 1++aAh 0 2++aAh b 8++aAh l 4))≤(9223372036854775807:Int))) (.must true (.must (decide (([(83:UInt8),69,71,77]++aAh v 1++aAh s 1++aAh 0 2++aAh b 8++aAh l 4).length+(aAh (Int.ofNat (aAs 0 ([(83:UInt8),69,71,77]++aAh v 1++aAh s 1++aAh 0 2++aAh b 8++aAh l 4))) (4:Int)).length≤9223372036854775807)) (.must true (.ret [C.str ([(83:UInt8),69,71,77]++aAh v 1++aAh s 1++aAh 0 2++aAh b 8++aAh l 4++aAh (Int.ofNat (aAs 0 ([(83:UInt8),69,71,77]++aAh v 1++aAh s 1++aAh 0 2++aAh b 8++aAh l 4))) (4:Int))]))))))))))))))))))))))))))))) (.must true (.ret [C.str []]))))))):=by kernel_rfl
theorem aYh (H:List Pt→Nat→St→T (List C)) (b:List UInt8):aAg aXl aAa (sg [pS] [bFx,rB]) Tryz.f112 H [C.str b]=(.must true (.ask (decide ((↑b.length:Int)<(24:Int))) (.must true (.ret [C.int .i64 0,C.int .i64 0,C.int .i64 0,C.int .i64 0,C.bool false])) (.must true (.must (decide (b.length≤281474976710656)&&(decide ((-9223372036854775808:Int)≤(8:Int))&&decide ((8:Int)≤(9223372036854775807:Int)))) (.must true (.ask (aD4 b 8 8) (.must true (.must (decide (b.length≤281474976710656)&&(decide ((-9223372036854775808:Int)≤(16:Int))&&decide ((16:Int)≤(9223372036854775807:Int)))) (.must true (.ask (aD4 b 16 4) (.must (decide ((0:Int)≤(4:Int))&&decide ((4:Int)<(↑b.length:Int))) (.must (decide ((0:Int)≤(5:Int))&&decide ((5:Int)<(↑b.length:Int))) (.must true (.must true (.must true (.must (decide ((0:Int)≤(24:Int))&&decide ((24:Int)≤(↑b.length:Int))) (.ask (!aBc (IntKind.i64.wrap (↑(b.getD (Int.toNat 4) (0:UInt8)).toNat:Int)) (IntKind.i64.wrap (↑(b.getD (Int.toNat 5) (0:UInt8)).toNat:Int)) (aAo b 8 8) (aAo b 16 4)==List.drop 0 (List.take (Int.toNat 24) b)) (.must true (.ret [C.int .i64 0,C.int .i64 0,C.int .i64 0,C.int .i64 0,C.bool false])) (.must true (.ret [C.int .i64 (IntKind.i64.wrap (↑(b.getD (Int.toNat 4) (0:UInt8)).toNat:Int)),C.int .i64 (IntKind.i64.wrap (↑(b.getD (Int.toNat 5) (0:UInt8)).toNat:Int)),C.int .i64 (aAo b 8 8),C.int .i64 (aAo b 16 4),C.bool true]))))))))) (.must (decide ((0:Int)≤(4:Int))&&decide ((4:Int)<(↑b.length:Int))) (.must (decide ((0:Int)≤(5:Int))&&decide ((5:Int)<(↑b.length:Int))) (.must true (.must true (.must true (.must (decide ((0:Int)≤(24:Int))&&decide ((24:Int)≤(↑b.length:Int))) (.ask (!aBc (IntKind.i64.wrap (↑(b.getD (Int.toNat 4) (0:UInt8)).toNat:Int)) (IntKind.i64.wrap (↑(b.getD (Int.toNat 5) (0:UInt8)).toNat:Int)) (aAo b 8 8) (aAo b 16 4)==List.drop 0 (List.take (Int.toNat 24) b)) (.must true (.ret [C.int .i64 0,C.int .i64 0,C.int .i64 0,C.int .i64 0,C.bool false])) (.must true (.ret [C.int .i64 (IntKind.i64.wrap (↑(b.getD (Int.toNat 4) (0:UInt8)).toNat:Int)),C.int .i64 (IntKind.i64.wrap (↑(b.getD (Int.toNat 5) (0:UInt8)).toNat:Int)),C.int .i64 (aAo b 8 8),C.int .i64 (aAo b 16 4),C.bool true]))))))))))))) (.must true (.must (decide (b.length≤281474976710656)&&(decide ((-9223372036854775808:Int)≤(16:Int))&&decide ((16:Int)≤(9223372036854775807:Int)))) (.must true (.ask (aD4 b 16 4) (.must (decide ((0:Int)≤(4:Int))&&decide ((4:Int)<(↑b.length:Int))) (.must (decide ((0:Int)≤(5:Int))&&decide ((5:Int)<(↑b.length:Int))) (.must true (.ret [C.int .i64 0,C.int .i64 0,C.int .i64 0,C.int .i64 0,C.bool false])))) (.must (decide ((0:Int)≤(4:Int))&&decide ((4:Int)<(↑b.length:Int))) (.must (decide ((0:Int)≤(5:Int))&&decide ((5:Int)<(↑b.length:Int))) (.must true (.ret [C.int .i64 0,C.int .i64 0,C.int .i64 0,C.int .i64 0,C.bool false])))))))))))))):=by kernel_rfl
theorem aZ3 (H:List Pt→Nat→St→T (List C)) (b:List UInt8):aAg aXr aAa (sg [pS] [bFx,rB]) Tryz.f120 H [C.str b]=(.must true (.ask (decide ((↑b.length:Int)<(24:Int))) (.must true (.ret [C.int .i64 0,C.int .i64 0,C.int .i64 0,C.int .i64 0,C.bool false])) (.must true (.must (decide (b.length≤281474976710656)&&(decide ((-9223372036854775808:Int)≤(8:Int))&&decide ((8:Int)≤(9223372036854775807:Int)))) (.must true (.ask (aD4 b 8 8) (.must true (.must (decide (b.length≤281474976710656)&&(decide ((-9223372036854775808:Int)≤(16:Int))&&decide ((16:Int)≤(9223372036854775807:Int)))) (.must true (.ask (aD4 b 16 4) (.must (decide ((0:Int)≤(4:Int))&&decide ((4:Int)<(↑b.length:Int))) (.must (decide ((0:Int)≤(5:Int))&&decide ((5:Int)<(↑b.length:Int))) (.must true (.must true (.must true (.must (decide ((0:Int)≤(24:Int))&&decide ((24:Int)≤(↑b.length:Int))) (.ask (!aBc (IntKind.i64.wrap (↑(b.getD (Int.toNat 4) (0:UInt8)).toNat:Int)) (IntKind.i64.wrap (↑(b.getD (Int.toNat 5) (0:UInt8)).toNat:Int)) (aAo b 8 8) (aAo b 16 4)==List.drop 0 (List.take (Int.toNat 24) b)) (.must true (.ret [C.int .i64 0,C.int .i64 0,C.int .i64 0,C.int .i64 0,C.bool false])) (.must true (.ret [C.int .i64 (IntKind.i64.wrap (↑(b.getD (Int.toNat 4) (0:UInt8)).toNat:Int)),C.int .i64 (IntKind.i64.wrap (↑(b.getD (Int.toNat 5) (0:UInt8)).toNat:Int)),C.int .i64 (aAo b 8 8),C.int .i64 (aAo b 16 4),C.bool true]))))))))) (.must (decide ((0:Int)≤(4:Int))&&decide ((4:Int)<(↑b.length:Int))) (.must (decide ((0:Int)≤(5:Int))&&decide ((5:Int)<(↑b.length:Int))) (.must true (.must true (.must true (.must (decide ((0:Int)≤(24:Int))&&decide ((24:Int)≤(↑b.length:Int))) (.ask (!aBc (IntKind.i64.wrap (↑(b.getD (Int.toNat 4) (0:UInt8)).toNat:Int)) (IntKind.i64.wrap (↑(b.getD (Int.toNat 5) (0:UInt8)).toNat:Int)) (aAo b 8 8) (aAo b 16 4)==List.drop 0 (List.take (Int.toNat 24) b)) (.must true (.ret [C.int .i64 0,C.int .i64 0,C.int .i64 0,C.int .i64 0,C.bool false])) (.must true (.ret [C.int .i64 (IntKind.i64.wrap (↑(b.getD (Int.toNat 4) (0:UInt8)).toNat:Int)),C.int .i64 (IntKind.i64.wrap (↑(b.getD (Int.toNat 5) (0:UInt8)).toNat:Int)),C.int .i64 (aAo b 8 8),C.int .i64 (aAo b 16 4),C.bool true]))))))))))))) (.must true (.must (decide (b.length≤281474976710656)&&(decide ((-9223372036854775808:Int)≤(16:Int))&&decide ((16:Int)≤(9223372036854775807:Int)))) (.must true (.ask (aD4 b 16 4) (.must (decide ((0:Int)≤(4:Int))&&decide ((4:Int)<(↑b.length:Int))) (.must (decide ((0:Int)≤(5:Int))&&decide ((5:Int)<(↑b.length:Int))) (.must true (.ret [C.int .i64 0,C.int .i64 0,C.int .i64 0,C.int .i64 0,C.bool false])))) (.must (decide ((0:Int)≤(4:Int))&&decide ((4:Int)<(↑b.length:Int))) (.must (decide ((0:Int)≤(5:Int))&&decide ((5:Int)<(↑b.length:Int))) (.must true (.ret [C.int .i64 0,C.int .i64 0,C.int .i64 0,C.int .i64 0,C.bool false])))))))))))))):=by kernel_rfl
theorem aB7 (n w:Int):(aAh n w).length≤8:=by
 unfold aAh;split
 ·rw[aC4];omega
 ·simp
theorem bRs:aA6 Tryz.prog bI8:=aA5 (by simp[aD9])
theorem aJj:aAn Tryz.prog 115 (sg [aEd] [rB]) aDp:=aA4 bRs aA7 Tryz.func115 (by kernel_rfl) fun cs outs hk h=>by
 unfold aDp at h
 split at h
 ·simp only[Option.some.injEq,Prod.mk.injEq,true_and]at h
  rw[←h,aA9,bFl]
  simp only[aA0,aA1,aA2,if_true,aD3]
  repeat' split
  all_goals first | rfl | (simp_all;done)
 ·cases h
theorem bTc:aA6 Tryz.prog bIh:=aA5 (by simp[aIy,aDm,aC6])
theorem aJw:aAn Tryz.prog 137 (sg [aEd] [rB]) aDp:=aA4 bTc aA7 Tryz.func137 (by kernel_rfl) fun cs outs hk h=>by
 unfold aDp at h
 split at h
 ·simp only[Option.some.injEq,Prod.mk.injEq,true_and]at h
  rw[←h,aA9,bH3]
  simp only[aA0,aA1,aA2,if_true,aD3]
  repeat' split
  all_goals first | rfl | (simp_all;done)
 ·cases h
theorem aF1 (v s b l:Int):aD3 v s b l=true↔(1≤v∧v≤2)∧(1≤s∧s≤20)∧(0≤b∧b≤1000000000)∧(0≤l∧l≤4294967295):=by
 simp[aD3,inB,and_assoc]
theorem bJk:aA6 Tryz.prog aXo:=aA5 (by simp[aHs,aEh,aJj])
theorem aLg:aAn Tryz.prog 116 (sg [aEd] [rS]) aDg:=aA4 bJk aA7 Tryz.func116 (by kernel_rfl) fun cs outs hk h=>by
 unfold aDg at h
 split at h
 ·simp only[Option.some.injEq,Prod.mk.injEq,true_and]at h
  rename_i v s b l
  rw[←h,aA9,aYo]
  by_cases hok:aD3 v s b l=true
  ·obtain⟨⟨a1,a2⟩,⟨a3,a4⟩,⟨a5,a6⟩,a7,a8⟩:=(aF1 v s b l).1 hok
   have l1:=aB7 v 1
   have l2:=aB7 s 1
   have l3:=aB7 b 8
   have l4:=aB7 l 4
   have l5:=aB7 (aAs 0 (aFg v s b l):Nat) 4
   have c1:=aDq 0 (aFg v s b l) (by omega)
   have e:aBc v s b l=aFg v s b l++aAh (aAs 0 (aFg v s b l):Nat) 4:=by simp[aBc,hok]
   rw[e]
   unfold aFg at *
   simp only[aA0,aA1,aA2,if_true,hok,decide_eq_true_eq,Bool.and_eq_true,List.length_append,List.length_cons,List.length_nil,Int.ofNat_eq_natCast]
   repeat rw[if_pos (by omega)]
  ·simp[aA0,aA1,aA2,hok,aBc]
 ·cases h
theorem bLi:aA6 Tryz.prog aXv:=aA5 (by simp[aHx,aEj,aJw])
theorem aM3:aAn Tryz.prog 140 (sg [aEd] [rS]) aDg:=aA4 bLi aA7 Tryz.func140 (by kernel_rfl) fun cs outs hk h=>by
 unfold aDg at h
 split at h
 ·simp only[Option.some.injEq,Prod.mk.injEq,true_and]at h
  rename_i v s b l
  rw[←h,aA9,aZa]
  by_cases hok:aD3 v s b l=true
  ·obtain⟨⟨a1,a2⟩,⟨a3,a4⟩,⟨a5,a6⟩,a7,a8⟩:=(aF1 v s b l).1 hok
   have l1:=aB7 v 1
   have l2:=aB7 s 1
   have l3:=aB7 b 8
   have l4:=aB7 l 4
   have l5:=aB7 (aAs 0 (aFg v s b l):Nat) 4
   have c1:=aDq 0 (aFg v s b l) (by omega)
   have f0:aAh 0 2=[0,0]:=by decide
   have e:aBc v s b l=aFg v s b l++aAh (aAs 0 (aFg v s b l):Nat) 4:=by simp[aBc,hok]
   rw[e]
   unfold aFg at *
   simp only[aA0,aA1,aA2,if_true,hok,decide_eq_true_eq,Bool.and_eq_true,List.length_append,List.length_cons,List.length_nil,Int.ofNat_eq_natCast,f0]
   repeat rw[if_pos (by omega)]
  ·simp[aA0,aA1,aA2,hok,aBc]
 ·cases h
theorem bJ8:aA6 Tryz.prog aXl:=aA5 (by simp[aOa,aLg])
theorem aLf:aAn Tryz.prog 112 (sg [pS] [bFx,rB]) aDe:=aA4 bJ8 aA7 Tryz.func112 (by kernel_rfl) fun cs outs hk h=>by
 unfold aDe at h
 split at h
 ·simp only[Option.some.injEq,Prod.mk.injEq,decide_eq_true_eq]at h
  obtain⟨h1,rfl⟩:=h
  rename_i b
  rw[aA9,aYh]
  have c4:=aGl b 4
  have c5:=aGl b 5
  have w4:IntKind.i64.wrap ((b.getD 4 0).toNat:Int)=rhV b:=by rw[aAd]<;>first | rfl | omega
  have w5:IntKind.i64.wrap ((b.getD 5 0).toNat:Int)=rhS b:=by rw[aAd]<;>first | rfl | omega
  have t4:Int.toNat (4:Int)=4:=rfl
  have t5:Int.toNat (5:Int)=5:=rfl
  have t24:Int.toNat (24:Int)=24:=rfl
  have eB:aAo b 8 8=rhB b:=rfl
  have eL:aAo b 16 4=rhL b:=rfl
  simp only[t4,t5,t24,w4,w5,eB,eL,List.drop_zero]
  by_cases h24:(b.length:Int)<24
  ·have ho:aA8 b=false:=by unfold aA8;rw[decide_eq_false (by omega)];rfl
   simp[aA0,aA1,aA2,h24,ho,ifI]
  ·have g1:(4:Int)<b.length:=by omega
   have g2:(5:Int)<b.length:=by omega
   have g3:(24:Int)≤b.length:=by omega
   have g4:24≤b.length:=by omega
   by_cases h8:aD4 b 8 8=true
   ·by_cases ht:aBc (rhV b) (rhS b) (rhB b) (rhL b)=b.take 24
    ·have ho:aA8 b=true:=by unfold aA8;rw[decide_eq_true g4,h8,decide_eq_true ht];rfl
     have hb:(aBc (rhV b) (rhS b) (rhB b) (rhL b)==b.take 24)=true:=by rw[ht];simp
     by_cases h16:aD4 b 16 4=true<;>simp[aA0,aA1,aA2,h24,h8,h16,h1,g1,g2,g3,t4,t5,t24,w4,w5,eB,eL,ht,ho,ifI]
    ·have ho:aA8 b=false:=by unfold aA8;rw[decide_eq_true g4,h8,decide_eq_false ht];rfl
     by_cases h16:aD4 b 16 4=true<;>simp[aA0,aA1,aA2,h24,h8,h16,h1,g1,g2,g3,t4,t5,t24,w4,w5,eB,eL,ht,ho,ifI]
   ·have ho:aA8 b=false:=by unfold aA8;rw[Bool.eq_false_iff.2 h8];simp
    by_cases h16:aD4 b 16 4=true<;>simp[aA0,aA1,aA2,h24,h8,h16,h1,g1,g2,g3,t4,t5,t24,ho,ifI]<;>(intros;simp_all)
 ·cases h
theorem bL7:aA6 Tryz.prog aXr:=aA5 (by simp[aOg,aM3])
theorem aM2:aAn Tryz.prog 120 (sg [pS] [bFx,rB]) aDe:=aA4 bL7 aA7 Tryz.func120 (by kernel_rfl) fun cs outs hk h=>by
 unfold aDe at h
 split at h
 ·simp only[Option.some.injEq,Prod.mk.injEq,decide_eq_true_eq]at h
  obtain⟨h1,rfl⟩:=h
  rename_i b
  rw[aA9,aZ3]
  have c4:=aGl b 4
  have c5:=aGl b 5
  have w4:IntKind.i64.wrap ((b.getD 4 0).toNat:Int)=rhV b:=by rw[aAd]<;>first | rfl | omega
  have w5:IntKind.i64.wrap ((b.getD 5 0).toNat:Int)=rhS b:=by rw[aAd]<;>first | rfl | omega
  have t4:Int.toNat (4:Int)=4:=rfl
  have t5:Int.toNat (5:Int)=5:=rfl
  have t24:Int.toNat (24:Int)=24:=rfl
  have eB:aAo b 8 8=rhB b:=rfl
  have eL:aAo b 16 4=rhL b:=rfl
  simp only[t4,t5,t24,w4,w5,eB,eL,List.drop_zero]
  by_cases h24:(b.length:Int)<24
  ·have ho:aA8 b=false:=by unfold aA8;rw[decide_eq_false (by omega)];rfl
   simp[aA0,aA1,aA2,h24,ho,ifI]
  ·have g1:(4:Int)<b.length:=by omega
   have g2:(5:Int)<b.length:=by omega
   have g3:(24:Int)≤b.length:=by omega
   have g4:24≤b.length:=by omega
   by_cases h8:aD4 b 8 8=true
   ·by_cases ht:aBc (rhV b) (rhS b) (rhB b) (rhL b)=b.take 24
    ·have ho:aA8 b=true:=by unfold aA8;rw[decide_eq_true g4,h8,decide_eq_true ht];rfl
     have hb:(aBc (rhV b) (rhS b) (rhB b) (rhL b)==b.take 24)=true:=by rw[ht];simp
     by_cases h16:aD4 b 16 4=true<;>simp[aA0,aA1,aA2,h24,h8,h16,h1,g1,g2,g3,t4,t5,t24,w4,w5,eB,eL,ht,ho,ifI]
    ·have ho:aA8 b=false:=by unfold aA8;rw[decide_eq_true g4,h8,decide_eq_false ht];rfl
     by_cases h16:aD4 b 16 4=true<;>simp[aA0,aA1,aA2,h24,h8,h16,h1,g1,g2,g3,t4,t5,t24,w4,w5,eB,eL,ht,ho,ifI]
   ·have ho:aA8 b=false:=by unfold aA8;rw[Bool.eq_false_iff.2 h8];simp
    by_cases h16:aD4 b 16 4=true<;>simp[aA0,aA1,aA2,h24,h8,h16,h1,g1,g2,g3,t4,t5,t24,ho,ifI]<;>(intros;simp_all)
 ·cases h
noncomputable section
def aCr:Nat→Nat→List UInt8
 |0,_=>[]
 |k+1,n=>if n<128 then[UInt8.ofNat n]else UInt8.ofNat (n % 128+128)::aCr k (n / 128)
def aAr (n:Int):List UInt8:=if inB n 0 1000000000 then aCr 5 n.toNat else[]
def aD5:aC3:=fun cs=>match cs with
 |[.int .i64 n]=>some (true,[.str (aAr n)])
 |_=>none
def aN2 (n:Int) (m:Nat) (r:List (List C)):St:=st1 [(0,aAw n),(3,.l (.ref 0 0 m))] 1 r
def aN9 (n:Int) (m:Nat) (r:List (List C)):St:=st1 [(0,aAw n),(3,.l (.ref 0 0 m))] 1 r
def aNj:Env:=mkE [(4,[0,3])] [(53,(sg [pI,pI,pI] [rB]),aE3)]
def aNs:Env:=mkE [(4,[0,3])] [(97,(sg [pI] [rB]),aCh)]
def bOz (b:List UInt8) (at':Nat):Nat→Nat→Nat→Option (Nat×Nat)
 |0,_,_=>none
 |f+1,k,n=>if at'+k<b.length then
   if (b.getD (at'+k) 0).toNat<128 then
    if (k>0∧(b.getD (at'+k) 0).toNat=0)∨1000000000<n+(b.getD (at'+k) 0).toNat*128^k then none else some (n+(b.getD (at'+k) 0).toNat*128^k,at'+k+1)
   else bOz b at' f (k+1) (n+((b.getD (at'+k) 0).toNat-128)*128^k)
  else none
def aIc (b:List UInt8) (at':Int):Option (Nat×Nat):=if 0≤at' then bOz b at'.toNat 5 0 0 else none
def bMp (b:List UInt8) (at':Int):Bool:=(aIc b at').isSome
def rvN (b:List UInt8) (at':Int):Int:=match aIc b at' with | some p=>p.1 | none=>0
def aCj (b:List UInt8) (at':Int):Int:=match aIc b at' with | some p=>p.2 | none=>0
def aFu:aC3:=fun cs=>match cs with
 |[.str b,.int .i64 a]=>some (decide (b.length≤281474976710656)&&(decide (-9223372036854775808≤a)&&decide (a≤9223372036854775807)),[.int .i64 (rvN b a),.int .i64 (aCj b a),.bool (bMp b a)])
 |_=>none
def aN5 (b:List UInt8) (a n i:Int):St:=st0 [(0,bEp b),(1,aAw a),(7,aAw n),(8,aAw i)]
def aNc (b:List UInt8) (a n i:Int):St:=st0 [(0,bEp b),(1,aAw a),(7,aAw n),(10,aAw i)]
def aNn:Env:=mkE [(5,[0,1,7,8])] [(53,(sg [pI,pI,pI] [rB]),aE3),(152,(sg [pI] [rS]),aD5)]
def aNv:Env:=mkE [(3,[0,1,7,10])] [(78,(sg [pI,pI,pI] [rB]),aE3),(97,(sg [pI] [rB]),aCh)]
end
theorem bB9 (H:List Pt→Nat→St→T (List C)) (n:Int):aAg aNj aAa (sg [pI] [rS]) Tryz.f152 H [C.int .i64 n]=(.must true (.must true (.must true (.must true (.ask (inB n 0 1000000000) (H [Pt.r,Pt.r,Pt.r,Pt.l,Pt.b] 9223372036854775808 (aN2 (n) (0) ([]))) (.must true (.ret [C.str []]))))))):=by kernel_rfl
theorem bCv (H:List Pt→Nat→St→T (List C)) (n:Int):aAg aNs aAa (sg [pI] [rS]) Tryz.f182 H [C.int .i64 n]=(.must true (.must true (.must true (.must true (.ask (inB n 0 1000000000) (H [Pt.r,Pt.r,Pt.r,Pt.l,Pt.b] 9223372036854775808 (aN9 (n) (0) ([]))) (.must true (.ret [C.str []]))))))):=by kernel_rfl
theorem aLb (H:List Pt→Nat→St→T (List C)) (n:Int) (q:Nat) (r:List (List C)) (k:Nat):aB1 aNj aAa (sg [pI] [rS]) Tryz.f152 H [Pt.r,Pt.r,Pt.r,Pt.l,Pt.b] k (aN2 n q r)=(.ask (decide ((127:Int)<n)) (.must (decide (q=r.length)&&aBb (r.length+1) 1&&(decide (1=1)&&true)) (.must true (H [Pt.r,Pt.r,Pt.r,Pt.l,Pt.b] k (aN2 (aL3 .i64 n 7) (r.length+1) (r.append [[C.int .u8 (IntKind.u8.wrap (ior .i64 (aIh .i64 n 127) 128))]]))))) (.must (decide (q=r.length)&&aBb (r.length+1) 1&&(decide (1=1)&&true)) (.must ((List.take (r.length+1) (r.append [[C.int .u8 (IntKind.u8.wrap n)]])).all aFy) (.must true (.ret [C.str (aCo (List.take (r.length+1) (r.append [[C.int .u8 (IntKind.u8.wrap n)]])))]))))):=by kernel_rfl
theorem aLw (H:List Pt→Nat→St→T (List C)) (n:Int) (q:Nat) (r:List (List C)) (k:Nat):aB1 aNs aAa (sg [pI] [rS]) Tryz.f182 H [Pt.r,Pt.r,Pt.r,Pt.l,Pt.b] k (aN9 n q r)=(.ask (decide ((128:Int)≤n)) (.must (decide (q=r.length)&&aBb (r.length+1) 1&&(decide (1=1)&&true)) (.must true (H [Pt.r,Pt.r,Pt.r,Pt.l,Pt.b] k (aN9 (aL3 .i64 n 7) (r.length+1) (r.append [[C.int .u8 (ior .u8 (IntKind.u8.wrap n) 128)]]))))) (.must (decide (q=r.length)&&aBb (r.length+1) 1&&(decide (1=1)&&true)) (.must ((List.take (r.length+1) (r.append [[C.int .u8 (IntKind.u8.wrap n)]])).all aFy) (.must true (.ret [C.str (aCo (List.take (r.length+1) (r.append [[C.int .u8 (IntKind.u8.wrap n)]])))]))))):=by kernel_rfl
theorem bBi (H:List Pt→Nat→St→T (List C)) (b:List UInt8) (a:Int):aAg aNn aAa (sg [pS,pI] [rI,rI,rB]) Tryz.f150 H [C.str b,C.int .i64 a]=(.must true (.must true (.must true (.must true (.ask (inB a 0 (↑b.length:Int)) (H [Pt.r,Pt.r,Pt.r,Pt.l,Pt.r,Pt.b] 9223372036854775808 (aN5 (b) (a) ((0:Int)) ((0:Int)))) (.must true (.ret [C.int .i64 0,C.int .i64 0,C.bool false]))))))):=by kernel_rfl
theorem bD3 (H:List Pt→Nat→St→T (List C)) (b:List UInt8) (a:Int):aAg aNv aAa (sg [pS,pI] [rI,rI,rB]) Tryz.f159 H [C.str b,C.int .i64 a]=(.must true (H [Pt.r,Pt.r,Pt.l,Pt.r,Pt.b] 9223372036854775808 (aNc (b) (a) ((0:Int)) ((0:Int))))):=by kernel_rfl
theorem aVe (H:List Pt→Nat→St→T (List C)) (b:List UInt8) (a:Int) (n:Int) (i:Int) (k:Nat):aB1 aNn aAa (sg [pS,pI] [rI,rI,rB]) Tryz.f150 H [Pt.r,Pt.r,Pt.r,Pt.l,Pt.r,Pt.b] k (aN5 b a n i)=(.ask (decide (i<(5:Int))) (.ask (decide (IntKind.i64.wrap (a+i)<(↑b.length:Int))) (.must (decide ((0:Int)≤IntKind.i64.wrap (a+i))&&decide (IntKind.i64.wrap (a+i)<(↑b.length:Int))) (.must (decide ((0:Int)≤IntKind.u64.wrap (IntKind.i64.wrap ((7:Int)*i)))) (.ask (decide (IntKind.i64.wrap (↑(b.getD (IntKind.i64.wrap (a+i)).toNat (0:UInt8)).toNat:Int)<(128:Int))) (.must true (.must true (.must true (.ask (aAr (ior .i64 n (aXw .i64 (aIh .i64 (IntKind.i64.wrap (↑(b.getD (IntKind.i64.wrap (a+i)).toNat (0:UInt8)).toNat:Int)) (127:Int)) (IntKind.u64.wrap (IntKind.i64.wrap ((7:Int)*i)))))==[]) (.must true (.ret [C.int .i64 0,C.int .i64 0,C.bool false])) (.must (decide ((0:Int)≤IntKind.i64.wrap (IntKind.i64.wrap (a+i)+(1:Int)))&&decide (IntKind.i64.wrap (IntKind.i64.wrap (a+i)+(1:Int))≤(↑b.length:Int))&&(decide ((0:Int)≤a)&&decide (a≤IntKind.i64.wrap (IntKind.i64.wrap (a+i)+(1:Int))))) (.ask (!aAr (ior .i64 n (aXw .i64 (aIh .i64 (IntKind.i64.wrap (↑(b.getD (IntKind.i64.wrap (a+i)).toNat (0:UInt8)).toNat:Int)) (127:Int)) (IntKind.u64.wrap (IntKind.i64.wrap ((7:Int)*i)))))==List.drop a.toNat (List.take (IntKind.i64.wrap (IntKind.i64.wrap (a+i)+(1:Int))).toNat b)) (.must true (.ret [C.int .i64 0,C.int .i64 0,C.bool false])) (.must true (.ret [C.int .i64 (ior .i64 n (aXw .i64 (aIh .i64 (IntKind.i64.wrap (↑(b.getD (IntKind.i64.wrap (a+i)).toNat (0:UInt8)).toNat:Int)) (127:Int)) (IntKind.u64.wrap (IntKind.i64.wrap ((7:Int)*i))))),C.int .i64 (IntKind.i64.wrap (IntKind.i64.wrap (a+i)+(1:Int))),C.bool true])))))))) (H [Pt.r,Pt.r,Pt.r,Pt.l,Pt.r,Pt.b] k (aN5 (b) (a) (ior .i64 n (aXw .i64 (aIh .i64 (IntKind.i64.wrap (↑(b.getD (IntKind.i64.wrap (a+i)).toNat (0:UInt8)).toNat:Int)) (127:Int)) (IntKind.u64.wrap (IntKind.i64.wrap ((7:Int)*i))))) (IntKind.i64.wrap (i+(1:Int)))))))) (.must true (.ret [C.int .i64 0,C.int .i64 0,C.bool false]))) (.must true (.ret [C.int .i64 0,C.int .i64 0,C.bool false]))):=by kernel_rfl
theorem aM0 (H:List Pt→Nat→St→T (List C)) (b:List UInt8) (a:Int) (n:Int) (i:Int) (k:Nat):aB1 aNv aAa (sg [pS,pI] [rI,rI,rB]) Tryz.f159 H [Pt.r,Pt.r,Pt.l,Pt.r,Pt.b] k (aNc b a n i)=(.ask (decide (i<(5:Int))) (.must true (.must true (.must true (.ask (inB a 0 (IntKind.i64.wrap (IntKind.i64.wrap ((↑b.length:Int)-(1:Int))-i))) (.must (decide ((0:Int)≤IntKind.i64.wrap (a+i))&&decide (IntKind.i64.wrap (a+i)<(↑b.length:Int))) (.must (decide ((0:Int)≤IntKind.i64.wrap ((7:Int)*i))) (.ask (decide ((128:Int)≤IntKind.i64.wrap (↑(b.getD (IntKind.i64.wrap (a+i)).toNat (0:UInt8)).toNat:Int))) (H [Pt.r,Pt.r,Pt.l,Pt.r,Pt.b] k (aNc (b) (a) (ior .i64 n (aXw .i64 (aIh .i64 (IntKind.i64.wrap (↑(b.getD (IntKind.i64.wrap (a+i)).toNat (0:UInt8)).toNat:Int)) (127:Int)) (IntKind.i64.wrap ((7:Int)*i)))) (IntKind.i64.wrap (i+(1:Int))))) (.ask (decide ((0:Int)<i)) (.ask (decide (IntKind.i64.wrap (↑(b.getD (IntKind.i64.wrap (a+i)).toNat (0:UInt8)).toNat:Int)=(0:Int))) (.must true (.ret [C.int .i64 0,C.int .i64 0,C.bool false])) (.must true (.must true (.must true (.ask (inB (ior .i64 n (aXw .i64 (aIh .i64 (IntKind.i64.wrap (↑(b.getD (IntKind.i64.wrap (a+i)).toNat (0:UInt8)).toNat:Int)) (127:Int)) (IntKind.i64.wrap ((7:Int)*i)))) (0:Int) (1000000000:Int)) (.must true (.ret [C.int .i64 (ior .i64 n (aXw .i64 (aIh .i64 (IntKind.i64.wrap (↑(b.getD (IntKind.i64.wrap (a+i)).toNat (0:UInt8)).toNat:Int)) (127:Int)) (IntKind.i64.wrap ((7:Int)*i)))),C.int .i64 (IntKind.i64.wrap (IntKind.i64.wrap (a+i)+(1:Int))),C.bool true])) (.must true (.ret [C.int .i64 0,C.int .i64 0,C.bool false]))))))) (.must true (.must true (.must true (.ask (inB (ior .i64 n (aXw .i64 (aIh .i64 (IntKind.i64.wrap (↑(b.getD (IntKind.i64.wrap (a+i)).toNat (0:UInt8)).toNat:Int)) (127:Int)) (IntKind.i64.wrap ((7:Int)*i)))) (0:Int) (1000000000:Int)) (.must true (.ret [C.int .i64 (ior .i64 n (aXw .i64 (aIh .i64 (IntKind.i64.wrap (↑(b.getD (IntKind.i64.wrap (a+i)).toNat (0:UInt8)).toNat:Int)) (127:Int)) (IntKind.i64.wrap ((7:Int)*i)))),C.int .i64 (IntKind.i64.wrap (IntKind.i64.wrap (a+i)+(1:Int))),C.bool true])) (.must true (.ret [C.int .i64 0,C.int .i64 0,C.bool false])))))))))) (.must true (.ret [C.int .i64 0,C.int .i64 0,C.bool false])))))) (.must true (.ret [C.int .i64 0,C.int .i64 0,C.bool false]))):=by kernel_rfl
theorem bKz (s:Int):aIh .i64 s 127=s % 128:=by
 show IntKind.i64.wrap (((BitVec.ofInt 64 s&&&BitVec.ofInt 64 127).toNat:Nat):Int)=_
 rw[BitVec.toNat_and]
 have h1:(BitVec.ofInt 64 127).toNat=2^7-1:=by decide
 have h2:(BitVec.ofInt 64 s).toNat=(s % 18446744073709551616).toNat:=by simp[BitVec.toNat_ofInt]
 rw[h1,h2,Nat.and_two_pow_sub_one_eq_mod,aAd]<;>omega
theorem bSj:∀ x:Fin 256,x.val|||128=x.val % 128+128:=by decide +kernel
theorem bN1 (n:Nat):ior .u8 (IntKind.u8.wrap (n:Int)) 128=((n % 128+128:Nat):Int):=by
 rw[aR9]
 show IntKind.u8.wrap (((BitVec.ofInt 8 ((n:Int) % 256)|||BitVec.ofInt 8 128).toNat:Nat):Int)=_
 rw[BitVec.toNat_or]
 have h1:(BitVec.ofInt 8 128).toNat=128:=by decide
 have h2:(BitVec.ofInt 8 ((n:Int) % 256)).toNat=n % 256:=by simp[BitVec.toNat_ofInt];omega
 have h3:=bSj ⟨n % 256,by omega⟩
 simp only[]at h3
 rw[h1,h2,h3,aL4]<;>omega
theorem bGs (n:Nat):IntKind.u8.wrap (ior .i64 ((n % 128:Nat):Int) 128)=((n % 128+128:Nat):Int):=by
 have:=aQb (n % 128) 1 7 (by omega) (by omega) ((n % 128:Nat):Int) 128 (by omega) (by omega)
 rw[this,aAd (by omega) (by omega),aL4]<;>omega
theorem aDc (f n:Nat) (h:n<128):aCr (f+1) n=[UInt8.ofNat n]:=by simp[aCr,h]
theorem aF8 (f n:Nat) (h:¬n<128):aCr (f+1) n=UInt8.ofNat (n % 128+128)::aCr f (n / 128):=by simp[aCr,h]
theorem bBa:∀ (f n m:Nat) (l:List UInt8),n<128^(f+1)→n≤1000000000→l.length≤100-f→f≤100→f<m →
  (aBf aNj aAa (sg [pI] [rS]) Tryz.f152 [.r,.r,.r,.l,.b] m (aN2 n l.length (aAb l))).eval=some [.str (l++aCr (f+1) n)]:=by
 intro f
 induction f with
 |zero =>
  intro n m l h1 hn h2 h3 h4
  cases m with
  |zero=>omega
  |succ m =>
   rw[aAi _ _ _ _ _ _ _ (by kernel_rfl),aLb]
   have c:¬((127:Int)<(n:Int)):=by omega
   have hr:aBb (l.length+1) 1=true:=by simp only[aBb,decide_eq_true_eq];omega
   have u:IntKind.u8.wrap (n:Int)=(n:Nat):=by rw[aL4]<;>omega
   have tk:(aAb (l++[UInt8.ofNat n])).take (l.length+1)=aAb (l++[UInt8.ofNat n]):=List.take_of_length_le (by rw[aBa];simp)
   simp only[aA0,aA1,aA2,if_true,decide_eq_true_eq,Bool.and_eq_true,c,if_false,aBa,hr,and_self,u,aFt l n (by omega),tk,aE9,aGr,aDc 0 n (by omega)]
 |succ f ih =>
  intro n m l h1 hn h2 h3 h4
  cases m with
  |zero=>omega
  |succ m =>
   rw[aAi _ _ _ _ _ _ _ (by kernel_rfl),aLb]
   have hr:aBb (l.length+1) 1=true:=by simp only[aBb,decide_eq_true_eq];omega
   by_cases hc:n<128
   ·have c:¬((127:Int)<(n:Int)):=by omega
    have u:IntKind.u8.wrap (n:Int)=(n:Nat):=by rw[aL4]<;>omega
    have tk:(aAb (l++[UInt8.ofNat n])).take (l.length+1)=aAb (l++[UInt8.ofNat n]):=List.take_of_length_le (by rw[aBa];simp)
    simp only[aA0,aA1,aA2,if_true,decide_eq_true_eq,Bool.and_eq_true,c,if_false,aBa,hr,and_self,u,aFt l n (by omega),tk,aE9,aGr,aDc _ n hc]
   ·have c:(127:Int)<(n:Int):=by omega
    have d:aL3 .i64 (n:Int) 7=((n / 128:Nat):Int):=aH4 n 7 (by omega)
    have i1:aIh .i64 (n:Int) 127=((n % 128:Nat):Int):=by rw[bKz];omega
    have e:=ih (n / 128) m (l++[UInt8.ofNat (n % 128+128)]) (by rw[Nat.pow_succ]at h1;exact Nat.div_lt_of_lt_mul (by omega)) (by omega) (by simp;omega) (by omega) (by omega)
    rw[aF8 _ n hc]
    simp only[aA0,aA1,aA2,if_true,decide_eq_true_eq,Bool.and_eq_true,c,aBa,hr,and_self,d,i1,bGs,bN1,aFt l (n % 128+128) (by omega)]
    rw[List.length_append,List.append_assoc]at e
    exact e
theorem bOi:aA6 Tryz.prog aNj:=aA5 (by simp[aD9])
theorem aIa:aAn Tryz.prog 152 (sg [pI] [rS]) aD5:=aA4 bOi aA7 Tryz.func152 (by kernel_rfl) fun cs outs hk h=>by
 unfold aD5 at h
 split at h
 ·simp only[Option.some.injEq,Prod.mk.injEq,true_and]at h
  rename_i n
  rw[←h,aA9,bB9]
  by_cases hn:inB n 0 1000000000=true
  ·have hn':=(aBg _ _ _).1 hn
   obtain⟨n,rfl⟩:=Int.eq_ofNat_of_zero_le hn'.1
   have lp:=bBa 4 n 9223372036854775808 [] (by omega) (by omega) (by simp) (by omega) (by omega)
   simp only[aA0,aA1,if_true,hn,aAr,Int.toNat_natCast]
   exact lp
  ·simp[aA0,aA1,aA2,hn,aAr]
 ·cases h
theorem bCw:∀ (f n m:Nat) (l:List UInt8),n<128^(f+1)→n≤1000000000→l.length≤100-f→f≤100→f<m →
  (aBf aNs aAa (sg [pI] [rS]) Tryz.f182 [.r,.r,.r,.l,.b] m (aN9 n l.length (aAb l))).eval=some [.str (l++aCr (f+1) n)]:=by
 intro f
 induction f with
 |zero =>
  intro n m l h1 hn h2 h3 h4
  cases m with
  |zero=>omega
  |succ m =>
   rw[aAi _ _ _ _ _ _ _ (by kernel_rfl),aLw]
   have c:¬((128:Int)≤(n:Int)):=by omega
   have hr:aBb (l.length+1) 1=true:=by simp only[aBb,decide_eq_true_eq];omega
   have u:IntKind.u8.wrap (n:Int)=(n:Nat):=by rw[aL4]<;>omega
   have tk:(aAb (l++[UInt8.ofNat n])).take (l.length+1)=aAb (l++[UInt8.ofNat n]):=List.take_of_length_le (by rw[aBa];simp)
   simp only[aA0,aA1,aA2,if_true,decide_eq_true_eq,Bool.and_eq_true,c,if_false,aBa,hr,and_self,u,aFt l n (by omega),tk,aE9,aGr,aDc 0 n (by omega)]
 |succ f ih =>
  intro n m l h1 hn h2 h3 h4
  cases m with
  |zero=>omega
  |succ m =>
   rw[aAi _ _ _ _ _ _ _ (by kernel_rfl),aLw]
   have hr:aBb (l.length+1) 1=true:=by simp only[aBb,decide_eq_true_eq];omega
   by_cases hc:n<128
   ·have c:¬((128:Int)≤(n:Int)):=by omega
    have u:IntKind.u8.wrap (n:Int)=(n:Nat):=by rw[aL4]<;>omega
    have tk:(aAb (l++[UInt8.ofNat n])).take (l.length+1)=aAb (l++[UInt8.ofNat n]):=List.take_of_length_le (by rw[aBa];simp)
    simp only[aA0,aA1,aA2,if_true,decide_eq_true_eq,Bool.and_eq_true,c,if_false,aBa,hr,and_self,u,aFt l n (by omega),tk,aE9,aGr,aDc _ n hc]
   ·have c:(128:Int)≤(n:Int):=by omega
    have d:aL3 .i64 (n:Int) 7=((n / 128:Nat):Int):=aH4 n 7 (by omega)
    have i1:aIh .i64 (n:Int) 127=((n % 128:Nat):Int):=by rw[bKz];omega
    have e:=ih (n / 128) m (l++[UInt8.ofNat (n % 128+128)]) (by rw[Nat.pow_succ]at h1;exact Nat.div_lt_of_lt_mul (by omega)) (by omega) (by simp;omega) (by omega) (by omega)
    rw[aF8 _ n hc]
    simp only[aA0,aA1,aA2,if_true,decide_eq_true_eq,Bool.and_eq_true,c,aBa,hr,and_self,d,i1,bGs,bN1,aFt l (n % 128+128) (by omega)]
    rw[List.length_append,List.append_assoc]at e
    exact e
theorem bPt:aA6 Tryz.prog aNs:=aA5 (by simp[aC6])
theorem aIi:aAn Tryz.prog 182 (sg [pI] [rS]) aD5:=aA4 bPt aA7 Tryz.func182 (by kernel_rfl) fun cs outs hk h=>by
 unfold aD5 at h
 split at h
 ·simp only[Option.some.injEq,Prod.mk.injEq,true_and]at h
  rename_i n
  rw[←h,aA9,bCv]
  by_cases hn:inB n 0 1000000000=true
  ·have hn':=(aBg _ _ _).1 hn
   obtain⟨n,rfl⟩:=Int.eq_ofNat_of_zero_le hn'.1
   have lp:=bCw 4 n 9223372036854775808 [] (by omega) (by omega) (by simp) (by omega) (by omega)
   simp only[aA0,aA1,if_true,hn,aAr,Int.toNat_natCast]
   exact lp
  ·simp[aA0,aA1,aA2,hn,aAr]
 ·cases h
def aPl:List UInt8→Nat→Nat
 |[],x=>x
 |c::cs,x=>(c.toNat-128)+128*aPl cs x
def bJq:Option (Nat×Nat)→List C
 |some p=>[.int .i64 p.1,.int .i64 p.2,.bool true]
 |none=>[.int .i64 0,.int .i64 0,.bool false]
theorem aTo:∀ (cs:List UInt8) (x:Nat),aPl cs x=aPl cs 0+x*128^cs.length
 |[],x=>by simp[aPl]
 |c::cs,x=>by
  have:=aTo cs x
  simp only[aPl,List.length_cons,Nat.pow_succ,this]
  rw[Nat.mul_add,←Nat.add_assoc,Nat.mul_left_comm,Nat.mul_comm 128 (128^cs.length)]
theorem bEx:∀ (cs:List UInt8) (c:UInt8) (x:Nat),aPl (cs++[c]) x=aPl cs (c.toNat-128+128*x)
 |[],c,x=>by simp[aPl]
 |d::cs,c,x=>by simp only[List.cons_append,aPl,bEx cs c x]
theorem bR4:∀ (cs:List UInt8),aPl cs 0<128^cs.length
 |[]=>by simp[aPl]
 |c::cs=>by
  have:=bR4 cs
  have hc:=c.toNat_lt
  simp only[aPl,List.length_cons,Nat.pow_succ]
  omega
theorem aPk:∀ (cs:List UInt8) (x f:Nat),(∀ c,c∈cs→128≤c.toNat)→x<128→(cs=[]∨0<x)→cs.length<f→aCr f (aPl cs x)=cs++[UInt8.ofNat x]
 |[],x,f,_,hx,_,hf=>by
  obtain⟨g,rfl⟩:∃ g,f=g+1:=⟨f-1,by simp at hf;omega⟩
  exact aDc g x hx
 |c::cs,x,f,hc,hx,h0,hf=>by
  obtain⟨g,rfl⟩:∃ g,f=g+1:=⟨f-1,by simp at hf;omega⟩
  have hx0:0<x:=by rcases h0 with h | h;cases h;exact h
  have c1:=hc c List.mem_cons_self
  have c2:=c.toNat_lt
  have hv:0<aPl cs x:=by
   rw[aTo]
   have:0<128^cs.length:=Nat.pow_pos (by omega)
   have:0<x*128^cs.length:=Nat.mul_pos hx0 this
   omega
  have e1:((c.toNat-128)+128*aPl cs x) % 128+128=c.toNat:=by omega
  have e2:((c.toNat-128)+128*aPl cs x) / 128=aPl cs x:=by omega
  simp only[aPl]
  rw[aF8 g _ (by omega),e1,e2,aPk cs x g (fun d hd=>hc d (List.mem_cons_of_mem _ hd)) hx (.inr hx0) (by simp at hf;omega)]
  simp
theorem aSe:∀ (f n:Nat) (l:List UInt8),1≤n→aCr f n≠l++[0]
 |0,n,l,_=>by simp[aCr]
 |f+1,n,l,hn=>by
  by_cases h:n<128
  ·rw[aDc f n h]
   intro e
   cases l with
   |nil =>
    simp at e
    have:=congrArg UInt8.toNat e
    rw[UInt8.toNat_ofNat_of_lt' (by show n<256;omega)]at this
    have h0:(0:UInt8).toNat=0:=rfl
    omega
   |cons a l=>simp at e
  ·rw[aF8 f n h]
   intro e
   cases l with
   |nil =>
    rw[List.nil_append,List.cons.injEq]at e
    have h1:=congrArg UInt8.toNat e.1
    rw[UInt8.toNat_ofNat_of_lt' (by show n % 128+128<256;omega)]at h1
    have h0:(0:UInt8).toNat=0:=rfl
    omega
   |cons a l =>
    simp at e
    exact aSe f (n / 128) l (by omega) e.2
theorem bRu (b:List UInt8) (a:Int):[C.int .i64 (rvN b a),C.int .i64 (aCj b a),C.bool (bMp b a)]=bJq (aIc b a):=by
 unfold rvN aCj bMp
 cases aIc b a with
 |none=>rfl
 |some p=>rfl
theorem bT5 (n x i:Nat) (hn:n<128^i) (hx:x<256) (hi:i<5):ior .i64 (n:Int) (aXw .i64 (aIh .i64 (x:Int) 127) ((7*i:Nat):Int))=((n+x % 128*128^i:Nat):Int):=by
 have hp:(2:Nat)^(7*i)=128^i:=by rw[Nat.pow_mul]
 have hq:128^i≤128^4:=Nat.pow_le_pow_right (by omega) (by omega)
 have hm:=aRv (aIh .i64 (x:Int) 127) (7*i) (by omega)
 have i1:aIh .i64 (x:Int) 127=((x % 128:Nat):Int):=by rw[bKz];omega
 have hmul:x % 128*128^i≤127*128^i:=Nat.mul_le_mul_right _ (by omega)
 rw[i1]at hm ⊢
 have hp2:((x % 128:Nat):Int)*2^(7*i)=((x % 128*128^i:Nat):Int):=by rw[←hp];simp
 rw[hp2]at hm
 have:=aQb n (x % 128) (7*i) (by rw[hp];exact hn) (by rw[hp];omega) (n:Int) (aXw .i64 ((x % 128:Nat):Int) ((7*i:Nat):Int)) (by omega) (by rw[hm,hp];omega)
 rw[this,hp,aAd (by omega) (by omega)]
theorem bD4 (b:List UInt8) (a:Nat) (hb:b.length≤281474976710656) (ha:a≤9223372036854775807):∀ (m i n:Nat),i≤5→5<i+m→n<128^i →
  (aBf aNv aAa (sg [pS,pI] [rI,rI,rB]) Tryz.f159 [.r,.r,.l,.r,.b] m (aNc b a n i)).eval=some (bJq (bOz b a (5-i) i n)):=by
 intro m
 induction m with
 |zero=>intro i n h1 h2 h3;omega
 |succ m ih =>
  intro i n h1 h2 h3
  rw[aAi _ _ _ _ _ _ _ (by kernel_rfl),aM0]
  by_cases hi:i<5
  ·have hs:5-i=(5-(i+1))+1:=by omega
   have w1:IntKind.i64.wrap (IntKind.i64.wrap ((b.length:Int)-1)-i)=(b.length:Int)-1-i:=by
    rw[aAd (x:=(b.length:Int)-1) (by omega) (by omega),aAd (by omega) (by omega)]
   have w2:IntKind.i64.wrap ((i:Int)+1)=((i+1:Nat):Int):=by rw[aAd]<;>omega
   have hi':(i:Int)<5:=by omega
   rw[hs]
   simp only[bOz]
   by_cases hl:a+i<b.length
   ·have hin:inB (a:Int) 0 ((b.length:Int)-1-i)=true:=(aBg _ _ _).2 ⟨by omega,by omega⟩
    have w3:IntKind.i64.wrap ((a:Int)+i)=((a+i:Nat):Int):=by rw[aAd]<;>omega
    have w4:IntKind.i64.wrap (7*(i:Int))=((7*i:Nat):Int):=by rw[aAd]<;>omega
    have z1:(0:Int)≤((a+i:Nat):Int):=by omega
    have z2:(0:Int)≤((7*i:Nat):Int):=by omega
    have hx:=aGl b (a+i)
    have w5:IntKind.i64.wrap ((b.getD (a+i) 0).toNat:Int)=((b.getD (a+i) 0).toNat:Int):=by rw[aAd]<;>omega
    have w6:IntKind.i64.wrap (((a+i:Nat):Int)+1)=((a+i+1:Nat):Int):=by rw[aAd]<;>omega
    have ho:=bT5 n _ i h3 hx hi
    simp only[aA0,aA1,aA2,if_true,decide_eq_true_eq,Bool.and_eq_true,hi',w1,w2,w3,w4,w5,w6,hin,z1,z2,hl,Int.toNat_natCast,Int.ofNat_lt,and_self,ho]
    generalize (b.getD (a+i) 0).toNat=x at *
    have hpow:(0:Nat)<128^i:=Nat.pow_pos (by omega)
    by_cases hc:128≤x
    ·have hm:x % 128=x-128:=by omega
     have e:=ih (i+1) (n+(x-128)*128^i) (by omega) (by omega) (by
      have:(x-128)*128^i≤127*128^i:=Nat.mul_le_mul_right _ (by omega)
      rw[Nat.pow_succ];omega)
     rw[if_pos (show (128:Int)≤(x:Int) by omega),if_neg (show ¬x<128 by omega),hm]
     exact e
    ·have hm:x % 128=x:=by omega
     rw[if_neg (show ¬(128:Int)≤(x:Int) by omega),if_pos (show x<128 by omega),hm]
     by_cases h0:0<i∧x=0
     ·have hip:((0:Int)<i)=True:=eq_true (by omega)
      have hx0:((x:Int)=0)=True:=eq_true (by omega)
      simp only[hip,hx0,if_true]
      rw[if_pos (c:=(i>0∧x=0∨_)) (.inl ⟨h0.1,h0.2⟩)]
      rfl
     ·have hinn:inB ((n+x*128^i:Nat):Int) 0 1000000000=true↔¬1000000000<n+x*128^i:=by rw[aBg];omega
      have fin:(if inB ((n+x*128^i:Nat):Int) 0 1000000000=true then some [C.int .i64 ((n+x*128^i:Nat):Int),C.int .i64 ((a+i+1:Nat):Int),C.bool true]else some [C.int .i64 0,C.int .i64 0,C.bool false])=some (bJq (if i>0∧x=0∨1000000000<n+x*128^i then none else some (n+x*128^i,a+i+1))):=by
       by_cases hg:1000000000<n+x*128^i
       ·rw[if_neg (fun h=>(hinn.1 h) hg),if_pos (.inr hg)];rfl
       ·rw[if_pos (hinn.2 hg),if_neg (by omega)];rfl
      by_cases hip:(0:Int)<i
      ·have hx0:¬((x:Int)=0):=by omega
       rw[if_pos hip,if_neg hx0]
       exact fin
      ·rw[if_neg hip]
       exact fin
   ·have hin:¬(inB (a:Int) 0 ((b.length:Int)-1-i)=true):=fun h=>by have:=(aBg _ _ _).1 h;omega
    simp only[aA0,aA1,aA2,if_true,decide_eq_true_eq,hi',w1,hin,hl,if_false]
    rfl
  ·have:i=5:=by omega
   subst this
   simp[aA0,aA1,aA2,bOz,bJq]
theorem bQ0:aA6 Tryz.prog aNv:=aA5 (by simp[aIy,aC6])
theorem aZ1:aAn Tryz.prog 159 (sg [pS,pI] [rI,rI,rB]) aFu:=aA4 bQ0 aA7 Tryz.func159 (by kernel_rfl) fun cs outs hk h=>by
 unfold aFu at h
 split at h
 ·simp only[Option.some.injEq,Prod.mk.injEq,Bool.and_eq_true,decide_eq_true_eq]at h
  obtain⟨⟨h1,h2,h3⟩,rfl⟩:=h
  rename_i b a
  rw[aA9,bD3,bRu]
  simp only[aA0,if_true]
  by_cases ha:0≤a
  ·obtain⟨a,rfl⟩:=Int.eq_ofNat_of_zero_le ha
   have:=bD4 b a h1 (by omega) 9223372036854775808 0 0 (by omega) (by omega) (by omega)
   simp only[aIc,ha,if_true,Int.toNat_natCast]
   exact this
  ·rw[aAi _ _ _ _ _ 9223372036854775807 _ (by kernel_rfl),aM0]
   have hin:¬(inB a 0 (IntKind.i64.wrap (IntKind.i64.wrap ((b.length:Int)-1)-0))=true):=fun h=>by have:=(aBg _ _ _).1 h;omega
   simp only[aA0,aA1,aA2,if_true,hin,aIc,ha,if_false,decide_eq_true_eq]
   rfl
 ·cases h
theorem bBj (b:List UInt8) (a:Nat) (hb:b.length≤281474976710656) (ha:a≤b.length):∀ (m i:Nat),i≤5→5<i+m→a+i≤b.length→(∀ c,c∈(b.drop a).take i→128≤c.toNat) →
  (aBf aNn aAa (sg [pS,pI] [rI,rI,rB]) Tryz.f150 [.r,.r,.r,.l,.r,.b] m (aN5 b a (aPl ((b.drop a).take i) 0:Nat) i)).eval=some (bJq (bOz b a (5-i) i (aPl ((b.drop a).take i) 0))):=by
 intro m
 induction m with
 |zero=>intro i h1 h2 h3 h4;omega
 |succ m ih =>
  intro i h1 h2 h3 h4
  rw[aAi _ _ _ _ _ _ _ (by kernel_rfl),aVe]
  by_cases hi:i<5
  ·have hs:5-i=(5-(i+1))+1:=by omega
   have w2:IntKind.i64.wrap ((i:Int)+1)=((i+1:Nat):Int):=by rw[aAd]<;>omega
   have w3:IntKind.i64.wrap ((a:Int)+i)=((a+i:Nat):Int):=by rw[aAd]<;>omega
   have hi':(i:Int)<5:=by omega
   have hlen:((b.drop a).take i).length=i:=by simp;omega
   rw[hs]
   simp only[bOz]
   by_cases hl:a+i<b.length
   ·have w4:IntKind.i64.wrap (7*(i:Int))=((7*i:Nat):Int):=by rw[aAd]<;>omega
    have w4u:IntKind.u64.wrap ((7*i:Nat):Int)=((7*i:Nat):Int):=by rw[aOo]<;>omega
    have z1:(0:Int)≤((a+i:Nat):Int):=by omega
    have z2:(0:Int)≤((7*i:Nat):Int):=by omega
    have hx:=aGl b (a+i)
    have w5:IntKind.i64.wrap ((b.getD (a+i) 0).toNat:Int)=((b.getD (a+i) 0).toNat:Int):=by rw[aAd]<;>omega
    have w6:IntKind.i64.wrap (((a+i:Nat):Int)+1)=((a+i+1:Nat):Int):=by rw[aAd]<;>omega
    have hlt:=bR4 ((b.drop a).take i)
    rw[hlen]at hlt
    have ho:=bT5 _ _ i hlt hx hi
    have ee:(b.drop a).take (i+1)=(b.drop a).take i++[b.getD (a+i) 0]:=by
     rw[List.take_add_one]
     simp[List.getElem?_drop,List.getD_eq_getElem?_getD,hl]
    have ed:(b.take (a+i+1)).drop a=(b.drop a).take i++[b.getD (a+i) 0]:=by
     rw[←ee,List.take_drop]
     first | rfl | (congr 2;omega)
    have z3:((a+i+1:Nat):Int)≤(b.length:Int):=by omega
    have z4:(0:Int)≤((a+i+1:Nat):Int):=by omega
    have z5:(a:Int)≤((a+i+1:Nat):Int):=by omega
    have z6:(0:Int)≤(a:Int):=by omega
    have hl':((a+i:Nat):Int)<(b.length:Int):=by omega
    simp only[aA0,aA1,aA2,if_true,decide_eq_true_eq,Bool.and_eq_true,hi',w2,w3,w4,w4u,w5,w6,z1,z2,z3,z4,z5,z6,hl,hl',Int.toNat_natCast,and_self,ho,ed]
    by_cases hc:(b.getD (a+i) 0).toNat<128
    ·have hm:(b.getD (a+i) 0).toNat % 128=(b.getD (a+i) 0).toNat:=by omega
     have hlin:=aTo ((b.drop a).take i) (b.getD (a+i) 0).toNat
     rw[hlen]at hlin
     rw[if_pos (by omega),if_pos hc,hm,←hlin]
     have hvb:=aPk ((b.drop a).take i) (b.getD (a+i) 0).toNat 5 h4 hc
     have hof:UInt8.ofNat (b.getD (a+i) 0).toNat=b.getD (a+i) 0:=by simp
     rw[hof,hlen]at hvb
     by_cases hg:1000000000<aPl ((b.drop a).take i) (b.getD (a+i) 0).toNat
     ·have hvt:aAr ((aPl ((b.drop a).take i) (b.getD (a+i) 0).toNat:Nat):Int)=[]:=by
       unfold aAr;rw[if_neg];intro h;have:=(aBg _ _ _).1 h;omega
      rw[hvt,if_pos (by rfl),if_pos (.inr hg)]
      rfl
     ·have hvt:aAr ((aPl ((b.drop a).take i) (b.getD (a+i) 0).toNat:Nat):Int)=aCr 5 (aPl ((b.drop a).take i) (b.getD (a+i) 0).toNat):=by
       unfold aAr;rw[if_pos ((aBg _ _ _).2 ⟨by omega,by omega⟩),Int.toNat_natCast]
      rw[hvt]
      by_cases h0:0<i∧(b.getD (a+i) 0).toNat=0
      ·rw[if_pos (c:=(i>0∧(b.getD (a+i) 0).toNat=0∨_)) (.inl ⟨h0.1,h0.2⟩)]
       have hb0:b.getD (a+i) 0=0:=by have:=h0.2;exact UInt8.toNat_inj.1 (by simpa using this)
       have hne:aCr 5 (aPl ((b.drop a).take i) (b.getD (a+i) 0).toNat)≠(b.drop a).take i++[b.getD (a+i) 0]:=by
        rw[hb0]
        by_cases hv:1≤aPl ((b.drop a).take i) (0:UInt8).toNat
        ·exact aSe 5 _ _ hv
        ·have:aPl ((b.drop a).take i) (0:UInt8).toNat=0:=by omega
         rw[this]
         intro e
         have:=congrArg List.length e
         rw[aDc 4 0 (by omega)]at this
         simp at this
         omega
       have hb1:(aCr 5 (aPl ((b.drop a).take i) (b.getD (a+i) 0).toNat)==(b.drop a).take i++[b.getD (a+i) 0])=false:=by simpa using hne
       rw[hb1]
       split<;>rfl
      ·have hvb2:=hvb (by
        by_cases h:i=0
        ·left;exact List.length_eq_zero_iff.1 (by rw[hlen];exact h)
        ·right;omega) (by omega)
       rw[hvb2]
       have hnil:((b.drop a).take i++[b.getD (a+i) 0]==([]:List UInt8))=false:=by
        rw[beq_eq_false_iff_ne];simp
       have hcond:¬(i>0∧(b.getD (a+i) 0).toNat=0∨1000000000<aPl ((b.drop a).take i) (b.getD (a+i) 0).toNat):=by omega
       rw[hnil,if_neg hcond]
       simp[bJq]
    ·have hm:(b.getD (a+i) 0).toNat % 128=(b.getD (a+i) 0).toNat-128:=by omega
     have hsn:=bEx ((b.drop a).take i) (b.getD (a+i) 0) 0
     rw[Nat.mul_zero,Nat.add_zero,aTo ((b.drop a).take i) ((b.getD (a+i) 0).toNat-128),hlen]at hsn
     have e:=ih (i+1) (by omega) (by omega) (by omega) (by
      rw[ee]
      intro c hcm
      rcases List.mem_append.1 hcm with h | h
      ·exact h4 c h
      ·have:c=b.getD (a+i) 0:=by simpa using h
       rw[this];omega)
     rw[ee,hsn]at e
     rw[if_neg (by omega),if_neg hc,hm]
     exact e
   ·have hl':¬(((a+i:Nat):Int)<(b.length:Int)):=by omega
    simp only[aA0,aA1,aA2,if_true,decide_eq_true_eq,hi',w3,hl',hl,if_false]
    rfl
  ·have:i=5:=by omega
   subst this
   simp[aA0,aA1,aA2,bOz,bJq]
theorem bOq:aA6 Tryz.prog aNn:=aA5 (by simp[aD9,aIa])
theorem aYe:aAn Tryz.prog 150 (sg [pS,pI] [rI,rI,rB]) aFu:=aA4 bOq aA7 Tryz.func150 (by kernel_rfl) fun cs outs hk h=>by
 unfold aFu at h
 split at h
 ·simp only[Option.some.injEq,Prod.mk.injEq,Bool.and_eq_true,decide_eq_true_eq]at h
  obtain⟨⟨h1,h2,h3⟩,rfl⟩:=h
  rename_i b a
  rw[aA9,bBi,bRu]
  by_cases hin:inB a 0 (b.length:Int)=true
  ·have ha:=(aBg _ _ _).1 hin
   obtain⟨a,rfl⟩:=Int.eq_ofNat_of_zero_le ha.1
   have:=bBj b a h1 (by omega) 9223372036854775808 0 (by omega) (by omega) (by omega) (by simp)
   simp only[aA0,aA1,if_true,hin,aIc,ha.1,Int.toNat_natCast]
   exact this
  ·simp only[aA0,aA1,aA2,if_true,hin,aIc]
   by_cases ha:0≤a
   ·have:¬(a.toNat+0<b.length):=fun h=>hin ((aBg _ _ _).2 ⟨ha,by omega⟩)
    simp only[ha,if_true,bOz,this,if_false]
    rfl
   ·simp only[ha,if_false]
    rfl
 ·cases h
noncomputable section
def aEc (b t:List UInt8):Bool:=decide (b.take t.length=t)
def aFv:aC3:=fun cs=>match cs with
 |[.str b,.str t]=>some (true,[.bool (aEc b t)])
 |_=>none
def aR4:Env:=mkE [] []
def aSy:Env:=mkE [] [(172,(sg [pS,pS] [rB]),aFv)]
def aFm (b:List UInt8) (at':Int) (t:List UInt8):Bool:=decide (0≤at'∧at'≤b.length∧(b.drop at'.toNat).take t.length=t)
def aQe:aC3:=fun cs=>match cs with
 |[.str b,.int .i64 a,.str t]=>some (true,[.bool (aFm b a t)])
 |_=>none
def bNx:Env:=mkE [] [(78,(sg [pI,pI,pI] [rB]),aE3),(128,(sg [pS,pS] [rB]),aFv)]
def aEq (place n:Int):List UInt8:=aAh n 4++aAh (aAs 0 (aAh place 8++aAh n 4):Nat) 4
def aAe (v place:Int) (r:List UInt8):List UInt8 :=
 if inB v 1 2&&inB place 0 1000000000&&decide (r.length≤60)then (if v=2 then aEq place r.length else aAr r.length)++r++aAh (aAs 0 r:Nat) 4 else[]
def aAz (v place:Int):List UInt8 :=
 if inB v 1 2&&inB place 0 1000000000 then (if v=1 then[255,255,255,255,15]else aEq place 4294967295)else[]
def aKr (v place:Int) (b:List UInt8) (a:Int):Bool:=decide (aAz v place≠[])&&aFm b a (aAz v place)
def aPt:aC3:=fun cs=>match cs with
 |[.int .i64 p,.int .i64 n]=>some (decide (-9223372036854775808≤p)&&decide (p≤9223372036854775807)&&(decide (-9223372036854775808≤n)&&decide (n≤9223372036854775807)),[.str (aEq p n)])
 |_=>none
def aGg:aC3:=fun cs=>match cs with
 |[.int .i64 v,.int .i64 p,.str r]=>some (decide (r.length≤281474976710656),[.str (aAe v p r)])
 |_=>none
def aE5:aC3:=fun cs=>match cs with
 |[.int .i64 v,.int .i64 p]=>some (true,[.str (aAz v p)])
 |_=>none
def aH2:aC3:=fun cs=>match cs with
 |[.int .i64 v,.int .i64 p,.str b,.int .i64 a]=>some (decide (b.length≤281474976710656),[.bool (aKr v p b a)])
 |_=>none
def bNv:Env:=mkE [] [(181,(sg [pS] [rI]),aDk),(161,(sg [pI,pI] [rS]),aFj)]
def aSz:Env:=mkE [] [(53,(sg [pI,pI,pI] [rB]),aE3),(151,(sg [pS] [rI]),aDk),(145,(sg [pI,pI] [rS]),aFj),(152,(sg [pI] [rS]),aD5)]
def aT2:Env:=mkE [] [(63,(sg [pI] [rB]),aDj),(181,(sg [pS] [rI]),aDk),(97,(sg [pI] [rB]),aCh),(161,(sg [pI,pI] [rS]),aFj),(182,(sg [pI] [rS]),aD5),(183,(sg [pI,pI] [rS]),aPt)]
def bAh:Env:=mkE [] [(53,(sg [pI,pI,pI] [rB]),aE3),(151,(sg [pS] [rI]),aDk),(145,(sg [pI,pI] [rS]),aFj)]
def bAl:Env:=mkE [] [(63,(sg [pI] [rB]),aDj),(97,(sg [pI] [rB]),aCh),(183,(sg [pI,pI] [rS]),aPt)]
def bI7:Env:=mkE [] [(53,(sg [pI,pI,pI] [rB]),aE3),(149,(sg [pI,pI] [rS]),aE5)]
def bIg:Env:=mkE [] [(158,(sg [pS,pI,pS] [rB]),aQe),(157,(sg [pI,pI] [rS]),aE5)]
end
theorem aT6 (H:List Pt→Nat→St→T (List C)) (b:List UInt8) (t:List UInt8):aAg aR4 aAa (sg [pS,pS] [rB]) Tryz.f172 H [C.str b,C.str t]=(.must true (.ask (decide ((↑t.length:Int)≤(↑b.length:Int))) (.must (decide ((0:Int)≤(↑t.length:Int))&&decide ((↑t.length:Int)≤(↑b.length:Int))) (.ask (List.drop 0 (List.take (↑t.length:Int).toNat b)==t) (.must true (.ret [C.bool true])) (.must true (.ret [C.bool false])))) (.must true (.ret [C.bool false])))):=by kernel_rfl
theorem aVn (H:List Pt→Nat→St→T (List C)) (b:List UInt8) (t:List UInt8):aAg aSy aAa (sg [pS,pS] [rB]) Tryz.f128 H [C.str b,C.str t]=(.must true (.must true (.must true (.must true (.ask (aEc b t) (.must true (.ret [C.bool true])) (.must true (.ret [C.bool false]))))))):=by kernel_rfl
theorem bLj (H:List Pt→Nat→St→T (List C)) (b:List UInt8) (a:Int) (t:List UInt8):aAg bNx aAa (sg [pS,pI,pS] [rB]) Tryz.f158 H [C.str b,C.int .i64 a,C.str t]=(.must true (.must true (.must true (.must true (.ask (inB a 0 (↑b.length:Int)) (.must (decide ((0:Int)≤a)&&decide (a≤(↑b.length:Int))) (.must true (.must true (.must true (.ask (aEc (List.drop a.toNat (List.take b.length b)) t) (.must true (.ret [C.bool true])) (.must true (.ret [C.bool false]))))))) (.must true (.ret [C.bool false]))))))):=by kernel_rfl
theorem bL2 (H:List Pt→Nat→St→T (List C)) (p:Int) (n:Int):aAg bNv aAa (sg [pI,pI] [rS]) Tryz.f183 H [C.int .i64 p,C.int .i64 n]=(.must true (.must true (.must (decide ((-9223372036854775808:Int)≤n)&&decide (n≤(9223372036854775807:Int))) (.must true (.must true (.must (decide ((-9223372036854775808:Int)≤p)&&decide (p≤(9223372036854775807:Int))) (.must true (.must (decide ((aAh p 8).length+(aAh n 4).length≤9223372036854775807)) (.must true (.must (decide ((aAh p 8++aAh n 4).length≤281474976710656)) (.must true (.must true (.must (decide ((-9223372036854775808:Int)≤Int.ofNat (aAs 0 (aAh p 8++aAh n 4)))&&decide (Int.ofNat (aAs 0 (aAh p 8++aAh n 4))≤(9223372036854775807:Int))) (.must true (.must (decide ((aAh n 4).length+(aAh (Int.ofNat (aAs 0 (aAh p 8++aAh n 4))) (4:Int)).length≤9223372036854775807)) (.must true (.ret [C.str (aAh n 4++aAh (Int.ofNat (aAs 0 (aAh p 8++aAh n 4))) (4:Int))]))))))))))))))))):=by kernel_rfl
theorem aVo (H:List Pt→Nat→St→T (List C)) (v:Int) (p:Int) (r:List UInt8):aAg aSz aAa (sg [pI,pI,pS] [rS]) Tryz.f117 H [C.int .i64 v,C.int .i64 p,C.str r]=(.must true (.must true (.must true (.must true (.ask (inB v 1 2) (.must true (.must true (.must true (.ask (inB p 0 1000000000) (.ask (decide ((60:Int)<(↑r.length:Int))) (.must true (.ret [C.str []])) (.must true (.must (decide (r.length≤281474976710656)) (.must true (.must true (.must (decide ((-9223372036854775808:Int)≤Int.ofNat (aAs 0 r))&&decide (Int.ofNat (aAs 0 r)≤(9223372036854775807:Int))) (.must true (.ask (decide (v=(1:Int))) (.must true (.must true (.must true (.must (decide ((aAr (↑r.length:Int)).length+r.length≤9223372036854775807)) (.must (decide ((aAr (↑r.length:Int)++r).length+(aAh (Int.ofNat (aAs 0 r)) (4:Int)).length≤9223372036854775807)) (.must true (.ret [C.str (aAr (↑r.length:Int)++r++aAh (Int.ofNat (aAs 0 r)) (4:Int))]))))))) (.must true (.must (decide ((-9223372036854775808:Int)≤(↑r.length:Int))&&decide ((↑r.length:Int)≤(9223372036854775807:Int))) (.must true (.must true (.must (decide ((-9223372036854775808:Int)≤p)&&decide (p≤(9223372036854775807:Int))) (.must true (.must (decide ((aAh p 8).length+(aAh (↑r.length:Int) 4).length≤9223372036854775807)) (.must true (.must (decide ((aAh p 8++aAh (↑r.length:Int) 4).length≤281474976710656)) (.must true (.must true (.must (decide ((-9223372036854775808:Int)≤Int.ofNat (aAs 0 (aAh p 8++aAh (↑r.length:Int) 4)))&&decide (Int.ofNat (aAs 0 (aAh p 8++aAh (↑r.length:Int) 4))≤(9223372036854775807:Int))) (.must true (.must (decide ((aAh (↑r.length:Int) 4).length+(aAh (Int.ofNat (aAs 0 (aAh p 8++aAh (↑r.length:Int) 4))) (4:Int)).length≤9223372036854775807)) (.must (decide ((aAh (↑r.length:Int) 4++aAh (Int.ofNat (aAs 0 (aAh p 8++aAh (↑r.length:Int) 4))) (4:Int)).length+r.length≤9223372036854775807)) (.must (decide ((aAh (↑r.length:Int) 4++aAh (Int.ofNat (aAs 0 (aAh p 8++aAh (↑r.length:Int) 4))) (4:Int)++r).length+(aAh (Int.ofNat (aAs 0 r)) (4:Int)).length≤9223372036854775807)) (.must true (.ret [C.str (aAh (↑r.length:Int) 4++aAh (Int.ofNat (aAs 0 (aAh p 8++aAh (↑r.length:Int) 4))) (4:Int)++r++aAh (Int.ofNat (aAs 0 r)) (4:Int))])))))))))))))))))))))))))) (.must true (.ret [C.str []])))))) (.must true (.ret [C.str []]))))))):=by kernel_rfl
theorem aWm (H:List Pt→Nat→St→T (List C)) (v:Int) (p:Int) (r:List UInt8):aAg aT2 aAa (sg [pI,pI,pS] [rS]) Tryz.f141 H [C.int .i64 v,C.int .i64 p,C.str r]=(.must true (.must true (.must true (.must true (.ask (inB v 1 2) (.must true (.must true (.must true (.ask (inB p 0 1000000000) (.ask (decide ((60:Int)<(↑r.length:Int))) (.must true (.ret [C.str []])) (.must true (.must true (.must true (.ask (decide (v=(2:Int))) (.must true (.must (decide ((-9223372036854775808:Int)≤p)&&decide (p≤(9223372036854775807:Int))&&(decide ((-9223372036854775808:Int)≤(↑r.length:Int))&&decide ((↑r.length:Int)≤(9223372036854775807:Int)))) (.must true (.must (decide ((aEq p (↑r.length:Int)).length+r.length≤9223372036854775807)) (.must true (.must (decide (r.length≤281474976710656)) (.must true (.must true (.must (decide ((-9223372036854775808:Int)≤Int.ofNat (aAs 0 r))&&decide (Int.ofNat (aAs 0 r)≤(9223372036854775807:Int))) (.must true (.must (decide ((aEq p (↑r.length:Int)++r).length+(aAh (Int.ofNat (aAs 0 r)) (4:Int)).length≤9223372036854775807)) (.must true (.ret [C.str (aEq p (↑r.length:Int)++r++aAh (Int.ofNat (aAs 0 r)) (4:Int))]))))))))))))) (.must (decide ((aAr (↑r.length:Int)).length+r.length≤9223372036854775807)) (.must true (.must (decide (r.length≤281474976710656)) (.must true (.must true (.must (decide ((-9223372036854775808:Int)≤Int.ofNat (aAs 0 r))&&decide (Int.ofNat (aAs 0 r)≤(9223372036854775807:Int))) (.must true (.must (decide ((aAr (↑r.length:Int)++r).length+(aAh (Int.ofNat (aAs 0 r)) (4:Int)).length≤9223372036854775807)) (.must true (.ret [C.str (aAr (↑r.length:Int)++r++aAh (Int.ofNat (aAs 0 r)) (4:Int))]))))))))))))))) (.must true (.ret [C.str []])))))) (.must true (.ret [C.str []]))))))):=by kernel_rfl
theorem bBy (H:List Pt→Nat→St→T (List C)) (v:Int) (p:Int):aAg bAh aAa (sg [pI,pI] [rS]) Tryz.f149 H [C.int .i64 v,C.int .i64 p]=(.must true (.must true (.must true (.must true (.ask (inB v 1 2) (.must true (.must true (.must true (.ask (inB p 0 1000000000) (.ask (decide (v=(1:Int))) (.must true (.ret [C.str [(255:UInt8),255,255,255,15]])) (.must true (.must true (.must true (.must true (.must (decide ((-9223372036854775808:Int)≤p)&&decide (p≤(9223372036854775807:Int))) (.must true (.must (decide ((aAh p 8).length+(3+1)≤9223372036854775807)) (.must true (.must (decide ((aAh p 8++aAh 4294967295 4).length≤281474976710656)) (.must true (.must true (.must (decide ((-9223372036854775808:Int)≤Int.ofNat (aAs 0 (aAh p 8++aAh 4294967295 4)))&&decide (Int.ofNat (aAs 0 (aAh p 8++aAh 4294967295 4))≤(9223372036854775807:Int))) (.must true (.must (decide (3+1+(aAh (Int.ofNat (aAs 0 (aAh p 8++aAh 4294967295 4))) (4:Int)).length≤9223372036854775807)) (.must true (.ret [C.str (aAh 4294967295 4++aAh (Int.ofNat (aAs 0 (aAh p 8++aAh 4294967295 4))) (4:Int))]))))))))))))))))) (.must true (.ret [C.str []])))))) (.must true (.ret [C.str []]))))))):=by kernel_rfl
theorem bDh (H:List Pt→Nat→St→T (List C)) (v:Int) (p:Int):aAg bAl aAa (sg [pI,pI] [rS]) Tryz.f157 H [C.int .i64 v,C.int .i64 p]=(.must true (.must true (.must true (.must true (.ask (inB v 1 2) (.must true (.must true (.must true (.ask (inB p 0 1000000000) (.ask (decide (v=(1:Int))) (.must true (.ret [C.str [(255:UInt8),255,255,255,15]])) (.must true (.must (decide ((-9223372036854775808:Int)≤p)&&decide (p≤(9223372036854775807:Int))&&(decide ((-9223372036854775808:Int)≤(4294967295:Int))&&decide ((4294967295:Int)≤(9223372036854775807:Int)))) (.must true (.must true (.ret [C.str (aEq p 4294967295)])))))) (.must true (.ret [C.str []])))))) (.must true (.ret [C.str []]))))))):=by kernel_rfl
theorem bFi (H:List Pt→Nat→St→T (List C)) (v:Int) (p:Int) (b:List UInt8) (a:Int):aAg bI7 aAa (sg [pI,pI,pS,pI] [rB]) Tryz.f113 H [C.int .i64 v,C.int .i64 p,C.str b,C.int .i64 a]=(.must true (.must true (.must true (.must true (.ask (!aAz v p==[]) (.must true (.must true (.must true (.ask (inB a 0 (IntKind.i64.wrap ((↑b.length:Int)-(↑(aAz v p).length:Int)))) (.must (decide ((0:Int)≤IntKind.i64.wrap (a+(↑(aAz v p).length:Int)))&&decide (IntKind.i64.wrap (a+(↑(aAz v p).length:Int))≤(↑b.length:Int))&&(decide ((0:Int)≤a)&&decide (a≤IntKind.i64.wrap (a+(↑(aAz v p).length:Int))))) (.ask (List.drop a.toNat (List.take (IntKind.i64.wrap (a+(↑(aAz v p).length:Int))).toNat b)==aAz v p) (.must true (.ret [C.bool true])) (.must true (.ret [C.bool false])))) (.must true (.ret [C.bool false])))))) (.must true (.ret [C.bool false]))))))):=by kernel_rfl
theorem bH0 (H:List Pt→Nat→St→T (List C)) (v:Int) (p:Int) (b:List UInt8) (a:Int):aAg bIg aAa (sg [pI,pI,pS,pI] [rB]) Tryz.f121 H [C.int .i64 v,C.int .i64 p,C.str b,C.int .i64 a]=(.must true (.must true (.must true (.must true (.ask (!aAz v p==[]) (.must true (.must true (.must true (.ask (aFm b a (aAz v p)) (.must true (.ret [C.bool true])) (.must true (.ret [C.bool false])))))) (.must true (.ret [C.bool false]))))))):=by kernel_rfl
theorem bB6:aA6 Tryz.prog aR4:=aA5 (by simp[])
theorem aRg:aAn Tryz.prog 172 (sg [pS,pS] [rB]) aFv:=aA4 bB6 aA7 Tryz.func172 (by kernel_rfl) fun cs outs hk h=>by
 unfold aFv at h
 split at h
 ·simp only[Option.some.injEq,Prod.mk.injEq,true_and]at h
  rename_i b t
  rw[←h,aA9,aT6]
  simp only[aA0,aA1,aA2,if_true,decide_eq_true_eq,Bool.and_eq_true,Int.toNat_natCast,List.drop_zero,beq_iff_eq,Int.ofNat_le]
  by_cases hl:t.length≤b.length
  ·have z:(0:Int)≤(t.length:Int):=by omega
   by_cases he:b.take t.length=t
   ·have:aEc b t=true:=by unfold aEc;rw[decide_eq_true he]
    simp only[hl,z,he,if_true,and_self,this]
   ·have:aEc b t=false:=by unfold aEc;rw[decide_eq_false he]
    simp only[hl,z,he,if_true,if_false,and_self,this]
  ·have:aEc b t=false:=by
    unfold aEc
    rw[decide_eq_false]
    intro he
    have:=congrArg List.length he
    simp at this
    omega
   simp only[hl,if_false,this]
 ·cases h
theorem bFm:aA6 Tryz.prog aSy:=aA5 (by simp[aRg])
theorem aKn:aAn Tryz.prog 128 (sg [pS,pS] [rB]) aFv:=aA4 bFm aA7 Tryz.func128 (by kernel_rfl) fun cs outs hk h=>by
 unfold aFv at h
 split at h
 ·simp only[Option.some.injEq,Prod.mk.injEq,true_and]at h
  rename_i b t
  rw[←h,aA9,aVn]
  by_cases hp:aEc b t=true<;>simp[aA0,aA1,aA2,hp]
 ·cases h
theorem aFi (b:List UInt8) (a:Int) (t:List UInt8):aFm b a t=true↔(0≤a∧a≤b.length∧(b.drop a.toNat).take t.length=t):=by simp[aFm]
theorem bWo:aA6 Tryz.prog bNx:=aA5 (by simp[aIy,aKn])
theorem aSt:aAn Tryz.prog 158 (sg [pS,pI,pS] [rB]) aQe:=aA4 bWo aA7 Tryz.func158 (by kernel_rfl) fun cs outs hk h=>by
 unfold aQe at h
 split at h
 ·simp only[Option.some.injEq,Prod.mk.injEq,true_and]at h
  rename_i b a t
  rw[←h,aA9,bLj]
  simp only[aA0,aA1,aA2,if_true,decide_eq_true_eq,Bool.and_eq_true,List.take_length]
  by_cases hin:inB a 0 (b.length:Int)=true
  ·have hh:=(aBg _ _ _).1 hin
   have e:aFm b a t=aEc (b.drop a.toNat) t:=by
    unfold aFm aEc
    simp[hh]
   simp only[hin,hh,if_true,and_self,e]
   by_cases hp:aEc (b.drop a.toNat) t=true<;>simp[hp]
  ·have e:aFm b a t=false:=by
    cases hx:aFm b a t with
    |true=>have:=(aFi _ _ _).1 hx;exact absurd ((aBg _ _ _).2 ⟨this.1,this.2.1⟩) hin
    |false=>rfl
   simp only[hin,if_false,e]
   rfl
 ·cases h
theorem aSf:∀ (k n:Nat),(aCr k n).length≤k
 |0,_=>by simp[aCr]
 |k+1,n=>by
  by_cases h:n<128
  ·rw[aDc k n h];simp
  ·rw[aF8 k n h];have:=aSf k (n / 128);simp;omega
theorem aCl (n:Int):(aAr n).length≤5:=by
 unfold aAr;split
 ·exact aSf 5 _
 ·simp
theorem aOy (p n:Int):(aEq p n).length≤16:=by
 unfold aEq
 have:=aB7 n 4
 have:=aB7 (aAs 0 (aAh p 8++aAh n 4):Nat) 4
 rw[List.length_append];omega
theorem aK3 (v p:Int):(aAz v p).length≤16:=by
 unfold aAz
 have:=aOy p 4294967295
 split
 ·split
  ·simp
  ·exact this
 ·simp
theorem bWk:aA6 Tryz.prog bNv:=aA5 (by simp[aHx,aEj])
theorem aSr:aAn Tryz.prog 183 (sg [pI,pI] [rS]) aPt:=aA4 bWk aA7 Tryz.func183 (by kernel_rfl) fun cs outs hk h=>by
 unfold aPt at h
 split at h
 ·simp only[Option.some.injEq,Prod.mk.injEq,Bool.and_eq_true,decide_eq_true_eq]at h
  obtain⟨⟨⟨a1,a2⟩,a3,a4⟩,rfl⟩:=h
  rename_i p n
  rw[aA9,bL2]
  have l1:=aB7 p 8
  have l2:=aB7 n 4
  have l3:=aB7 (aAs 0 (aAh p 8++aAh n 4):Nat) 4
  have c1:=aDq 0 (aAh p 8++aAh n 4) (by omega)
  simp only[aA0,aA1,aA2,if_true,decide_eq_true_eq,Bool.and_eq_true,List.length_append,Int.ofNat_eq_natCast]
  repeat rw[if_pos (by omega)]
  rfl
 ·cases h
theorem bFq:aA6 Tryz.prog aSz:=aA5 (by simp[aD9,aHs,aEh,aIa])
theorem aKo:aAn Tryz.prog 117 (sg [pI,pI,pS] [rS]) aGg:=aA4 bFq aA7 Tryz.func117 (by kernel_rfl) fun cs outs hk h=>by
 unfold aGg at h
 split at h
 ·simp only[Option.some.injEq,Prod.mk.injEq,decide_eq_true_eq]at h
  obtain⟨h1,rfl⟩:=h
  rename_i v p r
  rw[aA9,aVo]
  by_cases hv:inB v 1 2=true
  ·by_cases hp:inB p 0 1000000000=true
   ·have hv':=(aBg _ _ _).1 hv
    have hp':=(aBg _ _ _).1 hp
    by_cases hr:(60:Int)<r.length
    ·have:¬r.length≤60:=by omega
     simp[aA0,aA1,aA2,hv,hp,hr,aAe,this]
    ·have hr':r.length≤60:=by omega
     have l1:=aB7 p 8
     have l2:=aB7 (r.length:Int) 4
     have l3:=aB7 (aAs 0 (aAh p 8++aAh (r.length:Int) 4):Nat) 4
     have l4:=aB7 (aAs 0 r:Nat) 4
     have l5:=aCl (r.length:Int)
     have c1:=aDq 0 (aAh p 8++aAh (r.length:Int) 4) (by omega)
     have c2:=aDq 0 r (by omega)
     by_cases h1:v=1
     ·have h1t:=eq_true h1
      have e:aAe v p r=aAr (r.length:Int)++r++aAh (aAs 0 r:Nat) 4:=by
       unfold aAe;rw[hv,hp,decide_eq_true hr',if_neg (show ¬v=2 by omega)];rfl
      rw[e]
      simp only[aA0,aA1,aA2,if_true,hv,hp,hr,h1t,if_false,decide_eq_true_eq,Bool.and_eq_true,List.length_append,Int.ofNat_eq_natCast]
      repeat rw[if_pos (by omega)]
     ·have e:aAe v p r=aEq p (r.length:Int)++r++aAh (aAs 0 r:Nat) 4:=by
       unfold aAe;rw[hv,hp,decide_eq_true hr',if_pos (show v=2 by omega)];rfl
      rw[e]
      unfold aEq
      simp only[aA0,aA1,aA2,if_true,hv,hp,hr,h1,if_false,decide_eq_true_eq,Bool.and_eq_true,List.length_append,Int.ofNat_eq_natCast]
      repeat rw[if_pos (by omega)]
   ·simp[aA0,aA1,aA2,hv,hp,aAe]
  ·simp[aA0,aA1,aA2,hv,aAe]
 ·cases h
theorem bH6:aA6 Tryz.prog aT2:=aA5 (by simp[aDm,aHx,aC6,aEj,aIi,aSr])
theorem aKw:aAn Tryz.prog 141 (sg [pI,pI,pS] [rS]) aGg:=aA4 bH6 aA7 Tryz.func141 (by kernel_rfl) fun cs outs hk h=>by
 unfold aGg at h
 split at h
 ·simp only[Option.some.injEq,Prod.mk.injEq,decide_eq_true_eq]at h
  obtain⟨h1,rfl⟩:=h
  rename_i v p r
  rw[aA9,aWm]
  by_cases hv:inB v 1 2=true
  ·by_cases hp:inB p 0 1000000000=true
   ·have hv':=(aBg _ _ _).1 hv
    have hp':=(aBg _ _ _).1 hp
    by_cases hr:(60:Int)<r.length
    ·have:¬r.length≤60:=by omega
     simp[aA0,aA1,aA2,hv,hp,hr,aAe,this]
    ·have hr':r.length≤60:=by omega
     have l1:=aOy p (r.length:Int)
     have l4:=aB7 (aAs 0 r:Nat) 4
     have l5:=aCl (r.length:Int)
     have c2:=aDq 0 r (by omega)
     by_cases h1:v=2
     ·have h1t:=eq_true h1
      have e:aAe v p r=aEq p (r.length:Int)++r++aAh (aAs 0 r:Nat) 4:=by
       unfold aAe;rw[hv,hp,decide_eq_true hr',if_pos h1];rfl
      rw[e]
      simp only[aA0,aA1,aA2,if_true,hv,hp,hr,h1t,if_false,decide_eq_true_eq,Bool.and_eq_true,List.length_append,Int.ofNat_eq_natCast]
      repeat rw[if_pos (by omega)]
     ·have e:aAe v p r=aAr (r.length:Int)++r++aAh (aAs 0 r:Nat) 4:=by
       unfold aAe;rw[hv,hp,decide_eq_true hr',if_neg h1];rfl
      rw[e]
      simp only[aA0,aA1,aA2,if_true,hv,hp,hr,h1,if_false,decide_eq_true_eq,Bool.and_eq_true,List.length_append,Int.ofNat_eq_natCast]
      repeat rw[if_pos (by omega)]
   ·simp[aA0,aA1,aA2,hv,hp,aAe]
  ·simp[aA0,aA1,aA2,hv,aAe]
 ·cases h
theorem bOy:aA6 Tryz.prog bAh:=aA5 (by simp[aD9,aHs,aEh])
theorem aOb:aAn Tryz.prog 149 (sg [pI,pI] [rS]) aE5:=aA4 bOy aA7 Tryz.func149 (by kernel_rfl) fun cs outs hk h=>by
 unfold aE5 at h
 split at h
 ·simp only[Option.some.injEq,Prod.mk.injEq,true_and]at h
  rename_i v p
  rw[←h,aA9,bBy]
  by_cases hv:inB v 1 2=true
  ·by_cases hp:inB p 0 1000000000=true
   ·have hp':=(aBg _ _ _).1 hp
    have l1:=aB7 p 8
    have l2:=aB7 4294967295 4
    have l3:=aB7 (aAs 0 (aAh p 8++aAh 4294967295 4):Nat) 4
    have c1:=aDq 0 (aAh p 8++aAh 4294967295 4) (by omega)
    by_cases h1:v=1
    ·have h1t:=eq_true h1
     have e:aAz v p=[255,255,255,255,15]:=by unfold aAz;rw[hv,hp,if_pos h1];rfl
     rw[e]
     simp only[aA0,aA1,aA2,if_true,hv,hp,h1t,decide_true]
    ·have e:aAz v p=aEq p 4294967295:=by unfold aAz;rw[hv,hp,if_neg h1];rfl
     rw[e]
     unfold aEq
     simp only[aA0,aA1,aA2,if_true,hv,hp,h1,if_false,decide_eq_true_eq,Bool.and_eq_true,List.length_append,Int.ofNat_eq_natCast]
     repeat rw[if_pos (by omega)]
   ·simp[aA0,aA1,aA2,hv,hp,aAz]
  ·simp[aA0,aA1,aA2,hv,aAz]
 ·cases h
theorem bQ6:aA6 Tryz.prog bAl:=aA5 (by simp[aDm,aC6,aSr])
theorem aOh:aAn Tryz.prog 157 (sg [pI,pI] [rS]) aE5:=aA4 bQ6 aA7 Tryz.func157 (by kernel_rfl) fun cs outs hk h=>by
 unfold aE5 at h
 split at h
 ·simp only[Option.some.injEq,Prod.mk.injEq,true_and]at h
  rename_i v p
  rw[←h,aA9,bDh]
  by_cases hv:inB v 1 2=true
  ·by_cases hp:inB p 0 1000000000=true
   ·have hp':=(aBg _ _ _).1 hp
    by_cases h1:v=1
    ·have h1t:=eq_true h1
     have e:aAz v p=[255,255,255,255,15]:=by unfold aAz;rw[hv,hp,if_pos h1];rfl
     rw[e]
     simp[aA0,aA1,aA2,hv,hp,h1t]
    ·have e:aAz v p=aEq p 4294967295:=by unfold aAz;rw[hv,hp,if_neg h1];rfl
     rw[e]
     simp only[aA0,aA1,aA2,if_true,hv,hp,h1,if_false,decide_eq_true_eq,Bool.and_eq_true]
     repeat rw[if_pos (by omega)]
   ·simp[aA0,aA1,aA2,hv,hp,aAz]
  ·simp[aA0,aA1,aA2,hv,aAz]
 ·cases h
theorem bRr:aA6 Tryz.prog bI7:=aA5 (by simp[aD9,aOb])
theorem bBt:aAn Tryz.prog 113 (sg [pI,pI,pS,pI] [rB]) aH2:=aA4 bRr aA7 Tryz.func113 (by kernel_rfl) fun cs outs hk h=>by
 unfold aH2 at h
 split at h
 ·simp only[Option.some.injEq,Prod.mk.injEq,decide_eq_true_eq]at h
  obtain⟨h1,rfl⟩:=h
  rename_i v p b a
  rw[aA9,bFi]
  have lm:=aK3 v p
  unfold aKr
  generalize aAz v p=m at *
  by_cases hm:m=[]
  ·simp[aA0,aA1,aA2,hm]
  ·have hb:(!m==([]:List UInt8))=true:=by simpa using hm
   have w1:IntKind.i64.wrap ((b.length:Int)-(m.length:Int))=(b.length:Int)-m.length:=by rw[aAd]<;>omega
   simp only[aA0,aA1,aA2,if_true,hb,w1,decide_eq_true_eq,Bool.and_eq_true,beq_iff_eq]
   by_cases hin:inB a 0 ((b.length:Int)-m.length)=true
   ·have hh:=(aBg _ _ _).1 hin
    obtain⟨a,rfl⟩:=Int.eq_ofNat_of_zero_le hh.1
    have w2:IntKind.i64.wrap ((a:Int)+(m.length:Int))=((a+m.length:Nat):Int):=by rw[aAd]<;>omega
    have z1:(0:Int)≤((a+m.length:Nat):Int):=by omega
    have z2:((a+m.length:Nat):Int)≤b.length:=by omega
    have z3:(a:Int)≤((a+m.length:Nat):Int):=by omega
    have ed:(b.take (a+m.length)).drop a=(b.drop a).take m.length:=by
     rw[List.take_drop]
    simp only[hin,w2,z1,z2,z3,hh.1,if_true,and_self,Int.toNat_natCast,ed]
    by_cases he:(b.drop a).take m.length=m
    ·have:aFm b a m=true:=(aFi _ _ _).2 ⟨by omega,by omega,by simpa using he⟩
     simp[he,this,hm]
    ·have:aFm b a m=false:=by
      cases hx:aFm b a m with
      |true=>exact absurd (by simpa using ((aFi _ _ _).1 hx).2.2) he
      |false=>rfl
     simp[he,this]
   ·have:aFm b a m=false:=by
     cases hx:aFm b a m with
     |true =>
      have hh:=(aFi _ _ _).1 hx
      have hl:=congrArg List.length hh.2.2
      simp at hl
      exact absurd ((aBg _ _ _).2 ⟨hh.1,by omega⟩) hin
     |false=>rfl
    simp[hin,this]
 ·cases h
theorem bTb:aA6 Tryz.prog bIg:=aA5 (by simp[aSt,aOh])
theorem bDd:aAn Tryz.prog 121 (sg [pI,pI,pS,pI] [rB]) aH2:=aA4 bTb aA7 Tryz.func121 (by kernel_rfl) fun cs outs hk h=>by
 unfold aH2 at h
 split at h
 ·simp only[Option.some.injEq,Prod.mk.injEq,decide_eq_true_eq]at h
  obtain⟨h1,rfl⟩:=h
  rename_i v p b a
  rw[aA9,bH0]
  unfold aKr
  generalize aAz v p=m at *
  by_cases hm:m=[]
  ·simp[aA0,aA1,aA2,hm]
  ·have hb:(!m==([]:List UInt8))=true:=by simpa using hm
   by_cases hh:aFm b a m=true<;>simp[aA0,aA1,aA2,hb,hh,hm]
 ·cases h
noncomputable section
def rfN (v:Int) (b:List UInt8) (a:Int):Int:=if v=2 then aAo b a 4 else rvN b a
def aKq (v:Int) (b:List UInt8) (a:Int):Int:=if v=2 then a+8 else aCj b a
def aQ4 (v:Int) (b:List UInt8) (a:Int):Bool:=if v=2 then aD4 b a 4 else bMp b a
def aQ2 (v:Int) (b:List UInt8) (a:Int):List UInt8:=(b.drop (aKq v b a).toNat).take (rfN v b a).toNat
def bFv (v p:Int) (b:List UInt8) (a:Int):Bool:=inB v 1 2&&inB p 0 1000000000&&aQ4 v b a&&decide (rfN v b a≤60∧aKq v b a+rfN v b a≤b.length)&&aFm b a (aAe v p (aQ2 v b a))
def aRn (v p:Int) (b:List UInt8) (a:Int):List UInt8:=if bFv v p b a then aQ2 v b a else[]
def aP1 (v p:Int) (b:List UInt8) (a:Int):Int:=if bFv v p b a then a+(aAe v p (aQ2 v b a)).length else 0
def aEb:aC3:=fun cs=>match cs with
 |[.int .i64 v,.int .i64 p,.str b,.int .i64 a]=>some (decide (b.length≤281474976710656)&&(decide (-9223372036854775808≤a)&&decide (a≤9223372036854775807)),[.str (aRn v p b a),.int .i64 (aP1 v p b a),.bool (bFv v p b a)])
 |_=>none
def aSx:Env:=mkE [] [(53,(sg [pI,pI,pI] [rB]),aE3),(148,(sg [pS,pI,pI] [rI,rB]),aDy),(150,(sg [pS,pI] [rI,rI,rB]),aFu),(117,(sg [pI,pI,pS] [rS]),aGg)]
def aT0:Env:=mkE [] [(156,(sg [pS,pI,pI] [rI,rB]),aDy),(159,(sg [pS,pI] [rI,rI,rB]),aFu),(158,(sg [pS,pI,pS] [rB]),aQe),(141,(sg [pI,pI,pS] [rS]),aGg)]
end
theorem aVf (H:List Pt→Nat→St→T (List C)) (v:Int) (p:Int) (b:List UInt8) (a:Int):aAg aSx aAa (sg [pI,pI,pS,pI] [rS,rI,rB]) Tryz.f114 H [C.int .i64 v,C.int .i64 p,C.str b,C.int .i64 a]=(.must true (.must true (.must true (.must true (.ask (inB v 1 2) (.must true (.must true (.must true (.ask (inB p 0 1000000000) (.must true (.must true (.must true (.ask (inB a 0 (↑b.length:Int)) (.must true (.must (decide (b.length≤281474976710656)&&(decide ((-9223372036854775808:Int)≤a)&&decide (a≤(9223372036854775807:Int)))) (.must true (.ask (bMp b a) (.ask (decide (v=(2:Int))) (.must true (.must (decide (b.length≤281474976710656)&&(decide ((-9223372036854775808:Int)≤a)&&decide (a≤(9223372036854775807:Int)))) (.must true (.ask (aD4 b a 4) (.ask (decide ((60:Int)<aAo b a 4)) (.must true (.ret [C.str [],C.int .i64 0,C.bool false])) (.ask (decide (IntKind.i64.wrap ((↑b.length:Int)-aAo b a 4)<IntKind.i64.wrap (a+(8:Int)))) (.must true (.ret [C.str [],C.int .i64 0,C.bool false])) (.must (decide ((0:Int)≤IntKind.i64.wrap (IntKind.i64.wrap (a+(8:Int))+aAo b a 4))&&decide (IntKind.i64.wrap (IntKind.i64.wrap (a+(8:Int))+aAo b a 4)≤(↑b.length:Int))&&(decide ((0:Int)≤IntKind.i64.wrap (a+(8:Int)))&&decide (IntKind.i64.wrap (a+(8:Int))≤IntKind.i64.wrap (IntKind.i64.wrap (a+(8:Int))+aAo b a 4)))) (.must true (.must (decide ((List.drop (IntKind.i64.wrap (a+(8:Int))).toNat (List.take (IntKind.i64.wrap (IntKind.i64.wrap (a+(8:Int))+aAo b a 4)).toNat b)).length≤281474976710656)) (.must true (.ask (decide (IntKind.i64.wrap ((↑b.length:Int)-a)<(↑(aAe v p (List.drop (IntKind.i64.wrap (a+(8:Int))).toNat (List.take (IntKind.i64.wrap (IntKind.i64.wrap (a+(8:Int))+aAo b a 4)).toNat b))).length:Int))) (.must true (.ret [C.str [],C.int .i64 0,C.bool false])) (.must (decide ((0:Int)≤IntKind.i64.wrap (a+(↑(aAe v p (List.drop (IntKind.i64.wrap (a+(8:Int))).toNat (List.take (IntKind.i64.wrap (IntKind.i64.wrap (a+(8:Int))+aAo b a 4)).toNat b))).length:Int)))&&decide (IntKind.i64.wrap (a+(↑(aAe v p (List.drop (IntKind.i64.wrap (a+(8:Int))).toNat (List.take (IntKind.i64.wrap (IntKind.i64.wrap (a+(8:Int))+aAo b a 4)).toNat b))).length:Int))≤(↑b.length:Int))&&(decide ((0:Int)≤a)&&decide (a≤IntKind.i64.wrap (a+(↑(aAe v p (List.drop (IntKind.i64.wrap (a+(8:Int))).toNat (List.take (IntKind.i64.wrap (IntKind.i64.wrap (a+(8:Int))+aAo b a 4)).toNat b))).length:Int))))) (.ask (!List.drop a.toNat (List.take (IntKind.i64.wrap (a+(↑(aAe v p (List.drop (IntKind.i64.wrap (a+(8:Int))).toNat (List.take (IntKind.i64.wrap (IntKind.i64.wrap (a+(8:Int))+aAo b a 4)).toNat b))).length:Int))).toNat b)==aAe v p (List.drop (IntKind.i64.wrap (a+(8:Int))).toNat (List.take (IntKind.i64.wrap (IntKind.i64.wrap (a+(8:Int))+aAo b a 4)).toNat b))) (.must true (.ret [C.str [],C.int .i64 0,C.bool false])) (.must true (.ret [C.str (List.drop (IntKind.i64.wrap (a+(8:Int))).toNat (List.take (IntKind.i64.wrap (IntKind.i64.wrap (a+(8:Int))+aAo b a 4)).toNat b)),C.int .i64 (IntKind.i64.wrap (a+(↑(aAe v p (List.drop (IntKind.i64.wrap (a+(8:Int))).toNat (List.take (IntKind.i64.wrap (IntKind.i64.wrap (a+(8:Int))+aAo b a 4)).toNat b))).length:Int))),C.bool true]))))))))))) (.must true (.ret [C.str [],C.int .i64 0,C.bool false])))))) (.ask (decide ((60:Int)<rvN b a)) (.must true (.ret [C.str [],C.int .i64 0,C.bool false])) (.ask (decide (IntKind.i64.wrap ((↑b.length:Int)-rvN b a)<aCj b a)) (.must true (.ret [C.str [],C.int .i64 0,C.bool false])) (.must (decide ((0:Int)≤IntKind.i64.wrap (aCj b a+rvN b a))&&decide (IntKind.i64.wrap (aCj b a+rvN b a)≤(↑b.length:Int))&&(decide ((0:Int)≤aCj b a)&&decide (aCj b a≤IntKind.i64.wrap (aCj b a+rvN b a)))) (.must true (.must (decide ((List.drop (aCj b a).toNat (List.take (IntKind.i64.wrap (aCj b a+rvN b a)).toNat b)).length≤281474976710656)) (.must true (.ask (decide (IntKind.i64.wrap ((↑b.length:Int)-a)<(↑(aAe v p (List.drop (aCj b a).toNat (List.take (IntKind.i64.wrap (aCj b a+rvN b a)).toNat b))).length:Int))) (.must true (.ret [C.str [],C.int .i64 0,C.bool false])) (.must (decide ((0:Int)≤IntKind.i64.wrap (a+(↑(aAe v p (List.drop (aCj b a).toNat (List.take (IntKind.i64.wrap (aCj b a+rvN b a)).toNat b))).length:Int)))&&decide (IntKind.i64.wrap (a+(↑(aAe v p (List.drop (aCj b a).toNat (List.take (IntKind.i64.wrap (aCj b a+rvN b a)).toNat b))).length:Int))≤(↑b.length:Int))&&(decide ((0:Int)≤a)&&decide (a≤IntKind.i64.wrap (a+(↑(aAe v p (List.drop (aCj b a).toNat (List.take (IntKind.i64.wrap (aCj b a+rvN b a)).toNat b))).length:Int))))) (.ask (!List.drop a.toNat (List.take (IntKind.i64.wrap (a+(↑(aAe v p (List.drop (aCj b a).toNat (List.take (IntKind.i64.wrap (aCj b a+rvN b a)).toNat b))).length:Int))).toNat b)==aAe v p (List.drop (aCj b a).toNat (List.take (IntKind.i64.wrap (aCj b a+rvN b a)).toNat b))) (.must true (.ret [C.str [],C.int .i64 0,C.bool false])) (.must true (.ret [C.str (List.drop (aCj b a).toNat (List.take (IntKind.i64.wrap (aCj b a+rvN b a)).toNat b)),C.int .i64 (IntKind.i64.wrap (a+(↑(aAe v p (List.drop (aCj b a).toNat (List.take (IntKind.i64.wrap (aCj b a+rvN b a)).toNat b))).length:Int))),C.bool true])))))))))))) (.ask (decide (v=(2:Int))) (.must true (.must (decide (b.length≤281474976710656)&&(decide ((-9223372036854775808:Int)≤a)&&decide (a≤(9223372036854775807:Int)))) (.must true (.ask (aD4 b a 4) (.ask (decide ((60:Int)<aAo b a 4)) (.must true (.ret [C.str [],C.int .i64 0,C.bool false])) (.ask (decide (IntKind.i64.wrap ((↑b.length:Int)-aAo b a 4)<IntKind.i64.wrap (a+(8:Int)))) (.must true (.ret [C.str [],C.int .i64 0,C.bool false])) (.must (decide ((0:Int)≤IntKind.i64.wrap (IntKind.i64.wrap (a+(8:Int))+aAo b a 4))&&decide (IntKind.i64.wrap (IntKind.i64.wrap (a+(8:Int))+aAo b a 4)≤(↑b.length:Int))&&(decide ((0:Int)≤IntKind.i64.wrap (a+(8:Int)))&&decide (IntKind.i64.wrap (a+(8:Int))≤IntKind.i64.wrap (IntKind.i64.wrap (a+(8:Int))+aAo b a 4)))) (.must true (.must (decide ((List.drop (IntKind.i64.wrap (a+(8:Int))).toNat (List.take (IntKind.i64.wrap (IntKind.i64.wrap (a+(8:Int))+aAo b a 4)).toNat b)).length≤281474976710656)) (.must true (.ask (decide (IntKind.i64.wrap ((↑b.length:Int)-a)<(↑(aAe v p (List.drop (IntKind.i64.wrap (a+(8:Int))).toNat (List.take (IntKind.i64.wrap (IntKind.i64.wrap (a+(8:Int))+aAo b a 4)).toNat b))).length:Int))) (.must true (.ret [C.str [],C.int .i64 0,C.bool false])) (.must (decide ((0:Int)≤IntKind.i64.wrap (a+(↑(aAe v p (List.drop (IntKind.i64.wrap (a+(8:Int))).toNat (List.take (IntKind.i64.wrap (IntKind.i64.wrap (a+(8:Int))+aAo b a 4)).toNat b))).length:Int)))&&decide (IntKind.i64.wrap (a+(↑(aAe v p (List.drop (IntKind.i64.wrap (a+(8:Int))).toNat (List.take (IntKind.i64.wrap (IntKind.i64.wrap (a+(8:Int))+aAo b a 4)).toNat b))).length:Int))≤(↑b.length:Int))&&(decide ((0:Int)≤a)&&decide (a≤IntKind.i64.wrap (a+(↑(aAe v p (List.drop (IntKind.i64.wrap (a+(8:Int))).toNat (List.take (IntKind.i64.wrap (IntKind.i64.wrap (a+(8:Int))+aAo b a 4)).toNat b))).length:Int))))) (.ask (!List.drop a.toNat (List.take (IntKind.i64.wrap (a+(↑(aAe v p (List.drop (IntKind.i64.wrap (a+(8:Int))).toNat (List.take (IntKind.i64.wrap (IntKind.i64.wrap (a+(8:Int))+aAo b a 4)).toNat b))).length:Int))).toNat b)==aAe v p (List.drop (IntKind.i64.wrap (a+(8:Int))).toNat (List.take (IntKind.i64.wrap (IntKind.i64.wrap (a+(8:Int))+aAo b a 4)).toNat b))) (.must true (.ret [C.str [],C.int .i64 0,C.bool false])) (.must true (.ret [C.str (List.drop (IntKind.i64.wrap (a+(8:Int))).toNat (List.take (IntKind.i64.wrap (IntKind.i64.wrap (a+(8:Int))+aAo b a 4)).toNat b)),C.int .i64 (IntKind.i64.wrap (a+(↑(aAe v p (List.drop (IntKind.i64.wrap (a+(8:Int))).toNat (List.take (IntKind.i64.wrap (IntKind.i64.wrap (a+(8:Int))+aAo b a 4)).toNat b))).length:Int))),C.bool true]))))))))))) (.must true (.ret [C.str [],C.int .i64 0,C.bool false])))))) (.must true (.ret [C.str [],C.int .i64 0,C.bool false]))))))) (.must true (.ret [C.str [],C.int .i64 0,C.bool false])))))) (.must true (.ret [C.str [],C.int .i64 0,C.bool false])))))) (.must true (.ret [C.str [],C.int .i64 0,C.bool false]))))))):=by kernel_rfl
theorem aWg (H:List Pt→Nat→St→T (List C)) (v:Int) (p:Int) (b:List UInt8) (a:Int):aAg aT0 aAa (sg [pI,pI,pS,pI] [rS,rI,rB]) Tryz.f122 H [C.int .i64 v,C.int .i64 p,C.str b,C.int .i64 a]=(.must true (.ask (decide (v=(2:Int))) (.must true (.must (decide (b.length≤281474976710656)&&(decide ((-9223372036854775808:Int)≤a)&&decide (a≤(9223372036854775807:Int)))) (.must true (.ask (aD4 b a 4) (.ask (decide ((60:Int)<aAo b a 4)) (.must true (.ret [C.str [],C.int .i64 0,C.bool false])) (.ask (decide ((↑b.length:Int)<IntKind.i64.wrap (a+(8:Int)))) (.must true (.ret [C.str [],C.int .i64 0,C.bool false])) (.ask (decide (IntKind.i64.wrap ((↑b.length:Int)-IntKind.i64.wrap (a+(8:Int)))<aAo b a 4)) (.must true (.ret [C.str [],C.int .i64 0,C.bool false])) (.must (decide ((0:Int)≤IntKind.i64.wrap (IntKind.i64.wrap (a+(8:Int))+aAo b a 4))&&decide (IntKind.i64.wrap (IntKind.i64.wrap (a+(8:Int))+aAo b a 4)≤(↑b.length:Int))&&(decide ((0:Int)≤IntKind.i64.wrap (a+(8:Int)))&&decide (IntKind.i64.wrap (a+(8:Int))≤IntKind.i64.wrap (IntKind.i64.wrap (a+(8:Int))+aAo b a 4)))) (.must true (.must (decide ((List.drop (IntKind.i64.wrap (a+(8:Int))).toNat (List.take (IntKind.i64.wrap (IntKind.i64.wrap (a+(8:Int))+aAo b a 4)).toNat b)).length≤281474976710656)) (.must true (.ask (aAe v p (List.drop (IntKind.i64.wrap (a+(8:Int))).toNat (List.take (IntKind.i64.wrap (IntKind.i64.wrap (a+(8:Int))+aAo b a 4)).toNat b))==[]) (.must true (.ret [C.str [],C.int .i64 0,C.bool false])) (.must true (.must true (.must true (.ask (aFm b a (aAe v p (List.drop (IntKind.i64.wrap (a+(8:Int))).toNat (List.take (IntKind.i64.wrap (IntKind.i64.wrap (a+(8:Int))+aAo b a 4)).toNat b)))) (.must true (.ret [C.str (List.drop (IntKind.i64.wrap (a+(8:Int))).toNat (List.take (IntKind.i64.wrap (IntKind.i64.wrap (a+(8:Int))+aAo b a 4)).toNat b)),C.int .i64 (IntKind.i64.wrap (a+(↑(aAe v p (List.drop (IntKind.i64.wrap (a+(8:Int))).toNat (List.take (IntKind.i64.wrap (IntKind.i64.wrap (a+(8:Int))+aAo b a 4)).toNat b))).length:Int))),C.bool true])) (.must true (.ret [C.str [],C.int .i64 0,C.bool false])))))))))))))) (.must true (.ret [C.str [],C.int .i64 0,C.bool false])))))) (.must true (.must (decide (b.length≤281474976710656)&&(decide ((-9223372036854775808:Int)≤a)&&decide (a≤(9223372036854775807:Int)))) (.must true (.ask (bMp b a) (.ask (decide ((60:Int)<rvN b a)) (.must true (.ret [C.str [],C.int .i64 0,C.bool false])) (.ask (decide ((↑b.length:Int)<aCj b a)) (.must true (.ret [C.str [],C.int .i64 0,C.bool false])) (.ask (decide (IntKind.i64.wrap ((↑b.length:Int)-aCj b a)<rvN b a)) (.must true (.ret [C.str [],C.int .i64 0,C.bool false])) (.must (decide ((0:Int)≤IntKind.i64.wrap (aCj b a+rvN b a))&&decide (IntKind.i64.wrap (aCj b a+rvN b a)≤(↑b.length:Int))&&(decide ((0:Int)≤aCj b a)&&decide (aCj b a≤IntKind.i64.wrap (aCj b a+rvN b a)))) (.must true (.must (decide ((List.drop (aCj b a).toNat (List.take (IntKind.i64.wrap (aCj b a+rvN b a)).toNat b)).length≤281474976710656)) (.must true (.ask (aAe v p (List.drop (aCj b a).toNat (List.take (IntKind.i64.wrap (aCj b a+rvN b a)).toNat b))==[]) (.must true (.ret [C.str [],C.int .i64 0,C.bool false])) (.must true (.must true (.must true (.ask (aFm b a (aAe v p (List.drop (aCj b a).toNat (List.take (IntKind.i64.wrap (aCj b a+rvN b a)).toNat b)))) (.must true (.ret [C.str (List.drop (aCj b a).toNat (List.take (IntKind.i64.wrap (aCj b a+rvN b a)).toNat b)),C.int .i64 (IntKind.i64.wrap (a+(↑(aAe v p (List.drop (aCj b a).toNat (List.take (IntKind.i64.wrap (aCj b a+rvN b a)).toNat b))).length:Int))),C.bool true])) (.must true (.ret [C.str [],C.int .i64 0,C.bool false])))))))))))))) (.must true (.ret [C.str [],C.int .i64 0,C.bool false])))))))):=by kernel_rfl
def aJ6:List C:=[C.str [],C.int IntKind.i64 (0:Int),C.bool false]
def cAb (v p : Int) (b : List UInt8) (a n f : Int) : T (List C) :=
  .ask (decide (60 < n)) (.must true (.ret aJ6))
   (.ask (decide (IntKind.i64.wrap ((b.length : Int) - n) < f)) (.must true (.ret aJ6))
    (.must (decide (0 ≤ IntKind.i64.wrap (f + n)) && decide (IntKind.i64.wrap (f + n) ≤ (b.length : Int)) && (decide (0 ≤ f) && decide (f ≤ IntKind.i64.wrap (f + n))))
     (.must true
      (.must (decide ((List.drop f.toNat (List.take (IntKind.i64.wrap (f + n)).toNat b)).length ≤ 281474976710656))
       (.must true
        (.ask (decide (IntKind.i64.wrap ((b.length : Int) - a) < ((aAe v p (List.drop f.toNat (List.take (IntKind.i64.wrap (f + n)).toNat b))).length : Int))) (.must true (.ret aJ6))
         (.must (decide (0 ≤ IntKind.i64.wrap (a + ((aAe v p (List.drop f.toNat (List.take (IntKind.i64.wrap (f + n)).toNat b))).length : Int))) && decide (IntKind.i64.wrap (a + ((aAe v p (List.drop f.toNat (List.take (IntKind.i64.wrap (f + n)).toNat b))).length : Int)) ≤ (b.length : Int)) && (decide (0 ≤ a) && decide (a ≤ IntKind.i64.wrap (a + ((aAe v p (List.drop f.toNat (List.take (IntKind.i64.wrap (f + n)).toNat b))).length : Int)))))
          (.ask (!List.drop a.toNat (List.take (IntKind.i64.wrap (a + ((aAe v p (List.drop f.toNat (List.take (IntKind.i64.wrap (f + n)).toNat b))).length : Int))).toNat b) == aAe v p (List.drop f.toNat (List.take (IntKind.i64.wrap (f + n)).toNat b)))
           (.must true (.ret aJ6))
           (.must true (.ret [C.str (List.drop f.toNat (List.take (IntKind.i64.wrap (f + n)).toNat b)), C.int IntKind.i64 (IntKind.i64.wrap (a + ((aAe v p (List.drop f.toNat (List.take (IntKind.i64.wrap (f + n)).toNat b))).length : Int))), C.bool true]))))))))))
def cAx (v p : Int) (b : List UInt8) (a n f : Int) : T (List C) :=
  .ask (decide (60 < n)) (.must true (.ret aJ6))
   (.ask (decide ((b.length : Int) < f)) (.must true (.ret aJ6))
    (.ask (decide (IntKind.i64.wrap ((b.length : Int) - f) < n)) (.must true (.ret aJ6))
     (.must (decide (0 ≤ IntKind.i64.wrap (f + n)) && decide (IntKind.i64.wrap (f + n) ≤ (b.length : Int)) && (decide (0 ≤ f) && decide (f ≤ IntKind.i64.wrap (f + n))))
      (.must true
       (.must (decide ((List.drop f.toNat (List.take (IntKind.i64.wrap (f + n)).toNat b)).length ≤ 281474976710656))
        (.must true
         (.ask (aAe v p (List.drop f.toNat (List.take (IntKind.i64.wrap (f + n)).toNat b)) == []) (.must true (.ret aJ6))
          (.must true (.must true (.must true
           (.ask (aFm b a (aAe v p (List.drop f.toNat (List.take (IntKind.i64.wrap (f + n)).toNat b))))
            (.must true (.ret [C.str (List.drop f.toNat (List.take (IntKind.i64.wrap (f + n)).toNat b)), C.int IntKind.i64 (IntKind.i64.wrap (a + ((aAe v p (List.drop f.toNat (List.take (IntKind.i64.wrap (f + n)).toNat b))).length : Int))), C.bool true]))
            (.must true (.ret aJ6)))))))))))))
def aRd (v p:Int) (b:List UInt8) (a n f:Int):List C :=
 if n≤60∧f+n≤b.length∧aFm b a (aAe v p ((b.drop f.toNat).take n.toNat))=true then[.str ((b.drop f.toNat).take n.toNat),.int .i64 (a+(aAe v p ((b.drop f.toNat).take n.toNat)).length),.bool true]else aJ6
theorem aGu (v p:Int) (r:List UInt8):(aAe v p r).length≤90:=by
 unfold aAe
 have h1:=aOy p r.length
 have h2:=aCl r.length
 have h3:=aB7 (aAs 0 r:Nat) 4
 split
 ·rename_i h
  simp only[Bool.and_eq_true,decide_eq_true_eq]at h
  split<;>simp only[List.length_append]<;>omega
 ·simp
theorem aM4 (v p:Int) (r:List UInt8) (hv:inB v 1 2=true) (hp:inB p 0 1000000000=true) (hr:r.length≤60):aAe v p r≠[]:=by
 unfold aAe
 rw[hv,hp,decide_eq_true hr]
 intro h
 have h4:(aAh (aAs 0 r:Nat) 4).length=4:=by
  have hc:=aDq 0 r (by omega)
  have hg:=bDs (aAs 0 r) 4 (by omega) (by omega)
  rw[show ((4:Nat):Int)=4 from rfl]at hg
  rw[hg,if_pos (by omega),aC4]
 have:=congrArg List.length h
 simp only[Bool.and_self,if_true,List.length_append,List.length_nil]at this
 omega
theorem bDn (v p:Int) (r:List UInt8) (h:¬(inB v 1 2=true∧inB p 0 1000000000=true)):aAe v p r=[]:=by
 unfold aAe
 rw[if_neg]
 intro hh
 simp only[Bool.and_eq_true]at hh
 exact h hh.1
theorem aZu (v p:Int) (b:List UInt8) (a n f:Int) (hb:b.length≤281474976710656) (hn:0≤n) (hn2:n≤9223372036854775807) (hf:0≤f) (hf2:f≤1125899906842624) (ha:0≤a) (ha2:a≤b.length) (hv:inB v 1 2=true) (hp:inB p 0 1000000000=true) :
  (cAb v p b a n f).eval=some (aRd v p b a n f):=by
 unfold cAb aRd
 by_cases h1:60<n
 ·have:¬n≤60:=by omega
  simp[aA0,aA1,aA2,h1,this]
 ·have w1:IntKind.i64.wrap ((b.length:Int)-n)=(b.length:Int)-n:=by rw[aAd]<;>omega
  have w2:IntKind.i64.wrap (f+n)=f+n:=by rw[aAd]<;>omega
  have h1':n≤60:=by omega
  rw[w1,w2]
  by_cases h2:(b.length:Int)-n<f
  ·have:¬(f+n≤b.length):=by omega
   simp[aA0,aA1,aA2,h1,h2,this]
  ·have h2':f+n≤b.length:=by omega
   have hrec:List.drop f.toNat (List.take (f+n).toNat b)=(b.drop f.toNat).take n.toNat:=by
    rw[List.take_drop];congr 2;omega
   rw[hrec]
   have hl:((b.drop f.toNat).take n.toNat).length≤281474976710656:=by simp;omega
   have hl60:((b.drop f.toNat).take n.toNat).length≤60:=by simp;omega
   generalize (b.drop f.toNat).take n.toNat=r at hl hl60
   have fl:=aGu v p r
   have fne:=aM4 v p r hv hp hl60
   generalize aAe v p r=t at fl fne
   have w3:IntKind.i64.wrap ((b.length:Int)-a)=(b.length:Int)-a:=by rw[aAd]<;>omega
   have w4:IntKind.i64.wrap (a+(t.length:Int))=a+t.length:=by rw[aAd]<;>omega
   rw[w3,w4]
   have z1:0≤f+n:=by omega
   have z2:f≤f+n:=by omega
   by_cases h3:(b.length:Int)-a<t.length
   ·have:aFm b a t=false:=by
     cases hx:aFm b a t with
     |true =>
      have hh:=(aFi _ _ _).1 hx
      have hl:=congrArg List.length hh.2.2
      simp at hl
      omega
     |false=>rfl
    simp[aA0,aA1,aA2,h1,h2,h2',hf,hl,h3,this,z1,z2,hn]
   ·have z3:0≤a+(t.length:Int):=by omega
    have z4:a+(t.length:Int)≤b.length:=by omega
    have z5:a≤a+(t.length:Int):=by omega
    have ed:List.drop a.toNat (List.take (a+(t.length:Int)).toNat b)=(b.drop a.toNat).take t.length:=by
     rw[List.take_drop];congr 2;omega
    rw[ed]
    by_cases he:(b.drop a.toNat).take t.length=t
    ·have hh:aFm b a t=true:=(aFi _ _ _).2 ⟨ha,ha2,he⟩
     simp[aA0,aA1,aA2,h1,h1',h2,h2',hf,hl,h3,z1,z2,z3,z4,z5,hn,ha,he,hh]
    ·have hh:aFm b a t=false:=by
      cases hx:aFm b a t with
      |true=>exact absurd ((aFi _ _ _).1 hx).2.2 he
      |false=>rfl
     simp[aA0,aA1,aA2,h1,h1',h2,h2',hf,hl,h3,z1,z2,z3,z4,z5,hn,ha,he,hh]
theorem bA3 (v p:Int) (b:List UInt8) (a n f:Int) (hb:b.length≤281474976710656) (hn:0≤n) (hn2:n≤9223372036854775807) (hf:0≤f) (hf2:f≤1125899906842624) (ha2:a≤9223372036854775807) :
  (cAx v p b a n f).eval=some (if inB v 1 2=true∧inB p 0 1000000000=true then aRd v p b a n f else aJ6):=by
 unfold cAx aRd
 by_cases h1:60<n
 ·have:¬n≤60:=by omega
  simp[aA0,aA1,aA2,h1,this]
 ·have w2:IntKind.i64.wrap (f+n)=f+n:=by rw[aAd]<;>omega
  have h1':n≤60:=by omega
  rw[w2]
  by_cases h2:(b.length:Int)<f
  ·have:¬(f+n≤b.length):=by omega
   simp[aA0,aA1,aA2,h1,h2,this]
  ·have w1:IntKind.i64.wrap ((b.length:Int)-f)=(b.length:Int)-f:=by rw[aAd]<;>omega
   rw[w1]
   by_cases h3:(b.length:Int)-f<n
   ·have:¬(f+n≤b.length):=by omega
    simp[aA0,aA1,aA2,h1,h2,h3,this]
   ·have h2':f+n≤b.length:=by omega
    have hrec:List.drop f.toNat (List.take (f+n).toNat b)=(b.drop f.toNat).take n.toNat:=by
     rw[List.take_drop];congr 2;omega
    rw[hrec]
    have hl:((b.drop f.toNat).take n.toNat).length≤281474976710656:=by simp;omega
    have hl60:((b.drop f.toNat).take n.toNat).length≤60:=by simp;omega
    generalize (b.drop f.toNat).take n.toNat=r at hl hl60
    have z1:0≤f+n:=by omega
    have z2:f≤f+n:=by omega
    by_cases hvp:inB v 1 2=true∧inB p 0 1000000000=true
    ·have fl:=aGu v p r
     have fne:=aM4 v p r hvp.1 hvp.2 hl60
     rw[if_pos hvp]
     generalize aAe v p r=t at fl fne
     have fb:(t==([]:List UInt8))=false:=by simpa using fne
     by_cases hh:aFm b a t=true
     ·have hx:=(aFi _ _ _).1 hh
      have w4:IntKind.i64.wrap (a+(t.length:Int))=a+t.length:=by rw[aAd]<;>omega
      simp[aA0,aA1,aA2,h1,h1',h2,h2',h3,hf,hl,z1,z2,hn,fb,hh,w4,fne]
     ·simp[aA0,aA1,aA2,h1,h1',h2,h2',h3,hf,hl,z1,z2,hn,fb,hh,fne]
    ·rw[if_neg hvp,bDn v p r hvp]
     simp[aA0,aA1,aA2,h1,h1',h2,h2',h3,hf,hl,z1,z2,hn]
theorem bMo (b:List UInt8) (a:Int):0≤rvN b a∧rvN b a≤1000000000∧0≤aCj b a∧aCj b a≤b.length∧(bMp b a=true→0≤a∧a≤b.length):=by
 have go:∀ (fu k n:Nat) (q:Nat×Nat),bOz b a.toNat fu k n=some q→q.1≤1000000000∧q.2≤b.length∧a.toNat≤b.length:=by
  intro fu
  induction fu with
  |zero=>intro k n q h;simp[bOz]at h
  |succ fu ih =>
   intro k n q h
   simp only[bOz]at h
   split at h
   ·split at h
    ·split at h
     ·cases h
     ·obtain rfl:=Option.some.inj h
      simp only[]
      omega
    ·exact ih _ _ _ h
   ·cases h
 unfold rvN aCj bMp aIc
 by_cases ha:0≤a
 ·rw[if_pos ha]
  cases hq:bOz b a.toNat 5 0 0 with
  |none=>simp
  |some q=>have:=go 5 0 0 q hq;simp;omega
 ·rw[if_neg ha];simp
theorem bHg (b:List UInt8) (a w:Int):0≤aAo b a w∧aAo b a w≤9223372036854775807∧(aD4 b a w=true→0≤a∧a≤b.length):=by
 unfold aAo
 cases h:aD4 b a w with
 |true=>have:=(aJ5 _ _ _).1 h;simp;omega
 |false=>simp
theorem bS1 (v p:Int) (b:List UInt8) (a:Int):[C.str (aRn v p b a),C.int .i64 (aP1 v p b a),C.bool (bFv v p b a)]=if inB v 1 2=true∧inB p 0 1000000000=true∧aQ4 v b a=true then aRd v p b a (rfN v b a) (aKq v b a)else aJ6:=by
 unfold aRn aP1 bFv aRd aQ2 aJ6
 generalize aQ4 v b a=x
 generalize rfN v b a=n
 generalize aKq v b a=f
 generalize aAe v p ((b.drop f.toNat).take n.toNat)=t
 by_cases h1:inB v 1 2=true
 ·by_cases h2:inB p 0 1000000000=true
  ·cases x with
   |false=>simp
   |true =>
    by_cases h3:n≤60∧f+n≤b.length
    ·by_cases h4:aFm b a t=true<;>simp[h1,h2,h3,h4]
    ·have h3':¬(n≤60∧f+n≤b.length∧aFm b a t=true):=fun h=>h3 ⟨h.1,h.2.1⟩
     rw[decide_eq_false h3,if_neg h3']
     simp
  ·simp[h2]
 ·simp[h1]
theorem aBq {α:Type} (n:T α):(T.must true n).eval=n.eval:=rfl
theorem aCc {α:Type} (y n:T α):(T.ask true y n).eval=y.eval:=rfl
theorem aDv {α:Type} (y n:T α):(T.ask false y n).eval=n.eval:=rfl
theorem bFe:aA6 Tryz.prog aSx:=aA5 (by simp[aD9,aOa,aYe,aKo])
theorem aT9:aAn Tryz.prog 114 (sg [pI,pI,pS,pI] [rS,rI,rB]) aEb:=aA4 bFe aA7 Tryz.func114 (by kernel_rfl) fun cs outs hk h=>by
 unfold aEb at h
 split at h
 ·simp only[Option.some.injEq,Prod.mk.injEq,Bool.and_eq_true,decide_eq_true_eq]at h
  obtain⟨⟨h1,h2,h3⟩,rfl⟩:=h
  rename_i v p b a
  rw[aA9,aVf,bS1]
  have pre:(decide (b.length≤281474976710656)&&(decide (-9223372036854775808≤a)&&decide (a≤9223372036854775807)))=true:=by simp[h1,h2,h3]
  obtain⟨r1,r2,r3,r4,r5⟩:=bMo b a
  obtain⟨f1,f2,f3⟩:=bHg b a 4
  have has_in:aQ4 v b a=true→0≤a∧a≤b.length:=by
   unfold aQ4;split
   ·exact f3
   ·exact r5
  cases hv:inB v 1 2 with
  |false=>simp only[aBq,aDv,hv,Bool.false_eq_true,false_and,if_false];rfl
  |true =>
   cases hp:inB p 0 1000000000 with
   |false=>simp only[aBq,aCc,aDv,hv,hp,Bool.false_eq_true,and_false,false_and,if_false];rfl
   |true =>
    cases ha:inB a 0 (b.length:Int)with
    |false =>
     have:¬aQ4 v b a=true:=fun h=>by
      have:=has_in h
      have:=(aBg a 0 (b.length:Int)).2 this
      rw[ha]at this;cases this
     simp only[aBq,aCc,aDv,hv,hp,ha,this,and_false,if_false];rfl
    |true =>
     have ha':=(aBg _ _ _).1 ha
     have w8:IntKind.i64.wrap (a+8)=a+8:=by rw[aAd]<;>omega
     have e1:=aZu v p b a (aAo b a 4) (a+8) h1 f1 f2 (by omega) (by omega) ha'.1 ha'.2 hv hp
     have e2:=aZu v p b a (rvN b a) (aCj b a) h1 r1 (by omega) r3 (by omega) ha'.1 ha'.2 hv hp
     by_cases hv2:v=2
     ·have d2:decide (v=2)=true:=decide_eq_true hv2
      have hh:aQ4 v b a=aD4 b a 4:=by unfold aQ4;rw[if_pos hv2]
      have hn:rfN v b a=aAo b a 4:=by unfold rfN;rw[if_pos hv2]
      have hf:aKq v b a=a+8:=by unfold aKq;rw[if_pos hv2]
      rw[hh,hn,hf]
      cases hk1:aD4 b a 4 with
      |false=>cases hk2:bMp b a<;>(simp only[aBq,aCc,aDv,hv,hp,ha,pre,d2,hk1,hk2,Bool.false_eq_true,if_false,and_false];rfl)
      |true=>cases hk2:bMp b a<;>(simp only[aBq,aCc,aDv,hv,hp,ha,pre,d2,hk1,hk2,w8,true_and,and_self,if_true];exact e1)
     ·have d2:decide (v=2)=false:=decide_eq_false hv2
      have hh:aQ4 v b a=bMp b a:=by unfold aQ4;rw[if_neg hv2]
      have hn:rfN v b a=rvN b a:=by unfold rfN;rw[if_neg hv2]
      have hf:aKq v b a=aCj b a:=by unfold aKq;rw[if_neg hv2]
      rw[hh,hn,hf]
      cases hk2:bMp b a with
      |false=>simp only[aBq,aCc,aDv,hv,hp,ha,pre,hk2,Bool.false_eq_true,if_false,and_false];first | rfl | (cases hk1:aD4 b a 4<;>simp only[aBq,aCc,aDv,d2]<;>rfl)
      |true=>simp only[aBq,aCc,aDv,hv,hp,ha,pre,d2,hk2,true_and,and_self,if_true];exact e2
 ·cases h
theorem bGx:aA6 Tryz.prog aT0:=aA5 (by simp[aOg,aZ1,aSt,aKw])
theorem aTj:aAn Tryz.prog 122 (sg [pI,pI,pS,pI] [rS,rI,rB]) aEb:=aA4 bGx aA7 Tryz.func122 (by kernel_rfl) fun cs outs hk h=>by
 unfold aEb at h
 split at h
 ·simp only[Option.some.injEq,Prod.mk.injEq,Bool.and_eq_true,decide_eq_true_eq]at h
  obtain⟨⟨h1,h2,h3⟩,rfl⟩:=h
  rename_i v p b a
  rw[aA9,aWg,bS1]
  have pre:(decide (b.length≤281474976710656)&&(decide (-9223372036854775808≤a)&&decide (a≤9223372036854775807)))=true:=by simp[h1,h2,h3]
  obtain⟨r1,r2,r3,r4,r5⟩:=bMo b a
  obtain⟨f1,f2,f3⟩:=bHg b a 4
  by_cases hv2:v=2
  ·have d2:decide (v=2)=true:=decide_eq_true hv2
   have hh:aQ4 v b a=aD4 b a 4:=by unfold aQ4;rw[if_pos hv2]
   have hn:rfN v b a=aAo b a 4:=by unfold rfN;rw[if_pos hv2]
   have hf:aKq v b a=a+8:=by unfold aKq;rw[if_pos hv2]
   rw[hh,hn,hf]
   cases hk1:aD4 b a 4 with
   |false=>simp only[aBq,aCc,aDv,pre,d2,hk1,Bool.false_eq_true,and_false,if_false];rfl
   |true =>
    have ha:=f3 hk1
    have w8:IntKind.i64.wrap (a+8)=a+8:=by rw[aAd]<;>omega
    have e1:=bA3 v p b a (aAo b a 4) (a+8) h1 f1 f2 (by omega) (by omega) h3
    simp only[aBq,aCc,aDv,pre,d2,hk1,w8,and_true]
    exact e1
  ·have d2:decide (v=2)=false:=decide_eq_false hv2
   have hh:aQ4 v b a=bMp b a:=by unfold aQ4;rw[if_neg hv2]
   have hn:rfN v b a=rvN b a:=by unfold rfN;rw[if_neg hv2]
   have hf:aKq v b a=aCj b a:=by unfold aKq;rw[if_neg hv2]
   rw[hh,hn,hf]
   cases hk1:bMp b a with
   |false=>simp only[aBq,aCc,aDv,pre,d2,hk1,Bool.false_eq_true,and_false,if_false];rfl
   |true =>
    have e1:=bA3 v p b a (rvN b a) (aCj b a) h1 r1 (by omega) r3 (by omega) h3
    simp only[aBq,aCc,aDv,pre,d2,hk1,and_true]
    exact e1
 ·cases h
noncomputable section
def aLl:RTy:=⟨true,[(.bool,false),(.int .i64,false),(.int .i64,false),(.int .i64,false),(.int .i64,false),(.slice 9,true),(.slice 3,true),(.int .i64,false),(.bool,false)]⟩
def aFp (v p:Int) (b:List UInt8):Nat→Int→Int→List (List UInt8)→List Int→(List (List UInt8)×List Int×Int×Bool)
 |0,_,e,rs,os=>(rs,os,e,false)
 |f+1,k,e,rs,os=>if aKr v (p+k) b e then (rs,os,e,true)else if bFv v (p+k) b e then aFp v p b f (k+1) (aP1 v (p+k) b e) (rs++[aRn v (p+k) b e]) (os++[e])else (rs,os,e,false)
def aIq (b:List UInt8):List (List UInt8)×List Int×Int×Bool:=if aA8 b then aFp (rhV b) (rhB b) b (b.length+1) 0 24 [] []else ([],[],0,false)
def aAp (b:List UInt8):List (List UInt8):=(aIq b).1
def aEt (b:List UInt8):List Int:=(aIq b).2.1
def bJ1 (b:List UInt8):Int:=(aIq b).2.2.1
def aV8 (b:List UInt8):Bool:=(aIq b).2.2.2
def aGs:aC3:=fun cs=>match cs with
 |[.str b]=>some (decide (b.length≤1048576),[.bool (aA8 b),.int .i64 (ifI (aA8 b) (rhV b)),.int .i64 (ifI (aA8 b) (rhS b)),.int .i64 (ifI (aA8 b) (rhB b)),.int .i64 (ifI (aA8 b) (rhL b)),.sl ((aAp b).map aB5),.sl ((aEt b).map aF3),.int .i64 (bJ1 b),.bool (aV8 b)])
 |_=>none
def aMe (b:List UInt8) (v s bb l e:Int):St:={slots:=[(0,bEp b),(2,.l (.ptr 0 0)),(3,.l (.ptr 1 0)),(5,.l (.ptr 2 0))],heap:=[(0,.box [.b false,.i .i64 0,.i .i64 0,.i .i64 0,.i .i64 0,.nil,.nil,.i .i64 0,.b false]),(1,.box [.i .i64 v,.i .i64 s,.i .i64 bb,.i .i64 l]),(2,.box [.b true,.i .i64 v,.i .i64 s,.i .i64 bb,.i .i64 l,.nil,.nil,.i .i64 e,.b false])],next:=3,pins:=[]}
def aI3 (b:List UInt8) (v s bb l e:Int) (n:Nat) (r:List (List C)) (m:Nat) (o:List (List C)):St:={slots:=[(0,bEp b),(2,.l (.ptr 0 0)),(3,.l (.ptr 1 0)),(5,.l (.ptr 2 0))],heap:=[(0,.box [.b false,.i .i64 0,.i .i64 0,.i .i64 0,.i .i64 0,.nil,.nil,.i .i64 0,.b false]),(1,.box [.i .i64 v,.i .i64 s,.i .i64 bb,.i .i64 l]),(2,.box [.b true,.i .i64 v,.i .i64 s,.i .i64 bb,.i .i64 l,.ref 3 0 n,.ref 4 0 m,.i .i64 e,.b false]),(3,.arr 1 r),(4,.arr 1 o)],next:=5,pins:=[]}
def aMf (b:List UInt8) (v s bb l e:Int):St:={slots:=[(0,bEp b),(2,.l (.ptr 0 0)),(3,.l (.ptr 1 0)),(5,.l (.ptr 2 0))],heap:=[(0,.box [.b false,.i .i64 0,.i .i64 0,.i .i64 0,.i .i64 0,.nil,.nil,.i .i64 0,.b false]),(1,.box [.i .i64 v,.i .i64 s,.i .i64 bb,.i .i64 l]),(2,.box [.b true,.i .i64 v,.i .i64 s,.i .i64 bb,.i .i64 l,.nil,.nil,.i .i64 e,.b false])],next:=3,pins:=[]}
def aI6 (b:List UInt8) (v s bb l e:Int) (n:Nat) (r:List (List C)) (m:Nat) (o:List (List C)):St:={slots:=[(0,bEp b),(2,.l (.ptr 0 0)),(3,.l (.ptr 1 0)),(5,.l (.ptr 2 0))],heap:=[(0,.box [.b false,.i .i64 0,.i .i64 0,.i .i64 0,.i .i64 0,.nil,.nil,.i .i64 0,.b false]),(1,.box [.i .i64 v,.i .i64 s,.i .i64 bb,.i .i64 l]),(2,.box [.b true,.i .i64 v,.i .i64 s,.i .i64 bb,.i .i64 l,.ref 3 0 n,.ref 4 0 m,.i .i64 e,.b false]),(3,.arr 1 r),(4,.arr 1 o)],next:=5,pins:=[]}
def aG0:Env:=mkE [(5,[0,2,3,5])] [(112,(sg [pS] [bFx,rB]),aDe),(113,(sg [pI,pI,pS,pI] [rB]),aH2),(114,(sg [pI,pI,pS,pI] [rS,rI,rB]),aEb)]
def aG1:Env:=mkE [(5,[0,2,3,5])] [(120,(sg [pS] [bFx,rB]),aDe),(121,(sg [pI,pI,pS,pI] [rB]),aH2),(122,(sg [pI,pI,pS,pI] [rS,rI,rB]),aEb)]
end
theorem aYd (H:List Pt→Nat→St→T (List C)) (b:List UInt8):aAg aG0 aAa (sg [pS] [aLl]) Tryz.f90 H [C.str b]=(.must true (.must true (.must (decide (b.length≤281474976710656)) (.must true (.ask (aA8 b) (H [Pt.r,Pt.r,Pt.r,Pt.r,Pt.b] 9223372036854775808 (aMe (b) (ifI (aA8 b) (rhV b)) (ifI (aA8 b) (rhS b)) (ifI (aA8 b) (rhB b)) (ifI (aA8 b) (rhL b)) ((24:Int)))) (.must true (.ret [C.bool false,C.int .i64 0,C.int .i64 0,C.int .i64 0,C.int .i64 0,C.sl [],C.sl [],C.int .i64 0,C.bool false]))))))):=by kernel_rfl
theorem aZ0 (H:List Pt→Nat→St→T (List C)) (b:List UInt8):aAg aG1 aAa (sg [pS] [aLl]) Tryz.f93 H [C.str b]=(.must true (.must true (.must (decide (b.length≤281474976710656)) (.must true (.ask (aA8 b) (H [Pt.r,Pt.r,Pt.r,Pt.r,Pt.b] 9223372036854775808 (aMf (b) (ifI (aA8 b) (rhV b)) (ifI (aA8 b) (rhS b)) (ifI (aA8 b) (rhB b)) (ifI (aA8 b) (rhL b)) ((24:Int)))) (.must true (.ret [C.bool false,C.int .i64 0,C.int .i64 0,C.int .i64 0,C.int .i64 0,C.sl [],C.sl [],C.int .i64 0,C.bool false]))))))):=by kernel_rfl
theorem aRk (H:List Pt→Nat→St→T (List C)) (b:List UInt8) (v:Int) (s:Int) (q:Int) (l:Int) (e:Int) (k:Nat):aB1 aG0 aAa (sg [pS] [aLl]) Tryz.f90 H [Pt.r,Pt.r,Pt.r,Pt.r,Pt.b] k (aMe b v s q l e)=(.must true (.must (decide (b.length≤281474976710656)) (.must true (.ask (aKr v (IntKind.i64.wrap (q+(0:Int))) b e) (.must true (.ret [C.bool true,C.int .i64 v,C.int .i64 s,C.int .i64 q,C.int .i64 l,C.sl [],C.sl [],C.int .i64 e,C.bool true])) (.must true (.must (decide (b.length≤281474976710656)&&(decide ((-9223372036854775808:Int)≤e)&&decide (e≤(9223372036854775807:Int)))) (.must true (.ask (bFv v (IntKind.i64.wrap (q+(0:Int))) b e) (.must true (.must true (H [Pt.r,Pt.r,Pt.r,Pt.r,Pt.b] k (aI3 (b) (v) (s) (q) (l) (aP1 v (IntKind.i64.wrap (q+(0:Int))) b e) (1) ([[C.str (aRn v (IntKind.i64.wrap (q+(0:Int))) b e)]]) (1) ([[C.int .i64 e]]))))) (.must true (.ret [C.bool true,C.int .i64 v,C.int .i64 s,C.int .i64 q,C.int .i64 l,C.sl [],C.sl [],C.int .i64 e,C.bool false])))))))))):=by kernel_rfl
theorem aS2 (H:List Pt→Nat→St→T (List C)) (b:List UInt8) (v:Int) (s:Int) (q:Int) (l:Int) (e:Int) (k:Nat):aB1 aG1 aAa (sg [pS] [aLl]) Tryz.f93 H [Pt.r,Pt.r,Pt.r,Pt.r,Pt.b] k (aMf b v s q l e)=(.must true (.must (decide (b.length≤281474976710656)) (.must true (.ask (aKr v (IntKind.i64.wrap (q+(0:Int))) b e) (.must true (.ret [C.bool true,C.int .i64 v,C.int .i64 s,C.int .i64 q,C.int .i64 l,C.sl [],C.sl [],C.int .i64 e,C.bool true])) (.must true (.must (decide (b.length≤281474976710656)&&(decide ((-9223372036854775808:Int)≤e)&&decide (e≤(9223372036854775807:Int)))) (.must true (.ask (bFv v (IntKind.i64.wrap (q+(0:Int))) b e) (.must true (.must true (H [Pt.r,Pt.r,Pt.r,Pt.r,Pt.b] k (aI6 (b) (v) (s) (q) (l) (aP1 v (IntKind.i64.wrap (q+(0:Int))) b e) (1) ([[C.str (aRn v (IntKind.i64.wrap (q+(0:Int))) b e)]]) (1) ([[C.int .i64 e]]))))) (.must true (.ret [C.bool true,C.int .i64 v,C.int .i64 s,C.int .i64 q,C.int .i64 l,C.sl [],C.sl [],C.int .i64 e,C.bool false])))))))))):=by kernel_rfl
theorem aRj (H:List Pt→Nat→St→T (List C)) (b:List UInt8) (v:Int) (s:Int) (q:Int) (l:Int) (e:Int) (n:Nat) (r:List (List C)) (n2:Nat) (o:List (List C)) (k:Nat):aB1 aG0 aAa (sg [pS] [aLl]) Tryz.f90 H [Pt.r,Pt.r,Pt.r,Pt.r,Pt.b] k (aI3 b v s q l e n r n2 o)=(.must true (.must (decide (b.length≤281474976710656)) (.must true (.ask (aKr v (IntKind.i64.wrap (q+(↑n:Int))) b e) (.must (true&&(false||true)&&(true&&(false||true)&&(true&&(false||true)&&(true&&(false||true)&&(true&&(false||true)&&(decide (n=r.length)&&(false||r.all fun r=>r.all C.flat)&&(decide (n2=o.length)&&(false||o.all fun r=>r.all C.flat)&&(true&&(false||true)&&(true&&(false||true)&&true))))))))&&true&&true) (.ret [C.bool true,C.int .i64 v,C.int .i64 s,C.int .i64 q,C.int .i64 l,C.sl r,C.sl o,C.int .i64 e,C.bool true])) (.must true (.must (decide (b.length≤281474976710656)&&(decide ((-9223372036854775808:Int)≤e)&&decide (e≤(9223372036854775807:Int)))) (.must true (.ask (bFv v (IntKind.i64.wrap (q+(↑n:Int))) b e) (.must (decide (n=r.length)&&aBb (r.length+1) 16&&(decide (1=1)&&true)) (.must (decide (n2=o.length)&&aBb (o.length+1) 8&&(decide (1=1)&&true)) (H [Pt.r,Pt.r,Pt.r,Pt.r,Pt.b] k (aI3 (b) (v) (s) (q) (l) (aP1 v (IntKind.i64.wrap (q+(↑n:Int))) b e) (r.length+1) (r.append [[C.str (aRn v (IntKind.i64.wrap (q+(↑n:Int))) b e)]]) (o.length+1) (o.append [[C.int .i64 e]]))))) (.must (true&&(false||true)&&(true&&(false||true)&&(true&&(false||true)&&(true&&(false||true)&&(true&&(false||true)&&(decide (n=r.length)&&(false||r.all fun r=>r.all C.flat)&&(decide (n2=o.length)&&(false||o.all fun r=>r.all C.flat)&&(true&&(false||true)&&(true&&(false||true)&&true))))))))&&true&&true) (.ret [C.bool true,C.int .i64 v,C.int .i64 s,C.int .i64 q,C.int .i64 l,C.sl r,C.sl o,C.int .i64 e,C.bool false])))))))))):=by kernel_rfl
theorem aS1 (H:List Pt→Nat→St→T (List C)) (b:List UInt8) (v:Int) (s:Int) (q:Int) (l:Int) (e:Int) (n:Nat) (r:List (List C)) (n2:Nat) (o:List (List C)) (k:Nat):aB1 aG1 aAa (sg [pS] [aLl]) Tryz.f93 H [Pt.r,Pt.r,Pt.r,Pt.r,Pt.b] k (aI6 b v s q l e n r n2 o)=(.must true (.must (decide (b.length≤281474976710656)) (.must true (.ask (aKr v (IntKind.i64.wrap (q+(↑n:Int))) b e) (.must (true&&(false||true)&&(true&&(false||true)&&(true&&(false||true)&&(true&&(false||true)&&(true&&(false||true)&&(decide (n=r.length)&&(false||r.all fun r=>r.all C.flat)&&(decide (n2=o.length)&&(false||o.all fun r=>r.all C.flat)&&(true&&(false||true)&&(true&&(false||true)&&true))))))))&&true&&true) (.ret [C.bool true,C.int .i64 v,C.int .i64 s,C.int .i64 q,C.int .i64 l,C.sl r,C.sl o,C.int .i64 e,C.bool true])) (.must true (.must (decide (b.length≤281474976710656)&&(decide ((-9223372036854775808:Int)≤e)&&decide (e≤(9223372036854775807:Int)))) (.must true (.ask (bFv v (IntKind.i64.wrap (q+(↑n:Int))) b e) (.must (decide (n=r.length)&&aBb (r.length+1) 16&&(decide (1=1)&&true)) (.must (decide (n2=o.length)&&aBb (o.length+1) 8&&(decide (1=1)&&true)) (H [Pt.r,Pt.r,Pt.r,Pt.r,Pt.b] k (aI6 (b) (v) (s) (q) (l) (aP1 v (IntKind.i64.wrap (q+(↑n:Int))) b e) (r.length+1) (r.append [[C.str (aRn v (IntKind.i64.wrap (q+(↑n:Int))) b e)]]) (o.length+1) (o.append [[C.int .i64 e]]))))) (.must (true&&(false||true)&&(true&&(false||true)&&(true&&(false||true)&&(true&&(false||true)&&(true&&(false||true)&&(decide (n=r.length)&&(false||r.all fun r=>r.all C.flat)&&(decide (n2=o.length)&&(false||o.all fun r=>r.all C.flat)&&(true&&(false||true)&&(true&&(false||true)&&true))))))))&&true&&true) (.ret [C.bool true,C.int .i64 v,C.int .i64 s,C.int .i64 q,C.int .i64 l,C.sl r,C.sl o,C.int .i64 e,C.bool false])))))))))):=by kernel_rfl
def bV9 (v s q l:Int) (x:List (List UInt8)×List Int×Int×Bool):List C:=[.bool true,.int .i64 v,.int .i64 s,.int .i64 q,.int .i64 l,.sl (x.1.map aB5),.sl (x.2.1.map aF3),.int .i64 x.2.2.1,.bool x.2.2.2]
theorem aQ3 (v p:Int) (b:List UInt8) (a:Int) (h:bFv v p b a=true):a+1≤aP1 v p b a∧aP1 v p b a≤b.length∧0≤a:=by
 unfold aP1
 rw[if_pos h]
 unfold bFv at h
 simp only[Bool.and_eq_true,decide_eq_true_eq]at h
 obtain⟨⟨⟨⟨hv,hp⟩,hh⟩,hn1,hn2⟩,ha⟩:=h
 have hl:(aQ2 v b a).length≤60:=by unfold aQ2;simp;omega
 have hne:=aM4 v p (aQ2 v b a) hv hp hl
 obtain⟨h1,h2,h3⟩:=(aFi _ _ _).1 ha
 generalize aAe v p (aQ2 v b a)=t at hne h3
 have hpos:0<t.length:=List.length_pos_iff.2 hne
 have:=congrArg List.length h3
 simp at this
 omega
theorem bUc (rs:List (List UInt8)) (x:List UInt8):(rs.map aB5).append [[C.str x]]=(rs++[x]).map aB5:=by simp
theorem bUe (rs:List Int) (x:Int):(rs.map aF3).append [[C.int .i64 x]]=(rs++[x]).map aF3:=by simp
theorem aVb (b:List UInt8) (v s q l:Int) (hb:b.length≤1048576) (hq:0≤q∧q≤1000000000):∀ (n f:Nat) (e:Int) (rs:List (List UInt8)) (os:List Int),0≤e→e≤b.length→(b.length:Int)<e+n→(b.length:Int)<e+f→rs.length=os.length→(rs.length:Int)≤e →
  (aBf aG0 aAa (sg [pS] [aLl]) Tryz.f90 [.r,.r,.r,.r,.b] n (aI3 b v s q l e rs.length (rs.map aB5) os.length (os.map aF3))).eval=some (bV9 v s q l (aFp v q b f rs.length e rs os)):=by
 intro n
 induction n with
 |zero=>intro f e rs os h0 h1 h2 h3 h4 h5;omega
 |succ n ih =>
  intro f e rs os h0 h1 h2 h3 h4 h5
  obtain⟨f,rfl⟩:∃ g,f=g+1:=⟨f-1,by omega⟩
  rw[aAi _ _ _ _ _ _ _ (by kernel_rfl),aRj]
  have w:IntKind.i64.wrap (q+(rs.length:Int))=q+(rs.length:Int):=by rw[aAd]<;>omega
  have pre1:decide (b.length≤281474976710656)=true:=decide_eq_true (by omega)
  have pre2:(decide ((-9223372036854775808:Int)≤e)&&decide (e≤(9223372036854775807:Int)))=true:=by simp;omega
  have ro1:aBb (rs.length+1) 16=true:=by simp only[aBb,decide_eq_true_eq];omega
  have ro2:aBb (os.length+1) 8=true:=by simp only[aBb,decide_eq_true_eq];omega
  have fl1:=aEl rs
  have fl2:=aWv os
  rw[w]
  simp only[aFp]
  cases hm:aKr v (q+(rs.length:Int)) b e with
  |true =>
   simp only[aBq,aCc,pre1,hm,aA0,aA2,List.length_map,decide_true,fl1,fl2,Bool.false_or,Bool.or_true,Bool.and_self,if_true]
   rfl
  |false =>
   cases ho:bFv v (q+(rs.length:Int)) b e with
   |true =>
    obtain⟨g1,g2,g3⟩:=aQ3 _ _ _ _ ho
    have e1:=ih f (aP1 v (q+(rs.length:Int)) b e) (rs++[aRn v (q+(rs.length:Int)) b e]) (os++[e]) (by omega) g2 (by omega) (by omega) (by simp;omega) (by simp;omega)
    simp only[aBq,aCc,aDv,pre1,pre2,hm,ho,aA0,List.length_map,decide_true,ro1,ro2,Bool.and_self,Bool.and_true,if_true,bUc,bUe,Bool.false_eq_true,if_false]
    simp only[List.length_append,List.length_cons,List.length_nil,Nat.zero_add,Int.natCast_add,Int.natCast_one]at e1 ⊢
    exact e1
   |false =>
    simp only[aBq,aCc,aDv,pre1,pre2,hm,ho,aA0,aA2,List.length_map,decide_true,fl1,fl2,Bool.false_or,Bool.or_true,Bool.and_self,if_true,Bool.false_eq_true,if_false]
    rfl
theorem aVc (b:List UInt8) (v s q l:Int) (hb:b.length≤1048576) (h24:24≤b.length) (hq:0≤q∧q≤1000000000) (n:Nat) (hn:b.length<n) :
  (aBf aG0 aAa (sg [pS] [aLl]) Tryz.f90 [.r,.r,.r,.r,.b] (n+1) (aMe b v s q l 24)).eval=some (bV9 v s q l (aFp v q b (b.length+1) 0 24 [] [])):=by
 rw[aAi _ _ _ _ _ _ _ (by kernel_rfl),aRk]
 have w:IntKind.i64.wrap (q+0)=q+0:=by rw[aAd]<;>omega
 have pre1:decide (b.length≤281474976710656)=true:=decide_eq_true (by omega)
 have pre2:(decide ((-9223372036854775808:Int)≤24)&&decide ((24:Int)≤(9223372036854775807:Int)))=true:=by decide
 rw[w]
 simp only[aFp]
 cases hm:aKr v (q+0) b 24 with
 |true =>
  simp only[aBq,aCc,pre1,hm,aA0,aA2,if_true]
  rfl
 |false =>
  cases ho:bFv v (q+0) b 24 with
  |true =>
   obtain⟨g1,g2,g3⟩:=aQ3 _ _ _ _ ho
   have e1:=aVb b v s q l hb hq n b.length (aP1 v (q+0) b 24) [aRn v (q+0) b 24] [24] (by omega) g2 (by omega) (by omega) rfl (by show (1:Int)≤_;omega)
   simp only[aBq,aCc,aDv,pre1,pre2,hm,ho,Bool.and_self,Bool.false_eq_true,if_false,if_true,List.nil_append]
   exact e1
  |false =>
   simp only[aBq,aCc,aDv,pre1,pre2,hm,ho,aA0,aA2,if_true,Bool.and_self,Bool.false_eq_true,if_false]
   rfl
theorem bJ5:aA6 Tryz.prog aG0:=aA5 (by simp[aLf,bBt,aT9])
theorem aH9:aAn Tryz.prog 90 (sg [pS] [aLl]) aGs:=aA4 bJ5 aA7 Tryz.func90 (by kernel_rfl) fun cs outs hk h=>by
 unfold aGs at h
 split at h
 ·simp only[Option.some.injEq,Prod.mk.injEq,decide_eq_true_eq]at h
  obtain⟨h1,rfl⟩:=h
  rename_i b
  rw[aA9,aYd]
  have pre1:decide (b.length≤281474976710656)=true:=decide_eq_true (by omega)
  cases hr:aA8 b with
  |false =>
   have e1:aIq b=([],[],0,false):=by unfold aIq;rw[hr];rfl
   simp only[aBq,aCc,aDv,pre1,hr,aA0,aA2,if_true,aAp,aEt,bJ1,aV8,e1,ifI,Bool.false_eq_true,if_false]
   rfl
  |true =>
   have h24:24≤b.length∧aD4 b 8 8=true∧aBc (rhV b) (rhS b) (rhB b) (rhL b)=b.take 24:=by
    unfold aA8 at hr
    simpa[and_assoc]using hr
   have hq:0≤rhB b∧rhB b≤1000000000:=by
    have ht:=h24.2.2
    cases hk:aD3 (rhV b) (rhS b) (rhB b) (rhL b)with
    |true=>have:=(aF1 _ _ _ _).1 hk;exact this.2.2.1
    |false =>
     unfold aBc at ht
     rw[hk]at ht
     have:=congrArg List.length ht
     simp at this
     omega
   have e1:aIq b=aFp (rhV b) (rhB b) b (b.length+1) 0 24 [] []:=by unfold aIq;rw[hr];rfl
   have lp:=aVc b (rhV b) (rhS b) (rhB b) (rhL b) h1 h24.1 hq 9223372036854775807 (by omega)
   rw[←e1]at lp
   simp only[aBq,aCc,aDv,pre1,hr,ifI,if_true]
   exact lp
 ·cases h
theorem aWe (b:List UInt8) (v s q l:Int) (hb:b.length≤1048576) (hq:0≤q∧q≤1000000000):∀ (n f:Nat) (e:Int) (rs:List (List UInt8)) (os:List Int),0≤e→e≤b.length→(b.length:Int)<e+n→(b.length:Int)<e+f→rs.length=os.length→(rs.length:Int)≤e →
  (aBf aG1 aAa (sg [pS] [aLl]) Tryz.f93 [.r,.r,.r,.r,.b] n (aI6 b v s q l e rs.length (rs.map aB5) os.length (os.map aF3))).eval=some (bV9 v s q l (aFp v q b f rs.length e rs os)):=by
 intro n
 induction n with
 |zero=>intro f e rs os h0 h1 h2 h3 h4 h5;omega
 |succ n ih =>
  intro f e rs os h0 h1 h2 h3 h4 h5
  obtain⟨f,rfl⟩:∃ g,f=g+1:=⟨f-1,by omega⟩
  rw[aAi _ _ _ _ _ _ _ (by kernel_rfl),aS1]
  have w:IntKind.i64.wrap (q+(rs.length:Int))=q+(rs.length:Int):=by rw[aAd]<;>omega
  have pre1:decide (b.length≤281474976710656)=true:=decide_eq_true (by omega)
  have pre2:(decide ((-9223372036854775808:Int)≤e)&&decide (e≤(9223372036854775807:Int)))=true:=by simp;omega
  have ro1:aBb (rs.length+1) 16=true:=by simp only[aBb,decide_eq_true_eq];omega
  have ro2:aBb (os.length+1) 8=true:=by simp only[aBb,decide_eq_true_eq];omega
  have fl1:=aEl rs
  have fl2:=aWv os
  rw[w]
  simp only[aFp]
  cases hm:aKr v (q+(rs.length:Int)) b e with
  |true =>
   simp only[aBq,aCc,pre1,hm,aA0,aA2,List.length_map,decide_true,fl1,fl2,Bool.false_or,Bool.or_true,Bool.and_self,if_true]
   rfl
  |false =>
   cases ho:bFv v (q+(rs.length:Int)) b e with
   |true =>
    obtain⟨g1,g2,g3⟩:=aQ3 _ _ _ _ ho
    have e1:=ih f (aP1 v (q+(rs.length:Int)) b e) (rs++[aRn v (q+(rs.length:Int)) b e]) (os++[e]) (by omega) g2 (by omega) (by omega) (by simp;omega) (by simp;omega)
    simp only[aBq,aCc,aDv,pre1,pre2,hm,ho,aA0,List.length_map,decide_true,ro1,ro2,Bool.and_self,Bool.and_true,if_true,bUc,bUe,Bool.false_eq_true,if_false]
    simp only[List.length_append,List.length_cons,List.length_nil,Nat.zero_add,Int.natCast_add,Int.natCast_one]at e1 ⊢
    exact e1
   |false =>
    simp only[aBq,aCc,aDv,pre1,pre2,hm,ho,aA0,aA2,List.length_map,decide_true,fl1,fl2,Bool.false_or,Bool.or_true,Bool.and_self,if_true,Bool.false_eq_true,if_false]
    rfl
theorem aWf (b:List UInt8) (v s q l:Int) (hb:b.length≤1048576) (h24:24≤b.length) (hq:0≤q∧q≤1000000000) (n:Nat) (hn:b.length<n) :
  (aBf aG1 aAa (sg [pS] [aLl]) Tryz.f93 [.r,.r,.r,.r,.b] (n+1) (aMf b v s q l 24)).eval=some (bV9 v s q l (aFp v q b (b.length+1) 0 24 [] [])):=by
 rw[aAi _ _ _ _ _ _ _ (by kernel_rfl),aS2]
 have w:IntKind.i64.wrap (q+0)=q+0:=by rw[aAd]<;>omega
 have pre1:decide (b.length≤281474976710656)=true:=decide_eq_true (by omega)
 have pre2:(decide ((-9223372036854775808:Int)≤24)&&decide ((24:Int)≤(9223372036854775807:Int)))=true:=by decide
 rw[w]
 simp only[aFp]
 cases hm:aKr v (q+0) b 24 with
 |true =>
  simp only[aBq,aCc,pre1,hm,aA0,aA2,if_true]
  rfl
 |false =>
  cases ho:bFv v (q+0) b 24 with
  |true =>
   obtain⟨g1,g2,g3⟩:=aQ3 _ _ _ _ ho
   have e1:=aWe b v s q l hb hq n b.length (aP1 v (q+0) b 24) [aRn v (q+0) b 24] [24] (by omega) g2 (by omega) (by omega) rfl (by show (1:Int)≤_;omega)
   simp only[aBq,aCc,aDv,pre1,pre2,hm,ho,Bool.and_self,Bool.false_eq_true,if_false,if_true,List.nil_append]
   exact e1
  |false =>
   simp only[aBq,aCc,aDv,pre1,pre2,hm,ho,aA0,aA2,if_true,Bool.and_self,Bool.false_eq_true,if_false]
   rfl
theorem bL4:aA6 Tryz.prog aG1:=aA5 (by simp[aM2,bDd,aTj])
theorem aLz:aAn Tryz.prog 93 (sg [pS] [aLl]) aGs:=aA4 bL4 aA7 Tryz.func93 (by kernel_rfl) fun cs outs hk h=>by
 unfold aGs at h
 split at h
 ·simp only[Option.some.injEq,Prod.mk.injEq,decide_eq_true_eq]at h
  obtain⟨h1,rfl⟩:=h
  rename_i b
  rw[aA9,aZ0]
  have pre1:decide (b.length≤281474976710656)=true:=decide_eq_true (by omega)
  cases hr:aA8 b with
  |false =>
   have e1:aIq b=([],[],0,false):=by unfold aIq;rw[hr];rfl
   simp only[aBq,aCc,aDv,pre1,hr,aA0,aA2,if_true,aAp,aEt,bJ1,aV8,e1,ifI,Bool.false_eq_true,if_false]
   rfl
  |true =>
   have h24:24≤b.length∧aD4 b 8 8=true∧aBc (rhV b) (rhS b) (rhB b) (rhL b)=b.take 24:=by
    unfold aA8 at hr
    simpa[and_assoc]using hr
   have hq:0≤rhB b∧rhB b≤1000000000:=by
    have ht:=h24.2.2
    cases hk:aD3 (rhV b) (rhS b) (rhB b) (rhL b)with
    |true=>have:=(aF1 _ _ _ _).1 hk;exact this.2.2.1
    |false =>
     unfold aBc at ht
     rw[hk]at ht
     have:=congrArg List.length ht
     simp at this
     omega
   have e1:aIq b=aFp (rhV b) (rhB b) b (b.length+1) 0 24 [] []:=by unfold aIq;rw[hr];rfl
   have lp:=aWf b (rhV b) (rhS b) (rhB b) (rhL b) h1 h24.1 hq 9223372036854775807 (by omega)
   rw[←e1]at lp
   simp only[aBq,aCc,aDv,pre1,hr,ifI,if_true]
   exact lp
 ·cases h
noncomputable section
def aMh:aC3:=fun cs=>match cs with
 |[.int .u64 n]=>some (decide (n=16),[.int .i64 4])
 |_=>none
def aVx:aC3:=fun cs=>match cs with
 |[.int .i64 n]=>some (decide (n=16),[.bool true])
 |_=>none
abbrev aTf:PTy:=.val false [.int .u64]
def aK1 (n:Nat):UInt8:=([48,49,50,51,52,53,54,55,56,57,97,98,99,100,101,102]:List UInt8).getD (n % 16) 0
def bDj:Nat→Nat→List UInt8→List UInt8
 |0,_,acc=>acc
 |f+1,n,acc=>if 16≤n then bDj f (n / 16) (aK1 n::acc)else aK1 n::acc
def aGe (n:Nat):List UInt8:=bDj 16 n []
def aSb:aC3:=fun cs=>match cs with
 |[.sl [],.int .u64 u,.int .i64 base,.bool false,.bool false]=>some (decide (base=16)&&(decide (0≤u)&&decide (u≤1000000000)),[.sl [],.str (aGe u.toNat)])
 |_=>none
def aJ4:aC3:=fun cs=>match cs with
 |[.int .i64 n,.int .i64 base]=>some (decide (base=16)&&(decide (0≤n)&&decide (n≤1000000000)),[.str (aGe n.toNat)])
 |_=>none
def aJc (u i s b m:Int) (r:List (List C)):St:=st1 [(0,.l (.sl [])),(1,.l (.i .u64 u)),(3,.l (.b false)),(4,.l (.b false)),(10,.l .nil),(11,.l (.s [])),(12,.l (.eptr 0 0 0)),(13,aAw i),(14,.l (.i .u64 s)),(15,.l (.i .u64 b)),(16,.l (.i .u64 m))] 1 r
def bY0:Env:=mkE [] []
def cCg:Env:=mkE [] [(203,(sg [aTf] [rI]),aMh)]
def bUn:Env:=mkE [] []
def aJd:Env:=mkE [(11,[0,1,3,4,10,11,12,13,14,15,16]),(18,[0,1,3,4,10,11,12,13,17])] [(195,(sg [aTf] [rI]),aMh),(194,(sg [pI] [rB]),aVx)]
def bO0:Env:=mkE [] [(169,(sg [pSl 5,aTf,pI,pB,pB] [rSl 5,rS]),aSb)]
def bIj:Env:=mkE [] [(126,(sg [pI,pI] [rS]),aJ4)]
def aMq:aC3:=fun cs=>match cs with
 |[.int .u64 a,.int .u64 n]=>some (decide (a=1)&&(decide (0≤n)&&decide (n≤8)),[.int .u64 0,.int .u64 n])
 |_=>none
abbrev bQt:RTy:=⟨false,[(.int .u64,false)]⟩
def bUk:Env:=mkE [] []
def bY3:Env:=mkE [] [(171,(sg [aTf,aTf] [bQt,bQt]),aMq)]
def bC2:aC3:=fun cs=>match cs with
 |[.str s,.int .i64 n]=>some (decide (s=[48])&&(decide (0≤n)&&decide (n≤8)),[.str (List.replicate n.toNat 48)])
 |_=>none
def bY1:Env:=mkE [(38,[7,8,9])] [(128,(sg [pS,pS] [rB]),aFv),(127,(sg [aTf,aTf] [bQt,bQt]),aMq)]
def aK5:Nat→Nat→List UInt8
 |0,_=>[]
 |k+1,n=>aK5 k (n / 16)++[aK1 n]
def aAm (n:Int):List UInt8:=if inB n 0 1000000000 then[115]++aK5 8 n.toNat++[46,115,101,103]else[]
def aFa:aC3:=fun cs=>match cs with
 |[.int .i64 n]=>some (true,[.str (aAm n)])
 |_=>none
def aG7 (n:Int) (q:Nat) (r:List (List C)) (i:Int):St:=st1 [(0,aAw n),(3,.l (.ref 0 0 q)),(4,aAw i)] 1 r
def aG8:Env:=mkE [(5,[0,3,4])] [(53,(sg [pI,pI,pI] [rB]),aE3)]
def aOm:Env:=mkE [] [(97,(sg [pI] [rB]),aCh),(98,(sg [pI,pI] [rS]),aJ4),(99,(sg [pS,pI] [rS]),bC2)]
end
theorem bR6 (H:List Pt→Nat→St→T (List C)):(aAg bY0 aAa (sg [aTf] [rI]) Tryz.f203 H [C.int .u64 16]).eval=((.ret [C.int .i64 (IntKind.i64.wrap 4)]):T (List C)).eval:=aAc (by kernel_rfl)
theorem bYd (H:List Pt→Nat→St→T (List C)):(aAg cCg aAa (sg [aTf] [rI]) Tryz.f195 H [C.int .u64 16]).eval=((.ret [C.int .i64 ((4:Int))]):T (List C)).eval:=aAc (by kernel_rfl)
theorem bPq (H:List Pt→Nat→St→T (List C)):(aAg bUn aAa (sg [pI] [rB]) Tryz.f194 H [C.int .i64 16]).eval=((.ret [C.bool true]):T (List C)).eval:=aAc (by kernel_rfl)
theorem bHe (H:List Pt→Nat→St→T (List C)) (u:Int):(aAg aJd aAa (sg [pSl 5,aTf,pI,pB,pB] [rSl 5,rS]) Tryz.f169 H [C.sl [],C.int .u64 u,C.int .i64 16,C.bool false,C.bool false]).eval=((H [Pt.r,Pt.r,Pt.r,Pt.r,Pt.r,Pt.l,Pt.r,Pt.l,Pt.r,Pt.r,Pt.r,Pt.l,Pt.b] 9223372036854775808 (aJc (u) ((65:Int)) (IntKind.u64.wrap ((4:Int))) (IntKind.u64.wrap ((16:Int))) (IntKind.u64.wrap (IntKind.u64.wrap ((16:Int))-(1:Int))) ([[C.int .u8 0],[C.int .u8 0],[C.int .u8 0],[C.int .u8 0],[C.int .u8 0],[C.int .u8 0],[C.int .u8 0],[C.int .u8 0],[C.int .u8 0],[C.int .u8 0],[C.int .u8 0],[C.int .u8 0],[C.int .u8 0],[C.int .u8 0],[C.int .u8 0],[C.int .u8 0],[C.int .u8 0],[C.int .u8 0],[C.int .u8 0],[C.int .u8 0],[C.int .u8 0],[C.int .u8 0],[C.int .u8 0],[C.int .u8 0],[C.int .u8 0],[C.int .u8 0],[C.int .u8 0],[C.int .u8 0],[C.int .u8 0],[C.int .u8 0],[C.int .u8 0],[C.int .u8 0],[C.int .u8 0],[C.int .u8 0],[C.int .u8 0],[C.int .u8 0],[C.int .u8 0],[C.int .u8 0],[C.int .u8 0],[C.int .u8 0],[C.int .u8 0],[C.int .u8 0],[C.int .u8 0],[C.int .u8 0],[C.int .u8 0],[C.int .u8 0],[C.int .u8 0],[C.int .u8 0],[C.int .u8 0],[C.int .u8 0],[C.int .u8 0],[C.int .u8 0],[C.int .u8 0],[C.int .u8 0],[C.int .u8 0],[C.int .u8 0],[C.int .u8 0],[C.int .u8 0],[C.int .u8 0],[C.int .u8 0],[C.int .u8 0],[C.int .u8 0],[C.int .u8 0],[C.int .u8 0],[C.int .u8 0]]))):T (List C)).eval:=aAc (by kernel_rfl)
theorem aOj (H:List Pt→Nat→St→T (List C)) (u:Int) (i:Int) (s:Int) (b:Int) (m:Int) (r:List (List C)) (k:Nat):aB1 aJd aAa (sg [pSl 5,aTf,pI,pB,pB] [rSl 5,rS]) Tryz.f169 H [Pt.r,Pt.r,Pt.r,Pt.r,Pt.r,Pt.l,Pt.r,Pt.l,Pt.r,Pt.r,Pt.r,Pt.l,Pt.b] k (aJc u i s b m r)=(.ask (decide (b≤u)) (.must (decide ((0:Int)≤aIh .u64 u m)&&decide (aIh .u64 u m<(↑(36:Nat):Int))) (.must (decide ((0:Int)≤IntKind.i64.wrap (i-(1:Int)))&&decide (IntKind.i64.wrap (i-(1:Int))<(↑(65:Nat):Int))) (.must (decide ((IntKind.i64.wrap (i-(1:Int))).toNat<r.length)) (.must (decide ((0:Int)≤s)) (H [Pt.r,Pt.r,Pt.r,Pt.r,Pt.r,Pt.l,Pt.r,Pt.l,Pt.r,Pt.r,Pt.r,Pt.l,Pt.b] k (aJc (aL3 .u64 u s) (IntKind.i64.wrap (i-(1:Int))) (s) (b) (m) (r.set (IntKind.i64.wrap (i-(1:Int))).toNat (C.int .u8 (↑([(48:UInt8),49,50,51,52,53,54,55,56,57,97,98,99,100,101,102,103,104,105,106,107,108,109,110,111,112,113,114,115,116,117,118,119,120,121,122].getD (aIh .u64 u m).toNat (0:UInt8)).toNat:Int)::List.drop (0+1) (r.getD (IntKind.i64.wrap (i-(1:Int))).toNat []))))))))) (.must (decide ((0:Int)≤u)&&decide (u<(↑(36:Nat):Int))) (.must (decide ((0:Int)≤IntKind.i64.wrap (i-(1:Int)))&&decide (IntKind.i64.wrap (i-(1:Int))<(↑(65:Nat):Int))) (.must (decide ((IntKind.i64.wrap (i-(1:Int))).toNat<r.length)) (.must (decide (65=(r.set (IntKind.i64.wrap (i-(1:Int))).toNat (C.int .u8 (↑([(48:UInt8),49,50,51,52,53,54,55,56,57,97,98,99,100,101,102,103,104,105,106,107,108,109,110,111,112,113,114,115,116,117,118,119,120,121,122].getD u.toNat (0:UInt8)).toNat:Int)::List.drop (0+1) (r.getD (IntKind.i64.wrap (i-(1:Int))).toNat []))).length)) (.must (decide ((0:Int)≤IntKind.i64.wrap (i-(1:Int)))&&decide (IntKind.i64.wrap (i-(1:Int))≤(↑(65:Nat):Int))) (.must ((List.take (65-(IntKind.i64.wrap (i-(1:Int))).toNat) (List.drop (IntKind.i64.wrap (i-(1:Int))).toNat (r.set (IntKind.i64.wrap (i-(1:Int))).toNat (C.int .u8 (↑([(48:UInt8),49,50,51,52,53,54,55,56,57,97,98,99,100,101,102,103,104,105,106,107,108,109,110,111,112,113,114,115,116,117,118,119,120,121,122].getD u.toNat (0:UInt8)).toNat:Int)::List.drop (0+1) (r.getD (IntKind.i64.wrap (i-(1:Int))).toNat []))))).all aFy) (.must true (.ret [C.sl [],C.str (aCo (List.take (65-(IntKind.i64.wrap (i-(1:Int))).toNat) (List.drop (IntKind.i64.wrap (i-(1:Int))).toNat (r.set (IntKind.i64.wrap (i-(1:Int))).toNat (C.int .u8 (↑([(48:UInt8),49,50,51,52,53,54,55,56,57,97,98,99,100,101,102,103,104,105,106,107,108,109,110,111,112,113,114,115,116,117,118,119,120,121,122].getD u.toNat (0:UInt8)).toNat:Int)::List.drop (0+1) (r.getD (IntKind.i64.wrap (i-(1:Int))).toNat []))))))]))))))))):=by kernel_rfl
theorem bLw (H:List Pt→Nat→St→T (List C)) (n:Int):(aAg bO0 aAa (sg [pI,pI] [rS]) Tryz.f126 H [C.int .i64 n,C.int .i64 16]).eval=((.ask (decide (n<(0:Int))) .bad (.must (decide ((16:Int)=(16:Int))&&(decide ((0:Int)≤IntKind.u64.wrap n)&&decide (IntKind.u64.wrap n≤(1000000000:Int)))) (.ret [C.str (aGe (IntKind.u64.wrap n).toNat)]))):T (List C)).eval:=aAc (by kernel_rfl)
theorem bHd (H:List Pt→Nat→St→T (List C)) (n:Int):(aAg bIj aAa (sg [pI,pI] [rS]) Tryz.f98 H [C.int .i64 n,C.int .i64 16]).eval=((.must (decide ((16:Int)=(16:Int))&&(decide ((0:Int)≤n)&&decide (n≤(1000000000:Int)))) (.ret [C.str (aGe n.toNat)])):T (List C)).eval:=aAc (by kernel_rfl)
theorem bPf (H:List Pt→Nat→St→T (List C)) (n:Int):(aAg bUk aAa (sg [aTf,aTf] [bQt,bQt]) Tryz.f171 H [C.int .u64 1,C.int .u64 n]).eval=((.ret [C.int .u64 (IntKind.u64.wrap (IntKind.u64.wrap (IntKind.u64.wrap (aL3 .u64 ((1:Int)) (32:Int)*aL3 .u64 n 32)+aL3 .u64 (IntKind.u64.wrap (IntKind.u64.wrap (aL3 .u64 ((1:Int)) (32:Int)*aIh .u64 n 4294967295)+aL3 .u64 (IntKind.u64.wrap (aIh .u64 ((1:Int)) (4294967295:Int)*aIh .u64 n 4294967295)) (32:Int))) (32:Int))+aL3 .u64 (IntKind.u64.wrap (aIh .u64 (IntKind.u64.wrap (IntKind.u64.wrap (aL3 .u64 ((1:Int)) (32:Int)*aIh .u64 n 4294967295)+aL3 .u64 (IntKind.u64.wrap (aIh .u64 ((1:Int)) (4294967295:Int)*aIh .u64 n 4294967295)) (32:Int))) (4294967295:Int)+IntKind.u64.wrap (aIh .u64 ((1:Int)) (4294967295:Int)*aL3 .u64 n 32))) (32:Int))),C.int .u64 (IntKind.u64.wrap ((1:Int)*n))]):T (List C)).eval:=aAc (by kernel_rfl)
theorem bSs (H:List Pt→Nat→St→T (List C)) (n:Int):(aAg bY3 aAa (sg [aTf,aTf] [bQt,bQt]) Tryz.f127 H [C.int .u64 1,C.int .u64 n]).eval=((.must (decide ((1:Int)=(1:Int))&&(decide ((0:Int)≤n)&&decide (n≤(8:Int)))) (.ret [C.int .u64 ((0:Int)),C.int .u64 n])):T (List C)).eval:=aAc (by kernel_rfl)
theorem bS6 (H:List Pt→Nat→St→T (List C)) (n:Int):(aAg bY1 aAa (sg [pS,pI] [rS]) Tryz.f99 H [C.str [(48:UInt8)],C.int .i64 n]).eval=((.ask (decide (n=(0:Int))) (.ret [C.str []]) (.ask (decide (n=(1:Int))) (.ret [C.str [(48:UInt8)]]) (.ask (decide (n<(0:Int))) .bad (.must (decide (IntKind.u64.wrap (↑[(48:UInt8)].length:Int)=(1:Int))&&(decide ((0:Int)≤IntKind.u64.wrap n)&&decide (IntKind.u64.wrap n≤(8:Int)))) (.ask (decide ((9223372036854775807:Int)<IntKind.u64.wrap n)) .bad (.ask (decide (IntKind.i64.wrap (IntKind.u64.wrap n)≤(128:Int))) (.ask (decide (IntKind.i64.wrap (IntKind.u64.wrap n)≤(128:Int))) (.ask (decide (IntKind.i64.wrap (IntKind.u64.wrap n)≤(64:Int))) (.must (decide ((0:Int)≤IntKind.i64.wrap (IntKind.u64.wrap n))&&decide (IntKind.i64.wrap (IntKind.u64.wrap n)≤(↑(64:Nat):Int))) (.ret [C.str (List.drop 0 (List.take (IntKind.i64.wrap (IntKind.u64.wrap n)).toNat [(48:UInt8),48,48,48,48,48,48,48,48,48,48,48,48,48,48,48,48,48,48,48,48,48,48,48,48,48,48,48,48,48,48,48,48,48,48,48,48,48,48,48,48,48,48,48,48,48,48,48,48,48,48,48,48,48,48,48,48,48,48,48,48,48,48,48]))])) (.ask (decide (IntKind.i64.wrap (IntKind.u64.wrap n)≤(128:Int))) (.ask (decide (IntKind.i64.wrap (IntKind.u64.wrap n)≤(64:Int))) (.ask (decide ((8192:Int)<IntKind.i64.wrap (IntKind.u64.wrap n))) .bad .bad) (.ask (decide ((8192:Int)<IntKind.i64.wrap (IntKind.u64.wrap n))) .bad .bad)) (.ask (decide (IntKind.i64.wrap (IntKind.u64.wrap n)≤(64:Int))) (.ask (decide ((8192:Int)<IntKind.i64.wrap (IntKind.u64.wrap n))) .bad .bad) (.ask (decide ((8192:Int)<IntKind.i64.wrap (IntKind.u64.wrap n))) .bad .bad)))) (.ask (decide (IntKind.i64.wrap (IntKind.u64.wrap n)≤(64:Int))) (.must (decide ((0:Int)≤IntKind.i64.wrap (IntKind.u64.wrap n))&&decide (IntKind.i64.wrap (IntKind.u64.wrap n)≤(↑(64:Nat):Int))) (.ret [C.str (List.drop 0 (List.take (IntKind.i64.wrap (IntKind.u64.wrap n)).toNat [(48:UInt8),48,48,48,48,48,48,48,48,48,48,48,48,48,48,48,48,48,48,48,48,48,48,48,48,48,48,48,48,48,48,48,48,48,48,48,48,48,48,48,48,48,48,48,48,48,48,48,48,48,48,48,48,48,48,48,48,48,48,48,48,48,48,48]))])) (.ask (decide (IntKind.i64.wrap (IntKind.u64.wrap n)≤(128:Int))) (.ask (decide (IntKind.i64.wrap (IntKind.u64.wrap n)≤(64:Int))) (.ask (decide ((8192:Int)<IntKind.i64.wrap (IntKind.u64.wrap n))) .bad .bad) (.ask (decide ((8192:Int)<IntKind.i64.wrap (IntKind.u64.wrap n))) .bad .bad)) (.ask (decide (IntKind.i64.wrap (IntKind.u64.wrap n)≤(64:Int))) (.ask (decide ((8192:Int)<IntKind.i64.wrap (IntKind.u64.wrap n))) .bad .bad) (.ask (decide ((8192:Int)<IntKind.i64.wrap (IntKind.u64.wrap n))) .bad .bad))))) (.ask (decide (IntKind.i64.wrap (IntKind.u64.wrap n)≤(128:Int))) (.ask (decide (IntKind.i64.wrap (IntKind.u64.wrap n)≤(64:Int))) (.must (decide ((0:Int)≤IntKind.i64.wrap (IntKind.u64.wrap n))&&decide (IntKind.i64.wrap (IntKind.u64.wrap n)≤(↑(64:Nat):Int))) (.ret [C.str (List.drop 0 (List.take (IntKind.i64.wrap (IntKind.u64.wrap n)).toNat [(48:UInt8),48,48,48,48,48,48,48,48,48,48,48,48,48,48,48,48,48,48,48,48,48,48,48,48,48,48,48,48,48,48,48,48,48,48,48,48,48,48,48,48,48,48,48,48,48,48,48,48,48,48,48,48,48,48,48,48,48,48,48,48,48,48,48]))])) (.ask (decide (IntKind.i64.wrap (IntKind.u64.wrap n)≤(128:Int))) (.ask (decide (IntKind.i64.wrap (IntKind.u64.wrap n)≤(64:Int))) (.ask (decide ((8192:Int)<IntKind.i64.wrap (IntKind.u64.wrap n))) .bad .bad) (.ask (decide ((8192:Int)<IntKind.i64.wrap (IntKind.u64.wrap n))) .bad .bad)) (.ask (decide (IntKind.i64.wrap (IntKind.u64.wrap n)≤(64:Int))) (.ask (decide ((8192:Int)<IntKind.i64.wrap (IntKind.u64.wrap n))) .bad .bad) (.ask (decide ((8192:Int)<IntKind.i64.wrap (IntKind.u64.wrap n))) .bad .bad)))) (.ask (decide (IntKind.i64.wrap (IntKind.u64.wrap n)≤(64:Int))) (.must (decide ((0:Int)≤IntKind.i64.wrap (IntKind.u64.wrap n))&&decide (IntKind.i64.wrap (IntKind.u64.wrap n)≤(↑(64:Nat):Int))) (.ret [C.str (List.drop 0 (List.take (IntKind.i64.wrap (IntKind.u64.wrap n)).toNat [(48:UInt8),48,48,48,48,48,48,48,48,48,48,48,48,48,48,48,48,48,48,48,48,48,48,48,48,48,48,48,48,48,48,48,48,48,48,48,48,48,48,48,48,48,48,48,48,48,48,48,48,48,48,48,48,48,48,48,48,48,48,48,48,48,48,48]))])) (.ask (decide (IntKind.i64.wrap (IntKind.u64.wrap n)≤(128:Int))) (.ask (decide (IntKind.i64.wrap (IntKind.u64.wrap n)≤(64:Int))) (.ask (decide ((8192:Int)<IntKind.i64.wrap (IntKind.u64.wrap n))) .bad .bad) (.ask (decide ((8192:Int)<IntKind.i64.wrap (IntKind.u64.wrap n))) .bad .bad)) (.ask (decide (IntKind.i64.wrap (IntKind.u64.wrap n)≤(64:Int))) (.ask (decide ((8192:Int)<IntKind.i64.wrap (IntKind.u64.wrap n))) .bad .bad) (.ask (decide ((8192:Int)<IntKind.i64.wrap (IntKind.u64.wrap n))) .bad .bad))))))))))):T (List C)).eval:=aAc (by kernel_rfl)
theorem aRh (H:List Pt→Nat→St→T (List C)) (n:Int):(aAg aG8 aAa (sg [pI] [rS]) Tryz.f49 H [C.int .i64 n]).eval=((.ask (inB n 0 1000000000) (H [Pt.r,Pt.r,Pt.r,Pt.l,Pt.r,Pt.b] 9223372036854775808 (aG7 (n) (0) ([]) ((7:Int)))) (.ret [C.str []])):T (List C)).eval:=aAc (by kernel_rfl)
theorem aS0 (H:List Pt→Nat→St→T (List C)) (n:Int):(aAg aOm aAa (sg [pI] [rS]) Tryz.f59 H [C.int .i64 n]).eval=((.ask (inB n 0 1000000000) (.must (decide ((16:Int)=(16:Int))&&(decide ((0:Int)≤n)&&decide (n≤(1000000000:Int)))) (.must (decide ([(48:UInt8)]=[(48:UInt8)])&&(decide ((0:Int)≤IntKind.i64.wrap ((8:Int)-(↑(aGe n.toNat).length:Int)))&&decide (IntKind.i64.wrap ((8:Int)-(↑(aGe n.toNat).length:Int))≤(8:Int)))) (.must (decide (1+(List.replicate (IntKind.i64.wrap ((8:Int)-(↑(aGe n.toNat).length:Int))).toNat (48:UInt8)).length≤9223372036854775807)) (.must (decide (([(115:UInt8)]++List.replicate (IntKind.i64.wrap ((8:Int)-(↑(aGe n.toNat).length:Int))).toNat (48:UInt8)).length+(aGe n.toNat).length≤9223372036854775807)) (.must (decide (([(115:UInt8)]++List.replicate (IntKind.i64.wrap ((8:Int)-(↑(aGe n.toNat).length:Int))).toNat (48:UInt8)++aGe n.toNat).length+4≤9223372036854775807)) (.ret [C.str ([(115:UInt8)]++List.replicate (IntKind.i64.wrap ((8:Int)-(↑(aGe n.toNat).length:Int))).toNat (48:UInt8)++aGe n.toNat++[(46:UInt8),115,101,103])])))))) (.ret [C.str []])):T (List C)).eval:=aAc (by kernel_rfl)
theorem aH8 (H:List Pt→Nat→St→T (List C)) (n:Int) (q:Nat) (r:List (List C)) (i:Int) (k:Nat):(aB1 aG8 aAa (sg [pI] [rS]) Tryz.f49 H [Pt.r,Pt.r,Pt.r,Pt.l,Pt.r,Pt.b] k (aG7 n q r i)).eval=((.ask (decide ((0:Int)≤i)) (.must (decide ((0:Int)≤IntKind.u64.wrap (IntKind.i64.wrap ((4:Int)*i)))) (.must (decide ((0:Int)≤aIh .i64 (aL3 .i64 n (IntKind.u64.wrap (IntKind.i64.wrap ((4:Int)*i)))) (15:Int))&&decide (aIh .i64 (aL3 .i64 n (IntKind.u64.wrap (IntKind.i64.wrap ((4:Int)*i)))) (15:Int)<(↑(16:Nat):Int))) (.must (decide (q=r.length)&&aBb (r.length+1) 1&&(decide (1=1)&&true)) (H [Pt.r,Pt.r,Pt.r,Pt.l,Pt.r,Pt.b] k (aG7 (n) (r.length+1) (r.append [[C.int .u8 (↑([(48:UInt8),49,50,51,52,53,54,55,56,57,97,98,99,100,101,102].getD (aIh .i64 (aL3 .i64 n (IntKind.u64.wrap (IntKind.i64.wrap ((4:Int)*i)))) (15:Int)).toNat (0:UInt8)).toNat:Int)]]) (IntKind.i64.wrap (i-(1:Int)))))))) (.must ((List.take q r).all aFy) (.must (decide (1+(aCo (List.take q r)).length≤9223372036854775807)) (.must (decide (([(115:UInt8)]++aCo (List.take q r)).length+4≤9223372036854775807)) (.ret [C.str ([(115:UInt8)]++aCo (List.take q r)++[(46:UInt8),115,101,103])]))))):T (List C)).eval:=aAc (by kernel_rfl)
theorem cAw (n:Nat) (hn:n<18446744073709551616):aIh .u64 (n:Int) 15=((n % 16:Nat):Int):=by
 have e:(BitVec.ofInt 64 (n:Int)&&&BitVec.ofInt 64 15).toNat=n % 16:=by
  rw[BitVec.toNat_and]
  have h1:(BitVec.ofInt 64 (n:Int)).toNat=n:=by simp;omega
  have h2:(BitVec.ofInt 64 (15:Int)).toNat=15:=by decide
  rw[h1,h2]
  exact Nat.and_two_pow_sub_one_eq_mod n 4
 show IntKind.u64.wrap ((BitVec.ofInt 64 (n:Int)&&&BitVec.ofInt 64 15).toNat:Int)=_
 rw[e,aOo]<;>omega
theorem cC1 (n:Nat):aL3 .u64 (n:Int) 4=((n / 16:Nat):Int):=by
 unfold aL3
 simp[IntKind.bits]
 rw[Int.fdiv_eq_ediv_of_nonneg _ (by decide)]
theorem bHi (k:Nat) (hk:k<16):((([48,49,50,51,52,53,54,55,56,57,97,98,99,100,101,102,103,104,105,106,107,108,109,110,111,112,113,114,115,116,117,118,119,120,121,122]:List UInt8).getD k 0).toNat:Int)=((aK1 k).toNat:Int):=by
 revert hk;revert k;decide
theorem bDu (n:Nat):aK1 (n % 16)=aK1 n:=by unfold aK1;rw[Nat.mod_mod]
theorem bFt (l:List UInt8) (j:Nat) (hj:j<l.length) (v:UInt8):(aAb l).set j (C.int .u8 ((v.toNat:Nat):Int)::List.drop (0+1) ((aAb l).getD j []))=aAb (l.set j v):=by
 rw[bC0 l j hj]
 simp[aAb,List.map_set]
theorem bMn (l:List UInt8) (j:Nat) (hj:j<l.length) (v:UInt8):(l.set j v).drop j=v::l.drop (j+1):=by
 rw[List.drop_eq_getElem_cons (by simpa using hj)]
 simp[List.drop_set]
theorem cA6:aA6 Tryz.prog bY0:=aA5 (by simp[])
theorem bOa:aAn Tryz.prog 203 (sg [aTf] [rI]) aMh:=aA4 cA6 aA7 Tryz.func203 (by kernel_rfl) fun cs outs hk h=>by
 unfold aMh at h
 split at h
 ·simp only[Option.some.injEq,Prod.mk.injEq,decide_eq_true_eq]at h
  obtain⟨rfl,rfl⟩:=h
  rw[aA9,bR6]
  rfl
 ·cases h
theorem cCh:aA6 Tryz.prog cCg:=aA5 (by simp[bOa])
theorem bV2:aAn Tryz.prog 195 (sg [aTf] [rI]) aMh:=aA4 cCh aA7 Tryz.func195 (by kernel_rfl) fun cs outs hk h=>by
 unfold aMh at h
 split at h
 ·simp only[Option.some.injEq,Prod.mk.injEq,decide_eq_true_eq]at h
  obtain⟨rfl,rfl⟩:=h
  rw[aA9,bYd]
  rfl
 ·cases h
theorem bZ5:aA6 Tryz.prog bUn:=aA5 (by simp[])
theorem bKw:aAn Tryz.prog 194 (sg [pI] [rB]) aVx:=aA4 bZ5 aA7 Tryz.func194 (by kernel_rfl) fun cs outs hk h=>by
 unfold aVx at h
 split at h
 ·simp only[Option.some.injEq,Prod.mk.injEq,decide_eq_true_eq]at h
  obtain⟨rfl,rfl⟩:=h
  rw[aA9,bPq]
  rfl
 ·cases h
theorem aSu (n f i u:Nat) (l:List UInt8) (h1:u<16) (h2:1≤i) (h3:i≤65) (h4:l.length=65) (h6:0<n) (h7:0<f) :
  (aBf aJd aAa (sg [pSl 5,aTf,pI,pB,pB] [rSl 5,rS]) Tryz.f169 [.r,.r,.r,.r,.r,.l,.r,.l,.r,.r,.r,.l,.b] n (aJc u i 4 16 15 (aAb l))).eval=some [.sl [],.str (bDj f u (l.drop i))]:=by
  obtain⟨n,rfl⟩:∃ g,n=g+1:=⟨n-1,by omega⟩
  obtain⟨f,rfl⟩:∃ g,f=g+1:=⟨f-1,by omega⟩
  rw[aAi _ _ _ _ _ _ _ (by kernel_rfl),aOj]
  obtain⟨j,rfl⟩:∃ j,i=j+1:=⟨i-1,by omega⟩
  have w:IntKind.i64.wrap (((j+1:Nat):Int)-1)=(j:Int):=by rw[aAd]<;>omega
  have c1:¬(16:Int)≤(u:Int):=by omega
  have hj:j<l.length:=by omega
  have fs:=bHi u h1
  have rs:=bFt l j hj (aK1 u)
  rw[←fs]at rs
  have ln:(l.set j (aK1 u)).length=65:=by simpa using h4
  have hx:¬16≤u:=by omega
  simp only[bDj,if_neg hx]
  have tk:List.take (65-j) (aAb (List.drop j (l.set j (aK1 u))))=aAb (aK1 u::l.drop (j+1)):=by
   rw[bMn l j hj,List.take_of_length_le]
   simp[aBa];omega
  have b1:(u:Int)<(↑(36:Nat):Int):=by omega
  have b2:(j:Int)<(↑(65:Nat):Int):=by omega
  have b3:(j:Int)≤(↑(65:Nat):Int):=by omega
  have z1:(0:Int)≤(u:Int):=by omega
  have z2:(0:Int)≤(j:Int):=by omega
  simp only[aA0,aA1,aA2,w,Int.toNat_natCast,rs,decide_eq_true_eq,c1,if_false,b1,b2,b3,z1,z2,decide_true,Bool.and_self,if_true,aBa,ln,hj,bRw,tk,aE9,aGr]
theorem bHf:∀ (k n f i u:Nat) (l:List UInt8),u<16^(k+1)→k+1≤i→i≤65→l.length=65→k<15→k<n→k<f →
  (aBf aJd aAa (sg [pSl 5,aTf,pI,pB,pB] [rSl 5,rS]) Tryz.f169 [.r,.r,.r,.r,.r,.l,.r,.l,.r,.r,.r,.l,.b] n (aJc u i 4 16 15 (aAb l))).eval=some [.sl [],.str (bDj f u (l.drop i))]:=by
 intro k
 induction k with
 |zero =>
  intro n f i u l h1 h2 h3 h4 h5 h6 h7
  exact aSu n f i u l (by simpa using h1) h2 h3 h4 h6 h7
 |succ k ih =>
  intro n f i u l h1 h2 h3 h4 h5 h6 h7
  by_cases hu:u<16
  ·exact aSu n f i u l hu (by omega) h3 h4 (by omega) (by omega)
  ·obtain⟨n,rfl⟩:∃ g,n=g+1:=⟨n-1,by omega⟩
   obtain⟨f,rfl⟩:∃ g,f=g+1:=⟨f-1,by omega⟩
   have h8:u<18446744073709551616:=by
    have:16^(k+1+1)≤16^16:=Nat.pow_le_pow_right (by omega) (by omega)
    have e:(16:Nat)^16=18446744073709551616:=by decide
    omega
   obtain⟨j,rfl⟩:∃ j,i=j+1:=⟨i-1,by omega⟩
   have hj:j<l.length:=by omega
   have e:=ih n f j (u / 16) (l.set j (aK1 (u % 16))) (by rw[Nat.div_lt_iff_lt_mul (by omega)];rw[Nat.pow_succ]at h1;exact h1) (by omega) (by omega) (by simpa using h4) (by omega) (by omega) (by omega)
   rw[aAi _ _ _ _ _ _ _ (by kernel_rfl),aOj]
   have w:IntKind.i64.wrap (((j+1:Nat):Int)-1)=(j:Int):=by rw[aAd]<;>omega
   have c1:(16:Int)≤(u:Int):=by omega
   have fs:=bHi (u % 16) (by omega)
   have rs:=bFt l j hj (aK1 (u % 16))
   rw[←fs,bDu]at rs
   have hx:16≤u:=by omega
   simp only[bDj,if_pos hx]
   rw[bMn l j hj,bDu]at e
   have b1:((u % 16:Nat):Int)<(↑(36:Nat):Int):=by omega
   have b2:(j:Int)<(↑(65:Nat):Int):=by omega
   have z1:(0:Int)≤((u % 16:Nat):Int):=by omega
   have z2:(0:Int)≤(j:Int):=by omega
   have z4:(0:Int)≤4:=by omega
   simp only[aA0,aA1,w,cAw u h8,cC1,Int.toNat_natCast,rs,decide_eq_true_eq,c1,if_true,b1,b2,z1,z2,z4,decide_true,Bool.and_self,aBa,hj]
   exact e
theorem bTl:aA6 Tryz.prog aJd:=aA5 (by simp[bV2,bKw])
theorem bDq:aAn Tryz.prog 169 (sg [pSl 5,aTf,pI,pB,pB] [rSl 5,rS]) aSb:=aA4 bTl aA7 Tryz.func169 (by kernel_rfl) fun cs outs hk h=>by
 unfold aSb at h
 split at h
 ·simp only[Option.some.injEq,Prod.mk.injEq,Bool.and_eq_true,decide_eq_true_eq]at h
  obtain⟨⟨rfl,h1,h2⟩,rfl⟩:=h
  rename_i u
  obtain⟨n,rfl⟩:=Int.eq_ofNat_of_zero_le h1
  rw[aA9,bHe]
  have lp:=bHf 7 9223372036854775808 16 65 n (List.replicate 65 0) (by omega) (by omega) (by omega) (by simp) (by omega) (by omega) (by omega)
  have e1:List.drop 65 (List.replicate 65 (0:UInt8))=[]:=rfl
  rw[e1]at lp
  have d1:decide (Int.ofNat 16<(2:Int))=false:=by decide
  have d2:decide ((36:Int)<Int.ofNat 16)=false:=by decide
  simp only[aA0,aA1,d1,d2,if_true,Bool.false_eq_true,if_false]
  exact Eq.trans (congrArg (fun s=>(aBf aJd aAa (sg [pSl 5,aTf,pI,pB,pB] [rSl 5,rS]) Tryz.f169 [.r,.r,.r,.r,.r,.l,.r,.l,.r,.r,.r,.l,.b] 9223372036854775808 s).eval) (rfl:_=aJc n ((65:Nat):Int) 4 16 15 (aAb (List.replicate 65 0)))) lp
 ·cases h
theorem bAo {n:Int} (h1:0≤n) (h2:n≤1000000000):IntKind.u64.wrap n=n:=by rw[aOo]<;>omega
theorem bWu:aA6 Tryz.prog bO0:=aA5 (by simp[bDq])
theorem bHc:aAn Tryz.prog 126 (sg [pI,pI] [rS]) aJ4:=aA4 bWu aA7 Tryz.func126 (by kernel_rfl) fun cs outs hk h=>by
 unfold aJ4 at h
 split at h
 ·simp only[Option.some.injEq,Prod.mk.injEq,Bool.and_eq_true,decide_eq_true_eq]at h
  obtain⟨⟨rfl,h1,h2⟩,rfl⟩:=h
  rename_i n
  rw[aA9,bLw,bAo h1 h2]
  have c:¬n<0:=by omega
  have d:decide (Int.ofNat 16=(16:Int))=true:=by decide
  simp only[aA0,aA1,aA2,decide_eq_true_eq,c,if_false,d,h1,h2,decide_true,Bool.and_self,if_true]
 ·cases h
theorem bTk:aA6 Tryz.prog bIj:=aA5 (by simp[bHc])
theorem bDp:aAn Tryz.prog 98 (sg [pI,pI] [rS]) aJ4:=aA4 bTk aA7 Tryz.func98 (by kernel_rfl) fun cs outs hk h=>by
 unfold aJ4 at h
 split at h
 ·simp only[Option.some.injEq,Prod.mk.injEq,Bool.and_eq_true,decide_eq_true_eq]at h
  obtain⟨⟨rfl,h1,h2⟩,rfl⟩:=h
  rename_i n
  rw[aA9,bHd]
  have d:decide (Int.ofNat 16=(16:Int))=true:=by decide
  simp only[aA0,aA1,aA2,d,h1,h2,decide_true,Bool.and_self,if_true]
 ·cases h
theorem bZ1:aA6 Tryz.prog bUk:=aA5 (by simp[])
theorem bK7:aAn Tryz.prog 171 (sg [aTf,aTf] [bQt,bQt]) aMq:=aA4 bZ1 aA7 Tryz.func171 (by kernel_rfl) fun cs outs hk h=>by
 unfold aMq at h
 split at h
 ·simp only[Option.some.injEq,Prod.mk.injEq,Bool.and_eq_true,decide_eq_true_eq]at h
  obtain⟨⟨rfl,h1,h2⟩,rfl⟩:=h
  rename_i n
  rw[aA9,bPf]
  obtain⟨k,rfl⟩:=Int.eq_ofNat_of_zero_le h1
  have hk:k≤8:=by omega
  have:k=0∨k=1∨k=2∨k=3∨k=4∨k=5∨k=6∨k=7∨k=8:=by omega
  rcases this with rfl | rfl | rfl | rfl | rfl | rfl | rfl | rfl | rfl<;>rfl
 ·cases h
theorem cAp:aA6 Tryz.prog bY3:=aA5 (by simp[bK7])
theorem bPe:aAn Tryz.prog 127 (sg [aTf,aTf] [bQt,bQt]) aMq:=aA4 cAp aA7 Tryz.func127 (by kernel_rfl) fun cs outs hk h=>by
 unfold aMq at h
 split at h
 ·simp only[Option.some.injEq,Prod.mk.injEq,Bool.and_eq_true,decide_eq_true_eq]at h
  obtain⟨⟨rfl,h1,h2⟩,rfl⟩:=h
  rename_i n
  rw[aA9,bSs]
  have d:decide (Int.ofNat 1=(1:Int))=true:=by decide
  simp only[aA0,aA1,aA2,d,h1,h2,decide_true,Bool.and_self,if_true]
 ·cases h
theorem cAf:aA6 Tryz.prog bY1:=aA5 (by simp[aKn,bPe])
theorem bP3:aAn Tryz.prog 99 (sg [pS,pI] [rS]) bC2:=aA4 cAf aA7 Tryz.func99 (by kernel_rfl) fun cs outs hk h=>by
 unfold bC2 at h
 split at h
 ·simp only[Option.some.injEq,Prod.mk.injEq,Bool.and_eq_true,decide_eq_true_eq]at h
  obtain⟨⟨rfl,h1,h2⟩,rfl⟩:=h
  rename_i n
  rw[aA9,bS6]
  obtain⟨k,rfl⟩:=Int.eq_ofNat_of_zero_le h1
  have:k=0∨k=1∨k=2∨k=3∨k=4∨k=5∨k=6∨k=7∨k=8:=by omega
  rcases this with rfl | rfl | rfl | rfl | rfl | rfl | rfl | rfl | rfl<;>rfl
 ·cases h
theorem aK4:∀ (k n:Nat),(aK5 k n).length=k
 |0,_=>rfl
 |k+1,n=>by simp[aK5,aK4 k]
theorem bA4:∀ (f k n:Nat) (acc:List UInt8),n<16^(k+1)→k<f→∃ m,1≤m∧m≤k+1∧n<16^m∧bDj f n acc=aK5 m n++acc
 |0,k,n,acc,_,h=>by omega
 |f+1,k,n,acc,h1,h2=>by
  by_cases hn:16≤n
  ·obtain⟨k,rfl⟩:∃ j,k=j+1:=⟨k-1,by
    cases k with
    |zero=>simp at h1;omega
    |succ k=>omega⟩
   obtain⟨m,a1,a2,a3,a4⟩:=bA4 f k (n / 16) (aK1 n::acc) (by rw[Nat.div_lt_iff_lt_mul (by omega)];rw[Nat.pow_succ]at h1;exact h1) (by omega)
   refine⟨m+1,by omega,by omega,?_,?_⟩
   ·rw[Nat.pow_succ];rw[Nat.div_lt_iff_lt_mul (by omega)]at a3;exact a3
   ·simp only[bDj,if_pos hn,a4,aK5,List.append_assoc,List.cons_append,List.nil_append]
  ·exact⟨1,by omega,by omega,by omega,by simp[bDj,if_neg hn,aK5]⟩
theorem bHr:∀ k,aK5 k 0=List.replicate k 48
 |0=>rfl
 |k+1=>by
  rw[aK5,Nat.zero_div,bHr k,List.replicate_succ']
  rfl
theorem bNa:∀ (m k n:Nat),n<16^m→aK5 (k+m) n=List.replicate k 48++aK5 m n
 |0,k,n,h=>by
  have:n=0:=by simpa using h
  subst this
  simp[aK5,bHr]
 |m+1,k,n,h=>by
  have:=bNa m k (n / 16) (by rw[Nat.div_lt_iff_lt_mul (by omega)];rw[Nat.pow_succ]at h;exact h)
  rw[←Nat.add_assoc,aK5,this,aK5,List.append_assoc]
theorem bZc (n:Nat) (h:n≤1000000000):(aGe n).length≤8∧List.replicate (8-(aGe n).length) 48++aGe n=aK5 8 n:=by
 obtain⟨m,a1,a2,a3,a4⟩:=bA4 16 7 n [] (by omega) (by omega)
 rw[List.append_nil]at a4
 unfold aGe
 rw[a4,aK4]
 refine⟨by omega,?_⟩
 rw[←bNa m (8-m) n a3,Nat.sub_add_cancel (by omega)]
theorem bZ7 (n:Nat) (hn:n<9223372036854775808):aIh .i64 (n:Int) 15=((n % 16:Nat):Int):=by
 have e:(BitVec.ofInt 64 (n:Int)&&&BitVec.ofInt 64 15).toNat=n % 16:=by
  rw[BitVec.toNat_and]
  have h1:(BitVec.ofInt 64 (n:Int)).toNat=n:=by simp;omega
  have h2:(BitVec.ofInt 64 (15:Int)).toNat=15:=by decide
  rw[h1,h2]
  exact Nat.and_two_pow_sub_one_eq_mod n 4
 show IntKind.i64.wrap ((BitVec.ofInt 64 (n:Int)&&&BitVec.ofInt 64 15).toNat:Int)=_
 rw[e,aAd]<;>omega
theorem bZe (k:Nat) (hk:k<16):(([48,49,50,51,52,53,54,55,56,57,97,98,99,100,101,102]:List UInt8).getD k 0)=aK1 k:=by
 revert hk;revert k;decide
theorem aRi (b:Nat) (hb:b≤1000000000):∀ (j n:Nat),j≤8→j<n →
  (aBf aG8 aAa (sg [pI] [rS]) Tryz.f49 [.r,.r,.r,.l,.r,.b] n (aG7 b (8-j) (aAb (aK5 (8-j) (b / 16^j))) ((j:Int)-1))).eval=some [.str ([115]++aK5 8 b++[46,115,101,103])]:=by
 intro j
 induction j with
 |zero =>
  intro n h1 h2
  obtain⟨n,rfl⟩:∃ g,n=g+1:=⟨n-1,by omega⟩
  rw[aAi _ _ _ _ _ _ _ (by kernel_rfl),aH8]
  have c:¬(0:Int)≤((0:Nat):Int)-1:=by omega
  have tk:List.take (8-0) (aAb (aK5 (8-0) (b / 16^0)))=aAb (aK5 8 b):=by
   rw[List.take_of_length_le]
   ·simp
   ·simp[aBa,aK4]
  have l1:(1+(aK5 8 b).length≤9223372036854775807):=by rw[aK4];omega
  have l2:(([115]++aK5 8 b).length+4≤9223372036854775807):=by simp[aK4]
  simp only[aA0,aA1,aA2,decide_eq_true_eq,c,if_false,tk,aE9,aGr,if_true,l1,l2]
 |succ j ih =>
  intro n h1 h2
  obtain⟨n,rfl⟩:∃ g,n=g+1:=⟨n-1,by omega⟩
  have e:=ih n (by omega) (by omega)
  rw[aAi _ _ _ _ _ _ _ (by kernel_rfl),aH8]
  have w0:((j+1:Nat):Int)-1=(j:Int):=by omega
  have w1:IntKind.i64.wrap ((4:Int)*(j:Int))=((4*j:Nat):Int):=by rw[aAd]<;>omega
  have w2:IntKind.u64.wrap ((4*j:Nat):Int)=((4*j:Nat):Int):=by rw[aOo]<;>omega
  have s1:aL3 IntKind.i64 (b:Int) ((4*j:Nat):Int)=((b / 16^j:Nat):Int):=by
   rw[aH4 _ _ (by omega),Nat.pow_mul]
  have hlt:b / 16^j≤b:=Nat.div_le_self _ _
  have s2:=bZ7 (b / 16^j) (by omega)
  have c:(0:Int)≤(j:Int):=by omega
  have z1:(0:Int)≤((4*j:Nat):Int):=by omega
  have z2:(0:Int)≤((b / 16^j % 16:Nat):Int):=by omega
  have z3:((b / 16^j % 16:Nat):Int)<(↑(16:Nat):Int):=by omega
  have fg:=bZe (b / 16^j % 16) (by omega)
  have ra:=aFt (aK5 (8-(j+1)) (b / 16^(j+1))) (aK1 (b / 16^j % 16)).toNat (UInt8.toNat_lt _)
  have dk:aK5 (8-(j+1)) (b / 16^(j+1))++[UInt8.ofNat (aK1 (b / 16^j % 16)).toNat]=aK5 (8-j) (b / 16^j):=by
   rw[UInt8.ofNat_toNat,bDu]
   have e1:8-j=(8-(j+1))+1:=by omega
   rw[e1,aK5,Nat.div_div_eq_div_mul,←Nat.pow_succ]
  have ro:aBb (8-j) 1=true:=by simp only[aBb,decide_eq_true_eq];omega
  have w3:IntKind.i64.wrap ((j:Int)-1)=(j:Int)-1:=by rw[aAd]<;>omega
  have e8:8-(j+1)+1=8-j:=by omega
  rw[w0]
  simp only[aA0,aA1,w1,w2,w3,s1,s2,z1,z2,z3,c,Int.toNat_natCast,fg,ra,dk,ro,aBa,aK4,decide_true,Bool.and_self,if_true,e8]
  exact e
theorem aYc:aA6 Tryz.prog aG8:=aA5 (by simp[aD9])
theorem aCx:aAn Tryz.prog 49 (sg [pI] [rS]) aFa:=aA4 aYc aA7 Tryz.func49 (by kernel_rfl) fun cs outs hk h=>by
 unfold aFa at h
 split at h
 ·simp only[Option.some.injEq,Prod.mk.injEq,true_and]at h
  subst h
  rename_i n
  rw[aA9,aRh]
  by_cases hn:inB n 0 1000000000=true
  ·obtain⟨h1,h2⟩:=(aBg _ _ _).1 hn
   obtain⟨b,rfl⟩:=Int.eq_ofNat_of_zero_le h1
   simp only[aA1,hn,if_true,aAm,Int.toNat_natCast]
   have hb:b / 16^8=0:=Nat.div_eq_of_lt (by omega)
   have lp:=aRi b (by omega) 8 9223372036854775808 (by omega) (by omega)
   rw[hb]at lp
   exact lp
  ·simp only[aA1,aA2,hn,aAm,Bool.false_eq_true,if_false]
 ·cases h
theorem aYz:aA6 Tryz.prog aOm:=aA5 (by simp[aC6,bDp,bP3])
theorem aD1:aAn Tryz.prog 59 (sg [pI] [rS]) aFa:=aA4 aYz aA7 Tryz.func59 (by kernel_rfl) fun cs outs hk h=>by
 unfold aFa at h
 split at h
 ·simp only[Option.some.injEq,Prod.mk.injEq,true_and]at h
  subst h
  rename_i n
  rw[aA9,aS0]
  by_cases hn:inB n 0 1000000000=true
  ·obtain⟨h1,h2⟩:=(aBg _ _ _).1 hn
   obtain⟨b,rfl⟩:=Int.eq_ofNat_of_zero_le h1
   obtain⟨p1,p2⟩:=bZc b (by omega)
   have w:IntKind.i64.wrap ((8:Int)-((aGe b).length:Int))=((8-(aGe b).length:Nat):Int):=by rw[aAd]<;>omega
   have z1:(0:Int)≤((8-(aGe b).length:Nat):Int):=by omega
   have z2:((8-(aGe b).length:Nat):Int)≤8:=by omega
   have z3:(0:Int)≤(b:Int):=by omega
   have l1:(1+(8-(aGe b).length)≤9223372036854775807):=by omega
   have l2:(0+1+(8-(aGe b).length)+(aGe b).length≤9223372036854775807):=by omega
   have l3:(0+1+(8-(aGe b).length)+(aGe b).length+4≤9223372036854775807):=by omega
   simp only[aA1,aA0,aA2,hn,if_true,aAm,Int.toNat_natCast,w,z1,z2,z3,h2,decide_true,Bool.and_self,List.length_replicate,List.length_append,List.length_cons,List.length_nil,l1,l2,l3]
   rw[←p2]
   simp
  ·simp only[aA1,aA2,hn,aAm,Bool.false_eq_true,if_false]
 ·cases h
noncomputable section
def aB0 (n:Int):List UInt8:=if inB n 0 1000000000 then aAm n++[46,116,109,112]else[]
def aHq:aC3:=fun cs=>match cs with
 |[.int .i64 n]=>some (true,[.str (aB0 n)])
 |_=>none
def aXk:Env:=mkE [] [(49,(sg [pI] [rS]),aFa)]
def aXp:Env:=mkE [] [(97,(sg [pI] [rB]),aCh),(59,(sg [pI] [rS]),aFa)]
end
theorem aYa (H:List Pt→Nat→St→T (List C)) (n:Int):(aAg aXk aAa (sg [pI] [rS]) Tryz.f88 H [C.int .i64 n]).eval=((.ask (aAm n==[]) (.ret [C.str []]) (.must (decide ((aAm n).length+4≤9223372036854775807)) (.ret [C.str (aAm n++[(46:UInt8),116,109,112])]))):T (List C)).eval:=aAc (by kernel_rfl)
theorem aYy (H:List Pt→Nat→St→T (List C)) (n:Int):(aAg aXp aAa (sg [pI] [rS]) Tryz.f106 H [C.int .i64 n]).eval=((.ask (inB n 0 1000000000) (.must (decide ((aAm n).length+4≤9223372036854775807)) (.ret [C.str (aAm n++[(46:UInt8),116,109,112])])) (.ret [C.str []])):T (List C)).eval:=aAc (by kernel_rfl)
theorem bRm (n:Int):(aAm n).length≤100:=by
 unfold aAm
 split
 ·simp[aK4]
 ·simp
theorem bJ2:aA6 Tryz.prog aXk:=aA5 (by simp[aCx])
theorem aLd:aAn Tryz.prog 88 (sg [pI] [rS]) aHq:=aA4 bJ2 aA7 Tryz.func88 (by kernel_rfl) fun cs outs hk h=>by
 unfold aHq at h
 split at h
 ·simp only[Option.some.injEq,Prod.mk.injEq,true_and]at h
  subst h
  rename_i n
  rw[aA9,aYa]
  have hl:=bRm n
  have h4:(aAm n).length+4≤9223372036854775807:=by omega
  by_cases hb:inB n 0 1000000000=true
  ·have hne:(aAm n==[])=false:=by unfold aAm;rw[if_pos hb];rfl
   simp only[aA1,aA0,aA2,hne,h4,hb,Bool.false_eq_true,if_false,if_true,decide_true,aB0]
  ·have hs:aAm n=[]:=by unfold aAm;rw[if_neg hb]
   simp only[aA1,aA0,aA2,hs,hb,beq_self_eq_true,if_true,if_false,aB0,Bool.false_eq_true]
 ·cases h
theorem bL0:aA6 Tryz.prog aXp:=aA5 (by simp[aC6,aD1])
theorem aLy:aAn Tryz.prog 106 (sg [pI] [rS]) aHq:=aA4 bL0 aA7 Tryz.func106 (by kernel_rfl) fun cs outs hk h=>by
 unfold aHq at h
 split at h
 ·simp only[Option.some.injEq,Prod.mk.injEq,true_and]at h
  subst h
  rename_i n
  rw[aA9,aYy]
  have hl:=bRm n
  have h4:(aAm n).length+4≤9223372036854775807:=by omega
  by_cases hb:inB n 0 1000000000=true
  ·simp only[aA1,aA0,aA2,h4,hb,if_true,decide_true,aB0]
  ·simp only[aA1,aA0,aA2,hb,if_false,aB0,Bool.false_eq_true]
 ·cases h
noncomputable section
structure Nd where
 id:Int
 text:List UInt8
 sure:Int
 deriving DecidableEq
structure En where
 name:List UInt8
 id:Int
 deriving DecidableEq
abbrev eNd (x:Nd):List C:=[.int .i64 x.id,.str x.text,.int .i64 x.sure]
abbrev eEn (x:En):List C:=[.str x.name,.int .i64 x.id]
abbrev kNd:List K:=[.int .i64,.str,.int .i64]
abbrev kEn:List K:=[.str,.int .i64]
def bYo (r:List C):Nd:=⟨(r.getD 0 (.fn 0 [])).toInt,(r.getD 1 (.fn 0 [])).toStr,(r.getD 2 (.fn 0 [])).toInt⟩
def bYp (r:List C):En:=⟨(r.getD 0 (.fn 0 [])).toStr,(r.getD 1 (.fn 0 [])).toInt⟩
def nds (rows:List (List C)):List Nd:=rows.map bYo
def ens (rows:List (List C)):List En:=rows.map bYp
def aCq (rows:List (List C)):Bool:=rows.all fun r=>r.all fun c=>match c with | .str s=>decide (s.length≤281474976710656) | _=>true
def aT5 (n:Nat) (left:Int):Int:=if left-n<0 then -1 else left-n
def aF9:List Nat→Int→Int
 |[],left=>left
 |n::r,left=>if left-n<0 then -1 else aF9 r (left-n)
def aBn (ns:List Nat) (left:Int):Int:=if left-ns.length<0 then -1 else aF9 ns (left-ns.length)
def aV0:aC3:=fun cs=>match cs with
 |[.sl rows,.int .i64 left]=>some (decide (0≤left)&&decide (left≤1048576)&&(decide (rows.length≤281474976710656)&&(aAf [.str] rows&&aCq rows)),[.int .i64 (aBn ((aCb rows).map List.length) left)])
 |_=>none
def aKa (r:List (List C)) (left:Int) (i:Int):St:=st0 [(0,.l (.sl r)),(1,aAw left),(5,aAw i)]
def aKh:Env:=mkE [(5,[0,1,5])] []
def aUu:aC3:=fun cs=>match cs with
 |[.sl rows]=>some (decide (rows.length≤1048576)&&aAf [.str] rows,[.sl rows])
 |_=>none
def aK9 (r:List (List C)) (n:Nat) (out:List (List C)) (i:Int):St:=st1 [(0,.l (.sl r)),(3,.l (.ref 0 0 n)),(4,aAw i)] 1 out
def aKg:Env:=mkE [(3,[0,3,4])] []
def aWy:aC3:=fun cs=>match cs with
 |[.sl x,.sl y]=>some (decide (x.length≤1073741824)&&(aAf [.str] x&&aAf [.str] y),[.bool (decide (aCb x=aCb y))])
 |_=>none
def aKf (x y:List (List C)) (i:Int):St:=st0 [(0,.l (.sl x)),(1,.l (.sl y)),(5,aAw i)]
def aKl:Env:=mkE [(4,[0,1,5])] []
end
theorem aY5 (H:List Pt→Nat→St→T (List C)) (r:List (List C)) (n:Int):(aAg aKh aAa (sg [pSl 9,pI] [rI]) Tryz.f27 H [C.sl r,C.int .i64 n]).eval=((.ask (decide (IntKind.i64.wrap (n-(↑r.length:Int))<(0:Int))) (.ret [C.int .i64 (-1)]) (H [Pt.r,Pt.r,Pt.r,Pt.l,Pt.r,Pt.b] 9223372036854775808 (aKa (r) (IntKind.i64.wrap (n-(↑r.length:Int))) ((0:Int))))):T (List C)).eval:=aAc (by kernel_rfl)
theorem aT4 (H:List Pt→Nat→St→T (List C)) (r:List (List C)) (n:Int) (i:Int) (k:Nat):(aB1 aKh aAa (sg [pSl 9,pI] [rI]) Tryz.f27 H [Pt.r,Pt.r,Pt.r,Pt.l,Pt.r,Pt.b] k (aKa r n i)).eval=((.ask (decide (i<(↑r.length:Int))) (.must (decide ((0:Int)≤i)&&decide (i<(↑r.length:Int))&&decide ((r.getD i.toNat []).length=1)) (.must (decide (0<(r.getD i.toNat []).length)&&C.is K.str ((r.getD i.toNat []).getD 0 (C.fn 0 []))&&true) (.ask (decide (IntKind.i64.wrap (n-(↑((r.getD i.toNat []).getD 0 (C.fn 0 [])).toStr.length:Int))<(0:Int))) (.ret [C.int .i64 (-1)]) (H [Pt.r,Pt.r,Pt.r,Pt.l,Pt.r,Pt.b] k (aKa (r) (IntKind.i64.wrap (n-(↑((r.getD i.toNat []).getD 0 (C.fn 0 [])).toStr.length:Int))) (IntKind.i64.wrap (i+(1:Int)))))))) (.ret [C.int .i64 n])):T (List C)).eval:=aAc (by kernel_rfl)
theorem aXz (H:List Pt→Nat→St→T (List C)) (r:List (List C)):(aAg aKg aAa (sg [pSl 9] [rSl 9]) Tryz.f30 H [C.sl r]).eval=((.must (decide ((0:Int)≤(↑r.length:Int))&&decide ((↑r.length:Int)≤(↑r.length:Int))&&decide ((↑(16:Nat):Int)*(↑r.length:Int)≤(281474976710656:Int))) (H [Pt.r,Pt.r,Pt.l,Pt.r,Pt.b] 9223372036854775808 (aK9 (r) ((↑r.length:Int).toNat) (List.replicate (↑r.length:Int).toNat [C.str []]) ((0:Int))))):T (List C)).eval:=aAc (by kernel_rfl)
theorem aT3 (H:List Pt→Nat→St→T (List C)) (r:List (List C)) (n:Nat) (o:List (List C)) (i:Int) (k:Nat):(aB1 aKg aAa (sg [pSl 9] [rSl 9]) Tryz.f30 H [Pt.r,Pt.r,Pt.l,Pt.r,Pt.b] k (aK9 r n o i)).eval=((.ask (decide (i<(↑r.length:Int))) (.must (decide ((0:Int)≤i)&&decide (i<(↑r.length:Int))&&decide ((r.getD i.toNat []).length=1)) (.must (decide (0<(r.getD i.toNat []).length)&&C.is K.str ((r.getD i.toNat []).getD 0 (C.fn 0 []))&&true) (.must (decide ((0:Int)≤i)&&decide (i<(↑n:Int))) (.must (decide (0+i.toNat<o.length)) (H [Pt.r,Pt.r,Pt.l,Pt.r,Pt.b] k (aK9 (r) (n) (o.set (0+i.toNat) (C.str ((r.getD i.toNat []).getD 0 (C.fn 0 [])).toStr::List.drop (0+1) (o.getD (0+i.toNat) []))) (IntKind.i64.wrap (i+(1:Int))))))))) (.must (decide (n=o.length)&&(false||o.all fun r=>r.all C.flat)&&true&&true&&true) (.ret [C.sl o]))):T (List C)).eval:=aAc (by kernel_rfl)
theorem aZd (H:List Pt→Nat→St→T (List C)) (x:List (List C)) (y:List (List C)):(aAg aKl aAa (sg [pSl 9,pSl 9] [rB]) Tryz.f33 H [C.sl x,C.sl y]).eval=((.ask ((↑x.length:Int) != (↑y.length:Int)) (.ret [C.bool false]) (H [Pt.r,Pt.r,Pt.l,Pt.r,Pt.b] 9223372036854775808 (aKf (x) (y) ((0:Int))))):T (List C)).eval:=aAc (by kernel_rfl)
theorem aTn (H:List Pt→Nat→St→T (List C)) (x:List (List C)) (y:List (List C)) (i:Int) (k:Nat):(aB1 aKl aAa (sg [pSl 9,pSl 9] [rB]) Tryz.f33 H [Pt.r,Pt.r,Pt.l,Pt.r,Pt.b] k (aKf x y i)).eval=((.ask (decide (i<(↑x.length:Int))) (.must (decide ((0:Int)≤i)&&decide (i<(↑x.length:Int))&&decide ((x.getD i.toNat []).length=1)) (.must (decide (0<(x.getD i.toNat []).length)&&C.is K.str ((x.getD i.toNat []).getD 0 (C.fn 0 []))&&true) (.must (decide ((0:Int)≤i)&&decide (i<(↑y.length:Int))&&decide ((y.getD i.toNat []).length=1)) (.must (decide (0<(y.getD i.toNat []).length)&&C.is K.str ((y.getD i.toNat []).getD 0 (C.fn 0 []))&&true) (.ask (!((x.getD i.toNat []).getD 0 (C.fn 0 [])).toStr==((y.getD i.toNat []).getD 0 (C.fn 0 [])).toStr) (.ret [C.bool false]) (H [Pt.r,Pt.r,Pt.l,Pt.r,Pt.b] k (aKf (x) (y) (IntKind.i64.wrap (i+(1:Int)))))))))) (.ret [C.bool true])):T (List C)).eval:=aAc (by kernel_rfl)
theorem bN0 {k:IntKind} {c:C} (h:c.is (.int k)=true):c=.int k c.toInt:=by
 cases c<;>simp[C.is]at h
 subst h;rfl
theorem bGr {c:C} (h:c.is .str=true):c=.str c.toStr:=by
 cases c<;>simp[C.is]at h
 rfl
theorem bXl {r:List C} (h:aB3 r kNd=true):r=eNd (bYo r):=by
 match r,h with
 |[a,b,c],h =>
  simp only[aB3,Bool.and_eq_true,and_true]at h
  obtain⟨h1,h2,h3⟩:=h
  have e1:=bN0 h1
  have e2:=bGr h2
  have e3:=bN0 h3
  show[a,b,c]=[.int .i64 a.toInt,.str b.toStr,.int .i64 c.toInt]
  rw[←e1,←e2,←e3]
 |[],h=>simp[aB3]at h
 |[_],h=>simp[aB3]at h
 |[_,_],h=>simp[aB3]at h
 |_::_::_::_::_,h=>simp[aB3]at h
theorem bXm {r:List C} (h:aB3 r kEn=true):r=eEn (bYp r):=by
 match r,h with
 |[a,b],h =>
  simp only[aB3,Bool.and_eq_true,and_true]at h
  obtain⟨h1,h2⟩:=h
  have e1:=bGr h1
  have e2:=bN0 h2
  show[a,b]=[.str a.toStr,.int .i64 b.toInt]
  rw[←e1,←e2]
 |[],h=>simp[aB3]at h
 |[_],h=>simp[aB3]at h
 |_::_::_::_,h=>simp[aB3]at h
theorem aGt {rows:List (List C)} (h:aAf kNd rows=true):rows=(nds rows).map eNd:=by
 simp only[aAf,List.all_eq_true]at h
 simp only[nds,List.map_map]
 rw[List.map_congr_left (g:=id)]
 ·simp
 ·intro r hr;exact (bXl (h r hr)).symm
theorem aFc {rows:List (List C)} (h:aAf kEn rows=true):rows=(ens rows).map eEn:=by
 simp only[aAf,List.all_eq_true]at h
 simp only[ens,List.map_map]
 rw[List.map_congr_left (g:=id)]
 ·simp
 ·intro r hr;exact (bXm (h r hr)).symm
@[simp] theorem cBu (l:List Nd):nds (l.map eNd)=l:=by simp[nds,bYo,Function.comp_def,C.toInt,C.toStr]
@[simp] theorem cC5 (l:List En):ens (l.map eEn)=l:=by simp[ens,bYp,Function.comp_def,C.toInt,C.toStr]
@[simp] theorem bZy (l:List Nd):aAf kNd (l.map eNd)=true:=by simp[aAf,aB3,C.is]
@[simp] theorem bZz (l:List En):aAf kEn (l.map eEn)=true:=by simp[aAf,aB3,C.is]
theorem bN5 (l:List Nd):((l.map eNd).all fun r=>r.all C.flat)=true:=by simp[C.flat]
theorem bN7 (l:List En):((l.map eEn).all fun r=>r.all C.flat)=true:=by simp[C.flat]
theorem bOd (l:List (List UInt8)):aCq (l.map aB5)=true↔∀ x∈l,x.length≤281474976710656:=by simp[aCq]
theorem bRc (l:List Nd):aCq (l.map eNd)=true↔∀ x∈l,x.text.length≤281474976710656:=by simp[aCq]
theorem bRd (l:List En):aCq (l.map eEn)=true↔∀ x∈l,x.name.length≤281474976710656:=by simp[aCq]
theorem aDo {E:Env} {e:TypeId} {x:C} (h:Fit E (.slice e) x):∃ rows,x=.sl rows∧aCq rows=true:=by
 cases h with
 |@sl _ te rows h1 h2 h3 h4 =>
  refine⟨rows,rfl,?_⟩
  simp only[aCq,List.all_eq_true]
  intro r hr c hc
  split
  ·rename_i s
   obtain⟨j,hj⟩:=List.getElem?_of_mem hc
   have hjl:=(List.getElem?_eq_some_iff.1 hj).1
   have hlen:=h3 r hr
   obtain⟨s',hs,hl⟩:∃ s',C.str s=.str s'∧s'.length≤140737488351232:=by
    have hk:te.leaves[j]? =some (te.leaves[j]'(by omega)):=List.getElem?_eq_getElem (by omega)
    have hf:=h4 r hr j _ _ hk hj
    generalize te.leaves[j]'(by omega)=kd at hf
    cases hf with
    |str a=>exact⟨_,rfl,a⟩
   obtain rfl:=C.str.inj hs
   simp only[decide_eq_true_eq]
   omega
  ·rfl
theorem bOg (ns:List Nat) (left:Int) (h0:0≤left) (h:0≤aF9 ns left):aF9 ns left+(ns.sum:Int)=left:=by
 induction ns generalizing left with
 |nil=>simp[aF9]
 |cons n r ih =>
  simp only[aF9]at h ⊢
  split at h
  ·omega
  ·rename_i hn
   rw[if_neg hn]
   have:=ih (left-n) (by omega) h
   simp only[List.sum_cons,Int.natCast_add]
   omega
theorem aMj (ns:List Nat) (left:Int) (h:0≤aBn ns left):aBn ns left+(ns.length:Int)+(ns.sum:Int)=left:=by
 unfold aBn at h ⊢
 split at h
 ·omega
 ·rename_i hn
  rw[if_neg hn]
  have:=bOg ns _ (by omega) h
  omega
theorem aHr {A:Type} {x y:List A} {i:Nat} (d:A) (hx:i<x.length) (hy:i<y.length) (h:x.take i=y.take i) (hd:x.getD i d=y.getD i d):x.take (i+1)=y.take (i+1):=by
 rw[List.take_add_one,List.take_add_one,h]
 simp[List.getD_eq_getElem?_getD,hx,hy]at hd
 simp[hx,hy,hd]
theorem aY6 (l:List (List UInt8)) (hl:l.length≤281474976710656) (ht:∀ x∈l,x.length≤281474976710656):∀ (n i:Nat) (left:Int),i≤l.length→l.length<i+n→0≤left→left≤1048576 →
  (aBf aKh aAa (sg [pSl 9,pI] [rI]) Tryz.f27 [.r,.r,.r,.l,.r,.b] n (aKa (l.map aB5) left i)).eval=some [.int .i64 (aF9 ((l.drop i).map List.length) left)]:=by
 intro n
 induction n with
 |zero=>intro i left h1 h2;omega
 |succ n ih =>
  intro i left h1 h2 h3 h4
  rw[aAi _ _ _ _ _ _ _ (by kernel_rfl),aT4]
  by_cases hi:i<l.length
  ·have g:=aAv aB5 l [] i hi
   have hd:l.drop i=l.getD i []::l.drop (i+1):=by rw[List.drop_eq_getElem_cons hi];simp[List.getD_eq_getElem?_getD,hi]
   have hm:l.getD i []∈l:=by rw[List.getD_eq_getElem?_getD,List.getElem?_eq_getElem hi];exact List.getElem_mem hi
   have hx:=ht _ hm
   have w1:IntKind.i64.wrap (left-((l.getD i []).length:Int))=left-((l.getD i []).length:Int):=by rw[aAd]<;>omega
   have w:IntKind.i64.wrap ((i:Int)+1)=((i+1:Nat):Int):=by rw[aAd]<;>omega
   have hz:(0:Int)≤i:=by omega
   have hi':(i:Int)<l.length:=by omega
   rw[hd,List.map_cons]
   simp only[aA0,aA1,aA2,if_true,decide_eq_true_eq,Bool.and_eq_true,w,hz,hi',Int.toNat_natCast,List.length_map,g,and_self,List.getD_cons_zero,C.toStr,C.is,List.length_cons,List.length_nil,Nat.zero_add,Nat.zero_lt_succ,w1,aF9]
   by_cases hn:left-((l.getD i []).length:Int)<0
   ·simp only[hn,if_true]
   ·simp only[hn,if_false]
    exact ih (i+1) _ (by omega) (by omega) (by omega) (by omega)
  ·have e:i=l.length:=by omega
   subst e
   have hi':¬((l.length:Int)<(l.length:Int)):=by omega
   simp only[aA1,aA2,decide_eq_true_eq,List.length_map,hi',if_false,List.drop_length,List.map_nil,aF9]
theorem bIz:aA6 Tryz.prog aKh:=aA5 (by simp[])
theorem aUz:aAn Tryz.prog 27 (sg [pSl 9,pI] [rI]) aV0:=aA4 bIz aA7 Tryz.func27 (by kernel_rfl) fun cs outs hk h=>by
 unfold aV0 at h
 split at h
 ·simp only[Option.some.injEq,Prod.mk.injEq,Bool.and_eq_true,decide_eq_true_eq]at h
  obtain⟨⟨⟨h1,h2⟩,h3,h4,h5⟩,rfl⟩:=h
  rename_i rows left
  have hr:=aDa h4
  generalize aCb rows=l at hr ⊢
  subst hr
  rw[List.length_map]at h3
  rw[aA9,aY5]
  have w:IntKind.i64.wrap (left-(l.length:Int))=left-l.length:=by rw[aAd]<;>omega
  simp only[aA1,aA2,decide_eq_true_eq,List.length_map,w,aBn]
  split
  ·rfl
  ·exact aY6 l h3 ((bOd l).1 h5) _ 0 _ (by omega) (by omega) (by omega) (by omega)
 ·cases h
theorem aY0 (l:List (List UInt8)) (hl:l.length≤1048576):∀ (n i:Nat),i≤l.length→l.length<i+n →
  (aBf aKg aAa (sg [pSl 9] [rSl 9]) Tryz.f30 [.r,.r,.l,.r,.b] n (aK9 (l.map aB5) l.length ((l.take i++List.replicate (l.length-i) []).map aB5) i)).eval=some [.sl (l.map aB5)]:=by
 intro n
 induction n with
 |zero=>intro i h1 h2;omega
 |succ n ih =>
  intro i h1 h2
  rw[aAi _ _ _ _ _ _ _ (by kernel_rfl),aT3]
  by_cases hi:i<l.length
  ·have e:=ih (i+1) (by omega) (by omega)
   rw[←bE4 l [] [] i hi,List.map_set]at e
   have w:IntKind.i64.wrap ((i:Int)+1)=((i+1:Nat):Int):=by rw[aAd]<;>omega
   have hz:(0:Int)≤i:=by omega
   have hi':(i:Int)<l.length:=by omega
   have g:=aAv aB5 l [] i hi
   have hlen:(l.take i++List.replicate (l.length-i) ([]:List UInt8)).length=l.length:=by simp;omega
   have g2:=aAv aB5 (l.take i++List.replicate (l.length-i) []) [] i (by omega)
   simp only[aA0,aA1,aA2,if_true,decide_eq_true_eq,Bool.and_eq_true,w,hz,hi',Int.toNat_natCast,List.length_map,Nat.zero_add,g,g2,hlen,hi,and_self,List.getD_cons_zero,C.toStr,C.is,List.length_cons,List.length_nil,Nat.zero_lt_succ,List.drop_succ_cons,List.drop_nil]
   exact e
  ·have:i=l.length:=by omega
   subst this
   have f:=aEl l
   simp[aA0,aA1,aA2,C.flat]
theorem bIr:aA6 Tryz.prog aKg:=aA5 (by simp[])
theorem aUt:aAn Tryz.prog 30 (sg [pSl 9] [rSl 9]) aUu:=aA4 bIr aA7 Tryz.func30 (by kernel_rfl) fun cs outs hk h=>by
 unfold aUu at h
 split at h
 ·simp only[Option.some.injEq,Prod.mk.injEq,Bool.and_eq_true,decide_eq_true_eq]at h
  obtain⟨⟨h1,h2⟩,rfl⟩:=h
  rename_i rows
  have hr:=aDa h2
  generalize aCb rows=l at hr
  subst hr
  rw[List.length_map]at h1
  rw[aA9,aXz]
  have c2:(0:Int)≤l.length:=by omega
  have:=aY0 l h1 9223372036854775808 0 (by omega) (by omega)
  simp only[List.take_zero,List.nil_append,Nat.sub_zero,List.map_replicate]at this
  simp only[aA0,if_true,decide_eq_true_eq,Bool.and_eq_true,List.length_map,Int.toNat_natCast,c2,Int.le_refl,and_self,true_and]
  rw[if_pos (by omega)]
  exact this
 ·cases h
theorem aZe (x y:List (List UInt8)) (hx:x.length≤1073741824) (hl:x.length=y.length):∀ (n i:Nat),i≤x.length→x.length<i+n→x.take i=y.take i →
  (aBf aKl aAa (sg [pSl 9,pSl 9] [rB]) Tryz.f33 [.r,.r,.l,.r,.b] n (aKf (x.map aB5) (y.map aB5) i)).eval=some [.bool (decide (x=y))]:=by
 intro n
 induction n with
 |zero=>intro i h1 h2;omega
 |succ n ih =>
  intro i h1 h2 h3
  rw[aAi _ _ _ _ _ _ _ (by kernel_rfl),aTn]
  by_cases hi:i<x.length
  ·have hi2:i<y.length:=by omega
   have w:IntKind.i64.wrap ((i:Int)+1)=((i+1:Nat):Int):=by rw[aAd]<;>omega
   have hz:(0:Int)≤i:=by omega
   have g:=aAv aB5 x [] i hi
   have g2:=aAv aB5 y [] i hi2
   simp only[aA0,aA1,aA2,if_true,decide_eq_true_eq,Bool.and_eq_true,w,hz,Int.toNat_natCast,Int.ofNat_lt,List.length_map,g,g2,hi,hi2,and_self,List.getD_cons_zero,C.toStr,C.is,List.length_cons,List.length_nil,Nat.zero_add,Nat.zero_lt_succ,Bool.not_eq_true',beq_eq_false_iff_ne,ne_eq]
   by_cases hxy:x.getD i []=y.getD i []
   ·have e:=ih (i+1) (by omega) (by omega) (aHr [] hi hi2 h3 hxy)
    simp only[hxy,not_true_eq_false,if_false]
    exact e
   ·have:x≠y:=fun h=>hxy (by rw[h])
    simp only[hxy,not_false_eq_true,if_true,this,decide_false]
  ·have e1:i=x.length:=by omega
   have:x=y:=by
    rw[e1,List.take_length,hl,List.take_length]at h3
    exact h3
   have e2:decide (x=y)=true:=by simp[this]
   simp only[aA0,aA1,aA2,decide_eq_true_eq,List.length_map,Int.ofNat_lt,hi,if_false,if_true,e2]
theorem bM0:aA6 Tryz.prog aKl:=aA5 (by simp[])
theorem aWx:aAn Tryz.prog 33 (sg [pSl 9,pSl 9] [rB]) aWy:=aA4 bM0 aA7 Tryz.func33 (by kernel_rfl) fun cs outs hk h=>by
 unfold aWy at h
 split at h
 ·simp only[Option.some.injEq,Prod.mk.injEq,Bool.and_eq_true,decide_eq_true_eq]at h
  obtain⟨⟨h1,h2,h3⟩,rfl⟩:=h
  rename_i x y
  have hx:=aDa h2
  have hy:=aDa h3
  generalize aCb x=l at hx ⊢
  generalize aCb y=m at hy ⊢
  subst hx;subst hy
  rw[List.length_map]at h1
  rw[aA9,aZd]
  simp only[aA0,aA1,aA2,if_true,bne_iff_ne,ne_eq,List.length_map,Int.ofNat_inj]
  by_cases hl:l.length=m.length
  ·simp only[hl,not_true_eq_false,if_false]
   exact aZe l m h1 hl _ 0 (by omega) (by omega) rfl
  ·have:l≠m:=fun h=>hl (by rw[h])
   simp[hl,this]
 ·cases h
noncomputable section
def aO0:PTy:=.val true kNd
def aVu:RTy:=⟨true,[(.int .i64,false),(.str,false),(.int .i64,false)]⟩
def aRe:aC3:=fun cs=>match cs with
 |[.int .i64 i1,.str t1,.int .i64 s1,.int .i64 left]=>some (decide (0≤left)&&decide (left≤1048576)&&decide (t1.length≤281474976710656),[.int .i64 (aT5 t1.length left)])
 |_=>none
def aOv:aC3:=fun cs=>match cs with
 |[.sl rows,.int .i64 left]=>some (decide (0≤left)&&decide (left≤1048576)&&(decide (rows.length≤281474976710656)&&(aAf kNd rows&&aCq rows)),[.int .i64 (aBn ((nds rows).map fun x=>x.text.length) left)])
 |_=>none
def aQv (r:List (List C)) (left:Int) (i:Int):St:=st0 [(0,.l (.sl r)),(1,aAw left),(5,aAw i)]
def bNl:Env:=mkE [] []
def aR3:Env:=mkE [(5,[0,1,5])] [(69,(sg [aO0,pI] [rI]),aRe)]
def aRc:aC3:=fun cs=>match cs with
 |[.int .i64 i1,.str t1,.int .i64 s1]=>some (true,[.int .i64 i1,.str t1,.int .i64 s1])
 |_=>none
def aOs:aC3:=fun cs=>match cs with
 |[.sl rows]=>some (decide (rows.length≤1048576)&&aAf kNd rows,[.sl rows])
 |_=>none
def aQu (r:List (List C)) (n:Nat) (out:List (List C)) (i:Int):St:=st1 [(0,.l (.sl r)),(3,.l (.ref 0 0 n)),(4,aAw i)] 3 out
def bNj:Env:=mkE [] []
def aR2:Env:=mkE [(3,[0,3,4])] [(71,(sg [aO0] [aVu]),aRc)]
def cB0 (i1:Int) (t1:List UInt8) (s1 i2:Int) (t2:List UInt8) (s2:Int):Bool:=decide ((⟨i1,t1,s1⟩:Nd)=⟨i2,t2,s2⟩)
def aS7:aC3:=fun cs=>match cs with
 |[.int .i64 i1,.str t1,.int .i64 s1,.int .i64 i2,.str t2,.int .i64 s2]=>some (true,[.bool (cB0 i1 t1 s1 i2 t2 s2)])
 |_=>none
def aP9:aC3:=fun cs=>match cs with
 |[.sl x,.sl y]=>some (decide (x.length≤1048576)&&(aAf kNd x&&aAf kNd y),[.bool (decide (nds x=nds y))])
 |_=>none
def aR1 (x y:List (List C)) (i:Int):St:=st0 [(0,.l (.sl x)),(1,.l (.sl y)),(5,aAw i)]
def bO1:Env:=mkE [] []
def aR7:Env:=mkE [(4,[0,1,5])] [(73,(sg [aO0,aO0] [rB]),aS7)]
def aGo:PTy:=.val true kEn
def bS7:RTy:=⟨true,[(.str,false),(.int .i64,false)]⟩
def aOw:aC3:=fun cs=>match cs with
 |[.str t1,.int .i64 i1,.int .i64 left]=>some (decide (0≤left)&&decide (left≤1048576)&&decide (t1.length≤281474976710656),[.int .i64 (aT5 t1.length left)])
 |_=>none
def aLa:aC3:=fun cs=>match cs with
 |[.sl rows,.int .i64 left]=>some (decide (0≤left)&&decide (left≤1048576)&&(decide (rows.length≤281474976710656)&&(aAf kEn rows&&aCq rows)),[.int .i64 (aBn ((ens rows).map fun x=>x.name.length) left)])
 |_=>none
def aN1 (r:List (List C)) (left:Int) (i:Int):St:=st0 [(0,.l (.sl r)),(1,aAw left),(5,aAw i)]
def bI2:Env:=mkE [] []
def aNi:Env:=mkE [(5,[0,1,5])] [(70,(sg [aGo,pI] [rI]),aOw)]
def aOt:aC3:=fun cs=>match cs with
 |[.str t1,.int .i64 i1]=>some (true,[.str t1,.int .i64 i1])
 |_=>none
def aL8:aC3:=fun cs=>match cs with
 |[.sl rows]=>some (decide (rows.length≤1048576)&&aAf kEn rows,[.sl rows])
 |_=>none
def aN0 (r:List (List C)) (n:Nat) (out:List (List C)) (i:Int):St:=st1 [(0,.l (.sl r)),(3,.l (.ref 0 0 n)),(4,aAw i)] 2 out
def bI1:Env:=mkE [] []
def aNh:Env:=mkE [(3,[0,3,4])] [(72,(sg [aGo] [bS7]),aOt)]
def cB1 (t1:List UInt8) (i1:Int) (t2:List UInt8) (i2:Int):Bool:=decide ((⟨t1,i1⟩:En)=⟨t2,i2⟩)
def aPa:aC3:=fun cs=>match cs with
 |[.str t1,.int .i64 i1,.str t2,.int .i64 i2]=>some (true,[.bool (cB1 t1 i1 t2 i2)])
 |_=>none
def aM8:aC3:=fun cs=>match cs with
 |[.sl x,.sl y]=>some (decide (x.length≤1048576)&&(aAf kEn x&&aAf kEn y),[.bool (decide (ens x=ens y))])
 |_=>none
def aNg (x y:List (List C)) (i:Int):St:=st0 [(0,.l (.sl x)),(1,.l (.sl y)),(5,aAw i)]
def bIk:Env:=mkE [] []
def aNy:Env:=mkE [(4,[0,1,5])] [(74,(sg [aGo,aGo] [rB]),aPa)]
end
theorem bJ0 (H:List Pt→Nat→St→T (List C)) (i1:Int) (t1:List UInt8) (s1:Int) (left:Int):(aAg bNl aAa (sg [aO0,pI] [rI]) Tryz.f69 H [C.int .i64 i1,C.str t1,C.int .i64 s1,C.int .i64 left]).eval=((.ask (decide (IntKind.i64.wrap (left-(↑t1.length:Int))<(0:Int))) (.ret [C.int .i64 (-1)]) (.ret [C.int .i64 (IntKind.i64.wrap (left-(↑t1.length:Int)))])):T (List C)).eval:=aAc (by kernel_rfl)
theorem bF4 (H:List Pt→Nat→St→T (List C)) (r:List (List C)) (n:Int):(aAg aR3 aAa (sg [pSl 92,pI] [rI]) Tryz.f25 H [C.sl r,C.int .i64 n]).eval=((.ask (decide (IntKind.i64.wrap (n-(↑r.length:Int))<(0:Int))) (.ret [C.int .i64 (-1)]) (H [Pt.r,Pt.r,Pt.r,Pt.l,Pt.r,Pt.b] 9223372036854775808 (aQv (r) (IntKind.i64.wrap (n-(↑r.length:Int))) ((0:Int))))):T (List C)).eval:=aAc (by kernel_rfl)
theorem aY7 (H:List Pt→Nat→St→T (List C)) (r:List (List C)) (n:Int) (i:Int) (k:Nat):(aB1 aR3 aAa (sg [pSl 92,pI] [rI]) Tryz.f25 H [Pt.r,Pt.r,Pt.r,Pt.l,Pt.r,Pt.b] k (aQv r n i)).eval=((.ask (decide (i<(↑r.length:Int))) (.must (decide ((0:Int)≤i)&&decide (i<(↑r.length:Int))&&decide ((r.getD i.toNat []).length=3)) (.must (decide (0<(r.getD i.toNat []).length)&&C.is (K.int .i64) ((r.getD i.toNat []).getD 0 (C.fn 0 []))&&(decide (0+1<(r.getD i.toNat []).length)&&C.is K.str ((r.getD i.toNat []).getD (0+1) (C.fn 0 []))&&(decide (0+1+1<(r.getD i.toNat []).length)&&C.is (K.int .i64) ((r.getD i.toNat []).getD (0+1+1) (C.fn 0 []))&&true))) (.must (decide ((0:Int)≤n)&&decide (n≤(1048576:Int))&&decide (((r.getD i.toNat []).getD (0+1) (C.fn 0 [])).toStr.length≤281474976710656)) (.ask (decide (aT5 ((r.getD i.toNat []).getD (0+1) (C.fn 0 [])).toStr.length n<(0:Int))) (.ret [C.int .i64 (-1)]) (H [Pt.r,Pt.r,Pt.r,Pt.l,Pt.r,Pt.b] k (aQv (r) (aT5 ((r.getD i.toNat []).getD (0+1) (C.fn 0 [])).toStr.length n) (IntKind.i64.wrap (i+(1:Int))))))))) (.ret [C.int .i64 n])):T (List C)).eval:=aAc (by kernel_rfl)
theorem bIs (H:List Pt→Nat→St→T (List C)) (i1:Int) (t1:List UInt8) (s1:Int):(aAg bNj aAa (sg [aO0] [aVu]) Tryz.f71 H [C.int .i64 i1,C.str t1,C.int .i64 s1]).eval=((.ret [C.int .i64 i1,C.str t1,C.int .i64 s1]):T (List C)).eval:=aAc (by kernel_rfl)
theorem bEz (H:List Pt→Nat→St→T (List C)) (r:List (List C)):(aAg aR2 aAa (sg [pSl 92] [rSl 70]) Tryz.f28 H [C.sl r]).eval=((.must (decide ((0:Int)≤(↑r.length:Int))&&decide ((↑r.length:Int)≤(↑r.length:Int))&&decide ((↑(32:Nat):Int)*(↑r.length:Int)≤(281474976710656:Int))) (H [Pt.r,Pt.r,Pt.l,Pt.r,Pt.b] 9223372036854775808 (aQu (r) ((↑r.length:Int).toNat) (List.replicate (↑r.length:Int).toNat [C.int .i64 0,C.str [],C.int .i64 0]) ((0:Int))))):T (List C)).eval:=aAc (by kernel_rfl)
theorem aY1 (H:List Pt→Nat→St→T (List C)) (r:List (List C)) (n:Nat) (o:List (List C)) (i:Int) (k:Nat):(aB1 aR2 aAa (sg [pSl 92] [rSl 70]) Tryz.f28 H [Pt.r,Pt.r,Pt.l,Pt.r,Pt.b] k (aQu r n o i)).eval=((.ask (decide (i<(↑r.length:Int))) (.must (decide ((0:Int)≤i)&&decide (i<(↑r.length:Int))&&decide ((r.getD i.toNat []).length=3)) (.must (decide (0<(r.getD i.toNat []).length)&&C.is (K.int .i64) ((r.getD i.toNat []).getD 0 (C.fn 0 []))&&(decide (0+1<(r.getD i.toNat []).length)&&C.is K.str ((r.getD i.toNat []).getD (0+1) (C.fn 0 []))&&(decide (0+1+1<(r.getD i.toNat []).length)&&C.is (K.int .i64) ((r.getD i.toNat []).getD (0+1+1) (C.fn 0 []))&&true))) (.must (decide ((0:Int)≤i)&&decide (i<(↑n:Int))) (.must (decide (0+i.toNat<o.length)) (H [Pt.r,Pt.r,Pt.l,Pt.r,Pt.b] k (aQu (r) (n) (o.set (0+i.toNat) (C.int .i64 (C.int .i64 ((r.getD i.toNat []).getD 0 (C.fn 0 [])).toInt).toInt::C.str (C.str ((r.getD i.toNat []).getD (0+1) (C.fn 0 [])).toStr).toStr::C.int .i64 (C.int .i64 ((r.getD i.toNat []).getD (0+1+1) (C.fn 0 [])).toInt).toInt::List.drop (0+((Nat.add 1 0).succ.add 0).succ) (o.getD (0+i.toNat) []))) (IntKind.i64.wrap (i+(1:Int))))))))) (.must (decide (n=o.length)&&(false||o.all fun r=>r.all C.flat)&&true&&true&&true) (.ret [C.sl o]))):T (List C)).eval:=aAc (by kernel_rfl)
theorem bM2 (H:List Pt→Nat→St→T (List C)) (i1:Int) (t1:List UInt8) (s1:Int) (i2:Int) (t2:List UInt8) (s2:Int):(aAg bO1 aAa (sg [aO0,aO0] [rB]) Tryz.f73 H [C.int .i64 i1,C.str t1,C.int .i64 s1,C.int .i64 i2,C.str t2,C.int .i64 s2]).eval=((.ask (i1 != i2) (.ret [C.bool false]) (.ask (!t1==t2) (.ret [C.bool false]) (.ask (s1 != s2) (.ret [C.bool false]) (.ret [C.bool true])))):T (List C)).eval:=aAc (by kernel_rfl)
theorem bHm (H:List Pt→Nat→St→T (List C)) (x:List (List C)) (y:List (List C)):(aAg aR7 aAa (sg [pSl 70,pSl 70] [rB]) Tryz.f31 H [C.sl x,C.sl y]).eval=((.ask ((↑x.length:Int) != (↑y.length:Int)) (.ret [C.bool false]) (H [Pt.r,Pt.r,Pt.l,Pt.r,Pt.b] 9223372036854775808 (aR1 (x) (y) ((0:Int))))):T (List C)).eval:=aAc (by kernel_rfl)
theorem aZf (H:List Pt→Nat→St→T (List C)) (x:List (List C)) (y:List (List C)) (i:Int) (k:Nat):(aB1 aR7 aAa (sg [pSl 70,pSl 70] [rB]) Tryz.f31 H [Pt.r,Pt.r,Pt.l,Pt.r,Pt.b] k (aR1 x y i)).eval=((.ask (decide (i<(↑x.length:Int))) (.must (decide ((0:Int)≤i)&&decide (i<(↑x.length:Int))&&decide ((x.getD i.toNat []).length=3)) (.must (decide (0<(x.getD i.toNat []).length)&&C.is (K.int .i64) ((x.getD i.toNat []).getD 0 (C.fn 0 []))&&(decide (0+1<(x.getD i.toNat []).length)&&C.is K.str ((x.getD i.toNat []).getD (0+1) (C.fn 0 []))&&(decide (0+1+1<(x.getD i.toNat []).length)&&C.is (K.int .i64) ((x.getD i.toNat []).getD (0+1+1) (C.fn 0 []))&&true))) (.must (decide ((0:Int)≤i)&&decide (i<(↑y.length:Int))&&decide ((y.getD i.toNat []).length=3)) (.must (decide (0<(y.getD i.toNat []).length)&&C.is (K.int .i64) ((y.getD i.toNat []).getD 0 (C.fn 0 []))&&(decide (0+1<(y.getD i.toNat []).length)&&C.is K.str ((y.getD i.toNat []).getD (0+1) (C.fn 0 []))&&(decide (0+1+1<(y.getD i.toNat []).length)&&C.is (K.int .i64) ((y.getD i.toNat []).getD (0+1+1) (C.fn 0 []))&&true))) (.ask (cB0 ((x.getD i.toNat []).getD 0 (C.fn 0 [])).toInt ((x.getD i.toNat []).getD (0+1) (C.fn 0 [])).toStr ((x.getD i.toNat []).getD (0+1+1) (C.fn 0 [])).toInt ((y.getD i.toNat []).getD 0 (C.fn 0 [])).toInt ((y.getD i.toNat []).getD (0+1) (C.fn 0 [])).toStr ((y.getD i.toNat []).getD (0+1+1) (C.fn 0 [])).toInt) (H [Pt.r,Pt.r,Pt.l,Pt.r,Pt.b] k (aR1 (x) (y) (IntKind.i64.wrap (i+(1:Int))))) (.ret [C.bool false])))))) (.ret [C.bool true])):T (List C)).eval:=aAc (by kernel_rfl)
theorem bF6 (H:List Pt→Nat→St→T (List C)) (t1:List UInt8) (i1:Int) (left:Int):(aAg bI2 aAa (sg [aGo,pI] [rI]) Tryz.f70 H [C.str t1,C.int .i64 i1,C.int .i64 left]).eval=((.ask (decide (IntKind.i64.wrap (left-(↑t1.length:Int))<(0:Int))) (.ret [C.int .i64 (-1)]) (.ret [C.int .i64 (IntKind.i64.wrap (left-(↑t1.length:Int)))])):T (List C)).eval:=aAc (by kernel_rfl)
theorem bB4 (H:List Pt→Nat→St→T (List C)) (r:List (List C)) (n:Int):(aAg aNi aAa (sg [pSl 95,pI] [rI]) Tryz.f26 H [C.sl r,C.int .i64 n]).eval=((.ask (decide (IntKind.i64.wrap (n-(↑r.length:Int))<(0:Int))) (.ret [C.int .i64 (-1)]) (H [Pt.r,Pt.r,Pt.r,Pt.l,Pt.r,Pt.b] 9223372036854775808 (aN1 (r) (IntKind.i64.wrap (n-(↑r.length:Int))) ((0:Int))))):T (List C)).eval:=aAc (by kernel_rfl)
theorem aV1 (H:List Pt→Nat→St→T (List C)) (r:List (List C)) (n:Int) (i:Int) (k:Nat):(aB1 aNi aAa (sg [pSl 95,pI] [rI]) Tryz.f26 H [Pt.r,Pt.r,Pt.r,Pt.l,Pt.r,Pt.b] k (aN1 r n i)).eval=((.ask (decide (i<(↑r.length:Int))) (.must (decide ((0:Int)≤i)&&decide (i<(↑r.length:Int))&&decide ((r.getD i.toNat []).length=2)) (.must (decide (0<(r.getD i.toNat []).length)&&C.is K.str ((r.getD i.toNat []).getD 0 (C.fn 0 []))&&(decide (0+1<(r.getD i.toNat []).length)&&C.is (K.int .i64) ((r.getD i.toNat []).getD (0+1) (C.fn 0 []))&&true)) (.must (decide ((0:Int)≤n)&&decide (n≤(1048576:Int))&&decide (((r.getD i.toNat []).getD 0 (C.fn 0 [])).toStr.length≤281474976710656)) (.ask (decide (aT5 ((r.getD i.toNat []).getD 0 (C.fn 0 [])).toStr.length n<(0:Int))) (.ret [C.int .i64 (-1)]) (H [Pt.r,Pt.r,Pt.r,Pt.l,Pt.r,Pt.b] k (aN1 (r) (aT5 ((r.getD i.toNat []).getD 0 (C.fn 0 [])).toStr.length n) (IntKind.i64.wrap (i+(1:Int))))))))) (.ret [C.int .i64 n])):T (List C)).eval:=aAc (by kernel_rfl)
theorem bF1 (H:List Pt→Nat→St→T (List C)) (t1:List UInt8) (i1:Int):(aAg bI1 aAa (sg [aGo] [bS7]) Tryz.f72 H [C.str t1,C.int .i64 i1]).eval=((.ret [C.str t1,C.int .i64 i1]):T (List C)).eval:=aAc (by kernel_rfl)
theorem bAy (H:List Pt→Nat→St→T (List C)) (r:List (List C)):(aAg aNh aAa (sg [pSl 95] [rSl 97]) Tryz.f29 H [C.sl r]).eval=((.must (decide ((0:Int)≤(↑r.length:Int))&&decide ((↑r.length:Int)≤(↑r.length:Int))&&decide ((↑(24:Nat):Int)*(↑r.length:Int)≤(281474976710656:Int))) (H [Pt.r,Pt.r,Pt.l,Pt.r,Pt.b] 9223372036854775808 (aN0 (r) ((↑r.length:Int).toNat) (List.replicate (↑r.length:Int).toNat [C.str [],C.int .i64 0]) ((0:Int))))):T (List C)).eval:=aAc (by kernel_rfl)
theorem aUw (H:List Pt→Nat→St→T (List C)) (r:List (List C)) (n:Nat) (o:List (List C)) (i:Int) (k:Nat):(aB1 aNh aAa (sg [pSl 95] [rSl 97]) Tryz.f29 H [Pt.r,Pt.r,Pt.l,Pt.r,Pt.b] k (aN0 r n o i)).eval=((.ask (decide (i<(↑r.length:Int))) (.must (decide ((0:Int)≤i)&&decide (i<(↑r.length:Int))&&decide ((r.getD i.toNat []).length=2)) (.must (decide (0<(r.getD i.toNat []).length)&&C.is K.str ((r.getD i.toNat []).getD 0 (C.fn 0 []))&&(decide (0+1<(r.getD i.toNat []).length)&&C.is (K.int .i64) ((r.getD i.toNat []).getD (0+1) (C.fn 0 []))&&true)) (.must (decide ((0:Int)≤i)&&decide (i<(↑n:Int))) (.must (decide (0+i.toNat<o.length)) (H [Pt.r,Pt.r,Pt.l,Pt.r,Pt.b] k (aN0 (r) (n) (o.set (0+i.toNat) (C.str (C.str ((r.getD i.toNat []).getD 0 (C.fn 0 [])).toStr).toStr::C.int .i64 (C.int .i64 ((r.getD i.toNat []).getD (0+1) (C.fn 0 [])).toInt).toInt::List.drop (0+(Nat.add 1 0).succ) (o.getD (0+i.toNat) []))) (IntKind.i64.wrap (i+(1:Int))))))))) (.must (decide (n=o.length)&&(false||o.all fun r=>r.all C.flat)&&true&&true&&true) (.ret [C.sl o]))):T (List C)).eval:=aAc (by kernel_rfl)
theorem bHo (H:List Pt→Nat→St→T (List C)) (t1:List UInt8) (i1:Int) (t2:List UInt8) (i2:Int):(aAg bIk aAa (sg [aGo,aGo] [rB]) Tryz.f74 H [C.str t1,C.int .i64 i1,C.str t2,C.int .i64 i2]).eval=((.ask (!t1==t2) (.ret [C.bool false]) (.ask (i1 != i2) (.ret [C.bool false]) (.ret [C.bool true]))):T (List C)).eval:=aAc (by kernel_rfl)
theorem bDz (H:List Pt→Nat→St→T (List C)) (x:List (List C)) (y:List (List C)):(aAg aNy aAa (sg [pSl 97,pSl 97] [rB]) Tryz.f32 H [C.sl x,C.sl y]).eval=((.ask ((↑x.length:Int) != (↑y.length:Int)) (.ret [C.bool false]) (H [Pt.r,Pt.r,Pt.l,Pt.r,Pt.b] 9223372036854775808 (aNg (x) (y) ((0:Int))))):T (List C)).eval:=aAc (by kernel_rfl)
theorem aX1 (H:List Pt→Nat→St→T (List C)) (x:List (List C)) (y:List (List C)) (i:Int) (k:Nat):(aB1 aNy aAa (sg [pSl 97,pSl 97] [rB]) Tryz.f32 H [Pt.r,Pt.r,Pt.l,Pt.r,Pt.b] k (aNg x y i)).eval=((.ask (decide (i<(↑x.length:Int))) (.must (decide ((0:Int)≤i)&&decide (i<(↑x.length:Int))&&decide ((x.getD i.toNat []).length=2)) (.must (decide (0<(x.getD i.toNat []).length)&&C.is K.str ((x.getD i.toNat []).getD 0 (C.fn 0 []))&&(decide (0+1<(x.getD i.toNat []).length)&&C.is (K.int .i64) ((x.getD i.toNat []).getD (0+1) (C.fn 0 []))&&true)) (.must (decide ((0:Int)≤i)&&decide (i<(↑y.length:Int))&&decide ((y.getD i.toNat []).length=2)) (.must (decide (0<(y.getD i.toNat []).length)&&C.is K.str ((y.getD i.toNat []).getD 0 (C.fn 0 []))&&(decide (0+1<(y.getD i.toNat []).length)&&C.is (K.int .i64) ((y.getD i.toNat []).getD (0+1) (C.fn 0 []))&&true)) (.ask (cB1 ((x.getD i.toNat []).getD 0 (C.fn 0 [])).toStr ((x.getD i.toNat []).getD (0+1) (C.fn 0 [])).toInt ((y.getD i.toNat []).getD 0 (C.fn 0 [])).toStr ((y.getD i.toNat []).getD (0+1) (C.fn 0 [])).toInt) (H [Pt.r,Pt.r,Pt.l,Pt.r,Pt.b] k (aNg (x) (y) (IntKind.i64.wrap (i+(1:Int))))) (.ret [C.bool false])))))) (.ret [C.bool true])):T (List C)).eval:=aAc (by kernel_rfl)
theorem bV7:aA6 Tryz.prog bNl:=aA5 (by simp[])
theorem bF3:aAn Tryz.prog 69 (sg [aO0,pI] [rI]) aRe:=aA4 bV7 aA7 Tryz.func69 (by kernel_rfl) fun cs outs hk h=>by
 unfold aRe at h
 split at h
 ·simp only[Option.some.injEq,Prod.mk.injEq,Bool.and_eq_true,decide_eq_true_eq]at h
  obtain⟨⟨⟨h1,h2⟩,h3⟩,rfl⟩:=h
  rename_i i1 t1 s1 left
  rw[aA9,bJ0]
  have w:IntKind.i64.wrap (left-(t1.length:Int))=left-t1.length:=by rw[aAd]<;>omega
  simp only[aA1,aA0,aA2,decide_eq_true_eq,w,aT5]
  split<;>rfl
 ·cases h
theorem bF5 (l:List Nd) (hl:l.length≤281474976710656) (ht:∀ x∈l,x.text.length≤281474976710656):∀ (n i:Nat) (left:Int),i≤l.length→l.length<i+n→0≤left→left≤1048576 →
  (aBf aR3 aAa (sg [pSl 92,pI] [rI]) Tryz.f25 [.r,.r,.r,.l,.r,.b] n (aQv (l.map eNd) left i)).eval=some [.int .i64 (aF9 ((l.drop i).map fun x=>x.text.length) left)]:=by
 intro n
 induction n with
 |zero=>intro i left h1 h2;omega
 |succ n ih =>
  intro i left h1 h2 h3 h4
  rw[aAi _ _ _ _ _ _ _ (by kernel_rfl),aY7]
  by_cases hi:i<l.length
  ·have g:=aAv eNd l ⟨0,[],0⟩ i hi
   have hd:l.drop i=l.getD i ⟨0,[],0⟩::l.drop (i+1):=by rw[List.drop_eq_getElem_cons hi];simp[List.getD_eq_getElem?_getD,hi]
   have hm:l.getD i ⟨0,[],0⟩∈l:=by rw[List.getD_eq_getElem?_getD,List.getElem?_eq_getElem hi];exact List.getElem_mem hi
   have hx:=ht _ hm
   have w:IntKind.i64.wrap ((i:Int)+1)=((i+1:Nat):Int):=by rw[aAd]<;>omega
   have hz:(0:Int)≤i:=by omega
   have hi':(i:Int)<l.length:=by omega
   rw[hd,List.map_cons]
   generalize l.getD i ⟨0,[],0⟩=y at g hx ⊢
   simp only[aA0,aA1,aA2,if_true,decide_eq_true_eq,Bool.and_eq_true,w,hz,hi',Int.toNat_natCast,List.length_map,g,and_self,List.getD_cons_zero,List.getD_cons_succ,C.toStr,C.toInt,C.is,List.length_cons,List.length_nil,Nat.zero_add,Nat.reduceAdd,Nat.reduceLT,decide_true,beq_self_eq_true,aF9,h3,h4,hx]
   by_cases hn:left-(y.text.length:Int)<0
   ·have hs:aT5 y.text.length left= -1:=if_pos hn
    simp[hs,hn]
   ·have hs:aT5 y.text.length left=left-y.text.length:=if_neg hn
    simp only[hs,hn,if_false]
    exact ih (i+1) _ (by omega) (by omega) (by omega) (by omega)
  ·have e:i=l.length:=by omega
   subst e
   have hi':¬((l.length:Int)<(l.length:Int)):=by omega
   simp only[aA1,aA2,decide_eq_true_eq,List.length_map,hi',if_false,List.drop_length,List.map_nil,aF9]
theorem bRg:aA6 Tryz.prog aR3:=aA5 (by simp[bF3])
theorem bB2:aAn Tryz.prog 25 (sg [pSl 92,pI] [rI]) aOv:=aA4 bRg aA7 Tryz.func25 (by kernel_rfl) fun cs outs hk h=>by
 unfold aOv at h
 split at h
 ·simp only[Option.some.injEq,Prod.mk.injEq,Bool.and_eq_true,decide_eq_true_eq]at h
  obtain⟨⟨⟨h1,h2⟩,h3,h4,h5⟩,rfl⟩:=h
  rename_i rows left
  have hr:=aGt h4
  generalize nds rows=l at hr ⊢
  subst hr
  rw[List.length_map]at h3
  rw[aA9,bF4]
  have w:IntKind.i64.wrap (left-(l.length:Int))=left-l.length:=by rw[aAd]<;>omega
  simp only[aA1,aA2,decide_eq_true_eq,List.length_map,w,aBn]
  split
  ·rfl
  ·exact bF5 l h3 ((bRc l).1 h5) _ 0 _ (by omega) (by omega) (by omega) (by omega)
 ·cases h
theorem bV4:aA6 Tryz.prog bNj:=aA5 (by simp[])
theorem bEy:aAn Tryz.prog 71 (sg [aO0] [aVu]) aRc:=aA4 bV4 aA7 Tryz.func71 (by kernel_rfl) fun cs outs hk h=>by
 unfold aRc at h
 split at h
 ·simp only[Option.some.injEq,Prod.mk.injEq,true_and]at h
  subst h
  rw[aA9,bIs]
  rfl
 ·cases h
theorem bF0 (l:List Nd) (hl:l.length≤1048576):∀ (n i:Nat),i≤l.length→l.length<i+n →
  (aBf aR2 aAa (sg [pSl 92] [rSl 70]) Tryz.f28 [.r,.r,.l,.r,.b] n (aQu (l.map eNd) l.length ((l.take i++List.replicate (l.length-i) (⟨0,[],0⟩:Nd)).map eNd) i)).eval=some [.sl (l.map eNd)]:=by
 intro n
 induction n with
 |zero=>intro i h1 h2;omega
 |succ n ih =>
  intro i h1 h2
  rw[aAi _ _ _ _ _ _ _ (by kernel_rfl),aY1]
  by_cases hi:i<l.length
  ·have e:=ih (i+1) (by omega) (by omega)
   rw[←bE4 l ⟨0,[],0⟩ ⟨0,[],0⟩ i hi,List.map_set]at e
   have w:IntKind.i64.wrap ((i:Int)+1)=((i+1:Nat):Int):=by rw[aAd]<;>omega
   have hz:(0:Int)≤i:=by omega
   have hi':(i:Int)<l.length:=by omega
   have g:=aAv eNd l ⟨0,[],0⟩ i hi
   have hlen:(l.take i++List.replicate (l.length-i) (⟨0,[],0⟩:Nd)).length=l.length:=by simp;omega
   have g2:=aAv eNd (l.take i++List.replicate (l.length-i) (⟨0,[],0⟩:Nd)) (⟨0,[],0⟩:Nd) i (by omega)
   simp only[aA0,aA1,aA2,if_true,decide_eq_true_eq,Bool.and_eq_true,w,hz,hi',Int.toNat_natCast,List.length_map,Nat.zero_add,g,g2,hlen,hi,and_self,List.getD_cons_zero,List.getD_cons_succ,C.toStr,C.toInt,C.is,List.length_cons,List.length_nil,Nat.reduceAdd,Nat.reduceLT,decide_true,beq_self_eq_true,List.drop_succ_cons,List.drop_nil,List.drop_zero]
   exact e
  ·have:i=l.length:=by omega
   subst this
   have f:=bN5 l
   simp[aA0,aA1,aA2,C.flat]
theorem bR9:aA6 Tryz.prog aR2:=aA5 (by simp[bEy])
theorem bAw:aAn Tryz.prog 28 (sg [pSl 92] [rSl 70]) aOs:=aA4 bR9 aA7 Tryz.func28 (by kernel_rfl) fun cs outs hk h=>by
 unfold aOs at h
 split at h
 ·simp only[Option.some.injEq,Prod.mk.injEq,Bool.and_eq_true,decide_eq_true_eq]at h
  obtain⟨⟨h1,h2⟩,rfl⟩:=h
  rename_i rows
  have hr:=aGt h2
  generalize nds rows=l at hr
  subst hr
  rw[List.length_map]at h1
  rw[aA9,bEz]
  have c2:(0:Int)≤l.length:=by omega
  have:=bF0 l h1 9223372036854775808 0 (by omega) (by omega)
  simp only[List.take_zero,List.nil_append,Nat.sub_zero,List.map_replicate]at this
  simp only[aA0,if_true,decide_eq_true_eq,Bool.and_eq_true,List.length_map,Int.toNat_natCast,c2,Int.le_refl,and_self,true_and]
  rw[if_pos (by omega)]
  exact this
 ·cases h
theorem bWz:aA6 Tryz.prog bO1:=aA5 (by simp[])
theorem bHl:aAn Tryz.prog 73 (sg [aO0,aO0] [rB]) aS7:=aA4 bWz aA7 Tryz.func73 (by kernel_rfl) fun cs outs hk h=>by
 unfold aS7 at h
 split at h
 ·simp only[Option.some.injEq,Prod.mk.injEq,true_and]at h
  subst h
  rw[aA9,bM2]
  simp only[aA1,aA0,aA2,bne_iff_ne,ne_eq,Bool.not_eq_true',beq_eq_false_iff_ne,cB0,Nd.mk.injEq]
  repeat' split
  all_goals first | rfl | (simp_all;done)
 ·cases h
theorem bHn (x y:List Nd) (hx:x.length≤1048576) (hl:x.length=y.length):∀ (n i:Nat),i≤x.length→x.length<i+n→x.take i=y.take i →
  (aBf aR7 aAa (sg [pSl 70,pSl 70] [rB]) Tryz.f31 [.r,.r,.l,.r,.b] n (aR1 (x.map eNd) (y.map eNd) i)).eval=some [.bool (decide (x=y))]:=by
 intro n
 induction n with
 |zero=>intro i h1 h2;omega
 |succ n ih =>
  intro i h1 h2 h3
  rw[aAi _ _ _ _ _ _ _ (by kernel_rfl),aZf]
  by_cases hi:i<x.length
  ·have hi2:i<y.length:=by omega
   have w:IntKind.i64.wrap ((i:Int)+1)=((i+1:Nat):Int):=by rw[aAd]<;>omega
   have hz:(0:Int)≤i:=by omega
   have g:=aAv eNd x ⟨0,[],0⟩ i hi
   have g2:=aAv eNd y ⟨0,[],0⟩ i hi2
   simp only[aA0,aA1,aA2,if_true,decide_eq_true_eq,Bool.and_eq_true,w,hz,Int.toNat_natCast,Int.ofNat_lt,List.length_map,g,g2,hi,hi2,and_self,List.getD_cons_zero,List.getD_cons_succ,C.toStr,C.toInt,C.is,List.length_cons,List.length_nil,Nat.zero_add,Nat.reduceAdd,Nat.reduceLT,decide_true,beq_self_eq_true]
   by_cases hxy:x.getD i ⟨0,[],0⟩=y.getD i ⟨0,[],0⟩
   ·have e:=ih (i+1) (by omega) (by omega) (aHr ⟨0,[],0⟩ hi hi2 h3 hxy)
    have he:cB0 (x.getD i ⟨0,[],0⟩).id (x.getD i ⟨0,[],0⟩).text (x.getD i ⟨0,[],0⟩).sure (y.getD i ⟨0,[],0⟩).id (y.getD i ⟨0,[],0⟩).text (y.getD i ⟨0,[],0⟩).sure=true:=decide_eq_true hxy
    simp only[he,if_true]
    exact e
   ·have:x≠y:=fun h=>hxy (by rw[h])
    have hne:cB0 (x.getD i ⟨0,[],0⟩).id (x.getD i ⟨0,[],0⟩).text (x.getD i ⟨0,[],0⟩).sure (y.getD i ⟨0,[],0⟩).id (y.getD i ⟨0,[],0⟩).text (y.getD i ⟨0,[],0⟩).sure=false:=decide_eq_false hxy
    simp only[hne,decide_false,Bool.false_eq_true,if_false,this]
  ·have e1:i=x.length:=by omega
   have:x=y:=by
    rw[e1,List.take_length,hl,List.take_length]at h3
    exact h3
   have e2:decide (x=y)=true:=by simp[this]
   simp only[aA0,aA1,aA2,decide_eq_true_eq,List.length_map,Int.ofNat_lt,hi,if_false,if_true,e2]
theorem bTv:aA6 Tryz.prog aR7:=aA5 (by simp[bHl])
theorem bDx:aAn Tryz.prog 31 (sg [pSl 70,pSl 70] [rB]) aP9:=aA4 bTv aA7 Tryz.func31 (by kernel_rfl) fun cs outs hk h=>by
 unfold aP9 at h
 split at h
 ·simp only[Option.some.injEq,Prod.mk.injEq,Bool.and_eq_true,decide_eq_true_eq]at h
  obtain⟨⟨h1,h2,h3⟩,rfl⟩:=h
  rename_i x y
  have hx:=aGt h2
  have hy:=aGt h3
  generalize nds x=l at hx ⊢
  generalize nds y=m at hy ⊢
  subst hx;subst hy
  rw[List.length_map]at h1
  rw[aA9,bHm]
  simp only[aA0,aA1,aA2,if_true,bne_iff_ne,ne_eq,List.length_map,Int.ofNat_inj]
  by_cases hl:l.length=m.length
  ·simp only[hl,not_true_eq_false,if_false]
   exact bHn l m h1 hl _ 0 (by omega) (by omega) rfl
  ·have:l≠m:=fun h=>hl (by rw[h])
   simp[hl,this]
 ·cases h
theorem bRh:aA6 Tryz.prog bI2:=aA5 (by simp[])
theorem bB3:aAn Tryz.prog 70 (sg [aGo,pI] [rI]) aOw:=aA4 bRh aA7 Tryz.func70 (by kernel_rfl) fun cs outs hk h=>by
 unfold aOw at h
 split at h
 ·simp only[Option.some.injEq,Prod.mk.injEq,Bool.and_eq_true,decide_eq_true_eq]at h
  obtain⟨⟨⟨h1,h2⟩,h3⟩,rfl⟩:=h
  rename_i t1 i1 left
  rw[aA9,bF6]
  have w:IntKind.i64.wrap (left-(t1.length:Int))=left-t1.length:=by rw[aAd]<;>omega
  simp only[aA1,aA0,aA2,decide_eq_true_eq,w,aT5]
  split<;>rfl
 ·cases h
theorem bB5 (l:List En) (hl:l.length≤281474976710656) (ht:∀ x∈l,x.name.length≤281474976710656):∀ (n i:Nat) (left:Int),i≤l.length→l.length<i+n→0≤left→left≤1048576 →
  (aBf aNi aAa (sg [pSl 95,pI] [rI]) Tryz.f26 [.r,.r,.r,.l,.r,.b] n (aN1 (l.map eEn) left i)).eval=some [.int .i64 (aF9 ((l.drop i).map fun x=>x.name.length) left)]:=by
 intro n
 induction n with
 |zero=>intro i left h1 h2;omega
 |succ n ih =>
  intro i left h1 h2 h3 h4
  rw[aAi _ _ _ _ _ _ _ (by kernel_rfl),aV1]
  by_cases hi:i<l.length
  ·have g:=aAv eEn l ⟨[],0⟩ i hi
   have hd:l.drop i=l.getD i ⟨[],0⟩::l.drop (i+1):=by rw[List.drop_eq_getElem_cons hi];simp[List.getD_eq_getElem?_getD,hi]
   have hm:l.getD i ⟨[],0⟩∈l:=by rw[List.getD_eq_getElem?_getD,List.getElem?_eq_getElem hi];exact List.getElem_mem hi
   have hx:=ht _ hm
   have w:IntKind.i64.wrap ((i:Int)+1)=((i+1:Nat):Int):=by rw[aAd]<;>omega
   have hz:(0:Int)≤i:=by omega
   have hi':(i:Int)<l.length:=by omega
   rw[hd,List.map_cons]
   generalize l.getD i ⟨[],0⟩=y at g hx ⊢
   simp only[aA0,aA1,aA2,if_true,decide_eq_true_eq,Bool.and_eq_true,w,hz,hi',Int.toNat_natCast,List.length_map,g,and_self,List.getD_cons_zero,List.getD_cons_succ,C.toStr,C.toInt,C.is,List.length_cons,List.length_nil,Nat.zero_add,Nat.reduceAdd,Nat.reduceLT,decide_true,beq_self_eq_true,aF9,h3,h4,hx]
   by_cases hn:left-(y.name.length:Int)<0
   ·have hs:aT5 y.name.length left= -1:=if_pos hn
    simp[hs,hn]
   ·have hs:aT5 y.name.length left=left-y.name.length:=if_neg hn
    simp only[hs,hn,if_false]
    exact ih (i+1) _ (by omega) (by omega) (by omega) (by omega)
  ·have e:i=l.length:=by omega
   subst e
   have hi':¬((l.length:Int)<(l.length:Int)):=by omega
   simp only[aA1,aA2,decide_eq_true_eq,List.length_map,hi',if_false,List.drop_length,List.map_nil,aF9]
theorem bOf:aA6 Tryz.prog aNi:=aA5 (by simp[bB3])
theorem aY8:aAn Tryz.prog 26 (sg [pSl 95,pI] [rI]) aLa:=aA4 bOf aA7 Tryz.func26 (by kernel_rfl) fun cs outs hk h=>by
 unfold aLa at h
 split at h
 ·simp only[Option.some.injEq,Prod.mk.injEq,Bool.and_eq_true,decide_eq_true_eq]at h
  obtain⟨⟨⟨h1,h2⟩,h3,h4,h5⟩,rfl⟩:=h
  rename_i rows left
  have hr:=aFc h4
  generalize ens rows=l at hr ⊢
  subst hr
  rw[List.length_map]at h3
  rw[aA9,bB4]
  have w:IntKind.i64.wrap (left-(l.length:Int))=left-l.length:=by rw[aAd]<;>omega
  simp only[aA1,aA2,decide_eq_true_eq,List.length_map,w,aBn]
  split
  ·rfl
  ·exact bB5 l h3 ((bRd l).1 h5) _ 0 _ (by omega) (by omega) (by omega) (by omega)
 ·cases h
theorem bRb:aA6 Tryz.prog bI1:=aA5 (by simp[])
theorem bAx:aAn Tryz.prog 72 (sg [aGo] [bS7]) aOt:=aA4 bRb aA7 Tryz.func72 (by kernel_rfl) fun cs outs hk h=>by
 unfold aOt at h
 split at h
 ·simp only[Option.some.injEq,Prod.mk.injEq,true_and]at h
  subst h
  rw[aA9,bF1]
  rfl
 ·cases h
theorem bAz (l:List En) (hl:l.length≤1048576):∀ (n i:Nat),i≤l.length→l.length<i+n →
  (aBf aNh aAa (sg [pSl 95] [rSl 97]) Tryz.f29 [.r,.r,.l,.r,.b] n (aN0 (l.map eEn) l.length ((l.take i++List.replicate (l.length-i) (⟨[],0⟩:En)).map eEn) i)).eval=some [.sl (l.map eEn)]:=by
 intro n
 induction n with
 |zero=>intro i h1 h2;omega
 |succ n ih =>
  intro i h1 h2
  rw[aAi _ _ _ _ _ _ _ (by kernel_rfl),aUw]
  by_cases hi:i<l.length
  ·have e:=ih (i+1) (by omega) (by omega)
   rw[←bE4 l ⟨[],0⟩ ⟨[],0⟩ i hi,List.map_set]at e
   have w:IntKind.i64.wrap ((i:Int)+1)=((i+1:Nat):Int):=by rw[aAd]<;>omega
   have hz:(0:Int)≤i:=by omega
   have hi':(i:Int)<l.length:=by omega
   have g:=aAv eEn l ⟨[],0⟩ i hi
   have hlen:(l.take i++List.replicate (l.length-i) (⟨[],0⟩:En)).length=l.length:=by simp;omega
   have g2:=aAv eEn (l.take i++List.replicate (l.length-i) (⟨[],0⟩:En)) (⟨[],0⟩:En) i (by omega)
   simp only[aA0,aA1,aA2,if_true,decide_eq_true_eq,Bool.and_eq_true,w,hz,hi',Int.toNat_natCast,List.length_map,Nat.zero_add,g,g2,hlen,hi,and_self,List.getD_cons_zero,List.getD_cons_succ,C.toStr,C.toInt,C.is,List.length_cons,List.length_nil,Nat.reduceAdd,Nat.reduceLT,decide_true,beq_self_eq_true,List.drop_succ_cons,List.drop_nil,List.drop_zero]
   exact e
  ·have:i=l.length:=by omega
   subst this
   have f:=bN7 l
   simp[aA0,aA1,aA2,C.flat]
theorem bOb:aA6 Tryz.prog aNh:=aA5 (by simp[bAx])
theorem aY2:aAn Tryz.prog 29 (sg [pSl 95] [rSl 97]) aL8:=aA4 bOb aA7 Tryz.func29 (by kernel_rfl) fun cs outs hk h=>by
 unfold aL8 at h
 split at h
 ·simp only[Option.some.injEq,Prod.mk.injEq,Bool.and_eq_true,decide_eq_true_eq]at h
  obtain⟨⟨h1,h2⟩,rfl⟩:=h
  rename_i rows
  have hr:=aFc h2
  generalize ens rows=l at hr
  subst hr
  rw[List.length_map]at h1
  rw[aA9,bAy]
  have c2:(0:Int)≤l.length:=by omega
  have:=bAz l h1 9223372036854775808 0 (by omega) (by omega)
  simp only[List.take_zero,List.nil_append,Nat.sub_zero,List.map_replicate]at this
  simp only[aA0,if_true,decide_eq_true_eq,Bool.and_eq_true,List.length_map,Int.toNat_natCast,c2,Int.le_refl,and_self,true_and]
  rw[if_pos (by omega)]
  exact this
 ·cases h
theorem bTw:aA6 Tryz.prog bIk:=aA5 (by simp[])
theorem bDy:aAn Tryz.prog 74 (sg [aGo,aGo] [rB]) aPa:=aA4 bTw aA7 Tryz.func74 (by kernel_rfl) fun cs outs hk h=>by
 unfold aPa at h
 split at h
 ·simp only[Option.some.injEq,Prod.mk.injEq,true_and]at h
  subst h
  rw[aA9,bHo]
  simp only[aA1,aA0,aA2,bne_iff_ne,ne_eq,Bool.not_eq_true',beq_eq_false_iff_ne,cB1,En.mk.injEq]
  repeat' split
  all_goals first | rfl | (simp_all;done)
 ·cases h
theorem bE0 (x y:List En) (hx:x.length≤1048576) (hl:x.length=y.length):∀ (n i:Nat),i≤x.length→x.length<i+n→x.take i=y.take i →
  (aBf aNy aAa (sg [pSl 97,pSl 97] [rB]) Tryz.f32 [.r,.r,.l,.r,.b] n (aNg (x.map eEn) (y.map eEn) i)).eval=some [.bool (decide (x=y))]:=by
 intro n
 induction n with
 |zero=>intro i h1 h2;omega
 |succ n ih =>
  intro i h1 h2 h3
  rw[aAi _ _ _ _ _ _ _ (by kernel_rfl),aX1]
  by_cases hi:i<x.length
  ·have hi2:i<y.length:=by omega
   have w:IntKind.i64.wrap ((i:Int)+1)=((i+1:Nat):Int):=by rw[aAd]<;>omega
   have hz:(0:Int)≤i:=by omega
   have g:=aAv eEn x ⟨[],0⟩ i hi
   have g2:=aAv eEn y ⟨[],0⟩ i hi2
   simp only[aA0,aA1,aA2,if_true,decide_eq_true_eq,Bool.and_eq_true,w,hz,Int.toNat_natCast,Int.ofNat_lt,List.length_map,g,g2,hi,hi2,and_self,List.getD_cons_zero,List.getD_cons_succ,C.toStr,C.toInt,C.is,List.length_cons,List.length_nil,Nat.zero_add,Nat.reduceAdd,Nat.reduceLT,decide_true,beq_self_eq_true]
   by_cases hxy:x.getD i ⟨[],0⟩=y.getD i ⟨[],0⟩
   ·have e:=ih (i+1) (by omega) (by omega) (aHr ⟨[],0⟩ hi hi2 h3 hxy)
    have he:cB1 (x.getD i ⟨[],0⟩).name (x.getD i ⟨[],0⟩).id (y.getD i ⟨[],0⟩).name (y.getD i ⟨[],0⟩).id=true:=decide_eq_true hxy
    simp only[he,if_true]
    exact e
   ·have:x≠y:=fun h=>hxy (by rw[h])
    have hne:cB1 (x.getD i ⟨[],0⟩).name (x.getD i ⟨[],0⟩).id (y.getD i ⟨[],0⟩).name (y.getD i ⟨[],0⟩).id=false:=decide_eq_false hxy
    simp only[hne,decide_false,Bool.false_eq_true,if_false,this]
  ·have e1:i=x.length:=by omega
   have:x=y:=by
    rw[e1,List.take_length,hl,List.take_length]at h3
    exact h3
   have e2:decide (x=y)=true:=by simp[this]
   simp only[aA0,aA1,aA2,decide_eq_true_eq,List.length_map,Int.ofNat_lt,hi,if_false,if_true,e2]
theorem bQe:aA6 Tryz.prog aNy:=aA5 (by simp[bDy])
theorem aZg:aAn Tryz.prog 32 (sg [pSl 97,pSl 97] [rB]) aM8:=aA4 bQe aA7 Tryz.func32 (by kernel_rfl) fun cs outs hk h=>by
 unfold aM8 at h
 split at h
 ·simp only[Option.some.injEq,Prod.mk.injEq,Bool.and_eq_true,decide_eq_true_eq]at h
  obtain⟨⟨h1,h2,h3⟩,rfl⟩:=h
  rename_i x y
  have hx:=aFc h2
  have hy:=aFc h3
  generalize ens x=l at hx ⊢
  generalize ens y=m at hy ⊢
  subst hx;subst hy
  rw[List.length_map]at h1
  rw[aA9,bDz]
  simp only[aA0,aA1,aA2,if_true,bne_iff_ne,ne_eq,List.length_map,Int.ofNat_inj]
  by_cases hl:l.length=m.length
  ·simp only[hl,not_true_eq_false,if_false]
   exact bE0 l m h1 hl _ 0 (by omega) (by omega) rfl
  ·have:l≠m:=fun h=>hl (by rw[h])
   simp[hl,this]
 ·cases h
end Go.Proofs.YtfljomghcbaepaaGreatDoor.V
