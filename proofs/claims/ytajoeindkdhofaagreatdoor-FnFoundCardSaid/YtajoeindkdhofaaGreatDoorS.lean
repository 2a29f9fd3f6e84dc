/- Functions of the given program and of its reference: what each returns, as an equation over data; by the interpreter. -/
import Derived.Test.YtajoeindkdhofaaGreatDoorVG
import Derived.Test.YtajoeindkdhofaaGreatDoorProg
import Derived.KernelRfl
set_option linter.unusedVariables false
set_option linter.unusedSimpArgs false
set_option linter.unusedSectionVars false
set_option linter.deprecated false
namespace Go.Proofs.YtajoeindkdhofaaGreatDoor.V
noncomputable section
def bWn:List (TypeId×TI):=[(2,⟨false,[.int .i64],[],8,false⟩),
 (3,⟨false,[.int .i64],[],8,false⟩),
 (4,⟨false,[.bool],[],1,false⟩),
 (5,⟨false,[.int .u8],[],1,false⟩),
 (6,⟨false,[.int .u8],[],1,false⟩),
 (7,⟨true,[.int .i64,.int .i64,.bool,.int .u8],[(0,2),(1,3),(2,4),(3,6)],24,false⟩),
 (8,⟨true,[.int .i64,.int .i64,.bool,.int .u8],[(0,2),(1,3),(2,4),(3,6)],24,false⟩),
 (9,⟨false,[.str],[],16,false⟩),
 (10,⟨false,[.str],[],16,false⟩),
 (11,⟨false,[.str],[],16,false⟩),
 (12,⟨false,[.int .u64],[],8,false⟩),
 (13,⟨true,[.str,.int .u64],[(0,9),(1,12)],24,false⟩),
 (14,⟨true,[.str,.int .u64],[(0,9),(1,12)],24,false⟩),
 (21,⟨false,[.int .i32],[],4,false⟩),
 (22,⟨false,[.slice 5],[],24,false⟩),
 (24,⟨false,[.slice 94],[],24,false⟩),
 (25,⟨false,[.slice 100],[],24,false⟩),
 (26,⟨false,[.slice 9],[],24,false⟩),
 (27,⟨true,[.slice 94,.slice 100,.slice 100,.slice 9,.int .i64,.int .i64],[(0,24),(1,25),(2,25),(3,26),(4,3),(5,3)],112,false⟩),
 (28,⟨true,[.slice 94,.slice 100,.slice 100,.slice 9,.int .i64,.int .i64],[(0,24),(1,25),(2,25),(3,26),(4,3),(5,3)],112,false⟩),
 (52,⟨false,[.slice 3],[],24,false⟩),
 (57,⟨true,[.int .i64,.int .i64,.int .i64,.int .i64],[(0,3),(1,3),(2,3),(3,3)],32,false⟩),
 (58,⟨true,[.int .i64,.int .i64,.int .i64,.int .i64],[(0,3),(1,3),(2,3),(3,3)],32,true⟩),
 (59,⟨true,[.bool,.int .i64,.int .i64,.int .i64,.int .i64,.slice 9,.slice 3,.int .i64,.bool],[(0,4),(1,58),(5,26),(6,52),(7,3),(8,4)],104,false⟩),
 (60,⟨true,[.bool,.int .i64,.int .i64,.int .i64,.int .i64,.slice 9,.slice 3,.int .i64,.bool],[(0,4),(1,58),(5,26),(6,52),(7,3),(8,4)],104,false⟩),
 (61,⟨true,[.int .i64,.str,.bool,.int .i64,.int .i64,.int .i64,.int .i64,.slice 9,.slice 3,.int .i64,.bool],[(0,3),(1,9),(2,60)],128,false⟩),
 (62,⟨true,[.int .i64,.str,.bool,.int .i64,.int .i64,.int .i64,.int .i64,.slice 9,.slice 3,.int .i64,.bool],[(0,3),(1,9),(2,60)],128,false⟩),
 (73,⟨true,[.slice 5,.int .i64,.int .i64],[(0,22),(1,3),(2,3)],40,false⟩),
 (74,⟨true,[.slice 5,.int .i64,.int .i64],[(0,22),(1,3),(2,3)],40,false⟩),
 (75,⟨false,[.slice 62],[],24,false⟩),
 (93,⟨true,[.int .i64,.str,.int .i64],[(0,3),(1,9),(2,3)],32,false⟩),
 (94,⟨true,[.int .i64,.str,.int .i64],[(0,3),(1,9),(2,3)],32,true⟩),
 (97,⟨false,[.int .u64],[],8,false⟩),
 (99,⟨true,[.str,.int .i64],[(0,9),(1,3)],24,false⟩),
 (100,⟨true,[.str,.int .i64],[(0,9),(1,3)],24,true⟩),
 (138,⟨false,[.slice 153],[],24,false⟩),
 (148,⟨false,[.int .u32],[],4,false⟩),
 (152,⟨true,[.int .i64,.int .i64],[(0,3),(1,3)],16,false⟩),
 (153,⟨true,[.int .i64,.int .i64],[(0,3),(1,3)],16,true⟩),
 (160,⟨false,[.int .u64],[],8,false⟩),
 (189,⟨false,[.int .u8],[],1,false⟩),
 (190,⟨false,[.int .u8],[],1,false⟩),
 (192,⟨false,[.int .i32],[],4,false⟩),
 (193,⟨false,[.int .i32],[],4,false⟩)]
def bW4:List (TypeId×Nat×TypeId):=[(159,24,5),(176,20,160),(177,65,5),(182,32,5),(183,64,5)]
def bZv : List (Nat × String) := [(0, "internal/strconv.uint64pow10"), (2, "math/bits.deBruijn32tab"), (3, "math/bits.deBruijn64tab")]
abbrev Laws:=List (FuncId×Sig×aCh)
def mkE (lv:List (Nat×List Nat)) (gs:Laws):Env:={Ty:=bYo bWn,Γ:=fun g=>gs.lookup g,inl:=fun _=>none,lv:=fun h=>(lv.lookup h).getD [],ren:=true,fuel:=9223372036854775808,nt:=0,Arr:=fun t=>bW4.lookup t,gl:=cB1 bZv}
abbrev pI:PTy:=.val false [.int .i64]
abbrev pU8:PTy:=.val false [.int .u8]
abbrev bZa:PTy:=.val false [.int .u32]
abbrev pS:PTy:=.val false [.str]
abbrev pB:PTy:=.val false [.bool]
abbrev rI:RTy:=⟨false,[(.int .i64,false)]⟩
abbrev rU8:RTy:=⟨false,[(.int .u8,false)]⟩
abbrev bZ7:RTy:=⟨false,[(.int .u32,false)]⟩
abbrev rB:RTy:=⟨false,[(.bool,false)]⟩
abbrev rS:RTy:=⟨false,[(.str,false)]⟩
abbrev sg (ps:List PTy) (rs:List RTy):Sig:=⟨ps,rs,false⟩
abbrev aBc (n:Int):W:=.l (.i .i64 n)
abbrev aT0 (s:List UInt8):W:=.l (.s s)
abbrev st0 (slots:List (Nat×W)):St:={slots,heap:=[],next:=0,pins:=[]}
abbrev st1 (slots:List (Nat×W)) (sz:Nat) (rows:List (List C)):St:={slots,heap:=[(0,.arr sz rows)],next:=1,pins:=[]}
theorem bA9:(bWn.all fun p=>tyB Tryz.prog p.1 p.2)=true:=by kernel_rfl
theorem bH0:bSl Tryz.prog bWn bW4=true:=by kernel_rfl
theorem bLf:glB Tryz.prog bZv=true:=by kernel_rfl
theorem aA8 {lv:List (Nat×List Nat)} {gs:Laws} (h:∀ p,p∈gs→aB0 Tryz.prog p.1 p.2.1 p.2.2):aA9 Tryz.prog (mkE lv gs) :=
 ⟨⟨(bPb bA9).1,fun g fn h=>(by cases h),fun t m e te h1 h2=>bSk bH0 t m e te h1 h2,bW0 bLf,fun t e h=>by cases h⟩,fun g sig spec hl=>h (g,sig,spec) (aGl hl),fun g fn h=>(by cases h),by kernel_rfl⟩
def E0:Env:=mkE [] []
theorem bVg:aA9 Tryz.prog E0:=aA8 (by simp)
end
noncomputable section
def aAt (ks:List K) (rows:List (List C)):Bool:=rows.all fun r=>aBf r ks
abbrev aL7 (n:Int):List C:=[.int .i64 n]
def bQf (r:List C):Int:=(r.getD 0 (.fn 0 [])).toInt
def aH7 (rows:List (List C)):List Int:=rows.map bQf
abbrev aAn (s:List UInt8):List C:=[.str s]
def bQe (r:List C):List UInt8:=(r.getD 0 (.fn 0 [])).toStr
def aCm (rows:List (List C)):List (List UInt8):=rows.map bQe
abbrev pSl (t:TypeId):PTy:=.val false [.slice t]
abbrev rSl (t:TypeId):RTy:=⟨false,[(.slice t,true)]⟩
end
theorem bX6 {r:List C} (h:aBf r [.int .i64]=true):r=aL7 (bQf r):=by
 cases r with
 |nil=>simp[aBf]at h
 |cons c r =>
  cases r with
  |cons d r=>simp[aBf]at h
  |nil =>
   cases c with
   |int k n=>simp[aBf,C.is]at h;subst h;rfl
   |_=>simp[aBf,C.is]at h
theorem bQd {r:List C} (h:aBf r [.str]=true):r=aAn (bQe r):=by
 cases r with
 |nil=>simp[aBf]at h
 |cons c r =>
  cases r with
  |cons d r=>simp[aBf]at h
  |nil =>
   cases c with
   |str s=>rfl
   |_=>simp[aBf,C.is]at h
theorem aUx {rows:List (List C)} (h:aAt [.int .i64] rows=true):rows=(aH7 rows).map aL7:=by
 simp only[aAt,List.all_eq_true]at h
 simp only[aH7,List.map_map]
 rw[List.map_congr_left (g:=id)]
 ·simp
 ·intro r hr;exact (bX6 (h r hr)).symm
theorem aFu {rows:List (List C)} (h:aAt [.str] rows=true):rows=(aCm rows).map aAn:=by
 simp only[aAt,List.all_eq_true]at h
 simp only[aCm,List.map_map]
 rw[List.map_congr_left (g:=id)]
 ·simp
 ·intro r hr;exact (bQd (h r hr)).symm
@[simp] theorem bUm (l:List Int):aH7 (l.map aL7)=l:=by simp[aH7,bQf,Function.comp_def,C.toInt]
@[simp] theorem aIm (l:List (List UInt8)):aCm (l.map aAn)=l:=by simp[aCm,bQe,Function.comp_def,C.toStr]
@[simp] theorem bIy (l:List Int):aAt [.int .i64] (l.map aL7)=true:=by simp[aAt,aBf,C.is]
@[simp] theorem aEg (l:List (List UInt8)):aAt [.str] (l.map aAn)=true:=by simp[aAt,aBf,C.is]
theorem bGk (l:List Int):((l.map aL7).all fun r=>r.all C.flat)=true:=by simp[C.flat]
theorem aHc (l:List (List UInt8)):((l.map aAn).all fun r=>r.all C.flat)=true:=by simp[C.flat]
theorem aBa {A:Type} (e:A→List C) (l:List A) (d:A) (i:Nat) (h:i<l.length):(l.map e).getD i []=e (l.getD i d):=by
 simp[List.getD_eq_getElem?_getD,h]
theorem bZy {E:Env} {e:TypeId} {x:C} (h:Fit E (.slice e) x):∃ rows,x=.sl rows∧∀ te,E.Ty e=some te→1≤te.bytes→rows.length≤140737488351232∧aAt te.leaves rows=true:=by
 cases h with
 |@sl _ te rows h1 h2 h3 h4 =>
  refine⟨rows,rfl,fun te' ht hb=>?_⟩
  rw[h1]at ht
  obtain rfl:=Option.some.inj ht
  refine⟨Nat.le_trans (Nat.le_mul_of_pos_right _ hb) h2,?_⟩
  simp only[aAt,List.all_eq_true]
  intro r hr
  exact aL9.kinds (E:=E) ⟨h3 r hr,fun j kd y hj hy=>h4 r hr j kd y hj hy⟩
theorem aHp (l:List UInt8) (j:Nat):(l.getD j 0).toNat<256:=(l.getD j 0).toNat_lt
theorem aC3 {A:Type} (l:List A) (i:Nat) (d:A) (hi:i<l.length):l.drop i=l.getD i d::l.drop (i+1):=by
 rw[List.drop_eq_getElem_cons hi];simp[List.getD_eq_getElem?_getD,hi]
theorem aGi (l:List UInt8) (v:Nat) (h:v<256):(aAc l).append [[C.int .u8 (v:Int)]]=aAc (l++[UInt8.ofNat v]):=by
 have:=bBg (v:Int) (by omega) (by omega)
 rw[Int.toNat_natCast]at this
 rw[this,List.append_eq,aF7]
theorem aA5 {α:Type} {c:Bool} {n:T α} {o:Option α} (h:c=true) (e:n.eval=o):(T.must c n).eval=o:=by subst h;exact e
theorem aAg {α:Type} {c:Bool} {y n:T α} {o:Option α} (h:c=true) (e:y.eval=o):(T.ask c y n).eval=o:=by subst h;exact e
theorem aAh {α:Type} {c:Bool} {y n:T α} {o:Option α} (h:c=false) (e:n.eval=o):(T.ask c y n).eval=o:=by subst h;exact e
noncomputable section
def inB (n lo hi:Int):Bool:=decide (lo≤n)&&decide (n≤hi)
def aEm:aCh:=fun cs=>match cs with
 |[.int .i64 n,.int .i64 lo,.int .i64 hi]=>some (true,[.bool (inB n lo hi)])
 |_=>none
def cAl:Env:=mkE [] []
def cAm:Env:=mkE [] []
def aFy:aCh:=fun cs=>match cs with
 |[.int .i64 n]=>some (true,[.bool (inB n 1 2)])
 |_=>none
def aSj:Env:=mkE [] []
end
set_option maxRecDepth 100000
theorem bTp (H:List Pt→Nat→St→T (List C)) (n:Int) (a:Int) (b:Int):aAm cAl aAb (sg [pI,pI,pI] [rB]) Tryz.f45 H [C.int .i64 n,C.int .i64 a,C.int .i64 b]=(.must true (.ask (decide (a≤n)) (.ask (decide (n≤b)) (.must true (.ret [C.bool true])) (.must true (.ret [C.bool false]))) (.must true (.ret [C.bool false])))):=by kernel_rfl
theorem bUr (H:List Pt→Nat→St→T (List C)) (n:Int) (a:Int) (b:Int):aAm cAm aAb (sg [pI,pI,pI] [rB]) Tryz.f37 H [C.int .i64 n,C.int .i64 a,C.int .i64 b]=(.must true (.ask (decide (a≤n)) (.ask (decide (n≤b)) (.must true (.ret [C.bool true])) (.must true (.ret [C.bool false]))) (.must true (.ret [C.bool false])))):=by kernel_rfl
theorem aVu (H:List Pt→Nat→St→T (List C)) (n:Int):aAm aSj aAb (sg [pI] [rB]) Tryz.f126 H [C.int .i64 n]=(.must true (.ask (decide (n=(1:Int))) (.must true (.ret [C.bool true])) (.ask (decide (n=(2:Int))) (.must true (.ret [C.bool true])) (.must true (.ret [C.bool false]))))):=by kernel_rfl
theorem cAt:aA9 Tryz.prog cAl:=aA8 (by simp[])
theorem aDg:aB0 Tryz.prog 45 (sg [pI,pI,pI] [rB]) aEm:=aA6 cAt aAa Tryz.func45 (by kernel_rfl) fun cs outs hk h=>by
 unfold aEm at h
 split at h
 ·simp only[Option.some.injEq,Prod.mk.injEq,true_and]at h
  rw[←h,aAd,bTp]
  simp only[aA2,aA4,aA3,decide_eq_true_eq,if_true,inB]
  repeat' split
  all_goals first | rfl | (simp_all;done) | (simp_all;omega)
 ·cases h
theorem cB0:aA9 Tryz.prog cAm:=aA8 (by simp[])
theorem aJo:aB0 Tryz.prog 37 (sg [pI,pI,pI] [rB]) aEm:=aA6 cB0 aAa Tryz.func37 (by kernel_rfl) fun cs outs hk h=>by
 unfold aEm at h
 split at h
 ·simp only[Option.some.injEq,Prod.mk.injEq,true_and]at h
  rw[←h,aAd,bUr]
  simp only[aA2,aA4,aA3,decide_eq_true_eq,if_true,inB]
  repeat' split
  all_goals first | rfl | (simp_all;done) | (simp_all;omega)
 ·cases h
theorem bG9:aA9 Tryz.prog aSj:=aA8 (by simp[])
theorem aHm:aB0 Tryz.prog 126 (sg [pI] [rB]) aFy:=aA6 bG9 aAa Tryz.func126 (by kernel_rfl) fun cs outs hk h=>by
 unfold aFy at h
 split at h
 ·simp only[Option.some.injEq,Prod.mk.injEq,true_and]at h
  rw[←h,aAd,aVu]
  simp only[aA2,aA4,aA3,decide_eq_true_eq,if_true,inB]
  repeat' split
  all_goals first | rfl | (simp_all;done) | (simp;omega)
 ·cases h
noncomputable section
def aB5 (n least most:Int):Int:=if most<least∨n<least then least else if n>most then most else n
def aFi:aCh:=fun cs=>match cs with
 |[.int .i64 n,.int .i64 least,.int .i64 most]=>some (true,[.int .i64 (aB5 n least most)])
 |_=>none
def aZv:Env:=mkE [] []
def bA0:Env:=mkE [] []
end
theorem bBf (H:List Pt→Nat→St→T (List C)) (n:Int) (a:Int) (b:Int):aAm aZv aAb (sg [pI,pI,pI] [rI]) Tryz.f36 H [C.int .i64 n,C.int .i64 a,C.int .i64 b]=(.must true (.ask (decide (b<a)) (.must true (.ret [C.int .i64 a])) (.ask (decide (n<a)) (.must true (.ret [C.int .i64 a])) (.ask (decide (b<n)) (.must true (.ret [C.int .i64 b])) (.must true (.ret [C.int .i64 n])))))):=by kernel_rfl
theorem bCl (H:List Pt→Nat→St→T (List C)) (n:Int) (a:Int) (b:Int):aAm bA0 aAb (sg [pI,pI,pI] [rI]) Tryz.f32 H [C.int .i64 n,C.int .i64 a,C.int .i64 b]=(.must true (.ask (decide (b<a)) (.must true (.ret [C.int .i64 a])) (.must true (.ret [C.int .i64 (bZr (bZs n a) b)])))):=by kernel_rfl
theorem bUn (x:Int):aH8 .i64 x 1=x % 2:=by
 show IntKind.i64.wrap (((BitVec.ofInt 64 x&&&BitVec.ofInt 64 1).toNat:Nat):Int)=_
 rw[BitVec.toNat_and]
 have h1:(BitVec.ofInt 64 1).toNat=1:=by decide
 have h2:(BitVec.ofInt 64 x).toNat=(x % 18446744073709551616).toNat:=by simp[BitVec.toNat_ofInt]
 rw[h1,h2,Nat.and_one_is_mod,aAi]<;>omega
theorem bUk (x:Int):aJf .i64 x 1=x / 2:=by
 show x.fdiv (2^(min (Int.toNat 1) 64))=_
 rw[Int.fdiv_eq_ediv_of_nonneg]<;>simp
theorem bNh:aA9 Tryz.prog aZv:=aA8 (by simp[])
theorem aNs:aB0 Tryz.prog 36 (sg [pI,pI,pI] [rI]) aFi:=aA6 bNh aAa Tryz.func36 (by kernel_rfl) fun cs outs hk h=>by
 unfold aFi at h
 split at h
 ·simp only[Option.some.injEq,Prod.mk.injEq,true_and]at h
  rw[←h,aAd,bBf]
  simp only[aA2,aA4,aA3,decide_eq_true_eq,if_true,aB5]
  repeat' split
  all_goals first | rfl | omega
 ·cases h
theorem bOj:aA9 Tryz.prog bA0:=aA8 (by simp[])
theorem aYf:aB0 Tryz.prog 32 (sg [pI,pI,pI] [rI]) aFi:=aA6 bOj aAa Tryz.func32 (by kernel_rfl) fun cs outs hk h=>by
 unfold aFi at h
 split at h
 ·simp only[Option.some.injEq,Prod.mk.injEq,true_and]at h
  rw[←h,aAd,bCl]
  simp only[aA2,aA4,aA3,decide_eq_true_eq,if_true,aB5,bZr,bZs]
  repeat' split
  all_goals first | rfl | omega | (congr 3;omega)
 ·cases h
noncomputable section
end
noncomputable section
end
noncomputable section
def aOs (x:Nat):Nat:=if x % 2=1 then (x / 2) ^^^ 2197175160 else x / 2
def aKu:Nat→Nat→Nat
 |0,x=>x
 |n+1,x=>aKu n (aOs x)
def aM7 (s b:Nat):Nat:=aKu 8 (s ^^^ b)
def aJn (s:Int):Nat:=(s % 4294967296).toNat
def aM6 (x:Nat) (t:List UInt8):Nat:=t.foldl (fun x c=>aM7 x c.toNat) x
def aB1 (s:Nat) (t:List UInt8):Nat:=aM6 (s ^^^ 4294967295) t ^^^ 4294967295
def aO8:aCh:=fun cs=>match cs with
 |[.int .i64 s,.int .i64 b]=>some (true,[.int .i64 (aM7 (aJn s) (b % 256).toNat:Nat)])
 |_=>none
def aKc:aCh:=fun cs=>match cs with
 |[.int .u32 s,.int .u8 b]=>some (decide (0≤s∧s≤4294967295)&&decide (0≤b∧b≤255),[.int .u32 (aM7 s.toNat b.toNat:Nat)])
 |_=>none
def aEf:aCh:=fun cs=>match cs with
 |[.int .i64 s,.str t]=>some (decide (t.length≤281474976710656),[.int .i64 (aB1 (aJn s) t:Nat)])
 |_=>none
def aEe:aCh:=fun cs=>match cs with
 |[.str t]=>some (decide (t.length≤281474976710656),[.int .i64 (aB1 0 t:Nat)])
 |_=>none
def aJz (x i:Int):St:=st0 [(5,aBc x),(6,aBc i)]
def aHh (x i:Int):St:=st0 [(0,.l (.i .u32 x)),(10,aBc i)]
def aMx (t:List UInt8) (x i:Int):St:=st0 [(1,aT0 t),(5,aBc x),(6,aBc i)]
def aN3 (t:List UInt8) (x n i:Int):St:=st0 [(1,aT0 t),(5,.l (.i .u32 x)),(11,aBc n),(12,aBc i)]
def aN9:Env:=mkE [(3,[5,6])] []
def aJ3:Env:=mkE [(3,[0,10])] []
def aN8:Env:=mkE [(3,[1,5,6])] [(124,(sg [pI,pI] [rI]),aO8)]
def aNh:Env:=mkE [(3,[1,5,11,12])] [(151,(sg [bZa,pU8] [bZ7]),aKc)]
def bM2:Env:=mkE [] [(87,(sg [pI,pS] [rI]),aEf)]
def bM8:Env:=mkE [] [(121,(sg [pI,pS] [rI]),aEf)]
end
theorem bAl (H:List Pt→Nat→St→T (List C)) (s:Int) (b:Int):aAm aN9 aAb (sg [pI,pI] [rI]) Tryz.f124 H [C.int .i64 s,C.int .i64 b]=(.must true (H [Pt.r,Pt.r,Pt.l,Pt.r,Pt.b] 9223372036854775808 (aJz (aOw .i64 (aH8 .i64 s 4294967295) (aH8 .i64 b 255)) ((0:Int))))):=by kernel_rfl
theorem aVl (H:List Pt→Nat→St→T (List C)) (s:Int) (b:Int):aAm aJ3 aAb (sg [bZa,pU8] [bZ7]) Tryz.f151 H [C.int .u32 s,C.int .u8 b]=(.must true (H [Pt.r,Pt.r,Pt.l,Pt.r,Pt.b] 9223372036854775808 (aHh (aOw .u32 s (IntKind.u32.wrap b)) ((0:Int))))):=by kernel_rfl
theorem aU9 (H:List Pt→Nat→St→T (List C)) (x:Int) (i:Int) (k:Nat):aBk aN9 aAb (sg [pI,pI] [rI]) Tryz.f124 H [Pt.r,Pt.r,Pt.l,Pt.r,Pt.b] k (aJz x i)=(.ask (decide (i<(8:Int))) (.ask (decide (aH8 .i64 x 1=(1:Int))) (.must true (H [Pt.r,Pt.r,Pt.l,Pt.r,Pt.b] k (aJz (aOw .i64 (aJf .i64 x 1) 2197175160) (IntKind.i64.wrap (i+(1:Int)))))) (.must true (H [Pt.r,Pt.r,Pt.l,Pt.r,Pt.b] k (aJz (aJf .i64 x 1) (IntKind.i64.wrap (i+(1:Int))))))) (.must true (.ret [C.int .i64 x]))):=by kernel_rfl
theorem aRk (H:List Pt→Nat→St→T (List C)) (x:Int) (i:Int) (k:Nat):aBk aJ3 aAb (sg [bZa,pU8] [bZ7]) Tryz.f151 H [Pt.r,Pt.r,Pt.l,Pt.r,Pt.b] k (aHh x i)=(.ask (decide (i<(8:Int))) (.ask (decide (aH8 .u32 x 1=(1:Int))) (.must true (H [Pt.r,Pt.r,Pt.l,Pt.r,Pt.b] k (aHh (aOw .u32 (aJf .u32 x 1) 2197175160) (IntKind.i64.wrap (i+(1:Int)))))) (.must true (H [Pt.r,Pt.r,Pt.l,Pt.r,Pt.b] k (aHh (aJf .u32 x 1) (IntKind.i64.wrap (i+(1:Int))))))) (.must true (.ret [C.int .u32 x]))):=by kernel_rfl
theorem aU8 (H:List Pt→Nat→St→T (List C)) (t:List UInt8) (x:Int) (i:Int) (k:Nat):aBk aN8 aAb (sg [pI,pS] [rI]) Tryz.f87 H [Pt.r,Pt.r,Pt.l,Pt.r,Pt.b] k (aMx t x i)=(.ask (decide (i<(↑t.length:Int))) (.must (decide ((0:Int)≤i)&&decide (i<(↑t.length:Int))) (.must true (.must true (.must true (H [Pt.r,Pt.r,Pt.l,Pt.r,Pt.b] k (aMx (t) (Int.ofNat (aM7 (aJn x) (IntKind.i64.wrap (↑(t.getD i.toNat (0:UInt8)).toNat:Int) % (256:Int)).toNat)) (IntKind.i64.wrap (i+(1:Int))))))))) (.must true (.ret [C.int .i64 (aOw .i64 x 4294967295)]))):=by kernel_rfl
theorem aVk (H:List Pt→Nat→St→T (List C)) (t:List UInt8) (x:Int) (n:Int) (i:Int) (k:Nat):aBk aNh aAb (sg [pI,pS] [rI]) Tryz.f121 H [Pt.r,Pt.r,Pt.l,Pt.r,Pt.b] k (aN3 t x n i)=(.ask (decide (i<n)) (.must (decide ((0:Int)≤i)&&decide (i<(↑t.length:Int))) (.must true (.must (decide ((0:Int)≤x∧x≤(4294967295:Int))&&decide ((0:Int)≤(↑(t.getD i.toNat (0:UInt8)).toNat:Int)∧(↑(t.getD i.toNat (0:UInt8)).toNat:Int)≤(255:Int))) (.must true (H [Pt.r,Pt.r,Pt.l,Pt.r,Pt.b] k (aN3 (t) (Int.ofNat (aM7 x.toNat (↑(t.getD i.toNat (0:UInt8)).toNat:Int).toNat)) (n) (IntKind.i64.wrap (i+(1:Int))))))))) (.must true (.ret [C.int .i64 (IntKind.i64.wrap (aOw .u32 x 4294967295))]))):=by kernel_rfl
theorem bAj (H:List Pt→Nat→St→T (List C)) (s:Int) (t:List UInt8):aAm aN8 aAb (sg [pI,pS] [rI]) Tryz.f87 H [C.int .i64 s,C.str t]=(.must true (H [Pt.r,Pt.r,Pt.l,Pt.r,Pt.b] 9223372036854775808 (aMx (t) (aOw .i64 (aH8 .i64 s 4294967295) 4294967295) ((0:Int))))):=by kernel_rfl
theorem bC5 (H:List Pt→Nat→St→T (List C)) (s:Int) (t:List UInt8):aAm aNh aAb (sg [pI,pS] [rI]) Tryz.f121 H [C.int .i64 s,C.str t]=(.must true (H [Pt.r,Pt.r,Pt.l,Pt.r,Pt.b] 9223372036854775808 (aN3 (t) (aOw .u32 (IntKind.u32.wrap s) 4294967295) ((↑t.length:Int)) ((0:Int))))):=by kernel_rfl
theorem bI0 (H:List Pt→Nat→St→T (List C)) (t:List UInt8):aAm bM2 aAb (sg [pS] [rI]) Tryz.f123 H [C.str t]=(.must true (.must true (.must (decide (t.length≤281474976710656)) (.must true (.must true (.ret [C.int .i64 (Int.ofNat (aB1 (aJn 0) t))])))))):=by kernel_rfl
theorem bJp (H:List Pt→Nat→St→T (List C)) (t:List UInt8):aAm bM8 aAb (sg [pS] [rI]) Tryz.f129 H [C.str t]=(.must true (.must true (.must (decide (t.length≤281474976710656)) (.must true (.must true (.ret [C.int .i64 (Int.ofNat (aB1 (aJn 0) t))])))))):=by kernel_rfl
theorem bVy (s:Int):aH8 .i64 s 4294967295=(aJn s:Int):=by
 show IntKind.i64.wrap (((BitVec.ofInt 64 s&&&BitVec.ofInt 64 4294967295).toNat:Nat):Int)=_
 rw[BitVec.toNat_and]
 have h1:(BitVec.ofInt 64 4294967295).toNat=2^32-1:=by decide
 have h2:(BitVec.ofInt 64 s).toNat=(s % 18446744073709551616).toNat:=by simp[BitVec.toNat_ofInt]
 rw[h1,h2,Nat.and_two_pow_sub_one_eq_mod]
 unfold aJn
 rw[aAi]<;>omega
theorem bRm (s:Int):aH8 .i64 s 255=s % 256:=by
 show IntKind.i64.wrap (((BitVec.ofInt 64 s&&&BitVec.ofInt 64 255).toNat:Nat):Int)=_
 rw[BitVec.toNat_and]
 have h1:(BitVec.ofInt 64 255).toNat=2^8-1:=by decide
 have h2:(BitVec.ofInt 64 s).toNat=(s % 18446744073709551616).toNat:=by simp[BitVec.toNat_ofInt]
 rw[h1,h2,Nat.and_two_pow_sub_one_eq_mod,aAi]<;>omega
theorem aMq (a b:Nat) (ha:a<4294967296) (hb:b<4294967296):aOw .i64 (a:Int) (b:Int)=((a ^^^ b:Nat):Int):=by
 show IntKind.i64.wrap (((BitVec.ofInt 64 (a:Int) ^^^ BitVec.ofInt 64 (b:Int)).toNat:Nat):Int)=_
 rw[BitVec.toNat_xor]
 have h1:(BitVec.ofInt 64 (a:Int)).toNat=a:=by simp[BitVec.toNat_ofInt];omega
 have h2:(BitVec.ofInt 64 (b:Int)).toNat=b:=by simp[BitVec.toNat_ofInt];omega
 have h3:a ^^^ b<4294967296:=Nat.xor_lt_two_pow (n:=32) ha hb
 rw[h1,h2,aAi]<;>omega
theorem aMr (a b:Nat) (ha:a<4294967296) (hb:b<4294967296):aOw .u32 (a:Int) (b:Int)=((a ^^^ b:Nat):Int):=by
 show IntKind.u32.wrap (((BitVec.ofInt 32 (a:Int) ^^^ BitVec.ofInt 32 (b:Int)).toNat:Nat):Int)=_
 rw[BitVec.toNat_xor]
 have h1:(BitVec.ofInt 32 (a:Int)).toNat=a:=by simp[BitVec.toNat_ofInt];omega
 have h2:(BitVec.ofInt 32 (b:Int)).toNat=b:=by simp[BitVec.toNat_ofInt];omega
 have h3:a ^^^ b<4294967296:=Nat.xor_lt_two_pow (n:=32) ha hb
 rw[h1,h2,bHr]<;>omega
theorem bOa (x:Int):aH8 .u32 x 1=x % 2:=by
 show IntKind.u32.wrap (((BitVec.ofInt 32 x&&&BitVec.ofInt 32 1).toNat:Nat):Int)=_
 rw[BitVec.toNat_and]
 have h1:(BitVec.ofInt 32 1).toNat=1:=by decide
 have h2:(BitVec.ofInt 32 x).toNat=(x % 4294967296).toNat:=by simp[BitVec.toNat_ofInt]
 rw[h1,h2,Nat.and_one_is_mod,bHr]<;>omega
theorem bO8 (x:Int):aJf .u32 x 1=x / 2:=by
 show x.fdiv (2^(min (Int.toNat 1) 32))=_
 rw[Int.fdiv_eq_ediv_of_nonneg]<;>simp
theorem bHq (s:Int):IntKind.u32.wrap s=(aJn s:Int):=by
 unfold aJn
 simp only[IntKind.wrap,IntKind.bits,IntKind.signed]
 simp
 omega
theorem aMo (s:Int):aJn s<4294967296:=by unfold aJn;omega
theorem aRr (x:Nat) (h:x<4294967296):aOs x<4294967296:=by
 unfold aOs
 split
 ·exact Nat.xor_lt_two_pow (n:=32) (by omega) (by omega)
 ·omega
theorem aZf:∀ (n x:Nat),x<4294967296→aKu n x<4294967296
 |0,x,h=>h
 |n+1,x,h=>aZf n _ (aRr x h)
theorem aRs (s b:Nat) (hs:s<4294967296) (hb:b<256):aM7 s b<4294967296 :=
 aZf 8 _ (Nat.xor_lt_two_pow (n:=32) hs (by omega))
theorem aZg:∀ (t:List UInt8) (x:Nat),x<4294967296→aM6 x t<4294967296
 |[],x,h=>h
 |c::t,x,h=>aZg t _ (aRs x c.toNat h c.toNat_lt)
theorem aEx (s:Nat) (t:List UInt8) (hs:s<4294967296):aB1 s t<4294967296 :=
 Nat.xor_lt_two_pow (n:=32) (aZg t _ (Nat.xor_lt_two_pow (n:=32) hs (by omega))) (by omega)
theorem bAm:∀ (n i x:Nat),x<4294967296→i≤8→8<i+n →
  (aBn aN9 aAb (sg [pI,pI] [rI]) Tryz.f124 [.r,.r,.l,.r,.b] n (aJz x i)).eval=some [.int .i64 (aKu (8-i) x:Nat)]:=by
 intro n
 induction n with
 |zero=>intro i x hx h1 h2;omega
 |succ n ih =>
  intro i x hx h1 h2
  rw[aAz _ _ _ _ _ _ _ (by kernel_rfl),aU9]
  by_cases hi:i<8
  ·have e:=ih (i+1) (aOs x) (aRr x hx) (by omega) (by omega)
   have hs:8-i=(8-(i+1))+1:=by omega
   have w:IntKind.i64.wrap ((i:Int)+1)=((i+1:Nat):Int):=by rw[aAi]<;>omega
   have hi':(i:Int)<8:=by omega
   have d:(x:Int) / 2=((x / 2:Nat):Int):=by omega
   have m:(x:Int) % 2=((x % 2:Nat):Int):=by omega
   have hx2:aOw .i64 ((x / 2:Nat):Int) 2197175160=((x / 2 ^^^ 2197175160:Nat):Int):=aMq (x / 2) 2197175160 (by omega) (by omega)
   rw[hs]
   simp only[aKu]
   rw[←e]
   simp only[aA2,aA4,aA3,if_true,decide_eq_true_eq,w,hi',bUn,bUk,d,m,hx2]
   unfold aOs
   by_cases ho:x % 2=1
   ·simp[ho]
   ·simp only[ho,if_false];rw[if_neg (by omega)]
  ·have:i=8:=by omega
   subst this
   simp[aA2,aA4,aA3,aKu]
theorem bMp:aA9 Tryz.prog aN9:=aA8 (by simp[])
theorem aXa:aB0 Tryz.prog 124 (sg [pI,pI] [rI]) aO8:=aA6 bMp aAa Tryz.func124 (by kernel_rfl) fun cs outs hk h=>by
 unfold aO8 at h
 split at h
 ·simp only[Option.some.injEq,Prod.mk.injEq,true_and]at h
  rename_i s b
  rw[←h,aAd,bAl]
  have e:b % 256=((b % 256).toNat:Int):=by omega
  have hb:(b % 256).toNat<256:=by omega
  simp only[aA2,if_true,bVy,bRm]
  rw[e,aMq _ _ (aMo s) (by omega)]
  exact bAm _ 0 _ (Nat.xor_lt_two_pow (n:=32) (aMo s) (by omega)) (by omega) (by omega)
 ·cases h
theorem aVm:∀ (n i x:Nat),x<4294967296→i≤8→8<i+n →
  (aBn aJ3 aAb (sg [bZa,pU8] [bZ7]) Tryz.f151 [.r,.r,.l,.r,.b] n (aHh x i)).eval=some [.int .u32 (aKu (8-i) x:Nat)]:=by
 intro n
 induction n with
 |zero=>intro i x hx h1 h2;omega
 |succ n ih =>
  intro i x hx h1 h2
  rw[aAz _ _ _ _ _ _ _ (by kernel_rfl),aRk]
  by_cases hi:i<8
  ·have e:=ih (i+1) (aOs x) (aRr x hx) (by omega) (by omega)
   have hs:8-i=(8-(i+1))+1:=by omega
   have w:IntKind.i64.wrap ((i:Int)+1)=((i+1:Nat):Int):=by rw[aAi]<;>omega
   have hi':(i:Int)<8:=by omega
   have d:(x:Int) / 2=((x / 2:Nat):Int):=by omega
   have m:(x:Int) % 2=((x % 2:Nat):Int):=by omega
   have hx2:aOw .u32 ((x / 2:Nat):Int) 2197175160=((x / 2 ^^^ 2197175160:Nat):Int):=aMr (x / 2) 2197175160 (by omega) (by omega)
   rw[hs]
   simp only[aKu]
   rw[←e]
   simp only[aA2,aA4,aA3,if_true,decide_eq_true_eq,w,hi',bOa,bO8,d,m,hx2]
   unfold aOs
   by_cases ho:x % 2=1
   ·simp[ho]
   ·simp only[ho,if_false];rw[if_neg (by omega)]
  ·have:i=8:=by omega
   subst this
   simp[aA2,aA4,aA3,aKu]
theorem bG5:aA9 Tryz.prog aJ3:=aA8 (by simp[])
theorem aSv:aB0 Tryz.prog 151 (sg [bZa,pU8] [bZ7]) aKc:=aA6 bG5 aAa Tryz.func151 (by kernel_rfl) fun cs outs hk h=>by
 unfold aKc at h
 split at h
 ·simp only[Option.some.injEq,Prod.mk.injEq,Bool.and_eq_true,decide_eq_true_eq]at h
  obtain⟨⟨⟨h1,h2⟩,h3,h4⟩,rfl⟩:=h
  rename_i s b
  obtain⟨s,rfl⟩:=Int.eq_ofNat_of_zero_le h1
  obtain⟨b,rfl⟩:=Int.eq_ofNat_of_zero_le h3
  rw[aAd,aVl]
  simp only[aA2,if_true,Int.toNat_natCast]
  rw[bHr (by omega) (by omega),aMr _ _ (by omega) (by omega)]
  exact aVm _ 0 _ (Nat.xor_lt_two_pow (n:=32) (by omega) (by omega)) (by omega) (by omega)
 ·cases h
theorem aQa (t:List UInt8) (i:Nat) (h:i<t.length):t.drop i=t.getD i 0::t.drop (i+1):=by
 rw[List.drop_eq_getElem_cons h];simp[List.getD_eq_getElem?_getD,h]
theorem bAk (t:List UInt8) (ht:t.length≤281474976710656):∀ (n i x:Nat),x<4294967296→i≤t.length→t.length<i+n →
  (aBn aN8 aAb (sg [pI,pS] [rI]) Tryz.f87 [.r,.r,.l,.r,.b] n (aMx t x i)).eval=some [.int .i64 (aM6 x (t.drop i) ^^^ 4294967295:Nat)]:=by
 intro n
 induction n with
 |zero=>intro i x hx h1 h2;omega
 |succ n ih =>
  intro i x hx h1 h2
  rw[aAz _ _ _ _ _ _ _ (by kernel_rfl),aU8]
  by_cases hi:i<t.length
  ·have hb:=aHp t i
   have e:=ih (i+1) (aM7 x (t.getD i 0).toNat) (aRs _ _ hx hb) (by omega) (by omega)
   have w:IntKind.i64.wrap ((i:Int)+1)=((i+1:Nat):Int):=by rw[aAi]<;>omega
   have hz:(0:Int)≤i:=by omega
   have w2:IntKind.i64.wrap ((t.getD i 0).toNat:Int)=((t.getD i 0).toNat:Int):=by rw[aAi]<;>omega
   have l1:aJn (x:Int)=x:=by unfold aJn;omega
   have l2:(((t.getD i 0).toNat:Int) % 256).toNat=(t.getD i 0).toNat:=by omega
   rw[aQa t i hi]
   simp only[aM6,List.foldl_cons]at e ⊢
   simp only[aA2,aA4,aA3,if_true,decide_eq_true_eq,Bool.and_eq_true,w,hz,Int.toNat_natCast,Int.ofNat_lt,hi,and_self,w2,l1,l2]
   exact e
  ·have:i=t.length:=by omega
   subst this
   have hx2:aOw .i64 (x:Int) 4294967295=((x ^^^ 4294967295:Nat):Int):=aMq x 4294967295 hx (by omega)
   simp[aA2,aA4,aA3,aM6,hx2]
theorem bMo:aA9 Tryz.prog aN8:=aA8 (by simp[aXa])
theorem aNo:aB0 Tryz.prog 87 (sg [pI,pS] [rI]) aEf:=aA6 bMo aAa Tryz.func87 (by kernel_rfl) fun cs outs hk h=>by
 unfold aEf at h
 split at h
 ·simp only[Option.some.injEq,Prod.mk.injEq,decide_eq_true_eq]at h
  obtain⟨h1,rfl⟩:=h
  rename_i s t
  rw[aAd,bAj]
  have hx2:aOw .i64 (aJn s:Int) 4294967295=((aJn s ^^^ 4294967295:Nat):Int):=aMq _ 4294967295 (aMo s) (by omega)
  simp only[aA2,if_true,bVy,hx2]
  exact bAk t h1 _ 0 _ (Nat.xor_lt_two_pow (n:=32) (aMo s) (by omega)) (by omega) (by omega)
 ·cases h
theorem bC6 (t:List UInt8) (ht:t.length≤281474976710656):∀ (n i x:Nat),x<4294967296→i≤t.length→t.length<i+n →
  (aBn aNh aAb (sg [pI,pS] [rI]) Tryz.f121 [.r,.r,.l,.r,.b] n (aN3 t x t.length i)).eval=some [.int .i64 (aM6 x (t.drop i) ^^^ 4294967295:Nat)]:=by
 intro n
 induction n with
 |zero=>intro i x hx h1 h2;omega
 |succ n ih =>
  intro i x hx h1 h2
  rw[aAz _ _ _ _ _ _ _ (by kernel_rfl),aVk]
  by_cases hi:i<t.length
  ·have hb:=aHp t i
   have e:=ih (i+1) (aM7 x (t.getD i 0).toNat) (aRs _ _ hx hb) (by omega) (by omega)
   have w:IntKind.i64.wrap ((i:Int)+1)=((i+1:Nat):Int):=by rw[aAi]<;>omega
   have hz:(0:Int)≤i:=by omega
   have hx1:(0:Int)≤x:=by omega
   have hx2:(x:Int)≤4294967295:=by omega
   have hb1:(0:Int)≤((t.getD i 0).toNat:Int):=by omega
   have hb2:((t.getD i 0).toNat:Int)≤255:=by omega
   rw[aQa t i hi]
   simp only[aM6,List.foldl_cons]at e ⊢
   simp only[aA2,aA4,aA3,if_true,decide_eq_true_eq,Bool.and_eq_true,w,hz,Int.toNat_natCast,Int.ofNat_lt,hi,and_self,hx1,hx2,hb1,hb2]
   exact e
  ·have:i=t.length:=by omega
   subst this
   have hx2:aOw .u32 (x:Int) 4294967295=((x ^^^ 4294967295:Nat):Int):=aMr x 4294967295 hx (by omega)
   have hl:x ^^^ 4294967295<4294967296:=Nat.xor_lt_two_pow (n:=32) hx (by omega)
   have w:IntKind.i64.wrap ((x ^^^ 4294967295:Nat):Int)=((x ^^^ 4294967295:Nat):Int):=by rw[aAi]<;>omega
   simp[aA2,aA4,aA3,aM6,hx2,w]
theorem bOc:aA9 Tryz.prog aNh:=aA8 (by simp[aSv])
theorem aNy:aB0 Tryz.prog 121 (sg [pI,pS] [rI]) aEf:=aA6 bOc aAa Tryz.func121 (by kernel_rfl) fun cs outs hk h=>by
 unfold aEf at h
 split at h
 ·simp only[Option.some.injEq,Prod.mk.injEq,decide_eq_true_eq]at h
  obtain⟨h1,rfl⟩:=h
  rename_i s t
  rw[aAd,bC5]
  have hx2:aOw .u32 (aJn s:Int) 4294967295=((aJn s ^^^ 4294967295:Nat):Int):=aMr _ 4294967295 (aMo s) (by omega)
  simp only[aA2,if_true,bHq,hx2]
  exact bC6 t h1 _ 0 _ (Nat.xor_lt_two_pow (n:=32) (aMo s) (by omega)) (by omega) (by omega)
 ·cases h
theorem bTl:aA9 Tryz.prog bM2:=aA8 (by simp[aNo])
theorem aIo:aB0 Tryz.prog 123 (sg [pS] [rI]) aEe:=aA6 bTl aAa Tryz.func123 (by kernel_rfl) fun cs outs hk h=>by
 unfold aEe at h
 split at h
 ·simp only[Option.some.injEq,Prod.mk.injEq,decide_eq_true_eq]at h
  obtain⟨h1,rfl⟩:=h
  rw[aAd,bI0]
  simp[aA2,aA3,h1]
  rfl
 ·cases h
theorem bUo:aA9 Tryz.prog bM8:=aA8 (by simp[aNy])
theorem aLz:aB0 Tryz.prog 129 (sg [pS] [rI]) aEe:=aA6 bUo aAa Tryz.func129 (by kernel_rfl) fun cs outs hk h=>by
 unfold aEe at h
 split at h
 ·simp only[Option.some.injEq,Prod.mk.injEq,decide_eq_true_eq]at h
  obtain⟨h1,rfl⟩:=h
  rw[aAd,bJp]
  simp[aA2,aA3,h1]
  rfl
 ·cases h
noncomputable section
def aF3 (h:Int):Int:=IntKind.i64.wrap (IntKind.i64.wrap (h*6364136223846793005)+1442695040888963407)
def cB3 (h:Int):Int:=aH8 .i64 (aOw .i64 (aJf .i64 (aF3 h) 33) (aJf .i64 (aF3 h) 45)) 255
def bBh (r:List C):Int:=(r.getD 0 (.fn 0 [])).toInt
def aBj (rows:List (List C)) (i h:Int):Int:=if i<rows.length then aH8 .i64 (IntKind.i64.wrap (cB3 h+IntKind.i64.wrap (bBh (rows.getD i.toNat [])))) 255 else cB3 h
def aE4 (rows:List (List C)) (i:Int):Int:=if i<rows.length then i+1 else i
def aAr (rows:List (List C)) (i:Int):Bool:=aAt [.int .u8] rows&&(decide (rows.length≤1048576)&&(decide (0≤i)&&decide (i≤rows.length)))
def aD2:PTy:=.box [.slice 5,.int .i64,.int .i64]
def aTc:aCh:=fun cs=>match cs with
 |[.sl rows,.int .i64 i,.int .i64 h]=>some (aAr rows i,[.int .i64 (aBj rows i h),.sl rows,.int .i64 (aE4 rows i),.int .i64 (aF3 h)])
 |_=>none
def bSy:Env:=mkE [] []
def aAk (rows:List (List C)) (i h n:Int):Int :=
 if n≤0 then 0 else if n≤256 then (aBj rows i h).tmod n
 else (aBj rows i h*16777216+aBj rows (aE4 rows i) (aF3 h)*65536+aBj rows (aE4 rows (aE4 rows i)) (aF3 (aF3 h))*256+aBj rows (aE4 rows (aE4 rows (aE4 rows i))) (aF3 (aF3 (aF3 h)))).tmod n
def aA0 (rows:List (List C)) (i n:Int):Int:=if n≤0 then i else if n≤256 then aE4 rows i else aE4 rows (aE4 rows (aE4 rows (aE4 rows i)))
def aA1 (h n:Int):Int:=if n≤0 then h else if n≤256 then aF3 h else aF3 (aF3 (aF3 (aF3 h)))
def aE1:aCh:=fun cs=>match cs with
 |[.sl rows,.int .i64 i,.int .i64 h,.int .i64 n]=>some (aAr rows i,[.int .i64 (aAk rows i h n),.sl rows,.int .i64 (aA0 rows i n),.int .i64 (aA1 h n)])
 |_=>none
def aKi:aCh:=fun cs=>match cs with
 |[.sl rows,.int .i64 i,.int .i64 h,.int .i64 n]=>some (aAr rows i,[.bool (decide (aAk rows i h n=0)),.sl rows,.int .i64 (aA0 rows i n),.int .i64 (aA1 h n)])
 |_=>none
def bM5:Env:=mkE [] [(59,(⟨[aD2],[rI],true⟩),aTc)]
def bSs:Env:=mkE [] [(46,(⟨[aD2,pI],[rI],true⟩),aE1)]
def aMj:aCh:=fun cs=>match cs with
 |[.sl rows,.int .i64 i,.int .i64 h,.sl l]=>some (aAr rows i&&(aAt [.int .i64] l&&(decide (0<l.length)&&decide (l.length≤1048576))),[.int .i64 ((aH7 l).getD (aAk rows i h l.length).toNat 0),.sl rows,.int .i64 (aA0 rows i l.length),.int .i64 (aA1 h l.length)])
 |_=>none
def aZr:Env:=mkE [] [(46,(⟨[aD2,pI],[rI],true⟩),aE1)]
def aVy:Nat→Int→List (List C)→Int
 |0,h,_=>h
 |_+1,h,[]=>h
 |f+1,h,r::rows=>aVy f (aH8 .i64 (IntKind.i64.wrap (IntKind.i64.wrap (IntKind.i64.wrap (h*131)+IntKind.i64.wrap (bBh r))+7)) 1073741823) rows
def bXk (rows:List (List C)):Int:=aVy 4000 (94701+rows.length) rows
def aZs:Env:=mkE [(3,[0,3,4])] []
def bLz (r:List (List C)) (h i:Int) (hp:List (Nat×Blk)) (nx:Nat) (pn:List Nat):St:={slots:=[(0,.l (.sl r)),(3,aBc h),(4,aBc i)],heap:=hp,next:=nx,pins:=pn}
def bV6:FuncId→List W→St→Option (Bool×W×St):=fun g ws σ=>match ws with
 |[.l (.sl rows)]=>if g=28 then some (aAr rows 0,.l (.ptr σ.next 0),{σ with heap:=(σ.next,.box [.sl rows,.i .i64 0,.i .i64 (bXk rows)])::σ.heap,next:=σ.next+1})else none
 |_=>none
def bKa:FuncId→Option Func:=fun g=>if g=28 then some Tryz.f28 else none
def mkD (lv:List (Nat×List Nat)) (gs:Laws):Env:={mkE lv gs with inl:=bKa}
def aDl (rows:List (List C)):Nat→Int→Int→List UInt8
 |0,_,_=>[]
 |m+1,i,h=>UInt8.ofNat (aBj rows i h).toNat::aDl rows m (aE4 rows i) (aF3 h)
def aP7 (rows:List (List C)):Nat→Int→Int
 |0,i=>i
 |m+1,i=>aP7 rows m (aE4 rows i)
def aQz:Nat→Int→Int
 |0,h=>h
 |m+1,h=>aQz m (aF3 h)
def aEb (n:Int):Nat:=(if n>5000 then 5000 else n).toNat
def aP5:aCh:=fun cs=>match cs with
 |[.sl rows,.int .i64 i,.int .i64 h,.int .i64 n]=>some (aAr rows i,[.str (aDl rows (aEb n) i h),.sl rows,.int .i64 (aP7 rows (aEb n) i),.int .i64 (aQz (aEb n) h)])
 |_=>none
def aWo (r:List (List C)) (i h n:Int) (m:Nat) (o:List (List C)) (k:Int):St:={slots:=[(0,.l (.ptr 0 0)),(1,aBc n),(5,.l (.ref 1 0 m)),(6,aBc k)],heap:=[(0,.box [.sl r,.i .i64 i,.i .i64 h]),(1,.arr 1 o)],next:=2,pins:=[0]}
def bDc:Env:=mkE [(5,[0,1,5,6])] [(59,(⟨[aD2],[rI],true⟩),aTc)]
end
theorem bNg (H:List Pt→Nat→St→T (List C)) (r:List (List C)) (i:Int) (h:Int):aAm bSy aAb {params:=[aD2],results:=[rI],nested:=true} Tryz.f59 H [C.sl r,C.int .i64 i,C.int .i64 h]=(.must true (.must true (.must true (.ask (decide (i<(↑r.length:Int))) (.must (decide ((0:Int)≤i)&&decide (i<(↑r.length:Int))&&decide ((r.getD i.toNat []).length=1)) (.must (decide (0<(r.getD i.toNat []).length)&&C.is (K.int .u8) ((r.getD i.toNat []).getD 0 (C.fn 0 []))&&true) (.must true (.ret [C.int .i64 (aH8 .i64 (IntKind.i64.wrap (aH8 .i64 (aOw .i64 (aJf .i64 (IntKind.i64.wrap (IntKind.i64.wrap (h*(6364136223846793005:Int))+(1442695040888963407:Int))) (33:Int)) (aJf .i64 (IntKind.i64.wrap (IntKind.i64.wrap (h*(6364136223846793005:Int))+(1442695040888963407:Int))) (45:Int))) (255:Int)+IntKind.i64.wrap ((r.getD i.toNat []).getD 0 (C.fn 0 [])).toInt)) (255:Int)),C.sl r,C.int .i64 (IntKind.i64.wrap (i+(1:Int))),C.int .i64 (IntKind.i64.wrap (IntKind.i64.wrap (h*(6364136223846793005:Int))+(1442695040888963407:Int)))])))) (.must true (.ret [C.int .i64 (aH8 .i64 (aOw .i64 (aJf .i64 (IntKind.i64.wrap (IntKind.i64.wrap (h*(6364136223846793005:Int))+(1442695040888963407:Int))) (33:Int)) (aJf .i64 (IntKind.i64.wrap (IntKind.i64.wrap (h*(6364136223846793005:Int))+(1442695040888963407:Int))) (45:Int))) (255:Int)),C.sl r,C.int .i64 i,C.int .i64 (IntKind.i64.wrap (IntKind.i64.wrap (h*(6364136223846793005:Int))+(1442695040888963407:Int)))])))))):=by kernel_rfl
theorem bIt (H:List Pt→Nat→St→T (List C)) (r:List (List C)) (i:Int) (h:Int) (n:Int):aAm bM5 aAb {params:=[aD2,pI],results:=[rI],nested:=true} Tryz.f46 H [C.sl r,C.int .i64 i,C.int .i64 h,C.int .i64 n]=(.must true (.ask (decide (n≤(0:Int))) (.must true (.ret [C.int .i64 0,C.sl r,C.int .i64 i,C.int .i64 h])) (.ask (decide (n≤(256:Int))) (.must true (.must (aAr r i) (.must true (.must (decide ¬n=(0:Int)) (.must true (.ret [C.int .i64 ((aBj r i h).tmod n),C.sl r,C.int .i64 (aE4 r i),C.int .i64 (aF3 h)])))))) (.must true (.must (aAr r i) (.must true (.must true (.must (aAr r (aE4 r i)) (.must true (.must true (.must (aAr r (aE4 r (aE4 r i))) (.must true (.must true (.must (aAr r (aE4 r (aE4 r (aE4 r i)))) (.must true (.must (decide ¬n=(0:Int)) (.must true (.ret [C.int .i64 ((IntKind.i64.wrap (IntKind.i64.wrap (IntKind.i64.wrap (IntKind.i64.wrap (aBj r i h*(16777216:Int))+IntKind.i64.wrap (aBj r (aE4 r i) (aF3 h)*(65536:Int)))+IntKind.i64.wrap (aBj r (aE4 r (aE4 r i)) (aF3 (aF3 h))*(256:Int)))+aBj r (aE4 r (aE4 r (aE4 r i))) (aF3 (aF3 (aF3 h))))).tmod n),C.sl r,C.int .i64 (aE4 r (aE4 r (aE4 r (aE4 r i)))),C.int .i64 (aF3 (aF3 (aF3 (aF3 h))))])))))))))))))))))):=by kernel_rfl
theorem bN3 (H:List Pt→Nat→St→T (List C)) (r:List (List C)) (i:Int) (h:Int) (n:Int):aAm bSs aAb {params:=[aD2,pI],results:=[rB],nested:=true} Tryz.f56 H [C.sl r,C.int .i64 i,C.int .i64 h,C.int .i64 n]=(.must true (.must true (.must (aAr r i) (.must true (.ask (decide (aAk r i h n=(0:Int))) (.must true (.ret [C.bool true,C.sl r,C.int .i64 (aA0 r i n),C.int .i64 (aA1 h n)])) (.must true (.ret [C.bool false,C.sl r,C.int .i64 (aA0 r i n),C.int .i64 (aA1 h n)]))))))):=by kernel_rfl
theorem bAw (H:List Pt→Nat→St→T (List C)) (r:List (List C)) (i:Int) (h:Int) (l:List (List C)):aAm aZr aAb {params:=[aD2,pSl 3],results:=[rI],nested:=true} Tryz.f42 H [C.sl r,C.int .i64 i,C.int .i64 h,C.sl l]=(.must true (.must true (.must (aAr r i) (.must true (.must (decide ((0:Int)≤aAk r i h (↑l.length:Int))&&decide (aAk r i h (↑l.length:Int)<(↑l.length:Int))&&decide ((l.getD (aAk r i h (↑l.length:Int)).toNat []).length=1)) (.must (decide (0<(l.getD (aAk r i h (↑l.length:Int)).toNat []).length)&&C.is (K.int .i64) ((l.getD (aAk r i h (↑l.length:Int)).toNat []).getD 0 (C.fn 0 []))&&true) (.must true (.ret [C.int .i64 ((l.getD (aAk r i h (↑l.length:Int)).toNat []).getD 0 (C.fn 0 [])).toInt,C.sl r,C.int .i64 (aA0 r i (↑l.length:Int)),C.int .i64 (aA1 h (↑l.length:Int))])))))))):=by kernel_rfl
theorem bPt (H:List Pt→Nat→St→T (W×St)) (r:List (List C)) (hp:List (Nat×Blk)) (nx:Nat) (pn:List Nat) (sl:List (Nat×W)):cAn aZs aAb Tryz.f28 H [W.l (L.sl r)] {slots:=sl,heap:=hp,next:=nx,pins:=pn}=(H [Pt.r,Pt.r,Pt.l,Pt.r,Pt.b] 9223372036854775808 (bLz (r) (IntKind.i64.wrap ((94701:Int)+(↑r.length:Int))) ((0:Int)) (hp) (nx) (pn))):=by kernel_rfl
theorem bId (H:List Pt→Nat→St→T (W×St)) (r:List (List C)) (h:Int) (i:Int) (hp:List (Nat×Blk)) (nx:Nat) (pn:List Nat) (sl:List (Nat×W)) (k:Nat):aT2 aZs aAb Tryz.f28 {slots:=sl,heap:=hp,next:=nx,pins:=pn} H [Pt.r,Pt.r,Pt.l,Pt.r,Pt.b] k (bLz r h i hp nx pn)=(.ask (decide (i<(↑r.length:Int))) (.ask (decide (i<(4000:Int))) (.must (decide ((0:Int)≤i)&&decide (i<(↑r.length:Int))&&decide ((r.getD i.toNat []).length=1)) (.must (decide (0<(r.getD i.toNat []).length)&&C.is (K.int .u8) ((r.getD i.toNat []).getD 0 (C.fn 0 []))&&true) (H [Pt.r,Pt.r,Pt.l,Pt.r,Pt.b] k (bLz (r) (aH8 .i64 (IntKind.i64.wrap (IntKind.i64.wrap (IntKind.i64.wrap (h*(131:Int))+IntKind.i64.wrap ((r.getD i.toNat []).getD 0 (C.fn 0 [])).toInt)+(7:Int))) (1073741823:Int)) (IntKind.i64.wrap (i+(1:Int))) (hp) (nx) (pn))))) (.ret (W.l (L.ptr nx 0),{slots:=[(2,W.l (L.ptr nx 0)),(31,W.l (L.ptr nx 0)),(30,W.agg [L.sl r,L.i .i64 0,L.i .i64 h]),(29,W.l (L.i .i64 h)),(28,W.l (L.sl r)),(15,W.l (L.b false)),(14,W.l (L.b false)),(13,W.l (L.i .i64 i)),(12,W.l (L.b true)),(11,W.l (L.b true)),(10,W.l (L.i .i64 (↑r.length:Int))),(9,W.l (L.sl r)),(8,W.l (L.i .i64 i)),(0,W.l (L.sl r)),(3,W.l (L.i .i64 h)),(4,W.l (L.i .i64 i))],heap:=(nx,Blk.box [L.sl r,L.i .i64 0,L.i .i64 h])::hp,next:=nx+1,pins:=pn}))) (.ret (W.l (L.ptr nx 0),{slots:=[(2,W.l (L.ptr nx 0)),(31,W.l (L.ptr nx 0)),(30,W.agg [L.sl r,L.i .i64 0,L.i .i64 h]),(29,W.l (L.i .i64 h)),(28,W.l (L.sl r)),(15,W.l (L.b false)),(14,W.l L.und),(13,W.l L.und),(12,W.l (L.b false)),(11,W.l (L.b false)),(10,W.l (L.i .i64 (↑r.length:Int))),(9,W.l (L.sl r)),(8,W.l (L.i .i64 i)),(0,W.l (L.sl r)),(3,W.l (L.i .i64 h)),(4,W.l (L.i .i64 i))],heap:=(nx,Blk.box [L.sl r,L.i .i64 0,L.i .i64 h])::hp,next:=nx+1,pins:=pn}))):=by kernel_rfl
theorem bMl (H:List Pt→Nat→St→T (List C)) (r:List (List C)) (i:Int) (h:Int) (n:Int):aAm bDc aAb {params:=[aD2,pI],results:=[rS],nested:=true} Tryz.f47 H [C.sl r,C.int .i64 i,C.int .i64 h,C.int .i64 n]=(.must true (.ask (decide ((5000:Int)<n)) (H [Pt.r,Pt.r,Pt.r,Pt.l,Pt.r,Pt.b] 9223372036854775808 (aWo (r) (i) (h) ((5000:Int)) (0) ([]) ((0:Int)))) (H [Pt.r,Pt.r,Pt.r,Pt.l,Pt.r,Pt.b] 9223372036854775808 (aWo (r) (i) (h) (n) (0) ([]) ((0:Int)))))):=by kernel_rfl
theorem aLg (H:List Pt→Nat→St→T (List C)) (r:List (List C)) (i:Int) (h:Int) (n:Int) (q:Nat) (o:List (List C)) (j:Int) (k:Nat):aBk bDc aAb {params:=[aD2,pI],results:=[rS],nested:=true} Tryz.f47 H [Pt.r,Pt.r,Pt.r,Pt.l,Pt.r,Pt.b] k (aWo r i h n q o j)=(.ask (decide (j<n)) (.must true (.must (aAr r i) (.must true (.must (decide (q=o.length)&&aBe (o.length+1) 1&&(decide (1=1)&&true)) (H [Pt.r,Pt.r,Pt.r,Pt.l,Pt.r,Pt.b] k (aWo (r) (aE4 r i) (aF3 h) (n) (o.length+1) (o.append [[C.int .u8 (IntKind.u8.wrap (aBj r i h))]]) (IntKind.i64.wrap (j+(1:Int))))))))) (.must ((List.take q o).all aG4) (.must true (.ret [C.str (aBv (List.take q o)),C.sl r,C.int .i64 i,C.int .i64 h])))):=by kernel_rfl
theorem bVo {r:List C} (h:aBf r [.int .u8]=true):r=[C.int .u8 (bBh r)]:=by
 cases r with
 |nil=>simp[aBf]at h
 |cons c r =>
  cases r with
  |cons d r=>simp[aBf]at h
  |nil =>
   cases c with
   |int k n=>simp[aBf,C.is]at h;subst h;rfl
   |_=>simp[aBf,C.is]at h
theorem bF7 {ks:List K} {rows:List (List C)} (h:aAt ks rows=true) (i:Nat) (hi:i<rows.length):aBf (rows.getD i []) ks=true:=by
 simp only[aAt,List.all_eq_true]at h
 exact h _ (by simp[List.getD_eq_getElem?_getD,hi])
theorem aJw (rows:List (List C)) (i:Int):aAr rows i=true↔aAt [.int .u8] rows=true∧rows.length≤1048576∧0≤i∧i≤rows.length:=by simp[aAr]
theorem aJe (rows:List (List C)) (i:Int) (h:aAr rows i=true):aAr rows (aE4 rows i)=true:=by
 have:=(aJw rows i).1 h
 rw[aJw]
 unfold aE4
 refine⟨this.1,this.2.1,?_⟩
 split<;>omega
theorem bC1 (x:Int):0≤aH8 .i64 x 255∧aH8 .i64 x 255≤255:=by rw[bRm];omega
theorem aCx (rows:List (List C)) (i h:Int):0≤aBj rows i h∧aBj rows i h≤255:=by
 unfold aBj cB3;split<;>exact bC1 _
theorem bX4:aA9 Tryz.prog bSy:=aA8 (by simp[])
theorem aUv:aB0 Tryz.prog 59 (⟨[aD2],[rI],true⟩) aTc:=aA6 bX4 aAa Tryz.func59 (by kernel_rfl) fun cs outs hk h=>by
 unfold aTc at h
 split at h
 ·simp only[Option.some.injEq,Prod.mk.injEq]at h
  obtain⟨h1,rfl⟩:=h
  rename_i rows i hh
  obtain⟨a1,a2,a3,a4⟩:=(aJw rows i).1 h1
  rw[aAd,bNg]
  by_cases hi:i<rows.length
  ·have hr:=bVo (bF7 a1 i.toNat (by omega))
   have w:IntKind.i64.wrap (i+1)=i+1:=by rw[aAi]<;>omega
   have e1:((rows.getD i.toNat []).length)=1:=by rw[hr];rfl
   have e2:C.is (K.int .u8) ((rows.getD i.toNat []).getD 0 (C.fn 0 []))=true:=by rw[hr];rfl
   simp only[aA2,aA4,aA3,if_true,decide_eq_true_eq,Bool.and_eq_true,hi,a3,e1,e2,w,aBj,aE4,and_self,Nat.zero_lt_one]
   rfl
  ·simp only[aA2,aA4,aA3,if_true,decide_eq_true_eq,hi,if_false,aBj,aE4]
   rfl
 ·cases h
theorem aBl (rows:List (List C)) (i h n:Int) (hn:0<n):0≤aAk rows i h n∧aAk rows i h n<n:=by
 have r1:=aCx rows i h
 have r2:=aCx rows (aE4 rows i) (aF3 h)
 have r3:=aCx rows (aE4 rows (aE4 rows i)) (aF3 (aF3 h))
 have r4:=aCx rows (aE4 rows (aE4 rows (aE4 rows i))) (aF3 (aF3 (aF3 h)))
 unfold aAk
 rw[if_neg (by omega)]
 split
 ·rw[Int.tmod_eq_emod_of_nonneg (by omega)]
  exact⟨Int.emod_nonneg _ (by omega),Int.emod_lt_of_pos _ hn⟩
 ·rw[Int.tmod_eq_emod_of_nonneg (by omega)]
  exact⟨Int.emod_nonneg _ (by omega),Int.emod_lt_of_pos _ hn⟩
theorem bTv:aA9 Tryz.prog bM5:=aA8 (by simp[aUv])
theorem aD0:aB0 Tryz.prog 46 (⟨[aD2,pI],[rI],true⟩) aE1:=aA6 bTv aAa Tryz.func46 (by kernel_rfl) fun cs outs hk h=>by
 unfold aE1 at h
 split at h
 ·simp only[Option.some.injEq,Prod.mk.injEq]at h
  obtain⟨h1,rfl⟩:=h
  rename_i rows i hh n
  have o1:=aJe rows i h1
  have o2:=aJe rows _ o1
  have o3:=aJe rows _ o2
  have r1:=aCx rows i hh
  have r2:=aCx rows (aE4 rows i) (aF3 hh)
  have r3:=aCx rows (aE4 rows (aE4 rows i)) (aF3 (aF3 hh))
  have r4:=aCx rows (aE4 rows (aE4 rows (aE4 rows i))) (aF3 (aF3 (aF3 hh)))
  rw[aAd,bIt]
  by_cases p1:n≤0
  ·simp[aA2,aA4,aA3,p1,aAk,aA0,aA1]
  ·by_cases p2:n≤256
   ·have hn:n≠0:=by omega
    simp[aA2,aA4,aA3,p1,p2,aAk,aA0,aA1,h1,hn]
   ·have hn:n≠0:=by omega
    have w1:IntKind.i64.wrap (aBj rows i hh*16777216)=aBj rows i hh*16777216:=by rw[aAi]<;>omega
    have w2:IntKind.i64.wrap (aBj rows (aE4 rows i) (aF3 hh)*65536)=aBj rows (aE4 rows i) (aF3 hh)*65536:=by rw[aAi]<;>omega
    have w3:IntKind.i64.wrap (aBj rows (aE4 rows (aE4 rows i)) (aF3 (aF3 hh))*256)=aBj rows (aE4 rows (aE4 rows i)) (aF3 (aF3 hh))*256:=by rw[aAi]<;>omega
    have w4:IntKind.i64.wrap (aBj rows i hh*16777216+aBj rows (aE4 rows i) (aF3 hh)*65536)=aBj rows i hh*16777216+aBj rows (aE4 rows i) (aF3 hh)*65536:=by rw[aAi]<;>omega
    have w5:IntKind.i64.wrap (aBj rows i hh*16777216+aBj rows (aE4 rows i) (aF3 hh)*65536+aBj rows (aE4 rows (aE4 rows i)) (aF3 (aF3 hh))*256)=aBj rows i hh*16777216+aBj rows (aE4 rows i) (aF3 hh)*65536+aBj rows (aE4 rows (aE4 rows i)) (aF3 (aF3 hh))*256:=by rw[aAi]<;>omega
    have w6:IntKind.i64.wrap (aBj rows i hh*16777216+aBj rows (aE4 rows i) (aF3 hh)*65536+aBj rows (aE4 rows (aE4 rows i)) (aF3 (aF3 hh))*256+aBj rows (aE4 rows (aE4 rows (aE4 rows i))) (aF3 (aF3 (aF3 hh))))=aBj rows i hh*16777216+aBj rows (aE4 rows i) (aF3 hh)*65536+aBj rows (aE4 rows (aE4 rows i)) (aF3 (aF3 hh))*256+aBj rows (aE4 rows (aE4 rows (aE4 rows i))) (aF3 (aF3 (aF3 hh))):=by rw[aAi]<;>omega
    simp[aA2,aA4,aA3,p1,p2,aAk,aA0,aA1,h1,o1,o2,o3,hn,w1,w2,w3,w4,w5,w6]
 ·cases h
theorem bWx:aA9 Tryz.prog bSs:=aA8 (by simp[aD0])
theorem aI9:aB0 Tryz.prog 56 (⟨[aD2,pI],[rB],true⟩) aKi:=aA6 bWx aAa Tryz.func56 (by kernel_rfl) fun cs outs hk h=>by
 unfold aKi at h
 split at h
 ·simp only[Option.some.injEq,Prod.mk.injEq]at h
  obtain⟨h1,rfl⟩:=h
  rename_i rows i hh n
  rw[aAd,bN3]
  by_cases p:aAk rows i hh n=0<;>simp[aA2,aA4,aA3,h1,p]
 ·cases h
theorem bN2:aA9 Tryz.prog aZr:=aA8 (by simp[aD0])
theorem aGw:aB0 Tryz.prog 42 (⟨[aD2,pSl 3],[rI],true⟩) aMj:=aA6 bN2 aAa Tryz.func42 (by kernel_rfl) fun cs outs hk h=>by
 unfold aMj at h
 split at h
 ·simp only[Option.some.injEq,Prod.mk.injEq,Bool.and_eq_true,decide_eq_true_eq]at h
  obtain⟨⟨h1,h2,h3,h4⟩,rfl⟩:=h
  rename_i rows i hh l
  have hr:=aUx h2
  generalize aH7 l=m at hr ⊢
  subst hr
  rw[List.length_map]at h3 h4
  rw[aAd,bAw]
  simp only[List.length_map]
  obtain⟨b1,b2⟩:=aBl rows i hh m.length (by omega)
  have hlt:(aAk rows i hh m.length).toNat<m.length:=by omega
  have g:=aBa aL7 m 0 _ hlt
  simp only[aA2,aA4,aA3,if_true,decide_eq_true_eq,Bool.and_eq_true,h1,b1,b2,g,List.length_map,and_self]
  simp[C.is,C.toInt]
 ·cases h
theorem bRt (f:Nat) (h:Int) (rows:List (List C)) (i:Nat) (hi:i<rows.length):aVy (f+1) h (rows.drop i)=aVy f (aH8 .i64 (IntKind.i64.wrap (IntKind.i64.wrap (IntKind.i64.wrap (h*131)+IntKind.i64.wrap (bBh (rows.getD i [])))+7)) 1073741823) (rows.drop (i+1)):=by
 rw[List.drop_eq_getElem_cons hi]
 simp[aVy,List.getD_eq_getElem?_getD,hi]
theorem bUu (f:Nat) (h:Int):aVy f h []=h:=by cases f<;>rfl
theorem bPu (rows:List (List C)) (hok:aAr rows 0=true) (hp:List (Nat×Blk)) (nx:Nat) (pn:List Nat) (sl:List (Nat×W)):∀ (n i:Nat) (h:Int),i≤rows.length→i≤4000→4000<i+n →
  ∃ s,(aHj aZs aAb Tryz.f28 {slots:=sl,heap:=hp,next:=nx,pins:=pn} [.r,.r,.l,.r,.b] n (bLz rows h i hp nx pn)).eval=some (.l (.ptr nx 0),s)∧s.heap=(nx,.box [.sl rows,.i .i64 0,.i .i64 (aVy (4000-i) h (rows.drop i))])::hp∧s.next=nx+1∧s.pins=pn:=by
 obtain⟨a1,a2,a3,a4⟩:=(aJw rows 0).1 hok
 intro n
 induction n with
 |zero=>intro i h h1 h2 h3;omega
 |succ n ih =>
  intro i h h1 h2 h3
  rw[bP7 _ _ _ _ _ _ _ (by kernel_rfl),bId]
  by_cases hi:i<rows.length
  ·by_cases hj:i<4000
   ·have hr:=bVo (bF7 a1 i hi)
    have w:IntKind.i64.wrap ((i:Int)+1)=((i+1:Nat):Int):=by rw[aAi]<;>omega
    have hi':(i:Int)<rows.length:=by omega
    have hj':(i:Int)<4000:=by omega
    have hz:(0:Int)≤i:=by omega
    have e1:((rows.getD i []).length)=1:=by rw[hr];rfl
    have e2:C.is (K.int .u8) ((rows.getD i []).getD 0 (C.fn 0 []))=true:=by rw[hr];rfl
    have hs:4000-i=(4000-(i+1))+1:=by omega
    rw[hs,bRt _ _ _ _ hi]
    simp only[aA2,aA4,if_true,decide_eq_true_eq,Bool.and_eq_true,hi',hj',hz,Int.toNat_natCast,e1,e2,w,and_self,Nat.zero_lt_one]
    exact ih (i+1) _ (by omega) (by omega) (by omega)
   ·have:i=4000:=by omega
    subst this
    have hi':((4000:Nat):Int)<rows.length:=by omega
    simp only[aA4,aA3,decide_eq_true_eq,hi',if_true]
    rw[if_neg (by omega)]
    exact⟨_,rfl,rfl,rfl,rfl⟩
  ·have hd:rows.drop i=[]:=List.drop_eq_nil_of_le (by omega)
   rw[hd,bUu]
   simp only[aA4,aA3,decide_eq_true_eq]
   rw[if_neg (by omega)]
   exact⟨_,rfl,rfl,rfl,rfl⟩
theorem bLk:cAi Tryz.prog bV6:=by
 intro g ws σ x σ' hs
 unfold bV6 at hs
 split at hs
 ·rename_i rows
  split at hs
  ·rename_i hg
   subst hg
   simp only[Option.some.injEq,Prod.mk.injEq]at hs
   obtain⟨hok,rfl,rfl⟩:=hs
   obtain⟨sl,hp,nx,pn⟩:=σ
   have hlen:=((aJw rows 0).1 hok).2.1
   obtain⟨s,h1,h2,h3,h4⟩:=bPu rows hok hp nx pn sl 9223372036854775808 0 (94701+rows.length) (by omega) (by omega) (by omega)
   have w:IntKind.i64.wrap (94701+(rows.length:Int))=94701+rows.length:=by rw[aAi]<;>omega
   refine⟨aZs,1,s,Tryz.f28,Tryz.func28,aA8 (by simp),?_,h2,h3,h4,fun id hid=>aBb (by omega)⟩
   rw[bXs]
   show (cAn aZs aAb _ (aHj aZs aAb _ _) _ _).eval=_
   rw[bPt,w]
   exact h1
  ·cases hs
 ·cases hs
theorem aZc {g:FuncId} {fn:Func} (h:bKa g=some fn):g=28∧fn=Tryz.f28:=by
 unfold bKa at h
 split at h
 ·rename_i hg;exact⟨hg,(Option.some.inj h).symm⟩
 ·cases h
theorem bV7 : (Tryz.f28.name == "runtime.NumGoroutine") = false := by kernel_rfl
theorem bXm:Tryz.prog.follows .mixedOrders=true:=by kernel_rfl
theorem bFr {lv:List (Nat×List Nat)} {gs:Laws} (h:∀ p,p∈gs→aB0 Tryz.prog p.1 p.2.1 p.2.2):aA9 Tryz.prog (mkD lv gs) :=
 ⟨⟨(bPb bA9).1,fun g fn hh=>by obtain⟨rfl,rfl⟩:=aZc hh;exact Tryz.func28,fun t m e te h1 h2=>bSk bH0 t m e te h1 h2,bW0 bLf,fun t e h=>by cases h⟩,fun g sig spec hl=>h (g,sig,spec) (aGl hl),fun g fn hh=>(by obtain⟨rfl,rfl⟩:=aZc hh;exact bV7),bXm⟩
theorem aGp (rows:List (List C)):∀ (m:Nat) (i h:Int),(aDl rows m i h).length=m
 |0,_,_=>rfl
 |m+1,i,h=>by simp[aDl,aGp rows m]
theorem aP6 (rows:List (List C)):∀ (m:Nat) (i:Int),aAr rows i=true→aAr rows (aP7 rows m i)=true
 |0,_,h=>h
 |m+1,i,h=>aP6 rows m _ (aJe rows i h)
theorem bMm (rows:List (List C)) (n:Nat) (hn:n≤5000):∀ (f m j:Nat) (i h:Int) (l:List UInt8),aAr rows i=true→j+f=n→f<m→l.length=j →
  (aBn bDc aAb (⟨[aD2,pI],[rS],true⟩) Tryz.f47 [.r,.r,.r,.l,.r,.b] m (aWo rows i h n l.length (aAc l) j)).eval=some [.str (l++aDl rows f i h),.sl rows,.int .i64 (aP7 rows f i),.int .i64 (aQz f h)]:=by
 intro f
 induction f with
 |zero =>
  intro m j i h l hok h1 h2 h3
  obtain⟨m,rfl⟩:∃ q,m=q+1:=⟨m-1,by omega⟩
  rw[aAz _ _ _ _ _ _ _ (by kernel_rfl),aLg]
  have c:¬((j:Int)<n):=by omega
  have tk:(aAc l).take l.length=aAc l:=List.take_of_length_le (by rw[aBh];omega)
  simp only[aA2,aA4,aA3,decide_eq_true_eq,c,if_false,tk,aE3,aGu,aDl,aP7,aQz,List.append_nil]
  simp
 |succ f ih =>
  intro m j i h l hok h1 h2 h3
  obtain⟨m,rfl⟩:∃ q,m=q+1:=⟨m-1,by omega⟩
  rw[aAz _ _ _ _ _ _ _ (by kernel_rfl),aLg]
  have hr:=aCx rows i h
  have c:(j:Int)<n:=by omega
  have w:IntKind.i64.wrap ((j:Int)+1)=((j+1:Nat):Int):=by rw[aAi]<;>omega
  have u:IntKind.u8.wrap (aBj rows i h)=(((aBj rows i h).toNat:Nat):Int):=by rw[aOy]<;>omega
  have ro:aBe (l.length+1) 1=true:=by simp only[aBe,decide_eq_true_eq];omega
  have ra:(aAc l).append [[C.int .u8 (((aBj rows i h).toNat:Nat):Int)]]=aAc (l++[UInt8.ofNat (aBj rows i h).toNat]):=by
   have:=bBg (((aBj rows i h).toNat:Nat):Int) (by omega) (by omega)
   rw[Int.toNat_natCast]at this
   rw[this,List.append_eq,aF7]
  have e:=ih m (j+1) (aE4 rows i) (aF3 h) (l++[UInt8.ofNat (aBj rows i h).toNat]) (aJe rows i hok) (by omega) (by omega) (by simp;omega)
  rw[List.length_append,List.append_assoc]at e
  simp only[aA2,aA4,if_true,decide_eq_true_eq,Bool.and_eq_true,c,hok,w,u,ro,aBh,ra,and_self,aDl,aP7,aQz]
  exact e
theorem bWr:aA9 Tryz.prog bDc:=aA8 (by simp[aUv])
theorem aOd:aB0 Tryz.prog 47 (⟨[aD2,pI],[rS],true⟩) aP5:=aA6 bWr aAa Tryz.func47 (by kernel_rfl) fun cs outs hk h=>by
 unfold aP5 at h
 split at h
 ·simp only[Option.some.injEq,Prod.mk.injEq]at h
  obtain⟨h1,rfl⟩:=h
  rename_i rows i hh n
  rw[aAd,bMl]
  have lp:=fun (q:Nat) (hq:q≤5000)=>bMm rows q hq q 9223372036854775808 0 i hh [] h1 (by omega) (by omega) rfl
  by_cases p:(5000:Int)<n
  ·have en:aEb n=5000:=by unfold aEb;rw[if_pos p];rfl
   rw[en]
   simp only[aA2,aA4,if_true,decide_eq_true_eq,p]
   exact lp 5000 (by omega)
  ·have en:aEb n=n.toNat:=by unfold aEb;rw[if_neg p]
   rw[en]
   simp only[aA2,aA4,if_true,decide_eq_true_eq,p,if_false]
   by_cases p2:0≤n
   ·obtain⟨n,rfl⟩:=Int.eq_ofNat_of_zero_le p2
    exact lp n (by omega)
   ·have hz:n.toNat=0:=by omega
    rw[hz]
    rw[aAz _ _ _ _ _ 9223372036854775807 _ (by kernel_rfl),aLg]
    have c:¬((0:Int)<n):=by omega
    simp only[aA2,aA4,aA3,decide_eq_true_eq,c,if_false,aDl,aP7,aQz]
    simp[aBv]
 ·cases h
noncomputable section
def aLq:PTy:=.val false [.slice 5]
def dtT (rows:List (List C)) (n i h:Int):List UInt8:=aDl rows (aEb (aAk rows i h n)) (aA0 rows i n) (aA1 h n)
def dtI (rows:List (List C)) (n i h:Int):Int:=aP7 rows (aEb (aAk rows i h n)) (aA0 rows i n)
def dtH (rows:List (List C)) (n i h:Int):Int:=aQz (aEb (aAk rows i h n)) (aA1 h n)
end
theorem aAq (rows:List (List C)) (i n:Int) (h:aAr rows i=true):aAr rows (aA0 rows i n)=true:=by
 unfold aA0
 split
 ·exact h
 ·split
  ·exact aJe rows i h
  ·exact aJe _ _ (aJe _ _ (aJe _ _ (aJe rows i h)))
theorem cA3 (rows:List (List C)) (n i h:Int) (ho:aAr rows i=true):aAr rows (dtI rows n i h)=true:=aP6 rows _ _ (aAq rows i n ho)
theorem bY2 (rows:List (List C)) (n i h:Int) (hn:0<n) (hn2:n≤5000):(dtT rows n i h).length<n:=by
 unfold dtT
 rw[aGp]
 have:=aBl rows i h n hn
 unfold aEb
 split<;>omega
noncomputable section
def aDo:aCh:=fun cs=>match cs with
 |[.int .i64 n]=>some (true,[.bool (inB n 0 1000000000)])
 |_=>none
def aX3:Env:=mkE [] [(37,(sg [pI,pI,pI] [rB]),aEm)]
def aCn:Nat→Nat→List UInt8
 |0,_=>[]
 |k+1,n=>UInt8.ofNat (n % 256)::aCn k (n / 256)
def aAj (n w:Int):List UInt8:=if 0≤n∧1≤w∧w≤8∧n.toNat<256^w.toNat then aCn w.toNat n.toNat else[]
def aId:List UInt8→Nat
 |[]=>0
 |c::t=>c.toNat+256*aId t
def aE0 (b:List UInt8) (at' w:Int):Nat:=aId ((b.drop at'.toNat).take w.toNat)
def aD9 (b:List UInt8) (at' w:Int):Bool:=decide (1≤w∧w≤8∧0≤at'∧at'≤b.length-w∧aE0 b at' w<9223372036854775808)
def aAy (b:List UInt8) (at' w:Int):Int:=if aD9 b at' w then (aE0 b at' w:Int)else 0
def aGo:aCh:=fun cs=>match cs with
 |[.int .i64 n,.int .i64 w]=>some (decide (-9223372036854775808≤n)&&decide (n≤9223372036854775807),[.str (aAj n w)])
 |_=>none
def aEi:aCh:=fun cs=>match cs with
 |[.str b,.int .i64 a,.int .i64 w]=>some (decide (b.length≤281474976710656)&&(decide (-9223372036854775808≤a)&&decide (a≤9223372036854775807)),[.int .i64 (aAy b a w),.bool (aD9 b a w)])
 |_=>none
def aNd:Env:=mkE [(5,[0,1,5,6])] [(45,(sg [pI,pI,pI] [rB]),aEm)]
def aNk:Env:=mkE [(5,[0,5,28,29])] [(37,(sg [pI,pI,pI] [rB]),aEm)]
def aNb:Env:=mkE [(7,[0,1,8,9])] [(45,(sg [pI,pI,pI] [rB]),aEm)]
def aNj:Env:=mkE [(5,[0,1,8,22,23])] [(37,(sg [pI,pI,pI] [rB]),aEm)]
def aN0 (n w:Int) (m:Nat) (r:List (List C)) (i:Int):St:=st1 [(0,aBc n),(1,aBc w),(5,.l (.ref 0 0 m)),(6,aBc i)] 1 r
def aK4 (n:Int) (m:Nat) (r:List (List C)) (e i:Int):St:=st1 [(0,aBc n),(5,.l (.ref 0 0 m)),(28,aBc e),(29,aBc i)] 1 r
def aK0 (b:List UInt8) (a n i:Int):St:=st0 [(0,aT0 b),(1,aBc a),(8,aBc n),(9,aBc i)]
def aN5 (b:List UInt8) (a n e i:Int):St:=st0 [(0,aT0 b),(1,aBc a),(8,aBc n),(22,aBc e),(23,aBc i)]
end
theorem aYc (H:List Pt→Nat→St→T (List C)) (n:Int):aAm aX3 aAb (sg [pI] [rB]) Tryz.f96 H [C.int .i64 n]=(.must true (.must true (.must true (.must true (.ask (inB n 0 1000000000) (.must true (.ret [C.bool true])) (.must true (.ret [C.bool false]))))))):=by kernel_rfl
theorem bB5 (H:List Pt→Nat→St→T (List C)) (n:Int) (w:Int):aAm aNd aAb (sg [pI,pI] [rS]) Tryz.f88 H [C.int .i64 n,C.int .i64 w]=(.must true (.ask (decide (n<(0:Int))) (.must true (.ret [C.str []])) (.must true (.must true (.must true (.ask (inB w 1 8) (H [Pt.r,Pt.r,Pt.r,Pt.l,Pt.r,Pt.b] 9223372036854775808 (aN0 (n) (w) (0) ([]) ((0:Int)))) (.must true (.ret [C.str []])))))))):=by kernel_rfl
theorem aUp (H:List Pt→Nat→St→T (List C)) (n:Int) (w:Int) (q:Nat) (r:List (List C)) (i:Int) (k:Nat):aBk aNd aAb (sg [pI,pI] [rS]) Tryz.f88 H [Pt.r,Pt.r,Pt.r,Pt.l,Pt.r,Pt.b] k (aN0 n w q r i)=(.ask (decide (i<w)) (.must (decide (q=r.length)&&aBe (r.length+1) 1&&(decide (1=1)&&true)) (.must true (H [Pt.r,Pt.r,Pt.r,Pt.l,Pt.r,Pt.b] k (aN0 (aJf .i64 n 8) (w) (r.length+1) (r.append [[C.int .u8 (IntKind.u8.wrap n)]]) (IntKind.i64.wrap (i+(1:Int))))))) (.ask (decide ((0:Int)<n)) (.must true (.ret [C.str []])) (.must ((List.take q r).all aG4) (.must true (.ret [C.str (aBv (List.take q r))]))))):=by kernel_rfl
theorem bCi (H:List Pt→Nat→St→T (List C)) (n:Int) (w:Int):aAm aNk aAb (sg [pI,pI] [rS]) Tryz.f122 H [C.int .i64 n,C.int .i64 w]=(.must true (.ask (decide (n<(0:Int))) (.must true (.ret [C.str []])) (.must true (.must true (.must true (.ask (inB w 1 8) (.ask (decide (w<(8:Int))) (.must (decide ((0:Int)≤IntKind.i64.wrap ((8:Int)*w))) (.ask (aJf .i64 n (IntKind.i64.wrap ((8:Int)*w)) != (0:Int)) (.must true (.ret [C.str []])) (.must (decide ((0:Int)≤w)&&decide (w≤w)&&decide ((↑(1:Nat):Int)*w≤(281474976710656:Int))) (H [Pt.r,Pt.r,Pt.r,Pt.l,Pt.r,Pt.b] 9223372036854775808 (aK4 (n) (w.toNat) (List.replicate w.toNat [C.int .u8 0]) ((↑w.toNat:Int)) ((0:Int))))))) (.must (decide ((0:Int)≤w)&&decide (w≤w)&&decide ((↑(1:Nat):Int)*w≤(281474976710656:Int))) (H [Pt.r,Pt.r,Pt.r,Pt.l,Pt.r,Pt.b] 9223372036854775808 (aK4 (n) (w.toNat) (List.replicate w.toNat [C.int .u8 0]) ((↑w.toNat:Int)) ((0:Int)))))) (.must true (.ret [C.str []])))))))):=by kernel_rfl
theorem aVx (H:List Pt→Nat→St→T (List C)) (n:Int) (q:Nat) (r:List (List C)) (e:Int) (i:Int) (k:Nat):aBk aNk aAb (sg [pI,pI] [rS]) Tryz.f122 H [Pt.r,Pt.r,Pt.r,Pt.l,Pt.r,Pt.b] k (aK4 n q r e i)=(.ask (decide (i<e)) (.must (decide ((0:Int)≤IntKind.i64.wrap ((8:Int)*i))) (.must (decide ((0:Int)≤i)&&decide (i<(↑q:Int))) (.must (decide (0+i.toNat<r.length)) (H [Pt.r,Pt.r,Pt.r,Pt.l,Pt.r,Pt.b] k (aK4 (n) (q) (r.set (0+i.toNat) (C.int .u8 (IntKind.u8.wrap (aJf .i64 n (IntKind.i64.wrap ((8:Int)*i))))::List.drop (0+1) (r.getD (0+i.toNat) []))) (e) (IntKind.i64.wrap (i+(1:Int)))))))) (.must ((List.take q r).all aG4) (.must true (.ret [C.str (aBv (List.take q r))])))):=by kernel_rfl
theorem bAt (H:List Pt→Nat→St→T (List C)) (b:List UInt8) (a:Int) (w:Int):aAm aNb aAb (sg [pS,pI,pI] [rI,rB]) Tryz.f85 H [C.str b,C.int .i64 a,C.int .i64 w]=(.must true (.must true (.must true (.must true (.ask (inB w 1 8) (.must true (.must true (.must true (.ask (inB a 0 (IntKind.i64.wrap ((↑b.length:Int)-w))) (.ask (decide (w=(8:Int))) (.must (decide ((0:Int)≤IntKind.i64.wrap (a+(7:Int)))&&decide (IntKind.i64.wrap (a+(7:Int))<(↑b.length:Int))) (.ask (decide ((127:Int)<(↑(b.getD (IntKind.i64.wrap (a+(7:Int))).toNat (0:UInt8)).toNat:Int))) (.must true (.ret [C.int .i64 0,C.bool false])) (H [Pt.r,Pt.r,Pt.r,Pt.r,Pt.l,Pt.r,Pt.b] 9223372036854775808 (aK0 (b) (a) ((0:Int)) (IntKind.i64.wrap (w-(1:Int))))))) (H [Pt.r,Pt.r,Pt.r,Pt.r,Pt.l,Pt.r,Pt.b] 9223372036854775808 (aK0 (b) (a) ((0:Int)) (IntKind.i64.wrap (w-(1:Int)))))) (.must true (.ret [C.int .i64 0,C.bool false])))))) (.must true (.ret [C.int .i64 0,C.bool false]))))))):=by kernel_rfl
theorem aUg (H:List Pt→Nat→St→T (List C)) (b:List UInt8) (a:Int) (n:Int) (i:Int) (k:Nat):aBk aNb aAb (sg [pS,pI,pI] [rI,rB]) Tryz.f85 H [Pt.r,Pt.r,Pt.r,Pt.r,Pt.l,Pt.r,Pt.b] k (aK0 b a n i)=(.ask (decide ((0:Int)≤i)) (.must true (.must (decide ((0:Int)≤IntKind.i64.wrap (a+i))&&decide (IntKind.i64.wrap (a+i)<(↑b.length:Int))) (H [Pt.r,Pt.r,Pt.r,Pt.r,Pt.l,Pt.r,Pt.b] k (aK0 (b) (a) (ior .i64 (aS6 .i64 n 8) (IntKind.i64.wrap (↑(b.getD (IntKind.i64.wrap (a+i)).toNat (0:UInt8)).toNat:Int))) (IntKind.i64.wrap (i-(1:Int))))))) (.must true (.ret [C.int .i64 n,C.bool true]))):=by kernel_rfl
theorem bCa (H:List Pt→Nat→St→T (List C)) (b:List UInt8) (a:Int) (w:Int):aAm aNj aAb (sg [pS,pI,pI] [rI,rB]) Tryz.f117 H [C.str b,C.int .i64 a,C.int .i64 w]=(.must true (.must true (.must true (.must true (.ask (inB w 1 8) (.must true (.must true (.must true (.ask (inB a 0 (IntKind.i64.wrap ((↑b.length:Int)-w))) (H [Pt.r,Pt.r,Pt.r,Pt.l,Pt.r,Pt.b] 9223372036854775808 (aN5 (b) (a) ((0:Int)) (w) ((0:Int)))) (.must true (.ret [C.int .i64 0,C.bool false])))))) (.must true (.ret [C.int .i64 0,C.bool false]))))))):=by kernel_rfl
theorem aVr (H:List Pt→Nat→St→T (List C)) (b:List UInt8) (a:Int) (n:Int) (e:Int) (i:Int) (k:Nat):aBk aNj aAb (sg [pS,pI,pI] [rI,rB]) Tryz.f117 H [Pt.r,Pt.r,Pt.r,Pt.l,Pt.r,Pt.b] k (aN5 b a n e i)=(.ask (decide (i<e)) (.must (decide ((0:Int)≤IntKind.i64.wrap (a+i))&&decide (IntKind.i64.wrap (a+i)<(↑b.length:Int))) (.must (decide ((0:Int)≤IntKind.i64.wrap ((8:Int)*i))) (H [Pt.r,Pt.r,Pt.r,Pt.l,Pt.r,Pt.b] k (aN5 (b) (a) (ior .i64 n (aS6 .i64 (IntKind.i64.wrap (↑(b.getD (IntKind.i64.wrap (a+i)).toNat (0:UInt8)).toNat:Int)) (IntKind.i64.wrap ((8:Int)*i)))) (e) (IntKind.i64.wrap (i+(1:Int))))))) (.ask (decide (n<(0:Int))) (.must true (.ret [C.int .i64 0,C.bool false])) (.must true (.ret [C.int .i64 n,C.bool true])))):=by kernel_rfl
theorem bJx:aA9 Tryz.prog aX3:=aA8 (by simp[aJo])
theorem aDk:aB0 Tryz.prog 96 (sg [pI] [rB]) aDo:=aA6 bJx aAa Tryz.func96 (by kernel_rfl) fun cs outs hk h=>by
 unfold aDo at h
 split at h
 ·simp only[Option.some.injEq,Prod.mk.injEq,true_and]at h
  rw[←h,aAd,aYc]
  rename_i n
  by_cases hb:inB n 0 1000000000=true<;>simp[aA2,aA4,aA3,hb]
 ·cases h
theorem bZq (x:Int) (k:Nat) (hk:k<64):aJf .i64 x (k:Int)=x / 2^k:=by
 show x.fdiv (2^(min ((k:Int).toNat) 64))=_
 have:min ((k:Int).toNat) 64=k:=by omega
 rw[this,Int.fdiv_eq_ediv_of_nonneg]
 exact Int.pow_nonneg (by omega)
theorem aI3 (x k:Nat) (hk:k<64):aJf .i64 (x:Int) (k:Int)=((x / 2^k:Nat):Int):=by
 rw[bZq _ _ hk]
 simp
theorem aQw (x:Int):IntKind.u8.wrap x=x % 256:=by
 simp only[IntKind.wrap,IntKind.bits,IntKind.signed]
 simp
theorem aV5 (i:Nat):(2:Nat)^(8*i)=256^i:=by rw[Nat.pow_mul]
theorem aCd:∀ (k n:Nat),(aCn k n).length=k
 |0,_=>rfl
 |k+1,n=>by simp[aCn,aCd k]
theorem aLx:∀ (k n:Nat),aCn (k+1) n=aCn k n++[UInt8.ofNat (n / 256^k % 256)]
 |0,n=>by simp[aCn]
 |k+1,n=>by
  rw[aCn,aLx k (n / 256)]
  simp only[aCn,List.cons_append]
  rw[Nat.div_div_eq_div_mul,Nat.pow_succ,Nat.mul_comm 256 (256^k)]
theorem aBr (n a b:Int):inB n a b=true↔a≤n∧n≤b:=by simp[inB]
theorem bB6 (n0 w:Nat) (hw:w≤8) (hn:n0≤9223372036854775807):∀ (n i:Nat),i≤w→w<i+n →
  (aBn aNd aAb (sg [pI,pI] [rS]) Tryz.f88 [.r,.r,.r,.l,.r,.b] n (aN0 (n0 / 256^i:Nat) w i (aAc (aCn i n0)) i)).eval=some [.str (if n0<256^w then aCn w n0 else[])]:=by
 intro n
 induction n with
 |zero=>intro i h1 h2;omega
 |succ n ih =>
  intro i h1 h2
  rw[aAz _ _ _ _ _ _ _ (by kernel_rfl),aUp]
  by_cases hi:i<w
  ·have e:=ih (i+1) (by omega) (by omega)
   have w1:IntKind.i64.wrap ((i:Int)+1)=((i+1:Nat):Int):=by rw[aAi]<;>omega
   have hi':(i:Int)<w:=by omega
   have hr:aBe (i+1) 1=true:=by simp only[aBe,decide_eq_true_eq];omega
   have d:aJf .i64 ((n0 / 256^i:Nat):Int) 8=((n0 / 256^(i+1):Nat):Int):=by
    have:=aI3 (n0 / 256^i) 8 (by omega)
    rw[show ((8:Nat):Int)=8 from rfl]at this
    rw[this,Nat.div_div_eq_div_mul,show (2:Nat)^8=256 from rfl,←Nat.pow_succ]
   have u:IntKind.u8.wrap ((n0 / 256^i:Nat):Int)=((n0 / 256^i % 256:Nat):Int):=by rw[aQw];omega
   have ro:[[C.int .u8 ((n0 / 256^i % 256:Nat):Int)]]=aAc [UInt8.ofNat (n0 / 256^i % 256)]:=by
    have:=bBg ((n0 / 256^i % 256:Nat):Int) (by omega) (by omega)
    rw[Int.toNat_natCast]at this
    exact this
   rw[aLx,←aF7,←ro]at e
   simp only[aA2,aA4,aA3,if_true,decide_eq_true_eq,Bool.and_eq_true,w1,hi',aBh,aCd,hr,d,u,and_self,List.append_eq]
   exact e
  ·have:i=w:=by omega
   subst this
   have hlt:¬((i:Int)<i):=by omega
   have z:(0:Int)<((n0 / 256^i:Nat):Int)↔¬n0<256^i:=by
    have hp:(256:Nat)^i≠0:=Nat.pos_iff_ne_zero.1 (Nat.pow_pos (by omega))
    have h0:n0 / 256^i=0↔n0<256^i:=by
     rw[Nat.div_eq_zero_iff]
     exact⟨fun h=>h.resolve_left hp,.inr⟩
    rw[←h0]
    generalize n0 / 256^i=y
    omega
   have tk:(aAc (aCn i n0)).take i=aAc (aCn i n0):=List.take_of_length_le (by rw[aBh,aCd];omega)
   simp only[aA2,aA4,aA3,if_true,decide_eq_true_eq,hlt,if_false,z,tk,aE3,aGu]
   by_cases hc:n0<256^i<;>simp[hc]
theorem bCx (n w:Int) (h:¬(0≤n∧1≤w∧w≤8)):aAj n w=[]:=by
 unfold aAj;rw[if_neg (fun h'=>h ⟨h'.1,h'.2.1,h'.2.2.1⟩)]
theorem bCw (n w:Nat) (h1:1≤w) (h2:w≤8):aAj n w=if n<256^w then aCn w n else[]:=by
 unfold aAj
 simp only[Int.toNat_natCast]
 by_cases h:n<256^w
 ·rw[if_pos ⟨by omega,by omega,by omega,h⟩,if_pos h]
 ·rw[if_neg (fun h'=>h h'.2.2.2),if_neg h]
theorem bN8:aA9 Tryz.prog aNd:=aA8 (by simp[aDg])
theorem aF6:aB0 Tryz.prog 88 (sg [pI,pI] [rS]) aGo:=aA6 bN8 aAa Tryz.func88 (by kernel_rfl) fun cs outs hk h=>by
 unfold aGo at h
 split at h
 ·simp only[Option.some.injEq,Prod.mk.injEq,Bool.and_eq_true,decide_eq_true_eq]at h
  obtain⟨⟨h1,h2⟩,rfl⟩:=h
  rename_i n w
  rw[aAd,bB5]
  by_cases hn:n<0
  ·simp[aA2,aA4,aA3,hn,bCx n w (by omega)]
  ·by_cases hw:inB w 1 8=true
   ·have hw':=(aBr _ _ _).1 hw
    obtain⟨n,rfl⟩:=Int.eq_ofNat_of_zero_le (show 0≤n by omega)
    obtain⟨w,rfl⟩:=Int.eq_ofNat_of_zero_le (show 0≤w by omega)
    have:=bB6 n w (by omega) (by omega) 9223372036854775808 0 (by omega) (by omega)
    rw[←bCw n w (by omega) (by omega)]at this
    simp only[aA2,aA4,if_true,hn,decide_false,Bool.false_eq_true,if_false,hw,Bool.not_true]
    simpa[aCn,aAc]using this
   ·have:¬(1≤w∧w≤8):=fun h=>hw ((aBr _ _ _).2 h)
    simp[aA2,aA4,aA3,hn,hw,bCx n w (by omega)]
 ·cases h
theorem bCj (n0 w:Nat) (hw:w≤8) (hn:n0≤9223372036854775807):∀ (n i:Nat),i≤w→w<i+n →
  (aBn aNk aAb (sg [pI,pI] [rS]) Tryz.f122 [.r,.r,.r,.l,.r,.b] n (aK4 n0 w (aAc (aCn i n0++List.replicate (w-i) 0)) w i)).eval=some [.str (aCn w n0)]:=by
 intro n
 induction n with
 |zero=>intro i h1 h2;omega
 |succ n ih =>
  intro i h1 h2
  rw[aAz _ _ _ _ _ _ _ (by kernel_rfl),aVx]
  by_cases hi:i<w
  ·have e:=ih (i+1) (by omega) (by omega)
   have w1:IntKind.i64.wrap ((i:Int)+1)=((i+1:Nat):Int):=by rw[aAi]<;>omega
   have w2:IntKind.i64.wrap (8*(i:Int))=((8*i:Nat):Int):=by rw[aAi]<;>omega
   have hi':(i:Int)<w:=by omega
   have hz:(0:Int)≤i:=by omega
   have hz8:(0:Int)≤((8*i:Nat):Int):=by omega
   have d:aJf .i64 (n0:Int) ((8*i:Nat):Int)=((n0 / 256^i:Nat):Int):=by rw[aI3 _ _ (by omega),aV5]
   have u:IntKind.u8.wrap ((n0 / 256^i:Nat):Int)=((n0 / 256^i % 256:Nat):Int):=by rw[aQw];omega
   have hlen:(aCn i n0++List.replicate (w-i) (0:UInt8)).length=w:=by simp[aCd];omega
   have g:=bL5 (aCn i n0++List.replicate (w-i) 0) i (by omega)
   have sset:=bL4 (aCn i n0++List.replicate (w-i) 0) i ((n0 / 256^i % 256:Nat):Int) (by omega) (by omega)
   have sl:(aCn i n0++List.replicate (w-i) (0:UInt8)).set i (UInt8.ofNat (((n0 / 256^i % 256:Nat):Int)).toNat)=aCn (i+1) n0++List.replicate (w-(i+1)) 0:=by
    obtain⟨m,hm⟩:∃ m,w-i=m+1:=⟨w-i-1,by omega⟩
    have hm2:w-(i+1)=m:=by omega
    rw[List.set_append_right _ _ (by rw[aCd];omega),aCd,Nat.sub_self,hm,hm2,List.replicate_succ,List.set_cons_zero,aLx,Int.toNat_natCast,List.append_assoc]
    rfl
   rw[sl]at sset
   simp only[aA2,aA4,aA3,if_true,decide_eq_true_eq,Bool.and_eq_true,w1,w2,hi',hz,hz8,d,u,aBh,hlen,Int.toNat_natCast,Nat.zero_add,hi,and_self,g,List.drop_succ_cons,List.drop_zero,sset]
   exact e
  ·have:i=w:=by omega
   subst this
   have hlt:¬((i:Int)<i):=by omega
   have tk:(aAc (aCn i n0)).take i=aAc (aCn i n0):=List.take_of_length_le (by rw[aBh,aCd];omega)
   simp only[aA2,aA4,aA3,if_true,decide_eq_true_eq,hlt,if_false,Nat.sub_self,List.replicate_zero,List.append_nil,tk,aE3,aGu]
theorem bOh:aA9 Tryz.prog aNk:=aA8 (by simp[aJo])
theorem aGx:aB0 Tryz.prog 122 (sg [pI,pI] [rS]) aGo:=aA6 bOh aAa Tryz.func122 (by kernel_rfl) fun cs outs hk h=>by
 unfold aGo at h
 split at h
 ·simp only[Option.some.injEq,Prod.mk.injEq,Bool.and_eq_true,decide_eq_true_eq]at h
  obtain⟨⟨h1,h2⟩,rfl⟩:=h
  rename_i n w
  rw[aAd,bCi]
  by_cases hn:n<0
  ·simp[aA2,aA4,aA3,hn,bCx n w (by omega)]
  ·by_cases hw:inB w 1 8=true
   ·have hw':=(aBr _ _ _).1 hw
    obtain⟨n,rfl⟩:=Int.eq_ofNat_of_zero_le (show 0≤n by omega)
    obtain⟨w,rfl⟩:=Int.eq_ofNat_of_zero_le (show 0≤w by omega)
    have lp:=bCj n w (by omega) (by omega) 9223372036854775808 0 (by omega) (by omega)
    have rp:aAc (aCn 0 n++List.replicate (w-0) 0)=List.replicate w [C.int .u8 0]:=by simp[aCn,aAc]
    rw[rp]at lp
    have w2:IntKind.i64.wrap (8*(w:Int))=((8*w:Nat):Int):=by rw[aAi]<;>omega
    have hz8:(0:Int)≤((8*w:Nat):Int):=by omega
    have c1:(0:Int)≤w:=by omega
    have c2:((1:Nat):Int)*(w:Int)≤281474976710656:=by omega
    rw[bCw n w (by omega) (by omega)]
    simp only[aA2,aA4,aA3,if_true,hn,decide_false,Bool.false_eq_true,if_false,hw,Bool.not_true,w2,hz8,decide_true,decide_eq_true_eq,Bool.and_eq_true,c1,c2,Int.le_refl,and_self,Int.toNat_natCast]
    by_cases h8:(w:Int)<8
    ·have d:aJf .i64 (n:Int) ((8*w:Nat):Int)=((n / 256^w:Nat):Int):=by rw[aI3 _ _ (by omega),aV5]
     have z:n / 256^w=0↔n<256^w:=by
      have hp:(256:Nat)^w≠0:=Nat.pos_iff_ne_zero.1 (Nat.pow_pos (by omega))
      rw[Nat.div_eq_zero_iff]
      exact⟨fun h=>h.resolve_left hp,.inr⟩
     simp only[h8,if_true,d,bne_iff_ne,ne_eq,Int.natCast_eq_zero,z]
     by_cases hc:n<256^w
     ·simp only[hc,not_true_eq_false,if_false,if_true];exact lp
     ·simp only[hc,not_false_eq_true,if_true,if_false]
    ·have:w=8:=by omega
     subst this
     have hc:n<256^8:=by omega
     simp only[h8,if_false,hc,if_true]
     exact lp
   ·have:¬(1≤w∧w≤8):=fun h=>hw ((aBr _ _ _).2 h)
    simp[aA2,aA4,aA3,hn,hw,bCx n w (by omega)]
 ·cases h
theorem aQ1:∀ l:List UInt8,aId l<256^l.length
 |[]=>by simp[aId]
 |c::t=>by
  have:=aQ1 t
  have hc:=c.toNat_lt
  simp only[aId,List.length_cons,Nat.pow_succ]
  omega
theorem aLw:∀ (l:List UInt8) (c:UInt8),aId (l++[c])=aId l+c.toNat*256^l.length
 |[],c=>by simp[aId]
 |x::t,c=>by
  simp only[List.cons_append,aId,aLw t c,List.length_cons,Nat.pow_succ]
  rw[Nat.mul_add,←Nat.add_assoc,Nat.mul_left_comm,Nat.mul_comm 256 (256^t.length)]
theorem aQ2:∀ (j:Nat) (l:List UInt8),aId (l.drop j)≤aId l
 |0,l=>by simp
 |j+1,[]=>by simp
 |j+1,c::t=>by
  have:=aQ2 j t
  simp only[List.drop_succ_cons,aId]
  omega
theorem aQ3 (n c k:Nat) (hk:n<2^k) (h:n+c*2^k<18446744073709551616) (x y:Int) (hx:(x % 18446744073709551616).toNat=n) (hy:(y % 18446744073709551616).toNat=c*2^k) :
  ior .i64 x y=IntKind.i64.wrap ((n+c*2^k:Nat):Int):=by
 show IntKind.i64.wrap (((BitVec.ofInt 64 x|||BitVec.ofInt 64 y).toNat:Nat):Int)=_
 rw[BitVec.toNat_or]
 have h1:(BitVec.ofInt 64 x).toNat=n:=by rw[←hx];simp[BitVec.toNat_ofInt]
 have h2:(BitVec.ofInt 64 y).toNat=c*2^k:=by rw[←hy];simp[BitVec.toNat_ofInt]
 rw[h1,h2,←Nat.shiftLeft_eq,Nat.or_comm,←Nat.shiftLeft_add_eq_or_of_lt hk,Nat.add_comm]
theorem aYj (x:Int):IntKind.i64.wrap x % 18446744073709551616=x % 18446744073709551616:=by
 simp only[IntKind.wrap,IntKind.bits,IntKind.signed]
 first
  |(split<;>omega)
  |(simp;split<;>omega)
theorem aRi (x:Int) (k:Nat) (hk:k<64):aS6 .i64 x (k:Int) % 18446744073709551616=x*2^k % 18446744073709551616:=by
 show IntKind.i64.wrap (x*2^(min ((k:Int).toNat) 64)) % 18446744073709551616=_
 have:min ((k:Int).toNat) 64=k:=by omega
 rw[this,aYj]
theorem bAu (b:List UInt8) (a w:Nat) (hb:a+w≤b.length) (hbl:b.length≤281474976710656) (hw:w≤8) (hv:aE0 b a w<9223372036854775808):∀ (n j:Nat),j≤w→j<n →
  (aBn aNb aAb (sg [pS,pI,pI] [rI,rB]) Tryz.f85 [.r,.r,.r,.r,.l,.r,.b] n (aK0 b a (aId (((b.drop a).take w).drop j):Nat) ((j:Int)-1))).eval=some [.int .i64 (aE0 b a w:Nat),.bool true]:=by
 intro n
 induction n with
 |zero=>intro j h1 h2;omega
 |succ n ih =>
  intro j h1 h2
  rw[aAz _ _ _ _ _ _ _ (by kernel_rfl),aUg]
  cases j with
  |zero =>
   have:¬((0:Int)≤((0:Nat):Int)-1):=by omega
   simp only[aA2,aA4,aA3,decide_eq_true_eq,this,if_false,if_true]
   simp[aE0]
  |succ i =>
   have e:=ih i (by omega) (by omega)
   have hl:((b.drop a).take w).length=w:=by simp;omega
   have hg:((b.drop a).take w).getD i 0=b.getD (a+i) 0:=by
    simp[List.getD_eq_getElem?_getD,List.getElem?_take,List.getElem?_drop,show i<w by omega]
   rw[aQa _ i (by omega),hg]at e
   have hle:aId (((b.drop a).take w).drop i)≤aE0 b a w:=by
    have:=aQ2 i ((b.drop a).take w)
    simpa[aE0]using this
   rw[aQa _ i (by omega),hg]at hle
   simp only[aId]at e hle
   generalize aId (((b.drop a).take w).drop (i+1))=y at e hle
   have hc:=aHp b (a+i)
   have w1:IntKind.i64.wrap ((((i+1:Nat):Int)-1)-1)=(i:Int)-1:=by rw[aAi]<;>omega
   have w2:IntKind.i64.wrap ((a:Int)+(((i+1:Nat):Int)-1))=((a+i:Nat):Int):=by rw[aAi]<;>omega
   have w3:IntKind.i64.wrap ((b.getD (a+i) 0).toNat:Int)=((b.getD (a+i) 0).toNat:Int):=by rw[aAi]<;>omega
   have z1:(0:Int)≤((i+1:Nat):Int)-1:=by omega
   have z2:(0:Int)≤((a+i:Nat):Int):=by omega
   have z3:a+i<b.length:=by omega
   have hm:=aRi (y:Int) 8 (by omega)
   rw[show ((8:Nat):Int)=8 from rfl]at hm
   have ho:ior .i64 (aS6 .i64 (y:Int) 8) ((b.getD (a+i) 0).toNat:Int)=(((b.getD (a+i) 0).toNat+256*y:Nat):Int):=by
    have:=aQ3 (b.getD (a+i) 0).toNat y 8 (by omega) (by omega) ((b.getD (a+i) 0).toNat:Int) (aS6 .i64 (y:Int) 8) (by omega) (by rw[hm];omega)
    rw[aAi (by omega) (by omega)]at this
    have hcomm:ior .i64 (aS6 .i64 (y:Int) 8) ((b.getD (a+i) 0).toNat:Int)=ior .i64 ((b.getD (a+i) 0).toNat:Int) (aS6 .i64 (y:Int) 8):=by
     unfold ior;rw[BitVec.or_comm]
    rw[hcomm,this]
    omega
   simp only[aA2,aA4,aA3,decide_eq_true_eq,Bool.and_eq_true,if_true,w1,w2,z1,z2,Int.toNat_natCast,Int.ofNat_lt,z3,w3,ho,and_self]
   exact e
theorem bOm (b:List UInt8) (a:Nat) (hb:a+8≤b.length):aE0 b a (8:Int)=aId ((b.drop a).take 7)+(b.getD (a+7) 0).toNat*72057594037927936∧aId ((b.drop a).take 7)<72057594037927936:=by
 have hl:((b.drop a).take 7).length=7:=by simp;omega
 have e:(b.drop a).take 8=(b.drop a).take 7++[b.getD (a+7) 0]:=by
  rw[List.take_add_one]
  simp[List.getElem?_drop,List.getD_eq_getElem?_getD,show a+7<b.length by omega]
 have h1:=aLw ((b.drop a).take 7) (b.getD (a+7) 0)
 have h2:=aQ1 ((b.drop a).take 7)
 rw[hl]at h1 h2
 refine⟨?_,h2⟩
 show aId ((b.drop (a:Int).toNat).take (8:Int).toNat)=_
 rw[Int.toNat_natCast,show (8:Int).toNat=8 from rfl,e,h1]
theorem bGm (b:List UInt8) (a w:Nat) (hw:w≤7):aE0 b a w<72057594037927936:=by
 have h:=aQ1 ((b.drop a).take w)
 have hl:((b.drop a).take w).length≤w:=by simp;omega
 have:256^((b.drop a).take w).length≤256^7:=Nat.pow_le_pow_right (by omega) (by omega)
 show aId ((b.drop (a:Int).toNat).take (w:Int).toNat)<_
 simp only[Int.toNat_natCast]
 omega
theorem aJr (b:List UInt8) (a w:Int):aD9 b a w=true↔(1≤w∧w≤8∧0≤a∧a≤b.length-w∧aE0 b a w<9223372036854775808):=by simp[aD9]
theorem bMy:aA9 Tryz.prog aNb:=aA8 (by simp[aDg])
theorem aNp:aB0 Tryz.prog 85 (sg [pS,pI,pI] [rI,rB]) aEi:=aA6 bMy aAa Tryz.func85 (by kernel_rfl) fun cs outs hk h=>by
 unfold aEi at h
 split at h
 ·simp only[Option.some.injEq,Prod.mk.injEq,Bool.and_eq_true,decide_eq_true_eq]at h
  obtain⟨⟨h1,h2,h3⟩,rfl⟩:=h
  rename_i b a w
  rw[aAd,bAt]
  have bad:¬(1≤w∧w≤8∧0≤a∧a≤b.length-w∧aE0 b a w<9223372036854775808)→aAy b a w=0∧aD9 b a w=false:=fun h=>by
   have:aD9 b a w=false:=by
    cases hh:aD9 b a w with
    |true=>exact absurd ((aJr b a w).1 hh) h
    |false=>rfl
   exact⟨by unfold aAy;rw[this];rfl,this⟩
  by_cases hw:inB w 1 8=true
  ·have hw':=(aBr _ _ _).1 hw
   have wr:IntKind.i64.wrap ((b.length:Int)-w)=b.length-w:=by rw[aAi]<;>omega
   by_cases ha:inB a 0 ((b.length:Int)-w)=true
   ·have ha':=(aBr _ _ _).1 ha
    obtain⟨a,rfl⟩:=Int.eq_ofNat_of_zero_le ha'.1
    obtain⟨w,rfl⟩:=Int.eq_ofNat_of_zero_le (show 0≤w by omega)
    have lp:=fun hv=>bAu b a w (by omega) h1 (by omega) hv 9223372036854775808 w (by omega) (by omega)
    have w1:IntKind.i64.wrap ((w:Int)-1)=(w:Int)-1:=by rw[aAi]<;>omega
    have dr:((b.drop a).take w).drop w=[]:=by
     apply List.drop_eq_nil_of_le;simp;omega
    rw[dr]at lp
    have good:aE0 b a w<9223372036854775808→aAy b a w=(aE0 b a w:Nat)∧aD9 b a w=true:=fun h=>by
     have:aD9 b a w=true:=(aJr _ _ _).2 ⟨hw'.1,hw'.2,ha'.1,ha'.2,h⟩
     exact⟨by unfold aAy;rw[this];rfl,this⟩
    by_cases h8:(w:Int)=8
    ·have h8t:((w:Int)=8)=True:=eq_true h8
     obtain⟨t1,t2⟩:=bOm b a (by omega)
     rw[←h8]at t1
     have w7:IntKind.i64.wrap ((a:Int)+7)=((a+7:Nat):Int):=by rw[aAi]<;>omega
     have z1:(0:Int)≤((a+7:Nat):Int):=by omega
     have z2:a+7<b.length:=by omega
     by_cases hc:(127:Int)<((b.getD (a+7) 0).toNat:Int)
     ·obtain⟨b1,b2⟩:=bad (fun h=>by
       have:=h.2.2.2.2
       rw[t1]at this
       omega)
      simp only[aA2,aA4,aA3,if_true,hw,wr,ha,Bool.not_true,Bool.false_eq_true,if_false,h8t,w7,z1,z2,Bool.and_eq_true,decide_eq_true_eq,Int.toNat_natCast,Int.ofNat_lt,and_self,hc,b1,b2]
     ·have hv:aE0 b a w<9223372036854775808:=by rw[t1];omega
      obtain⟨b1,b2⟩:=good hv
      simp only[aA2,aA4,aA3,if_true,hw,wr,ha,Bool.not_true,Bool.false_eq_true,if_false,h8t,w7,z1,z2,Bool.and_eq_true,decide_eq_true_eq,Int.toNat_natCast,Int.ofNat_lt,and_self,hc,w1,b1,b2]
      exact lp hv
    ·have hv:aE0 b a w<9223372036854775808:=by have:=bGm b a w (by omega);omega
     obtain⟨b1,b2⟩:=good hv
     simp only[aA2,aA4,aA3,if_true,hw,wr,ha,Bool.not_true,Bool.false_eq_true,if_false,h8,decide_false,w1,b1,b2]
     exact lp hv
   ·obtain⟨b1,b2⟩:=bad (fun h=>ha ((aBr _ _ _).2 ⟨h.2.2.1,h.2.2.2.1⟩))
    simp[aA2,aA4,aA3,hw,wr,ha,b1,b2]
  ·obtain⟨b1,b2⟩:=bad (fun h=>hw ((aBr _ _ _).2 ⟨h.1,h.2.1⟩))
   simp[aA2,aA4,aA3,hw,b1,b2]
 ·cases h
theorem bCb (b:List UInt8) (a w:Nat) (hb:a+w≤b.length) (hbl:b.length≤281474976710656) (hw1:1≤w) (hw:w≤8):∀ (n i:Nat),i≤w→w<i+n →
  (aBn aNj aAb (sg [pS,pI,pI] [rI,rB]) Tryz.f117 [.r,.r,.r,.l,.r,.b] n (aN5 b a (IntKind.i64.wrap (aId ((b.drop a).take i):Nat)) w i)).eval=some [.int .i64 (aAy b a w),.bool (aD9 b a w)]:=by
 intro n
 induction n with
 |zero=>intro i h1 h2;omega
 |succ n ih =>
  intro i h1 h2
  rw[aAz _ _ _ _ _ _ _ (by kernel_rfl),aVr]
  by_cases hi:i<w
  ·have e:=ih (i+1) (by omega) (by omega)
   have hl:((b.drop a).take i).length=i:=by simp;omega
   have ee:(b.drop a).take (i+1)=(b.drop a).take i++[b.getD (a+i) 0]:=by
    rw[List.take_add_one]
    simp[List.getElem?_drop,List.getD_eq_getElem?_getD,show a+i<b.length by omega]
   rw[ee,aLw,hl]at e
   have hlt:=aQ1 ((b.drop a).take i)
   rw[hl]at hlt
   have h7:256^i≤256^7:=Nat.pow_le_pow_right (by omega) (by omega)
   generalize aId ((b.drop a).take i)=y at e hlt
   have hc:=aHp b (a+i)
   have w1:IntKind.i64.wrap ((i:Int)+1)=((i+1:Nat):Int):=by rw[aAi]<;>omega
   have w2:IntKind.i64.wrap ((a:Int)+i)=((a+i:Nat):Int):=by rw[aAi]<;>omega
   have w3:IntKind.i64.wrap ((b.getD (a+i) 0).toNat:Int)=((b.getD (a+i) 0).toNat:Int):=by rw[aAi]<;>omega
   have w4:IntKind.i64.wrap (8*(i:Int))=((8*i:Nat):Int):=by rw[aAi]<;>omega
   have w5:IntKind.i64.wrap (y:Int)=y:=by rw[aAi]<;>omega
   have z1:(i:Int)<w:=by omega
   have z2:(0:Int)≤((a+i:Nat):Int):=by omega
   have z3:a+i<b.length:=by omega
   have z4:(0:Int)≤((8*i:Nat):Int):=by omega
   have hm:=aRi ((b.getD (a+i) 0).toNat:Int) (8*i) (by omega)
   have hpow:(b.getD (a+i) 0).toNat*256^i≤255*256^i:=Nat.mul_le_mul_right _ (by omega)
   have hp2:((b.getD (a+i) 0).toNat:Int)*2^(8*i)=(((b.getD (a+i) 0).toNat*256^i:Nat):Int):=by
    rw[←aV5];simp
   rw[hp2]at hm
   have ho:=aQ3 y (b.getD (a+i) 0).toNat (8*i) (by rw[aV5];exact hlt) (by rw[aV5];omega) (y:Int) (aS6 .i64 ((b.getD (a+i) 0).toNat:Int) ((8*i:Nat):Int)) (by omega) (by rw[hm,aV5];omega)
   rw[aV5]at ho
   simp only[aA2,aA4,aA3,decide_eq_true_eq,Bool.and_eq_true,if_true,w1,w2,w3,w4,w5,z1,z2,Int.toNat_natCast,Int.ofNat_lt,z3,z4,ho,and_self,hi]
   exact e
  ·have hiw:i=w:=by omega
   subst hiw
   have hlt:¬((i:Int)<i):=by omega
   have hfv:aE0 b a i=aId ((b.drop a).take i):=by simp[aE0]
   have hl:((b.drop a).take i).length=i:=by simp;omega
   have hb8:=aQ1 ((b.drop a).take i)
   rw[hl]at hb8
   have h8:256^i≤256^8:=Nat.pow_le_pow_right (by omega) (by omega)
   rw[←hfv]at hb8 ⊢
   simp only[aA2,aA4,aA3,decide_eq_true_eq,if_true,hlt,if_false]
   by_cases hv:aE0 b a i<9223372036854775808
   ·have hok:aD9 b a i=true:=(aJr _ _ _).2 ⟨by omega,by omega,by omega,by omega,hv⟩
    have w5:IntKind.i64.wrap ((aE0 b a i:Nat):Int)=(aE0 b a i:Nat):=by rw[aAi]<;>omega
    have hn:¬(((aE0 b a i:Nat):Int)<0):=by omega
    simp only[w5,hn,if_false,aAy,hok,if_true]
   ·have hok:aD9 b a i=false:=by
     cases hh:aD9 b a i with
     |true=>exact absurd ((aJr _ _ _).1 hh).2.2.2.2 hv
     |false=>rfl
    have hr:=bDl ((aE0 b a i:Nat):Int)
    have hm:=aYj ((aE0 b a i:Nat):Int)
    have hn:IntKind.i64.wrap ((aE0 b a i:Nat):Int)<0:=by omega
    simp only[hn,if_true,aAy,hok,Bool.false_eq_true,if_false]
theorem bOe:aA9 Tryz.prog aNj:=aA8 (by simp[aJo])
theorem aNz:aB0 Tryz.prog 117 (sg [pS,pI,pI] [rI,rB]) aEi:=aA6 bOe aAa Tryz.func117 (by kernel_rfl) fun cs outs hk h=>by
 unfold aEi at h
 split at h
 ·simp only[Option.some.injEq,Prod.mk.injEq,Bool.and_eq_true,decide_eq_true_eq]at h
  obtain⟨⟨h1,h2,h3⟩,rfl⟩:=h
  rename_i b a w
  rw[aAd,bCa]
  have bad:¬(1≤w∧w≤8∧0≤a∧a≤b.length-w∧aE0 b a w<9223372036854775808)→aAy b a w=0∧aD9 b a w=false:=fun h=>by
   have:aD9 b a w=false:=by
    cases hh:aD9 b a w with
    |true=>exact absurd ((aJr b a w).1 hh) h
    |false=>rfl
   exact⟨by unfold aAy;rw[this];rfl,this⟩
  by_cases hw:inB w 1 8=true
  ·have hw':=(aBr _ _ _).1 hw
   have wr:IntKind.i64.wrap ((b.length:Int)-w)=b.length-w:=by rw[aAi]<;>omega
   by_cases ha:inB a 0 ((b.length:Int)-w)=true
   ·have ha':=(aBr _ _ _).1 ha
    obtain⟨a,rfl⟩:=Int.eq_ofNat_of_zero_le ha'.1
    obtain⟨w,rfl⟩:=Int.eq_ofNat_of_zero_le (show 0≤w by omega)
    have lp:=bCb b a w (by omega) h1 (by omega) (by omega) 9223372036854775808 0 (by omega) (by omega)
    simp only[aA2,aA4,aA3,if_true,hw,wr,ha,Bool.not_true,Bool.false_eq_true,if_false]
    exact lp
   ·obtain⟨b1,b2⟩:=bad (fun h=>ha ((aBr _ _ _).2 ⟨h.2.2.1,h.2.2.2.1⟩))
    simp[aA2,aA4,aA3,hw,wr,ha,b1,b2]
  ·obtain⟨b1,b2⟩:=bad (fun h=>hw ((aBr _ _ _).2 ⟨h.1,h.2.1⟩))
   simp[aA2,aA4,aA3,hw,b1,b2]
 ·cases h
noncomputable section
def aF1 (v s b l:Int):Bool:=inB v 1 2&&inB s 1 20&&inB b 0 1000000000&&inB l 0 4294967295
def aFf:PTy:=.val true [.int .i64,.int .i64,.int .i64,.int .i64]
def aV0:RTy:=⟨true,[(.int .i64,false),(.int .i64,false),(.int .i64,false),(.int .i64,false)]⟩
def aFl:aCh:=fun cs=>match cs with
 |[.int .i64 v,.int .i64 s,.int .i64 b,.int .i64 l]=>some (true,[.bool (aF1 v s b l)])
 |_=>none
def aGn (v s b l:Int):List UInt8:=[83,69,71,77]++aAj v 1++aAj s 1++[0,0]++aAj b 8++aAj l 4
def aBu (v s b l:Int):List UInt8:=if aF1 v s b l then aGn v s b l++aAj (aB1 0 (aGn v s b l):Nat) 4 else[]
def aDp:aCh:=fun cs=>match cs with
 |[.int .i64 v,.int .i64 s,.int .i64 b,.int .i64 l]=>some (true,[.str (aBu v s b l)])
 |_=>none
def bHa:Env:=mkE [] [(45,(sg [pI,pI,pI] [rB]),aEm)]
def bHk:Env:=mkE [] [(37,(sg [pI,pI,pI] [rB]),aEm),(126,(sg [pI] [rB]),aFy),(96,(sg [pI] [rB]),aDo)]
def aWx:Env:=mkE [] [(123,(sg [pS] [rI]),aEe),(88,(sg [pI,pI] [rS]),aGo),(105,(sg [aFf] [rB]),aFl)]
def aX4:Env:=mkE [] [(129,(sg [pS] [rI]),aEe),(122,(sg [pI,pI] [rS]),aGo),(95,(sg [aFf] [rB]),aFl)]
def rhV (b:List UInt8):Int:=(b.getD 4 0).toNat
def rhS (b:List UInt8):Int:=(b.getD 5 0).toNat
def rhB (b:List UInt8):Int:=aAy b 8 8
def rhL (b:List UInt8):Int:=aAy b 16 4
def aAe (b:List UInt8):Bool:=decide (24≤b.length)&&aD9 b 8 8&&decide (aBu (rhV b) (rhS b) (rhB b) (rhL b)=b.take 24)
def ifI (c:Bool) (x:Int):Int:=if c then x else 0
def aDn:aCh:=fun cs=>match cs with
 |[.str b]=>some (decide (b.length≤281474976710656),[.int .i64 (ifI (aAe b) (rhV b)),.int .i64 (ifI (aAe b) (rhS b)),.int .i64 (ifI (aAe b) (rhB b)),.int .i64 (ifI (aAe b) (rhL b)),.bool (aAe b)])
 |_=>none
def aWu:Env:=mkE [] [(85,(sg [pS,pI,pI] [rI,rB]),aEi),(86,(sg [aFf] [rS]),aDp)]
def aX0:Env:=mkE [] [(117,(sg [pS,pI,pI] [rI,rB]),aEi),(100,(sg [aFf] [rS]),aDp)]
end
theorem bEi (H:List Pt→Nat→St→T (List C)) (v:Int) (s:Int) (b:Int) (l:Int):aAm bHa aAb (sg [aFf] [rB]) Tryz.f105 H [C.int .i64 v,C.int .i64 s,C.int .i64 b,C.int .i64 l]=(.must true (.must true (.must true (.must true (.ask (inB v 1 2) (.must true (.must true (.must true (.ask (inB s 1 20) (.must true (.must true (.must true (.ask (inB b 0 1000000000) (.must true (.must true (.must true (.ask (inB l 0 4294967295) (.must true (.ret [C.bool true])) (.must true (.ret [C.bool false])))))) (.must true (.ret [C.bool false])))))) (.must true (.ret [C.bool false])))))) (.must true (.ret [C.bool false]))))))):=by kernel_rfl
theorem bGa (H:List Pt→Nat→St→T (List C)) (v:Int) (s:Int) (b:Int) (l:Int):aAm bHk aAb (sg [aFf] [rB]) Tryz.f95 H [C.int .i64 v,C.int .i64 s,C.int .i64 b,C.int .i64 l]=(.must true (.must true (.must true (.must true (.ask (inB v 1 2) (.must true (.must true (.must true (.ask (inB s 1 20) (.must true (.must true (.must true (.ask (inB b 0 1000000000) (.must true (.must true (.must true (.ask (inB l 0 4294967295) (.must true (.ret [C.bool true])) (.must true (.ret [C.bool false])))))) (.must true (.ret [C.bool false])))))) (.must true (.ret [C.bool false])))))) (.must true (.ret [C.bool false]))))))):=by kernel_rfl
theorem aXp (H:List Pt→Nat→St→T (List C)) (v:Int) (s:Int) (b:Int) (l:Int):aAm aWx aAb (sg [aFf] [rS]) Tryz.f86 H [C.int .i64 v,C.int .i64 s,C.int .i64 b,C.int .i64 l]=(.must true (.must true (.must true (.must true (.ask (aF1 v s b l) (.must true (.must (decide ((-9223372036854775808:Int)≤v)&&decide (v≤(9223372036854775807:Int))) (.must true (.must (decide (4+(aAj v 1).length≤9223372036854775807)) (.must true (.must (decide ((-9223372036854775808:Int)≤s)&&decide (s≤(9223372036854775807:Int))) (.must true (.must (decide (([(83:UInt8),69,71,77]++aAj v 1).length+(aAj s 1).length≤9223372036854775807)) (.must (decide (([(83:UInt8),69,71,77]++aAj v 1++aAj s 1).length+2≤9223372036854775807)) (.must true (.must (decide ((-9223372036854775808:Int)≤b)&&decide (b≤(9223372036854775807:Int))) (.must true (.must (decide (([(83:UInt8),69,71,77]++aAj v 1++aAj s 1++[(0:UInt8),0]).length+(aAj b 8).length≤9223372036854775807)) (.must true (.must (decide ((-9223372036854775808:Int)≤l)&&decide (l≤(9223372036854775807:Int))) (.must true (.must (decide (([(83:UInt8),69,71,77]++aAj v 1++aAj s 1++[(0:UInt8),0]++aAj b 8).length+(aAj l 4).length≤9223372036854775807)) (.must true (.must (decide (([(83:UInt8),69,71,77]++aAj v 1++aAj s 1++[(0:UInt8),0]++aAj b 8++aAj l 4).length≤281474976710656)) (.must true (.must true (.must (decide ((-9223372036854775808:Int)≤Int.ofNat (aB1 0 ([(83:UInt8),69,71,77]++aAj v 1++aAj s 1++[(0:UInt8),0]++aAj b 8++aAj l 4)))&&decide (Int.ofNat (aB1 0 ([(83:UInt8),69,71,77]++aAj v 1++aAj s 1++[(0:UInt8),0]++aAj b 8++aAj l 4))≤(9223372036854775807:Int))) (.must true (.must (decide (([(83:UInt8),69,71,77]++aAj v 1++aAj s 1++[(0:UInt8),0]++aAj b 8++aAj l 4).length+(aAj (Int.ofNat (aB1 0 ([(83:UInt8),69,71,77]++aAj v 1++aAj s 1++[(0:UInt8),0]++aAj b 8++aAj l 4))) (4:Int)).length≤9223372036854775807)) (.must true (.ret [C.str ([(83:UInt8),69,71,77]++aAj v 1++aAj s 1++[(0:UInt8),0]++aAj b 8++aAj l 4++aAj (Int.ofNat (aB1 0 ([(83:UInt8),69,71,77]++aAj v 1++aAj s 1++[(0:UInt8),0]++aAj b 8++aAj l 4))) (4:Int))])))))))))))))))))))))))))) (.must true (.ret [C.str []]))))))):=by kernel_rfl
theorem aYd (H:List Pt→Nat→St→T (List C)) (v:Int) (s:Int) (b:Int) (l:Int):aAm aX4 aAb (sg [aFf] [rS]) Tryz.f100 H [C.int .i64 v,C.int .i64 s,C.int .i64 b,C.int .i64 l]=(.must true (.must true (.must true (.must true (.ask (aF1 v s b l) (.must true (.must (decide ((-9223372036854775808:Int)≤v)&&decide (v≤(9223372036854775807:Int))) (.must true (.must (decide (4+(aAj v 1).length≤9223372036854775807)) (.must true (.must (decide ((-9223372036854775808:Int)≤s)&&decide (s≤(9223372036854775807:Int))) (.must true (.must (decide (([(83:UInt8),69,71,77]++aAj v 1).length+(aAj s 1).length≤9223372036854775807)) (.must true (.must true (.must true (.must (decide (([(83:UInt8),69,71,77]++aAj v 1++aAj s 1).length+(1+1)≤9223372036854775807)) (.must true (.must (decide ((-9223372036854775808:Int)≤b)&&decide (b≤(9223372036854775807:Int))) (.must true (.must (decide (([(83:UInt8),69,71,77]++aAj v 1++aAj s 1++aAj 0 2).length+(aAj b 8).length≤9223372036854775807)) (.must true (.must (decide ((-9223372036854775808:Int)≤l)&&decide (l≤(9223372036854775807:Int))) (.must true (.must (decide (([(83:UInt8),69,71,77]++aAj v 1++aAj s 1++aAj 0 2++aAj b 8).length+(aAj l 4).length≤9223372036854775807)) (.must true (.must (decide (([(83:UInt8),69,71,77]++aAj v 1++aAj s 1++aAj 0 2++aAj b 8++aAj l 4).length≤281474976710656)) (.must true (.must true (.must (decide ((-9223372036854775808:Int)≤Int.ofNat (aB1 0 ([(83:UInt8),69,71,77]++aAj v 1++aAj s 1++aAj 0 2++aAj b 8++aAj l 4)))&&decide (Int.ofNat (aB1 0 ([(83:UInt8),69,71,77]++aAj v 1++aAj s 1++aAj 0 2++aAj b 8++aAj l 4))≤(9223372036854775807:Int))) (.must true (.must (decide (([(83:UInt8),69,71,77]++aAj v 1++aAj s 1++aAj 0 2++aAj b 8++aAj l 4).length+(aAj (Int.ofNat (aB1 0 ([(83:UInt8),69,71,77]++aAj v 1++aAj s 1++aAj 0 2++aAj b 8++aAj l 4))) (4:Int)).length≤9223372036854775807)) (.must true (.ret [C.str ([(83:UInt8),69,71,77]++aAj v 1++aAj s 1++aAj 0 2++aAj b 8++aAj l 4++aAj (Int.ofNat (aB1 0 ([(83:UInt8),69,71,77]++aAj v 1++aAj s 1++aAj 0 2++aAj b 8++aAj l 4))) (4:Int))]))))))))))))))))))))))))))))) (.must true (.ret [C.str []]))))))):=by kernel_rfl
theorem aXg (H:List Pt→Nat→St→T (List C)) (b:List UInt8):aAm aWu aAb (sg [pS] [aV0,rB]) Tryz.f64 H [C.str b]=(.must true (.ask (decide ((↑b.length:Int)<(24:Int))) (.must true (.ret [C.int .i64 0,C.int .i64 0,C.int .i64 0,C.int .i64 0,C.bool false])) (.must true (.must (decide (b.length≤281474976710656)&&(decide ((-9223372036854775808:Int)≤(8:Int))&&decide ((8:Int)≤(9223372036854775807:Int)))) (.must true (.ask (aD9 b 8 8) (.must true (.must (decide (b.length≤281474976710656)&&(decide ((-9223372036854775808:Int)≤(16:Int))&&decide ((16:Int)≤(9223372036854775807:Int)))) (.must true (.ask (aD9 b 16 4) (.must (decide ((0:Int)≤(4:Int))&&decide ((4:Int)<(↑b.length:Int))) (.must (decide ((0:Int)≤(5:Int))&&decide ((5:Int)<(↑b.length:Int))) (.must true (.must true (.must true (.must (decide ((0:Int)≤(24:Int))&&decide ((24:Int)≤(↑b.length:Int))) (.ask (!aBu (IntKind.i64.wrap (↑(b.getD (Int.toNat 4) (0:UInt8)).toNat:Int)) (IntKind.i64.wrap (↑(b.getD (Int.toNat 5) (0:UInt8)).toNat:Int)) (aAy b 8 8) (aAy b 16 4)==List.drop 0 (List.take (Int.toNat 24) b)) (.must true (.ret [C.int .i64 0,C.int .i64 0,C.int .i64 0,C.int .i64 0,C.bool false])) (.must true (.ret [C.int .i64 (IntKind.i64.wrap (↑(b.getD (Int.toNat 4) (0:UInt8)).toNat:Int)),C.int .i64 (IntKind.i64.wrap (↑(b.getD (Int.toNat 5) (0:UInt8)).toNat:Int)),C.int .i64 (aAy b 8 8),C.int .i64 (aAy b 16 4),C.bool true]))))))))) (.must (decide ((0:Int)≤(4:Int))&&decide ((4:Int)<(↑b.length:Int))) (.must (decide ((0:Int)≤(5:Int))&&decide ((5:Int)<(↑b.length:Int))) (.must true (.must true (.must true (.must (decide ((0:Int)≤(24:Int))&&decide ((24:Int)≤(↑b.length:Int))) (.ask (!aBu (IntKind.i64.wrap (↑(b.getD (Int.toNat 4) (0:UInt8)).toNat:Int)) (IntKind.i64.wrap (↑(b.getD (Int.toNat 5) (0:UInt8)).toNat:Int)) (aAy b 8 8) (aAy b 16 4)==List.drop 0 (List.take (Int.toNat 24) b)) (.must true (.ret [C.int .i64 0,C.int .i64 0,C.int .i64 0,C.int .i64 0,C.bool false])) (.must true (.ret [C.int .i64 (IntKind.i64.wrap (↑(b.getD (Int.toNat 4) (0:UInt8)).toNat:Int)),C.int .i64 (IntKind.i64.wrap (↑(b.getD (Int.toNat 5) (0:UInt8)).toNat:Int)),C.int .i64 (aAy b 8 8),C.int .i64 (aAy b 16 4),C.bool true]))))))))))))) (.must true (.must (decide (b.length≤281474976710656)&&(decide ((-9223372036854775808:Int)≤(16:Int))&&decide ((16:Int)≤(9223372036854775807:Int)))) (.must true (.ask (aD9 b 16 4) (.must (decide ((0:Int)≤(4:Int))&&decide ((4:Int)<(↑b.length:Int))) (.must (decide ((0:Int)≤(5:Int))&&decide ((5:Int)<(↑b.length:Int))) (.must true (.ret [C.int .i64 0,C.int .i64 0,C.int .i64 0,C.int .i64 0,C.bool false])))) (.must (decide ((0:Int)≤(4:Int))&&decide ((4:Int)<(↑b.length:Int))) (.must (decide ((0:Int)≤(5:Int))&&decide ((5:Int)<(↑b.length:Int))) (.must true (.ret [C.int .i64 0,C.int .i64 0,C.int .i64 0,C.int .i64 0,C.bool false])))))))))))))):=by kernel_rfl
theorem aY7 (H:List Pt→Nat→St→T (List C)) (b:List UInt8):aAm aX0 aAb (sg [pS] [aV0,rB]) Tryz.f81 H [C.str b]=(.must true (.ask (decide ((↑b.length:Int)<(24:Int))) (.must true (.ret [C.int .i64 0,C.int .i64 0,C.int .i64 0,C.int .i64 0,C.bool false])) (.must true (.must (decide (b.length≤281474976710656)&&(decide ((-9223372036854775808:Int)≤(8:Int))&&decide ((8:Int)≤(9223372036854775807:Int)))) (.must true (.ask (aD9 b 8 8) (.must true (.must (decide (b.length≤281474976710656)&&(decide ((-9223372036854775808:Int)≤(16:Int))&&decide ((16:Int)≤(9223372036854775807:Int)))) (.must true (.ask (aD9 b 16 4) (.must (decide ((0:Int)≤(4:Int))&&decide ((4:Int)<(↑b.length:Int))) (.must (decide ((0:Int)≤(5:Int))&&decide ((5:Int)<(↑b.length:Int))) (.must true (.must true (.must true (.must (decide ((0:Int)≤(24:Int))&&decide ((24:Int)≤(↑b.length:Int))) (.ask (!aBu (IntKind.i64.wrap (↑(b.getD (Int.toNat 4) (0:UInt8)).toNat:Int)) (IntKind.i64.wrap (↑(b.getD (Int.toNat 5) (0:UInt8)).toNat:Int)) (aAy b 8 8) (aAy b 16 4)==List.drop 0 (List.take (Int.toNat 24) b)) (.must true (.ret [C.int .i64 0,C.int .i64 0,C.int .i64 0,C.int .i64 0,C.bool false])) (.must true (.ret [C.int .i64 (IntKind.i64.wrap (↑(b.getD (Int.toNat 4) (0:UInt8)).toNat:Int)),C.int .i64 (IntKind.i64.wrap (↑(b.getD (Int.toNat 5) (0:UInt8)).toNat:Int)),C.int .i64 (aAy b 8 8),C.int .i64 (aAy b 16 4),C.bool true]))))))))) (.must (decide ((0:Int)≤(4:Int))&&decide ((4:Int)<(↑b.length:Int))) (.must (decide ((0:Int)≤(5:Int))&&decide ((5:Int)<(↑b.length:Int))) (.must true (.must true (.must true (.must (decide ((0:Int)≤(24:Int))&&decide ((24:Int)≤(↑b.length:Int))) (.ask (!aBu (IntKind.i64.wrap (↑(b.getD (Int.toNat 4) (0:UInt8)).toNat:Int)) (IntKind.i64.wrap (↑(b.getD (Int.toNat 5) (0:UInt8)).toNat:Int)) (aAy b 8 8) (aAy b 16 4)==List.drop 0 (List.take (Int.toNat 24) b)) (.must true (.ret [C.int .i64 0,C.int .i64 0,C.int .i64 0,C.int .i64 0,C.bool false])) (.must true (.ret [C.int .i64 (IntKind.i64.wrap (↑(b.getD (Int.toNat 4) (0:UInt8)).toNat:Int)),C.int .i64 (IntKind.i64.wrap (↑(b.getD (Int.toNat 5) (0:UInt8)).toNat:Int)),C.int .i64 (aAy b 8 8),C.int .i64 (aAy b 16 4),C.bool true]))))))))))))) (.must true (.must (decide (b.length≤281474976710656)&&(decide ((-9223372036854775808:Int)≤(16:Int))&&decide ((16:Int)≤(9223372036854775807:Int)))) (.must true (.ask (aD9 b 16 4) (.must (decide ((0:Int)≤(4:Int))&&decide ((4:Int)<(↑b.length:Int))) (.must (decide ((0:Int)≤(5:Int))&&decide ((5:Int)<(↑b.length:Int))) (.must true (.ret [C.int .i64 0,C.int .i64 0,C.int .i64 0,C.int .i64 0,C.bool false])))) (.must (decide ((0:Int)≤(4:Int))&&decide ((4:Int)<(↑b.length:Int))) (.must (decide ((0:Int)≤(5:Int))&&decide ((5:Int)<(↑b.length:Int))) (.must true (.ret [C.int .i64 0,C.int .i64 0,C.int .i64 0,C.int .i64 0,C.bool false])))))))))))))):=by kernel_rfl
theorem aBi (n w:Int):(aAj n w).length≤8:=by
 unfold aAj;split
 ·rw[aCd];omega
 ·simp
theorem bPz:aA9 Tryz.prog bHa:=aA8 (by simp[aDg])
theorem aKe:aB0 Tryz.prog 105 (sg [aFf] [rB]) aFl:=aA6 bPz aAa Tryz.func105 (by kernel_rfl) fun cs outs hk h=>by
 unfold aFl at h
 split at h
 ·simp only[Option.some.injEq,Prod.mk.injEq,true_and]at h
  rw[←h,aAd,bEi]
  simp only[aA2,aA4,aA3,if_true,aF1]
  repeat' split
  all_goals first | rfl | (simp_all;done)
 ·cases h
theorem bRq:aA9 Tryz.prog bHk:=aA8 (by simp[aJo,aHm,aDk])
theorem bCg:aB0 Tryz.prog 95 (sg [aFf] [rB]) aFl:=aA6 bRq aAa Tryz.func95 (by kernel_rfl) fun cs outs hk h=>by
 unfold aFl at h
 split at h
 ·simp only[Option.some.injEq,Prod.mk.injEq,true_and]at h
  rw[←h,aAd,bGa]
  simp only[aA2,aA4,aA3,if_true,aF1]
  repeat' split
  all_goals first | rfl | (simp_all;done)
 ·cases h
theorem aI4 (v s b l:Int):aF1 v s b l=true↔(1≤v∧v≤2)∧(1≤s∧s≤20)∧(0≤b∧b≤1000000000)∧(0≤l∧l≤4294967295):=by
 simp[aF1,inB,and_assoc]
theorem bIg:aA9 Tryz.prog aWx:=aA8 (by simp[aIo,aF6,aKe])
theorem aIa:aB0 Tryz.prog 86 (sg [aFf] [rS]) aDp:=aA6 bIg aAa Tryz.func86 (by kernel_rfl) fun cs outs hk h=>by
 unfold aDp at h
 split at h
 ·simp only[Option.some.injEq,Prod.mk.injEq,true_and]at h
  rename_i v s b l
  rw[←h,aAd,aXp]
  by_cases hok:aF1 v s b l=true
  ·obtain⟨⟨a1,a2⟩,⟨a3,a4⟩,⟨a5,a6⟩,a7,a8⟩:=(aI4 v s b l).1 hok
   have l1:=aBi v 1
   have l2:=aBi s 1
   have l3:=aBi b 8
   have l4:=aBi l 4
   have l5:=aBi (aB1 0 (aGn v s b l):Nat) 4
   have c1:=aEx 0 (aGn v s b l) (by omega)
   have e:aBu v s b l=aGn v s b l++aAj (aB1 0 (aGn v s b l):Nat) 4:=by simp[aBu,hok]
   rw[e]
   unfold aGn at *
   simp only[aA2,aA4,aA3,if_true,hok,decide_eq_true_eq,Bool.and_eq_true,List.length_append,List.length_cons,List.length_nil,Int.ofNat_eq_natCast]
   repeat rw[if_pos (by omega)]
  ·simp[aA2,aA4,aA3,hok,aBu]
 ·cases h
theorem bJy:aA9 Tryz.prog aX4:=aA8 (by simp[aLz,aGx,bCg])
theorem aVv:aB0 Tryz.prog 100 (sg [aFf] [rS]) aDp:=aA6 bJy aAa Tryz.func100 (by kernel_rfl) fun cs outs hk h=>by
 unfold aDp at h
 split at h
 ·simp only[Option.some.injEq,Prod.mk.injEq,true_and]at h
  rename_i v s b l
  rw[←h,aAd,aYd]
  by_cases hok:aF1 v s b l=true
  ·obtain⟨⟨a1,a2⟩,⟨a3,a4⟩,⟨a5,a6⟩,a7,a8⟩:=(aI4 v s b l).1 hok
   have l1:=aBi v 1
   have l2:=aBi s 1
   have l3:=aBi b 8
   have l4:=aBi l 4
   have l5:=aBi (aB1 0 (aGn v s b l):Nat) 4
   have c1:=aEx 0 (aGn v s b l) (by omega)
   have f0:aAj 0 2=[0,0]:=by decide
   have e:aBu v s b l=aGn v s b l++aAj (aB1 0 (aGn v s b l):Nat) 4:=by simp[aBu,hok]
   rw[e]
   unfold aGn at *
   simp only[aA2,aA4,aA3,if_true,hok,decide_eq_true_eq,Bool.and_eq_true,List.length_append,List.length_cons,List.length_nil,Int.ofNat_eq_natCast,f0]
   repeat rw[if_pos (by omega)]
  ·simp[aA2,aA4,aA3,hok,aBu]
 ·cases h
theorem bI9:aA9 Tryz.prog aWu:=aA8 (by simp[aNp,aIa])
theorem aLj:aB0 Tryz.prog 64 (sg [pS] [aV0,rB]) aDn:=aA6 bI9 aAa Tryz.func64 (by kernel_rfl) fun cs outs hk h=>by
 unfold aDn at h
 split at h
 ·simp only[Option.some.injEq,Prod.mk.injEq,decide_eq_true_eq]at h
  obtain⟨h1,rfl⟩:=h
  rename_i b
  rw[aAd,aXg]
  have c4:=aHp b 4
  have c5:=aHp b 5
  have w4:IntKind.i64.wrap ((b.getD 4 0).toNat:Int)=rhV b:=by rw[aAi]<;>first | rfl | omega
  have w5:IntKind.i64.wrap ((b.getD 5 0).toNat:Int)=rhS b:=by rw[aAi]<;>first | rfl | omega
  have t4:Int.toNat (4:Int)=4:=rfl
  have t5:Int.toNat (5:Int)=5:=rfl
  have t24:Int.toNat (24:Int)=24:=rfl
  have eB:aAy b 8 8=rhB b:=rfl
  have eL:aAy b 16 4=rhL b:=rfl
  simp only[t4,t5,t24,w4,w5,eB,eL,List.drop_zero]
  by_cases h24:(b.length:Int)<24
  ·have ho:aAe b=false:=by unfold aAe;rw[decide_eq_false (by omega)];rfl
   simp[aA2,aA4,aA3,h24,ho,ifI]
  ·have g1:(4:Int)<b.length:=by omega
   have g2:(5:Int)<b.length:=by omega
   have g3:(24:Int)≤b.length:=by omega
   have g4:24≤b.length:=by omega
   by_cases h8:aD9 b 8 8=true
   ·by_cases ht:aBu (rhV b) (rhS b) (rhB b) (rhL b)=b.take 24
    ·have ho:aAe b=true:=by unfold aAe;rw[decide_eq_true g4,h8,decide_eq_true ht];rfl
     have hb:(aBu (rhV b) (rhS b) (rhB b) (rhL b)==b.take 24)=true:=by rw[ht];simp
     by_cases h16:aD9 b 16 4=true<;>simp[aA2,aA4,aA3,h24,h8,h16,h1,g1,g2,g3,t4,t5,t24,w4,w5,eB,eL,ht,ho,ifI]
    ·have ho:aAe b=false:=by unfold aAe;rw[decide_eq_true g4,h8,decide_eq_false ht];rfl
     by_cases h16:aD9 b 16 4=true<;>simp[aA2,aA4,aA3,h24,h8,h16,h1,g1,g2,g3,t4,t5,t24,w4,w5,eB,eL,ht,ho,ifI]
   ·have ho:aAe b=false:=by unfold aAe;rw[Bool.eq_false_iff.2 h8];simp
    by_cases h16:aD9 b 16 4=true<;>simp[aA2,aA4,aA3,h24,h8,h16,h1,g1,g2,g3,t4,t5,t24,ho,ifI]<;>(intros;simp_all)
 ·cases h
theorem bJu:aA9 Tryz.prog aX0:=aA8 (by simp[aNz,aVv])
theorem aM1:aB0 Tryz.prog 81 (sg [pS] [aV0,rB]) aDn:=aA6 bJu aAa Tryz.func81 (by kernel_rfl) fun cs outs hk h=>by
 unfold aDn at h
 split at h
 ·simp only[Option.some.injEq,Prod.mk.injEq,decide_eq_true_eq]at h
  obtain⟨h1,rfl⟩:=h
  rename_i b
  rw[aAd,aY7]
  have c4:=aHp b 4
  have c5:=aHp b 5
  have w4:IntKind.i64.wrap ((b.getD 4 0).toNat:Int)=rhV b:=by rw[aAi]<;>first | rfl | omega
  have w5:IntKind.i64.wrap ((b.getD 5 0).toNat:Int)=rhS b:=by rw[aAi]<;>first | rfl | omega
  have t4:Int.toNat (4:Int)=4:=rfl
  have t5:Int.toNat (5:Int)=5:=rfl
  have t24:Int.toNat (24:Int)=24:=rfl
  have eB:aAy b 8 8=rhB b:=rfl
  have eL:aAy b 16 4=rhL b:=rfl
  simp only[t4,t5,t24,w4,w5,eB,eL,List.drop_zero]
  by_cases h24:(b.length:Int)<24
  ·have ho:aAe b=false:=by unfold aAe;rw[decide_eq_false (by omega)];rfl
   simp[aA2,aA4,aA3,h24,ho,ifI]
  ·have g1:(4:Int)<b.length:=by omega
   have g2:(5:Int)<b.length:=by omega
   have g3:(24:Int)≤b.length:=by omega
   have g4:24≤b.length:=by omega
   by_cases h8:aD9 b 8 8=true
   ·by_cases ht:aBu (rhV b) (rhS b) (rhB b) (rhL b)=b.take 24
    ·have ho:aAe b=true:=by unfold aAe;rw[decide_eq_true g4,h8,decide_eq_true ht];rfl
     have hb:(aBu (rhV b) (rhS b) (rhB b) (rhL b)==b.take 24)=true:=by rw[ht];simp
     by_cases h16:aD9 b 16 4=true<;>simp[aA2,aA4,aA3,h24,h8,h16,h1,g1,g2,g3,t4,t5,t24,w4,w5,eB,eL,ht,ho,ifI]
    ·have ho:aAe b=false:=by unfold aAe;rw[decide_eq_true g4,h8,decide_eq_false ht];rfl
     by_cases h16:aD9 b 16 4=true<;>simp[aA2,aA4,aA3,h24,h8,h16,h1,g1,g2,g3,t4,t5,t24,w4,w5,eB,eL,ht,ho,ifI]
   ·have ho:aAe b=false:=by unfold aAe;rw[Bool.eq_false_iff.2 h8];simp
    by_cases h16:aD9 b 16 4=true<;>simp[aA2,aA4,aA3,h24,h8,h16,h1,g1,g2,g3,t4,t5,t24,ho,ifI]<;>(intros;simp_all)
 ·cases h
noncomputable section
def aD6:Nat→Nat→List UInt8
 |0,_=>[]
 |k+1,n=>if n<128 then[UInt8.ofNat n]else UInt8.ofNat (n % 128+128)::aD6 k (n / 128)
def aBp (n:Int):List UInt8:=if inB n 0 1000000000 then aD6 5 n.toNat else[]
def aEd:aCh:=fun cs=>match cs with
 |[.int .i64 n]=>some (true,[.str (aBp n)])
 |_=>none
def aMv (n:Int) (m:Nat) (r:List (List C)):St:=st1 [(0,aBc n),(3,.l (.ref 0 0 m))] 1 r
def aN2 (n:Int) (m:Nat) (r:List (List C)):St:=st1 [(0,aBc n),(3,.l (.ref 0 0 m))] 1 r
def aN6:Env:=mkE [(4,[0,3])] [(45,(sg [pI,pI,pI] [rB]),aEm)]
def aNg:Env:=mkE [(4,[0,3])] [(96,(sg [pI] [rB]),aDo)]
def bNj (b:List UInt8) (at':Nat):Nat→Nat→Nat→Option (Nat×Nat)
 |0,_,_=>none
 |f+1,k,n=>if at'+k<b.length then
   if (b.getD (at'+k) 0).toNat<128 then
    if (k>0∧(b.getD (at'+k) 0).toNat=0)∨1000000000<n+(b.getD (at'+k) 0).toNat*128^k then none else some (n+(b.getD (at'+k) 0).toNat*128^k,at'+k+1)
   else bNj b at' f (k+1) (n+((b.getD (at'+k) 0).toNat-128)*128^k)
  else none
def aJa (b:List UInt8) (at':Int):Option (Nat×Nat):=if 0≤at' then bNj b at'.toNat 5 0 0 else none
def bL2 (b:List UInt8) (at':Int):Bool:=(aJa b at').isSome
def rvN (b:List UInt8) (at':Int):Int:=match aJa b at' with | some p=>p.1 | none=>0
def aCp (b:List UInt8) (at':Int):Int:=match aJa b at' with | some p=>p.2 | none=>0
def aGj:aCh:=fun cs=>match cs with
 |[.str b,.int .i64 a]=>some (decide (b.length≤281474976710656)&&(decide (-9223372036854775808≤a)&&decide (a≤9223372036854775807)),[.int .i64 (rvN b a),.int .i64 (aCp b a),.bool (bL2 b a)])
 |_=>none
def aMy (b:List UInt8) (a n i:Int):St:=st0 [(0,aT0 b),(1,aBc a),(7,aBc n),(8,aBc i)]
def aN4 (b:List UInt8) (a n i:Int):St:=st0 [(0,aT0 b),(1,aBc a),(7,aBc n),(10,aBc i)]
def aNa:Env:=mkE [(5,[0,1,7,8])] [(45,(sg [pI,pI,pI] [rB]),aEm),(125,(sg [pI] [rS]),aEd)]
def aNi:Env:=mkE [(3,[0,1,7,10])] [(37,(sg [pI,pI,pI] [rB]),aEm),(96,(sg [pI] [rB]),aDo)]
end
theorem bAf (H:List Pt→Nat→St→T (List C)) (n:Int):aAm aN6 aAb (sg [pI] [rS]) Tryz.f125 H [C.int .i64 n]=(.must true (.must true (.must true (.must true (.ask (inB n 0 1000000000) (H [Pt.r,Pt.r,Pt.r,Pt.l,Pt.b] 9223372036854775808 (aMv (n) (0) ([]))) (.must true (.ret [C.str []]))))))):=by kernel_rfl
theorem bC2 (H:List Pt→Nat→St→T (List C)) (n:Int):aAm aNg aAb (sg [pI] [rS]) Tryz.f130 H [C.int .i64 n]=(.must true (.must true (.must true (.must true (.ask (inB n 0 1000000000) (H [Pt.r,Pt.r,Pt.r,Pt.l,Pt.b] 9223372036854775808 (aN2 (n) (0) ([]))) (.must true (.ret [C.str []]))))))):=by kernel_rfl
theorem aLe (H:List Pt→Nat→St→T (List C)) (n:Int) (q:Nat) (r:List (List C)) (k:Nat):aBk aN6 aAb (sg [pI] [rS]) Tryz.f125 H [Pt.r,Pt.r,Pt.r,Pt.l,Pt.b] k (aMv n q r)=(.ask (decide ((127:Int)<n)) (.must (decide (q=r.length)&&aBe (r.length+1) 1&&(decide (1=1)&&true)) (.must true (H [Pt.r,Pt.r,Pt.r,Pt.l,Pt.b] k (aMv (aJf .i64 n 7) (r.length+1) (r.append [[C.int .u8 (IntKind.u8.wrap (ior .i64 (aH8 .i64 n 127) 128))]]))))) (.must (decide (q=r.length)&&aBe (r.length+1) 1&&(decide (1=1)&&true)) (.must ((List.take (r.length+1) (r.append [[C.int .u8 (IntKind.u8.wrap n)]])).all aG4) (.must true (.ret [C.str (aBv (List.take (r.length+1) (r.append [[C.int .u8 (IntKind.u8.wrap n)]])))]))))):=by kernel_rfl
theorem aLy (H:List Pt→Nat→St→T (List C)) (n:Int) (q:Nat) (r:List (List C)) (k:Nat):aBk aNg aAb (sg [pI] [rS]) Tryz.f130 H [Pt.r,Pt.r,Pt.r,Pt.l,Pt.b] k (aN2 n q r)=(.ask (decide ((128:Int)≤n)) (.must (decide (q=r.length)&&aBe (r.length+1) 1&&(decide (1=1)&&true)) (.must true (H [Pt.r,Pt.r,Pt.r,Pt.l,Pt.b] k (aN2 (aJf .i64 n 7) (r.length+1) (r.append [[C.int .u8 (ior .u8 (IntKind.u8.wrap n) 128)]]))))) (.must (decide (q=r.length)&&aBe (r.length+1) 1&&(decide (1=1)&&true)) (.must ((List.take (r.length+1) (r.append [[C.int .u8 (IntKind.u8.wrap n)]])).all aG4) (.must true (.ret [C.str (aBv (List.take (r.length+1) (r.append [[C.int .u8 (IntKind.u8.wrap n)]])))]))))):=by kernel_rfl
theorem bAr (H:List Pt→Nat→St→T (List C)) (b:List UInt8) (a:Int):aAm aNa aAb (sg [pS,pI] [rI,rI,rB]) Tryz.f90 H [C.str b,C.int .i64 a]=(.must true (.must true (.must true (.must true (.ask (inB a 0 (↑b.length:Int)) (H [Pt.r,Pt.r,Pt.r,Pt.l,Pt.r,Pt.b] 9223372036854775808 (aMy (b) (a) ((0:Int)) ((0:Int)))) (.must true (.ret [C.int .i64 0,C.int .i64 0,C.bool false]))))))):=by kernel_rfl
theorem bC8 (H:List Pt→Nat→St→T (List C)) (b:List UInt8) (a:Int):aAm aNi aAb (sg [pS,pI] [rI,rI,rB]) Tryz.f120 H [C.str b,C.int .i64 a]=(.must true (H [Pt.r,Pt.r,Pt.l,Pt.r,Pt.b] 9223372036854775808 (aN4 (b) (a) ((0:Int)) ((0:Int))))):=by kernel_rfl
theorem aUe (H:List Pt→Nat→St→T (List C)) (b:List UInt8) (a:Int) (n:Int) (i:Int) (k:Nat):aBk aNa aAb (sg [pS,pI] [rI,rI,rB]) Tryz.f90 H [Pt.r,Pt.r,Pt.r,Pt.l,Pt.r,Pt.b] k (aMy b a n i)=(.ask (decide (i<(5:Int))) (.ask (decide (IntKind.i64.wrap (a+i)<(↑b.length:Int))) (.must (decide ((0:Int)≤IntKind.i64.wrap (a+i))&&decide (IntKind.i64.wrap (a+i)<(↑b.length:Int))) (.must (decide ((0:Int)≤IntKind.u64.wrap (IntKind.i64.wrap ((7:Int)*i)))) (.ask (decide (IntKind.i64.wrap (↑(b.getD (IntKind.i64.wrap (a+i)).toNat (0:UInt8)).toNat:Int)<(128:Int))) (.must true (.must true (.must true (.ask (aBp (ior .i64 n (aS6 .i64 (aH8 .i64 (IntKind.i64.wrap (↑(b.getD (IntKind.i64.wrap (a+i)).toNat (0:UInt8)).toNat:Int)) (127:Int)) (IntKind.u64.wrap (IntKind.i64.wrap ((7:Int)*i)))))==[]) (.must true (.ret [C.int .i64 0,C.int .i64 0,C.bool false])) (.must (decide ((0:Int)≤IntKind.i64.wrap (IntKind.i64.wrap (a+i)+(1:Int)))&&decide (IntKind.i64.wrap (IntKind.i64.wrap (a+i)+(1:Int))≤(↑b.length:Int))&&(decide ((0:Int)≤a)&&decide (a≤IntKind.i64.wrap (IntKind.i64.wrap (a+i)+(1:Int))))) (.ask (!aBp (ior .i64 n (aS6 .i64 (aH8 .i64 (IntKind.i64.wrap (↑(b.getD (IntKind.i64.wrap (a+i)).toNat (0:UInt8)).toNat:Int)) (127:Int)) (IntKind.u64.wrap (IntKind.i64.wrap ((7:Int)*i)))))==List.drop a.toNat (List.take (IntKind.i64.wrap (IntKind.i64.wrap (a+i)+(1:Int))).toNat b)) (.must true (.ret [C.int .i64 0,C.int .i64 0,C.bool false])) (.must true (.ret [C.int .i64 (ior .i64 n (aS6 .i64 (aH8 .i64 (IntKind.i64.wrap (↑(b.getD (IntKind.i64.wrap (a+i)).toNat (0:UInt8)).toNat:Int)) (127:Int)) (IntKind.u64.wrap (IntKind.i64.wrap ((7:Int)*i))))),C.int .i64 (IntKind.i64.wrap (IntKind.i64.wrap (a+i)+(1:Int))),C.bool true])))))))) (H [Pt.r,Pt.r,Pt.r,Pt.l,Pt.r,Pt.b] k (aMy (b) (a) (ior .i64 n (aS6 .i64 (aH8 .i64 (IntKind.i64.wrap (↑(b.getD (IntKind.i64.wrap (a+i)).toNat (0:UInt8)).toNat:Int)) (127:Int)) (IntKind.u64.wrap (IntKind.i64.wrap ((7:Int)*i))))) (IntKind.i64.wrap (i+(1:Int)))))))) (.must true (.ret [C.int .i64 0,C.int .i64 0,C.bool false]))) (.must true (.ret [C.int .i64 0,C.int .i64 0,C.bool false]))):=by kernel_rfl
theorem aM0 (H:List Pt→Nat→St→T (List C)) (b:List UInt8) (a:Int) (n:Int) (i:Int) (k:Nat):aBk aNi aAb (sg [pS,pI] [rI,rI,rB]) Tryz.f120 H [Pt.r,Pt.r,Pt.l,Pt.r,Pt.b] k (aN4 b a n i)=(.ask (decide (i<(5:Int))) (.must true (.must true (.must true (.ask (inB a 0 (IntKind.i64.wrap (IntKind.i64.wrap ((↑b.length:Int)-(1:Int))-i))) (.must (decide ((0:Int)≤IntKind.i64.wrap (a+i))&&decide (IntKind.i64.wrap (a+i)<(↑b.length:Int))) (.must (decide ((0:Int)≤IntKind.i64.wrap ((7:Int)*i))) (.ask (decide ((128:Int)≤IntKind.i64.wrap (↑(b.getD (IntKind.i64.wrap (a+i)).toNat (0:UInt8)).toNat:Int))) (H [Pt.r,Pt.r,Pt.l,Pt.r,Pt.b] k (aN4 (b) (a) (ior .i64 n (aS6 .i64 (aH8 .i64 (IntKind.i64.wrap (↑(b.getD (IntKind.i64.wrap (a+i)).toNat (0:UInt8)).toNat:Int)) (127:Int)) (IntKind.i64.wrap ((7:Int)*i)))) (IntKind.i64.wrap (i+(1:Int))))) (.ask (decide ((0:Int)<i)) (.ask (decide (IntKind.i64.wrap (↑(b.getD (IntKind.i64.wrap (a+i)).toNat (0:UInt8)).toNat:Int)=(0:Int))) (.must true (.ret [C.int .i64 0,C.int .i64 0,C.bool false])) (.must true (.must true (.must true (.ask (inB (ior .i64 n (aS6 .i64 (aH8 .i64 (IntKind.i64.wrap (↑(b.getD (IntKind.i64.wrap (a+i)).toNat (0:UInt8)).toNat:Int)) (127:Int)) (IntKind.i64.wrap ((7:Int)*i)))) (0:Int) (1000000000:Int)) (.must true (.ret [C.int .i64 (ior .i64 n (aS6 .i64 (aH8 .i64 (IntKind.i64.wrap (↑(b.getD (IntKind.i64.wrap (a+i)).toNat (0:UInt8)).toNat:Int)) (127:Int)) (IntKind.i64.wrap ((7:Int)*i)))),C.int .i64 (IntKind.i64.wrap (IntKind.i64.wrap (a+i)+(1:Int))),C.bool true])) (.must true (.ret [C.int .i64 0,C.int .i64 0,C.bool false]))))))) (.must true (.must true (.must true (.ask (inB (ior .i64 n (aS6 .i64 (aH8 .i64 (IntKind.i64.wrap (↑(b.getD (IntKind.i64.wrap (a+i)).toNat (0:UInt8)).toNat:Int)) (127:Int)) (IntKind.i64.wrap ((7:Int)*i)))) (0:Int) (1000000000:Int)) (.must true (.ret [C.int .i64 (ior .i64 n (aS6 .i64 (aH8 .i64 (IntKind.i64.wrap (↑(b.getD (IntKind.i64.wrap (a+i)).toNat (0:UInt8)).toNat:Int)) (127:Int)) (IntKind.i64.wrap ((7:Int)*i)))),C.int .i64 (IntKind.i64.wrap (IntKind.i64.wrap (a+i)+(1:Int))),C.bool true])) (.must true (.ret [C.int .i64 0,C.int .i64 0,C.bool false])))))))))) (.must true (.ret [C.int .i64 0,C.int .i64 0,C.bool false])))))) (.must true (.ret [C.int .i64 0,C.int .i64 0,C.bool false]))):=by kernel_rfl
theorem bJo (s:Int):aH8 .i64 s 127=s % 128:=by
 show IntKind.i64.wrap (((BitVec.ofInt 64 s&&&BitVec.ofInt 64 127).toNat:Nat):Int)=_
 rw[BitVec.toNat_and]
 have h1:(BitVec.ofInt 64 127).toNat=2^7-1:=by decide
 have h2:(BitVec.ofInt 64 s).toNat=(s % 18446744073709551616).toNat:=by simp[BitVec.toNat_ofInt]
 rw[h1,h2,Nat.and_two_pow_sub_one_eq_mod,aAi]<;>omega
theorem bQz:∀ x:Fin 256,x.val|||128=x.val % 128+128:=by decide +kernel
theorem bLd (n:Nat):ior .u8 (IntKind.u8.wrap (n:Int)) 128=((n % 128+128:Nat):Int):=by
 rw[aQw]
 show IntKind.u8.wrap (((BitVec.ofInt 8 ((n:Int) % 256)|||BitVec.ofInt 8 128).toNat:Nat):Int)=_
 rw[BitVec.toNat_or]
 have h1:(BitVec.ofInt 8 128).toNat=128:=by decide
 have h2:(BitVec.ofInt 8 ((n:Int) % 256)).toNat=n % 256:=by simp[BitVec.toNat_ofInt];omega
 have h3:=bQz ⟨n % 256,by omega⟩
 simp only[]at h3
 rw[h1,h2,h3,aOy]<;>omega
theorem bG3 (n:Nat):IntKind.u8.wrap (ior .i64 ((n % 128:Nat):Int) 128)=((n % 128+128:Nat):Int):=by
 have:=aQ3 (n % 128) 1 7 (by omega) (by omega) ((n % 128:Nat):Int) 128 (by omega) (by omega)
 rw[this,aAi (by omega) (by omega),aOy]<;>omega
theorem aDm (f n:Nat) (h:n<128):aD6 (f+1) n=[UInt8.ofNat n]:=by simp[aD6,h]
theorem aFq (f n:Nat) (h:¬n<128):aD6 (f+1) n=UInt8.ofNat (n % 128+128)::aD6 f (n / 128):=by simp[aD6,h]
theorem bAg:∀ (f n m:Nat) (l:List UInt8),n<128^(f+1)→n≤1000000000→l.length≤100-f→f≤100→f<m →
  (aBn aN6 aAb (sg [pI] [rS]) Tryz.f125 [.r,.r,.r,.l,.b] m (aMv n l.length (aAc l))).eval=some [.str (l++aD6 (f+1) n)]:=by
 intro f
 induction f with
 |zero =>
  intro n m l h1 hn h2 h3 h4
  cases m with
  |zero=>omega
  |succ m =>
   rw[aAz _ _ _ _ _ _ _ (by kernel_rfl),aLe]
   have c:¬((127:Int)<(n:Int)):=by omega
   have hr:aBe (l.length+1) 1=true:=by simp only[aBe,decide_eq_true_eq];omega
   have u:IntKind.u8.wrap (n:Int)=(n:Nat):=by rw[aOy]<;>omega
   have tk:(aAc (l++[UInt8.ofNat n])).take (l.length+1)=aAc (l++[UInt8.ofNat n]):=List.take_of_length_le (by rw[aBh];simp)
   simp only[aA2,aA4,aA3,if_true,decide_eq_true_eq,Bool.and_eq_true,c,if_false,aBh,hr,and_self,u,aGi l n (by omega),tk,aE3,aGu,aDm 0 n (by omega)]
 |succ f ih =>
  intro n m l h1 hn h2 h3 h4
  cases m with
  |zero=>omega
  |succ m =>
   rw[aAz _ _ _ _ _ _ _ (by kernel_rfl),aLe]
   have hr:aBe (l.length+1) 1=true:=by simp only[aBe,decide_eq_true_eq];omega
   by_cases hc:n<128
   ·have c:¬((127:Int)<(n:Int)):=by omega
    have u:IntKind.u8.wrap (n:Int)=(n:Nat):=by rw[aOy]<;>omega
    have tk:(aAc (l++[UInt8.ofNat n])).take (l.length+1)=aAc (l++[UInt8.ofNat n]):=List.take_of_length_le (by rw[aBh];simp)
    simp only[aA2,aA4,aA3,if_true,decide_eq_true_eq,Bool.and_eq_true,c,if_false,aBh,hr,and_self,u,aGi l n (by omega),tk,aE3,aGu,aDm _ n hc]
   ·have c:(127:Int)<(n:Int):=by omega
    have d:aJf .i64 (n:Int) 7=((n / 128:Nat):Int):=aI3 n 7 (by omega)
    have i1:aH8 .i64 (n:Int) 127=((n % 128:Nat):Int):=by rw[bJo];omega
    have e:=ih (n / 128) m (l++[UInt8.ofNat (n % 128+128)]) (by rw[Nat.pow_succ]at h1;exact Nat.div_lt_of_lt_mul (by omega)) (by omega) (by simp;omega) (by omega) (by omega)
    rw[aFq _ n hc]
    simp only[aA2,aA4,aA3,if_true,decide_eq_true_eq,Bool.and_eq_true,c,aBh,hr,and_self,d,i1,bG3,bLd,aGi l (n % 128+128) (by omega)]
    rw[List.length_append,List.append_assoc]at e
    exact e
theorem bMh:aA9 Tryz.prog aN6:=aA8 (by simp[aDg])
theorem aJ6:aB0 Tryz.prog 125 (sg [pI] [rS]) aEd:=aA6 bMh aAa Tryz.func125 (by kernel_rfl) fun cs outs hk h=>by
 unfold aEd at h
 split at h
 ·simp only[Option.some.injEq,Prod.mk.injEq,true_and]at h
  rename_i n
  rw[←h,aAd,bAf]
  by_cases hn:inB n 0 1000000000=true
  ·have hn':=(aBr _ _ _).1 hn
   obtain⟨n,rfl⟩:=Int.eq_ofNat_of_zero_le hn'.1
   have lp:=bAg 4 n 9223372036854775808 [] (by omega) (by omega) (by simp) (by omega) (by omega)
   simp only[aA2,aA4,if_true,hn,aBp,Int.toNat_natCast]
   exact lp
  ·simp[aA2,aA4,aA3,hn,aBp]
 ·cases h
theorem bC3:∀ (f n m:Nat) (l:List UInt8),n<128^(f+1)→n≤1000000000→l.length≤100-f→f≤100→f<m →
  (aBn aNg aAb (sg [pI] [rS]) Tryz.f130 [.r,.r,.r,.l,.b] m (aN2 n l.length (aAc l))).eval=some [.str (l++aD6 (f+1) n)]:=by
 intro f
 induction f with
 |zero =>
  intro n m l h1 hn h2 h3 h4
  cases m with
  |zero=>omega
  |succ m =>
   rw[aAz _ _ _ _ _ _ _ (by kernel_rfl),aLy]
   have c:¬((128:Int)≤(n:Int)):=by omega
   have hr:aBe (l.length+1) 1=true:=by simp only[aBe,decide_eq_true_eq];omega
   have u:IntKind.u8.wrap (n:Int)=(n:Nat):=by rw[aOy]<;>omega
   have tk:(aAc (l++[UInt8.ofNat n])).take (l.length+1)=aAc (l++[UInt8.ofNat n]):=List.take_of_length_le (by rw[aBh];simp)
   simp only[aA2,aA4,aA3,if_true,decide_eq_true_eq,Bool.and_eq_true,c,if_false,aBh,hr,and_self,u,aGi l n (by omega),tk,aE3,aGu,aDm 0 n (by omega)]
 |succ f ih =>
  intro n m l h1 hn h2 h3 h4
  cases m with
  |zero=>omega
  |succ m =>
   rw[aAz _ _ _ _ _ _ _ (by kernel_rfl),aLy]
   have hr:aBe (l.length+1) 1=true:=by simp only[aBe,decide_eq_true_eq];omega
   by_cases hc:n<128
   ·have c:¬((128:Int)≤(n:Int)):=by omega
    have u:IntKind.u8.wrap (n:Int)=(n:Nat):=by rw[aOy]<;>omega
    have tk:(aAc (l++[UInt8.ofNat n])).take (l.length+1)=aAc (l++[UInt8.ofNat n]):=List.take_of_length_le (by rw[aBh];simp)
    simp only[aA2,aA4,aA3,if_true,decide_eq_true_eq,Bool.and_eq_true,c,if_false,aBh,hr,and_self,u,aGi l n (by omega),tk,aE3,aGu,aDm _ n hc]
   ·have c:(128:Int)≤(n:Int):=by omega
    have d:aJf .i64 (n:Int) 7=((n / 128:Nat):Int):=aI3 n 7 (by omega)
    have i1:aH8 .i64 (n:Int) 127=((n % 128:Nat):Int):=by rw[bJo];omega
    have e:=ih (n / 128) m (l++[UInt8.ofNat (n % 128+128)]) (by rw[Nat.pow_succ]at h1;exact Nat.div_lt_of_lt_mul (by omega)) (by omega) (by simp;omega) (by omega) (by omega)
    rw[aFq _ n hc]
    simp only[aA2,aA4,aA3,if_true,decide_eq_true_eq,Bool.and_eq_true,c,aBh,hr,and_self,d,i1,bG3,bLd,aGi l (n % 128+128) (by omega)]
    rw[List.length_append,List.append_assoc]at e
    exact e
theorem bOb:aA9 Tryz.prog aNg:=aA8 (by simp[aDk])
theorem aY3:aB0 Tryz.prog 130 (sg [pI] [rS]) aEd:=aA6 bOb aAa Tryz.func130 (by kernel_rfl) fun cs outs hk h=>by
 unfold aEd at h
 split at h
 ·simp only[Option.some.injEq,Prod.mk.injEq,true_and]at h
  rename_i n
  rw[←h,aAd,bC2]
  by_cases hn:inB n 0 1000000000=true
  ·have hn':=(aBr _ _ _).1 hn
   obtain⟨n,rfl⟩:=Int.eq_ofNat_of_zero_le hn'.1
   have lp:=bC3 4 n 9223372036854775808 [] (by omega) (by omega) (by simp) (by omega) (by omega)
   simp only[aA2,aA4,if_true,hn,aBp,Int.toNat_natCast]
   exact lp
  ·simp[aA2,aA4,aA3,hn,aBp]
 ·cases h
def aP1:List UInt8→Nat→Nat
 |[],x=>x
 |c::cs,x=>(c.toNat-128)+128*aP1 cs x
def bIw:Option (Nat×Nat)→List C
 |some p=>[.int .i64 p.1,.int .i64 p.2,.bool true]
 |none=>[.int .i64 0,.int .i64 0,.bool false]
theorem aT1:∀ (cs:List UInt8) (x:Nat),aP1 cs x=aP1 cs 0+x*128^cs.length
 |[],x=>by simp[aP1]
 |c::cs,x=>by
  have:=aT1 cs x
  simp only[aP1,List.length_cons,Nat.pow_succ,this]
  rw[Nat.mul_add,←Nat.add_assoc,Nat.mul_left_comm,Nat.mul_comm 128 (128^cs.length)]
theorem bDo:∀ (cs:List UInt8) (c:UInt8) (x:Nat),aP1 (cs++[c]) x=aP1 cs (c.toNat-128+128*x)
 |[],c,x=>by simp[aP1]
 |d::cs,c,x=>by simp only[List.cons_append,aP1,bDo cs c x]
theorem bP6:∀ (cs:List UInt8),aP1 cs 0<128^cs.length
 |[]=>by simp[aP1]
 |c::cs=>by
  have:=bP6 cs
  have hc:=c.toNat_lt
  simp only[aP1,List.length_cons,Nat.pow_succ]
  omega
theorem aP0:∀ (cs:List UInt8) (x f:Nat),(∀ c,c∈cs→128≤c.toNat)→x<128→(cs=[]∨0<x)→cs.length<f→aD6 f (aP1 cs x)=cs++[UInt8.ofNat x]
 |[],x,f,_,hx,_,hf=>by
  obtain⟨g,rfl⟩:∃ g,f=g+1:=⟨f-1,by simp at hf;omega⟩
  exact aDm g x hx
 |c::cs,x,f,hc,hx,h0,hf=>by
  obtain⟨g,rfl⟩:∃ g,f=g+1:=⟨f-1,by simp at hf;omega⟩
  have hx0:0<x:=by rcases h0 with h | h;cases h;exact h
  have c1:=hc c List.mem_cons_self
  have c2:=c.toNat_lt
  have hv:0<aP1 cs x:=by
   rw[aT1]
   have:0<128^cs.length:=Nat.pow_pos (by omega)
   have:0<x*128^cs.length:=Nat.mul_pos hx0 this
   omega
  have e1:((c.toNat-128)+128*aP1 cs x) % 128+128=c.toNat:=by omega
  have e2:((c.toNat-128)+128*aP1 cs x) / 128=aP1 cs x:=by omega
  simp only[aP1]
  rw[aFq g _ (by omega),e1,e2,aP0 cs x g (fun d hd=>hc d (List.mem_cons_of_mem _ hd)) hx (.inr hx0) (by simp at hf;omega)]
  simp
theorem aRz:∀ (f n:Nat) (l:List UInt8),1≤n→aD6 f n≠l++[0]
 |0,n,l,_=>by simp[aD6]
 |f+1,n,l,hn=>by
  by_cases h:n<128
  ·rw[aDm f n h]
   intro e
   cases l with
   |nil =>
    simp at e
    have:=congrArg UInt8.toNat e
    rw[UInt8.toNat_ofNat_of_lt' (by show n<256;omega)]at this
    have h0:(0:UInt8).toNat=0:=rfl
    omega
   |cons a l=>simp at e
  ·rw[aFq f n h]
   intro e
   cases l with
   |nil =>
    rw[List.nil_append,List.cons.injEq]at e
    have h1:=congrArg UInt8.toNat e.1
    rw[UInt8.toNat_ofNat_of_lt' (by show n % 128+128<256;omega)]at h1
    have h0:(0:UInt8).toNat=0:=rfl
    omega
   |cons a l =>
    simp at e
    exact aRz f (n / 128) l (by omega) e.2
theorem bQ7 (b:List UInt8) (a:Int):[C.int .i64 (rvN b a),C.int .i64 (aCp b a),C.bool (bL2 b a)]=bIw (aJa b a):=by
 unfold rvN aCp bL2
 cases aJa b a with
 |none=>rfl
 |some p=>rfl
theorem bRl (n x i:Nat) (hn:n<128^i) (hx:x<256) (hi:i<5):ior .i64 (n:Int) (aS6 .i64 (aH8 .i64 (x:Int) 127) ((7*i:Nat):Int))=((n+x % 128*128^i:Nat):Int):=by
 have hp:(2:Nat)^(7*i)=128^i:=by rw[Nat.pow_mul]
 have hq:128^i≤128^4:=Nat.pow_le_pow_right (by omega) (by omega)
 have hm:=aRi (aH8 .i64 (x:Int) 127) (7*i) (by omega)
 have i1:aH8 .i64 (x:Int) 127=((x % 128:Nat):Int):=by rw[bJo];omega
 have hmul:x % 128*128^i≤127*128^i:=Nat.mul_le_mul_right _ (by omega)
 rw[i1]at hm ⊢
 have hp2:((x % 128:Nat):Int)*2^(7*i)=((x % 128*128^i:Nat):Int):=by rw[←hp];simp
 rw[hp2]at hm
 have:=aQ3 n (x % 128) (7*i) (by rw[hp];exact hn) (by rw[hp];omega) (n:Int) (aS6 .i64 ((x % 128:Nat):Int) ((7*i:Nat):Int)) (by omega) (by rw[hm,hp];omega)
 rw[this,hp,aAi (by omega) (by omega)]
theorem bC9 (b:List UInt8) (a:Nat) (hb:b.length≤281474976710656) (ha:a≤9223372036854775807):∀ (m i n:Nat),i≤5→5<i+m→n<128^i →
  (aBn aNi aAb (sg [pS,pI] [rI,rI,rB]) Tryz.f120 [.r,.r,.l,.r,.b] m (aN4 b a n i)).eval=some (bIw (bNj b a (5-i) i n)):=by
 intro m
 induction m with
 |zero=>intro i n h1 h2 h3;omega
 |succ m ih =>
  intro i n h1 h2 h3
  rw[aAz _ _ _ _ _ _ _ (by kernel_rfl),aM0]
  by_cases hi:i<5
  ·have hs:5-i=(5-(i+1))+1:=by omega
   have w1:IntKind.i64.wrap (IntKind.i64.wrap ((b.length:Int)-1)-i)=(b.length:Int)-1-i:=by
    rw[aAi (x:=(b.length:Int)-1) (by omega) (by omega),aAi (by omega) (by omega)]
   have w2:IntKind.i64.wrap ((i:Int)+1)=((i+1:Nat):Int):=by rw[aAi]<;>omega
   have hi':(i:Int)<5:=by omega
   rw[hs]
   simp only[bNj]
   by_cases hl:a+i<b.length
   ·have hin:inB (a:Int) 0 ((b.length:Int)-1-i)=true:=(aBr _ _ _).2 ⟨by omega,by omega⟩
    have w3:IntKind.i64.wrap ((a:Int)+i)=((a+i:Nat):Int):=by rw[aAi]<;>omega
    have w4:IntKind.i64.wrap (7*(i:Int))=((7*i:Nat):Int):=by rw[aAi]<;>omega
    have z1:(0:Int)≤((a+i:Nat):Int):=by omega
    have z2:(0:Int)≤((7*i:Nat):Int):=by omega
    have hx:=aHp b (a+i)
    have w5:IntKind.i64.wrap ((b.getD (a+i) 0).toNat:Int)=((b.getD (a+i) 0).toNat:Int):=by rw[aAi]<;>omega
    have w6:IntKind.i64.wrap (((a+i:Nat):Int)+1)=((a+i+1:Nat):Int):=by rw[aAi]<;>omega
    have ho:=bRl n _ i h3 hx hi
    simp only[aA2,aA4,aA3,if_true,decide_eq_true_eq,Bool.and_eq_true,hi',w1,w2,w3,w4,w5,w6,hin,z1,z2,hl,Int.toNat_natCast,Int.ofNat_lt,and_self,ho]
    generalize (b.getD (a+i) 0).toNat=x at *
    have hpow:(0:Nat)<128^i:=Nat.pow_pos (by omega)
    by_cases hc:128≤x
    ·have hm:x % 128=x-128:=by omega
     have e:=ih (i+1) (n+(x-128)*128^i) (by omega) (by omega) (by
      have:(x-128)*128^i≤127*128^i:=Nat.mul_le_mul_right _ (by omega)
      rw[Nat.pow_succ];omega)
     rw[if_pos (show (128:Int)≤(x:Int) by omega),if_neg (show ¬x<128 by omega),hm]
     exact e
    ·have hm:x % 128=x:=by omega
     rw[if_neg (show ¬(128:Int)≤(x:Int) by omega),if_pos (show x<128 by omega),hm]
     by_cases h0:0<i∧x=0
     ·have hip:((0:Int)<i)=True:=eq_true (by omega)
      have hx0:((x:Int)=0)=True:=eq_true (by omega)
      simp only[hip,hx0,if_true]
      rw[if_pos (c:=(i>0∧x=0∨_)) (.inl ⟨h0.1,h0.2⟩)]
      rfl
     ·have hinn:inB ((n+x*128^i:Nat):Int) 0 1000000000=true↔¬1000000000<n+x*128^i:=by rw[aBr];omega
      have fin:(if inB ((n+x*128^i:Nat):Int) 0 1000000000=true then some [C.int .i64 ((n+x*128^i:Nat):Int),C.int .i64 ((a+i+1:Nat):Int),C.bool true]else some [C.int .i64 0,C.int .i64 0,C.bool false])=some (bIw (if i>0∧x=0∨1000000000<n+x*128^i then none else some (n+x*128^i,a+i+1))):=by
       by_cases hg:1000000000<n+x*128^i
       ·rw[if_neg (fun h=>(hinn.1 h) hg),if_pos (.inr hg)];rfl
       ·rw[if_pos (hinn.2 hg),if_neg (by omega)];rfl
      by_cases hip:(0:Int)<i
      ·have hx0:¬((x:Int)=0):=by omega
       rw[if_pos hip,if_neg hx0]
       exact fin
      ·rw[if_neg hip]
       exact fin
   ·have hin:¬(inB (a:Int) 0 ((b.length:Int)-1-i)=true):=fun h=>by have:=(aBr _ _ _).1 h;omega
    simp only[aA2,aA4,aA3,if_true,decide_eq_true_eq,hi',w1,hin,hl,if_false]
    rfl
  ·have:i=5:=by omega
   subst this
   simp[aA2,aA4,aA3,bNj,bIw]
theorem bOd:aA9 Tryz.prog aNi:=aA8 (by simp[aJo,aDk])
theorem aY6:aB0 Tryz.prog 120 (sg [pS,pI] [rI,rI,rB]) aGj:=aA6 bOd aAa Tryz.func120 (by kernel_rfl) fun cs outs hk h=>by
 unfold aGj at h
 split at h
 ·simp only[Option.some.injEq,Prod.mk.injEq,Bool.and_eq_true,decide_eq_true_eq]at h
  obtain⟨⟨h1,h2,h3⟩,rfl⟩:=h
  rename_i b a
  rw[aAd,bC8,bQ7]
  simp only[aA2,if_true]
  by_cases ha:0≤a
  ·obtain⟨a,rfl⟩:=Int.eq_ofNat_of_zero_le ha
   have:=bC9 b a h1 (by omega) 9223372036854775808 0 0 (by omega) (by omega) (by omega)
   simp only[aJa,ha,if_true,Int.toNat_natCast]
   exact this
  ·rw[aAz _ _ _ _ _ 9223372036854775807 _ (by kernel_rfl),aM0]
   have hin:¬(inB a 0 (IntKind.i64.wrap (IntKind.i64.wrap ((b.length:Int)-1)-0))=true):=fun h=>by have:=(aBr _ _ _).1 h;omega
   simp only[aA2,aA4,aA3,if_true,hin,aJa,ha,if_false,decide_eq_true_eq]
   rfl
 ·cases h
theorem bAs (b:List UInt8) (a:Nat) (hb:b.length≤281474976710656) (ha:a≤b.length):∀ (m i:Nat),i≤5→5<i+m→a+i≤b.length→(∀ c,c∈(b.drop a).take i→128≤c.toNat) →
  (aBn aNa aAb (sg [pS,pI] [rI,rI,rB]) Tryz.f90 [.r,.r,.r,.l,.r,.b] m (aMy b a (aP1 ((b.drop a).take i) 0:Nat) i)).eval=some (bIw (bNj b a (5-i) i (aP1 ((b.drop a).take i) 0))):=by
 intro m
 induction m with
 |zero=>intro i h1 h2 h3 h4;omega
 |succ m ih =>
  intro i h1 h2 h3 h4
  rw[aAz _ _ _ _ _ _ _ (by kernel_rfl),aUe]
  by_cases hi:i<5
  ·have hs:5-i=(5-(i+1))+1:=by omega
   have w2:IntKind.i64.wrap ((i:Int)+1)=((i+1:Nat):Int):=by rw[aAi]<;>omega
   have w3:IntKind.i64.wrap ((a:Int)+i)=((a+i:Nat):Int):=by rw[aAi]<;>omega
   have hi':(i:Int)<5:=by omega
   have hlen:((b.drop a).take i).length=i:=by simp;omega
   rw[hs]
   simp only[bNj]
   by_cases hl:a+i<b.length
   ·have w4:IntKind.i64.wrap (7*(i:Int))=((7*i:Nat):Int):=by rw[aAi]<;>omega
    have w4u:IntKind.u64.wrap ((7*i:Nat):Int)=((7*i:Nat):Int):=by rw[bA3]<;>omega
    have z1:(0:Int)≤((a+i:Nat):Int):=by omega
    have z2:(0:Int)≤((7*i:Nat):Int):=by omega
    have hx:=aHp b (a+i)
    have w5:IntKind.i64.wrap ((b.getD (a+i) 0).toNat:Int)=((b.getD (a+i) 0).toNat:Int):=by rw[aAi]<;>omega
    have w6:IntKind.i64.wrap (((a+i:Nat):Int)+1)=((a+i+1:Nat):Int):=by rw[aAi]<;>omega
    have hlt:=bP6 ((b.drop a).take i)
    rw[hlen]at hlt
    have ho:=bRl _ _ i hlt hx hi
    have ee:(b.drop a).take (i+1)=(b.drop a).take i++[b.getD (a+i) 0]:=by
     rw[List.take_add_one]
     simp[List.getElem?_drop,List.getD_eq_getElem?_getD,hl]
    have ed:(b.take (a+i+1)).drop a=(b.drop a).take i++[b.getD (a+i) 0]:=by
     rw[←ee,List.take_drop]
     first | rfl | (congr 2;omega)
    have z3:((a+i+1:Nat):Int)≤(b.length:Int):=by omega
    have z4:(0:Int)≤((a+i+1:Nat):Int):=by omega
    have z5:(a:Int)≤((a+i+1:Nat):Int):=by omega
    have z6:(0:Int)≤(a:Int):=by omega
    have hl':((a+i:Nat):Int)<(b.length:Int):=by omega
    simp only[aA2,aA4,aA3,if_true,decide_eq_true_eq,Bool.and_eq_true,hi',w2,w3,w4,w4u,w5,w6,z1,z2,z3,z4,z5,z6,hl,hl',Int.toNat_natCast,and_self,ho,ed]
    by_cases hc:(b.getD (a+i) 0).toNat<128
    ·have hm:(b.getD (a+i) 0).toNat % 128=(b.getD (a+i) 0).toNat:=by omega
     have hlin:=aT1 ((b.drop a).take i) (b.getD (a+i) 0).toNat
     rw[hlen]at hlin
     rw[if_pos (by omega),if_pos hc,hm,←hlin]
     have hvb:=aP0 ((b.drop a).take i) (b.getD (a+i) 0).toNat 5 h4 hc
     have hof:UInt8.ofNat (b.getD (a+i) 0).toNat=b.getD (a+i) 0:=by simp
     rw[hof,hlen]at hvb
     by_cases hg:1000000000<aP1 ((b.drop a).take i) (b.getD (a+i) 0).toNat
     ·have hvt:aBp ((aP1 ((b.drop a).take i) (b.getD (a+i) 0).toNat:Nat):Int)=[]:=by
       unfold aBp;rw[if_neg];intro h;have:=(aBr _ _ _).1 h;omega
      rw[hvt,if_pos (by rfl),if_pos (.inr hg)]
      rfl
     ·have hvt:aBp ((aP1 ((b.drop a).take i) (b.getD (a+i) 0).toNat:Nat):Int)=aD6 5 (aP1 ((b.drop a).take i) (b.getD (a+i) 0).toNat):=by
       unfold aBp;rw[if_pos ((aBr _ _ _).2 ⟨by omega,by omega⟩),Int.toNat_natCast]
      rw[hvt]
      by_cases h0:0<i∧(b.getD (a+i) 0).toNat=0
      ·rw[if_pos (c:=(i>0∧(b.getD (a+i) 0).toNat=0∨_)) (.inl ⟨h0.1,h0.2⟩)]
       have hb0:b.getD (a+i) 0=0:=by have:=h0.2;exact UInt8.toNat_inj.1 (by simpa using this)
       have hne:aD6 5 (aP1 ((b.drop a).take i) (b.getD (a+i) 0).toNat)≠(b.drop a).take i++[b.getD (a+i) 0]:=by
        rw[hb0]
        by_cases hv:1≤aP1 ((b.drop a).take i) (0:UInt8).toNat
        ·exact aRz 5 _ _ hv
        ·have:aP1 ((b.drop a).take i) (0:UInt8).toNat=0:=by omega
         rw[this]
         intro e
         have:=congrArg List.length e
         rw[aDm 4 0 (by omega)]at this
         simp at this
         omega
       have hb1:(aD6 5 (aP1 ((b.drop a).take i) (b.getD (a+i) 0).toNat)==(b.drop a).take i++[b.getD (a+i) 0])=false:=by simpa using hne
       rw[hb1]
       split<;>rfl
      ·have hvb2:=hvb (by
        by_cases h:i=0
        ·left;exact List.length_eq_zero_iff.1 (by rw[hlen];exact h)
        ·right;omega) (by omega)
       rw[hvb2]
       have hnil:((b.drop a).take i++[b.getD (a+i) 0]==([]:List UInt8))=false:=by
        rw[beq_eq_false_iff_ne];simp
       have hcond:¬(i>0∧(b.getD (a+i) 0).toNat=0∨1000000000<aP1 ((b.drop a).take i) (b.getD (a+i) 0).toNat):=by omega
       rw[hnil,if_neg hcond]
       simp[bIw]
    ·have hm:(b.getD (a+i) 0).toNat % 128=(b.getD (a+i) 0).toNat-128:=by omega
     have hsn:=bDo ((b.drop a).take i) (b.getD (a+i) 0) 0
     rw[Nat.mul_zero,Nat.add_zero,aT1 ((b.drop a).take i) ((b.getD (a+i) 0).toNat-128),hlen]at hsn
     have e:=ih (i+1) (by omega) (by omega) (by omega) (by
      rw[ee]
      intro c hcm
      rcases List.mem_append.1 hcm with h | h
      ·exact h4 c h
      ·have:c=b.getD (a+i) 0:=by simpa using h
       rw[this];omega)
     rw[ee,hsn]at e
     rw[if_neg (by omega),if_neg hc,hm]
     exact e
   ·have hl':¬(((a+i:Nat):Int)<(b.length:Int)):=by omega
    simp only[aA2,aA4,aA3,if_true,decide_eq_true_eq,hi',w3,hl',hl,if_false]
    rfl
  ·have:i=5:=by omega
   subst this
   simp[aA2,aA4,aA3,bNj,bIw]
theorem bMx:aA9 Tryz.prog aNa:=aA8 (by simp[aDg,aJ6])
theorem aXf:aB0 Tryz.prog 90 (sg [pS,pI] [rI,rI,rB]) aGj:=aA6 bMx aAa Tryz.func90 (by kernel_rfl) fun cs outs hk h=>by
 unfold aGj at h
 split at h
 ·simp only[Option.some.injEq,Prod.mk.injEq,Bool.and_eq_true,decide_eq_true_eq]at h
  obtain⟨⟨h1,h2,h3⟩,rfl⟩:=h
  rename_i b a
  rw[aAd,bAr,bQ7]
  by_cases hin:inB a 0 (b.length:Int)=true
  ·have ha:=(aBr _ _ _).1 hin
   obtain⟨a,rfl⟩:=Int.eq_ofNat_of_zero_le ha.1
   have:=bAs b a h1 (by omega) 9223372036854775808 0 (by omega) (by omega) (by omega) (by simp)
   simp only[aA2,aA4,if_true,hin,aJa,ha.1,Int.toNat_natCast]
   exact this
  ·simp only[aA2,aA4,aA3,if_true,hin,aJa]
   by_cases ha:0≤a
   ·have:¬(a.toNat+0<b.length):=fun h=>hin ((aBr _ _ _).2 ⟨ha,by omega⟩)
    simp only[ha,if_true,bNj,this,if_false]
    rfl
   ·simp only[ha,if_false]
    rfl
 ·cases h
noncomputable section
def aEr (b t:List UInt8):Bool:=decide (b.take t.length=t)
def aGk:aCh:=fun cs=>match cs with
 |[.str b,.str t]=>some (true,[.bool (aEr b t)])
 |_=>none
def aQp:Env:=mkE [] []
def aSg:Env:=mkE [] [(167,(sg [pS,pS] [rB]),aGk)]
def aG8 (b:List UInt8) (at':Int) (t:List UInt8):Bool:=decide (0≤at'∧at'≤b.length∧(b.drop at'.toNat).take t.length=t)
def aQ6:aCh:=fun cs=>match cs with
 |[.str b,.int .i64 a,.str t]=>some (true,[.bool (aG8 b a t)])
 |_=>none
def bMa:Env:=mkE [] [(37,(sg [pI,pI,pI] [rB]),aEm),(149,(sg [pS,pS] [rB]),aGk)]
def aFd (place n:Int):List UInt8:=aAj n 4++aAj (aB1 0 (aAj place 8++aAj n 4):Nat) 4
def aAf (v place:Int) (r:List UInt8):List UInt8 :=
 if inB v 1 2&&inB place 0 1000000000&&decide (r.length≤60)then (if v=2 then aFd place r.length else aBp r.length)++r++aAj (aB1 0 r:Nat) 4 else[]
def aBm (v place:Int):List UInt8 :=
 if inB v 1 2&&inB place 0 1000000000 then (if v=1 then[255,255,255,255,15]else aFd place 4294967295)else[]
def aL4 (v place:Int) (b:List UInt8) (a:Int):Bool:=decide (aBm v place≠[])&&aG8 b a (aBm v place)
def aPc:aCh:=fun cs=>match cs with
 |[.int .i64 p,.int .i64 n]=>some (decide (-9223372036854775808≤p)&&decide (p≤9223372036854775807)&&(decide (-9223372036854775808≤n)&&decide (n≤9223372036854775807)),[.str (aFd p n)])
 |_=>none
def aHb:aCh:=fun cs=>match cs with
 |[.int .i64 v,.int .i64 p,.str r]=>some (decide (r.length≤281474976710656),[.str (aAf v p r)])
 |_=>none
def aFh:aCh:=fun cs=>match cs with
 |[.int .i64 v,.int .i64 p]=>some (true,[.str (aBm v p)])
 |_=>none
def aI2:aCh:=fun cs=>match cs with
 |[.int .i64 v,.int .i64 p,.str b,.int .i64 a]=>some (decide (b.length≤281474976710656),[.bool (aL4 v p b a)])
 |_=>none
def bM9:Env:=mkE [] [(129,(sg [pS] [rI]),aEe),(122,(sg [pI,pI] [rS]),aGo)]
def aSh:Env:=mkE [] [(45,(sg [pI,pI,pI] [rB]),aEm),(123,(sg [pS] [rI]),aEe),(88,(sg [pI,pI] [rS]),aGo),(125,(sg [pI] [rS]),aEd)]
def aSk:Env:=mkE [] [(126,(sg [pI] [rB]),aFy),(129,(sg [pS] [rI]),aEe),(96,(sg [pI] [rB]),aDo),(122,(sg [pI,pI] [rS]),aGo),(130,(sg [pI] [rS]),aEd),(131,(sg [pI,pI] [rS]),aPc)]
def aZu:Env:=mkE [] [(45,(sg [pI,pI,pI] [rB]),aEm),(123,(sg [pS] [rI]),aEe),(88,(sg [pI,pI] [rS]),aGo)]
def aZz:Env:=mkE [] [(126,(sg [pI] [rB]),aFy),(96,(sg [pI] [rB]),aDo),(131,(sg [pI,pI] [rS]),aPc)]
def bH7:Env:=mkE [] [(45,(sg [pI,pI,pI] [rB]),aEm),(89,(sg [pI,pI] [rS]),aFh)]
def bHj:Env:=mkE [] [(119,(sg [pS,pI,pS] [rB]),aQ6),(118,(sg [pI,pI] [rS]),aFh)]
end
theorem aSn (H:List Pt→Nat→St→T (List C)) (b:List UInt8) (t:List UInt8):aAm aQp aAb (sg [pS,pS] [rB]) Tryz.f167 H [C.str b,C.str t]=(.must true (.ask (decide ((↑t.length:Int)≤(↑b.length:Int))) (.must (decide ((0:Int)≤(↑t.length:Int))&&decide ((↑t.length:Int)≤(↑b.length:Int))) (.ask (List.drop 0 (List.take (↑t.length:Int).toNat b)==t) (.must true (.ret [C.bool true])) (.must true (.ret [C.bool false])))) (.must true (.ret [C.bool false])))):=by kernel_rfl
theorem aUn (H:List Pt→Nat→St→T (List C)) (b:List UInt8) (t:List UInt8):aAm aSg aAb (sg [pS,pS] [rB]) Tryz.f149 H [C.str b,C.str t]=(.must true (.must true (.must true (.must true (.ask (aEr b t) (.must true (.ret [C.bool true])) (.must true (.ret [C.bool false]))))))):=by kernel_rfl
theorem bJz (H:List Pt→Nat→St→T (List C)) (b:List UInt8) (a:Int) (t:List UInt8):aAm bMa aAb (sg [pS,pI,pS] [rB]) Tryz.f119 H [C.str b,C.int .i64 a,C.str t]=(.must true (.must true (.must true (.must true (.ask (inB a 0 (↑b.length:Int)) (.must (decide ((0:Int)≤a)&&decide (a≤(↑b.length:Int))) (.must true (.must true (.must true (.ask (aEr (List.drop a.toNat (List.take b.length b)) t) (.must true (.ret [C.bool true])) (.must true (.ret [C.bool false]))))))) (.must true (.ret [C.bool false]))))))):=by kernel_rfl
theorem bJq (H:List Pt→Nat→St→T (List C)) (p:Int) (n:Int):aAm bM9 aAb (sg [pI,pI] [rS]) Tryz.f131 H [C.int .i64 p,C.int .i64 n]=(.must true (.must true (.must (decide ((-9223372036854775808:Int)≤n)&&decide (n≤(9223372036854775807:Int))) (.must true (.must true (.must (decide ((-9223372036854775808:Int)≤p)&&decide (p≤(9223372036854775807:Int))) (.must true (.must (decide ((aAj p 8).length+(aAj n 4).length≤9223372036854775807)) (.must true (.must (decide ((aAj p 8++aAj n 4).length≤281474976710656)) (.must true (.must true (.must (decide ((-9223372036854775808:Int)≤Int.ofNat (aB1 0 (aAj p 8++aAj n 4)))&&decide (Int.ofNat (aB1 0 (aAj p 8++aAj n 4))≤(9223372036854775807:Int))) (.must true (.must (decide ((aAj n 4).length+(aAj (Int.ofNat (aB1 0 (aAj p 8++aAj n 4))) (4:Int)).length≤9223372036854775807)) (.must true (.ret [C.str (aAj n 4++aAj (Int.ofNat (aB1 0 (aAj p 8++aAj n 4))) (4:Int))]))))))))))))))))):=by kernel_rfl
theorem aUo (H:List Pt→Nat→St→T (List C)) (v:Int) (p:Int) (r:List UInt8):aAm aSh aAb (sg [pI,pI,pS] [rS]) Tryz.f91 H [C.int .i64 v,C.int .i64 p,C.str r]=(.must true (.must true (.must true (.must true (.ask (inB v 1 2) (.must true (.must true (.must true (.ask (inB p 0 1000000000) (.ask (decide ((60:Int)<(↑r.length:Int))) (.must true (.ret [C.str []])) (.must true (.must (decide (r.length≤281474976710656)) (.must true (.must true (.must (decide ((-9223372036854775808:Int)≤Int.ofNat (aB1 0 r))&&decide (Int.ofNat (aB1 0 r)≤(9223372036854775807:Int))) (.must true (.ask (decide (v=(1:Int))) (.must true (.must true (.must true (.must (decide ((aBp (↑r.length:Int)).length+r.length≤9223372036854775807)) (.must (decide ((aBp (↑r.length:Int)++r).length+(aAj (Int.ofNat (aB1 0 r)) (4:Int)).length≤9223372036854775807)) (.must true (.ret [C.str (aBp (↑r.length:Int)++r++aAj (Int.ofNat (aB1 0 r)) (4:Int))]))))))) (.must true (.must (decide ((-9223372036854775808:Int)≤(↑r.length:Int))&&decide ((↑r.length:Int)≤(9223372036854775807:Int))) (.must true (.must true (.must (decide ((-9223372036854775808:Int)≤p)&&decide (p≤(9223372036854775807:Int))) (.must true (.must (decide ((aAj p 8).length+(aAj (↑r.length:Int) 4).length≤9223372036854775807)) (.must true (.must (decide ((aAj p 8++aAj (↑r.length:Int) 4).length≤281474976710656)) (.must true (.must true (.must (decide ((-9223372036854775808:Int)≤Int.ofNat (aB1 0 (aAj p 8++aAj (↑r.length:Int) 4)))&&decide (Int.ofNat (aB1 0 (aAj p 8++aAj (↑r.length:Int) 4))≤(9223372036854775807:Int))) (.must true (.must (decide ((aAj (↑r.length:Int) 4).length+(aAj (Int.ofNat (aB1 0 (aAj p 8++aAj (↑r.length:Int) 4))) (4:Int)).length≤9223372036854775807)) (.must (decide ((aAj (↑r.length:Int) 4++aAj (Int.ofNat (aB1 0 (aAj p 8++aAj (↑r.length:Int) 4))) (4:Int)).length+r.length≤9223372036854775807)) (.must (decide ((aAj (↑r.length:Int) 4++aAj (Int.ofNat (aB1 0 (aAj p 8++aAj (↑r.length:Int) 4))) (4:Int)++r).length+(aAj (Int.ofNat (aB1 0 r)) (4:Int)).length≤9223372036854775807)) (.must true (.ret [C.str (aAj (↑r.length:Int) 4++aAj (Int.ofNat (aB1 0 (aAj p 8++aAj (↑r.length:Int) 4))) (4:Int)++r++aAj (Int.ofNat (aB1 0 r)) (4:Int))])))))))))))))))))))))))))) (.must true (.ret [C.str []])))))) (.must true (.ret [C.str []]))))))):=by kernel_rfl
theorem aVw (H:List Pt→Nat→St→T (List C)) (v:Int) (p:Int) (r:List UInt8):aAm aSk aAb (sg [pI,pI,pS] [rS]) Tryz.f102 H [C.int .i64 v,C.int .i64 p,C.str r]=(.must true (.must true (.must true (.must true (.ask (inB v 1 2) (.must true (.must true (.must true (.ask (inB p 0 1000000000) (.ask (decide ((60:Int)<(↑r.length:Int))) (.must true (.ret [C.str []])) (.must true (.must true (.must true (.ask (decide (v=(2:Int))) (.must true (.must (decide ((-9223372036854775808:Int)≤p)&&decide (p≤(9223372036854775807:Int))&&(decide ((-9223372036854775808:Int)≤(↑r.length:Int))&&decide ((↑r.length:Int)≤(9223372036854775807:Int)))) (.must true (.must (decide ((aFd p (↑r.length:Int)).length+r.length≤9223372036854775807)) (.must true (.must (decide (r.length≤281474976710656)) (.must true (.must true (.must (decide ((-9223372036854775808:Int)≤Int.ofNat (aB1 0 r))&&decide (Int.ofNat (aB1 0 r)≤(9223372036854775807:Int))) (.must true (.must (decide ((aFd p (↑r.length:Int)++r).length+(aAj (Int.ofNat (aB1 0 r)) (4:Int)).length≤9223372036854775807)) (.must true (.ret [C.str (aFd p (↑r.length:Int)++r++aAj (Int.ofNat (aB1 0 r)) (4:Int))]))))))))))))) (.must (decide ((aBp (↑r.length:Int)).length+r.length≤9223372036854775807)) (.must true (.must (decide (r.length≤281474976710656)) (.must true (.must true (.must (decide ((-9223372036854775808:Int)≤Int.ofNat (aB1 0 r))&&decide (Int.ofNat (aB1 0 r)≤(9223372036854775807:Int))) (.must true (.must (decide ((aBp (↑r.length:Int)++r).length+(aAj (Int.ofNat (aB1 0 r)) (4:Int)).length≤9223372036854775807)) (.must true (.ret [C.str (aBp (↑r.length:Int)++r++aAj (Int.ofNat (aB1 0 r)) (4:Int))]))))))))))))))) (.must true (.ret [C.str []])))))) (.must true (.ret [C.str []]))))))):=by kernel_rfl
theorem bB9 (H:List Pt→Nat→St→T (List C)) (v:Int) (p:Int):aAm aZu aAb (sg [pI,pI] [rS]) Tryz.f89 H [C.int .i64 v,C.int .i64 p]=(.must true (.must true (.must true (.must true (.ask (inB v 1 2) (.must true (.must true (.must true (.ask (inB p 0 1000000000) (.ask (decide (v=(1:Int))) (.must true (.ret [C.str [(255:UInt8),255,255,255,15]])) (.must true (.must true (.must true (.must true (.must (decide ((-9223372036854775808:Int)≤p)&&decide (p≤(9223372036854775807:Int))) (.must true (.must (decide ((aAj p 8).length+(3+1)≤9223372036854775807)) (.must true (.must (decide ((aAj p 8++aAj 4294967295 4).length≤281474976710656)) (.must true (.must true (.must (decide ((-9223372036854775808:Int)≤Int.ofNat (aB1 0 (aAj p 8++aAj 4294967295 4)))&&decide (Int.ofNat (aB1 0 (aAj p 8++aAj 4294967295 4))≤(9223372036854775807:Int))) (.must true (.must (decide (3+1+(aAj (Int.ofNat (aB1 0 (aAj p 8++aAj 4294967295 4))) (4:Int)).length≤9223372036854775807)) (.must true (.ret [C.str (aAj 4294967295 4++aAj (Int.ofNat (aB1 0 (aAj p 8++aAj 4294967295 4))) (4:Int))]))))))))))))))))) (.must true (.ret [C.str []])))))) (.must true (.ret [C.str []]))))))):=by kernel_rfl
theorem bCk (H:List Pt→Nat→St→T (List C)) (v:Int) (p:Int):aAm aZz aAb (sg [pI,pI] [rS]) Tryz.f118 H [C.int .i64 v,C.int .i64 p]=(.must true (.must true (.must true (.must true (.ask (inB v 1 2) (.must true (.must true (.must true (.ask (inB p 0 1000000000) (.ask (decide (v=(1:Int))) (.must true (.ret [C.str [(255:UInt8),255,255,255,15]])) (.must true (.must (decide ((-9223372036854775808:Int)≤p)&&decide (p≤(9223372036854775807:Int))&&(decide ((-9223372036854775808:Int)≤(4294967295:Int))&&decide ((4294967295:Int)≤(9223372036854775807:Int)))) (.must true (.must true (.ret [C.str (aFd p 4294967295)])))))) (.must true (.ret [C.str []])))))) (.must true (.ret [C.str []]))))))):=by kernel_rfl
theorem bEe (H:List Pt→Nat→St→T (List C)) (v:Int) (p:Int) (b:List UInt8) (a:Int):aAm bH7 aAb (sg [pI,pI,pS,pI] [rB]) Tryz.f66 H [C.int .i64 v,C.int .i64 p,C.str b,C.int .i64 a]=(.must true (.must true (.must true (.must true (.ask (!aBm v p==[]) (.must true (.must true (.must true (.ask (inB a 0 (IntKind.i64.wrap ((↑b.length:Int)-(↑(aBm v p).length:Int)))) (.must (decide ((0:Int)≤IntKind.i64.wrap (a+(↑(aBm v p).length:Int)))&&decide (IntKind.i64.wrap (a+(↑(aBm v p).length:Int))≤(↑b.length:Int))&&(decide ((0:Int)≤a)&&decide (a≤IntKind.i64.wrap (a+(↑(aBm v p).length:Int))))) (.ask (List.drop a.toNat (List.take (IntKind.i64.wrap (a+(↑(aBm v p).length:Int))).toNat b)==aBm v p) (.must true (.ret [C.bool true])) (.must true (.ret [C.bool false])))) (.must true (.ret [C.bool false])))))) (.must true (.ret [C.bool false]))))))):=by kernel_rfl
theorem bG8 (H:List Pt→Nat→St→T (List C)) (v:Int) (p:Int) (b:List UInt8) (a:Int):aAm bHj aAb (sg [pI,pI,pS,pI] [rB]) Tryz.f82 H [C.int .i64 v,C.int .i64 p,C.str b,C.int .i64 a]=(.must true (.must true (.must true (.must true (.ask (!aBm v p==[]) (.must true (.must true (.must true (.ask (aG8 b a (aBm v p)) (.must true (.ret [C.bool true])) (.must true (.ret [C.bool false])))))) (.must true (.ret [C.bool false]))))))):=by kernel_rfl
theorem bAc:aA9 Tryz.prog aQp:=aA8 (by simp[])
theorem aR2:aB0 Tryz.prog 167 (sg [pS,pS] [rB]) aGk:=aA6 bAc aAa Tryz.func167 (by kernel_rfl) fun cs outs hk h=>by
 unfold aGk at h
 split at h
 ·simp only[Option.some.injEq,Prod.mk.injEq,true_and]at h
  rename_i b t
  rw[←h,aAd,aSn]
  simp only[aA2,aA4,aA3,if_true,decide_eq_true_eq,Bool.and_eq_true,Int.toNat_natCast,List.drop_zero,beq_iff_eq,Int.ofNat_le]
  by_cases hl:t.length≤b.length
  ·have z:(0:Int)≤(t.length:Int):=by omega
   by_cases he:b.take t.length=t
   ·have:aEr b t=true:=by unfold aEr;rw[decide_eq_true he]
    simp only[hl,z,he,if_true,and_self,this]
   ·have:aEr b t=false:=by unfold aEr;rw[decide_eq_false he]
    simp only[hl,z,he,if_true,if_false,and_self,this]
  ·have:aEr b t=false:=by
    unfold aEr
    rw[decide_eq_false]
    intro he
    have:=congrArg List.length he
    simp at this
    omega
   simp only[hl,if_false,this]
 ·cases h
theorem bEk:aA9 Tryz.prog aSg:=aA8 (by simp[aR2])
theorem aL2:aB0 Tryz.prog 149 (sg [pS,pS] [rB]) aGk:=aA6 bEk aAa Tryz.func149 (by kernel_rfl) fun cs outs hk h=>by
 unfold aGk at h
 split at h
 ·simp only[Option.some.injEq,Prod.mk.injEq,true_and]at h
  rename_i b t
  rw[←h,aAd,aUn]
  by_cases hp:aEr b t=true<;>simp[aA2,aA4,aA3,hp]
 ·cases h
theorem aG0 (b:List UInt8) (a:Int) (t:List UInt8):aG8 b a t=true↔(0≤a∧a≤b.length∧(b.drop a.toNat).take t.length=t):=by simp[aG8]
theorem bUs:aA9 Tryz.prog bMa:=aA8 (by simp[aJo,aL2])
theorem aS9:aB0 Tryz.prog 119 (sg [pS,pI,pS] [rB]) aQ6:=aA6 bUs aAa Tryz.func119 (by kernel_rfl) fun cs outs hk h=>by
 unfold aQ6 at h
 split at h
 ·simp only[Option.some.injEq,Prod.mk.injEq,true_and]at h
  rename_i b a t
  rw[←h,aAd,bJz]
  simp only[aA2,aA4,aA3,if_true,decide_eq_true_eq,Bool.and_eq_true,List.take_length]
  by_cases hin:inB a 0 (b.length:Int)=true
  ·have hh:=(aBr _ _ _).1 hin
   have e:aG8 b a t=aEr (b.drop a.toNat) t:=by
    unfold aG8 aEr
    simp[hh]
   simp only[hin,hh,if_true,and_self,e]
   by_cases hp:aEr (b.drop a.toNat) t=true<;>simp[hp]
  ·have e:aG8 b a t=false:=by
    cases hx:aG8 b a t with
    |true=>have:=(aG0 _ _ _).1 hx;exact absurd ((aBr _ _ _).2 ⟨this.1,this.2.1⟩) hin
    |false=>rfl
   simp only[hin,if_false,e]
   rfl
 ·cases h
theorem aS0:∀ (k n:Nat),(aD6 k n).length≤k
 |0,_=>by simp[aD6]
 |k+1,n=>by
  by_cases h:n<128
  ·rw[aDm k n h];simp
  ·rw[aFq k n h];have:=aS0 k (n / 128);simp;omega
theorem aDq (n:Int):(aBp n).length≤5:=by
 unfold aBp;split
 ·exact aS0 5 _
 ·simp
theorem aOa (p n:Int):(aFd p n).length≤16:=by
 unfold aFd
 have:=aBi n 4
 have:=aBi (aB1 0 (aAj p 8++aAj n 4):Nat) 4
 rw[List.length_append];omega
theorem aOq (v p:Int):(aBm v p).length≤16:=by
 unfold aBm
 have:=aOa p 4294967295
 split
 ·split
  ·simp
  ·exact this
 ·simp
theorem bUp:aA9 Tryz.prog bM9:=aA8 (by simp[aLz,aGx])
theorem aS7:aB0 Tryz.prog 131 (sg [pI,pI] [rS]) aPc:=aA6 bUp aAa Tryz.func131 (by kernel_rfl) fun cs outs hk h=>by
 unfold aPc at h
 split at h
 ·simp only[Option.some.injEq,Prod.mk.injEq,Bool.and_eq_true,decide_eq_true_eq]at h
  obtain⟨⟨⟨a1,a2⟩,a3,a4⟩,rfl⟩:=h
  rename_i p n
  rw[aAd,bJq]
  have l1:=aBi p 8
  have l2:=aBi n 4
  have l3:=aBi (aB1 0 (aAj p 8++aAj n 4):Nat) 4
  have c1:=aEx 0 (aAj p 8++aAj n 4) (by omega)
  simp only[aA2,aA4,aA3,if_true,decide_eq_true_eq,Bool.and_eq_true,List.length_append,Int.ofNat_eq_natCast]
  repeat rw[if_pos (by omega)]
  rfl
 ·cases h
theorem bEo:aA9 Tryz.prog aSh:=aA8 (by simp[aDg,aIo,aF6,aJ6])
theorem aHl:aB0 Tryz.prog 91 (sg [pI,pI,pS] [rS]) aHb:=aA6 bEo aAa Tryz.func91 (by kernel_rfl) fun cs outs hk h=>by
 unfold aHb at h
 split at h
 ·simp only[Option.some.injEq,Prod.mk.injEq,decide_eq_true_eq]at h
  obtain⟨h1,rfl⟩:=h
  rename_i v p r
  rw[aAd,aUo]
  by_cases hv:inB v 1 2=true
  ·by_cases hp:inB p 0 1000000000=true
   ·have hv':=(aBr _ _ _).1 hv
    have hp':=(aBr _ _ _).1 hp
    by_cases hr:(60:Int)<r.length
    ·have:¬r.length≤60:=by omega
     simp[aA2,aA4,aA3,hv,hp,hr,aAf,this]
    ·have hr':r.length≤60:=by omega
     have l1:=aBi p 8
     have l2:=aBi (r.length:Int) 4
     have l3:=aBi (aB1 0 (aAj p 8++aAj (r.length:Int) 4):Nat) 4
     have l4:=aBi (aB1 0 r:Nat) 4
     have l5:=aDq (r.length:Int)
     have c1:=aEx 0 (aAj p 8++aAj (r.length:Int) 4) (by omega)
     have c2:=aEx 0 r (by omega)
     by_cases h1:v=1
     ·have h1t:=eq_true h1
      have e:aAf v p r=aBp (r.length:Int)++r++aAj (aB1 0 r:Nat) 4:=by
       unfold aAf;rw[hv,hp,decide_eq_true hr',if_neg (show ¬v=2 by omega)];rfl
      rw[e]
      simp only[aA2,aA4,aA3,if_true,hv,hp,hr,h1t,if_false,decide_eq_true_eq,Bool.and_eq_true,List.length_append,Int.ofNat_eq_natCast]
      repeat rw[if_pos (by omega)]
     ·have e:aAf v p r=aFd p (r.length:Int)++r++aAj (aB1 0 r:Nat) 4:=by
       unfold aAf;rw[hv,hp,decide_eq_true hr',if_pos (show v=2 by omega)];rfl
      rw[e]
      unfold aFd
      simp only[aA2,aA4,aA3,if_true,hv,hp,hr,h1,if_false,decide_eq_true_eq,Bool.and_eq_true,List.length_append,Int.ofNat_eq_natCast]
      repeat rw[if_pos (by omega)]
   ·simp[aA2,aA4,aA3,hv,hp,aAf]
  ·simp[aA2,aA4,aA3,hv,aAf]
 ·cases h
theorem bGc:aA9 Tryz.prog aSk:=aA8 (by simp[aHm,aLz,aDk,aGx,aY3,aS7])
theorem aSx:aB0 Tryz.prog 102 (sg [pI,pI,pS] [rS]) aHb:=aA6 bGc aAa Tryz.func102 (by kernel_rfl) fun cs outs hk h=>by
 unfold aHb at h
 split at h
 ·simp only[Option.some.injEq,Prod.mk.injEq,decide_eq_true_eq]at h
  obtain⟨h1,rfl⟩:=h
  rename_i v p r
  rw[aAd,aVw]
  by_cases hv:inB v 1 2=true
  ·by_cases hp:inB p 0 1000000000=true
   ·have hv':=(aBr _ _ _).1 hv
    have hp':=(aBr _ _ _).1 hp
    by_cases hr:(60:Int)<r.length
    ·have:¬r.length≤60:=by omega
     simp[aA2,aA4,aA3,hv,hp,hr,aAf,this]
    ·have hr':r.length≤60:=by omega
     have l1:=aOa p (r.length:Int)
     have l4:=aBi (aB1 0 r:Nat) 4
     have l5:=aDq (r.length:Int)
     have c2:=aEx 0 r (by omega)
     by_cases h1:v=2
     ·have h1t:=eq_true h1
      have e:aAf v p r=aFd p (r.length:Int)++r++aAj (aB1 0 r:Nat) 4:=by
       unfold aAf;rw[hv,hp,decide_eq_true hr',if_pos h1];rfl
      rw[e]
      simp only[aA2,aA4,aA3,if_true,hv,hp,hr,h1t,if_false,decide_eq_true_eq,Bool.and_eq_true,List.length_append,Int.ofNat_eq_natCast]
      repeat rw[if_pos (by omega)]
     ·have e:aAf v p r=aBp (r.length:Int)++r++aAj (aB1 0 r:Nat) 4:=by
       unfold aAf;rw[hv,hp,decide_eq_true hr',if_neg h1];rfl
      rw[e]
      simp only[aA2,aA4,aA3,if_true,hv,hp,hr,h1,if_false,decide_eq_true_eq,Bool.and_eq_true,List.length_append,Int.ofNat_eq_natCast]
      repeat rw[if_pos (by omega)]
   ·simp[aA2,aA4,aA3,hv,hp,aAf]
  ·simp[aA2,aA4,aA3,hv,aAf]
 ·cases h
theorem bNb:aA9 Tryz.prog aZu:=aA8 (by simp[aDg,aIo,aF6])
theorem aNr:aB0 Tryz.prog 89 (sg [pI,pI] [rS]) aFh:=aA6 bNb aAa Tryz.func89 (by kernel_rfl) fun cs outs hk h=>by
 unfold aFh at h
 split at h
 ·simp only[Option.some.injEq,Prod.mk.injEq,true_and]at h
  rename_i v p
  rw[←h,aAd,bB9]
  by_cases hv:inB v 1 2=true
  ·by_cases hp:inB p 0 1000000000=true
   ·have hp':=(aBr _ _ _).1 hp
    have l1:=aBi p 8
    have l2:=aBi 4294967295 4
    have l3:=aBi (aB1 0 (aAj p 8++aAj 4294967295 4):Nat) 4
    have c1:=aEx 0 (aAj p 8++aAj 4294967295 4) (by omega)
    by_cases h1:v=1
    ·have h1t:=eq_true h1
     have e:aBm v p=[255,255,255,255,15]:=by unfold aBm;rw[hv,hp,if_pos h1];rfl
     rw[e]
     simp only[aA2,aA4,aA3,if_true,hv,hp,h1t,decide_true]
    ·have e:aBm v p=aFd p 4294967295:=by unfold aBm;rw[hv,hp,if_neg h1];rfl
     rw[e]
     unfold aFd
     simp only[aA2,aA4,aA3,if_true,hv,hp,h1,if_false,decide_eq_true_eq,Bool.and_eq_true,List.length_append,Int.ofNat_eq_natCast]
     repeat rw[if_pos (by omega)]
   ·simp[aA2,aA4,aA3,hv,hp,aBm]
  ·simp[aA2,aA4,aA3,hv,aBm]
 ·cases h
theorem bOi:aA9 Tryz.prog aZz:=aA8 (by simp[aHm,aDk,aS7])
theorem aYe:aB0 Tryz.prog 118 (sg [pI,pI] [rS]) aFh:=aA6 bOi aAa Tryz.func118 (by kernel_rfl) fun cs outs hk h=>by
 unfold aFh at h
 split at h
 ·simp only[Option.some.injEq,Prod.mk.injEq,true_and]at h
  rename_i v p
  rw[←h,aAd,bCk]
  by_cases hv:inB v 1 2=true
  ·by_cases hp:inB p 0 1000000000=true
   ·have hp':=(aBr _ _ _).1 hp
    by_cases h1:v=1
    ·have h1t:=eq_true h1
     have e:aBm v p=[255,255,255,255,15]:=by unfold aBm;rw[hv,hp,if_pos h1];rfl
     rw[e]
     simp[aA2,aA4,aA3,hv,hp,h1t]
    ·have e:aBm v p=aFd p 4294967295:=by unfold aBm;rw[hv,hp,if_neg h1];rfl
     rw[e]
     simp only[aA2,aA4,aA3,if_true,hv,hp,h1,if_false,decide_eq_true_eq,Bool.and_eq_true]
     repeat rw[if_pos (by omega)]
   ·simp[aA2,aA4,aA3,hv,hp,aBm]
  ·simp[aA2,aA4,aA3,hv,aBm]
 ·cases h
theorem bPw:aA9 Tryz.prog bH7:=aA8 (by simp[aDg,aNr])
theorem bAy:aB0 Tryz.prog 66 (sg [pI,pI,pS,pI] [rB]) aI2:=aA6 bPw aAa Tryz.func66 (by kernel_rfl) fun cs outs hk h=>by
 unfold aI2 at h
 split at h
 ·simp only[Option.some.injEq,Prod.mk.injEq,decide_eq_true_eq]at h
  obtain⟨h1,rfl⟩:=h
  rename_i v p b a
  rw[aAd,bEe]
  have lm:=aOq v p
  unfold aL4
  generalize aBm v p=m at *
  by_cases hm:m=[]
  ·simp[aA2,aA4,aA3,hm]
  ·have hb:(!m==([]:List UInt8))=true:=by simpa using hm
   have w1:IntKind.i64.wrap ((b.length:Int)-(m.length:Int))=(b.length:Int)-m.length:=by rw[aAi]<;>omega
   simp only[aA2,aA4,aA3,if_true,hb,w1,decide_eq_true_eq,Bool.and_eq_true,beq_iff_eq]
   by_cases hin:inB a 0 ((b.length:Int)-m.length)=true
   ·have hh:=(aBr _ _ _).1 hin
    obtain⟨a,rfl⟩:=Int.eq_ofNat_of_zero_le hh.1
    have w2:IntKind.i64.wrap ((a:Int)+(m.length:Int))=((a+m.length:Nat):Int):=by rw[aAi]<;>omega
    have z1:(0:Int)≤((a+m.length:Nat):Int):=by omega
    have z2:((a+m.length:Nat):Int)≤b.length:=by omega
    have z3:(a:Int)≤((a+m.length:Nat):Int):=by omega
    have ed:(b.take (a+m.length)).drop a=(b.drop a).take m.length:=by
     rw[List.take_drop]
    simp only[hin,w2,z1,z2,z3,hh.1,if_true,and_self,Int.toNat_natCast,ed]
    by_cases he:(b.drop a).take m.length=m
    ·have:aG8 b a m=true:=(aG0 _ _ _).2 ⟨by omega,by omega,by simpa using he⟩
     simp[he,this,hm]
    ·have:aG8 b a m=false:=by
      cases hx:aG8 b a m with
      |true=>exact absurd (by simpa using ((aG0 _ _ _).1 hx).2.2) he
      |false=>rfl
     simp[he,this]
   ·have:aG8 b a m=false:=by
     cases hx:aG8 b a m with
     |true =>
      have hh:=(aG0 _ _ _).1 hx
      have hl:=congrArg List.length hh.2.2
      simp at hl
      exact absurd ((aBr _ _ _).2 ⟨hh.1,by omega⟩) hin
     |false=>rfl
    simp[hin,this]
 ·cases h
theorem bRp:aA9 Tryz.prog bHj:=aA8 (by simp[aS9,aYe])
theorem bCd:aB0 Tryz.prog 82 (sg [pI,pI,pS,pI] [rB]) aI2:=aA6 bRp aAa Tryz.func82 (by kernel_rfl) fun cs outs hk h=>by
 unfold aI2 at h
 split at h
 ·simp only[Option.some.injEq,Prod.mk.injEq,decide_eq_true_eq]at h
  obtain⟨h1,rfl⟩:=h
  rename_i v p b a
  rw[aAd,bG8]
  unfold aL4
  generalize aBm v p=m at *
  by_cases hm:m=[]
  ·simp[aA2,aA4,aA3,hm]
  ·have hb:(!m==([]:List UInt8))=true:=by simpa using hm
   by_cases hh:aG8 b a m=true<;>simp[aA2,aA4,aA3,hb,hh,hm]
 ·cases h
noncomputable section
def rfN (v:Int) (b:List UInt8) (a:Int):Int:=if v=2 then aAy b a 4 else rvN b a
def aL3 (v:Int) (b:List UInt8) (a:Int):Int:=if v=2 then a+8 else aCp b a
def aPq (v:Int) (b:List UInt8) (a:Int):Bool:=if v=2 then aD9 b a 4 else bL2 b a
def aPo (v:Int) (b:List UInt8) (a:Int):List UInt8:=(b.drop (aL3 v b a).toNat).take (rfN v b a).toNat
def bF9 (v p:Int) (b:List UInt8) (a:Int):Bool:=inB v 1 2&&inB p 0 1000000000&&aPq v b a&&decide (rfN v b a≤60∧aL3 v b a+rfN v b a≤b.length)&&aG8 b a (aAf v p (aPo v b a))
def aRc (v p:Int) (b:List UInt8) (a:Int):List UInt8:=if bF9 v p b a then aPo v b a else[]
def aOi (v p:Int) (b:List UInt8) (a:Int):Int:=if bF9 v p b a then a+(aAf v p (aPo v b a)).length else 0
def aEq:aCh:=fun cs=>match cs with
 |[.int .i64 v,.int .i64 p,.str b,.int .i64 a]=>some (decide (b.length≤281474976710656)&&(decide (-9223372036854775808≤a)&&decide (a≤9223372036854775807)),[.str (aRc v p b a),.int .i64 (aOi v p b a),.bool (bF9 v p b a)])
 |_=>none
def aSf:Env:=mkE [] [(45,(sg [pI,pI,pI] [rB]),aEm),(85,(sg [pS,pI,pI] [rI,rB]),aEi),(90,(sg [pS,pI] [rI,rI,rB]),aGj),(91,(sg [pI,pI,pS] [rS]),aHb)]
def aSi:Env:=mkE [] [(117,(sg [pS,pI,pI] [rI,rB]),aEi),(120,(sg [pS,pI] [rI,rI,rB]),aGj),(119,(sg [pS,pI,pS] [rB]),aQ6),(102,(sg [pI,pI,pS] [rS]),aHb)]
end
theorem aUf (H:List Pt→Nat→St→T (List C)) (v:Int) (p:Int) (b:List UInt8) (a:Int):aAm aSf aAb (sg [pI,pI,pS,pI] [rS,rI,rB]) Tryz.f67 H [C.int .i64 v,C.int .i64 p,C.str b,C.int .i64 a]=(.must true (.must true (.must true (.must true (.ask (inB v 1 2) (.must true (.must true (.must true (.ask (inB p 0 1000000000) (.must true (.must true (.must true (.ask (inB a 0 (↑b.length:Int)) (.must true (.must (decide (b.length≤281474976710656)&&(decide ((-9223372036854775808:Int)≤a)&&decide (a≤(9223372036854775807:Int)))) (.must true (.ask (bL2 b a) (.ask (decide (v=(2:Int))) (.must true (.must (decide (b.length≤281474976710656)&&(decide ((-9223372036854775808:Int)≤a)&&decide (a≤(9223372036854775807:Int)))) (.must true (.ask (aD9 b a 4) (.ask (decide ((60:Int)<aAy b a 4)) (.must true (.ret [C.str [],C.int .i64 0,C.bool false])) (.ask (decide (IntKind.i64.wrap ((↑b.length:Int)-aAy b a 4)<IntKind.i64.wrap (a+(8:Int)))) (.must true (.ret [C.str [],C.int .i64 0,C.bool false])) (.must (decide ((0:Int)≤IntKind.i64.wrap (IntKind.i64.wrap (a+(8:Int))+aAy b a 4))&&decide (IntKind.i64.wrap (IntKind.i64.wrap (a+(8:Int))+aAy b a 4)≤(↑b.length:Int))&&(decide ((0:Int)≤IntKind.i64.wrap (a+(8:Int)))&&decide (IntKind.i64.wrap (a+(8:Int))≤IntKind.i64.wrap (IntKind.i64.wrap (a+(8:Int))+aAy b a 4)))) (.must true (.must (decide ((List.drop (IntKind.i64.wrap (a+(8:Int))).toNat (List.take (IntKind.i64.wrap (IntKind.i64.wrap (a+(8:Int))+aAy b a 4)).toNat b)).length≤281474976710656)) (.must true (.ask (decide (IntKind.i64.wrap ((↑b.length:Int)-a)<(↑(aAf v p (List.drop (IntKind.i64.wrap (a+(8:Int))).toNat (List.take (IntKind.i64.wrap (IntKind.i64.wrap (a+(8:Int))+aAy b a 4)).toNat b))).length:Int))) (.must true (.ret [C.str [],C.int .i64 0,C.bool false])) (.must (decide ((0:Int)≤IntKind.i64.wrap (a+(↑(aAf v p (List.drop (IntKind.i64.wrap (a+(8:Int))).toNat (List.take (IntKind.i64.wrap (IntKind.i64.wrap (a+(8:Int))+aAy b a 4)).toNat b))).length:Int)))&&decide (IntKind.i64.wrap (a+(↑(aAf v p (List.drop (IntKind.i64.wrap (a+(8:Int))).toNat (List.take (IntKind.i64.wrap (IntKind.i64.wrap (a+(8:Int))+aAy b a 4)).toNat b))).length:Int))≤(↑b.length:Int))&&(decide ((0:Int)≤a)&&decide (a≤IntKind.i64.wrap (a+(↑(aAf v p (List.drop (IntKind.i64.wrap (a+(8:Int))).toNat (List.take (IntKind.i64.wrap (IntKind.i64.wrap (a+(8:Int))+aAy b a 4)).toNat b))).length:Int))))) (.ask (!List.drop a.toNat (List.take (IntKind.i64.wrap (a+(↑(aAf v p (List.drop (IntKind.i64.wrap (a+(8:Int))).toNat (List.take (IntKind.i64.wrap (IntKind.i64.wrap (a+(8:Int))+aAy b a 4)).toNat b))).length:Int))).toNat b)==aAf v p (List.drop (IntKind.i64.wrap (a+(8:Int))).toNat (List.take (IntKind.i64.wrap (IntKind.i64.wrap (a+(8:Int))+aAy b a 4)).toNat b))) (.must true (.ret [C.str [],C.int .i64 0,C.bool false])) (.must true (.ret [C.str (List.drop (IntKind.i64.wrap (a+(8:Int))).toNat (List.take (IntKind.i64.wrap (IntKind.i64.wrap (a+(8:Int))+aAy b a 4)).toNat b)),C.int .i64 (IntKind.i64.wrap (a+(↑(aAf v p (List.drop (IntKind.i64.wrap (a+(8:Int))).toNat (List.take (IntKind.i64.wrap (IntKind.i64.wrap (a+(8:Int))+aAy b a 4)).toNat b))).length:Int))),C.bool true]))))))))))) (.must true (.ret [C.str [],C.int .i64 0,C.bool false])))))) (.ask (decide ((60:Int)<rvN b a)) (.must true (.ret [C.str [],C.int .i64 0,C.bool false])) (.ask (decide (IntKind.i64.wrap ((↑b.length:Int)-rvN b a)<aCp b a)) (.must true (.ret [C.str [],C.int .i64 0,C.bool false])) (.must (decide ((0:Int)≤IntKind.i64.wrap (aCp b a+rvN b a))&&decide (IntKind.i64.wrap (aCp b a+rvN b a)≤(↑b.length:Int))&&(decide ((0:Int)≤aCp b a)&&decide (aCp b a≤IntKind.i64.wrap (aCp b a+rvN b a)))) (.must true (.must (decide ((List.drop (aCp b a).toNat (List.take (IntKind.i64.wrap (aCp b a+rvN b a)).toNat b)).length≤281474976710656)) (.must true (.ask (decide (IntKind.i64.wrap ((↑b.length:Int)-a)<(↑(aAf v p (List.drop (aCp b a).toNat (List.take (IntKind.i64.wrap (aCp b a+rvN b a)).toNat b))).length:Int))) (.must true (.ret [C.str [],C.int .i64 0,C.bool false])) (.must (decide ((0:Int)≤IntKind.i64.wrap (a+(↑(aAf v p (List.drop (aCp b a).toNat (List.take (IntKind.i64.wrap (aCp b a+rvN b a)).toNat b))).length:Int)))&&decide (IntKind.i64.wrap (a+(↑(aAf v p (List.drop (aCp b a).toNat (List.take (IntKind.i64.wrap (aCp b a+rvN b a)).toNat b))).length:Int))≤(↑b.length:Int))&&(decide ((0:Int)≤a)&&decide (a≤IntKind.i64.wrap (a+(↑(aAf v p (List.drop (aCp b a).toNat (List.take (IntKind.i64.wrap (aCp b a+rvN b a)).toNat b))).length:Int))))) (.ask (!List.drop a.toNat (List.take (IntKind.i64.wrap (a+(↑(aAf v p (List.drop (aCp b a).toNat (List.take (IntKind.i64.wrap (aCp b a+rvN b a)).toNat b))).length:Int))).toNat b)==aAf v p (List.drop (aCp b a).toNat (List.take (IntKind.i64.wrap (aCp b a+rvN b a)).toNat b))) (.must true (.ret [C.str [],C.int .i64 0,C.bool false])) (.must true (.ret [C.str (List.drop (aCp b a).toNat (List.take (IntKind.i64.wrap (aCp b a+rvN b a)).toNat b)),C.int .i64 (IntKind.i64.wrap (a+(↑(aAf v p (List.drop (aCp b a).toNat (List.take (IntKind.i64.wrap (aCp b a+rvN b a)).toNat b))).length:Int))),C.bool true])))))))))))) (.ask (decide (v=(2:Int))) (.must true (.must (decide (b.length≤281474976710656)&&(decide ((-9223372036854775808:Int)≤a)&&decide (a≤(9223372036854775807:Int)))) (.must true (.ask (aD9 b a 4) (.ask (decide ((60:Int)<aAy b a 4)) (.must true (.ret [C.str [],C.int .i64 0,C.bool false])) (.ask (decide (IntKind.i64.wrap ((↑b.length:Int)-aAy b a 4)<IntKind.i64.wrap (a+(8:Int)))) (.must true (.ret [C.str [],C.int .i64 0,C.bool false])) (.must (decide ((0:Int)≤IntKind.i64.wrap (IntKind.i64.wrap (a+(8:Int))+aAy b a 4))&&decide (IntKind.i64.wrap (IntKind.i64.wrap (a+(8:Int))+aAy b a 4)≤(↑b.length:Int))&&(decide ((0:Int)≤IntKind.i64.wrap (a+(8:Int)))&&decide (IntKind.i64.wrap (a+(8:Int))≤IntKind.i64.wrap (IntKind.i64.wrap (a+(8:Int))+aAy b a 4)))) (.must true (.must (decide ((List.drop (IntKind.i64.wrap (a+(8:Int))).toNat (List.take (IntKind.i64.wrap (IntKind.i64.wrap (a+(8:Int))+aAy b a 4)).toNat b)).length≤281474976710656)) (.must true (.ask (decide (IntKind.i64.wrap ((↑b.length:Int)-a)<(↑(aAf v p (List.drop (IntKind.i64.wrap (a+(8:Int))).toNat (List.take (IntKind.i64.wrap (IntKind.i64.wrap (a+(8:Int))+aAy b a 4)).toNat b))).length:Int))) (.must true (.ret [C.str [],C.int .i64 0,C.bool false])) (.must (decide ((0:Int)≤IntKind.i64.wrap (a+(↑(aAf v p (List.drop (IntKind.i64.wrap (a+(8:Int))).toNat (List.take (IntKind.i64.wrap (IntKind.i64.wrap (a+(8:Int))+aAy b a 4)).toNat b))).length:Int)))&&decide (IntKind.i64.wrap (a+(↑(aAf v p (List.drop (IntKind.i64.wrap (a+(8:Int))).toNat (List.take (IntKind.i64.wrap (IntKind.i64.wrap (a+(8:Int))+aAy b a 4)).toNat b))).length:Int))≤(↑b.length:Int))&&(decide ((0:Int)≤a)&&decide (a≤IntKind.i64.wrap (a+(↑(aAf v p (List.drop (IntKind.i64.wrap (a+(8:Int))).toNat (List.take (IntKind.i64.wrap (IntKind.i64.wrap (a+(8:Int))+aAy b a 4)).toNat b))).length:Int))))) (.ask (!List.drop a.toNat (List.take (IntKind.i64.wrap (a+(↑(aAf v p (List.drop (IntKind.i64.wrap (a+(8:Int))).toNat (List.take (IntKind.i64.wrap (IntKind.i64.wrap (a+(8:Int))+aAy b a 4)).toNat b))).length:Int))).toNat b)==aAf v p (List.drop (IntKind.i64.wrap (a+(8:Int))).toNat (List.take (IntKind.i64.wrap (IntKind.i64.wrap (a+(8:Int))+aAy b a 4)).toNat b))) (.must true (.ret [C.str [],C.int .i64 0,C.bool false])) (.must true (.ret [C.str (List.drop (IntKind.i64.wrap (a+(8:Int))).toNat (List.take (IntKind.i64.wrap (IntKind.i64.wrap (a+(8:Int))+aAy b a 4)).toNat b)),C.int .i64 (IntKind.i64.wrap (a+(↑(aAf v p (List.drop (IntKind.i64.wrap (a+(8:Int))).toNat (List.take (IntKind.i64.wrap (IntKind.i64.wrap (a+(8:Int))+aAy b a 4)).toNat b))).length:Int))),C.bool true]))))))))))) (.must true (.ret [C.str [],C.int .i64 0,C.bool false])))))) (.must true (.ret [C.str [],C.int .i64 0,C.bool false]))))))) (.must true (.ret [C.str [],C.int .i64 0,C.bool false])))))) (.must true (.ret [C.str [],C.int .i64 0,C.bool false])))))) (.must true (.ret [C.str [],C.int .i64 0,C.bool false]))))))):=by kernel_rfl
theorem aVq (H:List Pt→Nat→St→T (List C)) (v:Int) (p:Int) (b:List UInt8) (a:Int):aAm aSi aAb (sg [pI,pI,pS,pI] [rS,rI,rB]) Tryz.f83 H [C.int .i64 v,C.int .i64 p,C.str b,C.int .i64 a]=(.must true (.ask (decide (v=(2:Int))) (.must true (.must (decide (b.length≤281474976710656)&&(decide ((-9223372036854775808:Int)≤a)&&decide (a≤(9223372036854775807:Int)))) (.must true (.ask (aD9 b a 4) (.ask (decide ((60:Int)<aAy b a 4)) (.must true (.ret [C.str [],C.int .i64 0,C.bool false])) (.ask (decide ((↑b.length:Int)<IntKind.i64.wrap (a+(8:Int)))) (.must true (.ret [C.str [],C.int .i64 0,C.bool false])) (.ask (decide (IntKind.i64.wrap ((↑b.length:Int)-IntKind.i64.wrap (a+(8:Int)))<aAy b a 4)) (.must true (.ret [C.str [],C.int .i64 0,C.bool false])) (.must (decide ((0:Int)≤IntKind.i64.wrap (IntKind.i64.wrap (a+(8:Int))+aAy b a 4))&&decide (IntKind.i64.wrap (IntKind.i64.wrap (a+(8:Int))+aAy b a 4)≤(↑b.length:Int))&&(decide ((0:Int)≤IntKind.i64.wrap (a+(8:Int)))&&decide (IntKind.i64.wrap (a+(8:Int))≤IntKind.i64.wrap (IntKind.i64.wrap (a+(8:Int))+aAy b a 4)))) (.must true (.must (decide ((List.drop (IntKind.i64.wrap (a+(8:Int))).toNat (List.take (IntKind.i64.wrap (IntKind.i64.wrap (a+(8:Int))+aAy b a 4)).toNat b)).length≤281474976710656)) (.must true (.ask (aAf v p (List.drop (IntKind.i64.wrap (a+(8:Int))).toNat (List.take (IntKind.i64.wrap (IntKind.i64.wrap (a+(8:Int))+aAy b a 4)).toNat b))==[]) (.must true (.ret [C.str [],C.int .i64 0,C.bool false])) (.must true (.must true (.must true (.ask (aG8 b a (aAf v p (List.drop (IntKind.i64.wrap (a+(8:Int))).toNat (List.take (IntKind.i64.wrap (IntKind.i64.wrap (a+(8:Int))+aAy b a 4)).toNat b)))) (.must true (.ret [C.str (List.drop (IntKind.i64.wrap (a+(8:Int))).toNat (List.take (IntKind.i64.wrap (IntKind.i64.wrap (a+(8:Int))+aAy b a 4)).toNat b)),C.int .i64 (IntKind.i64.wrap (a+(↑(aAf v p (List.drop (IntKind.i64.wrap (a+(8:Int))).toNat (List.take (IntKind.i64.wrap (IntKind.i64.wrap (a+(8:Int))+aAy b a 4)).toNat b))).length:Int))),C.bool true])) (.must true (.ret [C.str [],C.int .i64 0,C.bool false])))))))))))))) (.must true (.ret [C.str [],C.int .i64 0,C.bool false])))))) (.must true (.must (decide (b.length≤281474976710656)&&(decide ((-9223372036854775808:Int)≤a)&&decide (a≤(9223372036854775807:Int)))) (.must true (.ask (bL2 b a) (.ask (decide ((60:Int)<rvN b a)) (.must true (.ret [C.str [],C.int .i64 0,C.bool false])) (.ask (decide ((↑b.length:Int)<aCp b a)) (.must true (.ret [C.str [],C.int .i64 0,C.bool false])) (.ask (decide (IntKind.i64.wrap ((↑b.length:Int)-aCp b a)<rvN b a)) (.must true (.ret [C.str [],C.int .i64 0,C.bool false])) (.must (decide ((0:Int)≤IntKind.i64.wrap (aCp b a+rvN b a))&&decide (IntKind.i64.wrap (aCp b a+rvN b a)≤(↑b.length:Int))&&(decide ((0:Int)≤aCp b a)&&decide (aCp b a≤IntKind.i64.wrap (aCp b a+rvN b a)))) (.must true (.must (decide ((List.drop (aCp b a).toNat (List.take (IntKind.i64.wrap (aCp b a+rvN b a)).toNat b)).length≤281474976710656)) (.must true (.ask (aAf v p (List.drop (aCp b a).toNat (List.take (IntKind.i64.wrap (aCp b a+rvN b a)).toNat b))==[]) (.must true (.ret [C.str [],C.int .i64 0,C.bool false])) (.must true (.must true (.must true (.ask (aG8 b a (aAf v p (List.drop (aCp b a).toNat (List.take (IntKind.i64.wrap (aCp b a+rvN b a)).toNat b)))) (.must true (.ret [C.str (List.drop (aCp b a).toNat (List.take (IntKind.i64.wrap (aCp b a+rvN b a)).toNat b)),C.int .i64 (IntKind.i64.wrap (a+(↑(aAf v p (List.drop (aCp b a).toNat (List.take (IntKind.i64.wrap (aCp b a+rvN b a)).toNat b))).length:Int))),C.bool true])) (.must true (.ret [C.str [],C.int .i64 0,C.bool false])))))))))))))) (.must true (.ret [C.str [],C.int .i64 0,C.bool false])))))))):=by kernel_rfl
def aJs:List C:=[C.str [],C.int IntKind.i64 (0:Int),C.bool false]
def bYy (v p : Int) (b : List UInt8) (a n f : Int) : T (List C) :=
  .ask (decide (60 < n)) (.must true (.ret aJs))
   (.ask (decide (IntKind.i64.wrap ((b.length : Int) - n) < f)) (.must true (.ret aJs))
    (.must (decide (0 ≤ IntKind.i64.wrap (f + n)) && decide (IntKind.i64.wrap (f + n) ≤ (b.length : Int)) && (decide (0 ≤ f) && decide (f ≤ IntKind.i64.wrap (f + n))))
     (.must true
      (.must (decide ((List.drop f.toNat (List.take (IntKind.i64.wrap (f + n)).toNat b)).length ≤ 281474976710656))
       (.must true
        (.ask (decide (IntKind.i64.wrap ((b.length : Int) - a) < ((aAf v p (List.drop f.toNat (List.take (IntKind.i64.wrap (f + n)).toNat b))).length : Int))) (.must true (.ret aJs))
         (.must (decide (0 ≤ IntKind.i64.wrap (a + ((aAf v p (List.drop f.toNat (List.take (IntKind.i64.wrap (f + n)).toNat b))).length : Int))) && decide (IntKind.i64.wrap (a + ((aAf v p (List.drop f.toNat (List.take (IntKind.i64.wrap (f + n)).toNat b))).length : Int)) ≤ (b.length : Int)) && (decide (0 ≤ a) && decide (a ≤ IntKind.i64.wrap (a + ((aAf v p (List.drop f.toNat (List.take (IntKind.i64.wrap (f + n)).toNat b))).length : Int)))))
          (.ask (!List.drop a.toNat (List.take (IntKind.i64.wrap (a + ((aAf v p (List.drop f.toNat (List.take (IntKind.i64.wrap (f + n)).toNat b))).length : Int))).toNat b) == aAf v p (List.drop f.toNat (List.take (IntKind.i64.wrap (f + n)).toNat b)))
           (.must true (.ret aJs))
           (.must true (.ret [C.str (List.drop f.toNat (List.take (IntKind.i64.wrap (f + n)).toNat b)), C.int IntKind.i64 (IntKind.i64.wrap (a + ((aAf v p (List.drop f.toNat (List.take (IntKind.i64.wrap (f + n)).toNat b))).length : Int))), C.bool true]))))))))))
def bZu (v p : Int) (b : List UInt8) (a n f : Int) : T (List C) :=
  .ask (decide (60 < n)) (.must true (.ret aJs))
   (.ask (decide ((b.length : Int) < f)) (.must true (.ret aJs))
    (.ask (decide (IntKind.i64.wrap ((b.length : Int) - f) < n)) (.must true (.ret aJs))
     (.must (decide (0 ≤ IntKind.i64.wrap (f + n)) && decide (IntKind.i64.wrap (f + n) ≤ (b.length : Int)) && (decide (0 ≤ f) && decide (f ≤ IntKind.i64.wrap (f + n))))
      (.must true
       (.must (decide ((List.drop f.toNat (List.take (IntKind.i64.wrap (f + n)).toNat b)).length ≤ 281474976710656))
        (.must true
         (.ask (aAf v p (List.drop f.toNat (List.take (IntKind.i64.wrap (f + n)).toNat b)) == []) (.must true (.ret aJs))
          (.must true (.must true (.must true
           (.ask (aG8 b a (aAf v p (List.drop f.toNat (List.take (IntKind.i64.wrap (f + n)).toNat b))))
            (.must true (.ret [C.str (List.drop f.toNat (List.take (IntKind.i64.wrap (f + n)).toNat b)), C.int IntKind.i64 (IntKind.i64.wrap (a + ((aAf v p (List.drop f.toNat (List.take (IntKind.i64.wrap (f + n)).toNat b))).length : Int))), C.bool true]))
            (.must true (.ret aJs)))))))))))))
def aR0 (v p:Int) (b:List UInt8) (a n f:Int):List C :=
 if n≤60∧f+n≤b.length∧aG8 b a (aAf v p ((b.drop f.toNat).take n.toNat))=true then[.str ((b.drop f.toNat).take n.toNat),.int .i64 (a+(aAf v p ((b.drop f.toNat).take n.toNat)).length),.bool true]else aJs
theorem aEv (v p:Int) (r:List UInt8):(aAf v p r).length≤90:=by
 unfold aAf
 have h1:=aOa p r.length
 have h2:=aDq r.length
 have h3:=aBi (aB1 0 r:Nat) 4
 split
 ·rename_i h
  simp only[Bool.and_eq_true,decide_eq_true_eq]at h
  split<;>simp only[List.length_append]<;>omega
 ·simp
theorem aM2 (v p:Int) (r:List UInt8) (hv:inB v 1 2=true) (hp:inB p 0 1000000000=true) (hr:r.length≤60):aAf v p r≠[]:=by
 unfold aAf
 rw[hv,hp,decide_eq_true hr]
 intro h
 have h4:(aAj (aB1 0 r:Nat) 4).length=4:=by
  have hc:=aEx 0 r (by omega)
  have hg:=bCw (aB1 0 r) 4 (by omega) (by omega)
  rw[show ((4:Nat):Int)=4 from rfl]at hg
  rw[hg,if_pos (by omega),aCd]
 have:=congrArg List.length h
 simp only[Bool.and_self,if_true,List.length_append,List.length_nil]at this
 omega
theorem bCp (v p:Int) (r:List UInt8) (h:¬(inB v 1 2=true∧inB p 0 1000000000=true)):aAf v p r=[]:=by
 unfold aAf
 rw[if_neg]
 intro hh
 simp only[Bool.and_eq_true]at hh
 exact h hh.1
theorem aYx (v p:Int) (b:List UInt8) (a n f:Int) (hb:b.length≤281474976710656) (hn:0≤n) (hn2:n≤9223372036854775807) (hf:0≤f) (hf2:f≤1125899906842624) (ha:0≤a) (ha2:a≤b.length) (hv:inB v 1 2=true) (hp:inB p 0 1000000000=true) :
  (bYy v p b a n f).eval=some (aR0 v p b a n f):=by
 unfold bYy aR0
 by_cases h1:60<n
 ·have:¬n≤60:=by omega
  simp[aA2,aA4,aA3,h1,this]
 ·have w1:IntKind.i64.wrap ((b.length:Int)-n)=(b.length:Int)-n:=by rw[aAi]<;>omega
  have w2:IntKind.i64.wrap (f+n)=f+n:=by rw[aAi]<;>omega
  have h1':n≤60:=by omega
  rw[w1,w2]
  by_cases h2:(b.length:Int)-n<f
  ·have:¬(f+n≤b.length):=by omega
   simp[aA2,aA4,aA3,h1,h2,this]
  ·have h2':f+n≤b.length:=by omega
   have hrec:List.drop f.toNat (List.take (f+n).toNat b)=(b.drop f.toNat).take n.toNat:=by
    rw[List.take_drop];congr 2;omega
   rw[hrec]
   have hl:((b.drop f.toNat).take n.toNat).length≤281474976710656:=by simp;omega
   have hl60:((b.drop f.toNat).take n.toNat).length≤60:=by simp;omega
   generalize (b.drop f.toNat).take n.toNat=r at hl hl60
   have fl:=aEv v p r
   have fne:=aM2 v p r hv hp hl60
   generalize aAf v p r=t at fl fne
   have w3:IntKind.i64.wrap ((b.length:Int)-a)=(b.length:Int)-a:=by rw[aAi]<;>omega
   have w4:IntKind.i64.wrap (a+(t.length:Int))=a+t.length:=by rw[aAi]<;>omega
   rw[w3,w4]
   have z1:0≤f+n:=by omega
   have z2:f≤f+n:=by omega
   by_cases h3:(b.length:Int)-a<t.length
   ·have:aG8 b a t=false:=by
     cases hx:aG8 b a t with
     |true =>
      have hh:=(aG0 _ _ _).1 hx
      have hl:=congrArg List.length hh.2.2
      simp at hl
      omega
     |false=>rfl
    simp[aA2,aA4,aA3,h1,h2,h2',hf,hl,h3,this,z1,z2,hn]
   ·have z3:0≤a+(t.length:Int):=by omega
    have z4:a+(t.length:Int)≤b.length:=by omega
    have z5:a≤a+(t.length:Int):=by omega
    have ed:List.drop a.toNat (List.take (a+(t.length:Int)).toNat b)=(b.drop a.toNat).take t.length:=by
     rw[List.take_drop];congr 2;omega
    rw[ed]
    by_cases he:(b.drop a.toNat).take t.length=t
    ·have hh:aG8 b a t=true:=(aG0 _ _ _).2 ⟨ha,ha2,he⟩
     simp[aA2,aA4,aA3,h1,h1',h2,h2',hf,hl,h3,z1,z2,z3,z4,z5,hn,ha,he,hh]
    ·have hh:aG8 b a t=false:=by
      cases hx:aG8 b a t with
      |true=>exact absurd ((aG0 _ _ _).1 hx).2.2 he
      |false=>rfl
     simp[aA2,aA4,aA3,h1,h1',h2,h2',hf,hl,h3,z1,z2,z3,z4,z5,hn,ha,he,hh]
theorem aZ6 (v p:Int) (b:List UInt8) (a n f:Int) (hb:b.length≤281474976710656) (hn:0≤n) (hn2:n≤9223372036854775807) (hf:0≤f) (hf2:f≤1125899906842624) (ha2:a≤9223372036854775807) :
  (bZu v p b a n f).eval=some (if inB v 1 2=true∧inB p 0 1000000000=true then aR0 v p b a n f else aJs):=by
 unfold bZu aR0
 by_cases h1:60<n
 ·have:¬n≤60:=by omega
  simp[aA2,aA4,aA3,h1,this]
 ·have w2:IntKind.i64.wrap (f+n)=f+n:=by rw[aAi]<;>omega
  have h1':n≤60:=by omega
  rw[w2]
  by_cases h2:(b.length:Int)<f
  ·have:¬(f+n≤b.length):=by omega
   simp[aA2,aA4,aA3,h1,h2,this]
  ·have w1:IntKind.i64.wrap ((b.length:Int)-f)=(b.length:Int)-f:=by rw[aAi]<;>omega
   rw[w1]
   by_cases h3:(b.length:Int)-f<n
   ·have:¬(f+n≤b.length):=by omega
    simp[aA2,aA4,aA3,h1,h2,h3,this]
   ·have h2':f+n≤b.length:=by omega
    have hrec:List.drop f.toNat (List.take (f+n).toNat b)=(b.drop f.toNat).take n.toNat:=by
     rw[List.take_drop];congr 2;omega
    rw[hrec]
    have hl:((b.drop f.toNat).take n.toNat).length≤281474976710656:=by simp;omega
    have hl60:((b.drop f.toNat).take n.toNat).length≤60:=by simp;omega
    generalize (b.drop f.toNat).take n.toNat=r at hl hl60
    have z1:0≤f+n:=by omega
    have z2:f≤f+n:=by omega
    by_cases hvp:inB v 1 2=true∧inB p 0 1000000000=true
    ·have fl:=aEv v p r
     have fne:=aM2 v p r hvp.1 hvp.2 hl60
     rw[if_pos hvp]
     generalize aAf v p r=t at fl fne
     have fb:(t==([]:List UInt8))=false:=by simpa using fne
     by_cases hh:aG8 b a t=true
     ·have hx:=(aG0 _ _ _).1 hh
      have w4:IntKind.i64.wrap (a+(t.length:Int))=a+t.length:=by rw[aAi]<;>omega
      simp[aA2,aA4,aA3,h1,h1',h2,h2',h3,hf,hl,z1,z2,hn,fb,hh,w4,fne]
     ·simp[aA2,aA4,aA3,h1,h1',h2,h2',h3,hf,hl,z1,z2,hn,fb,hh,fne]
    ·rw[if_neg hvp,bCp v p r hvp]
     simp[aA2,aA4,aA3,h1,h1',h2,h2',h3,hf,hl,z1,z2,hn]
theorem bL1 (b:List UInt8) (a:Int):0≤rvN b a∧rvN b a≤1000000000∧0≤aCp b a∧aCp b a≤b.length∧(bL2 b a=true→0≤a∧a≤b.length):=by
 have go:∀ (fu k n:Nat) (q:Nat×Nat),bNj b a.toNat fu k n=some q→q.1≤1000000000∧q.2≤b.length∧a.toNat≤b.length:=by
  intro fu
  induction fu with
  |zero=>intro k n q h;simp[bNj]at h
  |succ fu ih =>
   intro k n q h
   simp only[bNj]at h
   split at h
   ·split at h
    ·split at h
     ·cases h
     ·obtain rfl:=Option.some.inj h
      simp only[]
      omega
    ·exact ih _ _ _ h
   ·cases h
 unfold rvN aCp bL2 aJa
 by_cases ha:0≤a
 ·rw[if_pos ha]
  cases hq:bNj b a.toNat 5 0 0 with
  |none=>simp
  |some q=>have:=go 5 0 0 q hq;simp;omega
 ·rw[if_neg ha];simp
theorem bGl (b:List UInt8) (a w:Int):0≤aAy b a w∧aAy b a w≤9223372036854775807∧(aD9 b a w=true→0≤a∧a≤b.length):=by
 unfold aAy
 cases h:aD9 b a w with
 |true=>have:=(aJr _ _ _).1 h;simp;omega
 |false=>simp
theorem bQh (v p:Int) (b:List UInt8) (a:Int):[C.str (aRc v p b a),C.int .i64 (aOi v p b a),C.bool (bF9 v p b a)]=if inB v 1 2=true∧inB p 0 1000000000=true∧aPq v b a=true then aR0 v p b a (rfN v b a) (aL3 v b a)else aJs:=by
 unfold aRc aOi bF9 aR0 aPo aJs
 generalize aPq v b a=x
 generalize rfN v b a=n
 generalize aL3 v b a=f
 generalize aAf v p ((b.drop f.toNat).take n.toNat)=t
 by_cases h1:inB v 1 2=true
 ·by_cases h2:inB p 0 1000000000=true
  ·cases x with
   |false=>simp
   |true =>
    by_cases h3:n≤60∧f+n≤b.length
    ·by_cases h4:aG8 b a t=true<;>simp[h1,h2,h3,h4]
    ·have h3':¬(n≤60∧f+n≤b.length∧aG8 b a t=true):=fun h=>h3 ⟨h.1,h.2.1⟩
     rw[decide_eq_false h3,if_neg h3']
     simp
  ·simp[h2]
 ·simp[h1]
theorem aC1 {α:Type} (n:T α):(T.must true n).eval=n.eval:=rfl
theorem aCk {α:Type} (y n:T α):(T.ask true y n).eval=y.eval:=rfl
theorem aE8 {α:Type} (y n:T α):(T.ask false y n).eval=n.eval:=rfl
theorem bE5:aA9 Tryz.prog aSf:=aA8 (by simp[aDg,aNp,aXf,aHl])
theorem aSp:aB0 Tryz.prog 67 (sg [pI,pI,pS,pI] [rS,rI,rB]) aEq:=aA6 bE5 aAa Tryz.func67 (by kernel_rfl) fun cs outs hk h=>by
 unfold aEq at h
 split at h
 ·simp only[Option.some.injEq,Prod.mk.injEq,Bool.and_eq_true,decide_eq_true_eq]at h
  obtain⟨⟨h1,h2,h3⟩,rfl⟩:=h
  rename_i v p b a
  rw[aAd,aUf,bQh]
  have pre:(decide (b.length≤281474976710656)&&(decide (-9223372036854775808≤a)&&decide (a≤9223372036854775807)))=true:=by simp[h1,h2,h3]
  obtain⟨r1,r2,r3,r4,r5⟩:=bL1 b a
  obtain⟨f1,f2,f3⟩:=bGl b a 4
  have has_in:aPq v b a=true→0≤a∧a≤b.length:=by
   unfold aPq;split
   ·exact f3
   ·exact r5
  cases hv:inB v 1 2 with
  |false=>simp only[aC1,aE8,hv,Bool.false_eq_true,false_and,if_false];rfl
  |true =>
   cases hp:inB p 0 1000000000 with
   |false=>simp only[aC1,aCk,aE8,hv,hp,Bool.false_eq_true,and_false,false_and,if_false];rfl
   |true =>
    cases ha:inB a 0 (b.length:Int)with
    |false =>
     have:¬aPq v b a=true:=fun h=>by
      have:=has_in h
      have:=(aBr a 0 (b.length:Int)).2 this
      rw[ha]at this;cases this
     simp only[aC1,aCk,aE8,hv,hp,ha,this,and_false,if_false];rfl
    |true =>
     have ha':=(aBr _ _ _).1 ha
     have w8:IntKind.i64.wrap (a+8)=a+8:=by rw[aAi]<;>omega
     have e1:=aYx v p b a (aAy b a 4) (a+8) h1 f1 f2 (by omega) (by omega) ha'.1 ha'.2 hv hp
     have e2:=aYx v p b a (rvN b a) (aCp b a) h1 r1 (by omega) r3 (by omega) ha'.1 ha'.2 hv hp
     by_cases hv2:v=2
     ·have d2:decide (v=2)=true:=decide_eq_true hv2
      have hh:aPq v b a=aD9 b a 4:=by unfold aPq;rw[if_pos hv2]
      have hn:rfN v b a=aAy b a 4:=by unfold rfN;rw[if_pos hv2]
      have hf:aL3 v b a=a+8:=by unfold aL3;rw[if_pos hv2]
      rw[hh,hn,hf]
      cases hk1:aD9 b a 4 with
      |false=>cases hk2:bL2 b a<;>(simp only[aC1,aCk,aE8,hv,hp,ha,pre,d2,hk1,hk2,Bool.false_eq_true,if_false,and_false];rfl)
      |true=>cases hk2:bL2 b a<;>(simp only[aC1,aCk,aE8,hv,hp,ha,pre,d2,hk1,hk2,w8,true_and,and_self,if_true];exact e1)
     ·have d2:decide (v=2)=false:=decide_eq_false hv2
      have hh:aPq v b a=bL2 b a:=by unfold aPq;rw[if_neg hv2]
      have hn:rfN v b a=rvN b a:=by unfold rfN;rw[if_neg hv2]
      have hf:aL3 v b a=aCp b a:=by unfold aL3;rw[if_neg hv2]
      rw[hh,hn,hf]
      cases hk2:bL2 b a with
      |false=>simp only[aC1,aCk,aE8,hv,hp,ha,pre,hk2,Bool.false_eq_true,if_false,and_false];first | rfl | (cases hk1:aD9 b a 4<;>simp only[aC1,aCk,aE8,d2]<;>rfl)
      |true=>simp only[aC1,aCk,aE8,hv,hp,ha,pre,d2,hk2,true_and,and_self,if_true];exact e2
 ·cases h
theorem bG6:aA9 Tryz.prog aSi:=aA8 (by simp[aNz,aY6,aS9,aSx])
theorem aSw:aB0 Tryz.prog 83 (sg [pI,pI,pS,pI] [rS,rI,rB]) aEq:=aA6 bG6 aAa Tryz.func83 (by kernel_rfl) fun cs outs hk h=>by
 unfold aEq at h
 split at h
 ·simp only[Option.some.injEq,Prod.mk.injEq,Bool.and_eq_true,decide_eq_true_eq]at h
  obtain⟨⟨h1,h2,h3⟩,rfl⟩:=h
  rename_i v p b a
  rw[aAd,aVq,bQh]
  have pre:(decide (b.length≤281474976710656)&&(decide (-9223372036854775808≤a)&&decide (a≤9223372036854775807)))=true:=by simp[h1,h2,h3]
  obtain⟨r1,r2,r3,r4,r5⟩:=bL1 b a
  obtain⟨f1,f2,f3⟩:=bGl b a 4
  by_cases hv2:v=2
  ·have d2:decide (v=2)=true:=decide_eq_true hv2
   have hh:aPq v b a=aD9 b a 4:=by unfold aPq;rw[if_pos hv2]
   have hn:rfN v b a=aAy b a 4:=by unfold rfN;rw[if_pos hv2]
   have hf:aL3 v b a=a+8:=by unfold aL3;rw[if_pos hv2]
   rw[hh,hn,hf]
   cases hk1:aD9 b a 4 with
   |false=>simp only[aC1,aCk,aE8,pre,d2,hk1,Bool.false_eq_true,and_false,if_false];rfl
   |true =>
    have ha:=f3 hk1
    have w8:IntKind.i64.wrap (a+8)=a+8:=by rw[aAi]<;>omega
    have e1:=aZ6 v p b a (aAy b a 4) (a+8) h1 f1 f2 (by omega) (by omega) h3
    simp only[aC1,aCk,aE8,pre,d2,hk1,w8,and_true]
    exact e1
  ·have d2:decide (v=2)=false:=decide_eq_false hv2
   have hh:aPq v b a=bL2 b a:=by unfold aPq;rw[if_neg hv2]
   have hn:rfN v b a=rvN b a:=by unfold rfN;rw[if_neg hv2]
   have hf:aL3 v b a=aCp b a:=by unfold aL3;rw[if_neg hv2]
   rw[hh,hn,hf]
   cases hk1:bL2 b a with
   |false=>simp only[aC1,aCk,aE8,pre,d2,hk1,Bool.false_eq_true,and_false,if_false];rfl
   |true =>
    have e1:=aZ6 v p b a (rvN b a) (aCp b a) h1 r1 (by omega) r3 (by omega) h3
    simp only[aC1,aCk,aE8,pre,d2,hk1,and_true]
    exact e1
 ·cases h
noncomputable section
def aOk:RTy:=⟨true,[(.bool,false),(.int .i64,false),(.int .i64,false),(.int .i64,false),(.int .i64,false),(.slice 9,true),(.slice 3,true),(.int .i64,false),(.bool,false)]⟩
def aGb (v p:Int) (b:List UInt8):Nat→Int→Int→List (List UInt8)→List Int→(List (List UInt8)×List Int×Int×Bool)
 |0,_,e,rs,os=>(rs,os,e,false)
 |f+1,k,e,rs,os=>if aL4 v (p+k) b e then (rs,os,e,true)else if bF9 v (p+k) b e then aGb v p b f (k+1) (aOi v (p+k) b e) (rs++[aRc v (p+k) b e]) (os++[e])else (rs,os,e,false)
def aJj (b:List UInt8):List (List UInt8)×List Int×Int×Bool:=if aAe b then aGb (rhV b) (rhB b) b (b.length+1) 0 24 [] []else ([],[],0,false)
def aB8 (b:List UInt8):List (List UInt8):=(aJj b).1
def aGc (b:List UInt8):List Int:=(aJj b).2.1
def bHy (b:List UInt8):Int:=(aJj b).2.2.1
def aU2 (b:List UInt8):Bool:=(aJj b).2.2.2
def aKd:aCh:=fun cs=>match cs with
 |[.str b]=>some (decide (b.length≤1048576),[.bool (aAe b),.int .i64 (ifI (aAe b) (rhV b)),.int .i64 (ifI (aAe b) (rhS b)),.int .i64 (ifI (aAe b) (rhB b)),.int .i64 (ifI (aAe b) (rhL b)),.sl ((aB8 b).map aAn),.sl ((aGc b).map aL7),.int .i64 (bHy b),.bool (aU2 b)])
 |_=>none
def aMa (b:List UInt8) (v s bb l e:Int):St:={slots:=[(0,aT0 b),(2,.l (.ptr 0 0)),(3,.l (.ptr 1 0)),(5,.l (.ptr 2 0))],heap:=[(0,.box [.b false,.i .i64 0,.i .i64 0,.i .i64 0,.i .i64 0,.nil,.nil,.i .i64 0,.b false]),(1,.box [.i .i64 v,.i .i64 s,.i .i64 bb,.i .i64 l]),(2,.box [.b true,.i .i64 v,.i .i64 s,.i .i64 bb,.i .i64 l,.nil,.nil,.i .i64 e,.b false])],next:=3,pins:=[]}
def aIz (b:List UInt8) (v s bb l e:Int) (n:Nat) (r:List (List C)) (m:Nat) (o:List (List C)):St:={slots:=[(0,aT0 b),(2,.l (.ptr 0 0)),(3,.l (.ptr 1 0)),(5,.l (.ptr 2 0))],heap:=[(0,.box [.b false,.i .i64 0,.i .i64 0,.i .i64 0,.i .i64 0,.nil,.nil,.i .i64 0,.b false]),(1,.box [.i .i64 v,.i .i64 s,.i .i64 bb,.i .i64 l]),(2,.box [.b true,.i .i64 v,.i .i64 s,.i .i64 bb,.i .i64 l,.ref 3 0 n,.ref 4 0 m,.i .i64 e,.b false]),(3,.arr 1 r),(4,.arr 1 o)],next:=5,pins:=[]}
def aMe (b:List UInt8) (v s bb l e:Int):St:={slots:=[(0,aT0 b),(2,.l (.ptr 0 0)),(3,.l (.ptr 1 0)),(5,.l (.ptr 2 0))],heap:=[(0,.box [.b false,.i .i64 0,.i .i64 0,.i .i64 0,.i .i64 0,.nil,.nil,.i .i64 0,.b false]),(1,.box [.i .i64 v,.i .i64 s,.i .i64 bb,.i .i64 l]),(2,.box [.b true,.i .i64 v,.i .i64 s,.i .i64 bb,.i .i64 l,.nil,.nil,.i .i64 e,.b false])],next:=3,pins:=[]}
def aJ1 (b:List UInt8) (v s bb l e:Int) (n:Nat) (r:List (List C)) (m:Nat) (o:List (List C)):St:={slots:=[(0,aT0 b),(2,.l (.ptr 0 0)),(3,.l (.ptr 1 0)),(5,.l (.ptr 2 0))],heap:=[(0,.box [.b false,.i .i64 0,.i .i64 0,.i .i64 0,.i .i64 0,.nil,.nil,.i .i64 0,.b false]),(1,.box [.i .i64 v,.i .i64 s,.i .i64 bb,.i .i64 l]),(2,.box [.b true,.i .i64 v,.i .i64 s,.i .i64 bb,.i .i64 l,.ref 3 0 n,.ref 4 0 m,.i .i64 e,.b false]),(3,.arr 1 r),(4,.arr 1 o)],next:=5,pins:=[]}
def aGr:Env:=mkE [(5,[0,2,3,5])] [(64,(sg [pS] [aV0,rB]),aDn),(66,(sg [pI,pI,pS,pI] [rB]),aI2),(67,(sg [pI,pI,pS,pI] [rS,rI,rB]),aEq)]
def aGs:Env:=mkE [(5,[0,2,3,5])] [(81,(sg [pS] [aV0,rB]),aDn),(82,(sg [pI,pI,pS,pI] [rB]),aI2),(83,(sg [pI,pI,pS,pI] [rS,rI,rB]),aEq)]
end
theorem aXc (H:List Pt→Nat→St→T (List C)) (b:List UInt8):aAm aGr aAb (sg [pS] [aOk]) Tryz.f51 H [C.str b]=(.must true (.must true (.must (decide (b.length≤281474976710656)) (.must true (.ask (aAe b) (H [Pt.r,Pt.r,Pt.r,Pt.r,Pt.b] 9223372036854775808 (aMa (b) (ifI (aAe b) (rhV b)) (ifI (aAe b) (rhS b)) (ifI (aAe b) (rhB b)) (ifI (aAe b) (rhL b)) ((24:Int)))) (.must true (.ret [C.bool false,C.int .i64 0,C.int .i64 0,C.int .i64 0,C.int .i64 0,C.sl [],C.sl [],C.int .i64 0,C.bool false]))))))):=by kernel_rfl
theorem aY5 (H:List Pt→Nat→St→T (List C)) (b:List UInt8):aAm aGs aAb (sg [pS] [aOk]) Tryz.f61 H [C.str b]=(.must true (.must true (.must (decide (b.length≤281474976710656)) (.must true (.ask (aAe b) (H [Pt.r,Pt.r,Pt.r,Pt.r,Pt.b] 9223372036854775808 (aMe (b) (ifI (aAe b) (rhV b)) (ifI (aAe b) (rhS b)) (ifI (aAe b) (rhB b)) (ifI (aAe b) (rhL b)) ((24:Int)))) (.must true (.ret [C.bool false,C.int .i64 0,C.int .i64 0,C.int .i64 0,C.int .i64 0,C.sl [],C.sl [],C.int .i64 0,C.bool false]))))))):=by kernel_rfl
theorem aR6 (H:List Pt→Nat→St→T (List C)) (b:List UInt8) (v:Int) (s:Int) (q:Int) (l:Int) (e:Int) (k:Nat):aBk aGr aAb (sg [pS] [aOk]) Tryz.f51 H [Pt.r,Pt.r,Pt.r,Pt.r,Pt.b] k (aMa b v s q l e)=(.must true (.must (decide (b.length≤281474976710656)) (.must true (.ask (aL4 v (IntKind.i64.wrap (q+(0:Int))) b e) (.must true (.ret [C.bool true,C.int .i64 v,C.int .i64 s,C.int .i64 q,C.int .i64 l,C.sl [],C.sl [],C.int .i64 e,C.bool true])) (.must true (.must (decide (b.length≤281474976710656)&&(decide ((-9223372036854775808:Int)≤e)&&decide (e≤(9223372036854775807:Int)))) (.must true (.ask (bF9 v (IntKind.i64.wrap (q+(0:Int))) b e) (.must true (.must true (H [Pt.r,Pt.r,Pt.r,Pt.r,Pt.b] k (aIz (b) (v) (s) (q) (l) (aOi v (IntKind.i64.wrap (q+(0:Int))) b e) (1) ([[C.str (aRc v (IntKind.i64.wrap (q+(0:Int))) b e)]]) (1) ([[C.int .i64 e]]))))) (.must true (.ret [C.bool true,C.int .i64 v,C.int .i64 s,C.int .i64 q,C.int .i64 l,C.sl [],C.sl [],C.int .i64 e,C.bool false])))))))))):=by kernel_rfl
theorem aRn (H:List Pt→Nat→St→T (List C)) (b:List UInt8) (v:Int) (s:Int) (q:Int) (l:Int) (e:Int) (k:Nat):aBk aGs aAb (sg [pS] [aOk]) Tryz.f61 H [Pt.r,Pt.r,Pt.r,Pt.r,Pt.b] k (aMe b v s q l e)=(.must true (.must (decide (b.length≤281474976710656)) (.must true (.ask (aL4 v (IntKind.i64.wrap (q+(0:Int))) b e) (.must true (.ret [C.bool true,C.int .i64 v,C.int .i64 s,C.int .i64 q,C.int .i64 l,C.sl [],C.sl [],C.int .i64 e,C.bool true])) (.must true (.must (decide (b.length≤281474976710656)&&(decide ((-9223372036854775808:Int)≤e)&&decide (e≤(9223372036854775807:Int)))) (.must true (.ask (bF9 v (IntKind.i64.wrap (q+(0:Int))) b e) (.must true (.must true (H [Pt.r,Pt.r,Pt.r,Pt.r,Pt.b] k (aJ1 (b) (v) (s) (q) (l) (aOi v (IntKind.i64.wrap (q+(0:Int))) b e) (1) ([[C.str (aRc v (IntKind.i64.wrap (q+(0:Int))) b e)]]) (1) ([[C.int .i64 e]]))))) (.must true (.ret [C.bool true,C.int .i64 v,C.int .i64 s,C.int .i64 q,C.int .i64 l,C.sl [],C.sl [],C.int .i64 e,C.bool false])))))))))):=by kernel_rfl
theorem aR5 (H:List Pt→Nat→St→T (List C)) (b:List UInt8) (v:Int) (s:Int) (q:Int) (l:Int) (e:Int) (n:Nat) (r:List (List C)) (n2:Nat) (o:List (List C)) (k:Nat):aBk aGr aAb (sg [pS] [aOk]) Tryz.f51 H [Pt.r,Pt.r,Pt.r,Pt.r,Pt.b] k (aIz b v s q l e n r n2 o)=(.must true (.must (decide (b.length≤281474976710656)) (.must true (.ask (aL4 v (IntKind.i64.wrap (q+(↑n:Int))) b e) (.must (true&&(false||true)&&(true&&(false||true)&&(true&&(false||true)&&(true&&(false||true)&&(true&&(false||true)&&(decide (n=r.length)&&(false||r.all fun r=>r.all C.flat)&&(decide (n2=o.length)&&(false||o.all fun r=>r.all C.flat)&&(true&&(false||true)&&(true&&(false||true)&&true))))))))&&true&&true) (.ret [C.bool true,C.int .i64 v,C.int .i64 s,C.int .i64 q,C.int .i64 l,C.sl r,C.sl o,C.int .i64 e,C.bool true])) (.must true (.must (decide (b.length≤281474976710656)&&(decide ((-9223372036854775808:Int)≤e)&&decide (e≤(9223372036854775807:Int)))) (.must true (.ask (bF9 v (IntKind.i64.wrap (q+(↑n:Int))) b e) (.must (decide (n=r.length)&&aBe (r.length+1) 16&&(decide (1=1)&&true)) (.must (decide (n2=o.length)&&aBe (o.length+1) 8&&(decide (1=1)&&true)) (H [Pt.r,Pt.r,Pt.r,Pt.r,Pt.b] k (aIz (b) (v) (s) (q) (l) (aOi v (IntKind.i64.wrap (q+(↑n:Int))) b e) (r.length+1) (r.append [[C.str (aRc v (IntKind.i64.wrap (q+(↑n:Int))) b e)]]) (o.length+1) (o.append [[C.int .i64 e]]))))) (.must (true&&(false||true)&&(true&&(false||true)&&(true&&(false||true)&&(true&&(false||true)&&(true&&(false||true)&&(decide (n=r.length)&&(false||r.all fun r=>r.all C.flat)&&(decide (n2=o.length)&&(false||o.all fun r=>r.all C.flat)&&(true&&(false||true)&&(true&&(false||true)&&true))))))))&&true&&true) (.ret [C.bool true,C.int .i64 v,C.int .i64 s,C.int .i64 q,C.int .i64 l,C.sl r,C.sl o,C.int .i64 e,C.bool false])))))))))):=by kernel_rfl
theorem aRm (H:List Pt→Nat→St→T (List C)) (b:List UInt8) (v:Int) (s:Int) (q:Int) (l:Int) (e:Int) (n:Nat) (r:List (List C)) (n2:Nat) (o:List (List C)) (k:Nat):aBk aGs aAb (sg [pS] [aOk]) Tryz.f61 H [Pt.r,Pt.r,Pt.r,Pt.r,Pt.b] k (aJ1 b v s q l e n r n2 o)=(.must true (.must (decide (b.length≤281474976710656)) (.must true (.ask (aL4 v (IntKind.i64.wrap (q+(↑n:Int))) b e) (.must (true&&(false||true)&&(true&&(false||true)&&(true&&(false||true)&&(true&&(false||true)&&(true&&(false||true)&&(decide (n=r.length)&&(false||r.all fun r=>r.all C.flat)&&(decide (n2=o.length)&&(false||o.all fun r=>r.all C.flat)&&(true&&(false||true)&&(true&&(false||true)&&true))))))))&&true&&true) (.ret [C.bool true,C.int .i64 v,C.int .i64 s,C.int .i64 q,C.int .i64 l,C.sl r,C.sl o,C.int .i64 e,C.bool true])) (.must true (.must (decide (b.length≤281474976710656)&&(decide ((-9223372036854775808:Int)≤e)&&decide (e≤(9223372036854775807:Int)))) (.must true (.ask (bF9 v (IntKind.i64.wrap (q+(↑n:Int))) b e) (.must (decide (n=r.length)&&aBe (r.length+1) 16&&(decide (1=1)&&true)) (.must (decide (n2=o.length)&&aBe (o.length+1) 8&&(decide (1=1)&&true)) (H [Pt.r,Pt.r,Pt.r,Pt.r,Pt.b] k (aJ1 (b) (v) (s) (q) (l) (aOi v (IntKind.i64.wrap (q+(↑n:Int))) b e) (r.length+1) (r.append [[C.str (aRc v (IntKind.i64.wrap (q+(↑n:Int))) b e)]]) (o.length+1) (o.append [[C.int .i64 e]]))))) (.must (true&&(false||true)&&(true&&(false||true)&&(true&&(false||true)&&(true&&(false||true)&&(true&&(false||true)&&(decide (n=r.length)&&(false||r.all fun r=>r.all C.flat)&&(decide (n2=o.length)&&(false||o.all fun r=>r.all C.flat)&&(true&&(false||true)&&(true&&(false||true)&&true))))))))&&true&&true) (.ret [C.bool true,C.int .i64 v,C.int .i64 s,C.int .i64 q,C.int .i64 l,C.sl r,C.sl o,C.int .i64 e,C.bool false])))))))))):=by kernel_rfl
def bTk (v s q l:Int) (x:List (List UInt8)×List Int×Int×Bool):List C:=[.bool true,.int .i64 v,.int .i64 s,.int .i64 q,.int .i64 l,.sl (x.1.map aAn),.sl (x.2.1.map aL7),.int .i64 x.2.2.1,.bool x.2.2.2]
theorem aPp (v p:Int) (b:List UInt8) (a:Int) (h:bF9 v p b a=true):a+1≤aOi v p b a∧aOi v p b a≤b.length∧0≤a:=by
 unfold aOi
 rw[if_pos h]
 unfold bF9 at h
 simp only[Bool.and_eq_true,decide_eq_true_eq]at h
 obtain⟨⟨⟨⟨hv,hp⟩,hh⟩,hn1,hn2⟩,ha⟩:=h
 have hl:(aPo v b a).length≤60:=by unfold aPo;simp;omega
 have hne:=aM2 v p (aPo v b a) hv hp hl
 obtain⟨h1,h2,h3⟩:=(aG0 _ _ _).1 ha
 generalize aAf v p (aPo v b a)=t at hne h3
 have hpos:0<t.length:=List.length_pos_iff.2 hne
 have:=congrArg List.length h3
 simp at this
 omega
theorem bSm (rs:List (List UInt8)) (x:List UInt8):(rs.map aAn).append [[C.str x]]=(rs++[x]).map aAn:=by simp
theorem bSn (rs:List Int) (x:Int):(rs.map aL7).append [[C.int .i64 x]]=(rs++[x]).map aL7:=by simp
theorem aUb (b:List UInt8) (v s q l:Int) (hb:b.length≤1048576) (hq:0≤q∧q≤1000000000):∀ (n f:Nat) (e:Int) (rs:List (List UInt8)) (os:List Int),0≤e→e≤b.length→(b.length:Int)<e+n→(b.length:Int)<e+f→rs.length=os.length→(rs.length:Int)≤e →
  (aBn aGr aAb (sg [pS] [aOk]) Tryz.f51 [.r,.r,.r,.r,.b] n (aIz b v s q l e rs.length (rs.map aAn) os.length (os.map aL7))).eval=some (bTk v s q l (aGb v q b f rs.length e rs os)):=by
 intro n
 induction n with
 |zero=>intro f e rs os h0 h1 h2 h3 h4 h5;omega
 |succ n ih =>
  intro f e rs os h0 h1 h2 h3 h4 h5
  obtain⟨f,rfl⟩:∃ g,f=g+1:=⟨f-1,by omega⟩
  rw[aAz _ _ _ _ _ _ _ (by kernel_rfl),aR5]
  have w:IntKind.i64.wrap (q+(rs.length:Int))=q+(rs.length:Int):=by rw[aAi]<;>omega
  have pre1:decide (b.length≤281474976710656)=true:=decide_eq_true (by omega)
  have pre2:(decide ((-9223372036854775808:Int)≤e)&&decide (e≤(9223372036854775807:Int)))=true:=by simp;omega
  have ro1:aBe (rs.length+1) 16=true:=by simp only[aBe,decide_eq_true_eq];omega
  have ro2:aBe (os.length+1) 8=true:=by simp only[aBe,decide_eq_true_eq];omega
  have fl1:=aHc rs
  have fl2:=bGk os
  rw[w]
  simp only[aGb]
  cases hm:aL4 v (q+(rs.length:Int)) b e with
  |true =>
   simp only[aC1,aCk,pre1,hm,aA2,aA3,List.length_map,decide_true,fl1,fl2,Bool.false_or,Bool.or_true,Bool.and_self,if_true]
   rfl
  |false =>
   cases ho:bF9 v (q+(rs.length:Int)) b e with
   |true =>
    obtain⟨g1,g2,g3⟩:=aPp _ _ _ _ ho
    have e1:=ih f (aOi v (q+(rs.length:Int)) b e) (rs++[aRc v (q+(rs.length:Int)) b e]) (os++[e]) (by omega) g2 (by omega) (by omega) (by simp;omega) (by simp;omega)
    simp only[aC1,aCk,aE8,pre1,pre2,hm,ho,aA2,List.length_map,decide_true,ro1,ro2,Bool.and_self,Bool.and_true,if_true,bSm,bSn,Bool.false_eq_true,if_false]
    simp only[List.length_append,List.length_cons,List.length_nil,Nat.zero_add,Int.natCast_add,Int.natCast_one]at e1 ⊢
    exact e1
   |false =>
    simp only[aC1,aCk,aE8,pre1,pre2,hm,ho,aA2,aA3,List.length_map,decide_true,fl1,fl2,Bool.false_or,Bool.or_true,Bool.and_self,if_true,Bool.false_eq_true,if_false]
    rfl
theorem aUc (b:List UInt8) (v s q l:Int) (hb:b.length≤1048576) (h24:24≤b.length) (hq:0≤q∧q≤1000000000) (n:Nat) (hn:b.length<n) :
  (aBn aGr aAb (sg [pS] [aOk]) Tryz.f51 [.r,.r,.r,.r,.b] (n+1) (aMa b v s q l 24)).eval=some (bTk v s q l (aGb v q b (b.length+1) 0 24 [] [])):=by
 rw[aAz _ _ _ _ _ _ _ (by kernel_rfl),aR6]
 have w:IntKind.i64.wrap (q+0)=q+0:=by rw[aAi]<;>omega
 have pre1:decide (b.length≤281474976710656)=true:=decide_eq_true (by omega)
 have pre2:(decide ((-9223372036854775808:Int)≤24)&&decide ((24:Int)≤(9223372036854775807:Int)))=true:=by decide
 rw[w]
 simp only[aGb]
 cases hm:aL4 v (q+0) b 24 with
 |true =>
  simp only[aC1,aCk,pre1,hm,aA2,aA3,if_true]
  rfl
 |false =>
  cases ho:bF9 v (q+0) b 24 with
  |true =>
   obtain⟨g1,g2,g3⟩:=aPp _ _ _ _ ho
   have e1:=aUb b v s q l hb hq n b.length (aOi v (q+0) b 24) [aRc v (q+0) b 24] [24] (by omega) g2 (by omega) (by omega) rfl (by show (1:Int)≤_;omega)
   simp only[aC1,aCk,aE8,pre1,pre2,hm,ho,Bool.and_self,Bool.false_eq_true,if_false,if_true,List.nil_append]
   exact e1
  |false =>
   simp only[aC1,aCk,aE8,pre1,pre2,hm,ho,aA2,aA3,if_true,Bool.and_self,Bool.false_eq_true,if_false]
   rfl
theorem bI4:aA9 Tryz.prog aGr:=aA8 (by simp[aLj,bAy,aSp])
theorem aLh:aB0 Tryz.prog 51 (sg [pS] [aOk]) aKd:=aA6 bI4 aAa Tryz.func51 (by kernel_rfl) fun cs outs hk h=>by
 unfold aKd at h
 split at h
 ·simp only[Option.some.injEq,Prod.mk.injEq,decide_eq_true_eq]at h
  obtain⟨h1,rfl⟩:=h
  rename_i b
  rw[aAd,aXc]
  have pre1:decide (b.length≤281474976710656)=true:=decide_eq_true (by omega)
  cases hr:aAe b with
  |false =>
   have e1:aJj b=([],[],0,false):=by unfold aJj;rw[hr];rfl
   simp only[aC1,aCk,aE8,pre1,hr,aA2,aA3,if_true,aB8,aGc,bHy,aU2,e1,ifI,Bool.false_eq_true,if_false]
   rfl
  |true =>
   have h24:24≤b.length∧aD9 b 8 8=true∧aBu (rhV b) (rhS b) (rhB b) (rhL b)=b.take 24:=by
    unfold aAe at hr
    simpa[and_assoc]using hr
   have hq:0≤rhB b∧rhB b≤1000000000:=by
    have ht:=h24.2.2
    cases hk:aF1 (rhV b) (rhS b) (rhB b) (rhL b)with
    |true=>have:=(aI4 _ _ _ _).1 hk;exact this.2.2.1
    |false =>
     unfold aBu at ht
     rw[hk]at ht
     have:=congrArg List.length ht
     simp at this
     omega
   have e1:aJj b=aGb (rhV b) (rhB b) b (b.length+1) 0 24 [] []:=by unfold aJj;rw[hr];rfl
   have lp:=aUc b (rhV b) (rhS b) (rhB b) (rhL b) h1 h24.1 hq 9223372036854775807 (by omega)
   rw[←e1]at lp
   simp only[aC1,aCk,aE8,pre1,hr,ifI,if_true]
   exact lp
 ·cases h
theorem aVo (b:List UInt8) (v s q l:Int) (hb:b.length≤1048576) (hq:0≤q∧q≤1000000000):∀ (n f:Nat) (e:Int) (rs:List (List UInt8)) (os:List Int),0≤e→e≤b.length→(b.length:Int)<e+n→(b.length:Int)<e+f→rs.length=os.length→(rs.length:Int)≤e →
  (aBn aGs aAb (sg [pS] [aOk]) Tryz.f61 [.r,.r,.r,.r,.b] n (aJ1 b v s q l e rs.length (rs.map aAn) os.length (os.map aL7))).eval=some (bTk v s q l (aGb v q b f rs.length e rs os)):=by
 intro n
 induction n with
 |zero=>intro f e rs os h0 h1 h2 h3 h4 h5;omega
 |succ n ih =>
  intro f e rs os h0 h1 h2 h3 h4 h5
  obtain⟨f,rfl⟩:∃ g,f=g+1:=⟨f-1,by omega⟩
  rw[aAz _ _ _ _ _ _ _ (by kernel_rfl),aRm]
  have w:IntKind.i64.wrap (q+(rs.length:Int))=q+(rs.length:Int):=by rw[aAi]<;>omega
  have pre1:decide (b.length≤281474976710656)=true:=decide_eq_true (by omega)
  have pre2:(decide ((-9223372036854775808:Int)≤e)&&decide (e≤(9223372036854775807:Int)))=true:=by simp;omega
  have ro1:aBe (rs.length+1) 16=true:=by simp only[aBe,decide_eq_true_eq];omega
  have ro2:aBe (os.length+1) 8=true:=by simp only[aBe,decide_eq_true_eq];omega
  have fl1:=aHc rs
  have fl2:=bGk os
  rw[w]
  simp only[aGb]
  cases hm:aL4 v (q+(rs.length:Int)) b e with
  |true =>
   simp only[aC1,aCk,pre1,hm,aA2,aA3,List.length_map,decide_true,fl1,fl2,Bool.false_or,Bool.or_true,Bool.and_self,if_true]
   rfl
  |false =>
   cases ho:bF9 v (q+(rs.length:Int)) b e with
   |true =>
    obtain⟨g1,g2,g3⟩:=aPp _ _ _ _ ho
    have e1:=ih f (aOi v (q+(rs.length:Int)) b e) (rs++[aRc v (q+(rs.length:Int)) b e]) (os++[e]) (by omega) g2 (by omega) (by omega) (by simp;omega) (by simp;omega)
    simp only[aC1,aCk,aE8,pre1,pre2,hm,ho,aA2,List.length_map,decide_true,ro1,ro2,Bool.and_self,Bool.and_true,if_true,bSm,bSn,Bool.false_eq_true,if_false]
    simp only[List.length_append,List.length_cons,List.length_nil,Nat.zero_add,Int.natCast_add,Int.natCast_one]at e1 ⊢
    exact e1
   |false =>
    simp only[aC1,aCk,aE8,pre1,pre2,hm,ho,aA2,aA3,List.length_map,decide_true,fl1,fl2,Bool.false_or,Bool.or_true,Bool.and_self,if_true,Bool.false_eq_true,if_false]
    rfl
theorem aVp (b:List UInt8) (v s q l:Int) (hb:b.length≤1048576) (h24:24≤b.length) (hq:0≤q∧q≤1000000000) (n:Nat) (hn:b.length<n) :
  (aBn aGs aAb (sg [pS] [aOk]) Tryz.f61 [.r,.r,.r,.r,.b] (n+1) (aMe b v s q l 24)).eval=some (bTk v s q l (aGb v q b (b.length+1) 0 24 [] [])):=by
 rw[aAz _ _ _ _ _ _ _ (by kernel_rfl),aRn]
 have w:IntKind.i64.wrap (q+0)=q+0:=by rw[aAi]<;>omega
 have pre1:decide (b.length≤281474976710656)=true:=decide_eq_true (by omega)
 have pre2:(decide ((-9223372036854775808:Int)≤24)&&decide ((24:Int)≤(9223372036854775807:Int)))=true:=by decide
 rw[w]
 simp only[aGb]
 cases hm:aL4 v (q+0) b 24 with
 |true =>
  simp only[aC1,aCk,pre1,hm,aA2,aA3,if_true]
  rfl
 |false =>
  cases ho:bF9 v (q+0) b 24 with
  |true =>
   obtain⟨g1,g2,g3⟩:=aPp _ _ _ _ ho
   have e1:=aVo b v s q l hb hq n b.length (aOi v (q+0) b 24) [aRc v (q+0) b 24] [24] (by omega) g2 (by omega) (by omega) rfl (by show (1:Int)≤_;omega)
   simp only[aC1,aCk,aE8,pre1,pre2,hm,ho,Bool.and_self,Bool.false_eq_true,if_false,if_true,List.nil_append]
   exact e1
  |false =>
   simp only[aC1,aCk,aE8,pre1,pre2,hm,ho,aA2,aA3,if_true,Bool.and_self,Bool.false_eq_true,if_false]
   rfl
theorem bJr:aA9 Tryz.prog aGs:=aA8 (by simp[aM1,bCd,aSw])
theorem aVn:aB0 Tryz.prog 61 (sg [pS] [aOk]) aKd:=aA6 bJr aAa Tryz.func61 (by kernel_rfl) fun cs outs hk h=>by
 unfold aKd at h
 split at h
 ·simp only[Option.some.injEq,Prod.mk.injEq,decide_eq_true_eq]at h
  obtain⟨h1,rfl⟩:=h
  rename_i b
  rw[aAd,aY5]
  have pre1:decide (b.length≤281474976710656)=true:=decide_eq_true (by omega)
  cases hr:aAe b with
  |false =>
   have e1:aJj b=([],[],0,false):=by unfold aJj;rw[hr];rfl
   simp only[aC1,aCk,aE8,pre1,hr,aA2,aA3,if_true,aB8,aGc,bHy,aU2,e1,ifI,Bool.false_eq_true,if_false]
   rfl
  |true =>
   have h24:24≤b.length∧aD9 b 8 8=true∧aBu (rhV b) (rhS b) (rhB b) (rhL b)=b.take 24:=by
    unfold aAe at hr
    simpa[and_assoc]using hr
   have hq:0≤rhB b∧rhB b≤1000000000:=by
    have ht:=h24.2.2
    cases hk:aF1 (rhV b) (rhS b) (rhB b) (rhL b)with
    |true=>have:=(aI4 _ _ _ _).1 hk;exact this.2.2.1
    |false =>
     unfold aBu at ht
     rw[hk]at ht
     have:=congrArg List.length ht
     simp at this
     omega
   have e1:aJj b=aGb (rhV b) (rhB b) b (b.length+1) 0 24 [] []:=by unfold aJj;rw[hr];rfl
   have lp:=aVp b (rhV b) (rhS b) (rhB b) (rhL b) h1 h24.1 hq 9223372036854775807 (by omega)
   rw[←e1]at lp
   simp only[aC1,aCk,aE8,pre1,hr,ifI,if_true]
   exact lp
 ·cases h
noncomputable section
def aMf:aCh:=fun cs=>match cs with
 |[.int .u64 n]=>some (decide (n=16),[.int .i64 4])
 |_=>none
def aV6:aCh:=fun cs=>match cs with
 |[.int .i64 n]=>some (decide (n=16),[.bool true])
 |_=>none
abbrev aSt:PTy:=.val false [.int .u64]
def aM3 (n:Nat):UInt8:=([48,49,50,51,52,53,54,55,56,57,97,98,99,100,101,102]:List UInt8).getD (n % 16) 0
def bCm:Nat→Nat→List UInt8→List UInt8
 |0,_,acc=>acc
 |f+1,n,acc=>if 16≤n then bCm f (n / 16) (aM3 n::acc)else aM3 n::acc
def aH9 (n:Nat):List UInt8:=bCm 16 n []
def aRv:aCh:=fun cs=>match cs with
 |[.sl [],.int .u64 u,.int .i64 base,.bool false,.bool false]=>some (decide (base=16)&&(decide (0≤u)&&decide (u≤1000000000)),[.sl [],.str (aH9 u.toNat)])
 |_=>none
def aJq:aCh:=fun cs=>match cs with
 |[.int .i64 n,.int .i64 base]=>some (decide (base=16)&&(decide (0≤n)&&decide (n≤1000000000)),[.str (aH9 n.toNat)])
 |_=>none
def aK5 (u i s b m:Int) (r:List (List C)):St:=st1 [(0,.l (.sl [])),(1,.l (.i .u64 u)),(3,.l (.b false)),(4,.l (.b false)),(10,.l .nil),(11,.l (.s [])),(12,.l (.eptr 0 0 0)),(13,aBc i),(14,.l (.i .u64 s)),(15,.l (.i .u64 b)),(16,.l (.i .u64 m))] 1 r
def bW8:Env:=mkE [] []
def cBf:Env:=mkE [] [(182,(sg [aSt] [rI]),aMf)]
def bT1:Env:=mkE [] []
def aK7:Env:=mkE [(11,[0,1,3,4,10,11,12,13,14,15,16]),(18,[0,1,3,4,10,11,12,13,17])] [(178,(sg [aSt] [rI]),aMf),(177,(sg [pI] [rB]),aV6)]
def bMb:Env:=mkE [] [(164,(sg [pSl 5,aSt,pI,pB,pB] [rSl 5,rS]),aRv)]
def bHm:Env:=mkE [] [(147,(sg [pI,pI] [rS]),aJq)]
def aMn:aCh:=fun cs=>match cs with
 |[.int .u64 a,.int .u64 n]=>some (decide (a=1)&&(decide (0≤n)&&decide (n≤8)),[.int .u64 0,.int .u64 n])
 |_=>none
abbrev bOu:RTy:=⟨false,[(.int .u64,false)]⟩
def bSz:Env:=mkE [] []
def bWb:Env:=mkE [] [(166,(sg [aSt,aSt] [bOu,bOu]),aMn)]
def bBi:aCh:=fun cs=>match cs with
 |[.str s,.int .i64 n]=>some (decide (s=[48])&&(decide (0≤n)&&decide (n≤8)),[.str (List.replicate n.toNat 48)])
 |_=>none
def bW9:Env:=mkE [(38,[7,8,9])] [(149,(sg [pS,pS] [rB]),aGk),(148,(sg [aSt,aSt] [bOu,bOu]),aMn)]
def aSy:Nat→Nat→List UInt8
 |0,_=>[]
 |k+1,n=>aSy k (n / 16)++[aM3 n]
def aAp (n:Int):List UInt8:=if inB n 0 1000000000 then[115]++aSy 8 n.toNat++[46,115,101,103]else[]
def aLd:aCh:=fun cs=>match cs with
 |[.int .i64 n]=>some (true,[.str (aAp n)])
 |_=>none
def aH0 (n:Int) (q:Nat) (r:List (List C)) (i:Int):St:=st1 [(0,aBc n),(3,.l (.ref 0 0 q)),(4,aBc i)] 1 r
def aH2:Env:=mkE [(5,[0,3,4])] [(45,(sg [pI,pI,pI] [rB]),aEm)]
def aO3:Env:=mkE [] [(96,(sg [pI] [rB]),aDo),(115,(sg [pI,pI] [rS]),aJq),(116,(sg [pS,pI] [rS]),bBi)]
end
end Go.Proofs.YtajoeindkdhofaaGreatDoor.V
