/- The value-level interpreter over the model, part B: definitions, or lemmas that show that it is the model's. -/
import Derived.Test.YtigodjkegcibhaaGreatDoorVA
import Derived.Laws.Concat
import Derived.Laws.Strings
import Derived.SliceStrings
import Derived.Laws.StructEq
import Derived.Laws.BytesString
import Derived.Laws.Tables
import Derived.DataReads
set_option linter.unusedVariables false
set_option linter.unusedSimpArgs false
set_option linter.unusedSectionVars false
set_option linter.unnecessarySimpa false
namespace Go.Proofs.YtigodjkegcibhaaGreatDoor.V
def aIb:K→Value
 |.int k=>.int k 0
 |.bool=>.bool false
 |.str=>.string ⟨#[]⟩
 |.slice _=>.slice none 0 0
 |.ptr=>.pointer none
 |.func=>.nilFunc
 |.other=>.nilIface
 |.back _ _=>.nilIface
 |.err=>.nilIface
 |.map _ _=>.map none
def aBy:K→TypeDesc→Prop
 |.int k,d=>d=.int k
 |.bool,d=>d=.bool
 |.str,d=>d=.string
 |.slice e,d=>d=.slice e
 |.ptr,d=>∃ e,d=.pointer e
 |.func,d=>∃ a b v,d=.func a b v
 |.other,_=>False
 |.back _ _,_=>False
 |.err,d=>∃ ms,d=.interface ms
 |.map kt et,d=>d=.map kt et
structure bFv (P:Program) (t:TypeId) (ti:TI):Prop where
 info:∃ i z,P.info? t=some i∧i.size=ti.leaves.length∧i.bytes=ti.bytes∧i.zero=some z∧z.cells.toList=ti.leaves.map aIb
 agg:ti.agg=true→∃ fs,P.underlying t=some (.struct fs)∧(∃ places,fs.toList.mapM (fun f=>(P.info? f.type).map fun i=>(f.offset,i.size))=some places)∧(∀ (f o:Nat) (ft:TypeId),ti.fields[f]? =some (o,ft)→∃ fd,fs[f]? =some fd∧fd.offset=o∧fd.type=ft)
 cmp:ti.agg=false→∀ kd,ti.leaves=[.int kd]→∃ i,P.info? t=some i∧i.comparable=true
 zb:ti.agg=false→ti.leaves=[.bool]→∃ i,P.info? t=some i∧i.zero=some (.bool false)
 leaf:ti.agg=false→∃ kd d,ti.leaves=[kd]∧P.underlying t=some d∧aBy kd d
 eq:ti.eq=true→P.stoodInHeld t=false∧P.eqGuardType P.depth t=false∧∃ fs,P.underlying t=some (.struct fs)∧fs.size=ti.leaves.length ∧
  ∀ (j : Nat) (fd : Field), fs[j]? = some fd → fd.name ≠ "_" ∧ fd.offset = j ∧ ∃ kd d, ti.leaves[j]? = some kd ∧ P.underlying fd.type = some d ∧ aBy kd d
structure bTi (P:Program) (t:TypeId) (m:Nat) (e:TypeId) (te:TI):Prop where
 desc:P.underlying t=some (.array m e)
 info:∃ i z,P.info? t=some i∧i.zero=some z∧z.cells.toList=(List.replicate m (te.leaves.map aIb)).flatten
def bW4 (P:Program) (t:TypeId):Prop :=
 ∃ ti e,bFv P t ti∧ti.agg=true∧ti.leaves=[.ptr,.slice e]
structure aDx (P:Program) (E:Env):Prop where
 ty:∀ t ti,E.Ty t=some ti→bFv P t ti
 inl:∀ g fn,E.inl g=some fn→P.funcs[g]? =some fn
 arr:∀ t m e te,E.Arr t=some (m,e)→E.Ty e=some te→bTi P t m e te
 gl:∀ g row,E.gl g=some row→bN4 P g row
 bld:∀ t e,E.bt t=some e→bW4 P t
def aC9 (c:Ctx) (σ:St) (β:aCr) (w:World) (s:Sem Next) (r:R):Prop :=
 ∃ v w' β',(s.run c.P w=.ok (.value v) w'∨(s.run c.P w=.ok .skip w'∧v=undef))∧aB7 c w' r.st.heap r.st.next β'∧Ext c w σ.heap σ.next β w' r.st.heap r.st.next β' ∧
  aFs (okD c r.st.heap β') w' r.st.heap r.st.next β' v r.val∧r.st.slots=σ.slots∧r.st.pins=σ.pins ∧
  (∀ id cells,σ.heap.lookup id=some (.box cells)→∃ cells',r.st.heap.lookup id=some (.box cells')) ∧
  (∀ id,id<σ.next→id∉r.touched→r.st.heap.lookup id=σ.heap.lookup id)
section
variable {c:Ctx} {σ:St} {β:aCr} {w:World}
theorem aAj {s:Sem Next} {v:Value} {x:W} (hh:aB7 c w σ.heap σ.next β) (hr:s.run c.P w=.ok (.value v) w) (hx:aFs (okD c σ.heap β) w σ.heap σ.next β v x) :
  aC9 c σ β w s (aBe σ x) :=
 ⟨v,w,β,.inl hr,hh,Ext.refl _ _ _ _ _,hx,rfl,rfl,fun _ cells h=>⟨cells,h⟩,fun _ _ _=>rfl⟩
theorem aWy {α:Type} {t:Bool} {y n:T α} {r:α} (h:(T.ask t y n).eval=some r):(t=true∧y.eval=some r)∨(t=false∧n.eval=some r):=by
 cases t
 ·exact .inr ⟨rfl,h⟩
 ·exact .inl ⟨rfl,h⟩
theorem aAl {α:Type} {t:Bool} {n:T α} {r:α} (h:(T.must t n).eval=some r):t=true∧n.eval=some r:=by
 cases t
 ·simp[T.eval]at h
 ·exact⟨rfl,h⟩
theorem aA0 {α:Type} {r:α} (h:(T.bad:T α).eval=some r):False:=by simp[T.eval]at h
theorem bOc (ok:Nat→Prop) (h:aCq) (nx:Nat) (v:Value):aFs ok w h nx β v (cst v):=by
 unfold cst
 split<;>first | (simp[aFs,aI5];done) | exact Rep.enil
theorem aLj {a:Act} (hs:∀ t,aFs (okD c σ.heap β) w σ.heap σ.next β (a.tmps.getD t undef) (σ.get t)) (x:Operand):aFs (okD c σ.heap β) w σ.heap σ.next β (a.eval x) (σ.ev x):=by
 cases x with
 |tmp t=>exact hs t
 |const v=>exact bOc _ _ _ v
 |global g=>trivial
 |func f=>exact Rep.fn f [] [] rfl (fun i v x hi _=>by simp at hi)
theorem aHm (s:ByteArray):s.toList=s.data.toList:=ByteArray.toList_eq s
section
variable {ok:Nat→Prop} {h:aCq} {nx:Nat}
theorem bQd {v:Value} {k:IntKind} {n:Int} (r:aFs ok w h nx β v (.l (.i k n))):v=.int k n:=r
theorem bF3 {v:Value} {l:List UInt8} (r:aFs ok w h nx β v (.l (.s l))):∃ s:ByteArray,v=.string s∧s.data.toList=l:=r
theorem bWk (s:ByteArray):aFs ok w h nx β (.string s) (.l (.s s.data.toList)):=⟨s,rfl,rfl⟩
end
theorem aCl (P:Program) (op:BinOp) (t:TypeId) (x y:Operand) (a b:Value) (h:(match a,b with | .nilIface,.nilIface=>false | .agg _,.agg _=>false | _,_=>true)=true) :
  (eqGuard op t x y a b).run P w=.ok () w:=by
 unfold eqGuard
 cases op<;>first
  |rfl
  |(cases a<;>cases b<;>first | rfl | (simp at h;done))
theorem aJm (P:Program) (w:World) (d:Nat) (t e:TypeId) (a:Option Addr) (n m:Nat) (h:P.underlying t=some (.slice e)):(Op.equalIn (d+1) t (.slice a n m) (.slice none 0 0)).run P w=.ok a.isNone w:=by
 cases a<;>simp[Op.equalIn,run_underlying h]
theorem bR9 {α : Type} {op : BinOp} {t : TypeId} {x y : Operand} {u v : Value} {X Y : W} {k : W → T α} {r : α}
    (hX : aFs (okD c σ.heap β) w σ.heap σ.next β u X) (hY : aFs (okD c σ.heap β) w σ.heap σ.next β v Y) (he : (bJc op X Y k).eval = some r) :
    ∃ z Z, (k Z).eval = some r ∧ (do eqGuard op t x y u v; binOp op t u v : Sem Value).run c.P w = .ok z w ∧ aFs (okD c σ.heap β) w σ.heap σ.next β z Z := by
  unfold bJc at he
  split at he
  all_goals first | exact (aA0 he).elim | skip
  all_goals (first | (split at he <;> first | exact (aA0 he).elim | skip) | skip)
  all_goals first
    | (obtain ⟨hc, he⟩ := aAl he; simp only [decide_eq_true_eq] at hc)
    | skip
  all_goals first
    | (have hu := bQd hX; have hv := bQd hY; subst hu; subst hv; subst_vars
       refine ⟨_, _, he, ?_, rfl⟩
       rw [Sem.run_bind, aCl _ _ _ _ _ _ _ rfl]
       first
        | (simp [binOp, Op.intArith, Op.intCmp, Op.intBits, bne, bWe, ior, bW9]; done)
        | (simp [binOp, Op.intDiv, hc]; done)
        | (simp [binOp, Op.shift, bWb, bWa, show ¬ (_ : Int) < 0 from Int.not_lt.2 hc]; done))
    | skip
  all_goals first
    | (obtain ⟨s1, hu, rfl⟩ := bF3 hX; obtain ⟨s2, hv, rfl⟩ := bF3 hY; subst hu; subst hv
       refine ⟨_, _, he, by rw [Sem.run_bind, aCl _ _ _ _ _ _ _ rfl]; simp [binOp, Op.stringOp, aHm]; done, rfl⟩)
    | skip
  · obtain ⟨s1, hu, rfl⟩ := bF3 hX
    obtain ⟨s2, hv, rfl⟩ := bF3 hY
    subst hu; subst hv
    have h1 : s1.size = s1.data.toList.length := by rw [Array.length_toList]; rfl
    have h2 : s2.size = s2.data.toList.length := by rw [Array.length_toList]; rfl
    refine ⟨.string (s1 ++ s2), _, he, ?_, ⟨s1 ++ s2, rfl, by simp⟩⟩
    rw [Sem.run_bind, aCl _ _ _ _ _ _ _ rfl]
    have h3 : ¬ (((s1.size + s2.size : Nat) : Int) > IntKind.i64.max) := by
      have : IntKind.i64.max = 9223372036854775807 := by decide
      rw [this]; omega
    simp only [binOp, Op.stringOp, Result.andThen_ok]
    rw [if_neg h3]
    rfl
theorem aGy {a:Act} {o:Oper} {op:BinOp} {t:TypeId} {x y:Operand} {u:TypeId} (ho:o.op=.binOp op t x y u) {z:Value}
  (h:(do eqGuard op t x y (a.eval x) (a.eval y);binOp op t (a.eval x) (a.eval y):Sem Value).run c.P w=.ok z w):(execOp a.eval o).run c.P w=.ok (.value z) w:=by
 simp only[execOp,ho]
 rw[Sem.run_bind,h]
 rfl
theorem aAh {α:Type} {x y:α} (h:(T.ret x).eval=some y):x=y:=by simpa[T.eval]using h
theorem add_lit (b o j:Nat):(⟨b,o,none⟩:Addr).add j=⟨b,o+j,none⟩:=by unfold Addr.add;split<;>simp_all
theorem aC4 {P:Program} {t:TypeId} {ti:TI} (hT:bFv P t ti) (w:World):(sizeOf t).run P w=.ok ti.leaves.length w:=by
 obtain⟨i,z,hi,hsz,_⟩:=hT.info
 simp[sizeOf,typeInfo,hi,hsz]
theorem aM4 {P:Program} {t:TypeId} {ti:TI} (hT:bFv P t ti) (w:World):(isAgg t).run P w=.ok ti.agg w:=by
 unfold isAgg
 cases hag:ti.agg with
 |true =>
  obtain⟨fs,hu,_⟩:=hT.agg hag
  simp[run_underlying hu]
 |false =>
  obtain⟨kd,d,_,hu,hk⟩:=hT.leaf hag
  rw[Sem.run_bind,run_underlying hu]
  cases kd<;>simp only[aBy]at hk
  ·subst hk;rfl
  ·subst hk;rfl
  ·subst hk;rfl
  ·subst hk;rfl
  ·obtain⟨e,rfl⟩:=hk;rfl
  ·obtain⟨x,y,z,rfl⟩:=hk;rfl
  ·obtain⟨ms,rfl⟩:=hk;rfl
  ·subst hk;rfl
section
variable {ok:Nat→Prop} {h:aCq} {nx:Nat}
theorem aG2 {P:Program} {t:TypeId} {ti:TI} (hT:bFv P t ti) {b o:Nat} {xs:List L} (hl:xs.length=ti.leaves.length)
  (hc:∀ (j:Nat) (x:L),xs[j]? =some x→∃ u,w.cell? ⟨b,o+j,none⟩=some u∧aI5 ok w h nx β u x) :
  ∃ v,(loadVar t ⟨b,o,none⟩).run P w=.ok v w∧aFs ok w h nx β v (wOf ti.agg xs):=by
 cases hag:ti.agg with
 |true =>
  let cs:List Value:=(List.range xs.length).map fun j=>(w.cell? ⟨b,o+j,none⟩).getD undef
  have hcs:∀ j v,cs[j]? =some v→w.cell? ((⟨b,o,none⟩:Addr).add j)=some v:=by
   intro j v hj
   rw[add_lit]
   have hlt:j<xs.length:=by
    have:=(List.getElem?_eq_some_iff.1 hj).1
    simpa[cs]using this
   obtain⟨u,hu,_⟩:=hc j xs[j] (List.getElem?_eq_getElem hlt)
   simp only[cs,List.getElem?_map,List.getElem?_range hlt,Option.map_some,Option.some.injEq]at hj
   rw[hu]at hj ⊢
   simpa using hj
  have hr:=run_loadCells_list (P:=P) w ⟨b,o,none⟩ cs hcs
  refine⟨.agg cs.toArray,?_,cs.toArray,rfl,by simp[cs],?_⟩
  ·have hlen:cs.length=ti.leaves.length:=by simp[cs,hl]
   rw[hlen]at hr
   simp[loadVar,aM4 hT,hag,aC4 hT,hr]
  ·intro j x hx
   obtain⟨u,hu,hru⟩:=hc j x hx
   have hlt:j<xs.length:=(List.getElem?_eq_some_iff.1 hx).1
   refine⟨u,?_,hru⟩
   simp[cs,List.getElem?_range hlt,hu]
 |false =>
  obtain⟨kd,d,hk,_,_⟩:=hT.leaf hag
  have h1:xs.length=1:=by rw[hl,hk];rfl
  match xs,h1 with
  |[x],_ =>
   obtain⟨u,hu,hru⟩:=hc 0 x rfl
   refine⟨u,?_,hru⟩
   simp only[Nat.add_zero]at hu
   simp[loadVar,aM4 hT,hag,hu]
theorem aR5 {row:List C} {off:Nat} {kd:K} (hb:(aG8 row off kd).1=true) :
  ∃ y,row[off]? =some y∧∀ v,Rep w ok v y→aI5 ok w h nx β v (aG8 row off kd).2:=by
 have key:∀ (y:C),row[off]? =some y→row.getD off (.fn 0 [])=y:=fun y hy=>by simp[List.getD,hy]
 cases hy:row[off]? with
 |none =>
  exfalso
  have hd:row.getD off (.fn 0 [])=.fn 0 []:=by simp[List.getD,hy]
  have hlen:¬off<row.length:=fun hlt=>by simp[List.getElem?_eq_getElem hlt]at hy
  cases kd<;>simp[aG8,hlen,hd]at hb
 |some y =>
  refine⟨y,rfl,fun v hv=>?_⟩
  have hd:=key y hy
  cases kd<;>simp only[aG8,hd,C.is,Bool.and_eq_true]at hb ⊢
  ·rename_i k
   cases y<;>simp at hb
   rename_i k' n
   obtain⟨_,rfl⟩:=hb
   cases hv;rfl
  ·cases y<;>simp at hb
   cases hv;rfl
  ·cases y<;>simp at hb
   cases hv;exact⟨_,rfl,rfl⟩
  ·cases y<;>simp at hb
   exact hv
  ·cases y<;>simp at hb ⊢
   cases hv with
   |pt b o row f h1 h2 h3 h4 =>
    refine⟨b,o,rfl,h1,h2,fun j x hx=>?_⟩
    rw[Nat.zero_add]at hx
    exact⟨_,h3 j (List.getElem?_eq_some_iff.1 hx).1,h4 j x hx⟩
  ·cases y<;>simp at hb ⊢
   exact hv
  ·simp at hb
  ·simp at hb
  ·cases y<;>simp at hb
   exact hv
  ·cases y<;>simp at hb
   exact hv
theorem aE9:∀ {ks:List K} {row:List C} {off:Nat},(aBt row off ks).1=true →
  (aBt row off ks).2.length=ks.length∧∀ (j:Nat) (x:L),(aBt row off ks).2[j]? =some x→∃ y,row[off+j]? =some y∧∀ v,Rep w ok v y→aI5 ok w h nx β v x
 |[],_,_,_=>⟨rfl,fun j x hx=>by simp[aBt]at hx⟩
 |kd::ks,row,off,hb=>by
  simp only[aBt,Bool.and_eq_true]at hb
  obtain⟨h1,h2⟩:=aE9 (ks:=ks) hb.2
  refine⟨by simp[aBt,h1],fun j x hx=>?_⟩
  cases j with
  |zero =>
   simp only[aBt,List.getElem?_cons_zero,Option.some.injEq]at hx
   subst hx
   exact aR5 hb.1
  |succ j =>
   simp only[aBt,List.getElem?_cons_succ]at hx
   obtain⟨y,hy,hr⟩:=h2 j x hx
   exact⟨y,by rw[show off+(j+1)=off+1+j by omega];exact hy,hr⟩
end
def aBv (E:Env) (σ:St) (op:Op):Option R:=(vop E σ op T.ret).eval
section
variable {E:Env} {a:Act} {o:Oper} {r:R} (hE:aDx c.P E) (hh:aB7 c w σ.heap σ.next β) (hs:∀ x,aFs (okD c σ.heap β) w σ.heap σ.next β (a.eval x) (σ.ev x))
include hh hs
theorem bKo {x:Operand} (ho:o.op=.move x∨o.op=.assign x) (he:(T.ret (aBe σ (σ.ev x))).eval=some r):aC9 c σ β w (execOp a.eval o) r:=by
 obtain rfl:=aAh he
 refine aAj hh ?_ (hs x)
 rcases ho with ho | ho<;>simp[execOp,ho]
theorem bS9 {x y z:Operand} (ho:o.op=.pick x y z) (he:aBv E σ (.pick x y z)=some r):aC9 c σ β w (execOp a.eval o) r:=by
 simp only[aBv,vop]at he
 have hv:=hs x
 split at he
 ·rename_i hx
  rw[hx]at hv
  obtain hv:a.eval x=.bool true:=hv
  obtain rfl:=aAh he
  exact aAj hh (v:=a.eval y) (by simp[execOp,ho,hv,asBool]) (hs y)
 ·rename_i hx
  rw[hx]at hv
  obtain hv:a.eval x=.bool false:=hv
  obtain rfl:=aAh he
  exact aAj hh (v:=a.eval z) (by simp[execOp,ho,hv,asBool]) (hs z)
 ·exact (aA0 he).elim
theorem bS8 {op:UnOp} {t:TypeId} {x:Operand} (ho:o.op=.unOp op t x) (he:aBv E σ (.unOp op t x)=some r):aC9 c σ β w (execOp a.eval o) r:=by
 simp only[aBv,vop]at he
 have hv:=hs x
 split at he
 ·exact (aA0 he).elim
 ·rename_i hn
  obtain rfl:=aAh he
  revert hn
  unfold vun
  split<;>intro hn
  ·rename_i k n hx
   rw[hx]at hv
   have hv':a.eval x=.int k n:=hv
   exact aAj hh (v:=.int k (k.wrap (0-n))) (by simp[execOp,ho,hv',Op.unary,Op.intArith]) rfl
  ·rename_i k n hx
   rw[hx]at hv
   have hv':a.eval x=.int k n:=hv
   exact aAj hh (v:=.int k (k.wrap ((BitVec.ofInt k.bits (if k.signed then -1 else k.max) ^^^ BitVec.ofInt k.bits n).toNat))) (by simp[execOp,ho,hv',Op.unary,Op.intBits]) rfl
  ·rename_i t hx
   rw[hx]at hv
   have hv':a.eval x=.bool t:=hv
   exact aAj hh (v:=.bool (!t)) (by simp[execOp,ho,hv',Op.unary]) rfl
  ·exact (hn rfl).elim
theorem bCj {x:Operand} (ho:o.op=.nilCheck x) (he:aBv E σ (.nilCheck x)=some r):aC9 c σ β w (execOp a.eval o) r:=by
 simp only[aBv,vop]at he
 have hv:=hs x
 split at he
 ·rename_i id off hx
  split at he
  ·rename_i cells hl
   obtain rfl:=aAh he
   have hv2:=hv
   rw[hx]at hv2
   obtain⟨b,hb,hp⟩:=hv2.2.2.1 cells hl
   rw[hx]at hv
   exact aAj hh (by simp[execOp,ho,hp]) hv
  ·exact (aA0 he).elim
 ·rename_i id r' off hx
  split at he
  ·rename_i sz rows hl
   obtain rfl:=aAh he
   have hv2:=hv
   rw[hx]at hv2
   obtain⟨b,hb,hp⟩:=hv2.2.2 sz rows hl
   rw[hx]at hv
   exact aAj hh (by simp[execOp,ho,hp]) hv
  ·exact (aA0 he).elim
 ·rename_i row off hx
  obtain rfl:=aAh he
  have hv2:=hv
  rw[hx]at hv2
  obtain⟨b,o',hp,_⟩:=hv2
  rw[hx]at hv
  exact aAj hh (by simp[execOp,ho,hp]) hv
 ·exact (aA0 he).elim
omit hh hs in
theorem aLh {P:Program} {t ft:TypeId} {ti tf:TI} (hT:bFv P t ti) (hF:bFv P ft tf) (hag:ti.agg=true) {f of' b oo:Nat} (hf:ti.fields[f]? =some (of',ft)) (hz:tf.leaves.length≠0) (w:World) :
  (Instr.fieldAt t (.pointer (some ⟨b,oo,none⟩)) f).run P w=.ok (.pointer (some ⟨b,oo+of',none⟩)) w:=by
 obtain⟨fs,hu,_,hfs⟩:=hT.agg hag
 obtain⟨fd,hfd,ho,ht⟩:=hfs f of' ft hf
 subst ht
 have hsz:=aC4 hF w
 simp[Instr.fieldAt,run_underlying hu,hfd,Instr.sureAddr,fieldPlace,hsz,hz,add_lit,ho]
include hE in
theorem aZh {t:TypeId} {x:Operand} {f:Nat} (ho:o.op=.fieldAddr t x f) (he:aBv E σ (.fieldAddr t x f)=some r):aC9 c σ β w (execOp a.eval o) r:=by
 simp only[aBv,vop]at he
 have hv:=hs x
 split at he
 ·rename_i ti p hti hx
  split at he
  ·rename_i of' ft hag hf
   split at he
   ·rename_i tf htf
    split at he
    ·exact (aA0 he).elim
    ·rename_i hz
     have hT:=hE.ty t ti hti
     have hF:=hE.ty ft tf htf
     rw[hx]at hv
     split at he
     ·rename_i id off
      split at he
      ·rename_i cells hl
       obtain rfl:=aAh he
       obtain⟨b,hb,hp⟩:=hv.2.2.1 cells hl
       refine aAj hh (v:=.pointer (some ⟨b,off+of',none⟩)) (by simp[execOp,ho,hp,aLh hT hF hag hf hz]) ⟨hv.1,rfl,fun cells' hl'=>⟨b,hb,rfl⟩,fun _ _ _ _=>⟨b,hb,rfl⟩⟩
      ·exact (aA0 he).elim
     ·rename_i id r' off
      split at he
      ·rename_i sz rows hl
       obtain rfl:=aAh he
       obtain⟨b,hb,hp⟩:=hv.2.2 sz rows hl
       refine aAj hh (v:=.pointer (some ⟨b,r'*sz+off+of',none⟩)) (by simp[execOp,ho,hp,aLh hT hF hag hf hz]) ⟨hv.1,rfl,fun sz' rows' hl'=>?_⟩
       obtain⟨b',hb',hp'⟩:=hv.2.2 sz' rows' hl'
       rw[hp]at hp'
       injection hp' with e1;injection e1 with e1;injection e1 with e1 e2
       subst e1
       exact⟨b,hb,by rw[e2,Nat.add_assoc]⟩
      ·exact (aA0 he).elim
     ·rename_i row off
      obtain rfl:=aAh he
      obtain⟨b,o',hp,hok,hlt,hr⟩:=hv
      refine aAj hh (v:=.pointer (some ⟨b,o'+of',none⟩)) (by simp[execOp,ho,hp,aLh hT hF hag hf hz]) ⟨b,o'+of',rfl,hok,hlt,fun j x hj=>?_⟩
      have:=hr (of'+j) x (by rw[←Nat.add_assoc];exact hj)
      rwa [←Nat.add_assoc]at this
     ·exact (aA0 he).elim
   ·exact (aA0 he).elim
  ·exact (aA0 he).elim
 ·exact (aA0 he).elim
omit hh hs in
theorem aIf {P:Program} {t:TypeId} {b oo:Nat} {v:Value} {w':World} (h:(loadVar t ⟨b,oo,none⟩).run P w'=.ok v w'):(Instr.loadAt t (.pointer (some ⟨b,oo,none⟩))).run P w'=.ok v w':=by
 simp[Instr.loadAt,Instr.sureAddr,h]
include hE in
theorem bSa {t:TypeId} {x:Operand} (ho:o.op=.load t x) (he:aBv E σ (.load t x)=some r):aC9 c σ β w (execOp a.eval o) r:=by
 simp only[aBv,vop]at he
 have hv:=hs x
 split at he
 ·rename_i ti id off hti hx
  rw[hx]at hv
  split at he
  ·rename_i cells hl
   split at he
   ·rename_i hlen
    obtain rfl:=aAh he
    obtain⟨b,hb,hp⟩:=hv.2.2.1 cells hl
    obtain⟨_,b',cur,E',fr,hb',hw,_,hsz,hcells⟩:=hh.blk id _ hl
    obtain rfl:b'=b:=by rw[hb]at hb';exact (Option.some.inj hb').symm
    obtain⟨v,hrun,hrep⟩:=aG2 (P:=c.P) (w:=w) (ok:=okD c σ.heap β) (h:=σ.heap) (nx:=σ.next) (β:=β) (hE.ty t ti hti) (b:=b') (o:=off) (xs:=(cells.drop off).take ti.leaves.length)
     (by simp;omega) (fun j x hj=>by
      have hlt:j<ti.leaves.length:=by
       have:=(List.getElem?_eq_some_iff.1 hj).1
       simp at this;omega
      rw[List.getElem?_take_of_lt hlt,List.getElem?_drop]at hj
      obtain⟨u,hu,hru⟩:=hcells (off+j) x hj
      exact⟨u,by rw[cell_of_row w b' (off+j) cur E' fr hw];exact hu,hru⟩)
    exact aAj hh (v:=v) (by simp[execOp,ho,hp,aIf hrun]) hrep
   ·exact (aA0 he).elim
  ·exact (aA0 he).elim
 ·rename_i ti id r' off hti hx
  rw[hx]at hv
  split at he
  ·rename_i sz rows hl
   obtain⟨hc,he⟩:=aAl he
   obtain rfl:=aAh he
   simp only[Bool.and_eq_true,decide_eq_true_eq]at hc
   obtain⟨b,hb,hp⟩:=hv.2.2 sz rows hl
   obtain⟨_,hsz,hrows⟩:=hh.blk id _ hl
   have hne:rows≠[]:=fun e=>by subst e;simp at hc
   obtain⟨b',cur,E',fr,hb',hw,_,hsize,hcells⟩:=hrows.resolve_left hne
   obtain rfl:b'=b:=by rw[hb]at hb';exact (Option.some.inj hb').symm
   obtain⟨hlen,hlv⟩:=aE9 (w:=w) (ok:=okD c σ.heap β) (h:=σ.heap) (nx:=σ.next) (β:=β) hc.2
   have hrow:rows[r']? =some (rows.getD r' []):=by simp[List.getD,List.getElem?_eq_getElem hc.1]
   obtain⟨v,hrun,hrep⟩:=aG2 (P:=c.P) (w:=w) (ok:=okD c σ.heap β) (h:=σ.heap) (nx:=σ.next) (β:=β) (hE.ty t ti hti) (b:=b') (o:=r'*sz+off) hlen (fun j x hj=>by
     obtain⟨y,hy,hry⟩:=hlv j x hj
     obtain⟨u,hu,hru⟩:=hcells r' _ (off+j) y hrow hy
     exact⟨u,by rw[cell_of_row w b' _ cur E' fr hw,Nat.add_assoc];exact hu,hry u hru⟩)
   exact aAj hh (v:=v) (by simp[execOp,ho,hp,aIf hrun]) hrep
  ·exact (aA0 he).elim
 ·rename_i ti row off hti hx
  rw[hx]at hv
  obtain⟨hc,he⟩:=aAl he
  obtain rfl:=aAh he
  obtain⟨b,o',hp,hok,hlt,hr⟩:=hv
  obtain⟨hlen,hlv⟩:=aE9 (w:=w) (ok:=okD c σ.heap β) (h:=σ.heap) (nx:=σ.next) (β:=β) hc
  obtain⟨v,hrun,hrep⟩:=aG2 (P:=c.P) (w:=w) (ok:=okD c σ.heap β) (h:=σ.heap) (nx:=σ.next) (β:=β) (hE.ty t ti hti) (b:=b) (o:=o') hlen (fun j x hj=>by
    obtain⟨y,hy,hry⟩:=hlv j x hj
    obtain⟨u,hu,hru⟩:=hr j y hy
    exact⟨u,hu,hry u hru⟩)
  exact aAj hh (v:=v) (by simp[execOp,ho,hp,aIf hrun]) hrep
 ·rename_i ti hti hx
  split at he
  ·rename_i g
   split at he
   ·rename_i row hgl
    obtain⟨hc,he⟩:=aAl he
    obtain rfl:=aAh he
    obtain⟨⟨hokg,_⟩,hrow⟩:=c.glob g row (hE.gl g row hgl)
    obtain⟨hg1,hg2⟩:=c.old g hokg
    have hsame:=hh.frame g hg1 hg2
    have mono:∀ {v:Value} {x:C},Rep c.w0 c.okR v x→Rep w (okD c σ.heap β) v x:=fun hr=>hr.mono (fun b hb hb1=>⟨⟨.inl hb,fun id blk hl hf hbi=>by
     rcases (hh.place id blk b hl hbi).1 with h | h
     ·omega
     ·exact (c.old b hb).2 h.1⟩,hh.frame b hb1 (c.old b hb).2⟩) hh.size
    obtain⟨hlen,hlv⟩:=aE9 (w:=w) (ok:=okD c σ.heap β) (h:=σ.heap) (nx:=σ.next) (β:=β) hc
    obtain⟨v,hrun,hrep⟩:=aG2 (P:=c.P) (w:=w) (ok:=okD c σ.heap β) (h:=σ.heap) (nx:=σ.next) (β:=β) (hE.ty t ti hti) (b:=g) (o:=0) hlen (fun j x hj=>by
     obtain⟨y,hy,hry⟩:=hlv j x hj
     obtain⟨u,hu,hru⟩:=hrow (0+j) y hy
     exact⟨u,by rw[aEf hsame];exact hu,hry u (mono hru)⟩)
    have hgv:a.eval (.global g)=.pointer (some ⟨g,0,none⟩):=rfl
    exact aAj hh (v:=v) (by simp[execOp,ho,hgv,aIf hrun]) hrep
   ·exact (aA0 he).elim
  ·exact (aA0 he).elim
 ·exact (aA0 he).elim
include hE in
theorem bOm {t:TypeId} {x:Operand} {f:Nat} (ho:o.op=.field t x f) (he:aBv E σ (.field t x f)=some r):aC9 c σ β w (execOp a.eval o) r:=by
 simp only[aBv,vop]at he
 have hv:=hs x
 split at he
 ·rename_i ti xs hti hx
  rw[hx]at hv
  split at he
  ·rename_i of' ft hag hf
   split at he
   ·rename_i tf htf
    split at he
    ·rename_i hlen
     obtain rfl:=aAh he
     obtain⟨vs,hvs,hsz,hel⟩:=hv
     obtain⟨fs,hu,_,hfs⟩:=(hE.ty t ti hti).agg hag
     obtain⟨fd,hfd,hoff,hty⟩:=hfs f of' ft hf
     subst hty
     have hF:=hE.ty _ tf htf
     cases hg:tf.agg with
     |true =>
      refine aAj hh (v:=.agg (vs.extract of' (of'+tf.leaves.length))) (by simp[execOp,ho,hvs,Instr.field,run_underlying hu,hfd,asAgg,part,aM4 hF,hg,aC4 hF,hoff]) ⟨_,rfl,by simp;omega,fun j y hj=>?_⟩
      have hlt:j<tf.leaves.length:=by
       have:=(List.getElem?_eq_some_iff.1 hj).1
       simp at this;omega
      rw[List.getElem?_take_of_lt hlt,List.getElem?_drop]at hj
      obtain⟨u,hu',hru⟩:=hel _ y hj
      refine⟨u,?_,hru⟩
      rw[Array.getElem?_extract]
      have h2:j<min (of'+tf.leaves.length) vs.size-of':=by omega
      simp[h2,hu']
     |false =>
      obtain⟨kd,d,hk,_,_⟩:=hF.leaf hg
      have h1:tf.leaves.length=1:=by rw[hk];rfl
      rw[h1]at hlen ⊢
      have hlt:of'<xs.length:=by omega
      obtain⟨u,hu',hru⟩:=hel of' xs[of'] (List.getElem?_eq_getElem hlt)
      have hone:(xs.drop of').take 1=[xs[of']]:=by rw[List.drop_eq_getElem_cons hlt];rfl
      refine aAj hh (v:=u) (by simp[execOp,ho,hvs,Instr.field,run_underlying hu,hfd,asAgg,part,aM4 hF,hg,hoff,hu']) ?_
      rw[hone]
      exact hru
    ·exact (aA0 he).elim
   ·exact (aA0 he).elim
  ·exact (aA0 he).elim
 ·exact (aA0 he).elim
theorem bHf {x:Operand} {ix:Nat} (ho:o.op=.extract x ix) (he:aBv E σ (.extract x ix)=some r):aC9 c σ β w (execOp a.eval o) r:=by
 simp only[aBv,vop]at he
 have hv:=hs x
 split at he
 ·rename_i xs hx
  rw[hx]at hv
  split at he
  ·rename_i agg ls hp
   obtain rfl:=aAh he
   obtain⟨vs,hvs,hsz,hel⟩:=hv
   obtain⟨u,hu,hru⟩:=hel ix _ hp
   refine aAj hh (v:=u) (by simp[execOp,ho,hvs,Instr.extract,hu]) ?_
   cases agg with
   |true=>exact hru
   |false=>obtain⟨y,rfl,hy⟩:=hru;exact hy
  ·exact (aA0 he).elim
 ·exact (aA0 he).elim
omit hh hs in
theorem bSv (s:ByteArray) (n:Nat) (h:n<s.data.toList.length):s[n]? =some (s.data.toList.getD n 0):=by
 have h1:n<s.size:=by rw[Array.length_toList]at h;exact h
 rw[getElem?_pos s n h1]
 have h2:n<s.data.size:=h1
 simp only[List.getD,Array.getElem?_toList,Array.getElem?_eq_getElem h2,Option.getD_some]
 rfl
include hE in
theorem bOl {t:TypeId} {x ix:Operand} (ho:o.op=.index t x ix) (he:aBv E σ (.index t x ix)=some r):aC9 c σ β w (execOp a.eval o) r:=by
 simp only[aBv,vop]at he
 have hv:=hs x
 have hi:=hs ix
 split at he
 ·rename_i ti l kd j hti hx hix
  rw[hx]at hv
  rw[hix]at hi
  split at he
  ·rename_i hlv hag
   obtain⟨hc,he⟩:=aAl he
   obtain rfl:=aAh he
   simp only[Bool.and_eq_true,decide_eq_true_eq]at hc
   obtain⟨s,hsv,rfl⟩:=hv
   have hiv:a.eval ix=.int kd j:=hi
   obtain⟨kd',d,hk,hu,hud⟩:=(hE.ty t ti hti).leaf hag
   rw[hlv]at hk
   obtain rfl:kd'=.str:=by simpa using hk.symm
   simp only[aBy]at hud
   subst hud
   have hb:=bSv s j.toNat (by omega)
   exact aAj hh (v:=.int .u8 ((s.data.toList.getD j.toNat 0).toNat)) (by simp[execOp,ho,hsv,hiv,Instr.index,asIntOf,run_underlying hu,hc.1,hb]) rfl
  ·exact (aA0 he).elim
 ·exact (aA0 he).elim
omit hh in
theorem aJb {α:Type} {lo hi:Option Operand} {len cap:Nat} (hcap:len≤cap) {k:Nat→Nat→T α} {q:α} (b:Bool)
  (he:(aFr (lo.map σ.ev) (hi.map σ.ev) len k).eval=some q) :
  ∃ l g,(k l g).eval=some q∧l≤g∧g≤len∧∀ y:Nat,len≤y→(Instr.sliceBounds b len y (lo.map a.eval) (hi.map a.eval) none).run c.P w=.ok (l,g,y) w:=by
 have hb:∀ (x:Operand) (kd:IntKind) (n:Int),σ.ev x=.l (.i kd n)→a.eval x=.int kd n:=fun x kd n hx=>by have:=hs x;rw[hx]at this;exact this
 cases lo with
 |none =>
  cases hi with
  |none=>exact⟨0,len,he,Nat.zero_le _,Nat.le_refl _,fun y _=>by simp[Instr.sliceBounds]⟩
  |some h =>
   simp only[aFr,Option.map_none,Option.map_some]at he
   split at he<;>first | exact (aA0 he).elim | skip
   all_goals simp_all
   rename_i kd n hx
   obtain⟨hc,he⟩:=aAl he
   simp only[bEa,Bool.and_eq_true,decide_eq_true_eq]at hc
   refine⟨0,n.toNat,he,Nat.zero_le _,by omega,fun y hy=>?_⟩
   have h2:n≤(y:Int):=by omega
   simp[Instr.sliceBounds,Instr.sliceBound,hb h kd n hx,asIntOf,hc.1,h2]
 |some l0 =>
  cases hi with
  |none =>
   simp only[aFr,Option.map_none,Option.map_some]at he
   split at he<;>first | exact (aA0 he).elim | skip
   all_goals simp_all
   rename_i kd n hx
   obtain⟨hc,he⟩:=aAl he
   simp only[bEa,Bool.and_eq_true,decide_eq_true_eq]at hc
   refine⟨n.toNat,len,he,by omega,Nat.le_refl _,fun y hy=>?_⟩
   simp[Instr.sliceBounds,Instr.sliceBound,hb l0 kd n hx,asIntOf,hc.1,hc.2]
  |some h =>
   simp only[aFr,Option.map_some]at he
   split at he<;>first | exact (aA0 he).elim | skip
   all_goals simp_all
   rename_i kd n kd' m hx hy'
   obtain⟨hc,he⟩:=aAl he
   simp only[bEa,Bool.and_eq_true,decide_eq_true_eq]at hc
   refine⟨n.toNat,m.toNat,he,by omega,by omega,fun y hy=>?_⟩
   have h2:m≤(y:Int):=by omega
   have h3:¬(max m 0<n):=by omega
   simp[Instr.sliceBounds,Instr.sliceBound,hb l0 kd n hx,hb h kd' m hy',asIntOf,hc.1.1,hc.2.1,h2,h3]
omit hh hs in
theorem bRz {ok:Nat→Prop} {v:Value} {rows:List (List C)} (hv:Rep w ok v (.sl rows)) {sz l g:Nat} (hall:∀ r,r∈rows→r.length=sz) (hlg:l≤g) (hg:g≤rows.length) :
  ∃ a0 n cap,v=.slice a0 n cap∧n=rows.length∧n≤cap∧Rep w ok (.slice (if cap=l then a0 else a0.map (·.add (l*sz))) (g-l) (cap-l)) (.sl ((rows.take g).drop l)):=by
 cases hv with
 |emp a0 cap =>
  have h0:g=0:=by simpa using hg
  subst h0
  have h1:l=0:=by omega
  subst h1
  refine⟨a0,0,cap,rfl,rfl,Nat.zero_le _,?_⟩
  simp only[List.take_nil,List.drop_nil,Nat.sub_self]
  exact .emp _ _
 |sl b o n cap sz' rows f h1 h2 h3 h4 h5 h6 h7 =>
  refine⟨_,n,cap,rfl,h1,h2,?_⟩
  by_cases hz:g-l=0
  ·have:(rows.take g).drop l=[]:=by apply List.drop_eq_nil_of_le;simp;omega
   rw[this,hz]
   exact .emp _ _
  ·have hlt:l<rows.length:=by omega
   have hs':sz'=sz:=by
    have m1:=h5 rows[l] (List.getElem_mem hlt)
    have m2:=hall rows[l] (List.getElem_mem hlt)
    omega
   subst hs'
   rw[if_neg (by omega)]
   simp only[Option.map_some,add_lit]
   refine .sl b (o+l*sz') (g-l) (cap-l) sz' _ (fun j=>f (l*sz'+j)) (by simp;omega) (by omega) h3 h4 (fun r hr=>h5 r (List.mem_of_mem_take (List.mem_of_mem_drop hr))) ?_ ?_
   ·intro j hj
    have:=h6 (l*sz'+j) (by
     have:(l+(g-l))*sz'≤n*sz':=Nat.mul_le_mul_right _ (by omega)
     rw[Nat.add_mul]at this;omega)
    rwa [←Nat.add_assoc]at this
   ·intro i r j x hi hj
    rw[List.getElem?_drop]at hi
    have hi':rows[l+i]? =some r:=by
     rw[List.getElem?_take]at hi
     split at hi
     ·exact hi
     ·cases hi
    have:=h7 (l+i) r j x hi' hj
    rwa [Nat.add_mul,Nat.add_assoc]at this
include hE in
theorem bOk {t:TypeId} {x:Operand} {lo hi mx:Option Operand} (ho:o.op=.slice t x lo hi mx) (he:aBv E σ (.slice t x lo hi mx)=some r):aC9 c σ β w (execOp a.eval o) r:=by
 simp only[aBv,vop]at he
 have hv:=hs x
 split at he
 ·rename_i m e hArr
  split at he
  ·rename_i te hte
   split at he
   ·rename_i id n har
    split at he
    ·rename_i hm0
     obtain⟨hm,he2⟩:=aAl he
     clear he
     have hm:m=n:=by simpa using hm
     obtain⟨sz,rows,hx,hl,hsz,hn⟩:∃ sz rows,σ.ev x=.l (.eptr id 0 0)∧σ.heap.lookup id=some (.arr sz rows)∧te.leaves.length=sz∧n=rows.length:=by
      unfold aRy at har
      split at har
      ·rename_i id' hx
       split at har
       ·rename_i sz rows hl
        split at har
        ·rename_i hsz
         simp only[Option.some.injEq,Prod.mk.injEq]at har
         obtain⟨rfl,rfl⟩:=har
         exact⟨sz,rows,hx,hl,hsz,rfl⟩
        ·cases har
       ·cases har
      ·cases har
     subst hn
     rw[hx]at hv
     obtain⟨l,g,he,hlg,hgl,hrun⟩:=aJb (c:=c) (w:=w) (cap:=m) hs (Nat.le_refl _) false he2
     obtain rfl:=aAh he
     obtain⟨b,hb,hval⟩:=hv.2.2 sz rows hl
     obtain⟨_,hrows⟩:=(hh.blk id _ hl).2
     have hne:rows≠[]:=fun e=>by subst e;simp at hm;omega
     obtain⟨b',cur,E',fr,hb',hw,hth,hsize,_⟩:=hrows.resolve_left hne
     obtain rfl:b'=b:=by rw[hb]at hb';exact (Option.some.inj hb').symm
     have hu:=(hE.arr t m e te hArr hte).desc
     refine aAj hh (v:=.slice (if m=l then some ⟨b',0,none⟩else some ⟨b',l*sz,none⟩) (g-l) (m-l)) ?_ ⟨hv.1,rfl,fun blk' sz' rows' hl' hr'=>?_⟩
     ·simp only[execOp,ho,hval,Instr.sliceAt]
      simp[run_underlying hu,hrun m (Nat.le_refl _),aC4 (hE.ty e te hte),hsz,add_lit,apply_ite,Instr.sureAddr]
     ·rw[hl]at hl'
      obtain rfl:=Option.some.inj hl'
      obtain⟨rfl,rfl⟩:sz=sz'∧rows=rows':=by simpa[Blk.rows?]using hr'
      refine⟨by omega,?_⟩
      by_cases hcl:m=l
      ·have h0:g-l=0:=by omega
       have h1:m-l=0:=by omega
       rw[if_pos hcl,h0,h1]
       exact .inl ⟨_,rfl,rfl⟩
      ·rw[if_neg hcl]
       exact .inr ⟨b',m-l,cur,E',fr,hb,rfl,by omega,hw,hth,by
        have:l+(m-l)=rows.length:=by omega
        rw[this];exact hsize⟩
    ·exact (aA0 he).elim
   ·exact (aA0 he).elim
  ·exact (aA0 he).elim
 rename_i hArr
 split at he
 ·rename_i ti l hti hx
  rw[hx]at hv
  split at he
  ·rename_i hlv hag
   obtain⟨s,hsv,rfl⟩:=hv
   have hsz:s.size=s.data.toList.length:=by rw[Array.length_toList];rfl
   obtain⟨l,g,he,hlg,hgl,hrun⟩:=aJb (c:=c) (w:=w) hs (Nat.le_refl _) false he
   obtain rfl:=aAh he
   obtain⟨kd',d,hk,hu,hud⟩:=(hE.ty t ti hti).leaf hag
   rw[hlv]at hk
   obtain rfl:kd'=.str:=by simpa using hk.symm
   simp only[aBy]at hud
   subst hud
   have hr:=hrun s.size (by omega)
   rw[←hsz]at hr
   refine aAj hh (v:=.string (s.extract l g)) ?_ ⟨_,rfl,?_⟩
   ·simp[execOp,ho,hsv,Instr.sliceAt,Instr.slice,run_underlying hu,hr]
   ·simp[List.drop_take]
  ·exact (aA0 he).elim
 ·rename_i ti rows hti hx
  rw[hx]at hv
  split at he
  ·rename_i e hlv hag
   split at he
   ·rename_i te hte
    obtain⟨hall,he⟩:=aAl he
    obtain⟨l,g,he,hlg,hgl,hrun⟩:=aJb (c:=c) (w:=w) (cap:=rows.length) hs (Nat.le_refl _) true he
    obtain rfl:=aAh he
    obtain⟨kd',d,hk,hu,hud⟩:=(hE.ty t ti hti).leaf hag
    rw[hlv]at hk
    obtain rfl:kd'=.slice e:=by simpa using hk.symm
    simp only[aBy]at hud
    subst hud
    obtain⟨a0,n,cap,hval,hn,hnc,hrep⟩:=bRz hv (sz:=te.leaves.length) (by simpa using hall) hlg hgl
    subst hn
    refine aAj hh (v:=_) ?_ hrep
    simp[execOp,ho,hval,Instr.sliceAt,Instr.slice,run_underlying hu,hrun cap hnc,aC4 (hE.ty e te hte)]
   ·exact (aA0 he).elim
  ·exact (aA0 he).elim
 ·rename_i ti id off n hti hx
  rw[hx]at hv
  have key:∀ (e:TypeId) (sz:Nat) (blk:Blk) (rows:List (List C)),ti.leaves=[.slice e]→ti.agg=false→σ.heap.lookup id=some blk→blk.rows? =some (sz,rows) →
    (match E.Ty e with | some te=>if te.leaves.length=sz then aFr (lo.map σ.ev) (hi.map σ.ev) n fun a c=>T.ret (aBe σ (.l (.ref id (off+a) (c-a))))else .bad | none=>.bad).eval=some r→aC9 c σ β w (execOp a.eval o) r:=by
   intro e sz blk rows hlv hag hl hrw he
   split at he
   ·rename_i te hte
    split at he
    ·rename_i hsz
     obtain⟨l,g,he,hlg,hgl,hrun⟩:=aJb (c:=c) (w:=w) (cap:=n) hs (Nat.le_refl _) true he
     obtain rfl:=aAh he
     obtain⟨kd',d,hk,hu,hud⟩:=(hE.ty t ti hti).leaf hag
     rw[hlv]at hk
     obtain rfl:kd'=.slice e:=by simpa using hk.symm
     simp only[aBy]at hud
     subst hud
     obtain⟨hoff,hhdr⟩:=hv.2.2 blk sz rows hl hrw
     rcases hhdr with⟨a0,hval,hn0⟩ | ⟨b,cc,cur,E',fr,hb,hval,hnc,hw,hth,hle⟩
     ·subst hn0
      have h0:g=0:=by omega
      have h1:l=0:=by omega
      subst h0;subst h1
      refine aAj hh (v:=.slice a0 0 0) ?_ ⟨hv.1,rfl,fun blk' sz' rows' hl' hr'=>⟨by have:=(hv.2.2 blk' sz' rows' hl' hr').1;omega,.inl ⟨a0,rfl,rfl⟩⟩⟩
      simp[execOp,ho,hval,Instr.sliceAt,Instr.slice,run_underlying hu,hrun 0 (Nat.zero_le _),aC4 (hE.ty e te hte)]
     ·refine aAj hh (v:=.slice (if cc=l then some ⟨b,off*sz,none⟩else some ⟨b,off*sz+l*sz,none⟩) (g-l) (cc-l)) ?_ ⟨hv.1,rfl,fun blk' sz' rows' hl' hr'=>?_⟩
      ·simp only[execOp,ho,hval,Instr.sliceAt,Instr.slice]
       simp[run_underlying hu,hrun cc hnc,aC4 (hE.ty e te hte),hsz,add_lit,apply_ite]
      ·rw[hl]at hl'
       obtain rfl:=Option.some.inj hl'
       rw[hrw]at hr'
       obtain⟨rfl,rfl⟩:sz=sz'∧rows=rows':=by simpa using hr'
       refine⟨by omega,?_⟩
       by_cases hcl:cc=l
       ·have:g-l=0:=by omega
        rw[if_pos hcl,this,hcl,Nat.sub_self]
        exact .inl ⟨_,rfl,rfl⟩
       ·rw[if_neg hcl]
        exact .inr ⟨b,cc-l,cur,E',fr,hb,by rw[Nat.add_mul],by omega,hw,hth,by
         have:off+l+(cc-l)=off+cc:=by omega
         rw[this];exact hle⟩
    ·exact (aA0 he).elim
   ·exact (aA0 he).elim
  split at he
  ·rename_i e sz rows hlv hag hl
   exact key e sz _ rows hlv hag hl rfl he
  ·rename_i e sz rows hlv hag hl
   exact key e sz _ rows hlv hag hl rfl he
  ·exact (aA0 he).elim
 ·rename_i ti hti hx
  rw[hx]at hv
  split at he
  ·rename_i e hlv hag
   split at he
   ·rename_i te hte
    obtain⟨l,g,he,hlg,hgl,hrun⟩:=aJb (c:=c) (w:=w) (cap:=0) hs (Nat.le_refl _) true he
    obtain rfl:=aAh he
    obtain⟨kd',d,hk,hu,hud⟩:=(hE.ty t ti hti).leaf hag
    rw[hlv]at hk
    obtain rfl:kd'=.slice e:=by simpa using hk.symm
    simp only[aBy]at hud
    subst hud
    have hval:a.eval x=.slice none 0 0:=hv
    have h0:g=0:=by omega
    have h1:l=0:=by omega
    subst h0;subst h1
    refine aAj hh (v:=.slice none 0 0) ?_ rfl
    simp[execOp,ho,hval,Instr.sliceAt,Instr.slice,run_underlying hu,hrun 0 (Nat.le_refl _),aC4 (hE.ty e te hte)]
   ·exact (aA0 he).elim
  ·exact (aA0 he).elim
 ·exact (aA0 he).elim
omit hh hs in
theorem aBu {P:Program} {t:TypeId} {ti:TI} (hT:bFv P t ti) (hag:ti.agg=false) {kd:K} (hl:ti.leaves=[kd]):∃ d,P.underlying t=some d∧aBy kd d:=by
 obtain⟨kd',d,hk,hu,hud⟩:=hT.leaf hag
 rw[hl]at hk
 obtain rfl:kd'=kd:=by simpa using hk.symm
 exact⟨d,hu,hud⟩
include hE in
theorem aZg {t:TypeId} {x ix:Operand} (ho:o.op=.indexAddr t x ix) (he:aBv E σ (.indexAddr t x ix)=some r):aC9 c σ β w (execOp a.eval o) r:=by
 simp only[aBv,vop]at he
 have hv:=hs x
 have hi:=hs ix
 split at he
 ·rename_i m e hArr
  split at he
  ·rename_i te hte
   split at he
   ·rename_i f kd j har hix
    rw[hix]at hi
    have hiv:a.eval ix=.int kd j:=hi
    obtain⟨hc,he⟩:=aAl he
    obtain rfl:=aAh he
    simp only[Bool.and_eq_true,decide_eq_true_eq]at hc
    have hlt:j<(m:Int):=hc.2
    have hu:=(hE.arr t m e te hArr hte).desc
    unfold aRz at har
    split at har
    ·rename_i id hx
     rw[hx]at hv
     split at har
     ·rename_i sz rows hl
      split at har
      ·rename_i hsz
       obtain rfl:=Option.some.inj har
       obtain⟨b,hb,hval⟩:=hv.2.2 sz rows hl
       refine aAj hh (v:=.pointer (some ⟨b,0+j.toNat*sz,none⟩)) ?_ ⟨hv.1,rfl,fun sz' rows' hl'=>?_⟩
       ·simp[execOp,ho,hval,hiv,Instr.indexAt,asIntOf,run_underlying hu,hc.1,hlt,aC4 (hE.ty e te hte),hsz,add_lit,Instr.sureAddr]
       ·rw[hl]at hl'
        obtain⟨rfl,rfl⟩:sz=sz'∧rows=rows':=by simpa using hl'
        exact⟨b,hb,by simp⟩
      ·cases har
     ·cases har
    ·rename_i row off hx
     rw[hx]at hv
     obtain rfl:=Option.some.inj har
     obtain⟨b,oo,hval,hok,hlt0,hrow⟩:=hv
     refine aAj hh (v:=.pointer (some ⟨b,oo+j.toNat*te.leaves.length,none⟩)) ?_ ⟨b,_,rfl,hok,hlt0,fun i y hy=>?_⟩
     ·simp[execOp,ho,hval,hiv,Instr.indexAt,asIntOf,run_underlying hu,hc.1,hlt,aC4 (hE.ty e te hte),add_lit,Instr.sureAddr]
     ·rw[Nat.add_assoc]at hy
      obtain⟨u,hu',hru⟩:=hrow _ y hy
      exact⟨u,by rw[Nat.add_assoc];exact hu',hru⟩
    ·split at har
     ·rename_i g _ _
      cases hgl:E.gl g with
      |none=>rw[hgl]at har;cases har
      |some row =>
       rw[hgl]at har
       obtain rfl:=Option.some.inj har
       obtain⟨⟨hokg,_⟩,hrow⟩:=c.glob g row (hE.gl g row hgl)
       obtain⟨hg1,hg2⟩:=c.old g hokg
       have hsame:=hh.frame g hg1 hg2
       have hokd:okD c σ.heap β g:=⟨.inl hokg,fun id blk hl hf hb=>by
        rcases (hh.place id blk g hl hb).1 with h | h
        ·omega
        ·exact hg2 h.1⟩
       have mono:∀ {v:Value} {x:C},Rep c.w0 c.okR v x→Rep w (okD c σ.heap β) v x:=fun hr=>hr.mono (fun b hb hb1=>⟨⟨.inl hb,fun id blk hl hf hbi=>by
        rcases (hh.place id blk b hl hbi).1 with h | h
        ·omega
        ·exact (c.old b hb).2 h.1⟩,hh.frame b hb1 (c.old b hb).2⟩) hh.size
       refine aAj hh (v:=.pointer (some ⟨g,0+j.toNat*te.leaves.length,none⟩)) ?_ ⟨g,_,rfl,hokd,Nat.lt_of_lt_of_le hg1 hh.size,fun i y hy=>?_⟩
       ·have hgv:a.eval (.global g)=.pointer (some ⟨g,0,none⟩):=rfl
        simp[execOp,ho,hgv,hiv,Instr.indexAt,asIntOf,run_underlying hu,hc.1,hlt,aC4 (hE.ty e te hte),add_lit,Instr.sureAddr]
       ·obtain⟨u,hu',hru⟩:=hrow _ y hy
        refine⟨u,?_,mono hru⟩
        rw[Nat.zero_add,aEf hsame]
        exact hu'
     ·cases har
   ·exact (aA0 he).elim
  ·exact (aA0 he).elim
 rename_i hArr
 split at he
 ·rename_i ti id off n kd j hti hx hix
  rw[hx]at hv
  rw[hix]at hi
  have hiv:a.eval ix=.int kd j:=hi
  split at he
  ·rename_i e sz rows hlv hag hl
   split at he
   ·rename_i te hte
    split at he
    ·rename_i hsz
     obtain⟨hc,he⟩:=aAl he
     obtain rfl:=aAh he
     simp only[Bool.and_eq_true,decide_eq_true_eq]at hc
     obtain⟨d,hu,hud⟩:=aBu (hE.ty t ti hti) hag hlv
     simp only[aBy]at hud
     subst hud
     obtain⟨hoff,hhdr⟩:=hv.2.2 _ sz rows hl rfl
     rcases hhdr with⟨a0,hval,hn0⟩ | ⟨b,cc,cur,E',fr,hb,hval,hnc,hw,hth,hle⟩
     ·omega
     ·have hj:j.toNat<n:=by omega
      refine aAj hh (v:=.pointer (some ⟨b,off*sz+j.toNat*sz,none⟩)) ?_ ⟨hv.1,rfl,fun sz' rows' hl'=>?_⟩
      ·simp[execOp,ho,hval,hiv,Instr.indexAt,asIntOf,run_underlying hu,hc.1,hc.2,aC4 (hE.ty e te hte),hsz,add_lit]
      ·rw[hl]at hl'
       obtain⟨rfl,rfl⟩:sz=sz'∧rows=rows':=by simpa using hl'
       exact⟨b,hb,by rw[Nat.add_mul];rfl⟩
    ·exact (aA0 he).elim
   ·exact (aA0 he).elim
  ·rename_i e sz rows hlv hag hl
   split at he
   ·rename_i te hte
    split at he
    ·rename_i hsz
     obtain⟨hc,he⟩:=aAl he
     obtain rfl:=aAh he
     simp only[Bool.and_eq_true,decide_eq_true_eq]at hc
     obtain⟨d,hu,hud⟩:=aBu (hE.ty t ti hti) hag hlv
     simp only[aBy]at hud
     subst hud
     obtain⟨hoff,hhdr⟩:=hv.2.2 _ sz rows hl rfl
     rcases hhdr with⟨a0,hval,hn0⟩ | ⟨b,cc,cur,E',fr,hb,hval,hnc,hw,hth,hle⟩
     ·omega
     ·obtain⟨_,hsz',hrows⟩:=hh.blk id _ hl
      have hne:rows≠[]:=fun e=>by subst e;simp at hc
      obtain⟨b',cur',E2,fr',hb',hw',_,hsize,hcells⟩:=hrows.resolve_left hne
      obtain rfl:b'=b:=by rw[hb]at hb';exact (Option.some.inj hb').symm
      have hplace:=hh.place id _ b' hl hb
      have hokd:okD c σ.heap β b':=by
       refine⟨.inr ⟨hplace.1.resolve_right (by simp[Blk.isFro]),hh.nogh hl hb⟩,fun id' blk' hl' hf' hb''=>?_⟩
       have:=hh.inj id id' _ _ b' hl hl' hb hb''
       subst this
       rw[hl]at hl'
       obtain rfl:=Option.some.inj hl'
       simp[Blk.isFro]at hf'
      have hrow:rows[off+j.toNat]? =some (rows.getD (off+j.toNat) []):=by simp[List.getD,List.getElem?_eq_getElem hc.2]
      refine aAj hh (v:=.pointer (some ⟨b',off*sz+j.toNat*sz,none⟩)) ?_ ⟨b',_,rfl,hokd,hplace.2,fun i y hy=>?_⟩
      ·simp[execOp,ho,hval,hiv,Instr.indexAt,asIntOf,run_underlying hu,hc.1.1,hc.1.2,aC4 (hE.ty e te hte),hsz,add_lit]
      ·rw[Nat.zero_add]at hy
       obtain⟨u,hu',hru⟩:=hcells _ _ i y hrow hy
       refine⟨u,?_,hru⟩
       rw[cell_of_row w b' _ cur' E2 fr' hw',←Nat.add_mul]
       exact hu'
    ·exact (aA0 he).elim
   ·exact (aA0 he).elim
  ·exact (aA0 he).elim
 ·rename_i ti rows kd j hti hx hix
  rw[hx]at hv
  rw[hix]at hi
  have hiv:a.eval ix=.int kd j:=hi
  split at he
  ·rename_i e hlv hag
   split at he
   ·rename_i te hte
    obtain⟨hc,he⟩:=aAl he
    obtain rfl:=aAh he
    simp only[Bool.and_eq_true,decide_eq_true_eq,beq_iff_eq]at hc
    obtain⟨d,hu,hud⟩:=aBu (hE.ty t ti hti) hag hlv
    simp only[aBy]at hud
    subst hud
    have hj:j.toNat<rows.length:=by omega
    have hrow:rows[j.toNat]? =some (rows.getD j.toNat []):=by simp[List.getD,List.getElem?_eq_getElem hj]
    have hv':Rep w (okD c σ.heap β) (a.eval x) (.sl rows):=hv
    generalize hav:a.eval x=av at hv'
    cases hv' with
    |emp a0 cap=>simp at hj
    |sl b o' n cap sz rows' f h1 h2 h3 h4 h5 h6 h7 =>
     have hsz:te.leaves.length=sz:=by
      have:=h5 _ (List.mem_of_getElem? hrow)
      omega
     refine aAj hh (v:=.pointer (some ⟨b,o'+j.toNat*sz,none⟩)) ?_ ⟨b,_,rfl,h3,h4,fun i y hy=>?_⟩
     ·have hlt:j<(n:Int):=by omega
      simp[execOp,ho,hav,hiv,Instr.indexAt,asIntOf,run_underlying hu,hc.1.1,hlt,aC4 (hE.ty e te hte),hsz,add_lit]
     ·rw[Nat.zero_add]at hy
      have hi2:i<sz:=by
       have:=(List.getElem?_eq_some_iff.1 hy).1
       rw[hc.2,hsz]at this
       exact this
      refine⟨_,?_,h7 j.toNat _ i y hrow hy⟩
      rw[Nat.add_assoc]
      exact h6 _ (by
       have:(j.toNat+1)*sz≤n*sz:=Nat.mul_le_mul_right _ (by omega)
       rw[Nat.add_mul]at this;omega)
   ·exact (aA0 he).elim
  ·exact (aA0 he).elim
 ·exact (aA0 he).elim
omit hh hs in
theorem bL3 {P:Program} {t:TypeId} {d:TypeDesc} {kd:K} {u v:Value} {x y:L} {ok:Nat→Prop} {h:aCq} {nx:Nat} (hu:P.underlying t=some d) (hd:aBy kd d)
  (hx:aI5 ok w h nx β u x) (hy:aI5 ok w h nx β v y) {b:Bool} (he:bL4 kd x y=some b) (n:Nat) :
  (Op.equalIn (n+1) t u v).run P w=.ok b w∧(isAgg t).run P w=.ok false w:=by
 have hag:(∃ k,d=.int k)∨d=.bool∨d=.string→(isAgg t).run P w=.ok false w:=fun hd=>by
  unfold isAgg
  rw[Sem.run_bind,run_underlying hu]
  rcases hd with⟨k,rfl⟩ | rfl | rfl<;>rfl
 unfold bL4 at he
 split at he
 ·rename_i k k1 a k2 c'
  split at he
  ·rename_i hkk
   obtain⟨rfl,rfl⟩:=hkk
   obtain rfl:=Option.some.inj he
   obtain rfl:u=.int _ a:=hx
   obtain rfl:v=.int _ c':=hy
   simp only[aBy]at hd
   exact⟨run_equalIn_int w n t _ _ a c' (hd▸hu),hag (.inl ⟨_,hd⟩)⟩
  ·cases he
 ·rename_i a c'
  obtain rfl:=Option.some.inj he
  obtain rfl:u=.bool a:=hx
  obtain rfl:v=.bool c':=hy
  simp only[aBy]at hd
  exact⟨run_equalIn_bool' w n t a c' (hd▸hu),hag (.inr (.inl hd))⟩
 ·rename_i a c'
  obtain rfl:=Option.some.inj he
  obtain⟨s1,rfl,rfl⟩:=hx
  obtain⟨s2,rfl,rfl⟩:=hy
  simp only[aBy]at hd
  exact⟨by rw[←aHm,←aHm];exact run_equalIn_string w n t s1 s2 (hd▸hu),hag (.inr (.inr hd))⟩
 ·cases he
omit hh hs in
theorem aRk {P:Program} {ok:Nat→Prop} {h:aCq} {nx:Nat} {us vs:Array Value} {n:Nat} :
  ∀ (ks:List K) (xs ys:List L) (fs:List Field) (j:Nat) (b:Bool),aFh ks xs ys=some b→fs.length=ks.length →
   (∀ (i:Nat) (x:L),xs[i]? =some x→∃ u,us[j+i]? =some u∧aI5 ok w h nx β u x) →
   (∀ (i:Nat) (x:L),ys[i]? =some x→∃ u,vs[j+i]? =some u∧aI5 ok w h nx β u x) →
   (∀ (i : Nat) (fd : Field), fs[i]? = some fd → fd.name ≠ "_" ∧ fd.offset = j + i ∧ ∃ kd d, ks[i]? = some kd ∧ P.underlying fd.type = some d ∧ aBy kd d) →
   (Op.eqFields (n+1) us vs fs).run P w=.ok b w
 |[],[],[],[],j,b,he,_,_,_,_=>by simp[aFh]at he;subst he;simp[Op.eqFields]
 |kd::ks,x::xs,y::ys,fd::fs,j,b,he,hl,hx,hy,hf=>by
  simp only[aFh]at he
  split at he
  ·rename_i b1 b2 hb1 hb2
   obtain rfl:=Option.some.inj he
   obtain⟨hn,hoff,kd',d,hkd,hu,hd⟩:=hf 0 fd rfl
   obtain rfl:kd=kd':=by simpa using hkd
   obtain⟨u,hu1,hru⟩:=hx 0 x rfl
   obtain⟨v,hv1,hrv⟩:=hy 0 y rfl
   rw[Nat.add_zero]at hoff hu1 hv1
   obtain⟨hle,hag⟩:=bL3 (P:=P) hu hd hru hrv hb1 n
   have hrest:=aRk (n:=n) ks xs ys fs (j+1) b2 hb2 (by simpa using hl)
    (fun i z hz=>by obtain⟨u,h1,h2⟩:=hx (i+1) z (by simpa using hz);exact⟨u,by rw[show j+1+i=j+(i+1) by omega];exact h1,h2⟩)
    (fun i z hz=>by obtain⟨u,h1,h2⟩:=hy (i+1) z (by simpa using hz);exact⟨u,by rw[show j+1+i=j+(i+1) by omega];exact h1,h2⟩)
    (fun i fd' hi=>by
     obtain⟨a1,a2,kd2,d2,a3,a4⟩:=hf (i+1) fd' (by simpa using hi)
     exact⟨a1,by omega,kd2,d2,by simpa using a3,a4⟩)
   have p1:(part fd.type us fd.offset).run P w=.ok u w:=by simp[part,hag,hoff,hu1]
   have p2:(part fd.type vs fd.offset).run P w=.ok v w:=by simp[part,hag,hoff,hv1]
   rw[Op.eqFields]
   simp only[if_pos hn,Sem.run_bind,p1,p2,hle,Result.andThen_ok]
   cases b1
   ·simp
   ·simpa using hrest
  ·cases he
 |[],[],[],_::_,_,_,_,hl,_,_,_=>by simp at hl
 |_::_,_::_,_::_,[],_,_,_,hl,_,_,_=>by simp at hl
 |[],_::_,_,_,_,_,he,_,_,_,_=>by simp[aFh]at he
 |[],[],_::_,_,_,_,he,_,_,_,_=>by simp[aFh]at he
 |_::_,[],_,_,_,_,he,_,_,_,_=>by simp[aFh]at he
 |_::_,_::_,[],_,_,_,he,_,_,_,_=>by simp[aFh]at he
omit hh hs in
theorem bF2 {ok:Nat→Prop} {v:Value} (hv:Rep w ok v (.err .nil)):v=.nilIface:=by cases hv;rfl
omit hh hs in
theorem aQh {ok:Nat→Prop} {P:Program} {v:Value} {er:Er} {t:TypeId} {ms:Array (String×TypeId)} (d:Nat) (hv:Rep w ok v (.err er)) (hu:P.underlying t=some (.interface ms)) :
  (Op.equalIn (d+1) t v .nilIface).run P w=.ok er.isNil w:=by
 cases hv<;>simp[Op.equalIn,run_underlying hu,Er.isNil]
omit hh hs in
theorem aTu {ok:Nat→Prop} {P:Program} {v:Value} {er:Er} {t:TypeId} {ms:Array (String×TypeId)} {x y:Operand} (hv:Rep w ok v (.err er)) (hu:P.underlying t=some (.interface ms)) (hy:aW6 y=true) :
  (do eqGuard .eql t x y v .nilIface;binOp .eql t v .nilIface:Sem Value).run P w=.ok (.bool er.isNil) w∧(do eqGuard .neq t x y v .nilIface;binOp .neq t v .nilIface:Sem Value).run P w=.ok (.bool (!er.isNil)) w:=by
 obtain⟨cv,rfl⟩:∃ cv,y=.const cv:=by cases y<;>simp[aW6]at hy;exact⟨_,rfl⟩
 have hr:=aQh 9999 hv hu
 cases hv
 ·constructor<;>(rw[Sem.run_bind];simp[eqGuard,binOp,Op.equal,Op.maxDepth,hr])
 ·constructor<;>(rw[Sem.run_bind];simp[eqGuard,binOp,Op.equal,Op.maxDepth,hr])
 ·constructor<;>(rw[Sem.run_bind];simp[eqGuard,binOp,Op.equal,Op.maxDepth,hr])
omit hh hs in
theorem aZ5 (hE:aDx c.P E) {ok:Nat→Prop} {v1 v2:Value} {e1 e2:Er} {t:TypeId} {ms:Array (String×TypeId)} {x y:Operand} {r1:Bool} (h1:Rep w ok v1 (.err e1)) (h2:Rep w ok v2 (.err e2)) (he:bPi E e1 e2=some r1) (hu:c.P.underlying t=some (.interface ms)) :
  (do eqGuard .eql t x y v1 v2;binOp .eql t v1 v2:Sem Value).run c.P w=.ok (.bool r1) w∧(do eqGuard .neq t x y v1 v2;binOp .neq t v1 v2:Sem Value).run c.P w=.ok (.bool (!r1)) w:=by
 have hr:(Op.equalIn (9998+1+1) t v1 v2).run c.P w=.ok r1 w∧∀ op,(eqGuard op t x y v1 v2).run c.P w=.ok () w:=by
  cases h1<;>cases h2<;>simp only[bPi]at he<;>(first | (cases he;done) | skip)
  ·cases he;exact⟨by rw[Op.equalIn];simp[run_underlying hu],fun op=>aCl _ _ _ _ _ _ _ rfl⟩
  ·cases he;exact⟨by rw[Op.equalIn];simp[run_underlying hu],fun op=>aCl _ _ _ _ _ _ _ rfl⟩
  ·cases he;exact⟨by rw[Op.equalIn];simp[run_underlying hu],fun op=>aCl _ _ _ _ _ _ _ rfl⟩
  ·rename_i t1 k1 n1 t2 k2 n2
   refine⟨?_,fun op=>aCl _ _ _ _ _ _ _ rfl⟩
   split at he
   ·rename_i ht
    subst ht
    split at he
    ·rename_i ti hti
     split at he
     ·rename_i hc
      obtain⟨hlv,hag,rfl⟩:=hc
      obtain rfl:=Option.some.inj he
      obtain⟨i,hi,hcmp⟩:=(hE.ty t1 ti hti).cmp hag k1 hlv
      obtain⟨d,hu1,hud⟩:=aBu (hE.ty t1 ti hti) hag hlv
      simp only[aBy]at hud
      subst hud
      rw[Op.equalIn]
      have hin:(Op.equalIn (9998+1) t1 (.int k1 n1) (.int k1 n2)).run c.P w=.ok (n1==n2) w:=by rw[Op.equalIn];simp[run_underlying hu1]
      simp[run_underlying hu,typeInfo,hi,hcmp,hin]
     ·cases he
    ·cases he
   ·rename_i ht
    obtain rfl:=Option.some.inj he
    rw[Op.equalIn]
    simp[run_underlying hu,ht]
  ·cases he;exact⟨by rw[Op.equalIn];simp[run_underlying hu],fun op=>aCl _ _ _ _ _ _ _ rfl⟩
 obtain⟨hr,hg⟩:=hr
 constructor
 ·rw[Sem.run_bind,hg]
  cases h1<;>cases h2<;>simp[binOp,Op.equal,Op.maxDepth,hr]
 ·rw[Sem.run_bind,hg]
  cases h1<;>cases h2<;>simp[binOp,Op.equal,Op.maxDepth,hr]
include hE in
theorem bHd {t:TypeId} {x:Operand} (ho:o.op=.makeInterface t x) (he:aBv E σ (.makeInterface t x)=some r):aC9 c σ β w (execOp a.eval o) r:=by
 simp only[aBv,vop]at he
 split at he
 ·rename_i ti ki n hti hx'
  split at he
  ·rename_i hc
   obtain⟨hlv,hag⟩:=hc
   obtain rfl:=aAh he
   obtain⟨d,hu,hud⟩:=aBu (hE.ty t ti hti) hag hlv
   simp only[aBy]at hud
   subst hud
   have hx:=hs x
   rw[hx']at hx
   have e:a.eval x=.int ki n:=hx
   have hu':(underlying t).run c.P w=.ok (.int ki) w:=run_underlying hu w
   refine aAj hh (v:=.iface t (.int ki n)) ?_ (Rep.eint _ _ _)
   simp[execOp,ho,e,Instr.makeInterface,hu']
  ·exact (aA0 he).elim
 ·rename_i ti _ _ hti hx'
  split at he
  ·rename_i hc
   obtain⟨hlv,hag⟩:=hc
   obtain rfl:=aAh he
   obtain⟨d,hu,e,rfl⟩:=aBu (hE.ty t ti hti) hag hlv
   have hu':(underlying t).run c.P w=.ok (.pointer e) w:=run_underlying hu w
   refine aAj hh (v:=.iface t (a.eval x)) ?_ (Rep.eany _ _)
   simp[execOp,ho,Instr.makeInterface,hu']
  ·exact (aA0 he).elim
 ·exact (aA0 he).elim
include hE in
theorem bOp {op:BinOp} {t u':TypeId} {x y:Operand} (ho:o.op=.binOp op t x y u') (he:aBv E σ (.binOp op t x y u')=some r):aC9 c σ β w (execOp a.eval o) r:=by
 have hx:=hs x
 have hy:=hs y
 have agg:∀ (xs ys:List L) (ti:TI) (b:Bool),σ.ev x=.agg xs→σ.ev y=.agg ys→E.Ty t=some ti→ti.eq=true→aFh ti.leaves xs ys=some b →
   ∃ us vs,a.eval x=.agg us∧a.eval y=.agg vs∧(eqGuard op t x y (.agg us) (.agg vs)).run c.P w=.ok () w∧(Op.equalIn 10000 t (.agg us) (.agg vs)).run c.P w=.ok b w:=by
  intro xs ys ti b h1 h2 hti hq hle
  rw[h1]at hx
  rw[h2]at hy
  obtain⟨us,hus,hru⟩:=hx
  obtain⟨vs,hvs,hrv⟩:=hy
  obtain⟨hst,hg,fs,hu,hsz,hfs⟩:=(hE.ty t ti hti).eq hq
  refine⟨us,vs,hus,hvs,run_eqGuard_agg w op t x y us vs hg,?_⟩
  have hfo:c.P.fieldsOf t=fs:=by simp[Program.fieldsOf,hu]
  rw[run_equalIn_struct w 9999 t us vs (by rw[hfo];exact hu) hst,hfo]
  exact aRk (n:=9998) ti.leaves xs ys fs.toList 0 b hle (by simp[hsz]) (fun i z hz=>by rw[Nat.zero_add];exact hru.2 i z hz) (fun i z hz=>by rw[Nat.zero_add];exact hrv.2 i z hz)
   (fun i fd hi=>by rw[Nat.zero_add];exact hfs i fd (by simpa using hi))
 have bool:∀ (p q:Bool) (ti:TI),σ.ev x=.l (.b p)→σ.ev y=.l (.b q)→E.Ty t=some ti→ti.leaves=[.bool]∧ti.agg=false →
   a.eval x=.bool p∧a.eval y=.bool q∧(Op.equalIn 10000 t (.bool p) (.bool q)).run c.P w=.ok (p==q) w:=by
  intro p q ti h1 h2 hti hl
  rw[h1]at hx
  rw[h2]at hy
  obtain⟨d,hu,hd⟩:=aBu (hE.ty t ti hti) hl.2 hl.1
  simp only[aBy]at hd
  subst hd
  exact⟨hx,hy,run_equalIn_bool' w 9999 t p q hu⟩
 simp only[aBv,vop]at he
 split at he
 ·rename_i xs ys h1 h2
  split at he
  ·rename_i ti hti
   split at he
   ·rename_i b hq hle
    obtain rfl:=aAh he
    obtain⟨us,vs,hus,hvs,hg,hr⟩:=agg xs ys ti b h1 h2 hti hq hle
    refine aAj hh (v:=.bool b) (aGy ho ?_) rfl
    rw[hus,hvs,Sem.run_bind,hg,Result.andThen_ok,run_eql_struct,hr]
    rfl
   ·exact (aA0 he).elim
  ·exact (aA0 he).elim
 ·rename_i xs ys h1 h2
  split at he
  ·rename_i ti hti
   split at he
   ·rename_i b hq hle
    obtain rfl:=aAh he
    obtain⟨us,vs,hus,hvs,hg,hr⟩:=agg xs ys ti b h1 h2 hti hq hle
    refine aAj hh (v:=.bool (!b)) (aGy ho ?_) rfl
    rw[hus,hvs,Sem.run_bind,hg,Result.andThen_ok,run_neq_struct,hr]
    rfl
   ·exact (aA0 he).elim
  ·exact (aA0 he).elim
 ·rename_i p q h1 h2
  split at he
  ·rename_i ti hti
   split at he
   ·rename_i hl
    obtain rfl:=aAh he
    obtain⟨e1,e2,hr⟩:=bool p q ti h1 h2 hti hl
    refine aAj hh (v:=.bool (p==q)) (aGy ho ?_) rfl
    rw[e1,e2,Sem.run_bind,aCl _ _ _ _ _ _ _ rfl]
    simp[binOp,Op.equal,Op.maxDepth,hr]
   ·exact (aA0 he).elim
  ·exact (aA0 he).elim
 ·rename_i p q h1 h2
  split at he
  ·rename_i ti hti
   split at he
   ·rename_i hl
    obtain rfl:=aAh he
    obtain⟨e1,e2,hr⟩:=bool p q ti h1 h2 hti hl
    refine aAj hh (v:=.bool (!(p==q))) (aGy ho ?_) rfl
    rw[e1,e2,Sem.run_bind,aCl _ _ _ _ _ _ _ rfl]
    simp[binOp,Op.equal,Op.maxDepth,hr]
   ·exact (aA0 he).elim
  ·exact (aA0 he).elim
 ·rename_i b rows h1 h2
  split at he
  ·rename_i ti hti
   split at he
   ·rename_i e hlv hag
    obtain rfl:=aAh he
    obtain⟨d,hu,hud⟩:=aBu (hE.ty t ti hti) hag hlv
    simp only[aBy]at hud
    subst hud
    rw[h1]at hx
    rw[h2]at hy
    obtain⟨_,a1,n1,m1,e1,hb⟩:=hx
    have e2:a.eval y=.slice none 0 0:=hy
    refine aAj hh (v:=.bool b) (aGy ho ?_) rfl
    rw[e1,e2,Sem.run_bind,aCl _ _ _ _ _ _ _ rfl]
    subst hb
    have hr:=aJm c.P w 9999 t e a1 n1 m1 hu
    simp[binOp,Op.equal,Op.maxDepth,hr]
   ·exact (aA0 he).elim
  ·exact (aA0 he).elim
 ·rename_i b rows h1 h2
  split at he
  ·rename_i ti hti
   split at he
   ·rename_i e hlv hag
    obtain rfl:=aAh he
    obtain⟨d,hu,hud⟩:=aBu (hE.ty t ti hti) hag hlv
    simp only[aBy]at hud
    subst hud
    rw[h1]at hx
    rw[h2]at hy
    obtain⟨_,a1,n1,m1,e1,hb⟩:=hx
    have e2:a.eval y=.slice none 0 0:=hy
    refine aAj hh (v:=.bool (!b)) (aGy ho ?_) rfl
    rw[e1,e2,Sem.run_bind,aCl _ _ _ _ _ _ _ rfl]
    subst hb
    have hr:=aJm c.P w 9999 t e a1 n1 m1 hu
    simp[binOp,Op.equal,Op.maxDepth,hr]
   ·exact (aA0 he).elim
  ·exact (aA0 he).elim
 ·rename_i er h1 h2
  split at he
  ·rename_i ti hti
   split at he
   ·rename_i hc
    obtain⟨hlv,hag,hcy⟩:=hc
    obtain rfl:=aAh he
    obtain⟨d,hu,ms,rfl⟩:=aBu (hE.ty t ti hti) hag hlv
    rw[h1]at hx
    rw[h2]at hy
    have e2:=bF2 hy
    refine aAj hh (v:=.bool er.isNil) (aGy ho ?_) rfl
    rw[e2]
    exact (aTu hx hu hcy).1
   ·exact (aA0 he).elim
  ·exact (aA0 he).elim
 ·rename_i er h1 h2
  split at he
  ·rename_i ti hti
   split at he
   ·rename_i hc
    obtain⟨hlv,hag,hcy⟩:=hc
    obtain rfl:=aAh he
    obtain⟨d,hu,ms,rfl⟩:=aBu (hE.ty t ti hti) hag hlv
    rw[h1]at hx
    rw[h2]at hy
    have e2:=bF2 hy
    refine aAj hh (v:=.bool (!er.isNil)) (aGy ho ?_) rfl
    rw[e2]
    exact (aTu hx hu hcy).2
   ·exact (aA0 he).elim
  ·exact (aA0 he).elim
 ·rename_i ea eb hn h1 h2
  split at he
  ·rename_i ti r1 hti her
   split at he
   ·rename_i hc
    obtain⟨hlv,hag⟩:=hc
    obtain rfl:=aAh he
    obtain⟨d,hu,ms,rfl⟩:=aBu (hE.ty t ti hti) hag hlv
    rw[h1]at hx
    rw[h2]at hy
    exact aAj hh (v:=.bool (r1)) (aGy ho (aZ5 hE hx hy her hu).1) rfl
   ·exact (aA0 he).elim
  ·exact (aA0 he).elim
 ·rename_i ea eb hn h1 h2
  split at he
  ·rename_i ti r1 hti her
   split at he
   ·rename_i hc
    obtain⟨hlv,hag⟩:=hc
    obtain rfl:=aAh he
    obtain⟨d,hu,ms,rfl⟩:=aBu (hE.ty t ti hti) hag hlv
    rw[h1]at hx
    rw[h2]at hy
    exact aAj hh (v:=.bool (!r1)) (aGy ho (aZ5 hE hx hy her hu).2) rfl
   ·exact (aA0 he).elim
  ·exact (aA0 he).elim
 ·obtain⟨z,Z,he,hrun,hrep⟩:=bR9 (c:=c) (t:=t) (x:=x) (y:=y) hx hy he
  obtain rfl:=aAh he
  exact aAj hh (aGy ho hrun) hrep
omit hs in
theorem bK9 {x:W} {v:Value} {rows:List (List C)} (hv:aFs (okD c σ.heap β) w σ.heap σ.next β v x) (hr:aM5 σ.heap x=some rows) {sz:Nat} (hall:∀ r,r∈rows→r.length=sz) :
  (rows=[]∧∃ a0 cap,v=.slice a0 0 cap) ∨
  ∃ b o' n cap,v=.slice (some ⟨b,o',none⟩) n cap∧n=rows.length∧n≤cap∧b<w.heap.size ∧
   ∀ (i:Nat) (r:List C) (j:Nat) (y:C),rows[i]? =some r→r[j]? =some y→∃ u,w.cell? ⟨b,o'+i*sz+j,none⟩=some u∧Rep w (okD c σ.heap β) u y:=by
 unfold aM5 at hr
 split at hr
 ·obtain rfl:=Option.some.inj hr
  exact .inl ⟨rfl,none,0,hv⟩
 ·rename_i rows'
  obtain rfl:=Option.some.inj hr
  have hv':Rep w (okD c σ.heap β) v (.sl rows'):=hv
  cases hv' with
  |emp a0 cap=>exact .inl ⟨rfl,a0,cap,rfl⟩
  |sl b o' n cap sz' _ f h1 h2 h3 h4 h5 h6 h7 =>
   refine .inr ⟨b,o',n,cap,rfl,h1,h2,h4,fun i r j y hi hj=>?_⟩
   have e1:sz'=sz:=by
    have:=h5 r (List.mem_of_getElem? hi)
    have:=hall r (List.mem_of_getElem? hi)
    omega
   subst e1
   refine⟨_,?_,h7 i r j y hi hj⟩
   have hlt:=(List.getElem?_eq_some_iff.1 hi).1
   have hjl:=(List.getElem?_eq_some_iff.1 hj).1
   have:=h5 r (List.mem_of_getElem? hi)
   rw[Nat.add_assoc]
   exact h6 _ (by
    have:(i+1)*sz'≤n*sz':=Nat.mul_le_mul_right _ (by omega)
    rw[Nat.add_mul]at this;omega)
 ·rename_i rows'
  obtain rfl:=Option.some.inj hr
  have hv':Rep w (okD c σ.heap β) v (.sl rows'):=hv.1
  cases hv' with
  |emp a0 cap=>exact .inl ⟨rfl,a0,cap,rfl⟩
  |sl b o' n cap sz' _ f h1 h2 h3 h4 h5 h6 h7 =>
   refine .inr ⟨b,o',n,cap,rfl,h1,h2,h4,fun i r j y hi hj=>?_⟩
   have e1:sz'=sz:=by
    have:=h5 r (List.mem_of_getElem? hi)
    have:=hall r (List.mem_of_getElem? hi)
    omega
   subst e1
   refine⟨_,?_,h7 i r j y hi hj⟩
   have hlt:=(List.getElem?_eq_some_iff.1 hi).1
   have hjl:=(List.getElem?_eq_some_iff.1 hj).1
   have:=h5 r (List.mem_of_getElem? hi)
   rw[Nat.add_assoc]
   exact h6 _ (by
    have:(i+1)*sz'≤n*sz':=Nat.mul_le_mul_right _ (by omega)
    rw[Nat.add_mul]at this;omega)
 ·rename_i id off n
  have key:∀ (blk:Blk) (sz':Nat) (rows':List (List C)),σ.heap.lookup id=some blk→blk.rows? =some (sz',rows')→aGg (okD c σ.heap β) w (β id) sz' rows'→(rows'.drop off).take n=rows →
    (rows=[]∧∃ a0 cap,v=.slice a0 0 cap) ∨
    ∃ b o' n cap,v=.slice (some ⟨b,o',none⟩) n cap∧n=rows.length∧n≤cap∧b<w.heap.size ∧
     ∀ (i:Nat) (r:List C) (j:Nat) (y:C),rows[i]? =some r→r[j]? =some y→∃ u,w.cell? ⟨b,o'+i*sz+j,none⟩=some u∧Rep w (okD c σ.heap β) u y:=by
   intro blk sz' rows' hl hrw hro he
   subst he
   obtain⟨hoff,hhdr⟩:=hv.2.2 blk sz' rows' hl hrw
   rcases hhdr with⟨a0,hval,hn0⟩ | ⟨b,cc,cur,E',fr,hb,hval,hnc,hw,hth,hle⟩
   ·subst hn0
    exact .inl ⟨by simp,a0,0,hval⟩
   ·refine .inr ⟨b,off*sz',n,cc,hval,by simp;omega,hnc,(hh.place id blk b hl hb).2,fun i r j y hi hj=>?_⟩
    have hilt:i<n:=by
     have:=(List.getElem?_eq_some_iff.1 hi).1
     simp at this;omega
    have hi':rows'[off+i]? =some r:=by
     rw[List.getElem?_take_of_lt hilt,List.getElem?_drop]at hi
     exact hi
    obtain⟨h5,hrows⟩:=hro
    have hne:rows'≠[]:=fun e=>by subst e;simp at hi'
    obtain⟨b',cur',E2,fr',hb',hw',_,hsize,hcells⟩:=hrows.resolve_left hne
    obtain rfl:b'=b:=by rw[hb]at hb';exact (Option.some.inj hb').symm
    have e1:sz'=sz:=by
     have:=h5 r (List.mem_of_getElem? hi')
     have:=hall r (List.mem_of_getElem? hi)
     omega
    subst e1
    obtain⟨u,hu,hru⟩:=hcells _ r j y hi' hj
    refine⟨u,?_,hru⟩
    rw[cell_of_row w b' _ cur' E2 fr' hw',←Nat.add_mul]
    exact hu
  split at hr
  ·rename_i sz' rows' hl
   exact key _ sz' rows' hl rfl (hh.blk id _ hl).2 (Option.some.inj hr)
  ·rename_i sz' rows' hl
   exact key _ sz' rows' hl rfl (hh.blk id _ hl).2 (Option.some.inj hr)
  ·cases hr
 ·cases hr
omit hh hs in
theorem bTz (ns:List Int):∀ s:ByteArray,(ns.foldl (fun r n=>r.push (UInt8.ofNat n.toNat)) s).data.toList=s.data.toList++ns.map fun n=>UInt8.ofNat n.toNat:=by
 induction ns with
 |nil=>intro s;simp
 |cons n ns ih =>
  intro s
  rw[List.foldl_cons,ih]
  have:(s.push (UInt8.ofNat n.toNat)).data.toList=s.data.toList++[UInt8.ofNat n.toNat]:=by simp[ByteArray.push]
  rw[this]
  simp
include hE in
theorem bCl {src dst:TypeId} {x:Operand} (ho:o.op=.convert src dst x) (he:aBv E σ (.convert src dst x)=some r) (hf:r.eff=false):aC9 c σ β w (execOp a.eval o) r:=by
 have hv:=hs x
 simp only[aBv,vop]at he
 split at he
 ·rename_i ts td hts htd
  split at he
  ·rename_i h1 h2 h3 h4
   obtain⟨d1,hu1,hd1⟩:=aBu (hE.ty src ts hts) h2 h1
   obtain⟨d2,hu2,hd2⟩:=aBu (hE.ty dst td htd) h4 h3
   simp only[aBy]at hd1 hd2
   subst hd1;subst hd2
   split at he
   ·rename_i k' n hx
    obtain rfl:=aAh he
    rw[hx]at hv
    obtain hv:a.eval x=.int k' n:=hv
    exact aAj hh (v:=.int _ _) (by simp[execOp,ho,hv,convert,run_underlying hu1,run_underlying hu2,Conv.intToInt]) rfl
   ·exact (aA0 he).elim
  ·rename_i h1 h2 h3 h4
   obtain⟨d1,hu1,hd1⟩:=aBu (hE.ty src ts hts) h2 h1
   obtain⟨d2,hu2,hd2⟩:=aBu (hE.ty dst td htd) h4 h3
   simp only[aBy]at hd1 hd2
   subst hd1;subst hd2
   split at he
   ·rename_i l hx
    obtain rfl:=aAh he
    rw[hx]at hv
    obtain⟨s,hsv,rfl⟩:=hv
    exact aAj hh (v:=.string s) (by simp[execOp,ho,hsv,convert,run_underlying hu1,run_underlying hu2]) (bWk s)
   ·exact (aA0 he).elim
  ·exfalso
   split at he
   ·split at he
    ·obtain rfl:=aAh he
     simp at hf
    ·exact aA0 he
   ·exact aA0 he
  ·rename_i e h1 h2 h3 h4
   obtain⟨d1,hu1,hd1⟩:=aBu (hE.ty src ts hts) h2 h1
   obtain⟨d2,hu2,hd2⟩:=aBu (hE.ty dst td htd) h4 h3
   simp only[aBy]at hd1 hd2
   subst hd1;subst hd2
   split at he
   ·rename_i rows te hrw hte
    split at he
    ·rename_i h5 h6
     obtain⟨d3,hu3,hd3⟩:=aBu (hE.ty e te hte) h6 h5
     simp only[aBy]at hd3
     subst hd3
     obtain⟨hall,he⟩:=aAl he
     obtain rfl:=aAh he
     have hbr:∀ r,r∈rows→aXa r=true:=by simpa using hall
     have hlen:∀ r,r∈rows→r.length=1:=fun r hr=>by have:=hbr r hr;simp[aXa]at this;exact this.1
     rcases bK9 hh hv hrw hlen with⟨rfl,a0,cap,hval⟩ | ⟨b,o',n,cap,hval,hn,hnc,hblt,hcells⟩
     ·refine aAj hh (v:=.string ByteArray.empty) ?_ ⟨_,rfl,rfl⟩
      simp only[execOp,ho,hval]
      have:(Conv.bytesToString (.slice a0 0 cap)).run c.P w=.ok (.string ByteArray.empty) w:=by
       cases a0 with
       |none=>rfl
       |some a0 =>
        have:=run_bytesToString (P:=c.P) w a0 0 cap [] (by simp[loadCells,loadCellsFrom])
        simpa using this
      simp[run_convert_bytes_string w src dst e a0 0 cap hu1 hu3 hu2,this]
     ·have hl:(loadCells ⟨b,o',none⟩ rows.length).run c.P w=.ok ((rows.map fun r=>(r.getD 0 (.bool false)).toInt).map (Value.int .u8)).toArray w:=by
       have:=run_loadCells_list (P:=c.P) w ⟨b,o',none⟩ ((rows.map fun r=>(r.getD 0 (.bool false)).toInt).map (Value.int .u8)) (fun j v hj=>by
        rw[add_lit]
        simp only[List.getElem?_map]at hj
        cases hrj:rows[j]? with
        |none=>rw[hrj]at hj;simp at hj
        |some rr =>
         rw[hrj]at hj
         simp only[Option.map_some,Option.some.injEq]at hj
         have hb:=hbr rr (List.mem_of_getElem? hrj)
         simp only[aXa,Bool.and_eq_true,beq_iff_eq]at hb
         match rr,hb with
         |[y],hb =>
          obtain⟨u,hu,hru⟩:=hcells j [y] 0 y hrj rfl
          simp only[Nat.mul_one,Nat.add_zero]at hu
          rw[hu]
          obtain⟨_,hb2⟩:=hb
          simp only[List.getD_cons_zero]at hb2 hj
          cases y<;>simp[C.is]at hb2
          subst hb2
          cases hru
          rw[←hj]
          rfl)
       simpa using this
      refine aAj hh (v:=.string (((rows.map fun r=>(r.getD 0 (.bool false)).toInt)).foldl (fun r n=>r.push (UInt8.ofNat n.toNat)) ByteArray.empty)) ?_ ⟨((rows.map fun r=>(r.getD 0 (.bool false)).toInt)).foldl (fun r n=>r.push (UInt8.ofNat n.toNat)) ByteArray.empty,rfl,?_⟩
      ·subst hn
       simp only[execOp,ho,hval]
       simp[run_convert_bytes_string w src dst e _ _ cap hu1 hu3 hu2,run_bytesToString w _ _ cap _ hl]
      ·rw[bTz]
       simp[aEu,Function.comp_def]
    ·exact (aA0 he).elim
   ·exact (aA0 he).elim
  ·exact (aA0 he).elim
 ·exact (aA0 he).elim
include hE in
theorem bU3 {call:Call} {args:Array Operand} {ats:Array TypeId} (hcall:call={callee:=.builtin .len,args:=args,argTypes:=ats}) (ho:o.op=.call call)
  (he:aBv E σ (.call {callee:=.builtin .len,args:=args,argTypes:=ats})=some r):aC9 c σ β w (execOp a.eval o) r:=by
 subst hcall
 simp only[aBv,vop]at he
 split at he
 ·rename_i x t hx0 ht0
  have hv:=hs x
  have hargs:(args.map a.eval)[0]? =some (a.eval x):=by simp[hx0]
  have run:∀ v,(Builtin.len_ ats o.type (args.map a.eval)).run c.P w=.ok v w→(execOp a.eval o).run c.P w=.ok (.value v) w:=fun v h=>by
   simp[execOp,ho,resolve,invoke,builtin,h]
  have sl:∀ (ti:TI) (e:TypeId),E.Ty t=some ti→ti.leaves=[.slice e]→ti.agg=false→∀ a0 n cap,a.eval x=.slice a0 n cap→(Builtin.len_ ats o.type (args.map a.eval)).run c.P w=.ok (.int .i64 n) w:=by
   intro ti e hti h1 h2 a0 n cap hval
   obtain⟨d,hu,hd⟩:=aBu (hE.ty t ti hti) h2 h1
   simp only[aBy]at hd
   subst hd
   simp[Builtin.len_,ht0,hx0,run_underlying hu,hval,goInt]
  split at he
  ·rename_i ti l hti hx
   split at he
   ·rename_i hl
    obtain rfl:=aAh he
    rw[hx]at hv
    obtain⟨s,hsv,rfl⟩:=hv
    obtain⟨d,hu,hd⟩:=aBu (hE.ty t ti hti) hl.2 hl.1
    simp only[aBy]at hd
    subst hd
    have hsz:s.size=s.data.toList.length:=by rw[Array.length_toList];rfl
    refine aAj hh (v:=.int .i64 (s.data.toList.length)) (run _ ?_) rfl
    simp[Builtin.len_,ht0,hx0,run_underlying hu,hsv,goInt]
   ·exact (aA0 he).elim
  ·rename_i ti y _ hti hx
   rw[hx]at hv
   split at he
   ·rename_i e rows h1 h2 _
    obtain rfl:=aAh he
    have hv':Rep w (okD c σ.heap β) (a.eval x) (.sl rows):=hv
    generalize hav:a.eval x=av at hv'
    cases hv' with
    |emp a0 cap=>exact aAj hh (run _ (sl ti e hti h1 h2 _ _ _ hav)) rfl
    |sl b o' n cap sz _ f h1'=>exact aAj hh (run _ (sl ti e hti h1 h2 _ _ _ hav)) (by rw[h1'];rfl)
   ·rename_i e h1 h2 _
    obtain rfl:=aAh he
    exact aAj hh (run _ (sl ti e hti h1 h2 _ _ _ hv)) rfl
   ·rename_i e id off n h1 h2 _
    split at he
    ·rename_i blk hl
     split at he
     ·rename_i p hrw
      obtain⟨sz,rows⟩:=p
      obtain rfl:=aAh he
      obtain⟨_,hhdr⟩:=hv.2.2 blk sz rows hl hrw
      rcases hhdr with⟨a0,hval,hn0⟩ | ⟨b,cc,cur,E',fr,hb,hval,_⟩
      ·subst hn0
       exact aAj hh (run _ (sl ti e hti h1 h2 _ _ _ hval)) rfl
      ·exact aAj hh (run _ (sl ti e hti h1 h2 _ _ _ hval)) rfl
     ·exact (aA0 he).elim
    ·exact (aA0 he).elim
   ·exact (aA0 he).elim
  ·exact (aA0 he).elim
 ·exact (aA0 he).elim
def aXz (f:Int→Int→Int) (acc:Option (IntKind×Int)) (y:W):Option (IntKind×Int):=match acc,y with
  |some (k,n),.l (.i k' m)=>if k=k' then some (k,f n m)else none
  |_,_=>none
omit hh hs in
theorem aIc (f:Int→Int→Int):∀ xs:List W,xs.foldl (aXz f) none=none
 |[]=>rfl
 |x::xs=>by rw[List.foldl_cons];exact aIc f xs
omit hh in
theorem aV0 (f:Int→Int→Int) (g:Value→Value→Sem Value) (hg:∀ k n m,g (.int k n) (.int k m)=pure (.int k (f n m))) (P:Program) :
  ∀ (xs:List Operand) (k kd:IntKind) (n n0:Int),(xs.map σ.ev).foldl (aXz f) (some (k,n))=some (kd,n0)→((xs.map a.eval).foldlM g (.int k n)).run P w=.ok (.int kd n0) w
 |[],k,kd,n,n0,h=>by
  simp at h
  obtain⟨rfl,rfl⟩:=h
  rfl
 |x::xs,k,kd,n,n0,h=>by
  simp only[List.map_cons,List.foldl_cons]at h
  have hv:=hs x
  cases hx:σ.ev x with
  |l y =>
   cases y with
   |i k' m =>
    rw[hx]at hv h
    obtain hv:a.eval x=.int k' m:=hv
    simp only[aXz]at h
    split at h
    ·rename_i hk
     subst hk
     simp only[List.map_cons,List.foldlM_cons,hv,hg,Sem.run_bind,Sem.run_pure,Result.andThen_ok]
     exact aV0 f g hg P xs k kd _ n0 h
    ·rw[aIc]at h;cases h
   |_=>rw[hx]at h;simp only[aXz]at h;rw[aIc]at h;cases h
  |_=>rw[hx]at h;simp only[aXz]at h;rw[aIc]at h;cases h
theorem aZd {call:Call} {args:Array Operand} {ats:Array TypeId} (bi:Builtin) (f:Int→Int→Int) (hb:(bi=.max∧f=bUh)∨(bi=.min∧f=aXw))
  (hcall:call={callee:=.builtin bi,args:=args,argTypes:=ats}) (ho:o.op=.call call) {kd:IntKind} {n:Int} (hf:bJa f (args.toList.map σ.ev)=some (kd,n)) :
  aC9 c σ β w (execOp a.eval o) (aBe σ (.l (.i kd n))):=by
 subst hcall
 cases hal:args.toList with
 |nil=>rw[hal]at hf;simp[bJa]at hf
 |cons x xs =>
  rw[hal]at hf
  simp only[List.map_cons]at hf
  have hv:=hs x
  unfold bJa at hf
  split at hf
  ·rename_i heq;cases heq
  ·rename_i k1 n1 r1 heq
   simp only[List.cons.injEq]at heq
   obtain⟨hx,rfl⟩:=heq
   rw[hx]at hv
   obtain hv:a.eval x=.int k1 n1:=hv
   refine aAj hh (v:=.int kd n) ?_ rfl
   have hlist:(args.map a.eval).toList=a.eval x::xs.map a.eval:=by rw[Array.toList_map,hal];rfl
   rcases hb with⟨rfl,rfl⟩ | ⟨rfl,rfl⟩
   ·have:=aV0 (w:=w) (a:=a) hs _ Builtin.max2 (fun k n m=>by simp[Builtin.max2,bUh]) c.P xs k1 kd n1 n hf
    simp[execOp,ho,resolve,invoke,builtin,Builtin.max_,hal,hv,this]
   ·have:=aV0 (w:=w) (a:=a) hs _ Builtin.min2 (fun k n m=>by simp[Builtin.min2,aXw]) c.P xs k1 kd n1 n hf
    simp[execOp,ho,resolve,invoke,builtin,Builtin.min_,hal,hv,this]
  ·cases hf
omit hh hs in
theorem aJs {ok:Nat→Prop} {h:aCq} {nx:Nat} {v:Value} {x:L} (hx:aI5 ok w h nx β v x) (hst:x.storable=true):v.oneCell'=true:=by
 cases x<;>simp[L.storable]at hst
 ·obtain rfl:v=_:=hx;rfl
 ·obtain rfl:v=_:=hx;rfl
 ·obtain⟨s,rfl,_⟩:=hx;rfl
 ·exact Rep.one hx
 ·exact Rep.one hx.1
 ·obtain rfl:v=_:=hx;rfl
 ·exact hx.2.1
 ·exact hx.2.1
 ·exact hx.2.1
 ·obtain⟨b,o',rfl,_⟩:=hx;rfl
 ·exact Rep.one hx
 ·obtain⟨vs,rfl,_⟩:=hx;rfl
 ·exact Rep.one hx
 ·exact Rep.one hx
 ·exact hx.2.1
omit hh hs in
theorem aNo {ok:Nat→Prop} {h:aCq} {nx:Nat} {v:Value} {X:W} {xs:List L} (hx:aFs ok w h nx β v X) (hl:aXv X=some xs) :
  aJ9 ok w h nx β v.cells xs∧(∀ (j:Nat) (u:Value),v.cells[j]? =some u→u.oneCell'=true)∧xs.all L.storable=true:=by
 cases X with
 |l x =>
  simp only[aXv]at hl
  split at hl
  ·rename_i hst
   obtain rfl:=Option.some.inj hl
   have h1:=aJs hx hst
   have hc:v.cells=#[v]:=by cases v<;>first | rfl | (simp[Value.oneCell']at h1)
   rw[hc]
   refine⟨⟨rfl,fun j y hy=>?_⟩,fun j u hu=>?_,by simp[hst]⟩
   ·cases j with
    |zero=>simp at hy;subst hy;exact⟨v,rfl,hx⟩
    |succ j=>simp at hy
   ·cases j with
    |zero=>simp at hu;subst hu;exact h1
    |succ j=>simp at hu
  ·cases hl
 |agg ys =>
  simp only[aXv]at hl
  split at hl
  ·rename_i hst
   obtain rfl:=Option.some.inj hl
   obtain⟨vs,rfl,hr⟩:=hx
   refine⟨hr,fun j u hu=>?_,hst⟩
   have hu0:vs[j]? =some u:=hu
   have hlt:j<ys.length:=by
    have:=(Array.getElem?_eq_some_iff.1 hu0).1
    rw[hr.1]at this
    exact this
   obtain⟨u',hu',hru⟩:=hr.2 j ys[j] (List.getElem?_eq_getElem hlt)
   have:u=u':=by
    have h2:vs[j]? =some u:=hu
    rw[h2]at hu'
    exact Option.some.inj hu'
   subst this
   exact aJs hru (List.all_eq_true.1 hst _ (List.getElem_mem hlt))
  ·cases hl
 |tup ps=>simp[aXv]at hl
 |bz t=>simp[aXv]at hl
omit hh hs in
theorem aTr (off:Nat):∀ (vs:List Value) (k:Nat) (cs:Array Value),off+k+vs.length≤cs.size →
  (((vs.zipIdx k).foldl (fun cs (p:Value×Nat)=>cs.setIfInBounds (off+p.2) p.1) cs).size=cs.size ∧
   ∀ i,((vs.zipIdx k).foldl (fun cs (p:Value×Nat)=>cs.setIfInBounds (off+p.2) p.1) cs)[i]? =if off+k≤i∧i<off+k+vs.length then vs[i-(off+k)]? else cs[i]?)
 |[],k,cs,_=>by
  refine⟨rfl,fun i=>?_⟩
  rw[if_neg (by simp)]
  rfl
 |v::vs,k,cs,h=>by
  obtain⟨h1,h2⟩:=aTr off vs (k+1) (cs.setIfInBounds (off+k) v) (by simp at h ⊢;omega)
  simp only[List.zipIdx_cons,List.foldl_cons]
  refine⟨by rw[h1];simp,fun i=>?_⟩
  rw[h2 i]
  simp only[List.length_cons]at h ⊢
  by_cases hi:i=off+k
  ·subst hi
   have hlt:off+k<cs.size:=by omega
   rw[if_neg (by omega),if_pos (by omega)]
   simp[hlt]
  ·by_cases hr:off+k≤i∧i<off+k+(vs.length+1)
   ·rw[if_pos hr,if_pos (by omega)]
    obtain⟨d,hd⟩:∃ d,i-(off+k)=d+1:=⟨i-(off+k)-1,by omega⟩
    rw[hd,List.getElem?_cons_succ]
    congr 1
    omega
   ·rw[if_neg hr,if_neg (by omega),Array.getElem?_setIfInBounds_ne (by omega)]
omit hh hs in
theorem aTq {ok:Nat→Prop} {h:aCq} {nx:Nat} {cs us:Array Value} {cells xs:List L} {off:Nat} (hc:aJ9 ok w h nx β cs cells) (hu:aJ9 ok w h nx β us xs) (hl:off+xs.length≤cells.length) {cs':Array Value}
  (hs':cs'.size=cs.size) (hg:∀ i,cs'[i]? =if off≤i∧i<off+us.size then us[i-off]? else cs[i]?):aJ9 ok w h nx β cs' (cells.take off++xs++cells.drop (off+xs.length)):=by
 refine⟨by rw[hs',hc.1];simp;omega,fun j x hx=>?_⟩
 rw[hg j]
 by_cases h1:j<off
 ·rw[if_neg (by omega)]
  rw[List.append_assoc,List.getElem?_append_left (by simp;omega),List.getElem?_take_of_lt h1]at hx
  exact hc.2 j x hx
 ·by_cases h2:j<off+xs.length
  ·rw[if_pos (by rw[hu.1];omega)]
   rw[List.append_assoc,List.getElem?_append_right (by simp;omega),List.getElem?_append_left (by simp;omega)]at hx
   have:min off cells.length=off:=by omega
   simp only[List.length_take,this]at hx
   exact hu.2 _ x hx
  ·rw[if_neg (by rw[hu.1];omega)]
   rw[List.getElem?_append_right (by simp;omega),List.getElem?_drop]at hx
   have e:off+xs.length+(j-(cells.take off++xs).length)=j:=by simp;omega
   rw[e]at hx
   exact hc.2 j x hx
omit hh in
theorem bM0 {ti:TI} {places:List (Nat×Nat)} (hpl:∀ (i o':Nat) (ft:TypeId) (tf:TI),ti.fields[i]? =some (o',ft)→E.Ty ft=some tf→places[i]? =some (o',tf.leaves.length)) :
  ∀ (parts:List (Nat×Operand)) (cs:Array Value) (cells out:List L),aJ9 (okD c σ.heap β) w σ.heap σ.next β cs cells→aSh E σ ti.fields cells parts=some out →
   ∃ cs',Instr.fill (places.toArray[·]?) cs (parts.map fun p=>(p.1,a.eval p.2))=some cs'∧aJ9 (okD c σ.heap β) w σ.heap σ.next β cs' out
 |[],cs,cells,out,hc,hf=>by
  simp only[aSh,Option.some.injEq]at hf
  subst hf
  exact⟨cs,rfl,hc⟩
 |(i,x)::parts,cs,cells,out,hc,hf=>by
  simp only[aSh]at hf
  split at hf
  ·rename_i o' ft xs hfi hls
   split at hf
   ·rename_i tf htf
    split at hf
    ·rename_i hlen
     obtain⟨hu,_,_⟩:=aNo (hs x) hls
     have hpi:=hpl i o' ft tf hfi htf
     have hsz:(a.eval x).cells.size=tf.leaves.length:=by rw[hu.1];exact hlen.1
     have hsp:=aTr o' (a.eval x).cells.toList 0 cs (by simp[hsz];rw[hc.1];omega)
     have hrep:=aTq (cs':=((a.eval x).cells.toList.zipIdx 0).foldl (fun cs (p:Value×Nat)=>cs.setIfInBounds (o'+p.2) p.1) cs) hc hu hlen.2 hsp.1 (fun i=>by have:=hsp.2 i;simpa using this)
     obtain⟨cs',hf',hr'⟩:=bM0 hpl parts _ _ out hrep hf
     refine⟨cs',?_,hr'⟩
     simp only[List.map_cons,Instr.fill]
     have h1:places.toArray[i]? =some (o',tf.leaves.length):=by simpa using hpi
     rw[h1]
     simp only[]
     rw[if_neg (by rw[hsz,hc.1];simp;omega)]
     rw[←Array.foldl_toList,Array.toList_zipIdx]
     exact hf'
    ·cases hf
   ·cases hf
  ·cases hf
omit hh hs in
theorem bR5 {ok:Nat→Prop} {h:aCq} {nx:Nat} (kd:K):aI5 ok w h nx β (aIb kd) (bIz kd):=by
 cases kd<;>first | (simp[bIz,aIb,aI5];done) | exact Rep.enil
omit hh hs in
theorem aUv {ok:Nat→Prop} {h:aCq} {nx:Nat} {P:Program} {t:TypeId} {ti:TI} (hT:bFv P t ti):∃ i z,P.info? t=some i∧i.size=ti.leaves.length∧i.zero=some z∧z.cells.size=ti.leaves.length∧aJ9 ok w h nx β z.cells (ti.leaves.map bIz):=by
 obtain⟨i,z,h1,h2,_,h4,h5⟩:=hT.info
 have hsz:z.cells.size=ti.leaves.length:=by rw[←Array.length_toList,h5];simp
 refine⟨i,z,h1,h2,h4,hsz,by simp[hsz],fun j x hx=>?_⟩
 rw[List.getElem?_map]at hx
 cases hk:ti.leaves[j]? with
 |none=>rw[hk]at hx;simp at hx
 |some kd =>
  rw[hk]at hx
  simp only[Option.map_some,Option.some.injEq]at hx
  subst hx
  refine⟨aIb kd,?_,bR5 kd⟩
  rw[←Array.getElem?_toList,h5,List.getElem?_map,hk]
  rfl
include hE in
theorem bOo {t:TypeId} {parts:Array (Nat×Operand)} (ho:o.op=.build t parts) (he:aBv E σ (.build t parts)=some r):aC9 c σ β w (execOp a.eval o) r:=by
 simp only[aBv,vop]at he
 split at he
 ·rename_i ti hti
  split at he
  ·rename_i cells hag hfl
   obtain rfl:=aAh he
   have hT:=hE.ty t ti hti
   obtain⟨fs,hu,⟨places,hpl⟩,hfs⟩:=hT.agg hag
   obtain⟨i,z,hi,hisz,hz,hzs,hzr⟩:=aUv (w:=w) (β:=β) (ok:=okD c σ.heap β) (h:=σ.heap) (nx:=σ.next) hT
   have hplaces:∀ (i o':Nat) (ft:TypeId) (tf:TI),ti.fields[i]? =some (o',ft)→E.Ty ft=some tf→places[i]? =some (o',tf.leaves.length):=by
    intro i o' ft tf hfi htf
    obtain⟨fd,hfd,ho',hty⟩:=hfs i o' ft hfi
    have:=mapM_some_get hpl i fd (by simpa using hfd)
    obtain⟨ii,_,h1,h2,_⟩:=(hE.ty ft tf htf).info
    rw[←this,hty,h1,ho']
    simp[h2]
   obtain⟨cs',hfill,hrep⟩:=bM0 (c:=c) (w:=w) hs hplaces parts.toList z.cells _ cells hzr hfl
   refine aAj hh (v:=.agg cs') ?_ ⟨cs',rfl,hrep⟩
   have hb:c.P.built t (parts.map fun (i,x)=>(i,a.eval x)).toList=some cs':=by
    simp only[Program.built,hi,hu,hz,hpl]
    rw[Array.toList_map]
    exact hfill
   simp only[execOp,ho]
   rw[Sem.run_bind,run_build w t _ cs' hb]
   rfl
  ·exact (aA0 he).elim
 ·split at he
  ·rename_i hc
   obtain⟨hbt,hps⟩:=hc
   obtain rfl:=aAh he
   obtain⟨e0,hbt⟩:=Option.isSome_iff_exists.1 hbt
   obtain⟨ti,e,hT,hag,hlv⟩:=hE.bld _ _ hbt
   obtain⟨fs,hu,⟨places,hpl⟩,hfs⟩:=hT.agg hag
   obtain⟨i,z,hi,_,_,hz,hzl⟩:=hT.info
   have hzc:z.cells=#[.pointer none,.slice none 0 0]:=by
    apply Array.toList_inj.1
    rw[hzl,hlv];rfl
   have hp0:parts=#[]:=Array.eq_empty_of_size_eq_zero hps
   have hb:c.P.built t (parts.map fun (i,x)=>(i,a.eval x)).toList=some z.cells:=by
    subst hp0
    simp only[Program.built,hi,hu,hz,hpl]
    simp[Instr.fill]
   refine aAj hh (v:=.agg z.cells) ?_ (by rw[hzc];rfl)
   simp only[execOp,ho]
   rw[Sem.run_bind,run_build w t _ z.cells hb]
   rfl
  ·exact (aA0 he).elim
omit hh in
theorem bLx {xs:List Operand} {cs:List (Sum Nat C)} (hm:xs.mapM (bB3 σ)=some cs) :
  (xs.map a.eval).length=cs.length∧∀ (i:Nat) (v:Value) (x:Sum Nat C),(xs.map a.eval)[i]? =some v→cs[i]? =some x→aMq (okD c σ.heap β) w σ.heap σ.next β v x:=by
 refine⟨by rw[List.length_map];exact (mapM_some_length hm).symm,fun i v x hv hx=>?_⟩
 rw[List.getElem?_map]at hv
 cases hxi:xs[i]? with
 |none=>rw[hxi]at hv;simp at hv
 |some y =>
  rw[hxi]at hv
  simp only[Option.map_some,Option.some.injEq]at hv
  subst hv
  have hg:=mapM_some_get hm i y hxi
  rw[hx]at hg
  have hy:=hs y
  unfold bB3 at hg
  split at hg
  ·rename_i id hl
   rw[hl]at hy
   split at hg
   ·rename_i cells hlk
    obtain rfl:=Option.some.inj hg
    exact hy
   ·cases hg
  ·rename_i l _ hl
   rw[hl]at hy
   split at hg
   ·rename_i hid
    cases l with
    |i k n=>obtain rfl:=Option.some.inj hg;obtain hy:a.eval y=_:=hy;rw[hy];exact Rep.int _ _
    |b t=>obtain rfl:=Option.some.inj hg;obtain hy:a.eval y=_:=hy;rw[hy];exact Rep.bool _
    |s l=>obtain rfl:=Option.some.inj hg;obtain⟨s,hy,rfl⟩:=hy;rw[hy];exact Rep.str _
    |sl rows=>obtain rfl:=Option.some.inj hg;exact hy
    |sn _ rows=>obtain rfl:=Option.some.inj hg;exact hy.1
    |nil=>obtain rfl:=Option.some.inj hg;obtain hy:a.eval y=_:=hy;rw[hy];exact Rep.emp _ _
    |fn f caps=>obtain rfl:=Option.some.inj hg;exact hy
    |e x=>obtain rfl:=Option.some.inj hg;exact hy
    |m ks=>obtain rfl:=Option.some.inj hg;exact hy
    |_=>simp[L.ids,L.data]at hid hg
   ·cases hg
  ·cases hg
omit hh hs in
theorem bT6 {ok:Nat→Prop} {h:aCq} {nx:Nat} {f:FuncId} {caps:List (Sum Nat C)} {vs:List Value} (h1:vs.length=caps.length)
  (h2:∀ (i:Nat) (v:Value) (x:Sum Nat C),vs[i]? =some v→caps[i]? =some x→aMq ok w h nx β v x):aI5 ok w h nx β (.func (.func f) #[] vs.toArray) (bW0 f caps):=by
 unfold bW0
 split
 ·rename_i cs hc
  have:caps=cs.map .inr:=by
   clear h1 h2
   induction caps generalizing cs with
   |nil=>obtain rfl:=Option.some.inj hc;rfl
   |cons x r ih =>
    cases x with
    |inl id=>simp[aMn]at hc
    |inr y =>
     simp only[aMn]at hc
     cases hr:aMn r with
     |none=>rw[hr]at hc;cases hc
     |some ds =>
      rw[hr]at hc
      obtain rfl:=Option.some.inj hc
      rw[ih ds hr];rfl
  subst this
  refine Rep.fn f vs cs (by simpa using h1) fun i v x hv hx=>?_
  exact h2 i v (.inr x) hv (by rw[List.getElem?_map,hx];rfl)
 ·exact⟨vs,rfl,h1,h2⟩
theorem bCk {f:FuncId} {first caps:Array Operand} (ho:o.op=.makeFunc (.func f) first caps) (he:aBv E σ (.makeFunc (.func f) first caps)=some r):aC9 c σ β w (execOp a.eval o) r:=by
 simp only[aBv,vop]at he
 split at he
 ·rename_i hfirst
  split at he
  ·rename_i cs hm
   obtain rfl:=aAh he
   obtain⟨h1,h2⟩:=bLx (c:=c) (w:=w) hs hm
   have hf:first=#[]:=by simpa using hfirst
   refine aAj hh (v:=.func (.func f) #[] (caps.toList.map a.eval).toArray) ?_ (bT6 h1 h2)
   simp only[execOp,ho,Instr.makeFunc,hf]
   simp
   apply Array.ext'
   simp
  ·exact (aA0 he).elim
 ·exact (aA0 he).elim
end
end
end Go.Proofs.YtigodjkegcibhaaGreatDoor.V
