/- The value-level interpreter over the model, part C: definitions, or lemmas that show that it is the model's. -/
import Derived.Test.YtigodjkegcibhaaGreatDoorVB
import Derived.Great.FillDense
import Derived.Great.BuildSlice
import Derived.Deep.AppendSrc
import Derived.Deep.DeepAppendWide
import Derived.MapKept
import Derived.Carry
set_option linter.unusedVariables false
set_option linter.unusedSimpArgs false
set_option linter.unusedSectionVars false
set_option linter.unnecessarySimpa false
namespace Go.Proofs.YtigodjkegcibhaaGreatDoor.V
section
variable {c:Ctx} {w w':World} {h:aCq} {nx:Nat} {β:aCr}
def aD8 (β:aCr) (id:Nat) (ob:Option Nat):aCr:=fun i=>if i=id then ob else β i
theorem aAt {id nx:Nat} {b:Blk} {h:aCq} (hne:id≠nx):List.lookup id ((nx,b)::h)=h.lookup id:=by
 simp[List.lookup,show (id==nx)=false by simpa using hne]
theorem aBw {nx:Nat} {b:Blk} {h:aCq}:List.lookup nx ((nx,b)::h)=some b:=by simp[List.lookup]
theorem bDs (hh:aB7 c w h nx β) {blk:Blk} {ob:Option Nat} (hsz:w.heap.size≤w'.heap.size) (hold:∀ b,b<w.heap.size→w'.heap[b]? =w.heap[b]?) (hob:∀ b,ob=some b→w.heap.size≤b) :
  Ext c w h nx β w' ((nx,blk)::h) (nx+1) (aD8 β nx ob):=by
 refine⟨by omega,hsz,?_,?_,?_⟩
 ·intro b hb hlt
  refine⟨⟨hb.1,fun id x hl hf hbs=>?_⟩,hold b hlt⟩
  by_cases hid:id=nx
  ·subst hid
   simp only[aD8,if_pos]at hbs
   have:=hob b hbs
   omega
  ·rw[aAt hid]at hl
   simp only[aD8,if_neg hid]at hbs
   exact hb.2 id x hl hf hbs
 ·intro id x' hid hl
  rw[aAt (by omega)]at hl
  exact⟨by simp[aD8];omega,x',hl,aAf.refl _⟩
 ·intro id x b cur E fr hid hl hb hw
  rw[aAt (by omega)]at hl
  exact⟨cur,by rw[hold b (hh.place id x b hl hb).2];exact hw,rfl⟩
theorem aO6.ext {d:Ctx} {w1 w2:World} {h1 h2:aCq} {n1 n2:Nat} {β1 β2:aCr} (e:aUp c d w1 h1 n1 β1 w2 h2 n2 β2) {ob:Option Nat} {blk:Blk} (hb:aO6 (okD c h1 β1) w1 h1 n1 β1 ob blk)
  (hw:∀ b,ob=some b→w2.heap[b]? =w1.heap[b]?):aO6 (okD d h2 β2) w2 h2 n2 β2 ob blk:=by
 have rows:∀ sz rows,aGg (okD c h1 β1) w1 ob sz rows→aGg (okD d h2 β2) w2 ob sz rows:=by
  intro sz rows ⟨r1,r2⟩
  refine⟨r1,r2.imp id ?_⟩
  rintro⟨b,cur,E,fr,hob,hc,ht,hl,hr⟩
  exact⟨b,cur,E,fr,hob,by rw[hw b hob];exact hc,ht,hl,fun i r j x hi hj=>let⟨v,h1,h2⟩:=hr i r j x hi hj;⟨v,h1,e.rep h2⟩⟩
 cases blk with
 |box cells =>
  obtain⟨b,cur,E,fr,hob,hc,ht,hr⟩:=hb
  exact⟨b,cur,E,fr,hob,by rw[hw b hob];exact hc,ht,e.repLs hr⟩
 |arr sz rs=>exact rows sz rs hb
 |fro sz rs=>exact rows sz rs hb
 |bld t e0 row =>
  obtain⟨b,p,u,hob,hc,hp,hn,hr⟩:=hb
  refine⟨b,p,u,hob,by rw[hw b hob];exact hc,hp,hn,fun id hid=>?_⟩
  obtain⟨hlt,hnb,hr⟩:=hr id hid
  refine⟨Nat.lt_of_lt_of_le hlt e.nxle,fun t2 e2 r2 hl=>?_,fun e' bs hl=>?_⟩
  ·obtain⟨_,x0,hx0,hs⟩:=e.site id _ hlt hl
   cases x0 with
   |bld t1 e1 r1=>exact hnb _ _ _ hx0
   |own e1 bs1=>simp[aAf]at hs
   |box c0=>simp[aAf]at hs
   |arr sz rows=>simp[aAf]at hs
   |fro sz rows=>simp[aAf]at hs
   |mset _=>simp[aAf]at hs
  obtain⟨hbe,x0,hx0,hs⟩:=e.site id _ hlt hl
  cases x0 with
  |own e1 bs1 =>
   obtain⟨rfl,hlen⟩:=hs
   obtain⟨hee,g,cur,E1,fr1,hg,hcg,hu⟩:=hr _ bs1 hx0
   obtain⟨cur',hc',hsz⟩:=e.cells id _ g cur _ _ hlt hl hg hcg
   exact⟨hee,g,cur',E1,fr1,hbe.trans hg,hc',by rw[hu,hlen,hsz]⟩
  |box c0=>simp[aAf]at hs
  |arr sz rows=>simp[aAf]at hs
  |fro sz rows=>simp[aAf]at hs
  |bld t1 e1 r1=>simp[aAf]at hs
  |mset _=>simp[aAf]at hs
 |mset ks =>
  obtain⟨b,hob,hm⟩:=hb
  exact⟨b,hob,hm.mono (hw b hob)⟩
 |own e0 bs =>
  obtain⟨g,cur,E1,fr1,hob,hc,h0,h1,h2,h3⟩:=hb
  exact⟨g,cur,E1,fr1,hob,by rw[hw g hob];exact hc,h0,h1,h2,h3⟩
theorem aUa (hh:aB7 c w h nx β) {blk:Blk} {ob:Option Nat} (hsz:w.heap.size≤w'.heap.size) (hold:∀ b,b<w.heap.size→w'.heap[b]? =w.heap[b]?) (hos:w'.os=w.os) (hout:w'.output=w.output)
  (hob:∀ b,ob=some b→w.heap.size≤b∧b<w'.heap.size) (hblk:aO6 (okD c ((nx,blk)::h) (aD8 β nx ob)) w' ((nx,blk)::h) (nx+1) (aD8 β nx ob) ob blk) :
  aB7 c w' ((nx,blk)::h) (nx+1) (aD8 β nx ob):=by
 have e:=bDs (blk:=blk) hh hsz hold (fun b hb=>(hob b hb).1)
 refine⟨?_,?_,?_,?_,?_,?_,?_,?_,fun g o hg=>?_⟩
 ·intro id b hl
  by_cases hid:id=nx
  ·subst hid
   rw[aBw]at hl
   obtain rfl:=Option.some.inj hl
   exact⟨by omega,by simpa[aD8]using hblk⟩
  ·rw[aAt hid]at hl
   obtain⟨h1,h2⟩:=hh.blk id b hl
   refine⟨by omega,?_⟩
   have:aD8 β nx ob id=β id:=by simp[aD8,hid]
   rw[this]
   exact h2.ext e (fun d hd=>hold d (hh.place id b d hl hd).2)
 ·intro id x b hl hb
  by_cases hid:id=nx
  ·subst hid
   simp only[aD8,if_pos]at hb
   have:=hob b hb
   have:=hh.size
   exact⟨.inl (by omega),by omega⟩
  ·rw[aAt hid]at hl
   simp only[aD8,if_neg hid]at hb
   obtain⟨h1,h2⟩:=hh.place id x b hl hb
   exact⟨h1,by omega⟩
 ·intro id id' x x' b hl hl' hb hb'
  by_cases hid:id=nx<;>by_cases hid':id'=nx
  ·omega
  ·exfalso
   subst hid
   rw[aAt hid']at hl'
   simp only[aD8,if_pos]at hb
   simp only[aD8,if_neg hid']at hb'
   have:=(hob b hb).1
   have:=(hh.place id' x' b hl' hb').2
   omega
  ·exfalso
   subst hid'
   rw[aAt hid]at hl
   simp only[aD8,if_pos]at hb'
   simp only[aD8,if_neg hid]at hb
   have:=(hob b hb').1
   have:=(hh.place id x b hl hb).2
   omega
  ·rw[aAt hid]at hl
   rw[aAt hid']at hl'
   simp only[aD8,if_neg hid]at hb
   simp only[aD8,if_neg hid']at hb'
   exact hh.inj id id' x x' b hl hl' hb hb'
 ·have:=hh.size;omega
 ·intro b hb hpb
  rw[hold b (by have:=hh.size;omega)]
  exact hh.frame b hb hpb
 ·rw[hos];exact hh.os
 ·rw[hout];exact hh.out
 ·intro b hb cur E fr hw
  obtain⟨cur',h1,h2⟩:=hh.pbs b hb cur E fr hw
  exact⟨cur',by rw[hold b (by have:=hh.size;have:=c.oldpb b hb;omega)];exact h1,h2⟩
 ·obtain⟨g1,g2⟩:=hh.gh g o hg
  have hlt:=(Array.getElem?_eq_some_iff.1 g1).1
  refine⟨(hold g hlt).trans g1,fun id x hl hb=>?_⟩
  by_cases hid:id=nx
  ·subst hid
   simp only[aD8,if_pos]at hb
   have:=(hob g hb).1
   omega
  ·rw[aAt hid]at hl
   simp only[aD8,if_neg hid]at hb
   exact g2 id x hl hb
theorem bKu {id:Nat} {blk:Blk} (hh:aB7 c w h nx β):∀ cells,h.lookup id=some (.box cells)→∃ cells',List.lookup id ((nx,blk)::h)=some (.box cells'):=fun cells hl =>
 ⟨cells,by rw[aAt (by have:=(hh.blk id _ hl).1;omega)];exact hl⟩
theorem aFm {σ:St} {s:Sem Next} {v:Value} {x:W} {blk:Blk} {ob:Option Nat} (hh:aB7 c w σ.heap σ.next β) (hr:s.run c.P w=.ok (.value v) w')
  (hsz:w.heap.size≤w'.heap.size) (hold:∀ b,b<w.heap.size→w'.heap[b]? =w.heap[b]?) (hos:w'.os=w.os) (hout:w'.output=w.output) (hob:∀ b,ob=some b→w.heap.size≤b∧b<w'.heap.size)
  (hblk:Ext c w σ.heap σ.next β w' ((σ.next,blk)::σ.heap) (σ.next+1) (aD8 β σ.next ob)→aO6 (okD c ((σ.next,blk)::σ.heap) (aD8 β σ.next ob)) w' ((σ.next,blk)::σ.heap) (σ.next+1) (aD8 β σ.next ob) ob blk)
  (hx:aFs (okD c ((σ.next,blk)::σ.heap) (aD8 β σ.next ob)) w' ((σ.next,blk)::σ.heap) (σ.next+1) (aD8 β σ.next ob) v x) :
  aC9 c σ β w s {val:=x,st:=σ.new blk,eff:=true}:=by
 have e:=bDs (blk:=blk) hh hsz hold (fun b hb=>(hob b hb).1)
 exact⟨v,w',_,.inl hr,aUa hh hsz hold hos hout hob (hblk e),e,hx,rfl,rfl,fun id=>bKu hh,fun id hid _=>aAt (by omega)⟩
theorem aC2 (w:World) (o:Obj) (b:Nat) (hb:b<w.heap.size):(w.heap.push o)[b]? =w.heap[b]? :=by
 rw[Array.getElem?_push,if_neg (by omega)]
theorem aFu (n:Nat):aFd n (0,0):=fun j _ h=>by omega
section
variable {σ:St} {E:Env} {a:Act} {o:Oper} {r:R} (hE:aDx c.P E) (hh:aB7 c w σ.heap σ.next β) (hs:∀ x,aFs (okD c σ.heap β) w σ.heap σ.next β (a.eval x) (σ.ev x))
include hE hh hs
omit hE hh hs in
theorem bFj {α:Type} (l:List α):∀ (m i j:Nat),i<m→j<l.length→(List.replicate m l).flatten[i*l.length+j]? =l[j]?
 |0,i,j,h,_=>by omega
 |m+1,i,j,h,hj=>by
  rw[List.replicate_succ,List.flatten_cons]
  cases i with
  |zero=>rw[Nat.zero_mul,Nat.zero_add,List.getElem?_append_left hj]
  |succ i =>
   rw[Nat.add_mul,Nat.one_mul,List.getElem?_append_right (by omega)]
   have:i*l.length+l.length+j-l.length=i*l.length+j:=by omega
   rw[this]
   exact bFj l m i j (by omega) hj
omit hE hh hs in
theorem aXy {ok:Nat→Prop} {kd:K} (hk:kd.plain=true):Rep w ok (aIb kd) (aOk kd):=by
 cases kd<;>simp[K.plain]at hk
 ·exact .int _ _
 ·exact .bool _
 ·exact .str ⟨#[]⟩
 ·exact .emp _ _
 ·exact .enil
theorem bOq {t:TypeId} (ho:o.op=.alloc t) (he:aBv E σ (.alloc t)=some r):aC9 c σ β w (execOp a.eval o) r:=by
 simp only[aBv,vop]at he
 split at he
 ·rename_i ti hti
  obtain rfl:=aAh he
  obtain⟨i,z,hi,hisz,hz,hzs,hzr⟩:=aUv (w:=w) (β:=β) (ok:=okD c σ.heap β) (h:=σ.heap) (nx:=σ.next) (hE.ty t ti hti)
  refine aFm (w':={w with heap:=w.heap.push (.cells z.cells t)}) (v:=.pointer (some ⟨w.heap.size,0,none⟩)) (ob:=some w.heap.size) hh ?_ (by simp) (fun b hb=>aC2 w _ b hb) rfl rfl (fun b hb=>by
   obtain rfl:=Option.some.inj hb;simp) (fun e=>⟨w.heap.size,z.cells,t,(0,0),rfl,by simp,aFu _,e.repLs hzr⟩) ⟨by omega,rfl,fun cells hl=>⟨w.heap.size,by simp[aD8],rfl⟩,fun _ _ _ _=>⟨w.heap.size,by simp[aD8],rfl⟩⟩
  simp only[execOp,ho]
  simp[Instr.alloc,zeroValue,typeInfo,hi,hz,newVar,newRow]
 ·split at he
  ·rename_i e0 hbt
   obtain rfl:=aAh he
   obtain⟨ti,e,hT,hag,hlv⟩:=hE.bld _ _ hbt
   obtain⟨i,z,hi,_,_,hz,hzl⟩:=hT.info
   have hzc:z.cells=#[.pointer none,.slice none 0 0]:=by
    apply Array.toList_inj.1
    rw[hzl,hlv];rfl
   refine aFm (w':={w with heap:=w.heap.push (.cells z.cells t)}) (v:=.pointer (some ⟨w.heap.size,0,none⟩)) (ob:=some w.heap.size) hh ?_ (by simp) (fun b hb=>aC2 w _ b hb) rfl rfl (fun b hb=>by
    obtain rfl:=Option.some.inj hb;simp) (fun e=>⟨w.heap.size,.pointer none,.slice none 0 0,rfl,by simp[hzc],.inl rfl,fun _=>rfl,fun id hid=>by cases hid⟩) ⟨by omega,rfl,fun cells hl=>⟨w.heap.size,by simp[aD8],rfl⟩,fun _ _ _ _=>⟨w.heap.size,by simp[aD8],rfl⟩⟩
   simp only[execOp,ho]
   simp[Instr.alloc,zeroValue,typeInfo,hi,hz,newVar,newRow]
  split at he
  ·rename_i m e hArr
   split at he
   ·rename_i te hte
    split at he
    ·rename_i hpl
     obtain rfl:=aAh he
     obtain⟨i,z,hi,hz,hzl⟩:=(hE.arr t m e te hArr hte).info
     have hzsz:z.cells.size=m*te.leaves.length:=by rw[←Array.length_toList,hzl];simp
     refine aFm (w':={w with heap:=w.heap.push (.cells z.cells t)}) (v:=.pointer (some ⟨w.heap.size,0,none⟩)) (ob:=some w.heap.size) hh ?_ (by simp) (fun b hb=>aC2 w _ b hb) rfl rfl (fun b hb=>by
      obtain rfl:=Option.some.inj hb;simp) (fun ex=>?_) ?_
     ·simp only[execOp,ho]
      simp[Instr.alloc,zeroValue,typeInfo,hi,hz,newVar,newRow]
     ·refine⟨fun rr hrr=>by rw[List.eq_of_mem_replicate hrr];simp,.inr ⟨w.heap.size,z.cells,t,(0,0),rfl,by simp,aFu _,by rw[hzsz];simp,?_⟩⟩
      intro i' rr j x hi' hj
      have hilt:i'<m:=by have:=(List.getElem?_eq_some_iff.1 hi').1;simpa using this
      rw[List.getElem?_replicate,if_pos hilt]at hi'
      obtain rfl:=Option.some.inj hi'
      rw[List.getElem?_map]at hj
      cases hk:te.leaves[j]? with
      |none=>rw[hk]at hj;simp at hj
      |some kd =>
       rw[hk]at hj
       simp only[Option.map_some,Option.some.injEq]at hj
       subst hj
       have hjlt:=(List.getElem?_eq_some_iff.1 hk).1
       refine⟨aIb kd,?_,aXy (List.all_eq_true.1 hpl.1 kd (List.mem_of_getElem? hk))⟩
       have:=bFj (te.leaves.map aIb) m i' j hilt (by simpa using hjlt)
       rw[List.length_map]at this
       rw[←Array.getElem?_toList,hzl,this,List.getElem?_map,hk]
       rfl
     ·refine⟨by omega,rfl,fun sz rows hl=>?_⟩
      have hl:List.lookup σ.next ((σ.next,_)::σ.heap)=_:=hl
      rw[aBw]at hl
      simp only[Option.some.injEq,Blk.arr.injEq]at hl
      obtain⟨rfl,rfl⟩:=hl
      exact⟨w.heap.size,by simp[aD8],by simp⟩
    ·exact (aA0 he).elim
   ·exact (aA0 he).elim
  ·exact (aA0 he).elim
theorem bU4 {t:TypeId} {x:Operand} (ho:o.op=.box t x) (he:aBv E σ (.box t x)=some r):aC9 c σ β w (execOp a.eval o) r:=by
 simp only[aBv,vop]at he
 split at he
 ·rename_i ti xs hti hls
  split at he
  ·rename_i hlen
   obtain rfl:=aAh he
   obtain⟨hrep,_,_⟩:=aNo (hs x) hls
   refine aFm (w':={w with heap:=w.heap.push (.cells (a.eval x).cells t)}) (v:=.pointer (some ⟨w.heap.size,0,none⟩)) (ob:=some w.heap.size) hh ?_ (by simp) (fun b hb=>aC2 w _ b hb) rfl rfl (fun b hb=>by
    obtain rfl:=Option.some.inj hb;simp) (fun e=>⟨w.heap.size,(a.eval x).cells,t,(0,0),rfl,by simp,aFu _,e.repLs hrep⟩) ⟨by omega,rfl,fun cells hl=>⟨w.heap.size,by simp[aD8],rfl⟩,fun _ _ _ _=>⟨w.heap.size,by simp[aD8],rfl⟩⟩
   simp only[execOp,ho]
   simp[Instr.box,newVar,newRow]
  ·exact (aA0 he).elim
 ·exact (aA0 he).elim
omit hE hh hs in
theorem aUw {ok:Nat→Prop} {kd:K} (hk:kd.plain=true):Rep w ok (aIb kd) (aOk kd):=by
 cases kd<;>simp[K.plain]at hk
 ·exact .int _ _
 ·exact .bool _
 ·exact .str ⟨#[]⟩
 ·exact .emp _ _
 ·exact .enil
theorem aZf {t:TypeId} {n m:Operand} (ho:o.op=.makeSlice t n m) (he:aBv E σ (.makeSlice t n m)=some r):aC9 c σ β w (execOp a.eval o) r:=by
 simp only[aBv,vop]at he
 have hn:=hs n
 have hm:=hs m
 split at he
 ·rename_i ti k1 l k2 cp hti hn' hm'
  rw[hn']at hn
  rw[hm']at hm
  obtain hn:a.eval n=.int k1 l:=hn
  obtain hm:a.eval m=.int k2 cp:=hm
  split at he
  ·rename_i e hlv hag
   split at he
   ·rename_i te hte
    split at he
    ·rename_i hpl
     obtain⟨hc,he⟩:=aAl he
     obtain rfl:=aAh he
     simp only[Bool.and_eq_true,decide_eq_true_eq]at hc
     obtain⟨⟨hl0,hlc⟩,hcm⟩:=hc
     obtain⟨d,hu,hud⟩:=aBu (hE.ty t ti hti) hag hlv
     simp only[aBy]at hud
     subst hud
     obtain⟨i,z,hi,hisz,hib,hz,hzl⟩:=(hE.ty e te hte).info
     have hzs:z.cells.size=te.leaves.length:=by rw[←Array.length_toList,hzl];simp
     have hby:(i.bytes:Int)*cp≤281474976710656:=by rw[hib];exact hcm
     have hmax:cp≤281474976710656:=by
      have h1:(1:Int)*cp≤(te.bytes:Int)*cp:=Int.mul_le_mul_of_nonneg_right (by exact_mod_cast hpl.2) (by omega)
      omega
     have hrun:=run_make (P:=c.P) w t e i z hu hi hz k1 k2 l cp hl0 hlc hby (by omega)
     rw[hisz]at hrun
     have hsize:(madeCells z.cells (cp.toNat*te.leaves.length)).size=cp.toNat*te.leaves.length:=size_madeCells _ _
     refine aFm (w':=w.alloc (.cells (madeCells z.cells (cp.toNat*te.leaves.length)) e)) (v:=.slice (some ⟨w.heap.size,0,none⟩) l.toNat cp.toNat) (ob:=some w.heap.size) hh ?_
      (by show _≤(w.heap.push _).size;simp) (fun b hb=>aC2 w _ b hb) rfl rfl (fun b hb=>by obtain rfl:=Option.some.inj hb;refine⟨Nat.le_refl _,?_⟩;show _<(w.heap.push _).size;simp) (fun ex=>?_) ?_
     ·simp only[execOp,ho,hn,hm]
      rw[Sem.run_bind,hrun]
      rfl
     ·refine⟨fun rr hrr=>by rw[List.eq_of_mem_replicate hrr];simp,.inr ⟨w.heap.size,_,e,(0,0),rfl,heap_alloc_new w _,aFu _,?_,?_⟩⟩
      ·rw[hsize,List.length_replicate];exact Nat.mul_le_mul_right _ (by omega)
      ·intro i' rr j x hi' hj
       have hilt:i'<l.toNat:=by have:=(List.getElem?_eq_some_iff.1 hi').1;simpa using this
       rw[List.getElem?_replicate,if_pos hilt]at hi'
       obtain rfl:=Option.some.inj hi'
       rw[List.getElem?_map]at hj
       cases hk:te.leaves[j]? with
       |none=>rw[hk]at hj;simp at hj
       |some kd =>
        rw[hk]at hj
        simp only[Option.map_some,Option.some.injEq]at hj
        subst hj
        have hjlt:=(List.getElem?_eq_some_iff.1 hk).1
        refine⟨aIb kd,?_,aUw (List.all_eq_true.1 hpl.1 kd (List.mem_of_getElem? hk))⟩
        have hidx:i'*te.leaves.length+j<cp.toNat*te.leaves.length:=by
         have:(i'+1)*te.leaves.length≤cp.toNat*te.leaves.length:=Nat.mul_le_mul_right _ (by omega)
         rw[Nat.add_mul]at this;omega
        have hmod:(i'*te.leaves.length+j) % te.leaves.length=j:=by
         rw[Nat.mul_comm,Nat.mul_add_mod];exact Nat.mod_eq_of_lt hjlt
        have hzj:z.cells[j]? =some (aIb kd):=by rw[←Array.getElem?_toList,hzl,List.getElem?_map,hk];rfl
        simp only[madeCells,Array.getElem?_map,Array.getElem?_range,hidx,if_true,Option.map_some,hzs,hmod]
        rw[getElem!_def,hzj]
     ·refine⟨by omega,rfl,fun blk sz rows hl hr=>?_⟩
      rw[aBw]at hl
      obtain rfl:=Option.some.inj hl
      simp only[Blk.rows?,Option.some.injEq,Prod.mk.injEq]at hr
      obtain⟨rfl,rfl⟩:=hr
      refine⟨by simp,.inr ⟨w.heap.size,cp.toNat,_,e,(0,0),by simp[aD8],by rw[Nat.zero_mul],by omega,heap_alloc_new w _,aFu _,by rw[hsize,Nat.zero_add];exact Nat.le_refl _⟩⟩
    ·exact (aA0 he).elim
   ·exact (aA0 he).elim
  ·exact (aA0 he).elim
 ·exact (aA0 he).elim
theorem aZi {src dst:TypeId} {x:Operand} (ho:o.op=.convert src dst x) (he:aBv E σ (.convert src dst x)=some r) (hf:r.eff=true):aC9 c σ β w (execOp a.eval o) r:=by
 have hv:=hs x
 simp only[aBv,vop]at he
 split at he
 ·rename_i ts td hts htd
  split at he
  ·exfalso;split at he
   ·obtain rfl:=aAh he;simp[aBe]at hf
   ·exact aA0 he
  ·exfalso;split at he
   ·obtain rfl:=aAh he;simp[aBe]at hf
   ·exact aA0 he
  ·rename_i e h1 h2 h3 h4
   obtain⟨d1,hu1,hd1⟩:=aBu (hE.ty src ts hts) h2 h1
   obtain⟨d2,hu2,hd2⟩:=aBu (hE.ty dst td htd) h4 h3
   simp only[aBy]at hd1 hd2
   subst hd1;subst hd2
   split at he
   ·rename_i l te hx hte
    rw[hx]at hv
    obtain⟨s,hsv,rfl⟩:=hv
    split at he
    ·rename_i h5 h6
     obtain⟨d3,hu3,hd3⟩:=aBu (hE.ty e te hte) h6 h5
     simp only[aBy]at hd3
     subst hd3
     obtain rfl:=aAh he
     have hsz:s.size=s.data.toList.length:=by rw[Array.length_toList];rfl
     have hsz2:s.size=s.data.size:=rfl
     let cap:=(Question.appendCap s.size 0 e).cut (w.tape w.drawn (.appendCap s.size 0 e))
     have hcap:s.size≤cap:=by simp[cap,Question.cut]
     let cur:Array Value:=s.data.map (fun b=>Value.int .u8 b.toNat)++Array.replicate (cap-s.size) (.int .u8 0)
     have hcs:cur.size=cap:=by simp only[cur,Array.size_append,Array.size_map,Array.size_replicate];omega
     let w1:World:={w with drawn:=w.drawn+1,heap:=w.heap.push (.cells cur e)}
     let w2:World:=w1.freeze ⟨w.heap.size,cur.size,none⟩ 1
     have hw1:w1.heap[w.heap.size]? =some (.cells cur e (0,0)):=by simp[w1]
     have hw2n:w2.heap[w.heap.size]? =some (.cells cur e (cur.size,cur.size+1)):=by
      simp only[w2,World.freeze,show ¬(1=0) by decide,if_false]
      rw[Array.getElem?_modify,if_pos rfl,hw1];rfl
     have hw2s:w2.heap.size=w.heap.size+1:=by simp[w2,World.freeze,w1]
     have hw2o:∀ b,b<w.heap.size→w2.heap[b]? =w.heap[b]? :=fun b hb=>by
      simp only[w2,World.freeze,show ¬(1=0) by decide,if_false]
      rw[Array.getElem?_modify,if_neg (by omega)]
      exact aC2 w _ b hb
     have hrun:(Conv.stringToBytes e s).run c.P w=.ok (.slice (some ⟨w.heap.size,0,none⟩) s.size cap) w2:=by
      simp only[Conv.stringToBytes,Sem.run_bind,run_choose,Question.forced,Bool.false_eq_true,if_false,Result.andThen_ok,newRow,run_newObj,Sem.run_pure,markStringish,run_shape]
      have:({w with drawn:=w.drawn+1,heap:=w.heap.push (.cells cur e)}:World).shape? w.heap.size=some (e,cur.size):=by
       simp[World.shape?]
      simp only[cur,cap]at this ⊢
      rw[this]
      rfl
     refine aFm (w':=w2) (v:=.slice (some ⟨w.heap.size,0,none⟩) s.size cap) (ob:=some w.heap.size) hh ?_ (by omega) hw2o rfl rfl (fun b hb=>by obtain rfl:=Option.some.inj hb;omega) (fun ex=>?_) ?_
     ·simp only[execOp,ho,hsv]
      have:(convert src dst (.string s)).run c.P w=(Conv.stringToBytes e s).run c.P w:=by
       simp[convert,run_underlying hu1,run_underlying hu2,run_underlying hu3]
      rw[Sem.run_bind,this,hrun]
      rfl
     ·refine⟨fun rr hrr=>?_,.inr ⟨w.heap.size,cur,e,_,rfl,hw2n,fun j hj hq=>by rw[show bd 1 cur.size=cur.size from rfl]at hj;omega,?_,?_⟩⟩
      ·simp only[aDs,List.mem_map]at hrr
       obtain⟨b,_,rfl⟩:=hrr
       rfl
      ·simp only[aDs,List.length_map,Nat.mul_one];omega
      ·intro i rr j y hi hj
       simp only[aDs,List.getElem?_map]at hi
       cases hb:s.data.toList[i]? with
       |none=>rw[hb]at hi;simp at hi
       |some bb =>
        rw[hb]at hi
        simp only[Option.map_some,Option.some.injEq]at hi
        subst hi
        have hilt:=(List.getElem?_eq_some_iff.1 hb).1
        cases j with
        |succ j=>simp at hj
        |zero =>
         simp only[List.getElem?_cons_zero,Option.some.injEq]at hj
         subst hj
         refine⟨.int .u8 bb.toNat,?_,.int _ _⟩
         simp only[cur,Nat.mul_one,Nat.add_zero]
         rw[Array.getElem?_append_left (by rw[Array.size_map,←Array.length_toList];exact hilt),Array.getElem?_map,←Array.getElem?_toList,hb]
         rfl
     ·refine⟨by omega,rfl,fun blk sz rows hl hr=>?_⟩
      rw[aBw]at hl
      obtain rfl:=Option.some.inj hl
      simp only[Blk.rows?,Option.some.injEq,Prod.mk.injEq]at hr
      obtain⟨rfl,rfl⟩:=hr
      refine⟨by simp[aDs],.inr ⟨w.heap.size,cap,cur,e,_,by simp[aD8],by rw[Nat.zero_mul,hsz],by omega,hw2n,fun j hj hq=>by rw[show bd 1 cur.size=cur.size from rfl]at hj;omega,by omega⟩⟩
    ·exact (aA0 he).elim
   ·exact (aA0 he).elim
  ·exfalso;split at he
   ·split at he
    ·obtain⟨_,he⟩:=aAl he
     obtain rfl:=aAh he;simp[aBe]at hf
    ·exact aA0 he
   ·exact aA0 he
  ·exact (aA0 he).elim
 ·exact (aA0 he).elim
omit hE hh hs in
theorem aBl (b:Nat):∀ (vs:List Value) (o':Nat) (w:World) (cur:Array Value) (e:TypeId) (fr:Nat×Nat),w.heap[b]? =some (.cells cur e fr)→o'+vs.length≤cur.size →
  ∃ cur',(w.setCells b o' vs).heap[b]? =some (.cells cur' e fr)∧cur'.size=cur.size∧(∀ i,cur'[i]? =if o'≤i∧i<o'+vs.length then vs[i-o']? else cur[i]?) ∧
   (∀ d,d≠b→(w.setCells b o' vs).heap[d]? =w.heap[d]?)∧(w.setCells b o' vs).heap.size=w.heap.size∧(w.setCells b o' vs).os=w.os∧(w.setCells b o' vs).output=w.output
 |[],o',w,cur,e,fr,hw,_=>⟨cur,hw,rfl,fun i=>by rw[if_neg (by simp)],fun _ _=>rfl,rfl,rfl,rfl⟩
 |v::vs,o',w,cur,e,fr,hw,hl=>by
  simp only[List.length_cons]at hl
  have h1:(w.setCell ⟨b,o',none⟩ v).heap[b]? =some (.cells (cur.setIfInBounds o' v) e fr):=by
   simp[World.setCell,Array.getElem?_modify,hw]
  obtain⟨cur',a1,a2,a3,a4,a5,a6,a7⟩:=aBl b vs (o'+1) (w.setCell ⟨b,o',none⟩ v) _ e fr h1 (by simp;omega)
  refine⟨cur',a1,by rw[a2];simp,fun i=>?_,fun d hd=>?_,?_,a6,a7⟩
  ·rw[a3 i]
   by_cases hi:i=o'
   ·subst hi
    rw[if_neg (by omega),if_pos (by simp)]
    have hlt:i<cur.size:=by omega
    simp[hlt]
   ·by_cases hr:o'≤i∧i<o'+(vs.length+1)
    ·rw[if_pos (by omega),if_pos (by simpa using hr)]
     obtain⟨d,hd⟩:∃ d,i-o'=d+1:=⟨i-o'-1,by omega⟩
     rw[hd,List.getElem?_cons_succ]
     congr 1
     omega
    ·rw[if_neg (by omega),if_neg (by simpa using hr),Array.getElem?_setIfInBounds_ne (by omega)]
  ·have:=a4 d hd
   simp only[World.setCells]
   rw[this]
   simp[World.setCell,Array.getElem?_modify,show ¬b=d from fun e=>hd e.symm]
  ·simp only[World.setCells]
   rw[a5]
   simp[World.setCell]
omit hE hh hs in
theorem aLn {w1:World} {id b:Nat} {old new:Blk} {cur cur':Array Value} {e:TypeId} {fr:Nat×Nat} (hh:aB7 c w h nx β) (hl:h.lookup id=some old) (hold:old.isFro=false) (hnew:new.isFro=false) (hsh:aAf old new)
  (hb:β id=some b) (hw:w.heap[b]? =some (.cells cur e fr)) (hw1:w1.heap[b]? =some (.cells cur' e fr)) (hcs:cur'.size=cur.size) (ho:∀ d,d≠b→w1.heap[d]? =w.heap[d]?) (hsz:w1.heap.size=w.heap.size)
  (hlk:∀ i,(upd h id new).lookup i=if i=id then some new else h.lookup i) :
  Ext c w h nx β w1 (upd h id new) nx β:=by
 refine⟨Nat.le_refl _,by omega,?_,?_,?_⟩
 ·intro d hd hlt
  have hne:d≠b:=fun e=>hd.2 id old hl hold (e▸hb)
  refine⟨⟨hd.1,fun i x hi hf=>?_⟩,ho d hne⟩
  rw[hlk i]at hi
  split at hi
  ·rename_i hid
   subst hid
   exact hd.2 i old hl hold
  ·exact hd.2 i x hi hf
 ·intro i x' hi hx
  rw[hlk i]at hx
  split at hx
  ·rename_i hid
   subst hid
   obtain rfl:=Option.some.inj hx
   exact⟨rfl,old,hl,hsh⟩
  ·exact⟨rfl,x',hx,aAf.refl _⟩
 ·intro i x d cur0 E fr0 hi hx hd hwd
  by_cases hdb:d=b
  ·subst hdb
   rw[hw]at hwd
   simp only[Option.some.injEq,Obj.cells.injEq]at hwd
   obtain⟨rfl,rfl,rfl⟩:=hwd
   exact⟨cur',hw1,hcs⟩
  ·exact⟨cur0,by rw[ho d hdb];exact hwd,rfl⟩
omit hE hh hs in
theorem aC6 (h:aCq) (id:Nat) (new:Blk) (hin:∃ old,h.lookup id=some old) (i:Nat):(upd h id new).lookup i=if i=id then some new else h.lookup i:=by
 induction h with
 |nil=>obtain⟨old,ho⟩:=hin;simp at ho
 |cons p h ih =>
  obtain⟨k,b⟩:=p
  obtain⟨old,ho⟩:=hin
  simp only[upd,List.map_cons]
  by_cases hk:k=id
  ·subst hk
   simp only[beq_self_eq_true,if_true]
   by_cases hi:i=k
   ·subst hi;simp[List.lookup]
   ·rw[if_neg hi]
    have hib:(i==k)=false:=by simpa using hi
    simp only[List.lookup,hib]
    clear ih ho
    induction h with
    |nil=>rfl
    |cons q h ih2 =>
     obtain⟨k2,b2⟩:=q
     simp only[List.map_cons,List.lookup]
     by_cases hk2:k2=k
     ·subst hk2
      simp only[beq_self_eq_true,if_true,hib]
      exact ih2
     ·have:(k2==k)=false:=by simpa using hk2
      simp only[this,Bool.false_eq_true,if_false]
      split
      ·rfl
      ·exact ih2
  ·have hkb:(k==id)=false:=by simpa using hk
   simp only[hkb,Bool.false_eq_true,if_false,List.lookup]
   have hid:(id==k)=false:=by simpa using fun e=>hk (Eq.symm e)
   simp only[List.lookup,hid]at ho
   have:=ih ⟨old,ho⟩
   split
   ·rename_i heq
    have:i=k:=by simpa using heq
    subst this
    rw[if_neg hk]
   ·exact this
omit hE hh hs in
theorem aGo {w1:World} {id b:Nat} {old new:Blk} {cur cur':Array Value} {e:TypeId} {fr:Nat×Nat} (hh:aB7 c w h nx β) (hl:h.lookup id=some old) (hold:old.isFro=false) (hnew:new.isFro=false) (hsh:aAf old new)
  (hb:β id=some b) (hw:w.heap[b]? =some (.cells cur e fr)) (hw1:w1.heap[b]? =some (.cells cur' e fr)) (hcs:cur'.size=cur.size) (ho:∀ d,d≠b→w1.heap[d]? =w.heap[d]?) (hsz:w1.heap.size=w.heap.size)
  (hos:w1.os=w.os) (hout:w1.output=w.output) (hblk:aO6 (okD c (upd h id new) β) w1 (upd h id new) nx β (some b) new):aB7 c w1 (upd h id new) nx β:=by
 have hlk:=aC6 h id new ⟨old,hl⟩
 have ex:=aLn hh hl hold hnew hsh hb hw hw1 hcs ho hsz hlk
 have back:∀ i x,(upd h id new).lookup i=some x→∃ x0,h.lookup i=some x0∧x.isFro=x0.isFro:=by
  intro i x hi
  rw[hlk i]at hi
  split at hi
  ·rename_i hid
   subst hid
   obtain rfl:=Option.some.inj hi
   refine⟨old,hl,?_⟩
   rw[hold,hnew]
  ·exact⟨x,hi,rfl⟩
 refine⟨?_,?_,?_,?_,?_,?_,?_,?_,fun g o hg=>?_⟩
 ·intro i x hi
  rw[hlk i]at hi
  split at hi
  ·rename_i hid
   subst hid
   obtain rfl:=Option.some.inj hi
   exact⟨(hh.blk i old hl).1,by rw[hb];exact hblk⟩
  ·rename_i hid
   obtain⟨h1,h2⟩:=hh.blk i x hi
   refine⟨h1,h2.ext ex fun d hd=>ho d fun e=>?_⟩
   subst e
   exact hid (hh.inj i id x old d hi hl hd hb)
 ·intro i x d hi hd
  obtain⟨x0,h0,hbx⟩:=back i x hi
  rw[hbx]
  have:=hh.place i x0 d h0 hd
  exact⟨this.1,by omega⟩
 ·intro i j x y d hi hj hd hd'
  obtain⟨x0,h0,_⟩:=back i x hi
  obtain⟨y0,h1,_⟩:=back j y hj
  exact hh.inj i j x0 y0 d h0 h1 hd hd'
 ·have:=hh.size;omega
 ·intro d hd hpb
  have hne:d≠b:=fun e=>by
   subst e
   rcases (hh.place id old d hl hb).1 with h1 | h1
   ·omega
   ·exact hpb h1.1
  rw[ho d hne]
  exact hh.frame d hd hpb
 ·rw[hos];exact hh.os
 ·rw[hout];exact hh.out
 ·intro d hd cur0 E0 fr0 hw0
  obtain⟨cur1,h1,h2⟩:=hh.pbs d hd cur0 E0 fr0 hw0
  by_cases hdb:d=b
  ·subst hdb
   rw[hw]at h1
   simp only[Option.some.injEq,Obj.cells.injEq]at h1
   obtain⟨rfl,rfl,rfl⟩:=h1
   exact⟨cur',hw1,by omega⟩
  ·exact⟨cur1,by rw[ho d hdb];exact h1,h2⟩
 ·obtain⟨g1,g2⟩:=hh.gh g o hg
  refine⟨(ho g fun e=>g2 id old hl (e▸hb)).trans g1,fun i x hi hbi=>?_⟩
  obtain⟨x0,h0,_⟩:=back i x hi
  exact g2 i x0 h0 hbi
end
end
section
variable {c:Ctx} {w w':World} {h:aCq} {nx:Nat} {β:aCr}
theorem aDp (h:aCq) (ids:List Nat) (i:Nat) :
  (freeze h ids).lookup i=(h.lookup i).map fun b=>if ids.contains i then (match b with | .arr sz rows=>.fro sz rows | b=>b)else b:=by
 induction h with
 |nil=>rfl
 |cons p h ih =>
  obtain⟨k,b⟩:=p
  simp only[freeze,List.map_cons]
  by_cases hk:i=k
  ·subst hk
   cases hc:ids.contains i<;>cases b<;>simp[List.lookup,hc]
  ·have hf:(i==k)=false:=by simpa using hk
   have:∀ q:Nat×Blk,q.1=k→List.lookup i (q::freeze h ids)=(freeze h ids).lookup i:=fun q hq=>by
    obtain⟨q1,q2⟩:=q
    simp only at hq
    subst hq
    simp[List.lookup,hf]
   have e2:List.lookup i ((k,b)::h)=h.lookup i:=by simp[List.lookup,hf]
   rw[e2,←ih]
   refine this _ ?_
   split
   ·split<;>rfl
   ·rfl
theorem aDr {ids:List Nat} {i:Nat} {b:Blk} (hl:(freeze h ids).lookup i=some b) :
  ∃ b0,h.lookup i=some b0∧aAf b0 b∧b.isBox=b0.isBox∧(b.isFro=false→b=b0∧(b0.rows? =none∨ids.contains i=false))∧b.rows? =b0.rows? ∧
   (∀ cells,b=.box cells↔b0=.box cells):=by
 rw[aDp]at hl
 cases hb:h.lookup i with
 |none=>rw[hb]at hl;simp at hl
 |some b0 =>
  rw[hb]at hl
  simp only[Option.map_some,Option.some.injEq]at hl
  refine⟨b0,rfl,?_⟩
  subst hl
  cases hc:ids.contains i<;>cases b0<;>simp[aAf,Blk.isBox,Blk.isFro,Blk.rows?]
theorem aNu (ids:List Nat):Ext c w h nx β w (freeze h ids) nx β:=by
 refine⟨Nat.le_refl _,Nat.le_refl _,fun b hb _=>⟨⟨hb.1,fun id blk hl hf=>?_⟩,rfl⟩,fun id x' _ hl=>?_,fun id x b cur E fr _ _ _ hw=>⟨cur,hw,rfl⟩⟩
 ·obtain⟨b0,h0,_,_,hfr,_⟩:=aDr hl
  obtain⟨rfl,_⟩:=hfr hf
  exact hb.2 id _ h0 hf
 ·obtain⟨b0,h0,hs,_⟩:=aDr hl
  exact⟨rfl,b0,h0,hs⟩
theorem aMg (hh:aB7 c w h nx β) (ids:List Nat) (hfree:∀ id x b,id∈ids→h.lookup id=some x→β id=some b→c.w0.heap.size≤b):aB7 c w (freeze h ids) nx β:=by
 have e:Ext c w h nx β w (freeze h ids) nx β:=aNu ids
 refine⟨fun id b hl=>?_,fun id x b hl hb=>?_,fun id id' x x' b hl hl' hb hb'=>?_,hh.size,hh.frame,hh.os,hh.out,hh.pbs,fun g o hg=>⟨(hh.gh g o hg).1,fun id x hl=>by obtain⟨b0,h0,_⟩:=aDr hl;exact (hh.gh g o hg).2 id b0 h0⟩⟩
 ·obtain⟨b0,h0,hsh,_,hf,hr,hbx⟩:=aDr hl
  obtain⟨h1,h2⟩:=hh.blk id b0 h0
  refine⟨h1,?_⟩
  have h3:=h2.ext e (fun _ _=>rfl)
  cases b with
  |box cells=>rw[(hbx cells).1 rfl]at h3;exact h3
  |arr sz rows =>
   obtain⟨rfl,_⟩:=hf rfl
   exact h3
  |fro sz rows=>cases b0<;>simp[Blk.rows?]at hr<;>(obtain⟨rfl,rfl⟩:=hr;exact h3)
  |bld t e0 row =>
   obtain⟨rfl,_⟩:=hf rfl
   exact h3
  |own e0 bs =>
   obtain⟨rfl,_⟩:=hf rfl
   exact h3
  |mset ks =>
   obtain⟨rfl,_⟩:=hf rfl
   exact h3
 ·obtain⟨b0,h0,_,_,hf,_,hbx⟩:=aDr hl
  have hp:=hh.place id b0 b h0 hb
  by_cases hi:id∈ids
  ·exact⟨.inl (hfree id b0 b hi h0 hb),hp.2⟩
  ·rw[aDp,h0]at hl
   have:ids.contains id=false:=by simpa using hi
   simp only[this,Option.map_some]at hl
   obtain rfl:b0=x:=by cases b0<;>simpa using hl
   exact hp
 ·obtain⟨b0,h0,_⟩:=aDr hl
  obtain⟨b1,h1,_⟩:=aDr hl'
  exact hh.inj id id' b0 b1 b h0 h1 hb hb'
theorem aU2 (hh:aB7 c w h nx β) {ids:List Nat} {id b:Nat} {blk:Blk} {p:Nat×List (List C)} (hid:id∈ids) (hl:h.lookup id=some blk) (hr:blk.rows? =some p) (hb:β id=some b) (hfr:c.w0.heap.size≤b):okD c (freeze h ids) β b:=by
 refine⟨.inr ⟨hfr,hh.nogh hl hb⟩,fun id2 blk2 hl2 hf2 he=>?_⟩
 ·obtain⟨b0,h0,_,_,hfr,hrw,_⟩:=aDr hl2
  have:=hh.inj id id2 blk b0 b hl h0 hb he
  subst this
  rw[hl]at h0
  obtain rfl:=Option.some.inj h0
  obtain⟨rfl,hx⟩:=hfr hf2
  rcases hx with hx | hx
  ·rw[hx]at hr;cases hr
  ·simp[hid]at hx
theorem bE5 {blk:Blk} {p:Nat×List (List C)} (h:blk.rows? =some p):blk.dat? =some p:=by
 cases blk<;>simp_all [Blk.rows?,Blk.dat?]
theorem bCa {h:aCq} {id:Nat} {blk:Blk} {p:Nat×List (List C)} (hl:h.lookup id=some blk) (hd:blk.dat? =some p) (hn:aZj h id=true):blk.rows? =some p:=by
 cases blk<;>simp_all [Blk.rows?,Blk.dat?,aZj]
theorem aIq (hh:aB7 c w h nx β) {ok':Nat→Prop} (hok:∀ b,okD c h β b→ok' b) {v:Value} {x:L} (hid:∀ id b blk p,id∈x.ids→h.lookup id=some blk→blk.dat? =some p→β id=some b→ok' b)
  (hx:aI5 (okD c h β) w h nx β v x) {d:C} (hd:x.data h=some d):Rep w ok' v d:=by
 have mono:∀ {v:Value} {d:C},Rep w (okD c h β) v d→Rep w ok' v d:=fun hr=>hr.mono (fun b hb _=>⟨hok b hb,rfl⟩) (Nat.le_refl _)
 cases x with
 |i k n=>obtain rfl:=Option.some.inj hd;obtain rfl:v=_:=hx;exact .int _ _
 |b t=>obtain rfl:=Option.some.inj hd;obtain rfl:v=_:=hx;exact .bool _
 |s l=>obtain rfl:=Option.some.inj hd;obtain⟨s,rfl,rfl⟩:=hx;exact .str _
 |sl rows=>obtain rfl:=Option.some.inj hd;exact mono hx
 |sn _ rows=>obtain rfl:=Option.some.inj hd;exact mono hx.1
 |e x=>obtain rfl:=Option.some.inj hd;exact mono hx
 |nil=>obtain rfl:=Option.some.inj hd;obtain rfl:v=_:=hx;exact .emp _ _
 |m ks=>obtain rfl:=Option.some.inj hd;exact mono hx
 |mref id =>
  simp only[L.data]at hd
  split at hd
  ·rename_i ks hl
   obtain rfl:=Option.some.inj hd
   obtain⟨b,hb,rfl⟩:=hx.2.2 ks hl
   obtain⟨b',hb',hm⟩:=(hh.blk id _ hl).2
   obtain rfl:b'=b:=by rw[hb]at hb';exact (Option.some.inj hb').symm
   exact .mp b' ks (hid id b' _ (0,[]) (by simp[L.ids]) hl rfl hb) (hh.place id _ b' hl hb).2 hm
  ·cases hd
 |ptr id off=>simp[L.data]at hd
 |eptr id r off=>simp[L.data]at hd
 |rp row off=>simp[L.data]at hd
 |fn f caps=>obtain rfl:=Option.some.inj hd;exact mono hx
 |und=>simp[L.data]at hd
 |none'=>simp[L.data]at hd
 |clo f caps=>simp[L.data]at hd
 |ref id off n =>
  have key:∀ (blk:Blk) (sz:Nat) (rows:List (List C)),h.lookup id=some blk→blk.rows? =some (sz,rows)→aGg (okD c h β) w (β id) sz rows→d=.sl ((rows.drop off).take n)→Rep w ok' v d:=by
   intro blk sz rows hl hrw hro he
   subst he
   obtain⟨hoff,hhdr⟩:=hx.2.2 blk sz rows hl hrw
   rcases hhdr with⟨a0,rfl,rfl⟩ | ⟨b,cc,cur,E',fr,hb,rfl,hnc,hw,hth,hle⟩
   ·simp;exact .emp _ _
   ·by_cases hn:n=0
    ·subst hn;simp;exact .emp _ _
    ·obtain⟨h5,hrows⟩:=hro
     have hne:rows≠[]:=fun e=>by subst e;simp at hoff;omega
     obtain⟨b',cur',E2,fr',hb',hw',_,hsize,hcells⟩:=hrows.resolve_left hne
     obtain rfl:b'=b:=by rw[hb]at hb';exact (Option.some.inj hb').symm
     rw[hw]at hw'
     simp only[Option.some.injEq,Obj.cells.injEq]at hw'
     obtain⟨rfl,rfl,rfl⟩:=hw'
     have hlen:n=((rows.drop off).take n).length:=by simp;omega
     refine .sl b' (off*sz) n cc sz _ (fun j=>cur.getD (off*sz+j) undef) hlen hnc (hid id b' blk (sz,rows) (by simp[L.ids]) hl (bE5 hrw) hb) (hh.place id blk b' hl hb).2 (fun r hr=>h5 r (List.mem_of_mem_drop (List.mem_of_mem_take hr))) (fun j hj=>?_) (fun i r j x hi hj=>?_)
     ·rw[cell_of_row w b' _ cur E' fr hw]
      have:off*sz+j<cur.size:=by
       have h1:(off+n)*sz≤(off+cc)*sz:=Nat.mul_le_mul_right _ (by omega)
       rw[Nat.add_mul]at h1;omega
      simp[this]
     ·have hilt:i<n:=by have:=(List.getElem?_eq_some_iff.1 hi).1;rw[←hlen]at this;exact this
      rw[List.getElem?_take_of_lt hilt,List.getElem?_drop]at hi
      obtain⟨u,hu,hru⟩:=hcells _ r j x hi hj
      have e1:off*sz+(i*sz+j)=(off+i)*sz+j:=by rw[Nat.add_mul];omega
      have:cur.getD (off*sz+(i*sz+j)) undef=u:=by
       rw[e1,Array.getD_eq_getD_getElem?,hu];rfl
      rw[this]
      exact mono hru
  simp only[L.data]at hd
  split at hd
  ·rename_i sz rows hl
   exact key _ sz rows hl rfl (hh.blk id _ hl).2 (Option.some.inj hd).symm
  ·rename_i sz rows hl
   exact key _ sz rows hl rfl (hh.blk id _ hl).2 (Option.some.inj hd).symm
  ·cases hd
theorem aRu {xs:List L} {cs:List C} (hd:aLr h xs=some cs):cs.length=xs.length∧∀ (j:Nat) (x:L),xs[j]? =some x→∃ d,cs[j]? =some d∧x.data h=some d:=by
 refine⟨mapM_some_length hd,fun j x hx=>?_⟩
 have:=mapM_some_get hd j x hx
 cases hc:cs[j]? with
 |none =>
  have h1:=List.getElem?_eq_none_iff.1 hc
  have h2:=(List.getElem?_eq_some_iff.1 hx).1
  have:=mapM_some_length hd
  omega
 |some d=>rw[hc]at this;exact⟨d,rfl,this⟩
theorem aMl (hh:aB7 c w h nx β) {ok':Nat→Prop} (hok:∀ b,okD c h β b→ok' b) {vs:Array Value} {xs:List L} {cs:List C} (hid:∀ id b blk p,id∈xs.flatMap L.ids→h.lookup id=some blk→blk.dat? =some p→β id=some b→ok' b)
  (hx:aJ9 (okD c h β) w h nx β vs xs) (hd:aLr h xs=some cs):vs.size=cs.length∧∀ (j:Nat) (d:C),cs[j]? =some d→∃ u,vs[j]? =some u∧Rep w ok' u d:=by
 obtain⟨h1,h2⟩:=aRu hd
 refine⟨by rw[hx.1,h1],fun j d hj=>?_⟩
 have hlt:j<xs.length:=by have:=(List.getElem?_eq_some_iff.1 hj).1;omega
 obtain⟨d',hd',hdat⟩:=h2 j xs[j] (List.getElem?_eq_getElem hlt)
 rw[hj]at hd'
 obtain rfl:=Option.some.inj hd'
 obtain⟨u,hu,hru⟩:=hx.2 j xs[j] (List.getElem?_eq_getElem hlt)
 exact⟨u,hu,aIq hh hok (fun id b blk p hid'=>hid id b blk p (List.mem_flatMap.2 ⟨_,List.getElem_mem hlt,hid'⟩)) hru hdat⟩
theorem aXh {X:W} {xs:List L} (h:aXv X=some xs):X.ids=xs.flatMap L.ids:=by
 cases X with
 |l x =>
  simp only[aXv]at h
  split at h
  ·obtain rfl:=Option.some.inj h
   simp[W.ids]
  ·cases h
 |agg ys =>
  simp only[aXv]at h
  split at h
  ·obtain rfl:=Option.some.inj h;rfl
  ·cases h
 |tup ps=>simp[aXv]at h
 |bz t=>simp[aXv]at h
theorem aGi {P:Program} {t:TypeId} {ti:TI} (hT:bFv P t ti) {w:World} {b o:Nat} {v:Value} {cur:Array Value} {e:TypeId} {fr:Nat×Nat} (hs:v.cells.size=ti.leaves.length)
  (h1:∀ (j:Nat) (u:Value),v.cells[j]? =some u→u.oneCell'=true) (hw:w.heap[b]? =some (.cells cur e fr)) (hth:aFd cur.size fr) (hl:o+v.cells.size≤cur.size) :
  (Instr.storeAt t (.pointer (some ⟨b,o,none⟩)) v).run P w=.ok () (w.setCells b o v.cells.toList):=by
 have:=run_storeCells_cells (P:=P) b o v.cells.toList 0 w (fun j hj=>by
  rw[cell_of_row w b _ cur e fr hw]
  have:o+0+j<cur.size:=by simp at hj;omega
  simp[this];omega) (fun j hj=>by
  simp only[World.frozen?,hw]
  have hh:=hth (o+0+j) (by simp at hj;omega)
  simp only[Bool.and_eq_false_imp,decide_eq_true_eq,decide_eq_false_iff_not]
  omega) (fun u hu=>by
  obtain⟨j,hj,rfl⟩:=List.getElem_of_mem hu
  exact h1 j _ (by simp at hj ⊢))
 simp only[Instr.storeAt,Instr.sureAddr,storeVar,Sem.run_bind,Sem.run_pure,Result.andThen_ok,aC4 hT]
 rw[if_neg (by rw[hs];simp)]
 exact this
section
variable {σ:St} {E:Env} {a:Act} {o:Oper} {r:R} (hE:aDx c.P E) (hh:aB7 c w σ.heap σ.next β) (hs:∀ x,aFs (okD c σ.heap β) w σ.heap σ.next β (a.eval x) (σ.ev x))
include hE hh hs
theorem bOj {t:TypeId} {p x:Operand} (ho:o.op=.store t p x) (he:aBv E σ (.store t p x)=some r):aC9 c σ β w (execOp a.eval o) r:=by
 simp only[aBv,vop]at he
 have hp:=hs p
 split at he
 ·rename_i ti id off xs hti hpe hls
  rw[hpe]at hp
  obtain⟨hu,h1,_⟩:=aNo (hs x) hls
  split at he
  ·rename_i cells hl
   split at he
   ·rename_i hlen
    obtain rfl:=aAh he
    obtain⟨b,hb,hpv⟩:=hp.2.2.1 cells hl
    obtain⟨b',cur,e,fr,hb',hw,hth,hrep⟩:=(hh.blk id _ hl).2
    obtain rfl:b'=b:=by rw[hb]at hb';exact (Option.some.inj hb').symm
    have hcz:(a.eval x).cells.size=xs.length:=hu.1
    have hrun:=aGi (hE.ty t ti hti) (b:=b') (o:=off) (v:=a.eval x) (by rw[hcz];exact hlen.1) h1 hw hth (by rw[hcz,hrep.1];exact hlen.2)
    obtain⟨cur',a1,a2,a3,a4,a5,a6,a7⟩:=aBl b' (a.eval x).cells.toList off w cur e fr hw (by rw[Array.length_toList,hcz,hrep.1];exact hlen.2)
    have hnl:(cells.take off++xs++cells.drop (off+xs.length)).length=cells.length:=by simp;omega
    have hsh:aAf (.box cells) (.box (cells.take off++xs++cells.drop (off+xs.length))):=hnl
    have hlk:=aC6 σ.heap id (.box (cells.take off++xs++cells.drop (off+xs.length))) ⟨_,hl⟩
    have ex:=aLn hh hl rfl rfl hsh hb hw a1 a2 a4 a5 hlk
    have hsp:=aTq (cs':=cur') hrep hu hlen.2 a2 (fun i=>by have:=a3 i;simpa using this)
    have hh':=aGo (new:=.box (cells.take off++xs++cells.drop (off+xs.length))) hh hl rfl rfl hsh hb hw a1 a2 a4 a5 a6 a7 ⟨b',cur',e,fr,rfl,a1,by rw[a2];exact hth,ex.repLs hsp⟩
    refine⟨undef,_,β,.inr ⟨?_,rfl⟩,hh',ex,rfl,rfl,rfl,fun id' cells' hl'=>?_,fun id' hid' ht=>?_⟩
    ·simp only[execOp,ho,hpv]
     rw[Sem.run_bind,hrun]
     rfl
    ·simp only[hlk]
     split
     ·exact⟨_,rfl⟩
     ·exact⟨_,hl'⟩
    ·simp only[hlk]
     rw[if_neg (by simpa using ht)]
   ·exact (aA0 he).elim
  ·exact (aA0 he).elim
 ·rename_i ti id r0 off xs hti hpe hls
  rw[hpe]at hp
  obtain⟨hu,h1,_⟩:=aNo (hs x) hls
  split at he
  ·rename_i sz rows cs hl hd hids
   split at he
   ·rename_i hlen
    obtain⟨hr0,he⟩:=aAl he
    obtain rfl:=aAh he
    simp only[decide_eq_true_eq]at hr0
    obtain⟨b,hb,hpv⟩:=hp.2.2 sz rows hl
    obtain⟨hrl,hrows⟩:=(hh.blk id _ hl).2
    have hne:rows≠[]:=fun e=>by subst e;simp at hr0
    obtain⟨b',cur,e,fr,hb',hw,hth,hsize,hrep⟩:=hrows.resolve_left hne
    obtain rfl:b'=b:=by rw[hb]at hb';exact (Option.some.inj hb').symm
    have hcz:(a.eval x).cells.size=xs.length:=hu.1
    obtain⟨hcl,hcr⟩:=aMl hh (fun _ h=>h) (fun id b blk p hi=>by rw[hids]at hi;cases hi) hu hd
    have hcl':cs.length=xs.length:=by omega
    have hmul:(r0+1)*sz≤rows.length*sz:=Nat.mul_le_mul_right _ (by omega)
    have hmul':r0*sz+sz≤rows.length*sz:=by rw[Nat.add_mul]at hmul;omega
    have hfit:r0*sz+off+xs.length≤cur.size:=by omega
    have hrun:=aGi (hE.ty t ti hti) (b:=b') (o:=r0*sz+off) (v:=a.eval x) (by rw[hcz];exact hlen.1) h1 hw hth.lt (by rw[hcz];exact hfit)
    obtain⟨cur',a1,a2,a3,a4,a5,a6,a7⟩:=aBl b' (a.eval x).cells.toList (r0*sz+off) w cur e fr hw (by rw[Array.length_toList,hcz];exact hfit)
    have hro:rows.getD r0 []=rows[r0]:=by simp[hr0]
    have hrol:(rows.getD r0 []).length=sz:=by rw[hro];exact hrl _ (List.getElem_mem hr0)
    have hsh:aAf (.arr sz rows) (.arr sz (rows.set r0 ((rows.getD r0 []).take off++cs++(rows.getD r0 []).drop (off+cs.length)))):=⟨rfl,by simp⟩
    have hlk:=aC6 σ.heap id (.arr sz (rows.set r0 ((rows.getD r0 []).take off++cs++(rows.getD r0 []).drop (off+cs.length)))) ⟨_,hl⟩
    have ex:=aLn hh hl rfl rfl hsh hb hw a1 a2 a4 a5 hlk
    have hnl:((rows.getD r0 []).take off++cs++(rows.getD r0 []).drop (off+cs.length)).length=sz:=by
     rw[List.length_append,List.length_append,List.length_take,List.length_drop,hrol];omega
    have hh':=aGo (new:=.arr sz (rows.set r0 ((rows.getD r0 []).take off++cs++(rows.getD r0 []).drop (off+cs.length)))) hh hl rfl rfl hsh hb hw a1 a2 a4 a5 a6 a7 ⟨fun r hr=>by
      rcases List.mem_or_eq_of_mem_set hr with h2 | h2
      ·exact hrl r h2
      ·rw[h2];exact hnl,.inr ⟨b',cur',e,fr,rfl,a1,by rw[a2];exact hth,by simp[a2];omega,fun i r j y hi hj=>by
       rw[a3]
       rw[Array.length_toList,hcz]
       by_cases hir:i=r0
       ·subst hir
        rw[List.getElem?_set_self hr0]at hi
        obtain rfl:=Option.some.inj hi
        have hjl:=(List.getElem?_eq_some_iff.1 hj).1
        rw[hnl]at hjl
        by_cases hj1:j<off
        ·rw[if_neg (by omega)]
         rw[List.append_assoc,List.getElem?_append_left (by simp only[List.length_take,hrol];omega),List.getElem?_take_of_lt hj1]at hj
         obtain⟨u,hu1,hu2⟩:=hrep i _ j y (List.getElem?_eq_getElem hr0) (by rw[←hro];exact hj)
         exact⟨u,hu1,ex.rep hu2⟩
        ·by_cases hj2:j<off+xs.length
         ·rw[if_pos (by omega)]
          rw[List.append_assoc,List.getElem?_append_right (by simp only[List.length_take,hrol];omega),List.getElem?_append_left (by simp only[List.length_take,hrol];omega)]at hj
          simp only[List.length_take,hrol]at hj
          have e1:j-min off sz=j-off:=by omega
          rw[e1]at hj
          obtain⟨u,hu1,hu2⟩:=hcr (j-off) y hj
          refine⟨u,?_,ex.rep hu2⟩
          have e2:i*sz+j-(i*sz+off)=j-off:=by omega
          rw[e2]
          simpa using hu1
         ·rw[if_neg (by omega)]
          rw[List.getElem?_append_right (by rw[List.length_append,List.length_take,hrol];omega),List.getElem?_drop]at hj
          have e1:off+cs.length+(j-((rows.getD i []).take off++cs).length)=j:=by rw[List.length_append,List.length_take,hrol];omega
          rw[e1]at hj
          obtain⟨u,hu1,hu2⟩:=hrep i _ j y (List.getElem?_eq_getElem hr0) (by rw[←hro];exact hj)
          exact⟨u,hu1,ex.rep hu2⟩
       ·rw[List.getElem?_set_ne (fun e=>hir e.symm)]at hi
        have hjl:=(List.getElem?_eq_some_iff.1 hj).1
        rw[hrl r (List.mem_of_getElem? hi)]at hjl
        have hout:¬(r0*sz+off≤i*sz+j∧i*sz+j<r0*sz+off+xs.length):=by
         intro⟨h1,h2⟩
         rcases Nat.lt_or_gt_of_ne hir with h3 | h3
         ·have:(i+1)*sz≤r0*sz:=Nat.mul_le_mul_right _ (by omega)
          rw[Nat.add_mul]at this;omega
         ·have:(r0+1)*sz≤i*sz:=Nat.mul_le_mul_right _ (by omega)
          rw[Nat.add_mul]at this;omega
        rw[if_neg hout]
        obtain⟨u,hu1,hu2⟩:=hrep i r j y hi hj
        exact⟨u,hu1,ex.rep hu2⟩⟩⟩
    refine⟨undef,_,β,.inr ⟨?_,rfl⟩,hh',ex,rfl,rfl,rfl,fun id' cells' hl'=>?_,fun id' hid' ht=>?_⟩
    ·simp only[execOp,ho,hpv]
     rw[Sem.run_bind,hrun]
     rfl
    ·simp only[hlk]
     split
     ·rename_i hid'
      subst hid'
      rw[hl]at hl'
      cases hl'
     ·exact⟨_,hl'⟩
    ·simp only[hlk]
     rw[if_neg (by simpa using ht)]
   ·exact (aA0 he).elim
  ·exact (aA0 he).elim
 ·rename_i id hti hpe hls
  rw[hpe]at hp
  split at he
  ·rename_i t' tb e0 hxe hl
   split at he
   ·rename_i hcond
    obtain⟨hbt,rfl,rfl⟩:=hcond
    obtain rfl:=aAh he
    have hx:=hs x
    rw[hxe]at hx
    have hx:a.eval x=.agg #[.pointer none,.slice none 0 0]:=hx
    obtain⟨b,hb,hpv⟩:=hp.2.2.2 _ _ _ hl
    obtain⟨b',pp,uu,hb',hw,hpp,hrep,_⟩:=(hh.blk id _ hl).2
    obtain rfl:b'=b:=by rw[hb]at hb';exact (Option.some.inj hb').symm
    obtain⟨ti,e,hT,hag,hlv⟩:=hE.bld _ _ hbt
    have hcz:(a.eval x).cells=#[.pointer none,.slice none 0 0]:=by rw[hx];rfl
    have hrun:=aGi hT (b:=b') (o:=0) (v:=a.eval x) (by rw[hcz,hlv];rfl) (fun j u hj=>by
     rw[hcz]at hj
     match j with
     |0=>obtain rfl:_=u:=Option.some.inj hj;rfl
     |1=>obtain rfl:_=u:=Option.some.inj hj;rfl
     |j+2=>simp at hj) hw (fun j _ h=>by omega) (by rw[hcz];exact Nat.le_refl _)
    obtain⟨cur',a1,a2,a3,a4,a5,a6,a7⟩:=aBl b' (a.eval x).cells.toList 0 w #[pp,uu] _ _ hw (by rw[hcz];exact Nat.le_refl _)
    have hsh:aAf (.bld tb e0 none) (.bld tb e0 none):=⟨rfl,rfl⟩
    have hlk:=aC6 σ.heap id (.bld tb e0 none) ⟨_,hl⟩
    have ex:=aLn hh hl rfl rfl hsh hb hw a1 a2 a4 a5 hlk
    have hc:cur'=#[.pointer none,.slice none 0 0]:=by
     apply Array.ext_getElem?
     intro i
     rw[a3 i,hcz]
     match i with
     |0=>rfl
     |1=>rfl
     |i+2=>rw[if_neg (by simp)];simp
    have hh':=aGo (new:=.bld tb e0 none) hh hl rfl rfl hsh hb hw a1 a2 a4 a5 a6 a7 ⟨b',_,_,rfl,by rw[a1,hc],.inl rfl,fun _=>rfl,fun id hid=>by cases hid⟩
    refine⟨undef,_,β,.inr ⟨?_,rfl⟩,hh',ex,rfl,rfl,rfl,fun id' cells' hl'=>?_,fun id' hid' ht=>?_⟩
    ·simp only[execOp,ho,hpv]
     rw[Sem.run_bind,hrun]
     rfl
    ·simp only[hlk]
     split
     ·rename_i hid'
      subst hid'
      rw[hl]at hl'
      cases hl'
     ·exact⟨_,hl'⟩
    ·simp only[hlk]
     rw[if_neg (by simpa using ht)]
   ·exact (aA0 he).elim
  ·exact (aA0 he).elim
 ·exact (aA0 he).elim
theorem bOn {call : Call} {args : Array Operand} {ats : Array TypeId} (hcall : call = { callee := .builtin .clear, args := args, argTypes := ats }) (ho : o.op = .call call)
    (he : aBv E σ (.call { callee := .builtin .clear, args := args, argTypes := ats }) = some r) : aC9 c σ β w (execOp a.eval o) r := by
  subst hcall
  simp only [aBv, vop] at he
  split at he
  · rename_i x t hargs hats
    have hargs' : args = #[x] := by apply Array.ext'; simpa using hargs
    have hats' : ats = #[t] := by apply Array.ext'; simpa using hats
    subst hargs'
    subst hats'
    split at he
    · rename_i ti id off n hti hxe
      have hx := hs x
      rw [hxe] at hx
      split at he
      · rename_i e sz rows hlv hag hl
        split at he
        · rename_i te hte
          split at he
          · rename_i hcond
            obtain ⟨hsz, hpl⟩ := hcond
            obtain ⟨hm, he⟩ := aAl he
            obtain rfl := aAh he
            simp only [Bool.and_eq_true, decide_eq_true_eq] at hm
            obtain ⟨hn0, hon⟩ := hm
            obtain ⟨_, _, hblk⟩ := hx
            obtain ⟨_, hhdr⟩ := hblk _ sz rows hl rfl
            obtain ⟨b, cp, cur0, e0, fr0, hb, hv, hnc, hw0, _, hfit⟩ := hhdr.resolve_left (fun ⟨_, _, h⟩ => by omega)
            obtain ⟨hrl, hrows⟩ := (hh.blk id _ hl).2
            have hne : rows ≠ [] := fun e => by subst e; simp at hon; omega
            obtain ⟨b', cur, e', fr, hb', hw, hth, hsize, hrep⟩ := hrows.resolve_left hne
            obtain rfl : b' = b := by rw [hb] at hb'; exact (Option.some.inj hb').symm
            rw [hw0] at hw
            simp only [Option.some.injEq, Obj.cells.injEq] at hw
            obtain ⟨rfl, rfl, rfl⟩ := hw
            have hw := hw0
            obtain ⟨d, hu, hud⟩ := aBu (hE.ty t ti hti) hag hlv
            simp only [aBy] at hud
            subst hud
            obtain ⟨i, z, hi, hisz, hib, hz, hzl⟩ := (hE.ty e te hte).info
            have hzs : z.cells.size = sz := by rw [← Array.length_toList, hzl, ← hsz]; simp
            have hzj : ∀ (j : Nat) (kd : K), te.leaves[j]? = some kd → z.cells[j]? = some (aIb kd) := fun j kd hk => by rw [← Array.getElem?_toList, hzl, List.getElem?_map, hk]; rfl
            obtain ⟨LL, hL⟩ : ∃ LL, LL = (Builtin.zeroCells z.cells n).toList := ⟨_, rfl⟩
            have hLl : LL.length = n * sz := by rw [hL]; simp [Builtin.zeroCells, hzs]
            have hLg : ∀ (k j : Nat) (kd : K), k < n → te.leaves[j]? = some kd → LL[k * sz + j]? = some (aIb kd) := fun k j kd hk hj => by
              have hjlt := (List.getElem?_eq_some_iff.1 hj).1
              rw [hsz] at hjlt
              have hidx : k * sz + j < n * sz := by
                have : (k + 1) * sz ≤ n * sz := Nat.mul_le_mul_right _ (by omega)
                rw [Nat.add_mul] at this; omega
              have hmod : (k * sz + j) % sz = j := by rw [Nat.mul_comm, Nat.mul_add_mod]; exact Nat.mod_eq_of_lt hjlt
              rw [hL]
              simp only [Builtin.zeroCells, Array.getElem?_toList, Array.getElem?_map, Array.getElem?_range, hzs, hidx, if_true, Option.map_some, hmod]
              rw [getElem!_def, hzj j kd hj]
            have hL1 : ∀ u, u ∈ LL → u.oneCell' = true := fun u hu => by
              obtain ⟨q, hq⟩ := List.getElem?_of_mem hu
              have hql := (List.getElem?_eq_some_iff.1 hq).1
              rw [hLl] at hql
              have hs0 : 0 < sz := by rcases Nat.eq_zero_or_pos sz with h | h; · rw [h] at hql; omega
                                      · exact h
              have hqm : q % sz < te.leaves.length := by rw [hsz]; exact Nat.mod_lt _ hs0
              have hqd : q / sz < n := by rw [Nat.div_lt_iff_lt_mul hs0]; exact hql
              have := hLg (q / sz) (q % sz) _ hqd (List.getElem?_eq_getElem hqm)
              rw [Nat.mul_comm, Nat.div_add_mod, hq] at this
              obtain rfl := Option.some.inj this
              exact (aUw (w := w) (ok := fun _ => True) (List.all_eq_true.1 hpl _ (List.getElem_mem hqm))).one
            have hfit2 : off * sz + n * sz ≤ cur0.size := by
              have : (off + n) * sz ≤ (off + cp) * sz := Nat.mul_le_mul_right _ (by omega)
              rw [Nat.add_mul] at this; omega
            have hst := run_storeCells_cells (P := c.P) b' (off * sz) LL 0 w (fun j hj => by
                rw [cell_of_row w b' _ cur0 e0 fr0 hw]
                have : off * sz + 0 + j < cur0.size := by rw [hLl] at hj; omega
                simp [this]; omega) (fun j hj => by
                simp only [World.frozen?, hw]
                have hh := hth.lt (off * sz + 0 + j) (by rw [hLl] at hj; omega)
                simp only [Bool.and_eq_false_imp, decide_eq_true_eq, decide_eq_false_iff_not]
                omega) hL1
            simp only [Nat.add_zero] at hst
            have hrun : (Builtin.clear_ #[t] o.type #[a.eval x]).run c.P w = .ok (.tuple #[]) (w.setCells b' (off * sz) LL) := by
              have hzv : (zeroValue e).run c.P w = .ok z w := by simp [zeroValue, typeInfo, hi, hz]
              obtain ⟨m, rfl⟩ : ∃ m, n = m + 1 := ⟨n - 1, by omega⟩
              rw [hv]
              rw [hL] at hst ⊢
              simp [Builtin.clear_, run_underlying hu, hzv, hst]
            obtain ⟨cur', a1, a2, a3, a4, a5, a6, a7⟩ := aBl b' LL (off * sz) w cur0 e0 fr0 hw (by rw [hLl]; exact hfit2)
            have hnl : (rows.take off ++ List.replicate n (te.leaves.map aOk) ++ rows.drop (off + n)).length = rows.length := by simp; omega
            have hsh : aAf (.arr sz rows) (.arr sz (rows.take off ++ List.replicate n (te.leaves.map aOk) ++ rows.drop (off + n))) := ⟨rfl, hnl⟩
            have hlk := aC6 σ.heap id (.arr sz (rows.take off ++ List.replicate n (te.leaves.map aOk) ++ rows.drop (off + n))) ⟨_, hl⟩
            have ex := aLn hh hl rfl rfl hsh hb hw a1 a2 a4 a5 hlk
            have hh' := aGo (new := .arr sz (rows.take off ++ List.replicate n (te.leaves.map aOk) ++ rows.drop (off + n))) hh hl rfl rfl hsh hb hw a1 a2 a4 a5 a6 a7 ⟨fun r hr => by
                simp only [List.mem_append] at hr
                rcases hr with (hr | hr) | hr
                · exact hrl r (List.mem_of_mem_take hr)
                · rw [List.eq_of_mem_replicate hr, List.length_map, hsz]
                · exact hrl r (List.mem_of_mem_drop hr), .inr ⟨b', cur', e0, fr0, rfl, a1, by rw [a2]; exact hth, by rw [hnl, a2]; exact hsize, fun i r j y hi hj => by
                  rw [a3, hLl]
                  by_cases hi1 : i < off
                  · have hi2 : rows[i]? = some r := by
                      rw [List.append_assoc, List.getElem?_append_left (by simp; omega), List.getElem?_take_of_lt hi1] at hi
                      exact hi
                    have hjl := (List.getElem?_eq_some_iff.1 hj).1
                    rw [hrl r (List.mem_of_getElem? hi2)] at hjl
                    have : (i + 1) * sz ≤ off * sz := Nat.mul_le_mul_right _ (by omega)
                    rw [Nat.add_mul] at this
                    rw [if_neg (by omega)]
                    obtain ⟨u, hu1, hu2⟩ := hrep i r j y hi2 hj
                    exact ⟨u, hu1, ex.rep hu2⟩
                  · by_cases hi3 : i < off + n
                    · have hi2 : r = te.leaves.map aOk := by
                        rw [List.append_assoc, List.getElem?_append_right (by simp; omega), List.getElem?_append_left (by simp; omega)] at hi
                        rw [List.getElem?_replicate, if_pos (by simp; omega)] at hi
                        exact (Option.some.inj hi).symm
                      subst hi2
                      rw [List.getElem?_map] at hj
                      cases hk : te.leaves[j]? with
                      | none => rw [hk] at hj; simp at hj
                      | some kd =>
                        rw [hk] at hj
                        simp only [Option.map_some, Option.some.injEq] at hj
                        subst hj
                        have hjlt := (List.getElem?_eq_some_iff.1 hk).1
                        rw [hsz] at hjlt
                        obtain ⟨q, rfl⟩ : ∃ q, i = off + q := ⟨i - off, by omega⟩
                        have hq : (q + 1) * sz ≤ n * sz := Nat.mul_le_mul_right _ (by omega)
                        rw [Nat.add_mul] at hq
                        have e1 : (off + q) * sz = off * sz + q * sz := Nat.add_mul _ _ _
                        rw [if_pos (by omega)]
                        refine ⟨aIb kd, ?_, aUw (List.all_eq_true.1 hpl kd (List.mem_of_getElem? hk))⟩
                        have e2 : (off + q) * sz + j - off * sz = q * sz + j := by omega
                        rw [e2]
                        exact hLg q j kd (by omega) hk
                    · have hi2 : rows[i]? = some r := by
                        rw [List.getElem?_append_right (by simp; omega), List.getElem?_drop] at hi
                        have e1 : off + n + (i - (List.take off rows ++ List.replicate n (te.leaves.map aOk)).length) = i := by simp; omega
                        rw [e1] at hi
                        exact hi
                      have : (off + n) * sz ≤ i * sz := Nat.mul_le_mul_right _ (by omega)
                      rw [Nat.add_mul] at this
                      rw [if_neg (by omega)]
                      obtain ⟨u, hu1, hu2⟩ := hrep i r j y hi2 hj
                      exact ⟨u, hu1, ex.rep hu2⟩⟩⟩
            refine ⟨.tuple #[], _, β, .inl ?_, hh', ex, ⟨#[], rfl, rfl, fun j p hj => by simp at hj⟩, rfl, rfl, fun id' cells' hl' => ?_, fun id' hid' ht => ?_⟩
            · simp [execOp, ho, resolve, invoke, builtin, hrun]
            · simp only [hlk]
              split
              · rename_i hid'
                subst hid'
                rw [hl] at hl'
                cases hl'
              · exact ⟨_, hl'⟩
            · simp only [hlk]
              rw [if_neg (by simpa using ht)]
          · exact (aA0 he).elim
        · exact (aA0 he).elim
      · exact (aA0 he).elim
    · exact (aA0 he).elim
  · exact (aA0 he).elim
end
end
section
variable {c:Ctx} {w w':World} {h:aCq} {nx:Nat} {β:aCr}
theorem aCe (h:aCq) (id i:Nat):(del h id).lookup i=if i=id then none else h.lookup i:=by
 induction h with
 |nil=>simp[del]
 |cons p h ih =>
  obtain⟨k,b⟩:=p
  have ih':List.lookup i (List.filter (fun p=> !p.1==id) h)=if i=id then none else List.lookup i h:=ih
  by_cases hk:k=id
  ·subst hk
   have:del ((k,b)::h) k=del h k:=by simp[del]
   rw[this,ih]
   by_cases hi:i=k
   ·simp[hi]
   ·rw[if_neg hi,if_neg hi]
    have:(i==k)=false:=by simpa using hi
    simp[List.lookup,this]
  ·have:del ((k,b)::h) id=(k,b)::del h id:=by simp[del,hk]
   rw[this]
   by_cases hi:i=k
   ·subst hi
    simp[List.lookup,hk]
   ·have hf:(i==k)=false:=by simpa using hi
    simp only[List.lookup,hf]
    exact ih
theorem bMh (h:aCq) (id:Nat) (b:Blk):del (upd h id b) id=del h id:=by
 induction h with
 |nil=>rfl
 |cons p h ih =>
  obtain⟨k,x⟩:=p
  by_cases hk:k=id
  ·subst hk
   simp only[del,upd,List.map_cons,beq_self_eq_true,if_true]at ih ⊢
   simpa using ih
  ·have hf:(k==id)=false:=by simpa using hk
   simp only[del,upd,List.map_cons,hf]at ih ⊢
   simpa[hk]using ih
theorem bDt (id:Nat):Ext c w h nx β w (del h id) nx β:=by
 refine⟨Nat.le_refl _,Nat.le_refl _,fun b hb _=>⟨⟨hb.1,fun i blk hl hf=>?_⟩,rfl⟩,fun i x' _ hl=>?_,fun i x b cur E fr _ _ _ hw=>⟨cur,hw,rfl⟩⟩
 ·rw[aCe]at hl
  split at hl
  ·cases hl
  ·exact hb.2 i _ hl hf
 ·rw[aCe]at hl
  split at hl
  ·cases hl
  ·exact⟨rfl,x',hl,aAf.refl _⟩
theorem aUb (hh:aB7 c w h nx β) (id:Nat):aB7 c w (del h id) nx β:=by
 have e:Ext c w h nx β w (del h id) nx β:=bDt id
 have back:∀ {i:Nat} {x:Blk},(del h id).lookup i=some x→h.lookup i=some x:=fun {i x} hl=>by
  rw[aCe]at hl
  split at hl
  ·cases hl
  ·exact hl
 exact⟨fun i b hl=>⟨(hh.blk i b (back hl)).1,(hh.blk i b (back hl)).2.ext e (fun _ _=>rfl)⟩,fun i x b hl hb=>hh.place i x b (back hl) hb,
  fun i i' x x' b hl hl' hb hb'=>hh.inj i i' x x' b (back hl) (back hl') hb hb',hh.size,hh.frame,hh.os,hh.out,hh.pbs,fun g o hg=>⟨(hh.gh g o hg).1,fun i x hi=>(hh.gh g o hg).2 i x (back hi)⟩⟩
theorem aWx (hh:aB7 c w h nx β) {id b:Nat} {old blk:Blk} (hl:h.lookup id=some old) (hof:old.isFro=false) (hb:β id=some b) :
  Ext c w h nx β w ((nx,blk)::del h id) (nx+1) (aD8 β nx (some b)):=by
 refine⟨by omega,Nat.le_refl _,fun d hd _=>⟨⟨hd.1,fun i x hx hf=>?_⟩,rfl⟩,fun i x' hi hx=>?_,fun i x d cur E fr _ _ _ hw=>⟨cur,hw,rfl⟩⟩
 ·by_cases hi:i=nx
  ·subst hi
   simp only[aD8,if_true]
   exact fun e=>hd.2 id old hl hof (hb.trans e)
  ·rw[aAt hi,aCe]at hx
   split at hx
   ·cases hx
   ·simp only[aD8,if_neg hi]
    exact hd.2 i x hx hf
 ·rw[aAt (by omega),aCe]at hx
  split at hx
  ·cases hx
  ·exact⟨by simp[aD8];omega,x',hx,aAf.refl _⟩
theorem aRe (hh:aB7 c w h nx β) {id b:Nat} {old blk:Blk} (hl:h.lookup id=some old) (hof:old.isFro=false) (hpb:c.w0.heap.size≤b) (hb:β id=some b)
  (hblk:aO6 (okD c ((nx,blk)::del h id) (aD8 β nx (some b))) w ((nx,blk)::del h id) (nx+1) (aD8 β nx (some b)) (some b) blk):aB7 c w ((nx,blk)::del h id) (nx+1) (aD8 β nx (some b)):=by
 have e:=aWx (blk:=blk) hh hl hof hb
 have back:∀ {i:Nat} {x:Blk},i≠nx→List.lookup i ((nx,blk)::del h id)=some x→i≠id∧h.lookup i=some x∧aD8 β nx (some b) i=β i:=fun {i x} hi hx=>by
  rw[aAt hi,aCe]at hx
  split at hx
  ·cases hx
  ·rename_i hne
   exact⟨hne,hx,by simp[aD8,hi]⟩
 have hpl:=hh.place id old b hl hb
 refine⟨fun i x hx=>?_,fun i x d hx hd=>?_,fun i i' x x' d hx hx' hd hd'=>?_,hh.size,hh.frame,hh.os,hh.out,hh.pbs,fun g o hg=>⟨(hh.gh g o hg).1,fun i x hx hbi=>by
  by_cases hi:i=nx
  ·subst hi
   simp only[aD8,if_true,Option.some.injEq]at hbi
   subst hbi
   exact (hh.gh b o hg).2 id old hl hb
  ·obtain⟨_,h1,h2⟩:=back hi hx
   rw[h2]at hbi
   exact (hh.gh g o hg).2 i x h1 hbi⟩⟩
 ·by_cases hi:i=nx
  ·subst hi
   rw[aBw]at hx
   obtain rfl:=Option.some.inj hx
   exact⟨by omega,by simpa[aD8]using hblk⟩
  ·obtain⟨_,h1,h2⟩:=back hi hx
   have:=hh.blk i x h1
   rw[h2]
   exact⟨by omega,this.2.ext e (fun _ _=>rfl)⟩
 ·by_cases hi:i=nx
  ·subst hi
   simp only[aD8,if_true,Option.some.injEq]at hd
   subst hd
   exact⟨.inl hpb,hpl.2⟩
  ·obtain⟨_,h1,h2⟩:=back hi hx
   rw[h2]at hd
   exact hh.place i x d h1 hd
 ·by_cases hi:i=nx<;>by_cases hi':i'=nx
  ·omega
  ·exfalso
   subst hi
   obtain⟨hne,h1,h2⟩:=back hi' hx'
   simp only[aD8,if_true,Option.some.injEq]at hd
   subst hd
   rw[h2]at hd'
   exact hne (hh.inj i' id x' old b h1 hl hd' hb)
  ·exfalso
   subst hi'
   obtain⟨hne,h1,h2⟩:=back hi hx
   simp only[aD8,if_true,Option.some.injEq]at hd'
   subst hd'
   rw[h2]at hd
   exact hne (hh.inj i id x old b h1 hl hd hb)
  ·obtain⟨_,h1,h2⟩:=back hi hx
   obtain⟨_,h1',h2'⟩:=back hi' hx'
   rw[h2]at hd
   rw[h2']at hd'
   exact hh.inj i i' x x' d h1 h1' hd hd'
theorem bKh {a:Act} {parts:List (Nat×Operand)}:∀ {k:Nat},((parts.zipIdx k).all fun p=>p.1.1==p.2)=true→parts.map (fun p=>(p.1,a.eval p.2))=((parts.map fun p=>a.eval p.2).zipIdx k).map fun x=>(x.2,x.1):=by
 induction parts with
 |nil=>intro k _;rfl
 |cons p parts ih =>
  intro k hp
  simp only[List.zipIdx_cons,List.all_cons,Bool.and_eq_true]at hp
  simp only[List.map_cons,List.zipIdx_cons]
  have:p.1=k:=by simpa using hp.1
  rw[this,ih hp.2]
theorem aQi {P:Program} {w:World} {t e:TypeId} {te:TI} {a:Act} {parts:Array (Nat×Operand)} {len:Nat} (hu:P.underlying t=some (.slice e)) (hT:bFv P e te) (hlen:parts.size=len) (h256:len≤256) (hs256:te.leaves.length≤256) (hpos:0<te.leaves.length)
  (hz:(parts.toList.zipIdx.all fun p=>p.1.1==p.2)=true) (hcs:∀ p∈parts.toList,(a.eval p.2).cells.size=te.leaves.length) :
  ∃ cells:Array Value,(Instr.buildSlice t len (parts.map fun (i,x)=>(i,a.eval x))).run P w=.ok (.slice (some ⟨w.heap.size,0,none⟩) len len) (w.alloc (.cells cells e))∧cells.size=len*te.leaves.length ∧
   ∀ i j,i<len→j<te.leaves.length→cells[i*te.leaves.length+j]? =(parts.toList[i]?).bind fun p=>(a.eval p.2).cells[j]? :=by
 obtain⟨i,z,h1,h2,_,h4,h5⟩:=hT.info
 by_cases h0:len=0
 ·subst h0
  have:parts=#[]:=by simpa using hlen
  subst this
  refine⟨#[],?_,by simp,fun i j hi=>by omega⟩
  simp[Instr.buildSlice,run_underlying hu,sizeOf,typeInfo,h1,Instr.fill,newRow]
  have h0:Array.map (fun (_:Nat)=>(default:Value)) (Array.range 0)=#[]:=Array.eq_empty_of_size_eq_zero (by simp)
  rw[h0]
 ·have hsm:len*i.size≤65536:=by
   rw[h2]
   have:=Nat.mul_le_mul h256 hs256
   omega
  obtain⟨r,hr,hsz,hk⟩:=Great.fill_dense (s:=i.size) (by omega) (parts.toList.map fun p=>a.eval p.2) 0 ((Array.range (len*i.size)).map (z.cells[· % z.cells.size]!)) (fun v hv=>by
   obtain⟨p,hp,rfl⟩:=List.mem_map.1 hv
   rw[hcs p hp,h2]) (by simp[hlen])
  rw[h2]at hsz hk
  refine⟨r,run_buildSlice w t e len _ r i z hu h1 h4 (by omega) (by rw[h2];have:=Nat.mul_pos (show 0<len by omega) hpos;omega) ?_,by rw[hsz];simp,fun i' j hi hj=>?_⟩
  ·rw[Array.toList_map]
   have:=bKh (a:=a) hz
   rw[this]
   exact hr
  ·have hlt:i'*te.leaves.length+j<len*te.leaves.length:=by
    have:(i'+1)*te.leaves.length≤len*te.leaves.length:=Nat.mul_le_mul_right _ (by omega)
    rw[Nat.add_mul]at this;omega
   rw[hk,if_pos (by simp[hlen];exact hlt)]
   have e1:(i'*te.leaves.length+j) / te.leaves.length=i':=by
    rw[Nat.mul_comm,Nat.mul_add_div hpos,Nat.div_eq_of_lt hj];omega
   have e2:(i'*te.leaves.length+j) % te.leaves.length=j:=by
    rw[Nat.mul_comm,Nat.mul_add_mod];exact Nat.mod_eq_of_lt hj
   rw[e1,e2,Nat.sub_zero,List.getElem?_map]
   cases parts.toList[i']? <;>rfl
section
variable {σ:St} {E:Env} {a:Act} {o:Oper} {r:R} (hE:aDx c.P E) (hh:aB7 c w σ.heap σ.next β) (hs:∀ x,aFs (okD c σ.heap β) w σ.heap σ.next β (a.eval x) (σ.ev x))
include hE hh hs
theorem aW7 {t:TypeId} {len:Nat} {parts:Array (Nat×Operand)} (hfree:∀ id x b,id∈(parts.toList.flatMap fun p=>(σ.ev p.2).ids)→σ.heap.lookup id=some x→β id=some b→c.w0.heap.size≤b) (ho:o.op=.buildSlice t len parts) (he:aBv E σ (.buildSlice t len parts)=some r):aC9 c σ β w (execOp a.eval o) r:=by
 simp only[aBv,vop]at he
 split at he
 ·rename_i ti hti
  split at he
  ·rename_i e hlv hag
   split at he
   ·rename_i te hte
    split at he
    ·rename_i hc
     obtain⟨hc1,hc2,hc3,hc4,hc5,hc6⟩:=hc
     split at he
     ·rename_i rows hrows
      split at he
      ·rename_i hall
       obtain rfl:=aAh he
       obtain⟨d,hu,hud⟩:=aBu (hE.ty t ti hti) hag hlv
       simp only[aBy]at hud
       subst hud
       let ids:=parts.toList.flatMap fun p=>(σ.ev p.2).ids
       have hh1:=aMg hh ids hfree
       have e1:Ext c w σ.heap σ.next β w (freeze σ.heap ids) σ.next β:=aNu ids
       have hrl:rows.length=len:=by rw[mapM_some_length hrows,Array.length_toList,hc1]
       have part:∀ (i:Nat) (p:Nat×Operand),parts.toList[i]? =some p→∃ r,rows[i]? =some r∧r.length=te.leaves.length∧(a.eval p.2).cells.size=te.leaves.length ∧
         ∀ (j:Nat) (d:C),r[j]? =some d→∃ u,(a.eval p.2).cells[j]? =some u∧Rep w (okD c (freeze σ.heap ids) β) u d:=by
        intro i p hp
        have hg:=(mapM_some_get hrows i p hp).symm
        have hpm:=List.mem_of_getElem? hp
        cases hx:aXv (σ.ev p.2)with
        |none =>
         have:=(List.getElem?_eq_some_iff.1 hp).1
         rw[hx]at hg
         simp only[Option.bind_none]at hg
         have:=List.getElem?_eq_none_iff.1 hg
         rw[Array.length_toList,hc1]at *
         omega
        |some xs =>
         rw[hx]at hg
         simp only[Option.bind_some]at hg
         cases hd:aLr σ.heap xs with
         |none =>
          rw[hd]at hg
          have:=List.getElem?_eq_none_iff.1 hg
          have:=(List.getElem?_eq_some_iff.1 hp).1
          rw[Array.length_toList,hc1]at *
          omega
         |some cs =>
          rw[hd]at hg
          obtain⟨hu1,_,_⟩:=aNo (hs p.2) hx
          have hcl:cs.length=te.leaves.length:=by
           have:=List.all_eq_true.1 hall cs (List.mem_of_getElem? hg)
           simpa using this
          obtain⟨h1,h2⟩:=aMl hh (ok':=okD c (freeze σ.heap ids) β) (fun b hb=>by
            refine⟨hb.1,fun id blk hl hf=>?_⟩
            obtain⟨b0,h0,_,_,hfr,_⟩:=aDr hl
            obtain⟨rfl,_⟩:=hfr hf
            exact hb.2 id _ h0 hf) (fun id b blk q hi hl hq hb=>aU2 hh (List.mem_flatMap.2 ⟨p,hpm,by rw[aXh hx];exact hi⟩) hl (bCa hl hq (List.all_eq_true.1 (List.all_eq_true.1 hc6 p hpm) id (by rw[aXh hx];exact hi))) hb (hfree id blk b (List.mem_flatMap.2 ⟨p,hpm,by rw[aXh hx];exact hi⟩) hl hb)) hu1 hd
          exact⟨cs,hg,hcl,by rw[h1,hcl],h2⟩
       obtain⟨cells,hrun,hcz,hcg⟩:=aQi (w:=w) (a:=a) hu (hE.ty e te hte) hc1 hc2 hc3 hc4 hc5 (fun p hp=>by
        obtain⟨i,hi⟩:=List.getElem?_of_mem hp
        obtain⟨_,_,_,h,_⟩:=part i p hi
        exact h)
       have dn:aC9 c {σ with heap:=freeze σ.heap ids} β w (execOp a.eval o) {val:=.l (.ref σ.next 0 len),st:=({σ with heap:=freeze σ.heap ids}:St).new (.arr te.leaves.length rows),eff:=true}:=by
        refine aFm (σ:={σ with heap:=freeze σ.heap ids}) (w':=w.alloc (.cells cells e)) (v:=.slice (some ⟨w.heap.size,0,none⟩) len len) (ob:=some w.heap.size) hh1 ?_
         (by show _≤(w.heap.push _).size;simp) (fun b hb=>aC2 w _ b hb) rfl rfl (fun b hb=>by obtain rfl:=Option.some.inj hb;refine⟨Nat.le_refl _,?_⟩;show _<(w.heap.push _).size;simp) (fun ex=>?_) ?_
        ·simp only[execOp,ho]
         rw[Sem.run_bind,hrun]
         rfl
        ·refine⟨fun rr hrr=>by have:=List.all_eq_true.1 hall rr hrr;simpa using this,.inr ⟨w.heap.size,cells,e,(0,0),rfl,heap_alloc_new w _,aFu _,by rw[hrl,hcz];exact Nat.le_refl _,fun i rr j x hi hj=>?_⟩⟩
         have hilt:i<len:=by have:=(List.getElem?_eq_some_iff.1 hi).1;omega
         have hpl:i<parts.toList.length:=by rw[Array.length_toList,hc1];exact hilt
         obtain⟨r',hr',hl',_,hd'⟩:=part i parts.toList[i] (List.getElem?_eq_getElem hpl)
         rw[hi]at hr'
         obtain rfl:=Option.some.inj hr'
         have hjl:=(List.getElem?_eq_some_iff.1 hj).1
         obtain⟨u,hu1,hu2⟩:=hd' j x hj
         refine⟨u,?_,ex.rep hu2⟩
         rw[hcg i j hilt (by omega),List.getElem?_eq_getElem hpl]
         exact hu1
        ·refine⟨by show σ.next<σ.next+1;omega,rfl,fun blk sz rows' hl hr=>?_⟩
         rw[aBw]at hl
         obtain rfl:=Option.some.inj hl
         simp only[Blk.rows?,Option.some.injEq,Prod.mk.injEq]at hr
         obtain⟨rfl,rfl⟩:=hr
         refine⟨by omega,.inr ⟨w.heap.size,len,cells,e,(0,0),by simp[aD8],by rw[Nat.zero_mul],by omega,heap_alloc_new w _,aFu _,by rw[hcz,Nat.zero_add];exact Nat.le_refl _⟩⟩
       obtain⟨v,w',β',d1,d2,d3,d4,d5,d6,d7,d8⟩:=dn
       refine⟨v,w',β',d1,d2,e1.trans d3,d4,d5,d6,fun id cs hl=>?_,fun id hid ht=>?_⟩
       ·refine d7 id cs ?_
        show (freeze σ.heap ids).lookup id=_
        rw[aDp,hl]
        simp
       ·rw[d8 id hid (by simp)]
        show (freeze σ.heap ids).lookup id=_
        rw[aDp]
        have:ids.contains id=false:=by
         have ht':id∉ids:=ht
         simpa using ht'
        simp only[this]
        cases σ.heap.lookup id<;>simp
      ·exact (aA0 he).elim
     ·exact (aA0 he).elim
    ·exact (aA0 he).elim
   ·exact (aA0 he).elim
  ·exact (aA0 he).elim
 ·exact (aA0 he).elim
end
end
section
variable {c:Ctx} {w w':World} {h:aCq} {nx:Nat} {β:aCr}
def aZm (ok:Nat→Prop) (w:World) (sz:Nat) (news:List Value) (rows:List (List C)):Prop :=
 news.length=rows.length*sz∧(∀ u∈news,u.oneCell'=true)∧∀ (i:Nat) (r:List C) (j:Nat) (y:C),rows[i]? =some r→r[j]? =some y→∃ u,news[i*sz+j]? =some u∧Rep w ok u y
theorem bTs {σ:St} (hh:aB7 c w σ.heap σ.next β) {x:W} {v:Value} {rows:List (List C)} (hv:aFs (okD c σ.heap β) w σ.heap σ.next β v x) (hr:aM5 σ.heap x=some rows) {sz:Nat} (hall:∀ r,r∈rows→r.length=sz) (hpos:0<sz)
  {tx e':TypeId} (hk:c.P.underlying tx=some (.slice e')):∃ news,Src c.P sz tx v rows.length news w∧aZm (okD c σ.heap β) w sz news rows:=by
 rcases bK9 hh hv hr hall with⟨rfl,a0,cap,rfl⟩ | ⟨b,o',n,cap,rfl,rfl,hnc,hlt,hcells⟩
 ·refine⟨[],⟨.inl ⟨e',hk⟩,fun _=>rfl,?_,?_,by simp,fun _ h=>by cases h⟩,by simp[aZm]⟩
  ·cases a0<;>simp[Builtin.firstCells,loadCells,loadCellsFrom]
  ·cases a0<;>simp[Builtin.firstCells,loadCells,loadCellsFrom]
 ·have at':∀ k,k<rows.length*sz→∃ u y,w.cell? ⟨b,o'+k,none⟩=some u∧Rep w (okD c σ.heap β) u y:=by
   intro k hk
   have hi:k / sz<rows.length:=by rw[Nat.div_lt_iff_lt_mul hpos];exact hk
   have hj:k % sz<(rows[k / sz]).length:=by rw[hall _ (List.getElem_mem hi)];exact Nat.mod_lt _ hpos
   obtain⟨u,hu,hru⟩:=hcells (k / sz) _ (k % sz) _ (List.getElem?_eq_getElem hi) (List.getElem?_eq_getElem hj)
   refine⟨u,_,?_,hru⟩
   have:o'+k / sz*sz+k % sz=o'+k:=by rw[Nat.add_assoc,Nat.mul_comm,Nat.div_add_mod]
   rw[←this]
   exact hu
  let news:=(List.range (rows.length*sz)).map fun k=>(w.cell? ⟨b,o'+k,none⟩).getD undef
  have hget:∀ k u,news[k]? =some u→k<rows.length*sz∧w.cell? ⟨b,o'+k,none⟩=some u:=fun k u hku=>by
   have hklt:k<rows.length*sz:=by have:=(List.getElem?_eq_some_iff.1 hku).1;simpa[news]using this
   obtain⟨u',_,hu',_⟩:=at' k hklt
   refine⟨hklt,?_⟩
   have:news[k]? =some u':=by simp[news,hklt,hu']
   rw[this]at hku
   rw[hu',hku]
  have one:∀ u∈news,u.oneCell'=true:=fun u hu=>by
   obtain⟨k,hku⟩:=List.getElem?_of_mem hu
   obtain⟨hklt,hc⟩:=hget k u hku
   obtain⟨u',y,hu',hy⟩:=at' k hklt
   rw[hc]at hu'
   obtain rfl:=Option.some.inj hu'
   exact hy.one
  refine⟨news,Src.ofSlice w hk ⟨b,o',none⟩ rows.length cap news (by simp[news]) (fun k u hku=>by rw[add_lit];exact (hget k u hku).2) one,by simp[news],one,fun i r j y hi hj=>?_⟩
  obtain⟨u,hu,hru⟩:=hcells i r j y hi hj
  refine⟨u,?_,hru⟩
  have hil:=(List.getElem?_eq_some_iff.1 hi).1
  have hjl:=(List.getElem?_eq_some_iff.1 hj).1
  rw[hall r (List.mem_of_getElem? hi)]at hjl
  have:i*sz+j<rows.length*sz:=by
   have:(i+1)*sz≤rows.length*sz:=Nat.mul_le_mul_right _ (by omega)
   rw[Nat.add_mul]at this;omega
  rw[Nat.add_assoc]at hu
  simp[news,this,hu]
theorem bRh {ok:Nat→Prop} {tx:TypeId} {P:Program} (hk:P.underlying tx=some .string) (s:ByteArray) :
  Src P 1 tx (.string s) (aDs s.data.toList).length (byteCells s) w∧aZm ok w 1 (byteCells s) (aDs s.data.toList):=by
 have hsz:s.size=s.data.toList.length:=by rw[Array.length_toList];rfl
 have:(aDs s.data.toList).length=s.size:=by rw[hsz,aDs,List.length_map]
 have h:=Src.ofString w hk s
 refine⟨by rw[this];exact h,by rw[this,byteCells_length,Nat.mul_one],h.one,fun i r j y hi hj=>?_⟩
 simp only[aDs,List.getElem?_map]at hi
 cases hb:s.data.toList[i]? with
 |none=>rw[hb]at hi;simp at hi
 |some b =>
  rw[hb]at hi
  simp only[Option.map_some,Option.some.injEq]at hi
  subst hi
  cases j with
  |succ j=>simp at hj
  |zero =>
   simp only[List.getElem?_cons_zero,Option.some.injEq]at hj
   subst hj
   refine⟨.int .u8 b.toNat,?_,.int _ _⟩
   simp[byteCells,hb]
theorem aQm {ok:Nat→Prop} {sz:Nat} {w1:World} {cur:Array Value} {olds news:List Value} {old rows:List (List C)} (holen:olds.length=old.length*sz) (hol:∀ r∈old,r.length=sz)
  (ho:∀ (i:Nat) (r:List C) (j:Nat) (y:C),old[i]? =some r→r[j]? =some y→∃ u,olds[i*sz+j]? =some u∧Rep w1 ok u y)
  (hn:∀ (i:Nat) (r:List C) (j:Nat) (y:C),rows[i]? =some r→r[j]? =some y→∃ u,news[i*sz+j]? =some u∧Rep w1 ok u y)
  (hc:∀ (k:Nat) (u:Value),(olds++news)[k]? =some u→cur[k]? =some u) :
  ∀ (i:Nat) (r:List C) (j:Nat) (y:C),(old++rows)[i]? =some r→r[j]? =some y→∃ u,cur[i*sz+j]? =some u∧Rep w1 ok u y:=by
 intro i r j y hi hj
 by_cases h:i<old.length
 ·rw[List.getElem?_append_left h]at hi
  obtain⟨u,hu,hr⟩:=ho i r j y hi hj
  refine⟨u,hc _ u ?_,hr⟩
  rw[List.getElem?_append_left (by exact (List.getElem?_eq_some_iff.1 hu).1)]
  exact hu
 ·rw[List.getElem?_append_right (by omega)]at hi
  obtain⟨u,hu,hr⟩:=hn _ r j y hi hj
  refine⟨u,hc _ u ?_,hr⟩
  have e:i*sz+j=olds.length+((i-old.length)*sz+j):=by
   rw[holen]
   have:i*sz=old.length*sz+(i-old.length)*sz:=by rw[←Nat.add_mul];congr 1;omega
   omega
  rw[e,List.getElem?_append_right (by omega),Nat.add_sub_cancel_left]
  exact hu
theorem aS0 {σ:St} {E:Env} {s:Sem Next} (hh:aB7 c w σ.heap σ.next β) {t tx ty e:TypeId} {te:TI} (hT:bFv c.P e te) (hpos:0<te.leaves.length) (hby:0<te.bytes) (hu:c.P.underlying t=some (.slice e))
  {base:Option Addr} {n cap:Nat} {x:Value} {olds news:List Value} {old rows:List (List C)} (hn:n=old.length) (hol:∀ r∈old,r.length=te.leaves.length) (hrl:∀ r∈rows,r.length=te.leaves.length)
  (hold:(Builtin.firstCells te.leaves.length n (.slice base n cap)).run c.P w.drew=.ok olds.toArray w.drew) (holen:olds.length=old.length*te.leaves.length)
  (ho:∀ (i:Nat) (r:List C) (j:Nat) (y:C),old[i]? =some r→r[j]? =some y→∃ u,olds[i*te.leaves.length+j]? =some u∧Rep w (okD c σ.heap β) u y)
  (hsrc:Src c.P te.leaves.length tx x rows.length news w) (hnews:aZm (okD c σ.heap β) w te.leaves.length news rows) (hg:cap<n+rows.length) (hmax:aC0 (old.length+rows.length) te.bytes=true)
  (hexec:∀ v w',(Builtin.append_ #[t,tx] ty #[.slice base n cap,x]).run c.P w=.ok v w'→s.run c.P w=.ok (.value v) w') :
  aC9 c σ β w s {val:=.l (.ref σ.next 0 (old.length+rows.length)),st:=σ.new (.arr te.leaves.length (old++rows)),eff:=true}:=by
 subst hn
 obtain⟨i,z,h1,h2,h3,h4,h5⟩:=hT.info
 have hzs:z.cells.size=te.leaves.length:=by rw[←Array.length_toList,h5];simp
 have hfit0:(old.length+rows.length+(old.length+rows.length) / 4+192)*te.bytes≤281474976710656:=by simpa[aC0]using hmax
 have hmax':old.length+rows.length≤281474976710656:=by
  have:=Nat.le_mul_of_pos_right (old.length+rows.length+(old.length+rows.length) / 4+192) hby
  omega
 have hfit:Builtin.nextslicecap (old.length+rows.length) cap*i.bytes≤281474976710656:=growslice_fits_wide hg (by rw[h3];exact hfit0)
 have hrun:=run_append_grow_src (P:=c.P) w t tx ty e i z hu h1 h4 base old.length cap olds (by rw[h2];exact hold) x rows.length news (by rw[h2];exact hsrc) hg (by omega) hfit
 have hge:=grownCap_ge w (old.length+rows.length) cap e
 let cur:Array Value:=(olds++news).toArray++Builtin.zeroCells z.cells (grownCap w (old.length+rows.length) cap e-(old.length+rows.length))
 have hcs:cur.size=grownCap w (old.length+rows.length) cap e*te.leaves.length:=by
  simp only[cur,Array.size_append,List.size_toArray,List.length_append,holen,hnews.1,size_zeroCells,hzs]
  rw[←Nat.add_mul,←Nat.add_mul]
  congr 1
  omega
 refine aFm (w':=w.drew.alloc (.cells cur e)) (v:=.slice (some ⟨w.heap.size,0,none⟩) (old.length+rows.length) (grownCap w (old.length+rows.length) cap e)) (ob:=some w.heap.size) hh (hexec _ _ hrun)
  (by show _≤(w.heap.push _).size;simp) (fun b hb=>aC2 w _ b hb) rfl rfl (fun b hb=>by obtain rfl:=Option.some.inj hb;refine⟨Nat.le_refl _,?_⟩;show _<(w.heap.push _).size;simp) (fun ex=>?_) ?_
 ·refine⟨fun r hr=>?_,.inr ⟨w.heap.size,cur,e,(0,0),rfl,heap_alloc_new w.drew _,aFu _,by rw[List.length_append,hcs];exact Nat.mul_le_mul_right _ hge,?_⟩⟩
  ·rcases List.mem_append.1 hr with h | h
   ·exact hol r h
   ·exact hrl r h
  ·refine aQm (news:=news) holen hol (fun i r j y hi hj=>?_) (fun i r j y hi hj=>?_) (fun k u hk=>?_)
   ·obtain⟨u,hu,hr⟩:=ho i r j y hi hj;exact⟨u,hu,ex.rep hr⟩
   ·obtain⟨u,hu,hr⟩:=hnews.2.2 i r j y hi hj;exact⟨u,hu,ex.rep hr⟩
   ·have:=(List.getElem?_eq_some_iff.1 hk).1
    simp only[cur]
    rw[Array.getElem?_append_left (by simpa using this)]
    simpa using hk
 ·refine⟨by show σ.next<σ.next+1;omega,rfl,fun blk sz rows' hl hr=>?_⟩
  rw[aBw]at hl
  obtain rfl:=Option.some.inj hl
  simp only[Blk.rows?,Option.some.injEq,Prod.mk.injEq]at hr
  obtain⟨rfl,rfl⟩:=hr
  exact⟨by simp,.inr ⟨w.heap.size,_,cur,e,(0,0),by simp[aD8],by rw[Nat.zero_mul],hge,heap_alloc_new w.drew _,aFu _,by rw[hcs,Nat.zero_add];exact Nat.le_refl _⟩⟩
section
variable {σ:St} {E:Env} {a:Act} {o:Oper} {r:R} (hE:aDx c.P E) (hh:aB7 c w σ.heap σ.next β) (hs:∀ x,aFs (okD c σ.heap β) w σ.heap σ.next β (a.eval x) (σ.ev x))
include hE hh hs
theorem bKq {call:Call} {args:Array Operand} {ats:Array TypeId} (hcall:call={callee:=.builtin .append,args:=args,argTypes:=ats}) (ho:o.op=.call call)
  (hfree:∀ id x b,id∈(Op.call {callee:=.builtin .append,args:=args,argTypes:=ats}).eats σ→σ.heap.lookup id=some x→β id=some b→c.w0.heap.size≤b)
  (he:aBv E σ (.call {callee:=.builtin .append,args:=args,argTypes:=ats})=some r):aC9 c σ β w (execOp a.eval o) r:=by
 subst hcall
 simp only[aBv,vop]at he
 split at he
 ·rename_i s x t u hargs hats
  have hargs':args=#[s,x]:=by apply Array.ext';simpa using hargs
  have hats':ats=#[t,u]:=by apply Array.ext';simpa using hats
  subst hargs'
  subst hats'
  have hexec:∀ v w',(Builtin.append_ #[t,u] o.type #[a.eval s,a.eval x]).run c.P w=.ok v w'→(execOp a.eval o).run c.P w=.ok (.value v) w':=fun v w' h=>by
   simp[execOp,ho,resolve,invoke,builtin,h]
  split at he
  ·rename_i ti tu hti htu
   split at he
   ·rename_i e hlv hag
    obtain⟨d,hu,hud⟩:=aBu (hE.ty t ti hti) hag hlv
    simp only[aBy]at hud
    subst hud
    split at he
    ·rename_i te hte
     have hT:=hE.ty e te hte
     split at he
     ·rename_i hcond
      obtain⟨hby,hpos⟩:=hcond
      -- what is appended
      have hsrc:∀ rows,(match tu.leaves,tu.agg,σ.ev x with
        |[.str],false,.l (.s l)=>if te.leaves=[.int .u8]then some (aDs l)else none
        |[.slice _],false,x=>aM5 σ.heap x
        |_,_,_=>none)=some rows→(∀ r∈rows,r.length=te.leaves.length) →
        ∃ news,Src c.P te.leaves.length u (a.eval x) rows.length news w∧aZm (okD c σ.heap β) w te.leaves.length news rows:=by
       intro rows hr hall
       split at hr
       ·rename_i l h1 h2 hx
        split at hr
        ·rename_i h8
         obtain rfl:=Option.some.inj hr
         obtain⟨d2,hu2,hd2⟩:=aBu (hE.ty u tu htu) h2 h1
         simp only[aBy]at hd2
         subst hd2
         have hv:=hs x
         rw[hx]at hv
         obtain⟨sb,hsv,rfl⟩:=hv
         rw[hsv,h8]
         exact⟨_,bRh hu2 sb⟩
        ·cases hr
       ·rename_i e' _ h1 h2
        obtain⟨d2,hu2,hd2⟩:=aBu (hE.ty u tu htu) h2 h1
        simp only[aBy]at hd2
        subst hd2
        exact bTs hh (hs x) hr hall hpos hu2
       ·cases hr
      obtain⟨i,z,h1,h2,h3,h4,h5⟩:=hT.info
      have hv:=hs s
      split at he
      ·rename_i rows hsx hrows
       rw[hsx]at hv
       obtain⟨hc,he⟩:=aAl he
       obtain rfl:=aAh he
       simp only[Bool.and_eq_true,decide_eq_true_eq]at hc
       obtain⟨hmax,hall⟩:=hc
       have hall':∀ r∈rows,r.length=te.leaves.length:=fun r hr=>by simpa using List.all_eq_true.1 hall r hr
       obtain⟨news,hS,hN⟩:=hsrc rows hrows hall'
       obtain hv:a.eval s=.slice none 0 0:=hv
       by_cases h0:rows.length=0
       ·have hr0:rows=[]:=List.length_eq_zero_iff.1 h0
        subst hr0
        have hnn:news=[]:=List.length_eq_zero_iff.1 (by rw[hN.1];simp)
        subst hnn
        refine aFm (w':=w) (v:=.slice none 0 0) (ob:=none) hh (hexec _ _ ?_) (Nat.le_refl _) (fun _ _=>rfl) rfl rfl (fun b hb=>by cases hb) (fun ex=>(show aGg _ _ _ _ _ from⟨fun r hr=>(List.not_mem_nil hr).elim,.inl rfl⟩))
         ⟨by show σ.next<σ.next+1;omega,rfl,fun blk sz rows' hl hr=>?_⟩
        ·rw[hv]
         have hlen:=hS.len w
         have hcl:=hS.cells
         simp only[List.length_nil]at hlen hcl
         rcases hS.kind with⟨e',hk⟩ | hk<;>simp[Builtin.append_,run_underlying hu,run_underlying hk,sizeOf,typeInfo,h1,hlen,h2,hcl]
        ·rw[aBw]at hl
         obtain rfl:=Option.some.inj hl
         simp only[Blk.rows?,Option.some.injEq,Prod.mk.injEq]at hr
         obtain⟨rfl,rfl⟩:=hr
         exact⟨by simp,.inl ⟨none,rfl,rfl⟩⟩
       ·have:=aS0 (E:=E) (old:=[]) (olds:=[]) (n:=0) (cap:=0) (base:=none) (ty:=o.type) (s:=execOp a.eval o) hh hT hpos hby hu rfl (fun r hr=>by cases hr) hall' (by simp[Builtin.firstCells]) (by simp) (fun i r j y hi=>by simp at hi) hS hN (by omega) (by simpa using hmax)
         (fun v w' h=>hexec v w' (by rw[hv];exact h))
        simpa using this
      ·rename_i id n rows hsx hrows
       rw[hsx]at hv
       split at he
       ·rename_i sz old hl
        split at he
        ·rename_i hsz
         subst hsz
         obtain⟨hc,he⟩:=aAl he
         obtain rfl:=aAh he
         simp only[Bool.and_eq_true,decide_eq_true_eq]at hc
         obtain⟨⟨hn,hmax⟩,hall⟩:=hc
         subst hn
         have hall':∀ r∈rows,r.length=te.leaves.length:=fun r hr=>by simpa using List.all_eq_true.1 hall r hr
         obtain⟨news,hS,hN⟩:=hsrc rows hrows hall'
         have hh1:=aUb hh id
         have e1:Ext c w σ.heap σ.next β w (del σ.heap id) σ.next β:=bDt id
         obtain⟨_,hhdr⟩:=hv.2.2 _ _ _ hl rfl
         obtain⟨hrl,hrows0⟩:=(hh.blk id _ hl).2
         have hidn:=(hh.blk id _ hl).1
         have fin:∀ {r':R},aC9 c {σ with heap:=del σ.heap id} β w (execOp a.eval o) r'→r'.touched=[] →
           aC9 c σ β w (execOp a.eval o) {r' with touched:=[id]}:=by
          rintro r' ⟨v,w',β',d1,d2,d3,d4,d5,d6,d7,d8⟩ ht
          refine⟨v,w',β',d1,d2,e1.trans d3,d4,d5,d6,fun i cs hi=>?_,fun i hi hni=>?_⟩
          ·refine d7 i cs ?_
           show (del σ.heap id).lookup i=_
           rw[aCe]
           split
           ·rename_i hid;subst hid;rw[hl]at hi;cases hi
           ·exact hi
          ·rw[d8 i hi (by rw[ht];simp)]
           show (del σ.heap id).lookup i=_
           rw[aCe,if_neg (by simpa using hni)]
         -- growing,out of what aOm is
         have grow:∀ {base:Option Addr} {cap:Nat} {olds:List Value},a.eval s=.slice base old.length cap→(Builtin.firstCells te.leaves.length old.length (.slice base old.length cap)).run c.P w.drew=.ok olds.toArray w.drew→olds.length=old.length*te.leaves.length →
           (∀ (i:Nat) (r:List C) (j:Nat) (y:C),old[i]? =some r→r[j]? =some y→∃ u,olds[i*te.leaves.length+j]? =some u∧Rep w (okD c σ.heap β) u y)→cap<old.length+rows.length →
           aC9 c σ β w (execOp a.eval o) {val:=.l (.ref σ.next 0 (old.length+rows.length)),st:=({σ with heap:=del σ.heap id}:St).new (.arr te.leaves.length (old++rows)),eff:=true,touched:=[id]}:=by
          intro base cap olds hval hold holen hcells hg
          refine fin (r':={val:=.l (.ref σ.next 0 (old.length+rows.length)),st:=({σ with heap:=del σ.heap id}:St).new (.arr te.leaves.length (old++rows)),eff:=true}) ?_ rfl
          exact aS0 (σ:={σ with heap:=del σ.heap id}) (E:=E) (ty:=o.type) (s:=execOp a.eval o) hh1 hT hpos hby hu rfl hrl hall' hold holen (fun i r j y hi hj=>let⟨u,h1,h2⟩:=hcells i r j y hi hj;⟨u,h1,e1.rep h2⟩) hS
           ⟨hN.1,hN.2.1,fun i r j y hi hj=>let⟨u,h1,h2⟩:=hN.2.2 i r j y hi hj;⟨u,h1,e1.rep h2⟩⟩ hg hmax (fun v w' h=>hexec v w' (by rw[hval];exact h))
         rcases hhdr with⟨a0,hval,hn0⟩ | ⟨b,cc,cur,E',fr,hb,hval,hnc,hw,hth,hle⟩
         ·have ho0:old=[]:=List.length_eq_zero_iff.1 hn0
          subst ho0
          by_cases h0:rows.length=0
          ·have hr0:rows=[]:=List.length_eq_zero_iff.1 h0
           subst hr0
           have hnn:news=[]:=List.length_eq_zero_iff.1 (by rw[hN.1];simp)
           subst hnn
           refine fin (r':={val:=.l (.ref σ.next 0 ([]++[]:List (List C)).length),st:=({σ with heap:=del σ.heap id}:St).new (.arr te.leaves.length ([]++[])),eff:=true}) ?_ rfl
           refine aFm (σ:={σ with heap:=del σ.heap id}) (w':=w) (v:=.slice a0 0 0) (ob:=none) hh1 (hexec _ _ ?_) (Nat.le_refl _) (fun _ _=>rfl) rfl rfl (fun b hb=>by cases hb) (fun ex=>(show aGg _ _ _ _ _ from⟨fun r hr=>(List.not_mem_nil hr).elim,.inl rfl⟩))
            ⟨by show σ.next<σ.next+1;omega,rfl,fun blk sz rows' hl hr=>?_⟩
           ·rw[hval]
            have hlen:=hS.len w
            have hcl:=hS.cells
            simp only[List.length_nil]at hlen hcl
            cases a0<;>rcases hS.kind with⟨e',hk⟩ | hk<;>simp[Builtin.append_,run_underlying hu,run_underlying hk,sizeOf,typeInfo,h1,hlen,h2,hcl,storeCells]
           ·rw[aBw]at hl
            obtain rfl:=Option.some.inj hl
            simp only[Blk.rows?,Option.some.injEq,Prod.mk.injEq]at hr
            obtain⟨rfl,rfl⟩:=hr
            exact⟨by simp,.inl ⟨a0,rfl,rfl⟩⟩
          ·exact grow (base:=a0) (cap:=0) (olds:=[]) hval (by cases a0<;>simp[Builtin.firstCells,loadCells,loadCellsFrom]) (by simp) (fun i r j y hi=>by simp at hi) (by simp;omega)
         ·rw[Nat.zero_mul]at hval
          rw[Nat.zero_add]at hle
          have hcle:old.length*te.leaves.length≤cur.size:=Nat.le_trans (Nat.mul_le_mul_right _ hnc) hle
          have hcells:∀ (i:Nat) (r:List C) (j:Nat) (y:C),old[i]? =some r→r[j]? =some y→∃ u,cur[i*te.leaves.length+j]? =some u∧Rep w (okD c σ.heap β) u y:=by
           intro i r j y hi hj
           have hne:old≠[]:=fun e=>by subst e;simp at hi
           obtain⟨b',cur',E2,fr',hb',hw',_,hsize,hcells⟩:=hrows0.resolve_left hne
           obtain rfl:b'=b:=by rw[hb]at hb';exact (Option.some.inj hb').symm
           rw[hw]at hw'
           simp only[Option.some.injEq,Obj.cells.injEq]at hw'
           obtain⟨rfl,rfl,rfl⟩:=hw'
           exact hcells i r j y hi hj
          by_cases hroom:old.length+rows.length≤cc
          ·-- in place
           have hfit:old.length*te.leaves.length+news.length≤cur.size:=by
            rw[hN.1,←Nat.add_mul]
            exact Nat.le_trans (Nat.mul_le_mul_right _ hroom) hle
           have hrun:=run_append_room_src (P:=c.P) w t u o.type e i hu h1 b 0 old.length cc (a.eval x) rows.length news (by rw[h2];exact hS) hroom (fun j hj=>by
             rw[cell_of_row w b _ cur E' fr hw,h2]
             have:0+old.length*te.leaves.length+j<cur.size:=by omega
             simp[this];omega) (fun j hj=>by
             simp only[World.frozen?,hw,h2]
             have:=hth.lt (0+old.length*te.leaves.length+j) (by omega)
             simp only[Bool.and_eq_false_imp,decide_eq_true_eq,decide_eq_false_iff_not]
             omega)
           rw[h2,Nat.zero_add]at hrun
           obtain⟨cur',a1,a2,a3,a4,a5,a6,a7⟩:=aBl b news (old.length*te.leaves.length) w cur E' fr hw hfit
           have hsame:aAf (.arr te.leaves.length old) (.arr te.leaves.length old):=aAf.refl _
           have hlk:=aC6 σ.heap id (.arr te.leaves.length old) ⟨_,hl⟩
           have ex1:=aLn hh hl rfl rfl hsame hb hw a1 a2 a4 a5 hlk
           have hold':∀ (i:Nat) (r:List C) (j:Nat) (y:C),old[i]? =some r→r[j]? =some y→∃ u,cur'[i*te.leaves.length+j]? =some u∧Rep (w.setCells b (old.length*te.leaves.length) news) (okD c (upd σ.heap id (.arr te.leaves.length old)) β) u y:=by
            intro i r j y hi hj
            obtain⟨u,hu1,hu2⟩:=hcells i r j y hi hj
            refine⟨u,?_,ex1.rep hu2⟩
            have hil:=(List.getElem?_eq_some_iff.1 hi).1
            have hjl:=(List.getElem?_eq_some_iff.1 hj).1
            rw[hrl r (List.mem_of_getElem? hi)]at hjl
            have:(i+1)*te.leaves.length≤old.length*te.leaves.length:=Nat.mul_le_mul_right _ (by omega)
            rw[Nat.add_mul]at this
            rw[a3,if_neg (by omega)]
            exact hu1
           have hh2:=aGo (new:=.arr te.leaves.length old) hh hl rfl rfl hsame hb hw a1 a2 a4 a5 a6 a7 ⟨hrl,.inr ⟨b,cur',E',fr,rfl,a1,by rw[a2];exact hth,by rw[a2];exact hcle,hold'⟩⟩
           have hl2:(upd σ.heap id (.arr te.leaves.length old)).lookup id=some (.arr te.leaves.length old):=by rw[hlk,if_pos rfl]
           have ex2:=aWx (blk:=.arr te.leaves.length (old++rows)) hh2 hl2 rfl hb
           have hh3:=aRe (blk:=.arr te.leaves.length (old++rows)) hh2 hl2 rfl (hfree id _ b (by simp[Op.eats,hsx,W.ids,L.ids]) hl hb) hb ⟨fun r hr=>by
             rcases List.mem_append.1 hr with h | h
             ·exact hrl r h
             ·exact hall' r h,.inr ⟨b,cur',E',fr,rfl,a1,by rw[a2];exact hth,by rw[a2,List.length_append];exact Nat.le_trans (Nat.mul_le_mul_right _ hroom) hle,by
             refine aQm (olds:=(cur'.toList.take (old.length*te.leaves.length))) (news:=news) (by simp;omega) hrl (fun i r j y hi hj=>?_) (fun i r j y hi hj=>?_) (fun k u hk=>?_)
             ·obtain⟨u,hu1,hu2⟩:=hold' i r j y hi hj
              have hil:=(List.getElem?_eq_some_iff.1 hi).1
              have hjl:=(List.getElem?_eq_some_iff.1 hj).1
              rw[hrl r (List.mem_of_getElem? hi)]at hjl
              have:(i+1)*te.leaves.length≤old.length*te.leaves.length:=Nat.mul_le_mul_right _ (by omega)
              rw[Nat.add_mul]at this
              exact⟨u,by rw[List.getElem?_take_of_lt (by omega)];simpa using hu1,ex2.rep hu2⟩
             ·obtain⟨u,hu1,hu2⟩:=hN.2.2 i r j y hi hj
              exact⟨u,hu1,ex2.rep (ex1.rep hu2)⟩
             ·have hlen:(cur'.toList.take (old.length*te.leaves.length)).length=old.length*te.leaves.length:=by simp;omega
              by_cases hk1:k<old.length*te.leaves.length
              ·rw[List.getElem?_append_left (by omega),List.getElem?_take_of_lt hk1]at hk
               simpa using hk
              ·rw[List.getElem?_append_right (by omega),hlen]at hk
               have hk2:=(List.getElem?_eq_some_iff.1 hk).1
               rw[a3,if_pos (by omega)]
               exact hk⟩⟩
           rw[bMh]at ex2 hh3
           refine⟨.slice (some ⟨b,0,none⟩) (old.length+rows.length) cc,_,_,.inl (hexec _ _ (by rw[hval];exact hrun)),hh3,ex1.trans ex2,?_,rfl,rfl,fun i cs hi=>?_,fun i hi hni=>?_⟩
           ·refine⟨by show σ.next<σ.next+1;omega,rfl,fun blk sz rows' hl hr=>?_⟩
            change List.lookup σ.next ((σ.next,_)::del σ.heap id)=some blk at hl
            rw[aBw]at hl
            obtain rfl:=Option.some.inj hl
            simp only[Blk.rows?,Option.some.injEq,Prod.mk.injEq]at hr
            obtain⟨rfl,rfl⟩:=hr
            exact⟨by simp,.inr ⟨b,cc,cur',E',fr,by simp[aD8],by rw[Nat.zero_mul],hroom,a1,by rw[a2];exact hth,by rw[a2,Nat.zero_add];exact hle⟩⟩
           ·have hne:i≠id:=fun e=>by subst e;rw[hl]at hi;cases hi
            have hin:=(hh.blk i _ hi).1
            refine⟨cs,?_⟩
            show List.lookup i ((σ.next,_)::del σ.heap id)=_
            rw[aAt (by omega),aCe,if_neg hne]
            exact hi
           ·show List.lookup i ((σ.next,_)::del σ.heap id)=_
            rw[aAt (by omega),aCe,if_neg (by simpa using hni)]
          ·refine grow (base:=some ⟨b,0,none⟩) (cap:=cc) (olds:=cur.toList.take (old.length*te.leaves.length)) hval ?_ (by simp;omega) (fun i r j y hi hj=>?_) (by omega)
           ·refine run_firstCells_some w.drew _ _ _ _ _ _ (by simp;omega) (fun j u hj=>?_)
            have hjl:=(List.getElem?_eq_some_iff.1 hj).1
            simp at hjl
            rw[List.getElem?_take_of_lt (by omega)]at hj
            rw[add_lit,Nat.zero_add,cell_of_row w.drew b j cur E' fr hw]
            simpa using hj
           ·obtain⟨u,hu1,hu2⟩:=hcells i r j y hi hj
            have hil:=(List.getElem?_eq_some_iff.1 hi).1
            have hjl:=(List.getElem?_eq_some_iff.1 hj).1
            rw[hrl r (List.mem_of_getElem? hi)]at hjl
            have:(i+1)*te.leaves.length≤old.length*te.leaves.length:=Nat.mul_le_mul_right _ (by omega)
            rw[Nat.add_mul]at this
            exact⟨u,by rw[List.getElem?_take_of_lt (by omega)];simpa using hu1,hu2⟩
        ·exact (aA0 he).elim
       ·exact (aA0 he).elim
      ·exact (aA0 he).elim
     ·exact (aA0 he).elim
    ·exact (aA0 he).elim
   ·exact (aA0 he).elim
  ·exact (aA0 he).elim
 ·exact (aA0 he).elim
end
end
section
variable {c:Ctx} {w w1:World} {h:aCq} {nx:Nat} {β:aCr}
theorem bFk {id b:Nat} {ks ks':List Int} {es:Array MapEntry} {cl:Nat} (hl:h.lookup id=some (.mset ks))
  (hb:β id=some b) (hw:w.heap[b]? =some (.map es cl)) (ho:∀ d,d≠b→w1.heap[d]? =w.heap[d]?) (hsz:w1.heap.size=w.heap.size) :
  Ext c w h nx β w1 (upd h id (.mset ks')) nx β:=by
 have hlk:=aC6 h id (.mset ks') ⟨_,hl⟩
 refine⟨Nat.le_refl _,by omega,?_,?_,?_⟩
 ·intro d hd hlt
  have hne:d≠b:=fun e=>hd.2 id _ hl rfl (e▸hb)
  refine⟨⟨hd.1,fun i x hi hf=>?_⟩,ho d hne⟩
  rw[hlk i]at hi
  split at hi
  ·rename_i hid
   subst hid
   exact hd.2 i _ hl rfl
  ·exact hd.2 i x hi hf
 ·intro i x' hi hx
  rw[hlk i]at hx
  split at hx
  ·rename_i hid
   subst hid
   obtain rfl:=Option.some.inj hx
   exact⟨rfl,_,hl,trivial⟩
  ·exact⟨rfl,x',hx,aAf.refl _⟩
 ·intro i x d cur0 E0 fr0 hi hx hd hwd
  by_cases hdb:d=b
  ·subst hdb
   rw[hw]at hwd
   cases hwd
  ·exact⟨cur0,by rw[ho d hdb];exact hwd,rfl⟩
theorem bDk {id b:Nat} {ks ks':List Int} {es:Array MapEntry} {cl:Nat} (hh:aB7 c w h nx β) (hl:h.lookup id=some (.mset ks))
  (hb:β id=some b) (hw:w.heap[b]? =some (.map es cl)) (ho:∀ d,d≠b→w1.heap[d]? =w.heap[d]?) (hsz:w1.heap.size=w.heap.size)
  (hos:w1.os=w.os) (hout:w1.output=w.output) (hm:bEd w1 b ks'):aB7 c w1 (upd h id (.mset ks')) nx β:=by
 have hlk:=aC6 h id (.mset ks') ⟨_,hl⟩
 have ex:=bFk (c:=c) (nx:=nx) (ks':=ks') hl hb hw ho hsz
 have back:∀ i x,(upd h id (.mset ks')).lookup i=some x→∃ x0,h.lookup i=some x0∧x.isFro=x0.isFro:=by
  intro i x hi
  rw[hlk i]at hi
  split at hi
  ·rename_i hid
   subst hid
   obtain rfl:=Option.some.inj hi
   exact⟨_,hl,rfl⟩
  ·exact⟨x,hi,rfl⟩
 refine⟨?_,?_,?_,?_,?_,?_,?_,?_,fun g o hg=>?_⟩
 ·intro i x hi
  rw[hlk i]at hi
  split at hi
  ·rename_i hid
   subst hid
   obtain rfl:=Option.some.inj hi
   exact⟨(hh.blk i _ hl).1,by rw[hb];exact⟨b,rfl,hm⟩⟩
  ·rename_i hid
   obtain⟨h1,h2⟩:=hh.blk i x hi
   refine⟨h1,h2.ext ex fun d hd=>ho d fun e=>?_⟩
   subst e
   exact hid (hh.inj i id x _ d hi hl hd hb)
 ·intro i x d hi hd
  obtain⟨x0,h0,hbx⟩:=back i x hi
  rw[hbx]
  have:=hh.place i x0 d h0 hd
  exact⟨this.1,by omega⟩
 ·intro i j x y d hi hj hd hd'
  obtain⟨x0,h0,_⟩:=back i x hi
  obtain⟨y0,h1,_⟩:=back j y hj
  exact hh.inj i j x0 y0 d h0 h1 hd hd'
 ·have:=hh.size;omega
 ·intro d hd hpb
  have hne:d≠b:=fun e=>by
   subst e
   rcases (hh.place id _ d hl hb).1 with h1 | h1
   ·omega
   ·exact hpb h1.1
  rw[ho d hne]
  exact hh.frame d hd hpb
 ·rw[hos];exact hh.os
 ·rw[hout];exact hh.out
 ·intro d hd cur0 E0 fr0 hw0
  obtain⟨cur1,h1,h2⟩:=hh.pbs d hd cur0 E0 fr0 hw0
  by_cases hdb:d=b
  ·subst hdb
   rw[hw]at h1
   cases h1
  ·exact⟨cur1,by rw[ho d hdb];exact h1,h2⟩
 ·obtain⟨g1,g2⟩:=hh.gh g o hg
  refine⟨(ho g fun e=>g2 id _ hl (e▸hb)).trans g1,fun i x hi hbi=>?_⟩
  obtain⟨x0,h0,_⟩:=back i x hi
  exact g2 i x0 h0 hbi
theorem bA5 {P:Program} {E:Env} (hE:aDx P E) {t:TypeId} (h:bA6 E t=true):∃ kt et,P.underlying t=some (.map kt et)∧P.underlying kt=some (.int .i64)∧P.underlying et=some .bool∧∃ i,P.info? et=some i∧i.zero=some (.bool false):=by
 unfold bA6 at h
 split at h
 ·rename_i ti hti
  split at h
  ·rename_i kt et hlv hag
   split at h
   ·rename_i tk te htk hte
    simp only[Bool.and_eq_true,decide_eq_true_eq,Bool.not_eq_true']at h
    obtain⟨⟨⟨h1,h2⟩,h3⟩,h4⟩:=h
    obtain⟨d,hu,hd⟩:=aBu (hE.ty t ti hti) hag hlv
    obtain⟨d1,hu1,hd1⟩:=aBu (hE.ty kt tk htk) h2 h1
    obtain⟨d2,hu2,hd2⟩:=aBu (hE.ty et te hte) h4 h3
    simp only[aBy]at hd hd1 hd2
    subst hd;subst hd1;subst hd2
    exact⟨kt,et,hu,hu1,hu2,(hE.ty et te hte).zb h4 h3⟩
   ·cases h
  ·cases h
 ·cases h
theorem bHk {es:List MapEntry} {ks:List Int} (h:es.map (fun e=>(e.key,e.val))=ks.map fun n=>(Value.int .i64 n,Value.bool true)):∀ x∈es,MapKept.IsKey (.int .i64) x.key:=by
 intro x hx
 have:(x.key,x.val)∈es.map (fun e=>(e.key,e.val)):=List.mem_map.2 ⟨x,hx,rfl⟩
 rw[h]at this
 obtain⟨n,_,hn⟩:=List.mem_map.1 this
 simp only[Prod.mk.injEq]at hn
 rw[←hn.1]
 simp[MapKept.IsKey]
theorem bFc {es:List MapEntry} {ks:List Int} (h:es.map (fun e=>(e.key,e.val))=ks.map fun n=>(Value.int .i64 n,Value.bool true)) (n:Int) :
  (Instr.findNow (.int .i64) (.int .i64 n) es 0=some none∧n∉ks)∨∃ j e,Instr.findNow (.int .i64) (.int .i64 n) es 0=some (some (j,.bool true))∧es[j]? =some e∧e.key=.int .i64 n∧e.val=.bool true∧n∈ks:=by
 rcases MapKept.findNow_spec (d:=.int .i64) (k:=.int .i64 n) (by simp[MapKept.IsKey]) es 0 (bHk h)with⟨h1,h2⟩ | ⟨j,e,h1,h2,h3⟩
 ·refine .inl ⟨h1,fun hn=>?_⟩
  have:(Value.int .i64 n,Value.bool true)∈ks.map fun n=>(Value.int .i64 n,Value.bool true):=List.mem_map.2 ⟨n,hn,rfl⟩
  rw[←h]at this
  obtain⟨x,hx,he⟩:=List.mem_map.1 this
  simp only[Prod.mk.injEq]at he
  exact h2 x hx he.1
 ·have hm:(e.key,e.val)∈es.map (fun e=>(e.key,e.val)):=List.mem_map.2 ⟨e,List.mem_of_getElem? h2,rfl⟩
  rw[h]at hm
  obtain⟨m,hm,he⟩:=List.mem_map.1 hm
  simp only[Prod.mk.injEq]at he
  rw[h3]at he
  simp only[Value.int.injEq,true_and]at he
  rw[Nat.zero_add,←he.2]at h1
  exact .inr ⟨j,e,h1,h2,h3,he.2.symm,he.1▸hm⟩
section
variable {σ:St} {E:Env} {a:Act} {o:Oper} {r:R} (hE:aDx c.P E) (hh:aB7 c w σ.heap σ.next β) (hs:∀ x,aFs (okD c σ.heap β) w σ.heap σ.next β (a.eval x) (σ.ev x))
include hE hh hs
omit hE hs in
theorem bHe {t:TypeId} {x:Option Operand} (ho:o.op=.makeMap t x) (he:aBv E σ (.makeMap t x)=some r):aC9 c σ β w (execOp a.eval o) r:=by
 cases x with
 |some x=>exact (aA0 he).elim
 |none =>
  simp only[aBv,vop]at he
  split at he
  ·obtain rfl:=aAh he
   refine aFm (w':=w.alloc (.map #[] 0)) (v:=.map (some w.heap.size)) (ob:=some w.heap.size) hh ?_ (by show _≤(w.heap.push _).size;simp) (fun b hb=>aC2 w _ b hb) rfl rfl
    (fun b hb=>by obtain rfl:=Option.some.inj hb;refine⟨Nat.le_refl _,?_⟩;show _<(w.heap.push _).size;simp)
    (fun e=>⟨w.heap.size,rfl,#[],0,(MapKept.heap_alloc w _).1,rfl⟩) ⟨by omega,rfl,fun ks hl=>⟨w.heap.size,by simp[aD8],rfl⟩⟩
   simp only[execOp,ho]
   rw[Option.map_none,Sem.run_bind,RowKit.run_makeMap]
   rfl
  ·exact (aA0 he).elim
theorem aZe {t:TypeId} {m x y:Operand} (ho:o.op=.mapUpdate t m x y) (he:aBv E σ (.mapUpdate t m x y)=some r):aC9 c σ β w (execOp a.eval o) r:=by
 simp only[aBv,vop]at he
 have hm:=hs m
 have hx:=hs x
 have hy:=hs y
 split at he
 ·rename_i id n hm' hx' hy'
  rw[hm']at hm
  rw[hx']at hx
  rw[hy']at hy
  obtain hx:a.eval x=.int .i64 n:=hx
  obtain hy:a.eval y=.bool true:=hy
  split at he
  ·rename_i ks hl
   split at he
   ·rename_i him
    obtain rfl:=aAh he
    obtain⟨kt,et,hu,hk,_⟩:=bA5 hE him
    obtain⟨b,hb,hmv⟩:=hm.2.2 ks hl
    obtain⟨b',hb',es,cl,hw,hes⟩:=(hh.blk id _ hl).2
    obtain rfl:b'=b:=by rw[hb]at hb';exact (Option.some.inj hb').symm
    have hlk:=aC6 σ.heap id (.mset (bFb ks n)) ⟨_,hl⟩
    have main:∀ (es':Array MapEntry) (cl':Nat),(Instr.mapUpdate t (a.eval m) (a.eval x) (a.eval y)).run c.P w=.ok () {w with heap:=w.heap.setIfInBounds b' (.map es' cl')}→es'.toList.map (fun e=>(e.key,e.val))=(bFb ks n).map (fun n=>(Value.int .i64 n,Value.bool true)) →
      aC9 c σ β w (execOp a.eval o) {val:=.l .und,st:={σ with heap:=upd σ.heap id (.mset (bFb ks n))},eff:=true,touched:=[id]}:=by
     intro es' cl' hrun hes'
     obtain⟨a1,a2⟩:=MapKept.heap_set (o':=.map es' cl') hw
     have hs1:(w.heap.setIfInBounds b' (.map es' cl')).size=w.heap.size:=by simp
     refine⟨undef,{w with heap:=w.heap.setIfInBounds b' (.map es' cl')},β,.inr ⟨?_,rfl⟩,bDk hh hl hb hw (fun d hd=>a2 d hd) hs1 rfl rfl ⟨es',cl',a1,hes'⟩,bFk hl hb hw (fun d hd=>a2 d hd) hs1,rfl,rfl,rfl,fun id' cells' hl'=>?_,fun id' hid' ht=>?_⟩
     ·simp only[execOp,ho]
      rw[Sem.run_bind,hrun]
      rfl
     ·simp only[hlk]
      split
      ·rename_i he;subst he;rw[hl]at hl';cases hl'
      ·exact⟨_,hl'⟩
     ·simp only[hlk]
      rw[if_neg (by simpa using ht)]
    have hkey:MapKept.IsKey (.int .i64) (.int .i64 n):=by simp[MapKept.IsKey]
    rcases bFc hes n with⟨h1,h2⟩ | ⟨j,e,h1,h2,h3,h4,h5⟩
    ·refine main (es.push {key:=.int .i64 n,val:=.bool true,born:=cl}) (cl+1) ?_ ?_
     ·rw[hmv,hx,hy]
      simp[Instr.mapUpdate,run_underlying hu,MapKept.run_getObj_map hw,MapKept.run_checkKey hk hkey,MapKept.run_findKey hk h1,MapKept.run_setObj_map _ hw,Result.andThen]
     ·have:ks.contains n=false:=by simpa using h2
      rw[bFb,this]
      simp only[Array.toList_push,List.map_append,hes,Bool.false_eq_true,if_false]
      rfl
    ·refine main (es.modify j fun e=>{e with key:=.int .i64 n,val:=.bool true}) cl ?_ ?_
     ·have h2':es[j]? =some e:=by simpa using h2
      rw[hmv,hx,hy]
      simp[Instr.mapUpdate,run_underlying hu,MapKept.run_getObj_map hw,MapKept.run_checkKey hk hkey,MapKept.run_findKey hk h1,h2',h3,Instr.keyThatStays,Instr.sameBits,MapKept.run_setObj_map _ hw,Result.andThen]
     ·have:ks.contains n=true:=by simpa using h5
      rw[bFb,this,if_pos rfl,←hes]
      apply List.ext_getElem?
      intro i
      rw[List.getElem?_map,List.getElem?_map,Array.getElem?_toList,Array.getElem?_modify]
      by_cases hij:j=i
      ·subst hij
       have h2':es[j]? =some e:=by simpa using h2
       rw[if_pos rfl,h2',h2]
       simp[h3,h4]
      ·rw[if_neg hij]
       simp
   ·exact (aA0 he).elim
  ·exact (aA0 he).elim
 ·exact (aA0 he).elim
theorem bKp {t:TypeId} {m x:Operand} {q:Bool} (ho:o.op=.lookup t m x q) (he:aBv E σ (.lookup t m x q)=some r):aC9 c σ β w (execOp a.eval o) r:=by
 cases q with
 |true=>exact (aA0 he).elim
 |false =>
  simp only[aBv,vop]at he
  have hm:=hs m
  have hx:=hs x
  split at he
  ·rename_i ks n hm' hx'
   rw[hm']at hm
   rw[hx']at hx
   obtain hx:a.eval x=.int .i64 n:=hx
   split at he
   ·rename_i him
    obtain rfl:=aAh he
    obtain⟨kt,et,hu,hk,_,i,hi,hz⟩:=bA5 hE him
    have hm:Rep w (okD c σ.heap β) (a.eval m) (.mp ks):=hm
    obtain⟨b,hmv,es,cl,hw,hes⟩:∃ b,a.eval m=.map (some b)∧bEd w b ks:=by
     generalize a.eval m=v at hm
     cases hm with
     |mp b ks h1 h2 h3=>exact⟨b,rfl,h3⟩
    have hkey:MapKept.IsKey (.int .i64) (.int .i64 n):=by simp[MapKept.IsKey]
    have hzr:(zeroValue et).run c.P w=.ok (.bool false) w:=by simp[zeroValue,typeInfo,hi,hz]
    refine aAj hh (v:=.bool (ks.contains n)) ?_ rfl
    simp only[execOp,ho]
    rw[hmv,hx,Sem.run_bind]
    rcases bFc hes n with⟨h1,h2⟩ | ⟨j,e,h1,h2,h3,h4,h5⟩
    ·have:ks.contains n=false:=by simpa using h2
     simp[h2,Instr.lookup,run_underlying hu,MapKept.run_getObj_map hw,MapKept.run_checkKey hk hkey,MapKept.run_findKey hk h1,hzr,Result.andThen]
    ·have:ks.contains n=true:=by simpa using h5
     simp[h5,Instr.lookup,run_underlying hu,MapKept.run_getObj_map hw,MapKept.run_checkKey hk hkey,MapKept.run_findKey hk h1,Result.andThen]
   ·exact (aA0 he).elim
  ·exact (aA0 he).elim
end
end
end Go.Proofs.YtigodjkegcibhaaGreatDoor.V
