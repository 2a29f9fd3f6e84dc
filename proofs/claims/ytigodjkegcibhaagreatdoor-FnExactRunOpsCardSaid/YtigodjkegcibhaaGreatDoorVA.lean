/- The value-level interpreter over the model, part A: definitions, or lemmas that show that it is the model's. -/
import Derived.Calls
import Derived.RowKit
import Derived.Orders
import Derived.Laws.AppendOwn
import Derived.Laws.MakeOwn
import Derived.Laws.IdiomCopy
import Derived.Lib.FrozenHead
set_option linter.unusedVariables false
set_option linter.unusedSimpArgs false
set_option linter.unusedSectionVars false
set_option linter.unnecessarySimpa false
namespace Go.Proofs.YtigodjkegcibhaaGreatDoor.V
inductive Er where
 |nil
 |int (t:TypeId) (k:IntKind) (n:Int)
 |any
 deriving DecidableEq
def Er.isNil:Er→Bool | .nil=>true | _=>false
inductive C where
 |int (k:IntKind) (n:Int)
 |bool (t:Bool)
 |str (s:List UInt8)
 |sl (rows:List (List C))
 |fn (f:FuncId) (caps:List C)
 |pt (row:List C)
 |err (x:Er)
 |mp (ks:List Int)
instance:Inhabited C:=⟨.bool false⟩
def C.toInt:C→Int | .int _ n=>n | _=>0
def C.toBool:C→Bool | .bool t=>t | _=>false
def C.toStr:C→List UInt8 | .str s=>s | _=>[]
def C.toErr:C→Er | .err x=>x | _=>.nil
def C.toRows:C→List (List C) | .sl rows=>rows | _=>[]
def C.toKs:C→List Int | .mp ks=>ks | _=>[]
inductive K where
 |int (k:IntKind) | bool | str | slice (e:TypeId) | ptr | func | other
 |back (e:TypeId) (j:Nat)
 |err
 |map (kt et:TypeId)
 deriving DecidableEq
def C.is:K→C→Bool
 |.int k,.int k' _=>k==k'
 |.bool,.bool _=>true
 |.str,.str _=>true
 |.slice _,.sl _=>true
 |.func,.fn _ _=>true
 |.ptr,.pt _=>true
 |.err,.err _=>true
 |.map _ _,.mp _=>true
 |_,_=>false
inductive L where
 |i (k:IntKind) (n:Int)
 |b (t:Bool)
 |s (l:List UInt8)
 |sl (rows:List (List C))
 |sn (isNil:Bool) (rows:List (List C))
 |nil
 |ref (id off n:Nat)
 |ptr (id off:Nat)
 |eptr (id row off:Nat)
 |rp (row:List C) (off:Nat)
 |fn (f:FuncId) (caps:List C)
 |clo (f:FuncId) (caps:List (Sum Nat C))
 |e (x:Er)
 |m (ks:List Int)
 |mref (id:Nat)
 |und
 |none'
inductive W where
 |l (x:L)
 |agg (xs:List L)
 |tup (xs:List (Bool×List L))
 |bz (t:TypeId)
inductive Blk where
 |box (cells:List L)
 |arr (sz:Nat) (rows:List (List C))
 |fro (sz:Nat) (rows:List (List C))
 |bld (t e:TypeId) (row:Option Nat)
 |own (e:TypeId) (bs:List UInt8)
 |mset (ks:List Int)
def Blk.rows? :Blk→Option (Nat×List (List C))
 |.arr sz rows | .fro sz rows=>some (sz,rows)
 |_=>none
def Blk.dat? :Blk→Option (Nat×List (List C))
 |.arr sz rows | .fro sz rows=>some (sz,rows)
 |.mset _=>some (0,[])
 |_=>none
structure St where
 slots:List (Nat×W)
 heap:List (Nat×Blk)
 next:Nat
 pins:List Nat
def St.get (σ:St) (t:Nat):W:=(σ.slots.lookup t).getD (.l .none')
def St.put (σ:St) (d:Option Nat) (x:W):St:=match d with | some d=>{σ with slots:=(d,x)::σ.slots} | none=>σ
def del (h:List (Nat×Blk)) (id:Nat):List (Nat×Blk):=h.filter fun p=> !(p.1==id)
def upd (h:List (Nat×Blk)) (id:Nat) (b:Blk):List (Nat×Blk):=h.map fun p=>if p.1==id then (id,b)else p
def St.new (σ:St) (b:Blk):St:={σ with heap:=(σ.next,b)::σ.heap,next:=σ.next+1}
inductive T (α:Type) where
 |ret (a:α)
 |bad
 |ask (t:Bool) (y n:T α)
 |must (t:Bool) (n:T α)
def T.eval {α:Type}:T α→Option α
 |.ret a=>some a
 |.bad=>none
 |.ask true y _=>y.eval
 |.ask false _ n=>n.eval
 |.must true n=>n.eval
 |.must false _=>none
structure TI where
 agg:Bool
 leaves:List K
 fields:List (Nat×TypeId)
 bytes:Nat
 eq:Bool
inductive PTy where
 |val (agg:Bool) (ls:List K)
 |box (ls:List K)
 |wr (agg:Bool) (ls:List (K×Bool))
structure RTy where
 agg:Bool
 ls:List (K×Bool)
structure Sig where
 params:List PTy
 results:List RTy
 nested:Bool
abbrev Spec:=List C→Option (Bool×List C)
structure Env where
 Ty:TypeId→Option TI
 Γ:FuncId→Option (Sig×Spec)
 inl:FuncId→Option Func
 lv:Nat→List Nat
 ren:Bool
 fuel:Nat
 nt:Nat
 Arr:TypeId→Option (Nat×TypeId):=fun _=>none
 gl:Nat→Option (List C):=fun _=>none
 bt:TypeId→Option TypeId:=fun _=>none
def bTo (l:List (TypeId×TI)):TypeId→Option TI:=fun t=>l.lookup t
section
variable {α:Type}
def cst:Value→W
 |.int k n=>.l (.i k n)
 |.bool t=>.l (.b t)
 |.string s=>.l (.s s.data.toList)
 |.slice none 0 0=>.l .nil
 |.nilIface=>.l (.e .nil)
 |_=>.l .none'
def St.ev (σ:St):Operand→W
 |.tmp t=>σ.get t
 |.const v=>cst v
 |.func f=>.l (.fn f [])
 |.global _=>.l .none'
def aG8 (row:List C) (off:Nat) (kd:K):Bool×L :=
 let x:=row.getD off (.fn 0 [])
 match kd with
 |.int k=>(decide (off<row.length)&&x.is kd,.i k x.toInt)
 |.bool=>(decide (off<row.length)&&x.is kd,.b x.toBool)
 |.str=>(decide (off<row.length)&&x.is kd,.s x.toStr)
 |.slice _=>(decide (off<row.length)&&x.is kd,.sl x.toRows)
 |.err=>(decide (off<row.length)&&x.is kd,.e x.toErr)
 |.map _ _=>(decide (off<row.length)&&x.is kd,.m x.toKs)
 |.func=>match x with | .fn f caps=>(decide (off<row.length),.fn f caps) | _=>(false,.none')
 |.ptr=>match x with | .pt r=>(decide (off<row.length),.rp r 0) | _=>(false,.none')
 |_=>(false,.none')
def aBt (row:List C) (off:Nat):List K→Bool×List L
 |[]=>(true,[])
 |kd::r=>let p:=aG8 row off kd;let q:=aBt row (off+1) r;(p.1&&q.1,p.2::q.2)
def wOf (agg:Bool) (xs:List L):W :=
 match agg,xs with
 |true,xs=>.agg xs
 |false,[x]=>.l x
 |false,_=>.l .none'
def L.storable:L→Bool | .und | .none'=>false | _=>true
def aXv:W→Option (List L)
 |.l x=>if x.storable then some [x]else none
 |.agg xs=>if xs.all L.storable then some xs else none
 |.tup _=>none
 |.bz _=>none
def bIz:K→L
 |.int k=>.i k 0
 |.bool=>.b false
 |.str=>.s []
 |.slice _=>.nil
 |.err=>.e .nil
 |_=>.none'
def K.plain:K→Bool
 |.int _ | .bool | .str | .slice _ | .err=>true
 |_=>false
def aOk:K→C
 |.int k=>.int k 0
 |.bool=>.bool false
 |.str=>.str []
 |.slice _=>.sl []
 |.err=>.err .nil
 |_=>.fn 0 []
def L.data (h:List (Nat×Blk)):L→Option C
 |.i k n=>some (.int k n)
 |.b t=>some (.bool t)
 |.s l=>some (.str l)
 |.sl rows=>some (.sl rows)
 |.sn _ rows=>some (.sl rows)
 |.nil=>some (.sl [])
 |.ref id off n=>match h.lookup id with
  |some (.arr _ rows) | some (.fro _ rows)=>some (.sl ((rows.drop off).take n))
  |_=>none
 |.fn f caps=>some (.fn f caps)
 |.e x=>some (.err x)
 |.m ks=>some (.mp ks)
 |.mref id=>match h.lookup id with
  |some (.mset ks)=>some (.mp ks)
  |_=>none
 |_=>none
def aL7:List (Sum Nat C)→List Nat
 |[]=>[]
 |.inl id::r=>id::aL7 r
 |.inr _::r=>aL7 r
def L.ids:L→List Nat
 |.ref id _ _ | .ptr id _ | .eptr id _ _ | .mref id=>[id]
 |.clo _ caps=>aL7 caps
 |_=>[]
def aLr (h:List (Nat×Blk)) (xs:List L):Option (List C):=xs.mapM (L.data h)
def W.ids:W→List Nat
 |.l x=>x.ids
 |.agg xs=>xs.flatMap L.ids
 |.tup xs=>xs.flatMap fun p=>p.2.flatMap L.ids
 |.bz _=>[]
def bVd (h:List (Nat×Blk)) (id:Nat):Option C:=match h.lookup id with
 |some (.box cells)=>(aLr h cells).map .pt
 |_=>none
def bVb (h:List (Nat×Blk)):Sum Nat C→Option C
 |.inl id=>bVd h id
 |.inr c=>some c
def L.arg (h:List (Nat×Blk)):L→Option C
 |.ptr id 0=>bVd h id
 |.rp row off=>some (.pt (row.drop off))
 |.clo f caps=>(caps.mapM (bVb h)).map (.fn f)
 |x=>x.data h
def freeze (h:List (Nat×Blk)) (ids:List Nat):List (Nat×Blk) :=
 h.map fun p=>if ids.contains p.1 then (match p.2 with | .arr sz rows=>(p.1,.fro sz rows) | _=>p)else p
structure R where
 val:W
 st:St
 eff:Bool:=false
 touched:List Nat:=[]
abbrev bWi (α:Type):=R→T α
def aBe (σ:St) (x:W):R:={val:=x,st:=σ}
abbrev bWb (ki:IntKind) (a c:Int):Int:=ki.wrap (a*2^(min c.toNat ki.bits))
abbrev bWa (ki:IntKind) (a c:Int):Int:=a.fdiv (2^(min c.toNat ki.bits))
abbrev bWe (ki:IntKind) (a c:Int):Int:=ki.wrap ((BitVec.ofInt ki.bits a&&&BitVec.ofInt ki.bits c).toNat)
abbrev ior (ki:IntKind) (a c:Int):Int:=ki.wrap ((BitVec.ofInt ki.bits a|||BitVec.ofInt ki.bits c).toNat)
abbrev bW9 (ki:IntKind) (a c:Int):Int:=ki.wrap ((BitVec.ofInt ki.bits a ^^^ BitVec.ofInt ki.bits c).toNat)
def bJc (op:BinOp) (x y:W) (k:W→T α):T α :=
 match op,x,y with
 |.shl,.l (.i ki a),.l (.i _ c)=>.must (decide (0≤c)) (k (.l (.i ki (bWb ki a c))))
 |.shr,.l (.i ki a),.l (.i _ c)=>.must (decide (0≤c)) (k (.l (.i ki (bWa ki a c))))
 |.add,.l (.i ki a),.l (.i kj c)=>if ki=kj then k (.l (.i ki (ki.wrap (a+c))))else .bad
 |.sub,.l (.i ki a),.l (.i kj c)=>if ki=kj then k (.l (.i ki (ki.wrap (a-c))))else .bad
 |.mul,.l (.i ki a),.l (.i kj c)=>if ki=kj then k (.l (.i ki (ki.wrap (a*c))))else .bad
 |.quo,.l (.i ki a),.l (.i kj c)=>if ki=kj then .must (decide (c≠0)) (k (.l (.i ki (ki.wrap (a.tdiv c)))))else .bad
 |.rem,.l (.i ki a),.l (.i kj c)=>if ki=kj then .must (decide (c≠0)) (k (.l (.i ki (a.tmod c))))else .bad
 |.and,.l (.i ki a),.l (.i kj c)=>if ki=kj then k (.l (.i ki (bWe ki a c)))else .bad
 |.or,.l (.i ki a),.l (.i kj c)=>if ki=kj then k (.l (.i ki (ior ki a c)))else .bad
 |.xor,.l (.i ki a),.l (.i kj c)=>if ki=kj then k (.l (.i ki (bW9 ki a c)))else .bad
 |.eql,.l (.i ki a),.l (.i kj c)=>if ki=kj then k (.l (.b (a==c)))else .bad
 |.neq,.l (.i ki a),.l (.i kj c)=>if ki=kj then k (.l (.b (a != c)))else .bad
 |.lss,.l (.i ki a),.l (.i kj c)=>if ki=kj then k (.l (.b (decide (a<c))))else .bad
 |.leq,.l (.i ki a),.l (.i kj c)=>if ki=kj then k (.l (.b (decide (a≤c))))else .bad
 |.gtr,.l (.i ki a),.l (.i kj c)=>if ki=kj then k (.l (.b (decide (a>c))))else .bad
 |.geq,.l (.i ki a),.l (.i kj c)=>if ki=kj then k (.l (.b (decide (a≥c))))else .bad
 |.add,.l (.s a),.l (.s c)=>.must (decide (a.length+c.length≤9223372036854775807)) (k (.l (.s (a++c))))
 |.eql,.l (.s a),.l (.s c)=>k (.l (.b (a==c)))
 |.neq,.l (.s a),.l (.s c)=>k (.l (.b (!(a==c))))
 |.lss,.l (.s a),.l (.s c)=>k (.l (.b (Op.bytesLess a c)))
 |.leq,.l (.s a),.l (.s c)=>k (.l (.b (Op.bytesLess a c||a==c)))
 |.gtr,.l (.s a),.l (.s c)=>k (.l (.b (!(Op.bytesLess a c||a==c))))
 |.geq,.l (.s a),.l (.s c)=>k (.l (.b (!Op.bytesLess a c)))
 |_,_,_=>.bad
def bL4:K→L→L→Option Bool
 |.int k,.i k1 a,.i k2 c=>if k1=k∧k2=k then some (a==c)else none
 |.bool,.b a,.b c=>some (a==c)
 |.str,.s a,.s c=>some (a==c)
 |_,_,_=>none
def aFh:List K→List L→List L→Option Bool
 |[],[],[]=>some true
 |kd::ks,x::xs,y::ys=>match bL4 kd x y,aFh ks xs ys with
  |some a,some c=>some (a&&c)
  |_,_=>none
 |_,_,_=>none
def vun (op:UnOp) (x:W):W :=
 match op,x with
 |.neg,.l (.i k n)=>.l (.i k (k.wrap (0-n)))
 |.xor,.l (.i k n)=>.l (.i k (k.wrap ((BitVec.ofInt k.bits (if k.signed then -1 else k.max) ^^^ BitVec.ofInt k.bits n).toNat)))
 |.not,.l (.b t)=>.l (.b (!t))
 |_,_=>.l .none'
def bEa (lo hi:Int) (x:Int):Bool:=decide (lo≤x)&&decide (x≤hi)
def aEu (rows:List (List C)):List UInt8:=rows.map fun r=>UInt8.ofNat (r.getD 0 (.bool false)).toInt.toNat
def aXa (r:List C):Bool:=r.length==1&&(r.getD 0 (.bool false)).is (.int .u8)
def aDs (l:List UInt8):List (List C):=l.map fun b=>[C.int .u8 b.toNat]
def aM5 (h:List (Nat×Blk)):W→Option (List (List C))
 |.l .nil=>some []
 |.l (.sl rows)=>some rows
 |.l (.sn _ rows)=>some rows
 |.l (.ref id off n)=>match h.lookup id with
  |some (.arr _ rows) | some (.fro _ rows)=>some ((rows.drop off).take n)
  |_=>none
 |_=>none
def aFr (lo hi:Option W) (len:Nat) (k:Nat→Nat→T α):T α :=
 match lo,hi with
 |none,none=>k 0 len
 |some (.l (.i _ a)),none=>.must (bEa 0 len a) (k a.toNat len)
 |none,some (.l (.i _ c))=>.must (bEa 0 len c) (k 0 c.toNat)
 |some (.l (.i _ a)),some (.l (.i _ c))=>.must (bEa 0 len c&&bEa 0 c a) (k a.toNat c.toNat)
 |_,_=>.bad
def aZj (h:List (Nat×Blk)) (i:Nat):Bool:=match h.lookup i with | some (.mset _)=>false | _=>true
def bUh (x y:Int):Int:=if y>x then y else x
def aXw (x y:Int):Int:=if y<x then y else x
def bJa (f:Int→Int→Int):List W→Option (IntKind×Int)
 |[]=>none
 |.l (.i k n)::r=>r.foldl (fun acc y=>match acc,y with
  |some (k,n),.l (.i k' m)=>if k=k' then some (k,f n m)else none
  |_,_=>none) (some (k,n))
 |_=>none
def aSh (E:Env) (σ:St) (fields:List (Nat×TypeId)) (cells:List L):List (Nat×Operand)→Option (List L)
 |[]=>some cells
 |(i,x)::r=>match fields[i]?,aXv (σ.ev x)with
  |some (o,ft),some xs=>match E.Ty ft with
   |some tf=>if xs.length=tf.leaves.length∧o+xs.length≤cells.length then aSh E σ fields (cells.take o++xs++cells.drop (o+xs.length)) r else none
   |none=>none
  |_,_=>none
def aC0 (n bytes:Nat):Bool:=decide ((n+n / 4+192)*bytes≤281474976710656)
def bB3 (σ:St) (x:Operand):Option (Sum Nat C):=match σ.ev x with
 |.l (.ptr id 0)=>match σ.heap.lookup id with | some (.box _)=>some (.inl id) | _=>none
 |.l x=>(match x.ids with | []=>(x.data σ.heap).map .inr | _=>none)
 |_=>none
def aMn:List (Sum Nat C)→Option (List C)
 |[]=>some []
 |.inr c::r=>(aMn r).map (c:: ·)
 |.inl _::_=>none
def bW0 (f:FuncId) (caps:List (Sum Nat C)):L:=match aMn caps with
 |some cs=>.fn f cs
 |none=>.clo f caps
def aRz (E:Env) (h:List (Nat×Blk)) (te:TI) (x:Operand):W→Option (Nat→L)
 |.l (.eptr id 0 0)=>match h.lookup id with
  |some (.arr sz _)=>if te.leaves.length=sz then some fun j=>.eptr id j 0 else none
  |_=>none
 |.l (.rp row off)=>some fun j=>.rp row (off+j*te.leaves.length)
 |_=>match x with
  |.global g=>(E.gl g).map fun row j=>.rp row (j*te.leaves.length)
  |_=>none
def aRy (h:List (Nat×Blk)) (te:TI):W→Option (Nat×Nat)
 |.l (.eptr id 0 0)=>match h.lookup id with
  |some (.arr sz rows)=>if te.leaves.length=sz then some (id,rows.length)else none
  |_=>none
 |_=>none
def bPi (E:Env):Er→Er→Option Bool
 |.nil,.nil=>none
 |.nil,_=>some false
 |_,.nil=>some false
 |.int t k n,.int t' k' n'=>if t=t' then (match E.Ty t with | some ti=>if ti.leaves=[.int k]∧ti.agg=false∧k=k' then some (n==n')else none | none=>none)else some false
 |_,_=>none
def aW6:Operand→Bool | .const _=>true | _=>false
def bFb (ks:List Int) (n:Int):List Int:=if ks.contains n then ks else ks++[n]
def bA6 (E:Env) (t:TypeId):Bool:=match E.Ty t with
 |some ti=>(match ti.leaves,ti.agg with
  |[.map kt et],false=>(match E.Ty kt,E.Ty et with
   |some tk,some te=>decide (tk.leaves=[.int .i64])&& !tk.agg&&decide (te.leaves=[.bool])&& !te.agg
   |_,_=>false)
  |_,_=>false)
 |none=>false
def vop (E : Env) (σ : St) (op : Op) (k : bWi α) : T α :=
  match op with
  | .move x | .assign x => k (aBe σ (σ.ev x))
  | .pick c a b => match σ.ev c with
    | .l (.b true) => k (aBe σ (σ.ev a))
    | .l (.b false) => k (aBe σ (σ.ev b))
    | _ => .bad
  | .binOp op t x y _ => match σ.ev x, σ.ev y, op with
    | .agg xs, .agg ys, .eql => match E.Ty t with
      | some ti => (match ti.eq, aFh ti.leaves xs ys with
        | true, some b => k (aBe σ (.l (.b b)))
        | _, _ => .bad)
      | _ => .bad
    | .agg xs, .agg ys, .neq => match E.Ty t with
      | some ti => (match ti.eq, aFh ti.leaves xs ys with
        | true, some b => k (aBe σ (.l (.b (!b))))
        | _, _ => .bad)
      | _ => .bad
    | .l (.b a), .l (.b c), .eql => match E.Ty t with | some ti => if ti.leaves = [.bool] ∧ ti.agg = false then k (aBe σ (.l (.b (a == c)))) else .bad | _ => .bad
    | .l (.b a), .l (.b c), .neq => match E.Ty t with | some ti => if ti.leaves = [.bool] ∧ ti.agg = false then k (aBe σ (.l (.b (!(a == c))))) else .bad | _ => .bad
    | .l (.sn b _), .l .nil, .eql => match E.Ty t with | some ti => (match ti.leaves, ti.agg with | [.slice _], false => k (aBe σ (.l (.b b))) | _, _ => .bad) | _ => .bad
    | .l (.sn b _), .l .nil, .neq => match E.Ty t with | some ti => (match ti.leaves, ti.agg with | [.slice _], false => k (aBe σ (.l (.b (!b)))) | _, _ => .bad) | _ => .bad
    | .l (.e a), .l (.e .nil), .eql => match E.Ty t with | some ti => (if ti.leaves = [.err] ∧ ti.agg = false ∧ aW6 y = true then k (aBe σ (.l (.b a.isNil))) else .bad) | _ => .bad
    | .l (.e a), .l (.e .nil), .neq => match E.Ty t with | some ti => (if ti.leaves = [.err] ∧ ti.agg = false ∧ aW6 y = true then k (aBe σ (.l (.b (!a.isNil)))) else .bad) | _ => .bad
    | .l (.e a), .l (.e b), .eql => match E.Ty t, bPi E a b with | some ti, some r => (if ti.leaves = [.err] ∧ ti.agg = false then k (aBe σ (.l (.b (r)))) else .bad) | _, _ => .bad
    | .l (.e a), .l (.e b), .neq => match E.Ty t, bPi E a b with | some ti, some r => (if ti.leaves = [.err] ∧ ti.agg = false then k (aBe σ (.l (.b (!r)))) else .bad) | _, _ => .bad
    | x, y, op => bJc op x y fun v => k (aBe σ v)
  | .unOp op _ x => match vun op (σ.ev x) with
    | .l .none' => .bad
    | v => k (aBe σ v)
  | .makeInterface t x => match E.Ty t, σ.ev x with
    | some ti, .l (.i ki n) => if ti.leaves = [.int ki] ∧ ti.agg = false then k (aBe σ (.l (.e (.int t ki n)))) else .bad
    | some ti, .l (.ptr _ _) => if ti.leaves = [.ptr] ∧ ti.agg = false then k (aBe σ (.l (.e .any))) else .bad
    | _, _ => .bad
  | .convert src dst x => match E.Ty src, E.Ty dst with
    | some ts, some td => match ts.leaves, ts.agg, td.leaves, td.agg with
      | [.int _], false, [.int kd], false => match σ.ev x with
        | .l (.i _ n) => k (aBe σ (.l (.i kd (kd.wrap n))))
        | _ => .bad
      | [.str], false, [.str], false => match σ.ev x with
        | .l (.s l) => k (aBe σ (.l (.s l)))
        | _ => .bad
      | [.str], false, [.slice e], false => match σ.ev x, E.Ty e with
        | .l (.s l), some te => match te.leaves, te.agg with
          | [.int .u8], false => k { val := .l (.ref σ.next 0 l.length), st := σ.new (.arr 1 (aDs l)), eff := true }
          | _, _ => .bad
        | _, _ => .bad
      | [.slice e], false, [.str], false => match aM5 σ.heap (σ.ev x), E.Ty e with
        | some rows, some te => match te.leaves, te.agg with
          | [.int .u8], false => .must (rows.all aXa) (k (aBe σ (.l (.s (aEu rows)))))
          | _, _ => .bad
        | _, _ => .bad
      | _, _, _, _ => .bad
    | _, _ => .bad
  | .load t a => match E.Ty t, σ.ev a with
    | some ti, .l (.ptr id off) => match σ.heap.lookup id with
      | some (.box cells) => if off + ti.leaves.length ≤ cells.length then k (aBe σ (wOf ti.agg ((cells.drop off).take ti.leaves.length))) else .bad
      | _ => .bad
    | some ti, .l (.eptr id r off) => match σ.heap.lookup id with
      | some (.arr sz rows) => let p := aBt (rows.getD r []) off ti.leaves; .must (decide (r < rows.length) && p.1) (k (aBe σ (wOf ti.agg p.2)))
      | _ => .bad
    | some ti, .l (.rp row off) => let p := aBt row off ti.leaves; .must p.1 (k (aBe σ (wOf ti.agg p.2)))
    | some ti, .l .none' => (match a with
      | .global g => (match E.gl g with
        | some row => let p := aBt row 0 ti.leaves; .must p.1 (k (aBe σ (wOf ti.agg p.2)))
        | none => .bad)
      | _ => .bad)
    | _, _ => .bad
  | .store t a x => match E.Ty t, σ.ev a, aXv (σ.ev x) with
    | some ti, .l (.ptr id off), some xs => match σ.heap.lookup id with
      | some (.box cells) => if xs.length = ti.leaves.length ∧ off + xs.length ≤ cells.length then
          k { val := .l .und, st := { σ with heap := upd σ.heap id (.box (cells.take off ++ xs ++ cells.drop (off + xs.length))) }, eff := true, touched := [id] } else .bad
      | _ => .bad
    | some ti, .l (.eptr id r off), some xs => match σ.heap.lookup id, aLr σ.heap xs, xs.flatMap L.ids with
      | some (.arr sz rows), some cs, [] => if xs.length = ti.leaves.length ∧ off + xs.length ≤ sz then
          .must (decide (r < rows.length)) (k { val := .l .und, st := { σ with heap := upd σ.heap id (.arr sz (rows.set r ((rows.getD r []).take off ++ cs ++ (rows.getD r []).drop (off + cs.length)))) }, eff := true, touched := [id] }) else .bad
      | _, _, _ => .bad
    | none, .l (.ptr id 0), none => match σ.ev x, σ.heap.lookup id with
      | .bz t', some (.bld tb e none) => if E.bt t = some e ∧ t' = t ∧ tb = t then k { val := .l .und, st := { σ with heap := upd σ.heap id (.bld t e none) }, eff := true, touched := [id] } else .bad
      | _, _ => .bad
    | _, _, _ => .bad
  | .nilCheck x => match σ.ev x with
    | .l (.ptr id off) => match σ.heap.lookup id with
      | some (.box _) => k (aBe σ (.l (.ptr id off)))
      | _ => .bad
    | .l (.eptr id r off) => match σ.heap.lookup id with
      | some (.arr _ _) => k (aBe σ (.l (.eptr id r off)))
      | _ => .bad
    | .l (.rp row off) => k (aBe σ (.l (.rp row off)))
    | _ => .bad
  | .fieldAddr t x f => match E.Ty t, σ.ev x with
    | some ti, .l p => match ti.agg, ti.fields[f]? with
      | true, some (o, ft) => match E.Ty ft with
        | some tf => if tf.leaves.length = 0 then .bad else (match p with
          | .ptr id off => match σ.heap.lookup id with
            | some (.box _) => k (aBe σ (.l (.ptr id (off + o))))
            | _ => .bad
          | .eptr id r off => match σ.heap.lookup id with
            | some (.arr _ _) => k (aBe σ (.l (.eptr id r (off + o))))
            | _ => .bad
          | .rp row off => k (aBe σ (.l (.rp row (off + o))))
          | _ => .bad)
        | none => .bad
      | _, _ => .bad
    | _, _ => .bad
  | .field t x f => match E.Ty t, σ.ev x with
    | some ti, .agg xs => match ti.agg, ti.fields[f]? with
      | true, some (o, ft) => match E.Ty ft with
        | some tf => if o + tf.leaves.length ≤ xs.length then k (aBe σ (wOf tf.agg ((xs.drop o).take tf.leaves.length))) else .bad
        | none => .bad
      | _, _ => .bad
    | _, _ => .bad
  | .indexAddr t x ix => match E.Arr t with
   | some (m, e) => (match E.Ty e with
    | some te => (match aRz E σ.heap te x (σ.ev x), σ.ev ix with
      | some f, .l (.i _ j) => .must (decide (0 ≤ j) && decide (j < m)) (k (aBe σ (.l (f j.toNat))))
      | _, _ => .bad)
    | none => .bad)
   | none => match E.Ty t, σ.ev x, σ.ev ix with
    | some ti, .l (.ref id off n), .l (.i _ j) => match ti.leaves, ti.agg, σ.heap.lookup id with
      | [.slice e], false, some (.arr sz _) => match E.Ty e with
        | some te => if te.leaves.length = sz then .must (decide (0 ≤ j) && decide (j < n)) (k (aBe σ (.l (.eptr id (off + j.toNat) 0)))) else .bad
        | none => .bad
      | [.slice e], false, some (.fro sz rows) => match E.Ty e with
        | some te => if te.leaves.length = sz then .must (decide (0 ≤ j) && decide (j < n) && decide (off + j.toNat < rows.length)) (k (aBe σ (.l (.rp (rows.getD (off + j.toNat) []) 0)))) else .bad
        | none => .bad
      | _, _, _ => .bad
    | some ti, .l (.sl rows), .l (.i _ j) => match ti.leaves, ti.agg with
      | [.slice e], false => match E.Ty e with
        | some te => .must (decide (0 ≤ j) && decide (j < rows.length) && ((rows.getD j.toNat []).length == te.leaves.length)) (k (aBe σ (.l (.rp (rows.getD j.toNat []) 0))))
        | none => .bad
      | _, _ => .bad
    | _, _, _ => .bad
  | .index t x ix => match E.Ty t, σ.ev x, σ.ev ix with
    | some ti, .l (.s l), .l (.i _ j) => match ti.leaves, ti.agg with
      | [.str], false => .must (decide (0 ≤ j) && decide (j < l.length)) (k (aBe σ (.l (.i .u8 ((l.getD j.toNat 0).toNat : Int)))))
      | _, _ => .bad
    | _, _, _ => .bad
  | .slice t x lo hi mx => match E.Arr t with
   | some (m, e) => (match E.Ty e with
    | some te => (match aRy σ.heap te (σ.ev x), mx with
      | some (id, n), none => if 0 < m then .must (decide (m = n)) (aFr (lo.map σ.ev) (hi.map σ.ev) m fun a c => k (aBe σ (.l (.ref id a (c - a))))) else .bad
      | _, _ => .bad)
    | none => .bad)
   | none => match E.Ty t, σ.ev x, mx with
    | some ti, .l (.s l), none => match ti.leaves, ti.agg with
      | [.str], false => aFr (lo.map σ.ev) (hi.map σ.ev) l.length fun a c => k (aBe σ (.l (.s ((l.take c).drop a))))
      | _, _ => .bad
    | some ti, .l (.sl rows), none => match ti.leaves, ti.agg with
      | [.slice e], false => match E.Ty e with
        | some te => .must (rows.all fun r => r.length == te.leaves.length) (aFr (lo.map σ.ev) (hi.map σ.ev) rows.length fun a c => k (aBe σ (.l (.sl ((rows.take c).drop a)))))
        | none => .bad
      | _, _ => .bad
    | some ti, .l (.ref id off n), none => match ti.leaves, ti.agg, σ.heap.lookup id with
      | [.slice e], false, some (.arr sz _) | [.slice e], false, some (.fro sz _) => match E.Ty e with
        | some te => if te.leaves.length = sz then aFr (lo.map σ.ev) (hi.map σ.ev) n fun a c => k (aBe σ (.l (.ref id (off + a) (c - a)))) else .bad
        | none => .bad
      | _, _, _ => .bad
    | some ti, .l .nil, none => match ti.leaves, ti.agg with
      | [.slice e], false => match E.Ty e with
        | some _ => aFr (lo.map σ.ev) (hi.map σ.ev) 0 fun _ _ => k (aBe σ (.l .nil))
        | none => .bad
      | _, _ => .bad
    | _, _, _ => .bad
  | .makeSlice t n c => match E.Ty t, σ.ev n, σ.ev c with
    | some ti, .l (.i _ n), .l (.i _ c) => match ti.leaves, ti.agg with
      | [.slice e], false => match E.Ty e with
        | some te => if te.leaves.all K.plain ∧ 0 < te.bytes then .must (decide (0 ≤ n) && decide (n ≤ c) && decide ((te.bytes : Int) * c ≤ 281474976710656)) (k { val := .l (.ref σ.next 0 n.toNat), st := σ.new (.arr te.leaves.length (List.replicate n.toNat (te.leaves.map aOk))), eff := true }) else .bad
        | none => .bad
      | _, _ => .bad
    | _, _, _ => .bad
  | .makeMap t none => if bA6 E t = true then k { val := .l (.mref σ.next), st := σ.new (.mset []), eff := true } else .bad
  | .mapUpdate t m x v => match σ.ev m, σ.ev x, σ.ev v with
    | .l (.mref id), .l (.i .i64 n), .l (.b true) => (match σ.heap.lookup id with
      | some (.mset ks) => if bA6 E t = true then k { val := .l .und, st := { σ with heap := upd σ.heap id (.mset (bFb ks n)) }, eff := true, touched := [id] } else .bad
      | _ => .bad)
    | _, _, _ => .bad
  | .lookup t m x false => match σ.ev m, σ.ev x with
    | .l (.m ks), .l (.i .i64 n) => if bA6 E t = true then k (aBe σ (.l (.b (ks.contains n)))) else .bad
    | _, _ => .bad
  | .build t parts => match E.Ty t with
    | some ti => match ti.agg, aSh E σ ti.fields (ti.leaves.map bIz) parts.toList with
      | true, some cells => k (aBe σ (.agg cells))
      | _, _ => .bad
    | none => if (E.bt t).isSome ∧ parts.size = 0 then k (aBe σ (.bz t)) else .bad
  | .buildSlice t len parts => match E.Ty t with
    | some ti => match ti.leaves, ti.agg with
      | [.slice e], false => match E.Ty e with
        | some te =>
          if parts.size = len ∧ len ≤ 256 ∧ te.leaves.length ≤ 256 ∧ 0 < te.leaves.length ∧ (parts.toList.zipIdx.all fun p => p.1.1 == p.2) ∧ (parts.toList.all fun p => (σ.ev p.2).ids.all (aZj σ.heap)) = true then
            match parts.toList.mapM (fun p => (aXv (σ.ev p.2)).bind (aLr σ.heap)) with
            | some rows => if rows.all (fun r => r.length == te.leaves.length) then
                let ids := parts.toList.flatMap fun p => (σ.ev p.2).ids
                k { val := .l (.ref σ.next 0 len), st := { σ with heap := freeze σ.heap ids }.new (.arr te.leaves.length rows), eff := true, touched := ids } else .bad
            | none => .bad
          else .bad
        | none => .bad
      | _, _ => .bad
    | none => .bad
  | .alloc t => match E.Ty t with
    | some ti => k { val := .l (.ptr σ.next 0), st := σ.new (.box (ti.leaves.map bIz)), eff := true }
    | none => match E.bt t with | some e => k { val := .l (.ptr σ.next 0), st := σ.new (.bld t e none), eff := true } | none => match E.Arr t with
      | some (m, e) => match E.Ty e with
        | some te => if te.leaves.all K.plain ∧ 0 < te.bytes then k { val := .l (.eptr σ.next 0 0), st := σ.new (.arr te.leaves.length (List.replicate m (te.leaves.map aOk))), eff := true } else .bad
        | none => .bad
      | none => .bad
  | .box t x => match E.Ty t, aXv (σ.ev x) with
    | some ti, some xs => if xs.length = ti.leaves.length then k { val := .l (.ptr σ.next 0), st := σ.new (.box xs), eff := true } else .bad
    | _, _ => .bad
  | .extract x ix => match σ.ev x with
    | .tup xs => match xs[ix]? with
      | some (agg, ls) => k (aBe σ (wOf agg ls))
      | none => .bad
    | _ => .bad
  | .makeFunc (.func f) first caps => if first.size = 0 then
      match caps.toList.mapM (bB3 σ) with
      | some cs => k (aBe σ (.l (bW0 f cs)))
      | none => .bad
    else .bad
  | .call { callee := .builtin .len, args, argTypes } => match args[0]?, argTypes[0]? with
    | some x, some t => match E.Ty t, σ.ev x with
      | some ti, .l (.s l) => if ti.leaves = [.str] ∧ ti.agg = false then k (aBe σ (.l (.i .i64 l.length))) else .bad
      | some ti, .l y => match ti.leaves, ti.agg, y with
        | [.slice _], false, .sl rows => k (aBe σ (.l (.i .i64 rows.length)))
        | [.slice _], false, .nil => k (aBe σ (.l (.i .i64 0)))
        | [.slice _], false, .ref id _ n => match σ.heap.lookup id with
          | some blk => match blk.rows? with
            | some _ => k (aBe σ (.l (.i .i64 n)))
            | none => .bad
          | none => .bad
        | _, _, _ => .bad
      | _, _ => .bad
    | _, _ => .bad
  | .call { callee := .builtin .max, args, .. } => match bJa bUh (args.toList.map σ.ev) with
    | some (kd, n) => k (aBe σ (.l (.i kd n)))
    | none => .bad
  | .call { callee := .builtin .min, args, .. } => match bJa aXw (args.toList.map σ.ev) with
    | some (kd, n) => k (aBe σ (.l (.i kd n)))
    | none => .bad
  | .call { callee := .builtin .clear, args, argTypes } => match args.toList, argTypes.toList with
    | [x], [t] => match E.Ty t, σ.ev x with
      | some ti, .l (.ref id off n) => match ti.leaves, ti.agg, σ.heap.lookup id with
        | [.slice e], false, some (.arr sz rows) => match E.Ty e with
          | some te => if te.leaves.length = sz ∧ te.leaves.all K.plain then
              .must (decide (0 < n) && decide (off + n ≤ rows.length)) (k { val := .tup [], st := { σ with heap := upd σ.heap id (.arr sz (rows.take off ++ List.replicate n (te.leaves.map aOk) ++ rows.drop (off + n))) }, eff := true, touched := [id] }) else .bad
          | none => .bad
        | _, _, _ => .bad
      | _, _ => .bad
    | _, _ => .bad
  | .call { callee := .builtin .append, args, argTypes } => match args.toList, argTypes.toList with
    | [s, x], [t, u] => match E.Ty t, E.Ty u with
      | some ti, some tu => match ti.leaves, ti.agg with
        | [.slice e], false => match E.Ty e with
          | some te =>
            let src : Option (List (List C)) := match tu.leaves, tu.agg, σ.ev x with
              | [.str], false, .l (.s l) => if te.leaves = [.int .u8] then some (aDs l) else none
              | [.slice _], false, x => aM5 σ.heap x
              | _, _, _ => none
            if 0 < te.bytes ∧ 0 < te.leaves.length then
              match σ.ev s, src with
              | .l .nil, some rows => .must (aC0 rows.length te.bytes && rows.all fun r => r.length == te.leaves.length) (k { val := .l (.ref σ.next 0 rows.length), st := σ.new (.arr te.leaves.length rows), eff := true })
              | .l (.ref id 0 n), some rows => match σ.heap.lookup id with
                | some (.arr sz old) => if sz = te.leaves.length then
                    .must (decide (n = old.length) && aC0 (old.length + rows.length) te.bytes && rows.all fun r => r.length == sz)
                      (k { val := .l (.ref σ.next 0 (old.length + rows.length)), st := { σ with heap := del σ.heap id }.new (.arr sz (old ++ rows)), eff := true, touched := [id] }) else .bad
                | _ => .bad
              | _, _ => .bad
            else .bad
          | none => .bad
        | _, _ => .bad
      | _, _ => .bad
    | _, _ => .bad
  | _ => .bad
def _root_.Go.Op.eats (σ:St):Op→List Nat
 |.call {callee:=.builtin .append,args,..}=>match args.toList with | s::_=>(σ.ev s).ids | []=>[]
 |.buildSlice _ _ parts=>parts.toList.flatMap fun p=>(σ.ev p.2).ids
 |_=>[]
def aE1 (pins ids:List Nat):Bool:=ids.all fun i=> !pins.contains i
end
section
variable {α:Type}
def aB6:List C→List K→Bool
 |[],[]=>true
 |c::cs,kd::ks=>c.is kd&&aB6 cs ks
 |_,_=>false
def wrL:Bool→W→Option (List L)
 |true,.agg xs=>some xs
 |false,.l x=>some [x]
 |_,_=>none
def aCz (E:Env) (h:List (Nat×Blk)):List (K×Bool)→List L→Option (List C)
 |[],[]=>some []
 |(_,false)::r,x::xs=>match x.data h,aCz E h r xs with
  |some c,some cs=>some (c::cs)
  |_,_=>none
 |(.slice e,true)::r,.ref id 0 _::xs=>match E.Ty e,h.lookup id,aCz E h r xs with
  |some te,some (.arr sz rows),some cs=>if sz=te.leaves.length then some (.sl rows::cs)else none
  |_,_,_=>none
 |_,_=>none
def aFt (h:List (Nat×Blk)):List (K×Bool)→List L→Bool
 |(_,true)::r,.ref id _ n::xs=>(match h.lookup id with | some (.arr _ rows)=>decide (n=rows.length) | _=>false)&&aFt h r xs
 |_::r,_::xs=>aFt h r xs
 |_,_=>true
def aE2 (h:List (Nat×Blk)):List PTy→List W→Bool
 |.wr agg ks::ps,w::ws=>(match wrL agg w with | some xs=>aFt h ks xs | none=>false)&&aE2 h ps ws
 |_::ps,_::ws=>aE2 h ps ws
 |_,_=>true
def aD1 (E:Env) (h:List (Nat×Blk)):List PTy→List W→Option (List C)
 |[],[]=>some []
 |.val false ks::ps,.l x::ws=>match x.arg h,aD1 E h ps ws with
  |some c,some r=>if ks.length=1 then some (c::r)else none
  |_,_=>none
 |.val true ks::ps,.agg xs::ws=>match aLr h xs,aD1 E h ps ws with
  |some cs,some r=>if ks.length=xs.length then some (cs++r)else none
  |_,_=>none
 |.box ks::ps,.l (.ptr id 0)::ws=>match h.lookup id,aD1 E h ps ws with
  |some (.box cells),some r=>(match aLr h cells with | some cs=>if ks.length=cells.length then some (cs++r)else none | none=>none)
  |_,_=>none
 |.wr agg ks::ps,w::ws=>match wrL agg w,aD1 E h ps ws with
  |some xs,some r=>(match aCz E h ks xs with | some cs=>some (cs++r) | none=>none)
  |_,_=>none
 |_,_=>none
def aEp:List PTy→List K
 |[]=>[]
 |.val _ ks::ps=>ks++aEp ps
 |.box ks::ps=>ks++aEp ps
 |.wr _ ks::ps=>ks.map (·.1)++aEp ps
def aD9:List (K×Bool)→List L→List Nat
 |(_,true)::r,.ref id _ _::xs=>id::aD9 r xs
 |_::r,_::xs=>aD9 r xs
 |_,_=>[]
def aCy:List (K×Bool)→List L→List Nat
 |(_,false)::r,x::xs=>x.ids++aCy r xs
 |(_,true)::r,_::xs=>aCy r xs
 |_,_=>[]
def aBg:List PTy→List W→List Nat
 |.box _::ps,.l (.ptr id 0)::ws=>id::aBg ps ws
 |.wr agg ks::ps,w::ws=>(match wrL agg w with | some xs=>aD9 ks xs | none=>[])++aBg ps ws
 |_::ps,_::ws=>aBg ps ws
 |_,_=>[]
def aGe (h:List (Nat×Blk)) (ids:List Nat):List Nat :=
 ids.flatMap fun id=>match h.lookup id with | some (.box cells)=>cells.flatMap L.ids | some (.bld _ _ (some r))=>[r] | _=>[]
def aDz (h:List (Nat×Blk)):List PTy→List W→List Nat
 |.box _::ps,.l (.ptr id 0)::ws=>aGe h [id]++aDz h ps ws
 |.wr agg ks::ps,w::ws=>(match wrL agg w with | some xs=>aCy ks xs | none=>[])++aDz h ps ws
 |_::ps,w::ws=>w.ids++aGe h w.ids++aDz h ps ws
 |_,_=>[]
def aLm (h:List (Nat×Blk)) (id:Nat):Bool:=match h.lookup id with | some (.box _) | some (.bld _ _ _) | some (.own _ _) | some (.mset _)=>true | _=>false
def bTj:List Nat→Bool
 |[]=>true
 |x::xs=> !xs.contains x&&bTj xs
def aB9 (E:Env) (h:List (Nat×Blk)) (ids:List Nat):List (K×Bool)→List C→Nat→Option (Bool×List L×List C×List Blk)
 |[],cs,_=>some (true,[],cs,[])
 |(kd,false)::r,c::cs,n=>match aB9 E h ids r cs n with
  |some (b,ls,cs',bs)=>some ((aG8 [c] 0 kd).1&&b,(aG8 [c] 0 kd).2::ls,cs',bs)
  |none=>none
 |(.slice e,true)::r,c::cs,n=>match E.Ty e with
  |some te=>match aB9 E h ids r cs (n+1)with
   |some (b,ls,cs',bs)=>some (c.is (.slice e)&&c.toRows.all (fun row=>row.length==te.leaves.length)&&b,.ref n 0 c.toRows.length::ls,cs',.arr te.leaves.length c.toRows::bs)
   |none=>none
  |none=>none
 |(.back e j,true)::r,c::cs,n=>match E.Ty e,ids[j]? with
  |some te,some id=>match h.lookup id with
   |some (.arr sz rows)=>if sz=te.leaves.length then (match aB9 E h ids r cs n with
    |some (b,ls,cs',bs)=>some (decide (c.toRows.length≤rows.length)&&b,.ref id 0 c.toRows.length::ls,cs',bs)
    |none=>none)else none
   |_=>none
  |_,_=>none
 |_,_,_=>none
def aEy (E:Env) (h:List (Nat×Blk)) (ids:List Nat):List RTy→List C→Nat→Option (Bool×List (Bool×List L)×List C×List Blk)
 |[],cs,_=>some (true,[],cs,[])
 |t::ts,cs,n=>match aB9 E h ids t.ls cs n with
  |some (b,ls,cs',bs)=>match aEy E h ids ts cs' (n+bs.length)with
   |some (b',rs,cs'',bs')=>some (b&&b',(t.agg,ls)::rs,cs'',bs++bs')
   |none=>none
  |none=>none
def aD4 (E:Env):List (K×Bool)→List L→List C→List (Nat×Blk)→Option (Bool×List C×List (Nat×Blk))
 |[],[],cs,h=>some (true,cs,h)
 |(_,false)::r,_::xs,cs,h=>aD4 E r xs cs h
 |(.slice e,true)::r,.ref id _ _::xs,c::cs,h=>match E.Ty e,h.lookup id with
  |some te,some (.arr sz rows)=>if sz=te.leaves.length then (match aD4 E r xs cs (upd h id (.arr sz c.toRows))with
   |some (b,cs',h')=>some ((decide (c.toRows.length=rows.length)&&c.toRows.all (fun r=>r.length==sz))&&b,cs',h')
   |none=>none)else none
  |_,_=>none
 |_,_,_,_=>none
def aB2 (E:Env):List PTy→List W→List C→List (Nat×Blk)→Option (Bool×List (Nat×Blk))
 |[],[],[],h=>some (true,h)
 |.box ks::ps,.l (.ptr id 0)::ws,cs,h=>match h.lookup id with
  |some (.box _)=>(match aB2 E ps ws (cs.drop ks.length) (upd h id (.box (aBt cs 0 ks).2))with
   |some (b,h')=>some ((aBt cs 0 ks).1&&b,h')
   |none=>none)
  |_=>none
 |.val _ _::ps,_::ws,cs,h=>aB2 E ps ws cs h
 |.wr agg ks::ps,w::ws,cs,h=>match wrL agg w with
  |some xs=>match aD4 E ks xs cs h with
   |some (b,cs',h')=>match aB2 E ps ws cs' h' with
    |some (b',h'')=>some (b&&b',h'')
    |none=>none
   |none=>none
  |none=>none
 |_,_,_,_=>none
def bV8:List (Bool×List L)→W
 |[(agg,ls)]=>wOf agg ls
 |rs=>.tup rs
def aBj (n:Nat):List Blk→List (Nat×Blk)
 |[]=>[]
 |b::bs=>(n,b)::aBj (n+1) bs
def bNt (E:Env) (σ:St) (sig:Sig) (spec:Spec) (ws:List W) (k:bWi α):T α :=
 match aD1 E σ.heap sig.params ws with
 |none=>.bad
 |some cs =>
  let bs:=aBg sig.params ws
  let vs:=aDz σ.heap sig.params ws
  if bTj bs∧(bs.all fun i=> !vs.contains i)=true∧(!sig.nested||vs.all fun i=> !aLm σ.heap i)=true∧(!sig.nested||aE1 σ.pins vs)=true then
   match spec cs with
   |none=>.bad
   |some (pre,outs)=>.must (aB6 cs (aEp sig.params)&&aE2 σ.heap sig.params ws) (.must pre (
    match aEy E σ.heap bs sig.results outs σ.next with
    |some (b,rs,cs',nb)=>match aB2 E sig.params ws cs' (if sig.nested then freeze σ.heap vs else σ.heap)with
     |some (b',h')=>.must (b&&b') (k {val:=bV8 rs,st:={σ with heap:=aBj σ.next nb++h',next:=σ.next+nb.length},eff:=true,touched:=bs++(if sig.nested then vs else[])})
     |none=>.bad
    |none=>.bad))
  else .bad
def L.ofC:C→L
 |.int k n=>.i k n
 |.bool t=>.b t
 |.str t=>.s t
 |.sl rows=>.sl rows
 |.fn f caps=>.fn f caps
 |.pt row=>.rp row 0
 |.err x=>.e x
 |.mp ks=>.m ks
def bVa:Sum Nat C→L
 |.inl id=>.ptr id 0
 |.inr c=>L.ofC c
structure Ev where
 at':Nat
 eff:Bool
 keys:List Nat
 touched:List Nat
 all:Bool
 next:Nat
def aNg:Op→Bool | .move _ | .assign _=>true | _=>false
def Op.keys (σ:St) (op:Op):List Nat:=if aNg op then[]else op.operands.toList.flatMap fun x=>(σ.ev x).ids
def aQr (sig:Sig):Bool:= !sig.nested&&(sig.params.all fun p=>match p with | .val _ _=>true | _=>false)&&sig.results.all fun t=>t.ls.all fun p=> !p.2
def bVc (σ:St) (sig:Sig) (ws:List W) (r:R):R:=if aQr sig&&ws.all fun w=>w.ids.isEmpty then aBe σ r.val else r
abbrev Inl (α:Type):=FuncId→Func→List W→St→(W→St→Option (List Nat)→T α)→T α
def bBo (E:Env) (I:Inl α) (o:Oper) (σ:St) (k:R→Bool→T α):T α :=
 match o.op with
 |.call {callee:=.value f,args,..}=>match σ.ev f with
  |.l (.clo g caps) =>
   let ws:=args.toList.map σ.ev++caps.map fun c=>W.l (bVa c)
   match E.Γ g with
   |some (sig,spec)=>bNt E σ sig spec ws fun r=>k r false
   |none=>.bad
  |.l (.fn g caps) =>
   let ws:=args.toList.map σ.ev++caps.map fun c=>W.l (L.ofC c)
   match E.Γ g with
   |some (sig,spec)=>bNt E σ sig spec ws fun r=>k (bVc σ sig ws r) false
   |none=>match E.inl g with
    |some fn=>I g fn ws σ fun x σ' ts=>k {val:=x,st:={σ' with slots:=σ.slots},eff:=true,touched:=ts.getD []} ts.isNone
    |none=>.bad
  |_=>.bad
 |op=>if aE1 σ.pins (op.eats σ)then vop E σ op fun r=>k r false else .bad
def bR8 (R:R) (k:V.R→T α):T α :=
 match R.val with
 |.l (.b t)=>.ask t (k {R with val:=.l (.b true)}) (k {R with val:=.l (.b false)})
 |_=>k R
def bUv:Op→Bool
 |.move _ | .assign _ | .pick _ _ _ | .unOp .not _ _=>true
 |_=>false
def aPw (op:Op) (R:R) (k:V.R→T α):T α:=if bUv op then k R else bR8 R k
def bB5:List W→(List W→T α)→T α
 |[],k=>k []
 |.l (.b t)::r,k=>.ask t (bB5 r fun r'=>k (.l (.b true)::r')) (bB5 r fun r'=>k (.l (.b false)::r'))
 |w::r,k=>bB5 r fun r'=>k (w::r')
def bT0 (nt:Nat):Option Nat→Bool
 |some d=>decide (d<nt)
 |none=>true
def bIu (E:Env) (I:Inl α) (ops:Array Oper):List Nat→St→List Ev→(St→List Ev→T α)→T α
 |[],σ,tr,k=>k σ tr
 |i::r,σ,tr,k=>match ops[i]? with
  |none=>.bad
  |some o =>
   if bT0 E.nt o.dst then
    let go:T α:=bBo E I o σ fun R all=>aPw o.op R fun R=>bIu E I ops r (R.st.put o.dst R.val) ({at':=i,eff:=R.eff,keys:=Op.keys σ o.op,touched:=R.touched,all,next:=σ.next}::tr) k
    let skip:T α:=bIu E I ops r (σ.put o.dst (.l .und)) tr k
    match o.guard with
    |none=>go
    |some (g,b)=>match (ops[g]?).bind (·.dst)with
     |none=>.bad
     |some d=>match σ.get d,b with
      |.l (.b true),true=>go
      |.l (.b false),true=>skip
      |.l (.b true),false=>skip
      |.l (.b false),false=>go
      |.l .und,_=>skip
      |_,_=>.bad
   else .bad
def aB4 (ops:Array Oper):List (List Nat) :=
 ops.toList.foldl (fun acc o=>acc++[((o.after.toList.filter (Region.binds .any)).flatMap fun e=>if e.on<acc.length then e.on::acc.getD e.on []else[]).eraseDups]) []
def aDd (tab:List (List Nat)) (i j:Nat):Bool:=(tab.getD j []).contains i||(tab.getD i []).contains j
def aHv (ops:Array Oper) (tab:List (List Nat)):Bool :=
 (ops.toList.zipIdx.all fun p=>ops.toList.zipIdx.all fun q=> !(decide (p.2<q.2))||aDd tab p.2 q.2||Oper.apart ops p.1 q.1) &&
 ops.toList.zipIdx.all fun p=>p.1.after.toList.all fun e=> !Region.binds .any e||decide (e.on<p.2)
def bQs (a b:Ev):Bool :=
 match a.eff,b.eff with
 |false,false=>true
 |true,true=>false
 |true,false=>b.keys.all fun x=>decide (x<a.next)&& !a.all&& !a.touched.contains x
 |false,true=>a.keys.all fun x=>decide (x<b.next)&& !b.all&& !b.touched.contains x
def bIv (tab:List (List Nat)):List Ev→Bool
 |[]=>true
 |e::r=>(r.all fun f=>aDd tab e.at' f.at'||bQs e f)&&bIv tab r
def aAe:Inl α:=fun _ _ _ _ _=>.bad
def bSk (E:Env) (o:Oper):Bool:=match o.guard,o.op with
 |none,.call {callee:=.value (.func g),..}=>match E.Γ g with | some (sig,_)=> !aQr sig | none=>false
 |_,_=>false
def bUg (d:Nat):Operand→Bool | .tmp t=>t==d | _=>false
def bU9 (ops:Array Oper) (d q:Nat):Bool:=ops.toList.zipIdx.all fun p =>
 p.2==q||p.2==q+1||((p.1.dst != some d)&& !(p.1.looksAt ops).contains d&&match p.1.guard with | some (g,_)=>g != q&&g != q+1 | none=>true)
def aCb (E:Env) (ops:Array Oper) (tab:List (List Nat)) (q:Nat):Option (Nat×TypeId×Operand) :=
 match ops[q]? with
 |some {op:=.alloc t,dst:=some d,guard:=none,..}=>(match ops[q+1]? with
  |some {op:=.store t' (.tmp d') x,dst:=none,guard:=none,..} =>
   if (t'==t&&d'==d&& !bUg d x&&aDd tab q (q+1)&&(E.Ty t).isSome&&ops.toList.zipIdx.any (fun p=>bSk E p.1&& !aDd tab q p.2)&&bU9 ops d q)=true then some (d,t,x)else none
  |_=>none)
 |_=>none
def aHq (E:Env) (ops:Array Oper) (tab:List (List Nat)) (o:Oper) (i:Nat):Oper :=
 match aCb E ops tab i with
 |some _=>{o with op:=.move (.const (.pointer none))}
 |none=>match i with
  |0=>o
  |j+1=>match aCb E ops tab j with
   |some (d,t,x)=>{o with op:=.box t x,dst:=some d}
   |none=>o
def aB8 (E:Env) (ops:Array Oper):Array Oper:=(ops.toList.zipIdx.map fun p=>aHq E ops (aB4 ops) p.1 p.2).toArray
def bPf (E:Env) (ops:Array Oper):Bool:=(List.range ops.size).any fun q=>(aCb E ops (aB4 ops) q).isSome
def bGf (E:Env) (I:Inl α) (ops:Array Oper) (σ:St) (k:St→T α):T α :=
 if aHv ops (aB4 ops)then bIu E I ops (List.range ops.size) σ [] fun σ' tr=>if bIv (aB4 ops) tr then k σ' else .bad
 else .bad
def aUz (E:Env) (I:Inl α) (ops:Array Oper) (draw:Bool) (σ:St) (k:St→T α):T α :=
 match draw with
 |false=>bIu E I ops (List.range ops.size) σ [] fun σ' _=>k σ'
 |true=>if bPf E ops then bGf E aAe (aB8 E ops) σ k else bGf E I ops σ k
def aHo (m:List (Nat×Nat)):List (Sum Nat C)→Option (List (Sum Nat C))
 |[]=>some []
 |.inl id::r=>match m.lookup id,aHo m r with | some j,some cs=>some (.inl j::cs) | _,_=>none
 |.inr c::r=>match aHo m r with | some cs=>some (.inr c::cs) | none=>none
def L.renm (m:List (Nat×Nat)):L→L
 |.ref id o n=>match m.lookup id with | some j=>.ref j o n | none=>.none'
 |.ptr id o=>match m.lookup id with | some j=>.ptr j o | none=>.none'
 |.eptr id r o=>match m.lookup id with | some j=>.eptr j r o | none=>.none'
 |.mref id=>match m.lookup id with | some j=>.mref j | none=>.none'
 |.clo f caps=>match aHo m caps with | some cs=>.clo f cs | none=>.none'
 |x=>x
def W.renm (m:List (Nat×Nat)):W→W
 |.l x=>.l (x.renm m)
 |.agg xs=>.agg (xs.map (L.renm m))
 |.tup xs=>.tup (xs.map fun p=>(p.1,p.2.map (L.renm m)))
 |.bz t=>.bz t
def Blk.renm (m:List (Nat×Nat)):Blk→Blk
 |.box cells=>.box (cells.map (L.renm m))
 |.bld t e (some id)=>match m.lookup id with | some j=>.bld t e (some j) | none=>.own t []
 |b=>b
def aTd:List Nat→List Nat→List Nat
 |[],_=>[]
 |x::xs,seen=>if seen.contains x then aTd xs seen else x::aTd xs (x::seen)
def St.norm (E:Env) (hd:Nat) (σ:St):St :=
 let slots:=(E.lv hd).map fun t=>(t,σ.get t)
 if E.ren then
  let r0:=(slots.flatMap fun p=>p.2.ids)++σ.pins
  let ids:=(aTd (r0++aGe σ.heap r0) []).filter fun id=>(σ.heap.lookup id).isSome
  let m:=ids.zipIdx
  {slots:=slots.map fun p=>(p.1,p.2.renm m),heap:=m.filterMap fun p=>(σ.heap.lookup p.1).map fun b=>(p.2,b.renm m),next:=ids.length,pins:=σ.pins.map fun i=>(m.lookup i).getD ids.length}
 else {σ with slots}
def aF8:Code→Nat
 |.region id _ _=>id
 |.seq a _=>aF8 a
 |.block _ a=>aF8 a
 |.loop a=>aF8 a
 |_=>0
def aSm (N:St→T α) (k:Exit→St→T α):Exit→St→T α:=fun e σ'=>match e with
 |.normal=>N σ'
 |e=>k e σ'
def aRw (id:Nat) (k:Exit→St→T α):Exit→St→T α:=fun e σ'=>match e with
 |.exit j=>if j=id then k .normal σ' else k (.exit j) σ'
 |e=>k e σ'
def aN7 (body:St→(Exit→St→T α)→T α) (nm:St→St):Nat→St→(Exit→St→T α)→T α
 |0,_,_=>.bad
 |n+1,τ,k=>body τ (aSm (fun σ'=>aN7 body nm n (nm σ') k) k)
def aEt (E:Env) (I:Inl α):Code→St→(Exit→St→T α)→T α
 |.skip,σ,k=>k .normal σ
 |.region _ ops draw,σ,k=>aUz E I ops draw σ fun σ'=>k .normal σ'
 |.seq a b,σ,k=>aEt E I a σ (aSm (fun σ'=>aEt E I b σ' k) k)
 |.cond c a b,σ,k=>match σ.ev c with
  |.l (.b true)=>aEt E I a σ k
  |.l (.b false)=>aEt E I b σ k
  |_=>.bad
 |.block id b,σ,k=>aEt E I b σ (aRw id k)
 |.loop b,σ,k=>aN7 (aEt E I b) (St.norm E (aF8 b)) E.fuel (St.norm E (aF8 b) σ) k
 |.exit id,σ,k=>k (.exit id) σ
 |.ret,σ,k=>k .ret σ
 |_,_,_=>.bad
inductive Pt where
 |l | r | b | lp (n:Nat)
def aBo (E:Env) (I:Inl α):Code→List Pt→(Exit→St→T α)→Exit→St→T α
 |.seq a b,.l::p,k=>aBo E I a p (aSm (fun σ'=>aEt E I b σ' k) k)
 |.seq _ b,.r::p,k=>aBo E I b p k
 |.cond _ a _,.l::p,k=>aBo E I a p k
 |.cond _ _ b,.r::p,k=>aBo E I b p k
 |.block id b,.b::p,k=>aBo E I b p (aRw id k)
 |.loop b,.lp n::p,k=>aBo E I b p (aSm (fun σ'=>aN7 (aEt E I b) (St.norm E (aF8 b)) n (St.norm E (aF8 b) σ') k) k)
 |_,_,k=>k
def aFo:Code→List Pt→Code
 |.seq a _,.l::p=>aFo a p
 |.seq _ b,.r::p=>aFo b p
 |.cond _ a _,.l::p=>aFo a p
 |.cond _ _ b,.r::p=>aFo b p
 |.block _ b,.b::p=>aFo b p
 |.loop b,.lp _::p=>aFo b p
 |c,_=>c
def bKa (E:Env) (σ:St):ResultVar→Option W
 |.tmp t=>some (σ.get t)
 |.cell a t=>match E.Ty t,σ.get a with
  |some ti,.l (.ptr id off)=>match σ.heap.lookup id with
   |some (.box cells)=>if off+ti.leaves.length≤cells.length then some (wOf ti.agg ((cells.drop off).take ti.leaves.length))else none
   |_=>none
  |_,_=>none
def aZ7 (E:Env) (σ:St) (rs:Array ResultVar):Option (List W):=rs.toList.mapM (bKa E σ)
def aNa:W→Option (Bool×List L)
 |.l x=>some (false,[x])
 |.agg xs=>some (true,xs)
 |.tup _=>none
 |.bz _=>none
def bU2:List W→Option W
 |[w]=>some w
 |ws=>(ws.mapM aNa).map .tup
def aDq (E:Env):List PTy→List C→St→Option (Bool×List W×List C×St)
 |[],cs,σ=>some (true,[],cs,σ)
 |.val agg ks::ps,cs,σ =>
  let p:=aBt cs 0 ks
  match aDq E ps (cs.drop ks.length) σ with
  |some (b,ws,cs',σ')=>some (p.1&&b,wOf agg p.2::ws,cs',σ')
  |none=>none
 |.box ks::ps,cs,σ =>
  let p:=aBt cs 0 ks
  match aDq E ps (cs.drop ks.length) {σ.new (.box p.2)with pins:=σ.pins++[σ.next]}with
  |some (b,ws,cs',σ')=>some (p.1&&b,.l (.ptr σ.next 0)::ws,cs',σ')
  |none=>none
 |.wr agg ks::ps,cs,σ=>match aB9 E [] [] ks cs σ.next with
  |some (b0,ls,cs1,bs)=>match aDq E ps cs1 {σ with heap:=aBj σ.next bs++σ.heap,next:=σ.next+bs.length,pins:=σ.pins++List.range' σ.next bs.length}with
   |some (b,ws,cs',σ')=>some (b0&&b,wOf agg ls::ws,cs',σ')
   |none=>none
  |none=>none
def C.flat:C→Bool
 |.int _ _ | .bool _ | .str _ | .sl [] | .err _=>true
 |_=>false
def aBm (E:Env) (nested:Bool) (h:List (Nat×Blk)) (pins:List Nat):List (K×Bool)→List L→Option (Bool×List C×List Nat)
 |[],[]=>some (true,[],[])
 |(kd,false)::r,x::xs=>match x.data h,aBm E nested h pins r xs with
  |some c,some (b,cs,ids)=>some (c.is kd&&(nested||c.flat)&&b,c::cs,ids)
  |_,_=>none
 |(.slice e,true)::r,x::xs=>match x,E.Ty e,aBm E nested h pins r xs with
  |.nil,some _,some (b,cs,ids)=>some (b,.sl []::cs,ids)
  |.ref id 0 n,some te,some (b,cs,ids)=>(match h.lookup id with
   |some (.arr sz rows)=>if sz=te.leaves.length then some (decide (n=rows.length)&&(nested||rows.all fun r=>r.all C.flat)&&b,.sl rows::cs,id::ids)else none
   |_=>none)
  |_,_,_=>none
 |(.back e j,true)::r,x::xs=>match x,E.Ty e,aBm E nested h pins r xs with
  |.ref id 0 n,some te,some (b,cs,ids)=>(match h.lookup id with
   |some (.arr sz rows)=>if sz=te.leaves.length∧pins[j]? =some id then some (decide (n≤rows.length)&&b,.sl (rows.take n)::cs,ids)else none
   |_=>none)
  |_,_,_=>none
 |_,_=>none
def aJq (E:Env) (nested:Bool) (h:List (Nat×Blk)) (pins:List Nat):List RTy→List (Bool×List L)→Option (Bool×List C×List Nat)
 |[],[]=>some (true,[],[])
 |t::ts,(agg,ls)::ws=>match aBm E nested h pins t.ls ls,aJq E nested h pins ts ws with
  |some (b,cs,ids),some (b',cs',ids')=>if t.agg=agg then some (b&&b',cs++cs',ids++ids')else none
  |_,_=>none
 |_,_=>none
def aT1 (E:Env) (nested:Bool) (h:List (Nat×Blk)):List (K×Bool)→List Nat→Option (Bool×List C×List Nat)
 |[],ns=>some (true,[],ns)
 |(_,false)::r,ns=>aT1 E nested h r ns
 |(.slice e,true)::r,n::ns=>match E.Ty e,h.lookup n,aT1 E nested h r ns with
  |some te,some (.arr sz rows),some (b,cs,ns')=>if sz=te.leaves.length then some ((nested||rows.all fun r=>r.all C.flat)&&b,.sl rows::cs,ns')else none
  |_,_,_=>none
 |_,_=>none
def aFf (E:Env) (nested:Bool) (h:List (Nat×Blk)):List PTy→List Nat→Option (Bool×List C)
 |[],[]=>some (true,[])
 |.val _ _::ps,ns=>aFf E nested h ps ns
 |.box ks::ps,n::ns=>match h.lookup n,aFf E nested h ps ns with
  |some (.box cells),some (b,cs)=>(match aBm E nested h [] (ks.map fun kd=>(kd,false)) cells with
   |some (b',cs',_)=>some (b'&&b,cs'++cs)
   |none=>none)
  |_,_=>none
 |.wr _ ks::ps,ns=>match aT1 E nested h ks ns with
  |some (b,cs,ns')=>match aFf E nested h ps ns' with
   |some (b',cs')=>some (b&&b',cs++cs')
   |none=>none
  |none=>none
 |_,_=>none
def bKn (E:Env) (sig:Sig) (σ:St) (rs:List (Bool×List L)):Option (Bool×List C) :=
 match aJq E sig.nested σ.heap σ.pins sig.results rs,aFf E sig.nested σ.heap sig.params σ.pins with
 |some (b,cs,ids),some (b',cs') =>
  let ds:=((sig.results.zip rs).flatMap fun p=>aCy p.1.ls p.2.2)++aGe σ.heap σ.pins
  if bTj ids∧ids.all (fun i=> !ds.contains i)∧aE1 σ.pins (ids++ds)then some (b&&b',cs++cs')else none
 |_,_=>none
def bBl (E:Env) (sig:Sig) (fn:Func):Exit→St→T (List C):=fun e σ'=>match e with
 |.normal | .ret=>match aZ7 E σ' fn.results with
  |some ws=>match ws.mapM aNa with
   |some rs=>match bKn E sig σ' rs with
    |some (b,cs)=>.must b (.ret cs)
    |none=>.bad
   |none=>.bad
  |none=>.bad
 |_=>.bad
def bNv (E:Env) (I:Inl (List C)) (sig:Sig) (fn:Func) (cs:List C):T (List C) :=
 match aDq E sig.params cs {slots:=[],heap:=[],next:=0,pins:=[]},fn.body with
 |some (b,ws,[],σ),some c =>
  if ws.length≤fn.ntmps then
   .must b (bB5 ws fun ws=>aEt {E with nt:=fn.ntmps} I c {σ with slots:=(List.range ws.length).zip ws} (bBl E sig fn))
  else .bad
 |_,_=>.bad
def aBd (E:Env) (I:Inl (List C)) (sig:Sig) (fn:Func) (p:List Pt) (n:Nat) (τ:St):T (List C) :=
 match fn.body with
 |some c=>match aFo c p with
  |.loop b=>aN7 (aEt {E with nt:=fn.ntmps} I b) (St.norm {E with nt:=fn.ntmps} (aF8 b)) n τ (aBo {E with nt:=fn.ntmps} I c p (bBl E sig fn))
  |_=>.bad
 |none=>.bad
def aEs (E:Env) (I:Inl α) (H:List Pt→Nat→St→T α):Code→List Pt→St→(Exit→St→T α)→T α
 |.skip,_,σ,k=>k .normal σ
 |.region _ ops draw,_,σ,k=>aUz E I ops draw σ fun σ'=>k .normal σ'
 |.seq a b,p,σ,k=>aEs E I H a (p++[.l]) σ (aSm (fun σ'=>aEs E I H b (p++[.r]) σ' k) k)
 |.cond c a b,p,σ,k=>match σ.ev c with
  |.l (.b true)=>aEs E I H a (p++[.l]) σ k
  |.l (.b false)=>aEs E I H b (p++[.r]) σ k
  |_=>.bad
 |.block id b,p,σ,k=>aEs E I H b (p++[.b]) σ (aRw id k)
 |.loop b,p,σ,_=>H p E.fuel (St.norm E (aF8 b) σ)
 |.exit id,_,σ,k=>k (.exit id) σ
 |.ret,_,σ,k=>k .ret σ
 |_,_,_,_=>.bad
def aHn (E:Env) (I:Inl α) (H:List Pt→Nat→St→T α):Code→List Pt→List Pt→(Exit→St→T α)→Exit→St→T α
 |.seq a b,.l::p,q,k=>aHn E I H a p (q++[.l]) (aSm (fun σ'=>aEs E I H b (q++[.r]) σ' k) k)
 |.seq _ b,.r::p,q,k=>aHn E I H b p (q++[.r]) k
 |.cond _ a _,.l::p,q,k=>aHn E I H a p (q++[.l]) k
 |.cond _ _ b,.r::p,q,k=>aHn E I H b p (q++[.r]) k
 |.block id b,.b::p,q,k=>aHn E I H b p (q++[.b]) (aRw id k)
 |.loop b,.lp n::p,q,k=>aHn E I H b p (q++[.lp n]) (aSm (fun σ'=>H q n (St.norm E (aF8 b) σ')) k)
 |_,_,_,k=>k
def aAo (E:Env) (I:Inl (List C)) (sig:Sig) (fn:Func) (H:List Pt→Nat→St→T (List C)) (cs:List C):T (List C) :=
 match aDq E sig.params cs {slots:=[],heap:=[],next:=0,pins:=[]},fn.body with
 |some (b,ws,[],σ),some c =>
  if ws.length≤fn.ntmps then
   .must b (bB5 ws fun ws=>aEs {E with nt:=fn.ntmps} I H c [] {σ with slots:=(List.range ws.length).zip ws} (bBl E sig fn))
  else .bad
 |_,_=>.bad
def aBc (E:Env) (I:Inl (List C)) (sig:Sig) (fn:Func) (H:List Pt→Nat→St→T (List C)) (p:List Pt) (n:Nat) (τ:St):T (List C) :=
 match fn.body with
 |some c=>match aFo c p with
  |.loop b=>aEs {E with nt:=fn.ntmps} I H b (p++[.lp n]) τ (aHn {E with nt:=fn.ntmps} I H c (p++[.lp n]) [] (bBl E sig fn))
  |_=>.bad
 |none=>.bad
end
def bEd (w:World) (b:Nat) (ks:List Int):Prop :=
 ∃ es clock,w.heap[b]? =some (.map es clock)∧es.toList.map (fun e=>(e.key,e.val))=ks.map fun n=>(Value.int .i64 n,Value.bool true)
theorem bEd.mono {w w':World} {b:Nat} {ks:List Int} (h:bEd w b ks) (he:w'.heap[b]? =w.heap[b]?):bEd w' b ks:=by
 obtain⟨es,cl,h1,h2⟩:=h
 exact⟨es,cl,he.trans h1,h2⟩
inductive Rep (w:World) (ok:Nat→Prop):Value→C→Prop where
 |int (k:IntKind) (n:Int):Rep w ok (.int k n) (.int k n)
 |bool (t:Bool):Rep w ok (.bool t) (.bool t)
 |str (s:ByteArray):Rep w ok (.string s) (.str s.data.toList)
 |emp (a:Option Addr) (c:Nat):Rep w ok (.slice a 0 c) (.sl [])
 |sl (b o n c sz:Nat) (rows:List (List C)) (f:Nat→Value):n=rows.length→n≤c→ok b→b<w.heap.size →
   (∀ r,r∈rows→r.length=sz)→(∀ j,j<n*sz→w.cell? ⟨b,o+j,none⟩=some (f j)) →
   (∀ (i:Nat) (r:List C) (j:Nat) (x:C),rows[i]? =some r→r[j]? =some x→Rep w ok (f (i*sz+j)) x) →
   Rep w ok (.slice (some ⟨b,o,none⟩) n c) (.sl rows)
 |fn (g:FuncId) (vs:List Value) (caps:List C):vs.length=caps.length →
   (∀ (i:Nat) (v:Value) (x:C),vs[i]? =some v→caps[i]? =some x→Rep w ok v x)→Rep w ok (.func (.func g) #[] vs.toArray) (.fn g caps)
 |pt (b o:Nat) (row:List C) (f:Nat→Value):ok b→b<w.heap.size→(∀ j,j<row.length→w.cell? ⟨b,o+j,none⟩=some (f j)) →
   (∀ (j:Nat) (x:C),row[j]? =some x→Rep w ok (f j) x)→Rep w ok (.pointer (some ⟨b,o,none⟩)) (.pt row)
 |enil:Rep w ok .nilIface (.err .nil)
 |eint (t:TypeId) (k:IntKind) (n:Int):Rep w ok (.iface t (.int k n)) (.err (.int t k n))
 |eany (t:TypeId) (x:Value):Rep w ok (.iface t x) (.err .any)
 |mp (b:Nat) (ks:List Int):ok b→b<w.heap.size→bEd w b ks→Rep w ok (.map (some b)) (.mp ks)
theorem aEf {w w':World} {b o:Nat} (h:w'.heap[b]? =w.heap[b]?):w'.cell? ⟨b,o,none⟩=w.cell? ⟨b,o,none⟩:=by
 simp[World.cell?,h]
theorem Rep.mono {w w':World} {ok ok':Nat→Prop} {v:Value} {c:C} (h:Rep w ok v c)
  (hok:∀ b,ok b→b<w.heap.size→ok' b∧w'.heap[b]? =w.heap[b]?) (hs:w.heap.size≤w'.heap.size):Rep w' ok' v c:=by
 induction h with
 |int k n=>exact .int k n
 |bool t=>exact .bool t
 |str s=>exact .str s
 |emp a c=>exact .emp a c
 |sl b o n c sz rows f h1 h2 h3 h4 h5 h6 _ ih =>
  obtain⟨ho,he⟩:=hok b h3 h4
  exact .sl b o n c sz rows f h1 h2 ho (by omega) h5 (fun j hj=>by rw[aEf he];exact h6 j hj) ih
 |fn g vs caps h1 _ ih=>exact .fn g vs caps h1 ih
 |pt b o row f h1 h2 h3 _ ih =>
  obtain⟨ho,he⟩:=hok b h1 h2
  exact .pt b o row f ho (by omega) (fun j hj=>by rw[aEf he];exact h3 j hj) ih
 |enil=>exact .enil
 |eint t k n=>exact .eint t k n
 |eany t x=>exact .eany t x
 |mp b ks h1 h2 h3 =>
  obtain⟨ho,he⟩:=hok b h1 h2
  exact .mp b ks ho (by omega) (h3.mono he)
theorem Rep.one {w:World} {ok:Nat→Prop} {v:Value} {c:C} (h:Rep w ok v c):v.oneCell'=true:=by
 cases h<;>rfl
def u8s (l:List Int):List C:=l.map (C.int .u8)
def bTn (l:List Int):List C:=l.map (C.int .u64)
def bJp:List Int:=[0,1,28,2,29,14,24,3,30,22,20,15,25,17,4,8,31,27,13,23,21,19,16,7,26,12,18,6,11,5,10,9]
def bJo:List Int:=[0,1,56,2,57,49,28,3,61,58,42,50,38,29,17,4,62,47,59,36,45,43,51,22,53,39,33,30,24,18,12,5,63,55,48,27,60,41,37,16,46,35,44,21,52,32,23,11,54,26,40,15,34,20,31,10,25,14,19,9,13,8,7,6]
def aL0:List Int:=[1,10,100,1000,10000,100000,1000000,10000000,100000000,1000000000,10000000000,100000000000,1000000000000,10000000000000,100000000000000,1000000000000000,10000000000000000,100000000000000000,1000000000000000000,10000000000000000000]
def aNt (s:String):Option (List C) :=
 if s = "math/bits.deBruijn32tab" then some (u8s bJp)
 else if s = "math/bits.deBruijn64tab" then some (u8s bJo)
 else if s = "internal/strconv.uint64pow10" then some (bTn aL0)
 else if s = "strconv.ErrSyntax" then some [.err .any]
 else if s = "strconv.ErrRange" then some [.err .any]
 else none
def bN4 (P:Program) (g:Nat) (row:List C):Prop:=∃ gi,P.globals[g]? =some gi∧aNt gi.name=some row
def aMy (P:Program) (w:World) (ok:Nat→Prop):Prop :=
 ∀ g row,bN4 P g row→(ok g∧(row=bTn aL0→∃ E fr,w.heap[g]? =some (.cells (aL0.map fun z=>Value.int .u64 z).toArray E fr)))∧∀ (j:Nat) (x:C),row[j]? =some x→∃ u,w.cell? ⟨g,j,none⟩=some u∧Rep w ok u x
structure Ctx where
 P:Program
 w0:World
 okR:Nat→Prop
 pb:List (Option Nat)
 old:∀ b,okR b→b<w0.heap.size∧some b∉pb
 oldpb:∀ b,some b∈pb→b<w0.heap.size
 glob:aMy P w0 okR
 gh:Nat→Option Obj
 ghge:∀ b o,gh b=some o→w0.heap.size≤b
abbrev aCq:=List (Nat×Blk)
abbrev aCr:=Nat→Option Nat
def okA (c:Ctx) (b:Nat):Prop:=c.okR b∨(c.w0.heap.size≤b∧c.gh b=none)
def Blk.isBox:Blk→Bool | .box _=>true | _=>false
def Blk.isFro:Blk→Bool | .fro _ _=>true | _=>false
def okD (c:Ctx) (h:aCq) (β:aCr) (b:Nat):Prop:=okA c b∧∀ id blk,h.lookup id=some blk→blk.isFro=false→β id≠some b
def aFd (n:Nat) (fr:Nat×Nat):Prop:=∀ j,j<n→¬(fr.1≤j∧j<fr.2)
def bd (sz n:Nat):Nat:=if sz=1 then n else n+1
theorem aFd.lt {sz n:Nat} {fr:Nat×Nat} (h:aFd (bd sz n) fr):aFd n fr:=fun j hj=>h j (by unfold bd;split<;>omega)
def bIt (w:World) (ob:Option Nat) (sz:Nat) (v:Value) (off n:Nat):Prop :=
 (∃ a,v=.slice a 0 0∧n=0) ∨
 ∃ b c cur E fr,ob=some b∧v=.slice (some ⟨b,off*sz,none⟩) n c∧n≤c∧w.heap[b]? =some (.cells cur E fr)∧aFd (bd sz cur.size) fr∧(off+c)*sz≤cur.size
def aMq (ok:Nat→Prop) (w:World) (h:aCq) (nx:Nat) (β:aCr) (v:Value):Sum Nat C→Prop
 |.inl id=>id<nx∧v.oneCell'=true∧(∀ cells,h.lookup id=some (.box cells)→∃ b,β id=some b∧v=.pointer (some ⟨b,0,none⟩))∧∀ t e row,h.lookup id=some (.bld t e row)→∃ b,β id=some b∧v=.pointer (some ⟨b,0,none⟩)
 |.inr c=>Rep w ok v c
def aI5 (ok:Nat→Prop) (w:World) (h:aCq) (nx:Nat) (β:aCr) (v:Value):L→Prop
 |.i k n=>v=.int k n
 |.b t=>v=.bool t
 |.s l=>∃ s:ByteArray,v=.string s∧s.data.toList=l
 |.sl rows=>Rep w ok v (.sl rows)
 |.sn b rows=>Rep w ok v (.sl rows)∧∃ a n m,v=.slice a n m∧a.isNone=b
 |.nil=>v=.slice none 0 0
 |.ref id off n=>id<nx∧v.oneCell'=true∧∀ blk sz rows,h.lookup id=some blk→blk.rows? =some (sz,rows)→off+n≤rows.length∧bIt w (β id) sz v off n
 |.ptr id off=>id<nx∧v.oneCell'=true∧(∀ cells,h.lookup id=some (.box cells)→∃ b,β id=some b∧v=.pointer (some ⟨b,off,none⟩))∧∀ t e row,h.lookup id=some (.bld t e row)→∃ b,β id=some b∧v=.pointer (some ⟨b,off,none⟩)
 |.eptr id r off=>id<nx∧v.oneCell'=true∧∀ sz rows,h.lookup id=some (.arr sz rows)→∃ b,β id=some b∧v=.pointer (some ⟨b,r*sz+off,none⟩)
 |.rp row off=>∃ b o,v=.pointer (some ⟨b,o,none⟩)∧ok b∧b<w.heap.size∧∀ (j:Nat) (x:C),row[off+j]? =some x→∃ u,w.cell? ⟨b,o+j,none⟩=some u∧Rep w ok u x
 |.fn g caps=>Rep w ok v (.fn g caps)
 |.e x=>Rep w ok v (.err x)
 |.m ks=>Rep w ok v (.mp ks)
 |.mref id=>id<nx∧v.oneCell'=true∧∀ ks,h.lookup id=some (.mset ks)→∃ b,β id=some b∧v=.map (some b)
 |.clo g caps=>∃ vs:List Value,v=.func (.func g) #[] vs.toArray∧vs.length=caps.length∧∀ (i:Nat) (u:Value) (x:Sum Nat C),vs[i]? =some u→caps[i]? =some x→aMq ok w h nx β u x
 |.und=>v=undef
 |.none'=>True
def aJ9 (ok:Nat→Prop) (w:World) (h:aCq) (nx:Nat) (β:aCr) (vs:Array Value) (xs:List L):Prop :=
 vs.size=xs.length∧∀ (j:Nat) (x:L),xs[j]? =some x→∃ u,vs[j]? =some u∧aI5 ok w h nx β u x
def bIs (ok:Nat→Prop) (w:World) (h:aCq) (nx:Nat) (β:aCr) (v:Value):Bool→List L→Prop
 |true,xs=>∃ vs,v=.agg vs∧aJ9 ok w h nx β vs xs
 |false,xs=>∃ x,xs=[x]∧aI5 ok w h nx β v x
def aFs (ok:Nat→Prop) (w:World) (h:aCq) (nx:Nat) (β:aCr) (v:Value):W→Prop
 |.l x=>aI5 ok w h nx β v x
 |.agg xs=>bIs ok w h nx β v true xs
 |.bz _=>v=.agg #[.pointer none,.slice none 0 0]
 |.tup ps=>∃ vs:Array Value,v=.tuple vs∧vs.size=ps.length∧∀ (j:Nat) (p:Bool×List L),ps[j]? =some p→∃ u,vs[j]? =some u∧bIs ok w h nx β u p.1 p.2
def aGg (ok:Nat→Prop) (w:World) (ob:Option Nat) (sz:Nat) (rows:List (List C)):Prop :=
 (∀ r,r∈rows→r.length=sz)∧(rows=[]∨∃ b cur E fr,ob=some b∧w.heap[b]? =some (.cells cur E fr)∧aFd (bd sz cur.size) fr∧rows.length*sz≤cur.size ∧
  ∀ (i:Nat) (r:List C) (j:Nat) (x:C),rows[i]? =some r→r[j]? =some x→∃ v,cur[i*sz+j]? =some v∧Rep w ok v x)
def aO6 (ok:Nat→Prop) (w:World) (h:aCq) (nx:Nat) (β:aCr) (ob:Option Nat):Blk→Prop
 |.box cells=>∃ b cur E fr,ob=some b∧w.heap[b]? =some (.cells cur E fr)∧aFd cur.size fr∧aJ9 ok w h nx β cur cells
 |.arr sz rows | .fro sz rows=>aGg ok w ob sz rows
 |.bld t e row=>∃ b p u,ob=some b∧w.heap[b]? =some (.cells #[p,u] t (0,0))∧(p=.pointer none∨p=.pointer (some ⟨b,0,none⟩)) ∧
  (row=none→u=.slice none 0 0)∧∀ id,row=some id→id<nx∧(∀ t2 e2 r2,h.lookup id≠some (.bld t2 e2 r2))∧∀ e' bs,h.lookup id=some (.own e' bs)→(e'=e∨e'=0)∧∃ g cur E fr,β id=some g∧w.heap[g]? =some (.cells cur E fr)∧u=.slice (some ⟨g,0,none⟩) bs.length cur.size
 |.mset ks=>∃ b,ob=some b∧bEd w b ks
 |.own e bs=>∃ g cur E fr,ob=some g∧w.heap[g]? =some (.cells cur E fr)∧(e≠0→E=e∧fr=(0,0))∧bs.length≤cur.size∧cur.size≤maxLen∧cur.toList.take bs.length=bs.map fun x=>Value.int .u8 x.toNat
structure aB7 (c:Ctx) (w:World) (h:aCq) (nx:Nat) (β:aCr):Prop where
 blk:∀ id b,h.lookup id=some b→id<nx∧aO6 (okD c h β) w h nx β (β id) b
 place:∀ id x b,h.lookup id=some x→β id=some b→(c.w0.heap.size≤b∨(some b∈c.pb∧x.isFro=false))∧b<w.heap.size
 inj:∀ id id' x x' b,h.lookup id=some x→h.lookup id'=some x'→β id=some b→β id'=some b→id=id'
 size:c.w0.heap.size≤w.heap.size
 frame:∀ b,b<c.w0.heap.size→some b∉c.pb→w.heap[b]? =c.w0.heap[b]?
 os:w.os=c.w0.os
 out:w.output=c.w0.output
 pbs:∀ b,some b∈c.pb→∀ cur E fr,c.w0.heap[b]? =some (.cells cur E fr)→∃ cur',w.heap[b]? =some (.cells cur' E fr)∧cur'.size=cur.size
 gh:∀ b o,c.gh b=some o→w.heap[b]? =some o∧∀ id x,h.lookup id=some x→β id≠some b
theorem aB7.fresh {c:Ctx} {w:World} {h:aCq} {nx:Nat} {β:aCr} (hh:aB7 c w h nx β) {b:Nat} (hb:w.heap.size≤b):c.gh b=none:=by
 cases hg:c.gh b with
 |none=>rfl
 |some o=>have:=(Array.getElem?_eq_some_iff.1 (hh.gh b o hg).1).1;omega
theorem aB7.nogh {c:Ctx} {w:World} {h:aCq} {nx:Nat} {β:aCr} (hh:aB7 c w h nx β) {b id:Nat} {x:Blk} (hl:h.lookup id=some x) (hb:β id=some b):c.gh b=none:=by
 cases hg:c.gh b with
 |none=>rfl
 |some o=>exact absurd hb ((hh.gh b o hg).2 id x hl)
def aAf:Blk→Blk→Prop
 |.box cells,.box cells'=>cells'.length=cells.length
 |.arr sz rows,.arr sz' rows' | .arr sz rows,.fro sz' rows' | .fro sz rows,.fro sz' rows'=>sz'=sz∧rows'.length=rows.length
 |.bld t e _,.bld t' e' _=>t'=t∧e'=e
 |.own e bs,.own e' bs'=>e'=e∧bs'.length=bs.length
 |.mset _,.mset _=>True
 |_,_=>False
theorem aAf.refl (b:Blk):aAf b b:=by cases b<;>simp[aAf]
theorem aAf.trans {a b d:Blk} (h:aAf a b) (h':aAf b d):aAf a d:=by
 cases a<;>cases b<;>cases d<;>simp_all [aAf]
theorem aAf.rows {a b:Blk} (h:aAf a b) {sz:Nat} {rows':List (List C)} (hb:b.rows? =some (sz,rows')):∃ rows,a.rows? =some (sz,rows)∧rows'.length=rows.length:=by
 cases a<;>cases b<;>simp_all [aAf,Blk.rows?]<;>(obtain⟨rfl,rfl⟩:=hb;exact⟨_,⟨h.1.symm,rfl⟩,h.2⟩)
structure aUp (c d:Ctx) (w:World) (h:aCq) (nx:Nat) (β:aCr) (w':World) (h':aCq) (nx':Nat) (β':aCr):Prop where
 nxle:nx≤nx'
 szle:w.heap.size≤w'.heap.size
 data:∀ b,okD c h β b→b<w.heap.size→okD d h' β' b∧w'.heap[b]? =w.heap[b]?
 site:∀ id x',id<nx→h'.lookup id=some x'→β' id=β id∧∃ x,h.lookup id=some x∧aAf x x'
 cells:∀ id x b cur E fr,id<nx→h'.lookup id=some x→β id=some b→w.heap[b]? =some (.cells cur E fr)→∃ cur',w'.heap[b]? =some (.cells cur' E fr)∧cur'.size=cur.size
abbrev Ext (c:Ctx) (w:World) (h:aCq) (nx:Nat) (β:aCr) (w':World) (h':aCq) (nx':Nat) (β':aCr):Prop:=aUp c c w h nx β w' h' nx' β'
theorem Ext.refl (c:Ctx) (w:World) (h:aCq) (nx:Nat) (β:aCr):Ext c w h nx β w h nx β :=
 ⟨Nat.le_refl _,Nat.le_refl _,fun _ hb _=>⟨hb,rfl⟩,fun _ x _ hx=>⟨rfl,x,hx,aAf.refl x⟩,fun _ _ _ cur _ _ _ _ _ h=>⟨cur,h,rfl⟩⟩
theorem aUp.trans {c d e:Ctx} {w w1 w2:World} {h h1 h2:aCq} {nx nx1 nx2:Nat} {β β1 β2:aCr} (a:aUp c d w h nx β w1 h1 nx1 β1) (b:aUp d e w1 h1 nx1 β1 w2 h2 nx2 β2) :
  aUp c e w h nx β w2 h2 nx2 β2:=by
 refine⟨Nat.le_trans a.nxle b.nxle,Nat.le_trans a.szle b.szle,?_,?_,?_⟩
 ·intro x hd hlt
  obtain⟨h1',e1⟩:=a.data x hd hlt
  obtain⟨h2',e2⟩:=b.data x h1' (Nat.lt_of_lt_of_le hlt a.szle)
  exact⟨h2',e2.trans e1⟩
 ·intro id x' hid hx
  obtain⟨e2,x1,hx1,s2⟩:=b.site id x' (Nat.lt_of_lt_of_le hid a.nxle) hx
  obtain⟨e1,x0,hx0,s1⟩:=a.site id x1 hid hx1
  exact⟨e2.trans e1,x0,hx0,s1.trans s2⟩
 ·intro id x d cur E fr hid hx hβ hw
  obtain⟨_,x1,hx1,_⟩:=b.site id x (Nat.lt_of_lt_of_le hid a.nxle) hx
  obtain⟨e1,_,_,_⟩:=a.site id x1 hid hx1
  obtain⟨c1,hc1,s1⟩:=a.cells id x1 d cur E fr hid hx1 hβ hw
  obtain⟨c2,hc2,s2⟩:=b.cells id x d c1 E fr (Nat.lt_of_lt_of_le hid a.nxle) hx (e1.trans hβ) hc1
  exact⟨c2,hc2,s2.trans s1⟩
section
variable {c d:Ctx} {w w':World} {h h':aCq} {nx nx':Nat} {β β':aCr}
theorem aUp.rep (e:aUp c d w h nx β w' h' nx' β') {v:Value} {x:C} (r:Rep w (okD c h β) v x):Rep w' (okD d h' β') v x:=r.mono e.data e.szle
theorem aUp.hdr (e:aUp c d w h nx β w' h' nx' β') {id:Nat} {x':Blk} (hid:id<nx) (hx:h'.lookup id=some x') {sz:Nat} {v:Value} {off n:Nat} (hh:bIt w (β id) sz v off n):bIt w' (β' id) sz v off n:=by
 rcases hh with ha | ⟨b,cc,cur,E,fr,hb,hv,hn,hw,ht,hl⟩
 ·exact .inl ha
 ·obtain⟨c2,hc2,s2⟩:=e.cells id x' b cur E fr hid hx hb hw
  refine .inr ⟨b,cc,c2,E,fr,(e.site id x' hid hx).1.trans hb,hv,hn,hc2,?_,by omega⟩
  rw[s2];exact ht
theorem aUp.repL (e:aUp c d w h nx β w' h' nx' β') {v:Value} {x:L} (r:aI5 (okD c h β) w h nx β v x):aI5 (okD d h' β') w' h' nx' β' v x:=by
 cases x with
 |sl rows=>exact e.rep r
 |sn b rows=>exact⟨e.rep r.1,r.2⟩
 |fn g caps=>exact e.rep r
 |e x=>exact e.rep r
 |ref id off n =>
  obtain⟨hid,h1c,hr⟩:=r
  refine⟨Nat.lt_of_lt_of_le hid e.nxle,h1c,fun blk sz rows hl hr'=>?_⟩
  obtain⟨_,x0,hx0,s⟩:=e.site id blk hid hl
  obtain⟨rows0,h0,hlen⟩:=s.rows hr'
  obtain⟨h1,h2⟩:=hr x0 sz rows0 hx0 h0
  exact⟨by omega,e.hdr hid hl h2⟩
 |ptr id off =>
  obtain⟨hid,h1c,hr,hr2⟩:=r
  refine⟨Nat.lt_of_lt_of_le hid e.nxle,h1c,fun cells hl=>?_,fun t e0 row hl=>?_⟩
  ·obtain⟨eb,x0,hx0,s⟩:=e.site id _ hid hl
   cases x0 with
   |box c0=>obtain⟨b,hb,hv⟩:=hr c0 hx0;exact⟨b,eb.trans hb,hv⟩
   |arr sz rows=>simp[aAf]at s
   |fro sz rows=>simp[aAf]at s
   |bld t e2 row2=>simp[aAf]at s
   |own e2 bs2=>simp[aAf]at s
   |mset _=>simp[aAf]at s
  ·obtain⟨eb,x0,hx0,s⟩:=e.site id _ hid hl
   cases x0 with
   |bld t0 e1 row0=>obtain⟨b,hb,hv⟩:=hr2 t0 e1 row0 hx0;exact⟨b,eb.trans hb,hv⟩
   |arr sz rows=>simp[aAf]at s
   |fro sz rows=>simp[aAf]at s
   |box c0=>simp[aAf]at s
   |own e2 bs2=>simp[aAf]at s
   |mset _=>simp[aAf]at s
 |eptr id r0 off =>
  obtain⟨hid,h1c,hr⟩:=r
  refine⟨Nat.lt_of_lt_of_le hid e.nxle,h1c,fun sz rows hl=>?_⟩
  obtain⟨eb,x0,hx0,s⟩:=e.site id _ hid hl
  cases x0 with
  |box c0=>simp[aAf]at s
  |arr sz0 rows0=>obtain⟨b,hb,hv⟩:=hr sz0 rows0 hx0;simp[aAf]at s;obtain⟨rfl,_⟩:=s;exact⟨b,eb.trans hb,hv⟩
  |fro sz0 rows0=>simp[aAf]at s
  |bld t e2 row2=>simp[aAf]at s
  |own e2 bs2=>simp[aAf]at s
  |mset _=>simp[aAf]at s
 |rp row off =>
  obtain⟨b,o,hv,hok,hlt,hr⟩:=r
  obtain⟨h1,h2⟩:=e.data b hok hlt
  refine⟨b,o,hv,h1,Nat.lt_of_lt_of_le hlt e.szle,fun j x hx=>?_⟩
  obtain⟨u,hu,hrep⟩:=hr j x hx
  exact⟨u,by rw[aEf h2];exact hu,e.rep hrep⟩
 |clo g caps =>
  obtain⟨vs,h1,h2,h3⟩:=r
  refine⟨vs,h1,h2,fun i u x hu hx=>?_⟩
  have:=h3 i u x hu hx
  cases x with
  |inr y=>exact e.rep this
  |inl id =>
   obtain⟨hid,h1c,hr,hr2⟩:=this
   refine⟨Nat.lt_of_lt_of_le hid e.nxle,h1c,fun cells hl=>?_,fun t e0 row hl=>?_⟩
   ·obtain⟨eb,x0,hx0,s⟩:=e.site id _ hid hl
    cases x0 with
    |box c0=>obtain⟨b,hb,hv⟩:=hr c0 hx0;exact⟨b,eb.trans hb,hv⟩
    |arr sz rows=>simp[aAf]at s
    |fro sz rows=>simp[aAf]at s
    |bld t e2 row2=>simp[aAf]at s
    |own e2 bs2=>simp[aAf]at s
    |mset _=>simp[aAf]at s
   ·obtain⟨eb,x0,hx0,s⟩:=e.site id _ hid hl
    cases x0 with
    |bld t0 e1 row0=>obtain⟨b,hb,hv⟩:=hr2 t0 e1 row0 hx0;exact⟨b,eb.trans hb,hv⟩
    |arr sz rows=>simp[aAf]at s
    |fro sz rows=>simp[aAf]at s
    |box c0=>simp[aAf]at s
    |own e2 bs2=>simp[aAf]at s
    |mset _=>simp[aAf]at s
 |m ks=>exact e.rep r
 |mref id =>
  obtain⟨hid,h1c,hr⟩:=r
  refine⟨Nat.lt_of_lt_of_le hid e.nxle,h1c,fun ks hl=>?_⟩
  obtain⟨eb,x0,hx0,s⟩:=e.site id _ hid hl
  cases x0 with
  |mset k0=>obtain⟨b,hb,hv⟩:=hr k0 hx0;exact⟨b,eb.trans hb,hv⟩
  |box c0=>simp[aAf]at s
  |arr sz0 rows0=>simp[aAf]at s
  |fro sz0 rows0=>simp[aAf]at s
  |bld t e2 row2=>simp[aAf]at s
  |own e2 bs2=>simp[aAf]at s
 |i k n=>exact r
 |b t=>exact r
 |s l=>exact r
 |nil=>exact r
 |und=>exact r
 |none'=>exact r
theorem aUp.repLs (e:aUp c d w h nx β w' h' nx' β') {vs:Array Value} {xs:List L} (r:aJ9 (okD c h β) w h nx β vs xs):aJ9 (okD d h' β') w' h' nx' β' vs xs :=
 ⟨r.1,fun j x hx=>let⟨u,hu,hr⟩:=r.2 j x hx;⟨u,hu,e.repL hr⟩⟩
theorem aUp.repP (e:aUp c d w h nx β w' h' nx' β') {v:Value} {a:Bool} {xs:List L} (r:bIs (okD c h β) w h nx β v a xs):bIs (okD d h' β') w' h' nx' β' v a xs:=by
 cases a with
 |true=>obtain⟨vs,hv,hr⟩:=r;exact⟨vs,hv,e.repLs hr⟩
 |false=>obtain⟨x,hx,hr⟩:=r;exact⟨x,hx,e.repL hr⟩
theorem aUp.repW (e:aUp c d w h nx β w' h' nx' β') {v:Value} {x:W} (r:aFs (okD c h β) w h nx β v x):aFs (okD d h' β') w' h' nx' β' v x:=by
 cases x with
 |l x=>exact e.repL r
 |agg xs=>exact e.repP (a:=true) r
 |tup ps=>obtain⟨vs,hv,hs,hr⟩:=r;exact⟨vs,hv,hs,fun j p hp=>let⟨u,hu,hr'⟩:=hr j p hp;⟨u,hu,e.repP hr'⟩⟩
 |bz t=>exact r
end
structure Rel (c:Ctx) (σ:St) (β:aCr) (a:Act) (w:World):Prop where
 heap:aB7 c w σ.heap σ.next β
 slot:∀ t,aFs (okD c σ.heap β) w σ.heap σ.next β (a.tmps.getD t undef) (σ.get t)
 defers:a.defers=[]
 pins:∀ (j:Nat) (id:Nat),σ.pins[j]? =some id→id<σ.next∧(∃ x,σ.heap.lookup id=some x∧x.isFro=false)∧c.pb[j]? =some (β id)
 npins:σ.pins.length=c.pb.length
end Go.Proofs.YtigodjkegcibhaaGreatDoor.V
