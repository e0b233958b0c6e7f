import Derived.Calls
import Derived.ArgAppend
import Derived.Laws.OwnMore
import Derived.Laws.Rows
import Derived.Tactics
import Derived.Laws.StructEq
import Derived.Laws.BytesString
import Derived.Laws.Tables
import Derived.Laws.MakeOwn
set_option linter.unusedVariables false
namespace Go.Eng
open Go
inductive Ty where
 | unit | bool | int (k:IntKind) | str | slice (t:Ty) | pair (a b:Ty) | ptr | func | other
 deriving DecidableEq
@[reducible] def Ty.den:Ty→Type
 | .bool=>Bool
 | .int _=>Int
 | .str=>ByteArray
 | .slice t=>List t.den
 | .pair a b=>a.den×b.den
 | _=>Unit
def Ty.size:Ty→Nat
 | .unit=>0
 | .pair a b=>a.size + b.size
 | _=>1
def Ty.elemSize:Ty→Nat | .slice e=>e.size | _=>0
def Ty.dflt:(t:Ty)→t.den
 | .bool=>false
 | .int _=>(0:Int)
 | .str=>ByteArray.empty
 | .slice _=>[]
 | .pair a b=>(a.dflt,b.dflt)
 | .unit=>() | .ptr=>() | .func=>() | .other=>()
def Ty.plain:Ty→Bool
 | .bool=>true | .int _=>true | .str=>true | .slice _=>true | .unit=>true
 | .pair a b=>a.plain && b.plain
 | _=>false
inductive Cell where
 | dead
 | undef
 | nw (want:Bool)
 | kb (b:Bool)
 | bool (b:Bool)
 | int (k:IntKind) (n:Int)
 | str (s:ByteArray)
 | nilp
 | ptr (id off:Nat)
 | elt (id:Nat) (i:Int) (off:Nat)
 | felt (t:Ty) (x:t.den) (off:Nat)
 | sl (id:Nat)
 | sub (id:Nat) (lo hi:Int)
 | nilsl (t:Ty)
 | frz (t:Ty) (xs:List t.den)
 | func (f:Nat) (caps:List (Nat×Nat))
 | nilfunc
 | map (id:Nat)
 | ifp (t id off:Nat)
 | ifd (t:Nat) (ag:Bool) (ty:Ty) (x:ty.den)
 | nq (e:Bool)
inductive AV0 where
 | c (x:Cell)
 | agg (cs:List Cell)
inductive AV where
 | c (x:Cell)
 | agg (cs:List Cell)
 | tup (vs:List AV0)
structure GV where
 g:Nat
 want:Bool
 x:Cell
inductive Slot where
 | none
 | gone
 | box (cells:List Cell)
 | row (t:Ty) (xs:List t.den)
 | fro (t:Ty) (xs:List t.den)
 | mp (k v:Ty) (xs:List (k.den×v.den×Int)) (clk:Int)
 | nest (t:Ty) (xs:List t.den) (hole:Option (Int×Nat))
structure St where
 n:Nat
 m:Nat
 env:List (Nat×AV)
 genv:List (Nat×Option GV)
 heap:List (Nat×Slot)
def memN (n:Nat):List Nat→Bool | []=>false | m::r=>Nat.beq m n || memN n r
def disj (a b:List Nat):Bool:=
 match a with
 | []=>true
 | x::r=>!memN x b && disj r b
def look {α:Type} (d:α):List (Nat×α)→Nat→α
 | [],_=>d
 | (k,v)::r,n=>cond (Nat.beq k n) v (look d r n)
def Ty.zero:Ty→List Cell
 | .bool=>[.bool false]
 | .int k=>[.int k 0]
 | .str=>[.str ByteArray.empty]
 | .slice t=>[.nilsl t]
 | .pair a b=>a.zero++b.zero
 | .unit=>[]
 | .ptr=>[.nilp]
 | .func=>[.nilfunc]
 | .other=>[.dead]
def Ty.cells:(t:Ty)→t.den→List Cell
 | .bool,b=>[.bool b]
 | .int k,n=>[.int k n]
 | .str,s=>[.str s]
 | .slice t,xs=>[.frz t xs]
 | .pair a b,x=>a.cells x.1++b.cells x.2
 | .unit,_=>[]
 | .ptr,_=>[.dead]
 | .func,_=>[.dead]
 | .other,_=>[.dead]
def castRow (t t':Ty) (xs:List t.den):Option (List t'.den):=
 match decEq t t' with
 | isTrue h=>some (h ▸ xs)
 | isFalse _=>none
def Ty.ofCells:(t:Ty)→List Cell→Option (t.den×List Cell)
 | .bool,.bool b::r=>some (b,r)
 | .bool,.kb b::r=>some (b,r)
 | .int k,.int k' n::r=>if k=k' then some (n,r) else none
 | .str,.str s::r=>some (s,r)
 | .slice t,.frz t' xs::r=>match castRow t' t xs with | some ys=>some (ys,r) | none=>none
 | .slice _,.nilsl _::r=>some ([],r)
 | .pair a b,cs=>match a.ofCells cs with
  | some (x,r)=>match b.ofCells r with
   | some (y,r')=>some ((x,y),r')
   | none=>none
  | none=>none
 | .unit,r=>some ((),r)
 | _,_=>none
def Ty.flat:Ty→Bool
 | .bool=>true | .int _=>true | .str=>true | .unit=>true
 | .pair a b=>a.flat && b.flat
 | _=>false
def Ty.nestOk:Ty→Bool
 | .slice e=>e.flat
 | .pair a b=>a.nestOk && b.nestOk
 | .bool=>true | .int _=>true | .str=>true | .unit=>true
 | _=>false
def leafAt:(t:Ty)→Nat→t.den→Option ((e:Ty)×List e.den)
 | .slice e,0,xs=>some ⟨e,xs⟩
 | .pair a b,n,x=>cond (Nat.blt n a.size) (leafAt a n x.1) (leafAt b (n - a.size) x.2)
 | _,_,_=>none
def setLeaf:(t:Ty)→Nat→t.den→(e:Ty)→List e.den→Option t.den
 | .slice e,0,_,e',ys=>castRow e' e ys
 | .pair a b,n,x,e',ys=>cond (Nat.blt n a.size) (match setLeaf a n x.1 e' ys with | some y=>some (y,x.2) | none=>none) (match setLeaf b (n - a.size) x.2 e' ys with | some y=>some (x.1,y) | none=>none)
 | _,_,_,_,_=>none
def keq:(t:Ty)→t.den→t.den→Bool
 | .int _,a,b=>@decide (@Eq Int a b) _
 | .str,a,b=>@decide (@Eq ByteArray a b) _
 | _,_,_=>false
def mFind (k v:Ty) (q:k.den):List (k.den×v.den×Int)→Option (v.den×Int)
 | []=>none
 | e::r=>match keq k q e.1 with | true=>some e.2 | false=>mFind k v q r
def mHas (k v:Ty) (xs:List (k.den×v.den×Int)) (q:k.den):Bool:=(mFind k v q xs).isSome
def mGet (k v:Ty) (xs:List (k.den×v.den×Int)) (q:k.den):v.den:=match mFind k v q xs with | some e=>e.1 | none=>v.dflt
def mStamp (k v:Ty) (xs:List (k.den×v.den×Int)) (clk:Int) (q:k.den):Int:=match mFind k v q xs with | some e=>e.2 | none=>clk
def mClk (k v:Ty) (xs:List (k.den×v.den×Int)) (clk:Int) (q:k.den):Int:=match mFind k v q xs with | some _=>clk | none=>clk + 1
def mPut (k v:Ty) (xs:List (k.den×v.den×Int)) (clk:Int) (q:k.den) (y:v.den):List (k.den×v.den×Int):=
 match xs with
 | []=>[(q,y,clk)]
 | e::r=>match keq k q e.1 with | true=>(q,y,e.2.2)::r | false=>e::mPut k v r clk q y
def mStamped (k v:Ty) (xs:List (k.den×v.den×Int)) (n:Int):Bool:=xs.any fun e=>decide (e.2.2=n)
def mStore (k v:Ty) (xs:List (k.den×v.den×Int)) (n:Int) (y:v.den):List (k.den×v.den×Int):=
 match xs with
 | []=>[]
 | e::r=>match decide (e.2.2=n) with | true=>(e.1,y,e.2.2)::r | false=>e::mStore k v r n y
def mDel (k v:Ty) (xs:List (k.den×v.den×Int)) (q:k.den):List (k.den×v.den×Int):=
 match xs with
 | []=>[]
 | e::r=>match keq k q e.1 with | true=>r | false=>e::mDel k v r q
def rd (t:Ty) (xs:List t.den) (i:Int):t.den:=xs.getD i.toNat t.dflt
inductive Pl:Type 1 where
 | fin (ts:List (Nat×AV)) (gs:List (Nat×Option GV)) (hs:List (Nat×Slot)) (rs:List (Nat×AV))
 | no
 | getT (t:Nat) (k:AV→Option GV→Pl)
 | getH (id:Nat) (k:Slot→Pl)
 | need (b:Bool) (k:Pl)
 | alt (b:Bool) (p q:Pl)
 | ask (α:Type) (o:Option α) (k:α→Pl)
structure TI where
 ok:Bool
 ty:Ty
 agg:Bool
 bytes:Nat
 offs:List (Nat×Nat)
 eq:Bool
 aggs:List (Option Bool)
 mp:Option (Ty×Ty)
 meths:List (String×Nat)
abbrev Out:=AV×List Slot
structure Ans:Type 1 where
 α:Type
 o:Option α
 out:α→Out
structure Ctx:Type 1 where
 ti:List (Nat×TI)
 modes:List (Nat×List (Nat×Ty))
 tbl:Nat→List AV→List Slot→Option Ans
 lv:List (Nat×List Nat)
def noTI:TI:=⟨false,.other,false,0,[],false,[],none,[]⟩
def Ctx.T (c:Ctx) (t:Nat):TI:=look noTI c.ti t
def withT (c:Ctx) (t:Nat) (k:TI→Pl):Pl:=cond (c.T t).ok (k (c.T t)) .no
def cvCell:Value→Cell
 | .bool b=>.kb b
 | .int k n=>.int k n
 | .string s=>.str s
 | .pointer none=>.nilp
 | .slice none 0 0=>.nilsl .other
 | .nilFunc=>.nilfunc
 | _=>.dead
def cv:Value→AV
 | .agg cs=>.agg (cs.toList.map cvCell)
 | v=>.c (cvCell v)
def memG (gl:List (Nat×Bool)) (g:Nat) (w:Bool):Bool:=
 match gl with
 | []=>false
 | p::r=>(Nat.beq p.1 g && (p.2 == w)) || memG r g w
def opd (gl:List (Nat×Bool)):Operand→(AV→Pl)→Pl
 | .tmp t,k=>.getT t fun v gv=>match gv with
  | none=>k v
  | some ⟨g,w,x⟩=>match memG gl g w with
   | true=>k (.c x)
   | false=>.getT g fun v gv=>match v,gv with
    | .c (.kb b),none=>cond (b == w) (k (.c x)) .no
    | _,_=>.no
 | .const v,k=>k (cv v)
 | .func f,k=>k (.c (.func f []))
 | .global _,_=>.no
def opds (gl:List (Nat×Bool)):List Operand→(List AV→Pl)→Pl
 | [],k=>k []
 | x::r,k=>opd gl x fun v=>opds gl r fun vs=>k (v::vs)
def bytesStr (xs:List Int):ByteArray:=xs.foldl (fun r n=>r.push (UInt8.ofNat n.toNat)) ByteArray.empty
def wrap (k:IntKind) (n:Int):Int:=k.wrap n
def br {α:Type} (c:Bool) (a b:α):α:=cond c a b
def bnd {α β:Type} (o:Option α) (k:α→Option β):Option β:=o.bind k
theorem bothEx:∃ f:(α:Type)→Option α→Option α→Option α,∀ (α:Type) (x y:Option α) (r:α),f α x y=some r↔(x=some r∧y=some r):=by
 classical
 refine ⟨fun α x y=>if x=y then x else none,fun α x y r=>?_⟩
 by_cases h:x=y
 ·subst h; simp
 ·simp only [if_neg h]
  constructor
  ·intro h; cases h
  ·rintro ⟨rfl,rfl⟩; exact absurd rfl h
noncomputable def both {α:Type} (x y:Option α):Option α:=Classical.choose bothEx α x y
theorem both_iff {α:Type} {x y:Option α} {r:α}:both x y=some r↔(x=some r∧y=some r):=Classical.choose_spec bothEx α x y r
def setAt {α:Type}:List α→Nat→List α→List α
 | xs,0,[]=>xs
 | xs,0,y::ys=>match xs with | _::r=>y::setAt r 0 ys | []=>[]
 | [],_ + 1,_=>[]
 | x::r,n + 1,ys=>x::setAt r n ys
def put (d:Option Nat) (v:AV):Pl:=
 match d with
 | some d=>.fin [(d,v)] [] [] []
 | none=>.fin [] [] [] []
def putH (d:Option Nat) (v:AV) (hs:List (Nat×Slot)):Pl:=
 match d with
 | some d=>.fin [(d,v)] [] hs []
 | none=>.fin [] [] hs []
def site (d:Nat) (j:Nat):Nat:=64 * d + j
def new (d:Option Nat) (s:Slot) (x:Nat→Cell) (hs:List (Nat×Slot)):Pl:=
 match d with
 | some d=>.getH (site d 0) fun
  | .none=>.fin [(d,.c (x (site d 0)))] [] (hs++[(site d 0,s)]) []
  | _=>.no
 | none=>.no
def Cell.solid:Cell→Bool
 | .dead=>false | .undef=>false | .nw _=>false | .nq _=>false
 | _=>true
def avCells:AV→Option (List Cell)
 | .c x=>cond x.solid (some [x]) none
 | .agg cs=>some cs
 | _=>none
def resolve:List Cell→(List Cell→List (Nat×Slot)→Pl)→Pl
 | [],k=>k [] []
 | .sl id::r,k=>.getH id fun
  | .row t xs=>resolve r fun cs hs=>k (.frz t xs::cs) ((id,.fro t xs)::hs)
  | .fro t xs=>resolve r fun cs hs=>k (.frz t xs::cs) hs
  | .nest t xs none=>resolve r fun cs hs=>k (.frz t xs::cs) ((id,.fro t xs)::hs)
  | _=>.no
 | .sub id lo hi::r,k=>.getH id fun
  | .row t xs=>resolve r fun cs hs=>k (.frz t ((xs.take hi.toNat).drop lo.toNat)::cs) ((id,.fro t xs)::hs)
  | .fro t xs=>resolve r fun cs hs=>k (.frz t ((xs.take hi.toNat).drop lo.toNat)::cs) hs
  | _=>.no
 | c::r,k=>resolve r fun cs hs=>k (c::cs) hs
def asB:Cell→Option Bool
 | .bool b=>some b
 | .kb b=>some b
 | _=>none
def isAll:List (Option Bool)→Option Bool
 | []=>some true
 | some b::r=>match isAll r with | some c=>some (b && c) | none=>none
 | none::_=>none
def eqC (t:Ty) (a b:Cell):Option Bool:=
 match t with
 | .bool=>match asB a,asB b with | some x,some y=>some (x == y) | _,_=>none
 | .str=>match a,b with | .str x,.str y=>some (decide (x=y)) | _,_=>none
 | _=>none
def Ty.leaves:Ty→List Ty
 | .pair a b=>a.leaves++b.leaves
 | .unit=>[]
 | t=>[t]
def eqCells:List Ty→List Cell→List Cell→Option Bool
 | [],[],[]=>some true
 | .int _::ks,.int k a::r,.int k' b::q=>match decide (k=k'),eqCells ks r q with | true,some z=>some (decide (a=b) && z) | _,_=>none
 | .bool::ks,x::r,y::q=>match asB x,asB y,eqCells ks r q with | some a,some b,some z=>some ((a == b) && z) | _,_,_=>none
 | .str::ks,.str a::r,.str b::q=>match eqCells ks r q with | some z=>some (decide (a=b) && z) | none=>none
 | _,_,_=>none
def bAnd (k:IntKind) (a b:Int):Int:=k.wrap ((BitVec.ofInt k.bits a &&& BitVec.ofInt k.bits b).toNat:Int)
def bOr (k:IntKind) (a b:Int):Int:=k.wrap ((BitVec.ofInt k.bits a ||| BitVec.ofInt k.bits b).toNat:Int)
def bXor (k:IntKind) (a b:Int):Int:=k.wrap ((BitVec.ofInt k.bits a ^^^ BitVec.ofInt k.bits b).toNat:Int)
def bAnn (k:IntKind) (a b:Int):Int:=k.wrap ((BitVec.ofInt k.bits a &&& ~~~BitVec.ofInt k.bits b).toNat:Int)
def ones:IntKind→Int
 | .u8=>255 | .u16=>65535 | .u32=>4294967295 | .u64=>18446744073709551615 | _=>-1
def arith (op:BinOp) (k:IntKind) (a b:Int) (fin:Cell→Pl):Pl:=
 match op with
 | .add=>fin (.int k (wrap k (a + b)))
 | .sub=>fin (.int k (wrap k (a - b)))
 | .mul=>fin (.int k (wrap k (a * b)))
 | .quo=>.need (!decide (b=0)) (fin (.int k (wrap k (a.tdiv b))))
 | .rem=>.need (!decide (b=0)) (fin (.int k (a.tmod b)))
 | .and=>fin (.int k (bAnd k a b))
 | .or=>fin (.int k (bOr k a b))
 | .xor=>fin (.int k (bXor k a b))
 | .andNot=>fin (.int k (bAnn k a b))
 | .eql=>fin (.bool (decide (a=b)))
 | .neq=>fin (.bool (!decide (a=b)))
 | .lss=>fin (.bool (decide (a < b)))
 | .leq=>fin (.bool (decide (a≤b)))
 | .gtr=>fin (.bool (decide (b < a)))
 | .geq=>fin (.bool (decide (b≤a)))
 | _=>.no
def shl (k:IntKind) (a b:Int):Int:=k.wrap (a * 2 ^ (min b.toNat k.bits))
def shr (k:IntKind) (a b:Int):Int:=a.fdiv (2 ^ (min b.toNat k.bits))
def binop (T:TI) (op:BinOp) (x y:AV) (fin:Cell→Pl):Pl:=
 match x,y with
 | .c (.int k a),.c (.int k' b)=>match op with
  | .shl=>.need (decide (0≤b)) (fin (.int k (shl k a b)))
  | .shr=>.need (decide (0≤b)) (fin (.int k (shr k a b)))
  | op=>cond (decide (k=k')) (arith op k a b fin) .no
 | .c a,.c b=>match op with
  | .eql=>match eqC T.ty a b with | some r=>fin (.bool r) | none=>.no
  | .neq=>match eqC T.ty a b with | some r=>fin (.bool (!r)) | none=>.no
  | .add=>match a,b with
   | .str a,.str b=>.need (decide (a.size + b.size < 9223372036854775807)) (fin (.str (a++b)))
   | _,_=>.no
  | .lss=>match a,b with
   | .str a,.str b=>fin (.bool (Op.bytesLess a.toList b.toList))
   | _,_=>.no
  | _=>.no
 | .agg a,.agg b=>match op with
  | .eql=>cond T.eq (match eqCells T.ty.leaves a b with | some r=>fin (.bool r) | none=>.no) .no
  | .neq=>cond T.eq (match eqCells T.ty.leaves a b with | some r=>fin (.bool (!r)) | none=>.no) .no
  | _=>.no
 | _,_=>.no
def isNilEq (op:BinOp) (T:TI) (w:AV):Bool:=
 match op,w,T.ty with
 | .eql,.c (.nilsl _),.slice _=>true
 | _,_,_=>false
def nilEq (v:AV) (k:Cell→Pl):Pl:=
 match v with
 | .c (.nilsl _)=>k (.kb true)
 | .c (.frz _ xs)=>k (.nq (decide (xs.length=0)))
 | .c (.sl id)=>.getH id fun
  | .row _ xs=>k (.nq (decide (xs.length=0)))
  | .fro _ xs=>k (.nq (decide (xs.length=0)))
  | _=>.no
 | _=>.no
def selB (v x y:Bool):Bool:=cond v x y
def pickB (v:Bool) (a b:Cell):Option Cell:=
 match a,b with
 | .kb true,.bool y=>some (.bool (v || y))
 | .bool x,.kb false=>some (.bool (v && x))
 | .kb true,.kb true=>some (.kb true)
 | .kb false,.kb false=>some (.kb false)
 | .kb true,.kb false=>some (.bool v)
 | .kb false,.kb true=>some (.bool (!v))
 | a,b=>match asB a,asB b with | some x,some y=>some (.bool (selB v x y)) | _,_=>none
def moreG (x:Operand) (b:Bool) (gl:List (Nat×Bool)):List (Nat×Bool):=
 match x with
 | .tmp t=>(t,b)::gl
 | _=>gl
def pickOf (v:Bool) (k:AV→Pl) (p q:AV):Pl:=
 match p with
 | .c .undef=>.need (!v) (k q)
 | .c a=>match q with
  | .c .undef=>.need v (k p)
  | .c b=>match pickB v a b with | some r=>k (.c r) | none=>.alt v (k p) (k q)
  | _=>.alt v (k p) (k q)
 | _=>match q with
  | .c .undef=>.need v (k p)
  | _=>.alt v (k p) (k q)
def pickPl (gl:List (Nat×Bool)) (x a b:Operand) (k:AV→Pl):Pl:=
 opd gl x fun
  | .c (.kb true)=>opd (moreG x true gl) a k
  | .c (.kb false)=>opd (moreG x false gl) b k
  | .c (.bool v)=>opd (moreG x true gl) a fun p=>opd (moreG x false gl) b fun q=>pickOf v k p q
  | _=>.no
def rowOf (x:Cell) (k:(t:Ty)→List t.den→Pl):Pl:=
 match x with
 | .sl id=>.getH id fun | .row t xs=>k t xs | .fro t xs=>k t xs | _=>.no
 | .sub id lo hi=>.getH id fun
  | .row t xs=>k t ((xs.take hi.toNat).drop lo.toNat)
  | .fro t xs=>k t ((xs.take hi.toNat).drop lo.toNat)
  | _=>.no
 | .frz t xs=>k t xs
 | .nilsl t=>k t []
 | _=>.no
def lenPl (x:AV) (k:Int→Pl):Pl:=
 match x with
 | .c (.sub id lo hi)=>.getH id fun | .row _ _=>k (hi - lo) | .fro _ _=>k (hi - lo) | _=>.no
 | .c (.sl id)=>.getH id fun | .row _ xs=>k xs.length | .fro _ xs=>k xs.length | .nest _ xs _=>k xs.length | _=>.no
 | .c x=>rowOf x fun _ xs=>k xs.length
 | _=>.no
def strLen (x:AV) (k:Int→Pl):Pl:=
 match x with
 | .c (.str s)=>k s.size
 | _=>.no
def bounds (lo hi:Option AV) (len:Int) (k:Int→Int→Pl):Pl:=
 match lo,hi with
 | none,none=>k 0 len
 | some (.c (.int _ a)),none=>.need (decide (0≤a∧a≤len)) (k a len)
 | none,some (.c (.int _ b))=>.need (decide (0≤b∧b≤len)) (k 0 b)
 | some (.c (.int _ a)),some (.c (.int _ b))=>.need (decide (0≤a∧a≤b∧b≤len)) (k a b)
 | _,_=>.no
def optOpd (gl:List (Nat×Bool)):Option Operand→(Option AV→Pl)→Pl
 | none,k=>k none
 | some x,k=>opd gl x fun v=>k (some v)
def slicePl (T:Ty) (x:AV) (lo hi:Option AV) (k:Cell→Pl):Pl:=
 match x with
 | .c (.str s)=>cond (decide (T = .str)) (bounds lo hi s.size fun a b=>k (.str (s.extract a.toNat b.toNat))) .no
 | .c (.frz t xs)=>cond (decide (T = .slice t)) (bounds lo hi xs.length fun a b=>k (.frz t ((xs.take b.toNat).drop a.toNat))) .no
 | .c (.nilsl e)=>match T with
  | .slice _=>bounds lo hi 0 fun _ _=>k (.nilsl e)
  | _=>.no
 | .c (.sub id l h)=>.getH id fun
  | .row t _=>cond (decide (T = .slice t)) (bounds lo hi (h - l) fun a b=>k (.sub id (l + a) (l + b))) .no
  | .fro t _=>cond (decide (T = .slice t)) (bounds lo hi (h - l) fun a b=>k (.sub id (l + a) (l + b))) .no
  | _=>.no
 | .c (.sl id)=>.getH id fun
  | .row t xs=>cond (decide (T = .slice t)) (bounds lo hi xs.length fun a b=>k (.sub id a b)) .no
  | .fro t xs=>cond (decide (T = .slice t)) (bounds lo hi xs.length fun a b=>k (.sub id a b)) .no
  | _=>.no
 | _=>.no
def idxPl (T:Ty) (x:Cell) (i:Int) (k:Cell→Pl):Pl:=
 match x with
 | .sl id=>.getH id fun
  | .row t xs=>cond (decide (T = .slice t)) (.need (decide (0≤i∧i < xs.length)) (k (.elt id i 0))) .no
  | .fro t xs=>cond (decide (T = .slice t)) (.need (decide (0≤i∧i < xs.length)) (k (.elt id i 0))) .no
  | .nest t xs _=>cond (decide (T = .slice t)) (.need (decide (0≤i∧i < xs.length)) (k (.elt id i 0))) .no
  | _=>.no
 | .sub id lo hi=>.getH id fun
  | .row t _=>cond (decide (T = .slice t)) (.need (decide (0≤i∧i < hi - lo)) (k (.elt id (lo + i) 0))) .no
  | .fro t _=>cond (decide (T = .slice t)) (.need (decide (0≤i∧i < hi - lo)) (k (.elt id (lo + i) 0))) .no
  | _=>.no
 | .frz t xs=>cond (decide (T = .slice t)) (.need (decide (0≤i∧i < xs.length)) (k (.felt t (rd t xs i) 0))) .no
 | _=>.no
def isFrz:Cell→Bool | .frz _ _=>true | .felt _ _ _=>true | _=>false
def nestLoad (d:Option Nat) (agg:Bool) (n id:Nat) (t:Ty) (xs:List t.den) (hole:Option (Int×Nat)) (i:Int) (off:Nat) (k:AV→Pl):Pl:=
 match agg with
 | true=>cond (Nat.ble (off + n) (t.cells (rd t xs i)).length && !((((t.cells (rd t xs i)).drop off).take n).any isFrz)) (k (.agg (((t.cells (rd t xs i)).drop off).take n))) .no
 | false=>match leafAt t off (rd t xs i) with
  | some ⟨e,ys⟩=>match hole with
   | none=>new d (.row e ys) .sl [(id,.nest t xs (some (i,off)))]
   | some _=>.no
  | none=>match (t.cells (rd t xs i)).drop off with | x::_=>cond (isFrz x) .no (k (.c x)) | []=>.no
def loadPl (d:Option Nat) (agg:Bool) (n:Nat) (a:Cell) (k:AV→Pl):Pl:=
 let out (cs:List Cell) (off:Nat):Pl:=
  match agg with
  | true=>cond (Nat.ble (off + n) cs.length) (k (.agg ((cs.drop off).take n))) .no
  | false=>match cs.drop off with | x::_=>k (.c x) | []=>.no
 match a with
 | .ptr id off=>.getH id fun | .box cs=>out cs off | _=>.no
 | .elt id i off=>.getH id fun | .row t xs=>out (t.cells (rd t xs i)) off | .fro t xs=>out (t.cells (rd t xs i)) off | .nest t xs hole=>nestLoad d agg n id t xs hole i off k | _=>.no
 | .felt t x off=>out (t.cells x) off
 | _=>.no
def nestPut (id:Nat) (t:Ty) (xs:List t.den) (hole:Option (Int×Nat)) (i:Int) (off:Nat) (e:Ty) (ys:List e.den) (hs:List (Nat×Slot)):Pl:=
 match setLeaf t off (rd t xs i) e ys with
 | some y=>match hole with
  | none=>.fin [] [] (hs++[(id,.nest t (xs.set i.toNat y) none)]) []
  | some (j,off')=>cond (Nat.beq off off') (.need (decide (i=j)) (.fin [] [] (hs++[(id,.nest t (xs.set i.toNat y) none)]) [])) .no
 | none=>.no
def flatCell:Cell→Bool | .bool _=>true | .kb _=>true | .int _ _=>true | .str _=>true | _=>false
def nestStore (id:Nat) (t:Ty) (xs:List t.den) (hole:Option (Int×Nat)) (i:Int) (off:Nat) (cs:List Cell):Pl:=
 match leafAt t off (rd t xs i),cs with
 | some ⟨e,_⟩,[c]=>match c with
  | .sl q=>.getH q fun | .row e' ys=>nestPut id t xs hole i off e' ys [(q,.gone)] | _=>.no
  | .sub q lo hi=>.getH q fun | .row e' ys=>nestPut id t xs hole i off e' ((ys.take hi.toNat).drop lo.toNat) [(q,.gone)] | _=>.no
  | .nilsl _=>nestPut id t xs hole i off e [] []
  | _=>.no
 | none,cs=>match hole with
  | none=>cond (cs.all flatCell && Nat.ble (off + cs.length) t.size) (match t.ofCells (setAt (t.cells (rd t xs i)) off cs) with
   | some (y,[])=>.fin [] [] [(id,.nest t (xs.set i.toNat y) none)] []
   | _=>.no) .no
  | some _=>.no
 | _,_=>.no
def storePl (n:Nat) (a:Cell) (cs:List Cell):Pl:=
 cond (Nat.beq cs.length n && cs.all Cell.solid) (match a with
 | .ptr id off=>.getH id fun
  | .box old=>cond (Nat.ble (off + cs.length) old.length) (.fin [] [] [(id,.box (setAt old off cs))] []) .no
  | _=>.no
 | .elt id i off=>.getH id fun
  | .nest t xs hole=>nestStore id t xs hole i off cs
  | _=>resolve cs fun cs hs=>.getH id fun
   | .row t xs=>cond (!memN id (hs.map (·.1)) && Nat.ble (off + cs.length) t.size) (match t.ofCells (setAt (t.cells (rd t xs i)) off cs) with
   | some (y,[])=>.fin [] [] (hs++[(id,.row t (xs.set i.toNat y))]) []
   | _=>.no) .no
   | _=>.no
 | _=>.no) .no
def live (p:Cell) (k:Pl):Pl:=
 match p with
 | .ptr id _=>.getH id fun | .box _=>k | _=>.no
 | .elt id _ _=>.getH id fun | .row _ _=>k | .fro _ _=>k | .nest _ _ _=>k | _=>.no
 | .felt _ _ _=>k
 | _=>.no
def shift (n:Nat):Cell→Cell
 | .ptr id off=>.ptr id (off + n)
 | .elt id i off=>.elt id i (off + n)
 | .felt t x off=>.felt t x (off + n)
 | c=>c
def fixNil (t:Ty):AV→AV
 | .c (.nilsl _)=>match t with | .slice e=>.c (.nilsl e) | _=>.c .dead
 | v=>v
def nthOff (l:List (Nat×Nat)) (n:Nat):Nat:=(l.getD n (0,0)).1
def fillParts (place:Nat→Option (Nat×Nat)) (cells:List Cell):List (Nat×AV)→Option (List Cell)
 | []=>some cells
 | (i,v)::r=>match avCells v,place i with
  | some cs,some (off,size)=>cond (Nat.beq cs.length size && Nat.ble (off + size) cells.length) (fillParts place (setAt cells off cs) r) none
  | _,_=>none
def opdParts (gl:List (Nat×Bool)):List (Nat×Operand)→(List (Nat×AV)→Pl)→Pl
 | [],k=>k []
 | (i,x)::r,k=>opd gl x fun v=>opdParts gl r fun vs=>k ((i,v)::vs)
def listOf (t:Ty):List Cell→Nat→Option (List t.den)
 | _,0=>some []
 | cs,n + 1=>match t.ofCells cs with
  | some (x,r)=>match listOf t r n with | some xs=>some (x::xs) | none=>none
  | none=>none
def zeros (z:List Cell):Nat→List Cell
 | 0=>[]
 | n + 1=>z++zeros z n
def Cell.ids:Cell→List Nat
 | .ptr id _=>[id] | .elt id _ _=>[id] | .sl id=>[id] | .sub id _ _=>[id] | .map id=>[id] | .ifp _ id _=>[id]
 | .func _ caps=>caps.map (·.1)
 | _=>[]
def AV0.cells:AV0→List Cell | .c x=>[x] | .agg cs=>cs
def AV.cells:AV→List Cell
 | .c x=>[x] | .agg cs=>cs | .tup vs=>vs.flatMap AV0.cells
def Slot.cells:Slot→List Cell | .box cs=>cs | _=>[]
def renCell (f:Nat→Nat):Cell→Cell
 | .ptr id o=>.ptr (f id) o | .elt id i o=>.elt (f id) i o | .sl id=>.sl (f id) | .sub id a b=>.sub (f id) a b
 | .map id=>.map (f id) | .ifp t id o=>.ifp t (f id) o
 | .func g caps=>.func g (caps.map fun p=>(f p.1,p.2))
 | c=>c
def renAV0 (f:Nat→Nat):AV0→AV0 | .c x=>.c (renCell f x) | .agg cs=>.agg (cs.map (renCell f))
def renAV (f:Nat→Nat):AV→AV
 | .c x=>.c (renCell f x) | .agg cs=>.agg (cs.map (renCell f)) | .tup vs=>.tup (vs.map (renAV0 f))
def renSlot (f:Nat→Nat):Slot→Slot | .box cs=>.box (cs.map (renCell f)) | s=>s
def gather:Nat→List Nat→List (Nat×Slot)→(List (Nat×Slot)→Pl)→Pl
 | 0,_,_,_=>.no
 | _ + 1,[],acc,k=>k acc
 | n + 1,id::r,acc,k=>match memN id (acc.map (·.1)) with
  | true=>gather n r acc k
  | false=>.getH id fun s=>match s with
   | .none=>.no
   | .gone=>gather n r acc k
   | s=>gather n (r++s.cells.flatMap Cell.ids) (acc++[(id,s)]) k
def passed (j:Nat):Nat:=128000000 + j
def index1:List Nat→Nat→Nat→Option Nat
 | [],_,_=>none
 | m::r,n,j=>match Nat.beq m n with | true=>some j | false=>index1 r n (j + 1)
def toPassed (ids:List Nat) (n:Nat):Nat:=match index1 ids n 0 with | some j=>passed j | none=>256000000
def fromPassed (ids:List Nat) (d:Nat) (n:Nat):Nat:=
 cond (Nat.ble 256000000 n) n (cond (Nat.ble 128000000 n) (match ids.drop (n - 128000000) with | m::_=>m | []=>site d (n - 128000000 - ids.length)) 256000000)
def zipNew (d:Nat):Nat→List Slot→List (Nat×Slot)
 | _,[]=>[]
 | j,s::r=>(site d j,s)::zipNew d (j + 1) r
def zip2:List Nat→List Slot→List (Nat×Slot)
 | a::r,s::t=>(a,s)::zip2 r t
 | _,_=>[]
def softCell:Cell→Cell | .kb b=>.bool b | .nilsl t=>.frz t [] | c=>c
def softArg:AV→AV
 | .c (.kb b)=>.c (.bool b)
 | .agg cs=>.agg (cs.map softCell)
 | v=>v
def loseCell:Cell→Cell
 | .sl _=>.sl 256000000 | .sub _ _ _=>.sl 256000000 | .frz _ _=>.sl 256000000 | .nilsl _=>.sl 256000000
 | c=>c
def viewArg (m:Ty) (v:AV) (k:AV→List (Nat×Slot)→Pl):Pl:=
 match m with
 | .slice t=>match v with
  | .c (.nilsl _)=>k (.c (.frz t [])) []
  | .c x=>resolve [x] fun cs hs=>match cs with | y::_=>k (.c y) hs | []=>.no
  | v=>k v []
 | .pair .func (.slice t)=>match v with
  | .c (.nilsl _)=>k (.c (.nilsl t)) []
  | v=>k (softArg v) []
 | .pair .other _=>match v with
  | .agg cs=>k (softArg (.agg (cs.map loseCell))) []
  | v=>k (softArg v) []
 | .pair _ _=>match v with
  | .agg cs=>resolve cs fun cs hs=>k (softArg (.agg cs)) hs
  | v=>k (softArg v) []
 | _=>k (softArg v) []
def viewArgs:Nat→List (Nat×Ty)→List AV→(List AV→List (Nat×Slot)→Pl)→Pl
 | _,_,[],k=>k [] []
 | i,ms,v::r,k=>viewArg (look .unit ms i) v fun v hs=>viewArgs (i + 1) ms r fun vs hs'=>k (v::vs) (hs++hs')
def Ty.deep:Ty→Bool | .slice _=>true | .pair a b=>a.deep || b.deep | _=>false
def Slot.deep:Slot→Bool | .box cs=>cs.any isFrz | .row t _=>t.deep | .fro _ _=>true | _=>false
def freshAll (d:Nat):Nat→Nat→Pl→Pl
 | _,0,k=>k
 | j,n + 1,k=>.getH (site d j) fun | .none=>freshAll d (j + 1) n k | _=>.no
def AV.frzs (v:AV):Bool:=v.cells.any isFrz
def backPl (d:Option Nat) (ids:List Nat) (vh:List (Nat×Slot)) (o:Out):Pl:=
 cond (Nat.ble ids.length o.2.length && Nat.ble o.2.length 1000) (freshAll (d.getD 0) 0 (o.2.length - ids.length)
  (putH d (renAV (fromPassed ids (d.getD 0)) o.1)
   ((zip2 ids (o.2.map (renSlot (fromPassed ids (d.getD 0))))++zipNew (d.getD 0) 0 ((o.2.map (renSlot (fromPassed ids (d.getD 0)))).drop ids.length)) ++
    cond (o.1.frzs || o.2.any Slot.deep) vh []))) .no
def callPl (c:Ctx) (d:Option Nat) (f:Nat) (args:List AV):Pl:=
 .getH 256000000 fun
  | .gone=>viewArgs 0 (look [] c.modes f) args fun args vh=>gather 64 (args.flatMap fun v=>v.cells.flatMap Cell.ids) [] fun got=>
   cond (Nat.ble got.length 1000 && disj (got.map (·.1)) (vh.map (·.1)))
    (match c.tbl f (args.map (renAV (toPassed (got.map (·.1))))) (got.map fun p=>renSlot (toPassed (got.map (·.1))) p.2) with
    | none=>.no
    | some ans=>.ask ans.α ans.o fun x=>backPl d (got.map (·.1)) vh (ans.out x)) .no
  | _=>.no
def appendPl (d:Option Nat) (e:Ty) (lim:Nat) (x y:Cell):Pl:=
 let go (t:Ty) (xs:List t.den) (old:List (Nat×Slot)):Pl:=
  rowOf y fun t' ys=>match castRow t e xs,castRow t' e ys with
   | some xs,some ys=>.need (decide (xs.length + ys.length≤lim)) (new d (.row e (xs++ys)) .sl old)
   | _,_=>.no
 match x with
 | .sl id=>.getH id fun | .row t xs=>go t xs [(id,.gone)] | _=>.no
 | .sub id lo hi=>.getH id fun | .row t xs=>go t ((xs.take hi.toNat).drop lo.toNat) [(id,.gone)] | _=>.no
 | .nilsl _=>go e [] []
 | _=>.no
def mapAt (c:Cell) (k:(kt vt:Ty)→List (kt.den×vt.den×Int)→Int→Nat→Pl):Pl:=
 match c with
 | .map id=>.getH id fun | .mp kt vt xs clk=>k kt vt xs clk id | _=>.no
 | _=>.no
def lenMap (d:Option Nat) (T:TI) (x:AV):Pl:=
 match x with
 | .c m=>mapAt m fun kt vt xs _ _=>cond (decide (T.mp=some (kt,vt))) (put d (.c (.int .i64 xs.length))) .no
 | _=>.no
def methOf (n:String):List (String×Nat)→Option Nat
 | []=>none
 | (m,f)::r=>cond (decide (m=n)) (some f) (methOf n r)
def capsOf:List AV→Option (List (Nat×Nat))
 | []=>some []
 | .c (.ptr id off)::r=>match capsOf r with | some l=>some ((id,off)::l) | none=>none
 | _=>none
def plan (c:Ctx) (gl:List (Nat×Bool)) (o:Oper):Pl:=
 match o.op with
 | .move x=>opd gl x fun v=>put o.dst (fixNil (c.T o.type).ty v)
 | .assign x=>opd gl x fun v=>put o.dst (fixNil (c.T o.type).ty v)
 | .pick x a b=>pickPl gl x a b fun v=>put o.dst v
 | .alloc elem=>withT c elem fun T=>new o.dst (.box T.ty.zero) (fun id=>.ptr id 0) []
 | .box _ x=>opd gl x fun v=>match avCells v with
  | some cs=>new o.dst (.box cs) (fun id=>.ptr id 0) []
  | none=>.no
 | .build t parts=>withT c t fun T=>cond T.agg (opdParts gl parts.toList fun ps=>match fillParts (fun i=>T.offs[i]?) T.ty.zero ps with
  | some cs=>put o.dst (.agg cs)
  | none=>.no) .no
 | .buildSlice t n parts=>withT c t fun T=>cond (Nat.ble (n * T.ty.elemSize) 16777216) (opdParts gl parts.toList fun ps=>match T.ty with
  | .slice e=>match fillParts (fun i=>some (i * e.size,e.size)) (zeros e.zero n) ps with
   | some cs=>resolve cs fun cs hs=>match listOf e cs n with
    | some xs=>new o.dst (.row e xs) .sl hs
    | none=>.no
   | none=>.no
  | _=>.no) .no
 | .load t a=>withT c t fun T=>opd gl a fun | .c a=>loadPl o.dst T.agg T.ty.size a (put o.dst) | _=>.no
 | .store t a x=>withT c t fun T=>opd gl a fun
  | .c a=>opd gl x fun v=>match avCells v with | some cs=>cond o.dst.isNone (storePl T.ty.size a cs) .no | none=>.no
  | _=>.no
 | .nilCheck x=>opd gl x fun
  | .c p=>live p (put o.dst (.c p))
  | _=>.no
 | .binOp op t x y _=>withT c t fun T=>opd gl x fun v=>opd gl y fun w=>cond (isNilEq op T w) (nilEq v fun r=>put o.dst (.c r)) (binop T op v w fun r=>put o.dst (.c r))
 | .unOp op _ x=>opd gl x fun
  | .c (.int k n)=>match op with
   | .neg=>put o.dst (.c (.int k (wrap k (0 - n))))
   | .xor=>put o.dst (.c (.int k (bXor k (ones k) n)))
   | _=>.no
  | .c (.bool b)=>match op with | .not=>put o.dst (.c (.bool (!b))) | _=>.no
  | .c (.kb b)=>match op with | .not=>put o.dst (.c (.kb (!b))) | _=>.no
  | _=>.no
 | .convert src dst x=>withT c src fun S=>withT c dst fun T=>opd gl x fun
  | .c (.int _ n)=>match T.ty with
   | .int k=>put o.dst (.c (.int k (wrap k n)))
   | _=>.no
  | .c (.str s)=>match T.ty with
   | .str=>put o.dst (.c (.str s))
   | _=>.no
  | .c y=>cond (decide (S.ty = .slice (.int .u8)) && decide (T.ty = .str)) (rowOf y fun t xs=>match castRow t (.int .u8) xs with
   | some xs=>put o.dst (.c (.str (bytesStr xs)))
   | none=>.no) .no
  | _=>.no
 | .makeSlice t l cp=>withT c t fun T=>opd gl l fun l=>opd gl cp fun cp=>match T.ty,l,cp with
  | .slice e,.c (.int _ l),.c (.int _ m)=>cond e.plain
   (.need (decide (0≤l∧l≤m∧m≤((140737488355328 / T.bytes:Nat):Int))) (new o.dst (cond (memN (o.dst.getD 0) (look [] c.lv 3000000) && e.nestOk) (.nest e (List.replicate l.toNat e.dflt) none) (.row e (List.replicate l.toNat e.dflt))) .sl [])) .no
  | _,_,_=>.no
 | .slice t x lo hi mx=>withT c t fun T=>cond mx.isNone (opd gl x fun v=>optOpd gl lo fun lo=>optOpd gl hi fun hi=>slicePl T.ty v lo hi fun r=>put o.dst (.c r)) .no
 | .fieldAddr s x f=>withT c s fun T=>match T.offs[f]? with
  | some (off,_)=>opd gl x fun
   | .c p=>live p (put o.dst (.c (shift off p)))
   | _=>.no
  | none=>.no
 | .field s x f=>withT c s fun T=>match T.offs[f]?,T.aggs[f]? with
  | some (off,z),some (some b)=>opd gl x fun
   | .agg cs=>cond (Nat.beq ((cs.drop off).take z).length z) (match b with
    | true=>put o.dst (.agg ((cs.drop off).take z))
    | false=>match (cs.drop off).take z with | [u]=>put o.dst (.c u) | _=>.no) .no
   | _=>.no
  | _,_=>.no
 | .indexAddr t x ix=>withT c t fun T=>opd gl x fun
  | .c x=>opd gl ix fun | .c (.int _ i)=>idxPl T.ty x i fun r=>put o.dst (.c r) | _=>.no
  | _=>.no
 | .index t x ix=>withT c t fun T=>opd gl x fun
  | .c (.str s)=>cond (decide (T.ty = .str)) (opd gl ix fun
   | .c (.int _ i)=>.need (decide (0≤i∧i < s.size)) (put o.dst (.c (.int .u8 (s.data.getD i.toNat 0).toNat)))
   | _=>.no) .no
  | _=>.no
 | .extract x i=>opd gl x fun
  | .tup vs=>match vs.drop i with
   | .c x::_=>put o.dst (.c x)
   | .agg cs::_=>put o.dst (.agg cs)
   | []=>.no
  | _=>.no
 | .makeFunc (.func f) first caps=>cond first.toList.isEmpty (opds gl caps.toList fun vs=>match capsOf vs with
  | some l=>put o.dst (.c (.func f l))
  | none=>.no) .no
 | .call cl=>match cl.callee with
  | .builtin b=>opds gl cl.args.toList fun vs=>match b,vs with
   | .len,[x]=>match cl.argTypes.toList with
    | [t]=>withT c t fun T=>match T.ty with
     | .slice _=>lenPl x fun n=>put o.dst (.c (.int .i64 n))
     | .str=>strLen x fun n=>put o.dst (.c (.int .i64 n))
     | _=>lenMap o.dst T x
    | _=>.no
   | .append,[.c (.nilsl _),.c (.int _ m)]=>match cl.argTypes.toList with
    | [t,t']=>withT c t fun T=>withT c t' fun T'=>match T.ty,T'.ty with
     | .slice e,.int _=>cond e.plain (.need (decide (0≤m∧m≤((140737488355328 / T.bytes:Nat):Int))) (new o.dst (.row e (List.replicate m.toNat e.dflt)) .sl [])) .no
     | _,_=>.no
    | _=>.no
   | .append,[.c x,.c y]=>match cl.argTypes.toList with
    | [t,t']=>cond (Nat.beq t t') (withT c t fun T=>match T.ty with
     | .slice e=>appendPl o.dst e (140737488355328 / T.bytes) x y
     | _=>.no) .no
    | _=>.no
   | .cap,[.c (.nilsl _)]=>match cl.argTypes.toList with
    | [t]=>withT c t fun T=>match T.ty with
     | .slice _=>put o.dst (.c (.int .i64 0))
     | _=>.no
    | _=>.no
   | .min,[.c (.int k a),.c (.int _ b)]=>put o.dst (.c (.int k (min a b)))
   | .max,[.c (.int k a),.c (.int _ b)]=>put o.dst (.c (.int k (max a b)))
   | .min,[.c (.int k a),.c (.int _ b),.c (.int _ d)]=>put o.dst (.c (.int k (min (min a b) d)))
   | .max,[.c (.int k a),.c (.int _ b),.c (.int _ d)]=>put o.dst (.c (.int k (max (max a b) d)))
   | _,_=>.no
  | .value f=>opd gl f fun
   | .c (.func g caps)=>opds gl cl.args.toList fun vs=>callPl c o.dst g (vs++caps.map fun p=>.c (.ptr p.1 p.2))
   | _=>.no
  | .invoke rc name=>opd gl rc fun
   | .c (.ifp t id off)=>withT c t fun T=>match methOf name T.meths with
    | some f=>opds gl cl.args.toList fun vs=>callPl c o.dst f (.c (.ptr id off)::vs)
    | none=>.no
   | _=>.no
 | .makeMap t none=>withT c t fun T=>match T.mp with
  | some (kt,vt)=>new o.dst (.mp kt vt [] 0) .map []
  | none=>.no
 | .lookup t m q ok=>withT c t fun T=>opd gl m fun
  | .c mc=>opd gl q fun
   | .c qc=>mapAt mc fun kt vt xs _ _=>cond (decide (T.mp=some (kt,vt))) (match kt.ofCells [qc] with
    | some (y,[])=>match ok,vt.cells (mGet kt vt xs y) with
     | false,[u]=>put o.dst (.c u)
     | true,[u]=>put o.dst (.tup [.c u,.c (.bool (mHas kt vt xs y))])
     | _,_=>.no
    | _=>.no) .no
   | _=>.no
  | _=>.no
 | .mapUpdate t m q y=>withT c t fun T=>opd gl m fun
  | .c mc=>opd gl q fun
   | .c qc=>opd gl y fun
    | .c yc=>mapAt mc fun kt vt xs clk id=>cond (decide (T.mp=some (kt,vt)) && o.dst.isNone) (match kt.ofCells [qc],vt.ofCells [yc] with
     | some (q,[]),some (y,[])=>.fin [] [] [(id,.mp kt vt (mPut kt vt xs clk q y) (mClk kt vt xs clk q))] []
     | _,_=>.no) .no
    | _=>.no
   | _=>.no
  | _=>.no
 | .mapEntry t m q=>withT c t fun T=>opd gl m fun
  | .c mc=>opd gl q fun
   | .c qc=>mapAt mc fun kt vt xs clk id=>cond (decide (T.mp=some (kt,vt))) (match kt.ofCells [qc] with
    | some (q,[])=>match vt.cells (mGet kt vt xs q),o.dst with
     | [u],some d=>.fin [(d,.tup [.c u,.c (.int .i64 (mStamp kt vt xs clk q))])] [] [(id,.mp kt vt (mPut kt vt xs clk q (mGet kt vt xs q)) (mClk kt vt xs clk q))] []
     | _,_=>.no
    | _=>.no) .no
   | _=>.no
  | _=>.no
 | .entryStore t m q y=>withT c t fun T=>opd gl m fun
  | .c mc=>opd gl q fun
   | .c (.int _ n)=>opd gl y fun
    | .c yc=>mapAt mc fun kt vt xs clk id=>cond (decide (T.mp=some (kt,vt)) && o.dst.isNone) (match vt.ofCells [yc] with
     | some (y,[])=>.need (mStamped kt vt xs n) (.fin [] [] [(id,.mp kt vt (mStore kt vt xs n y) clk)] [])
     | _=>.no) .no
    | _=>.no
   | _=>.no
  | _=>.no
 | .makeInterface t x=>withT c t fun T=>opd gl x fun
  | .c (.ptr id off)=>cond (decide (T.ty = .ptr)) (put o.dst (.c (.ifp t id off))) .no
  | .c y=>cond (!T.agg && T.ty.flat) (match T.ty.ofCells [y] with | some (x,[])=>put o.dst (.c (.ifd t false T.ty x)) | _=>.no) .no
  | .agg cs=>cond (T.agg && T.ty.flat) (match T.ty.ofCells cs with | some (x,[])=>put o.dst (.c (.ifd t true T.ty x)) | _=>.no) .no
  | _=>.no
 | .typeAssert x _ t false=>withT c t fun T=>opd gl x fun
  | .c (.ifp u id off)=>cond (Nat.beq u t && decide (T.ty = .ptr)) (put o.dst (.c (.ptr id off))) .no
  | .c (.ifd u ag ty x)=>cond (Nat.beq u t && T.ty.flat) (match ag,ty.cells x with
   | true,cs=>put o.dst (.agg cs)
   | false,[y]=>put o.dst (.c y)
   | _,_=>.no) .no
  | _=>.no
 | _=>.no
def St.put (s:St) (ts:List (Nat×AV)) (gs:List (Nat×Option GV)) (hs:List (Nat×Slot)):St:=
 ⟨s.n,s.m,ts++s.env,gs++s.genv,hs++s.heap⟩
def freeOf (genv:List (Nat×Option GV)) (d:Nat):Bool:=
 match genv with
 | []=>true
 | (_,some v)::r=>!Nat.beq v.g d && freeOf r d
 | (_,none)::r=>freeOf r d
def okPut (s:St) (ts:List (Nat×AV)) (gs:List (Nat×Option GV)):Bool:=
 match ts with
 | []=>true
 | (d,_)::r=>Nat.blt d s.n && freeOf s.genv d && freeOf gs d && okPut s r gs
variable {β:Type}
def exec:Pl→St→(St→Option β)→Option β
 | .fin ts gs hs rs,s,K=>cond (okPut s ts gs) (K (s.put (rs++ts) ((rs.map fun p=>(p.1,none))++(gs++ts.map fun p=>(p.1,none))) hs)) none
 | .no,_,_=>none
 | .getT t k,s,K=>exec (k (look (.c .dead) s.env t) (look none s.genv t)) s K
 | .getH i k,s,K=>exec (k (look .none s.heap i)) s K
 | .need b k,s,K=>br b (exec k s K) none
 | .alt b p q,s,K=>br b (exec p s K) (exec q s K)
 | .ask _ o k,s,K=>bnd o fun a=>exec (k a) s K
def specFin (dst:Option Nat) (g:Nat) (w:Bool) (ts:List (Nat×AV)):Pl:=
 match ts,dst with
 | [(d,.c x)],some d'=>cond (Nat.beq d d') (.fin [(d,.c .dead)] [(d,some ⟨g,w,x⟩)] [] []) .no
 | _,_=>.no
def spec (dst:Option Nat) (g:Nat) (w:Bool) (b:Bool):Pl→Pl
 | .fin ts gs hs rs=>cond (gs.isEmpty && hs.isEmpty && rs.isEmpty) (specFin dst g w ts) .no
 | .no=>.no
 | .getT t k=>.getT t fun v gv=>spec dst g w b (k v gv)
 | .getH i k=>.getH i fun v=>spec dst g w b (k v)
 | .need q k=>.need (!b || q) (spec dst g w b k)
 | .alt _ _ _=>.no
 | .ask _ _ _=>.no
def addR (rs:List (Nat×AV)):Pl→Pl
 | .fin ts gs hs rs'=>.fin ts gs hs (rs++rs')
 | .no=>.no
 | .getT t k=>.getT t fun v gv=>addR rs (k v gv)
 | .getH i k=>.getH i fun v=>addR rs (k v)
 | .need q k=>.need q (addR rs k)
 | .alt b p q=>.alt b (addR rs p) (addR rs q)
 | .ask α o k=>.ask α o fun a=>addR rs (k a)
def calm:Op→Bool
 | .call { callee:=.builtin .append,.. }=>false
 | .call { callee:=.value _,.. }=>false
 | .alloc _=>false | .box _ _=>false | .buildSlice _ _ _=>false | .makeSlice _ _ _=>false | .store _ _ _=>false | .build _ _=>false
 | .makeFunc _ _ _=>false
 | .call { callee:=.invoke _ _,.. }=>false
 | .makeMap _ _=>false | .mapUpdate _ _ _ _=>false | .mapEntry _ _ _=>false | .entryStore _ _ _ _=>false
 | _=>true
def calmT (c:Ctx) (o:Oper):Bool:=calm o.op && !(c.T o.type).agg
inductive GS where
 | yes | no
 | sym (ls:List (Nat×Bool×Bool))
def allB:List (Nat×Bool×Bool)→Bool
 | []=>true
 | [(_,_,b)]=>b
 | (_,_,b)::p::r=>allB (p::r) && b
def pairs:List (Nat×Bool×Bool)→List (Nat×Bool)
 | []=>[]
 | (g,w,_)::r=>(g,w)::pairs r
def gst:Nat→Nat→Bool→(GS→Pl)→Pl
 | 0,_,_,_=>.no
 | n + 1,g,w,k=>.getT g fun v gv=>match gv with
  | none=>match v with
   | .c (.kb b)=>k (cond (b == w) .yes .no)
   | .c (.nw w')=>cond (w == w') (k .no) .no
   | .c .undef=>k .no
   | .c (.bool b)=>k (.sym [(g,w,b == w)])
   | _=>.no
  | some ⟨g',w',x⟩=>match asB x with
   | none=>.no
   | some b=>gst n g' w' fun
    | .yes=>k (.sym [(g,w,b == w)])
    | .no=>k .no
    | .sym ls=>k (.sym ((g,w,b == w)::ls))
def notDst (d:Option Nat):List (Nat×Bool)→Bool
 | []=>true
 | (g,_)::r=>(match d with | some d=>!Nat.beq g d | none=>true) && notDst d r
def nest (d:Option Nat):List (Nat×Bool×Bool)→List (Nat×AV)→(List (Nat×AV)→Pl)→Pl
 | [],_,Y=>Y []
 | (g,w,b)::r,und,Y=>nest d r ((g,.c .undef)::und) fun kn=>.alt b (Y ((g,.c (.kb w))::kn)) (addR ((g,.c (.kb (!w)))::(kn++und)) (put d (.c .undef)))
def undefIn:List Operand→(Bool→Pl)→Pl
 | [],k=>k false
 | .tmp t::r,k=>.getT t fun v gv=>match v,gv with
  | .c .undef,none=>k true
  | _,_=>undefIn r k
 | _::r,k=>undefIn r k
def guarded (c:Ctx) (draw:Bool) (g:Nat) (w:Bool) (o:Oper):GS→Pl
 | .yes=>plan c [(g,w)] o
 | .no=>put o.dst (.c .undef)
 | .sym ls=>match calmT c o with
  | true=>undefIn o.op.operands.toList fun u=>cond u (.need (!allB ls) (put o.dst (.c .undef))) (spec o.dst g w (allB ls) (plan c (pairs ls) o))
  | false=>cond (notDst o.dst (pairs ls)) (cond draw (.alt (allB ls) (plan c (pairs ls) o) (put o.dst (.c .undef))) (nest o.dst ls [] fun kn=>addR kn (plan c (pairs ls) o))) .no
def opPl (c:Ctx) (draw:Bool) (all:List Oper) (o:Oper):Pl:=
 match o.guard with
 | none=>plan c [] o
 | some (j,w)=>match all.drop j with
  | []=>.no
  | q::_=>match q.dst with
   | none=>.no
   | some g=>gst 8 g w (guarded c draw g w o)
def runOps (c:Ctx) (all:List Oper):List Oper→St→(St→Option β)→Option β
 | [],s,K=>K { s with genv:=[] }
 | o::r,s,K=>exec (opPl c false all o) s fun s=>runOps c all r s K
structure Log where
 rt:List Nat
 rh:List Nat
 wt:List Nat
 wh:List Nat
def labelsOf:List (Nat×Option GV)→List Nat
 | []=>[]
 | (_,some v)::r=>v.g::labelsOf r
 | (_,none)::r=>labelsOf r
def execL:Pl→St→List Nat→List Nat→(Log→St→Option β)→Option β
 | .fin ts gs hs rs,s,rt,rh,K=>cond (okPut s ts gs)
   (K ⟨labelsOf gs++rt,rh,ts.map (·.1)++gs.map (·.1)++rs.map (·.1),hs.map (·.1)⟩ (s.put (rs++ts) ((rs.map fun p=>(p.1,none))++(gs++ts.map fun p=>(p.1,none))) hs)) none
 | .no,_,_,_,_=>none
 | .getT t k,s,rt,rh,K=>execL (k (look (.c .dead) s.env t) (look none s.genv t)) s (t::rt) rh K
 | .getH i k,s,rt,rh,K=>execL (k (look .none s.heap i)) s rt (i::rh) K
 | .need b k,s,rt,rh,K=>br b (execL k s rt rh K) none
 | .alt b p q,s,rt,rh,K=>br b (execL p s rt rh K) (execL q s rt rh K)
 | .ask _ o k,s,rt,rh,K=>bnd o fun a=>execL (k a) s rt rh K
def Log.apart (a b:Log):Bool:=
 disj a.wt b.rt && disj a.wt b.wt && disj b.wt a.rt && disj a.wh b.rh && disj a.wh b.wh && disj b.wh a.rh
def afters (o:Oper):List Nat:=o.after.toList.filterMap fun e=>cond (Region.binds .any e) (some e.on) none
def firstOf:List Nat→Nat
 | m::_=>m
 | []=>0
def hasBit (m i:Nat):Bool:=Nat.beq (Nat.land (Nat.shiftRight m i) 1) 1
def maskOf (acc:List Nat):List Nat→Nat→Nat
 | [],m=>m
 | j::r,m=>maskOf acc r (Nat.lor m (Nat.lor (Nat.shiftLeft 1 j) (firstOf (acc.drop j))))
def closure:List Oper→List Nat→List Nat
 | [],acc=>acc
 | o::r,acc=>closure r (acc++[maskOf acc (afters o) 0])
def apartFrom (l:Log) (j pre:Nat):List Log→Nat→Bool
 | [],_=>true
 | x::r,i=>(hasBit pre i || x.apart l) && apartFrom l j pre r (i + 1)
def allApart (cl:List Nat):List Log→Nat→List Log→Bool
 | [],_,_=>true
 | l::r,j,done=>apartFrom l j (firstOf (cl.drop j)) done 0 && allApart cl r (j + 1) (done++[l])
def early:List Oper→Nat→Bool
 | [],_=>true
 | o::r,i=>(afters o).all (fun j=>Nat.blt j i) && early r (i + 1)
def runOpsL (c:Ctx) (all:List Oper):List Oper→List Log→St→(St→Option β)→Option β
 | [],ls,s,K=>cond (early all 0 && allApart (closure all []) ls 0 []) (K { s with genv:=[] }) none
 | o::r,ls,s,K=>execL (opPl c true all o) s [] [] fun l s=>runOpsL c all r (ls++[l]) s K
structure Kt (β:Type) where
 nrm:St→Option β
 ex:Nat→St→Option β
 ret:St→Option β
def genCell:Cell→Cell | .kb b=>.bool b | c=>c
def code1:Code→Nat
 | .region id _ _=>id
 | .seq a _=>code1 a
 | .block _ b=>code1 b
 | .loop b=>code1 b
 | .cond _ a _=>code1 a
 | _=>0
def reach (heap:List (Nat×Slot)):Nat→List Nat→List Nat→List Nat
 | 0,_,acc=>acc
 | _ + 1,[],acc=>acc
 | n + 1,id::r,acc=>match memN id acc with
  | true=>reach heap n r acc
  | false=>match look .none heap id with
   | .none=>reach heap n r acc
   | .gone=>reach heap n r acc
   | s=>reach heap n (r++s.cells.flatMap Cell.ids) (acc++[id])
def canon (j:Nat):Nat:=64000000 + j
def toCanon (ids:List Nat) (n:Nat):Nat:=
 cond (Nat.ble 128000000 n) n (match index1 ids n 0 with | some j=>canon j | none=>256000000)
def nilTy:AV→Option Ty | .c (.nilsl e)=>some e | _=>none
def nilRow (e:Ty):Slot:=match e with | .slice f=>cond f.flat (.nest e [] none) (.row e []) | _=>.row e []
def nilRows:Nat→List (Nat×AV)→List (Nat×AV)×List (Nat×Slot)
 | _,[]=>([],[])
 | j,(t,v)::r=>match nilTy v with
  | some e=>((t,.c (.sl (96000000 + j)))::(nilRows (j + 1) r).1,(96000000 + j,nilRow e)::(nilRows (j + 1) r).2)
  | none=>((t,v)::(nilRows j r).1,(nilRows j r).2)
def genAV:AV→AV
 | .c x=>.c (genCell x)
 | .agg cs=>.agg (cs.map genCell)
 | v=>v
def bigs (m:Nat):List Nat:=(List.range m).map passed++[256000000]
def restrOf (n m:Nat) (env:List (Nat×AV)) (heap:List (Nat×Slot)) (ids:List Nat):St:=
 ⟨n,m,env.map fun p=>(p.1,renAV (toCanon ids) p.2),[],
  (bigs m).map (fun id=>(id,renSlot (toCanon ids) (look .none heap id)))++ids.map (fun id=>(toCanon ids id,renSlot (toCanon ids) (look .none heap id)))⟩
def small (n:Nat):Bool:=!Nat.ble 128000000 n
def restr (l:List Nat) (s:St):St:=
 match nilRows 0 (l.map fun t=>(t,genAV (look (.c .dead) s.env t))) with
 | (env,hs)=>restrOf s.n s.m env (hs++s.heap) ((reach (hs++s.heap) 64 ((bigs s.m)++env.flatMap fun p=>p.2.cells.flatMap Cell.ids) []).filter small)
def noNil (s:St):Bool:=s.heap.all fun p=>Nat.blt p.1 96000000 || ((Nat.ble 128000000 p.1 && Nat.blt p.1 (128000000 + s.m)) || Nat.beq p.1 256000000)
def isGone:Slot→Bool | .gone=>true | _=>false
theorem heldEx:∃ h:(α:Type)→α→α,∀ (α:Type) (x:α),h α x=x:=⟨fun _ x=>x,fun _ _=>rfl⟩
noncomputable def held {α:Type} (x:α):α:=Classical.choose heldEx α x
theorem held_eq {α:Type} (x:α):held x=x:=Classical.choose_spec heldEx α x
def soft1 (base id j:Nat) (s:St):St:=
 match look .none s.heap id with
 | .box cs=>match cs.drop j with
  | .nilsl e::_=>match look .none s.heap (base + j) with
   | .none=>(s.put [] [] [(base + j,nilRow e)]).put [] [] [(id,.box (setAt cs j [.sl (base + j)]))]
   | _=>s
  | .kb b::_=>s.put [] [] [(id,.box (setAt cs j [.bool b]))]
  | _=>s
 | _=>s
def softBox (base id:Nat):Nat→St→St
 | 0,s=>s
 | n + 1,s=>soft1 base id n (softBox base id n s)
def softIds:Nat→List Nat→St→St
 | _,[],s=>s
 | base,id::r,s=>softIds (base + 64) r (softBox base id (match look .none s.heap id with | .box cs=>cs.length | _=>0) s)
def keysOf:List (Nat×Slot)→List Nat→List Nat
 | [],acc=>acc
 | (k,_)::r,acc=>keysOf r (cond (memN k acc) acc (k::acc))
def soft (base:Nat) (s:St):St:=softIds base (keysOf s.heap []) s
def liveCells (l:List Nat) (s:St):List Cell:=(l.flatMap fun t=>(look (.c .dead) s.env t).cells)++(keysOf s.heap []).flatMap fun k=>(look .none s.heap k).cells
def refsTo (id:Nat) (cs:List Cell):Nat:=(cs.filter fun c=>memN id c.ids).length
def narrow1 (l:List Nat) (t:Nat) (s:St):St:=
 match s.genv with
 | _::_=>s
 | []=>match look (.c .dead) s.env t with
  | .c (.sub id lo hi)=>match look .none s.heap id,look .none s.heap (90000000 + t),Nat.beq (refsTo id (liveCells l s)) 1 with
   | .row ty xs,.none,true=>⟨s.n,s.m,(t,.c (.sl (90000000 + t)))::s.env,[],(90000000 + t,.row ty ((xs.take hi.toNat).drop lo.toNat))::(id,.gone)::s.heap⟩
   | _,_,_=>s
  | _=>s
def narrow (l:List Nat):List Nat→St→St
 | [],s=>s
 | t::r,s=>narrow l r (narrow1 l t s)
def isSub:AV→Bool | .c (.sub _ _ _)=>true | _=>false
def narrowAll (l:List Nat) (s:St):St:=cond (l.any fun t=>isSub (look (.c .dead) s.env t)) (narrow l l s) s
def isCall:Op→Bool
 | .call cl=>match cl.callee with | .value _=>true | .invoke _ _=>true | _=>false
 | _=>false
def prep (id:Nat) (ops:List Oper) (s:St):St:=cond (ops.any fun o=>isCall o.op) (soft (6400000 + 8192 * id) s) s
noncomputable def restrIn {β:Type} (key:Nat) (l:List Nat) (s:St) (K:St→Option β):Option β:=
 cond (noNil s && isGone (look .none s.heap 256000000) && Nat.ble s.m 1000 && Nat.ble l.length 1000) (cond (Nat.ble 2000000 key) (K (restr l s)) (held (K (restr l s)))) none
noncomputable def restrAt {β:Type} (c:Ctx) (key:Nat) (s:St) (K:St→Option β):Option β:=
 match look [] c.lv key with
 | []=>K s
 | l=>restrIn key l (narrowAll l (soft 62000000 s)) K
def St.opv (s:St):Operand→AV
 | .tmp t=>look (.c .dead) s.env t
 | .const v=>cv v
 | _=>.c .dead
noncomputable def run (c:Ctx) (lp:Code→Kt β→St→Option β):Code→Kt β→St→Option β
 | .skip,K,s=>K.nrm s
 | .label _,K,s=>K.nrm s
 | .region id ops false,K,s=>runOps c ops.toList ops.toList (prep id ops.toList s) K.nrm
 | .region id ops true,K,s=>runOpsL c ops.toList ops.toList [] (prep id ops.toList s) K.nrm
 | .seq a b,K,s=>run c lp a { K with nrm:=fun s=>restrAt c (1000000 + code1 b) s fun s=>run c lp b K s } s
 | .cond x a b,K,s=>match s.opv x with
  | .c (.kb t)=>cond t (run c lp a K s) (run c lp b K s)
  | .c (.bool t)=>br t (run c lp a K s) (run c lp b K s)
  | .c (.nq e)=>br e (both (run c lp a K s) (run c lp b K s)) (run c lp b K s)
  | _=>none
 | .block id b,K,s=>run c lp b { K with ex:=fun i s=>cond (Nat.beq i id) (K.nrm s) (K.ex i s) } s
 | .exit id,K,s=>K.ex id s
 | .ret,K,s=>K.ret s
 | .loop b,K,s=>restrAt c (code1 b) s fun s=>lp b K s
 | _,_,_=>none
noncomputable def loopN (c:Nat→Ctx):Nat→Code→Kt β→St→Option β
 | 0,_,_,_=>none
 | n + 1,b,K,s=>run (c n) (loopN c n) b { K with nrm:=fun s=>restrAt (c n) (code1 b) s fun s=>loopN c n b K s } s
def numbered:Nat→List AV→List (Nat×AV)
 | _,[]=>[]
 | n,v::r=>(n,v)::numbered (n + 1) r
def numberedS:Nat→List Slot→List (Nat×Slot)
 | _,[]=>[]
 | n,v::r=>(n,v)::numberedS (n + 1) r
def resultOf (c:Ctx) (s:St):ResultVar→Option AV0
 | .tmp t=>match look (.c .dead) s.env t with
  | .c x=>cond x.solid (some (AV0.c x)) none
  | .agg cs=>some (AV0.agg cs)
  | _=>none
 | .cell a t=>match look (.c .dead) s.env a with
  | .c (.ptr id off)=>match look .none s.heap id with
   | .box cs=>cond ((c.T t).ok && Nat.beq off 0 && Nat.beq cs.length (c.T t).ty.size) (match (c.T t).agg,cs with
    | true,cs=>some (AV0.agg cs)
    | false,[x]=>some (AV0.c x)
    | false,_=>none) none
   | _=>none
  | _=>none
def resultsOf (c:Ctx) (s:St):List ResultVar→Option (List AV0)
 | []=>some []
 | r::rs=>match resultOf c s r,resultsOf c s rs with | some v,some vs=>some (v::vs) | _,_=>none
def oneAV:List AV0→AV
 | [AV0.c x]=>AV.c x
 | [AV0.agg cs]=>AV.agg cs
 | vs=>AV.tup vs
def toOut (m:Nat) (ids:List Nat) (n:Nat):Nat:=
 cond (Nat.ble 128000000 n) n (match index1 ids n 0 with | some j=>passed (m + j) | none=>256000000)
def outOf (m:Nat) (s:St) (v:AV) (ids:List Nat):Out:=
 (renAV (toOut m ids) v,((List.range m).map passed++ids).map fun id=>renSlot (toOut m ids) (look .none s.heap id))
def finish {β:Type} (c:Ctx) (results:List ResultVar) (dec:Out→Option β) (s:St):Option β:=
 match resultsOf c s results with
 | none=>none
 | some vs=>
  let ids:=(reach s.heap 64 (bigs s.m++(oneAV vs).cells.flatMap Cell.ids) []).filter small
  cond (noNil s && isGone (look .none s.heap 256000000) && Nat.ble (s.m + ids.length) 1000) (dec (outOf s.m s (oneAV vs) ids)) none
def move1 (j:Nat) (s:St):St:=
 match s.genv with
 | _::_=>s
 | []=>match look .none s.heap (passed j),look .none s.heap (63000000 + j),Nat.ble j 1000 with
  | .row t xs,.none,true=>
   let f:=fun n=>cond (Nat.beq n (passed j)) (63000000 + j) n
   ⟨s.n,s.m,s.env.map fun p=>(p.1,renAV f p.2),[],(passed j,.gone)::(passed j,.none)::(63000000 + j,.row t xs)::s.heap.map fun p=>(p.1,renSlot f p.2)⟩
  | _,_,_=>s
def moves:List Nat→St→St
 | [],s=>s
 | j::r,s=>moves r (move1 j s)
noncomputable def kTop {β:Type} (c:Ctx) (fn:Func) (dec:Out→Option β):Kt β:=
 ⟨fun s=>restrAt c 2000000 s (fun s=>finish c fn.results.toList dec (moves (look [] c.lv 2000001) s)),fun _ _=>none,
  fun s=>restrAt c 2000000 s (fun s=>finish c fn.results.toList dec (moves (look [] c.lv 2000001) s))⟩
def stTop (fn:Func) (args:List AV) (ss:List Slot):St:=⟨fn.ntmps,ss.length,numbered 0 args,[],numberedS 128000000 ss++[(256000000,.gone)]⟩
def sub:List Nat→Code→Code
 | [],q=>q
 | i::p,.seq a b=>cond (Nat.beq i 0) (sub p a) (sub p b)
 | i::p,.cond _ a b=>cond (Nat.beq i 0) (sub p a) (sub p b)
 | _::p,.block _ b=>sub p b
 | _::p,.loop b=>sub p b
 | _::_,q=>q
def subF (p:List Nat) (fn:Func):Code:=match fn.body with | some b=>sub p b | none=>.skip
noncomputable def kAt {β:Type} (c:Ctx) (lp:Code→Kt β→St→Option β):List Nat→Code→Kt β→Kt β
 | [],_,K=>K
 | i::p,.seq a b,K=>cond (Nat.beq i 0) (kAt c lp p a { K with nrm:=fun s=>restrAt c (1000000 + code1 b) s fun s=>run c lp b K s }) (kAt c lp p b K)
 | i::p,.cond _ a b,K=>cond (Nat.beq i 0) (kAt c lp p a K) (kAt c lp p b K)
 | _::p,.block id b,K=>kAt c lp p b { K with ex:=fun i s=>cond (Nat.beq i id) (K.nrm s) (K.ex i s) }
 | _::_,_,K=>K
noncomputable def kLoop {β:Type} (cs:Nat→Ctx) (n:Nat) (b:Code) (K:Kt β):Kt β:={ K with nrm:=fun s=>restrAt (cs n) (code1 b) s fun s=>loopN cs n b K s }
noncomputable def runFn {β:Type} (c:Nat→Ctx) (k:Nat) (fn:Func) (args:List AV) (ss:List Slot) (dec:Out→Option β):Option β:=
 match fn.body with
 | none=>none
 | some b=>cond (Nat.ble args.length fn.ntmps)
   (run (c k) (loopN c k) b (kTop (c k) fn dec) (stTop fn args ss)) none
end Go.Eng
namespace Go.Eng
open Go
inductive Loc where
 | box (b n:Nat)
 | row (b off w len size:Nat)
 | nil
 | gone
 | mapo (b:Nat)
 | nest (b off w len size:Nat) (own:Nat→Option Nat)
def Loc.has:Loc→Nat→Prop
 | .box b' _,b=>b'=b
 | .row b' _ _ _ _,b=>b'=b
 | .mapo b',b=>b'=b
 | .nest b' _ _ _ _ own,b=>b'=b∨∃ p,own p=some b
 | .nil,_=>False
 | .gone,_=>False
def Loc.same:Loc→Loc→Prop
 | .nest b o w l z _,l'=>∃ own,l' = .nest b o w l z own
 | l,l'=>l'=l
theorem Loc.same_refl (l:Loc):l.same l:=by cases l <;> first | exact rfl | exact ⟨_,rfl⟩
theorem Loc.same_trans {a b c:Loc} (h:a.same b) (k:b.same c):a.same c:=by
 cases a with
 | nest b' o w l z own=>
  obtain ⟨own',rfl⟩:=h
  obtain ⟨own2,rfl⟩:=k
  exact ⟨own2,rfl⟩
 | _=>cases h; exact k
def Leads (l:Loc) (o:Option Loc):Prop:=(∃ l',o=some l'∧l.same l')∨o=some .gone
theorem Leads.of {l:Loc} {o:Option Loc} (h:o=some l):Leads l o:=.inl ⟨l,h,l.same_refl⟩
theorem Leads.lost {l:Loc} {o:Option Loc} (h:o=some .gone):Leads l o:=.inr h
theorem Leads.or {l:Loc} {o:Option Loc} (h:o=some l∨o=some .gone):Leads l o:=h.elim Leads.of Leads.lost
theorem Leads.gone {o:Option Loc} (h:Leads .gone o):o=some .gone:=by
 rcases h with ⟨l',h,k⟩ | h
 ·cases k; exact h
 ·exact h
theorem Leads.then {l:Loc} {o p:Option Loc} (h:Leads l o) (k:∀ l',o=some l'→Leads l' p):Leads l p:=by
 rcases h with ⟨l',h,s⟩ | h
 ·rcases k l' h with ⟨l2,h2,s2⟩ | h2
  ·exact .inl ⟨l2,h2,Loc.same_trans s s2⟩
  ·exact .inr h2
 ·exact .inr ((k _ h).gone)
abbrev Sig:=Nat→Option Loc
def At (w:World) (b off:Nat) (vs:List Value):Prop:=∀ j v,vs[j]? = some v→w.cell? ⟨b,off + j,none⟩=some v
inductive RowR {α:Type} (R:α→List Value→Prop):List α→List Value→Prop where
 | nil:RowR R [] []
 | cons {x:α} {us:List Value} {xs:List α} {vs:List Value}:R x us→RowR R xs vs→RowR R (x::xs) (us++vs)
def DRel (w:World) (N:Nat→Prop):(t:Ty)→t.den→List Value→Prop
 | .bool,b,vs=>vs=[.bool b]
 | .int k,n,vs=>vs=[.int k n]
 | .str,s,vs=>vs=[.string s]
 | .slice t,xs,vs=>∃ a n cap,vs=[.slice a n cap]∧n=List.length xs∧n≤cap ∧
   (xs=[]∨∃ b off us,a=some ⟨b,off,none⟩∧b < w.heap.size∧¬ N b∧At w b off us∧RowR (DRel w N t) xs us)
 | .pair a b,x,vs=>∃ us ws,vs=us++ws∧DRel w N a x.1 us∧DRel w N b x.2 ws
 | .unit,_,vs=>vs=[]
 | .ptr,_,_=>False
 | .func,_,_=>False
 | .other,_,_=>False
theorem RowR.length {α:Type} {R:α→List Value→Prop} {n:Nat} (h:∀ x vs,R x vs→vs.length=n) {xs:List α} {vs:List Value} (r:RowR R xs vs):vs.length=xs.length * n:=by
 induction r with
 | nil=>simp
 | cons a _ ih=>simp [h _ _ a,ih,Nat.add_mul]; omega
theorem RowR.mono {α:Type} {R S:α→List Value→Prop} (h:∀ x vs,R x vs→S x vs) {xs:List α} {vs:List Value} (r:RowR R xs vs):RowR S xs vs:=by
 induction r with
 | nil=>exact .nil
 | cons a _ ih=>exact .cons (h _ _ a) ih
theorem DRel.length {w:World} {N:Nat→Prop}:∀ {t:Ty} {x:t.den} {vs:List Value},DRel w N t x vs→vs.length=t.size:=by
 intro t
 induction t with
 | bool=>intro x vs h; simp only [DRel] at h; subst h; rfl
 | int k=>intro x vs h; simp only [DRel] at h; subst h; rfl
 | str=>intro x vs h; simp only [DRel] at h; subst h; rfl
 | slice t _=>intro x vs h; obtain ⟨a,n,c,rfl,_⟩:=h; rfl
 | pair a b iha ihb=>intro x vs h; obtain ⟨us,ws,rfl,h1,h2⟩:=h; simp [Ty.size,iha h1,ihb h2]
 | unit=>intro x vs h; simp only [DRel] at h; subst h; rfl
 | ptr=>intro x vs h; exact h.elim
 | func=>intro x vs h; exact h.elim
 | other=>intro x vs h; exact h.elim
theorem DRel.one {w:World} {N:Nat→Prop}:∀ {t:Ty} {x:t.den} {vs:List Value},DRel w N t x vs→∀ v ∈ vs,v.oneCell'=true:=by
 intro t
 induction t with
 | bool=>intro x vs h; simp only [DRel] at h; subst h; simp [Value.oneCell']
 | int k=>intro x vs h; simp only [DRel] at h; subst h; simp [Value.oneCell']
 | str=>intro x vs h; simp only [DRel] at h; subst h; simp [Value.oneCell']
 | slice t _=>intro x vs h; obtain ⟨a,n,c,rfl,_⟩:=h; simp [Value.oneCell']
 | pair a b iha ihb=>
  intro x vs h v hv
  obtain ⟨us,ws,rfl,h1,h2⟩:=h
  rcases List.mem_append.mp hv with hv | hv
  ·exact iha h1 v hv
  ·exact ihb h2 v hv
 | unit=>intro x vs h; simp only [DRel] at h; subst h; simp
 | ptr=>intro x vs h; exact h.elim
 | func=>intro x vs h; exact h.elim
 | other=>intro x vs h; exact h.elim
theorem RowR.one {w:World} {N:Nat→Prop} {t:Ty} {xs:List t.den} {vs:List Value} (r:RowR (DRel w N t) xs vs):∀ v ∈ vs,v.oneCell'=true:=by
 induction r with
 | nil=>simp
 | cons a _ ih=>
  intro v hv
  rcases List.mem_append.mp hv with hv | hv
  ·exact a.one v hv
  ·exact ih v hv
structure Stab (w:World) (N:Nat→Prop) (w':World) (N':Nat→Prop):Prop where
 size:w.heap.size≤w'.heap.size
 keep:∀ b,b < w.heap.size→¬ N b→¬ N' b∧w'.heap[b]? = w.heap[b]?
theorem Stab.refl (w:World) (N:Nat→Prop):Stab w N w N:=⟨Nat.le_refl _,fun _ _ h=>⟨h,rfl⟩⟩
theorem Stab.trans {a b c:World} {N M K:Nat→Prop} (h:Stab a N b M) (k:Stab b M c K):Stab a N c K:=
 ⟨Nat.le_trans h.size k.size,fun x hx hn=>let p:=h.keep x hx hn; let q:=k.keep x (Nat.lt_of_lt_of_le hx h.size) p.1; ⟨q.1,q.2.trans p.2⟩⟩
theorem cell_of_heap {w w':World} {a:Addr} (h:w'.heap[a.block]? = w.heap[a.block]?):w'.cell? a=w.cell? a:=by
 simp [World.cell?,h]
theorem At.stab {w w':World} {b off:Nat} {vs:List Value} (h:At w b off vs) (e:w'.heap[b]? = w.heap[b]?):At w' b off vs:=
 fun j v hv=>(cell_of_heap (a:=⟨b,off + j,none⟩) e).trans (h j v hv)
theorem At.lt {w:World} {b off:Nat} {vs:List Value} (h:At w b off vs) (hn:vs≠[]):b < w.heap.size:=by
 cases vs with
 | nil=>exact (hn rfl).elim
 | cons v r=>exact block_lt_of_cell (h 0 v rfl)
theorem At.append {w:World} {b off:Nat} {us vs:List Value}:At w b off (us++vs)↔At w b off us∧At w b (off + us.length) vs:=by
 constructor
 ·intro h
  refine ⟨fun j v hv=>h j v ?_,fun j v hv=>?_⟩
  ·rw [List.getElem?_append_left]
   ·exact hv
   ·exact (List.getElem?_eq_some_iff.mp hv).1
  ·have:=h (us.length + j) v (by rw [List.getElem?_append_right (by omega)]; simpa using hv)
   simpa [Nat.add_assoc] using this
 ·rintro ⟨h1,h2⟩ j v hv
  rcases Nat.lt_or_ge j us.length with hj | hj
  ·exact h1 j v (by rwa [List.getElem?_append_left hj] at hv)
  ·rw [List.getElem?_append_right hj] at hv
   have:=h2 (j - us.length) v hv
   rwa [show off + us.length + (j - us.length)=off + j by omega] at this
theorem DRel.stab {w w':World} {N N':Nat→Prop} (s:Stab w N w' N'):∀ {t:Ty} {x:t.den} {vs:List Value},DRel w N t x vs→DRel w' N' t x vs:=by
 intro t
 induction t with
 | bool=>exact fun {_ _} h=>h
 | int k=>exact fun {_ _} h=>h
 | str=>exact fun {_ _} h=>h
 | slice t ih=>
  rintro x vs ⟨a,n,c,rfl,hn,hc,h⟩
  refine ⟨a,n,c,rfl,hn,hc,?_⟩
  rcases h with h | ⟨b,off,us,ha,hb,hN,hat,hr⟩
  ·exact .inl h
  ·exact .inr ⟨b,off,us,ha,Nat.lt_of_lt_of_le hb s.size,(s.keep b hb hN).1,hat.stab (s.keep b hb hN).2,hr.mono fun _ _ h=>ih h⟩
 | pair a b iha ihb=>
  rintro x vs ⟨us,ws,rfl,h1,h2⟩
  exact ⟨us,ws,rfl,iha h1,ihb h2⟩
 | unit=>exact fun {_ _} h=>h
 | ptr=>exact fun {_ _} h=>h
 | func=>exact fun {_ _} h=>h
 | other=>exact fun {_ _} h=>h
def CellR (σ:Sig) (w:World) (N:Nat→Prop):Cell→Value→Prop
 | .dead,_=>True
 | .undef,v=>v=undef
 | .nw b,v=>v ≠ .bool b
 | .kb b,v=>v = .bool b
 | .bool b,v=>v = .bool b
 | .int k n,v=>v = .int k n
 | .str s,v=>v = .string s
 | .nilp,v=>v = .pointer none
 | .ptr id off,v=>match σ id with
  | some (.box b _)=>v = .pointer (some ⟨b,off,none⟩)
  | some .gone=>v.oneCell'=true
  | _=>False
 | .elt id i off,v=>match σ id with
  | some (.row b o wd len _)=>0≤i∧i < len∧v = .pointer (some ⟨b,o + i.toNat * wd + off,none⟩)
  | some (.nest b o wd len _ _)=>0≤i∧i < len∧v = .pointer (some ⟨b,o + i.toNat * wd + off,none⟩)
  | some .gone=>v.oneCell'=true
  | _=>False
 | .felt t x off,v=>∃ b o us,v = .pointer (some ⟨b,o + off,none⟩)∧b < w.heap.size∧¬ N b∧At w b o us∧DRel w N t x us
 | .sl id,v=>match σ id with
  | some (.row b o wd len size)=>∃ a cap,v = .slice (some a) len cap∧len≤cap∧(cap=0∨a=⟨b,o,none⟩)∧o + cap * wd≤size
  | some (.nest b o wd len size _)=>∃ a cap,v = .slice (some a) len cap∧len≤cap∧(cap=0∨a=⟨b,o,none⟩)∧o + cap * wd≤size
  | some .nil=>v = .slice none 0 0
  | some .gone=>v.oneCell'=true
  | _=>False
 | .sub id lo hi,v=>match σ id with
  | some (.row b o wd len size)=>∃ a n cap,v = .slice (some a) n cap∧n≤cap∧0≤lo∧hi=lo + n∧hi≤len ∧
    (cap=0∨a=⟨b,o + lo.toNat * wd,none⟩)∧o + lo.toNat * wd + cap * wd≤size
  | some (.nest b o wd len size _)=>∃ a n cap,v = .slice (some a) n cap∧n≤cap∧0≤lo∧hi=lo + n∧hi≤len ∧
    (cap=0∨a=⟨b,o + lo.toNat * wd,none⟩)∧o + lo.toNat * wd + cap * wd≤size
  | some .nil=>lo=0∧hi=0∧v = .slice none 0 0
  | some .gone=>v.oneCell'=true
  | _=>False
 | .nilsl _,v=>v = .slice none 0 0
 | .frz t xs,v=>DRel w N (.slice t) xs [v]
 | .func f caps,v=>∃ us:List Value,v = .func (.func f) #[] us.toArray∧us.length=caps.length∧∀ (j:Nat) (p:Nat×Nat) (u:Value),caps[j]? = some p→us[j]? = some u →
   match σ p.1 with
   | some (.box b _)=>u = .pointer (some ⟨b,p.2,none⟩)
   | some .gone=>u.oneCell'=true
   | _=>False
 | .nilfunc,v=>v = .nilFunc
 | .nq e,v=>∃ b,v = .bool b∧(e=false→b=false)
 | .map id,v=>match σ id with
  | some (.mapo b)=>v = .map (some b)
  | some .gone=>v.oneCell'=true
  | _=>False
 | .ifp t id off,v=>∃ u,v = .iface t u∧(match σ id with
  | some (.box b _)=>u = .pointer (some ⟨b,off,none⟩)
  | some .gone=>u.oneCell'=true
  | _=>False)
 | .ifd t ag ty x,v=>ty.flat=true∧∃ us u,v = .iface t u∧DRel w (fun _=>False) ty x us∧((ag=true∧u = .agg us.toArray)∨(ag=false∧us=[u]))
inductive Cells (R:Cell→Value→Prop):List Cell→List Value→Prop where
 | nil:Cells R [] []
 | cons {c:Cell} {v:Value} {cs:List Cell} {vs:List Value}:R c v→Cells R cs vs→Cells R (c::cs) (v::vs)
theorem Cells.length {R:Cell→Value→Prop} {cs:List Cell} {vs:List Value} (h:Cells R cs vs):cs.length=vs.length:=by
 induction h with
 | nil=>rfl
 | cons _ _ ih=>simp [ih]
theorem Cells.mono {R S:Cell→Value→Prop} (hm:∀ c v,R c v→S c v) {cs:List Cell} {vs:List Value} (h:Cells R cs vs):Cells S cs vs:=by
 induction h with
 | nil=>exact .nil
 | cons a _ ih=>exact .cons (hm _ _ a) ih
theorem Cells.append {R:Cell→Value→Prop} {cs ds:List Cell} {vs us:List Value} (h:Cells R cs vs) (k:Cells R ds us):Cells R (cs++ds) (vs++us):=by
 induction h with
 | nil=>exact k
 | cons a _ ih=>exact .cons a ih
theorem Cells.drop {R:Cell→Value→Prop}:∀ {cs:List Cell} {vs:List Value} (n:Nat),Cells R cs vs→Cells R (cs.drop n) (vs.drop n)
 | _,_,0,h=>h
 | _,_,_ + 1,.nil=>.nil
 | _,_,n + 1,.cons _ h=>Cells.drop n h
theorem Cells.take {R:Cell→Value→Prop}:∀ {cs:List Cell} {vs:List Value} (n:Nat),Cells R cs vs→Cells R (cs.take n) (vs.take n)
 | _,_,0,_=>.nil
 | _,_,_ + 1,.nil=>.nil
 | _,_,n + 1,.cons a h=>.cons a (Cells.take n h)
theorem Cells.split {R:Cell→Value→Prop}:∀ {cs ds:List Cell} {vs:List Value},Cells R (cs++ds) vs→∃ us ws,vs=us++ws∧Cells R cs us∧Cells R ds ws
 | [],_,vs,h=>⟨[],vs,rfl,.nil,h⟩
 | _::_,_,_,.cons a h=>let ⟨us,ws,e,h1,h2⟩:=Cells.split h; ⟨_::us,ws,by rw [e]; rfl,.cons a h1,h2⟩
inductive AVR0 (R:Cell→Value→Prop):AV0→Value→Prop where
 | c {x:Cell} {v:Value}:R x v→AVR0 R (.c x) v
 | agg {cs:List Cell} {vs:List Value}:Cells R cs vs→AVR0 R (.agg cs) (.agg vs.toArray)
inductive Tup (R:Cell→Value→Prop):List AV0→List Value→Prop where
 | nil:Tup R [] []
 | cons {a:AV0} {v:Value} {as:List AV0} {vs:List Value}:AVR0 R a v→Tup R as vs→Tup R (a::as) (v::vs)
inductive AVR (R:Cell→Value→Prop):AV→Value→Prop where
 | c {x:Cell} {v:Value}:R x v→AVR R (.c x) v
 | agg {cs:List Cell} {vs:List Value}:Cells R cs vs→AVR R (.agg cs) (.agg vs.toArray)
 | tup {as:List AV0} {vs:List Value}:Tup R as vs→AVR R (.tup as) (.tuple vs.toArray)
theorem AVR0.mono {R S:Cell→Value→Prop} (hm:∀ c v,R c v→S c v) {a:AV0} {v:Value} (h:AVR0 R a v):AVR0 S a v:=by
 cases h with
 | c h=>exact .c (hm _ _ h)
 | agg h=>exact .agg (h.mono hm)
theorem Tup.mono {R S:Cell→Value→Prop} (hm:∀ c v,R c v→S c v) {a:List AV0} {v:List Value} (h:Tup R a v):Tup S a v:=by
 induction h with
 | nil=>exact .nil
 | cons a _ ih=>exact .cons (a.mono hm) ih
theorem AVR.mono {R S:Cell→Value→Prop} (hm:∀ c v,R c v→S c v) {a:AV} {v:Value} (h:AVR R a v):AVR S a v:=by
 cases h with
 | c h=>exact .c (hm _ _ h)
 | agg h=>exact .agg (h.mono hm)
 | tup h=>exact .tup (h.mono hm)
def OwnBlk (w:World) (b size:Nat):Prop:=∃ cs e,w.heap[b]? = some (.cells cs e (0,0))∧cs.size=size
def NS (w:World) (o:Option Nat) (e:Ty) (xs:List e.den) (v:Value):Prop:=
 (o=none∧xs=[]∧v = .slice none 0 0) ∨
 ∃ b off size us a cap,o=some b∧OwnBlk w b size∧v = .slice (some a) xs.length cap∧xs.length≤cap∧(cap=0∨a=⟨b,off,none⟩)∧off + cap * e.size≤size ∧
  At w b off us∧RowR (DRel w (fun _=>False) e) xs us
def ND (w:World) (own:Nat→Option Nat) (hole:Nat→Bool):(t:Ty)→Nat→t.den→List Value→Prop
 | .bool,_,b,vs=>vs=[.bool b]
 | .int k,_,n,vs=>vs=[.int k n]
 | .str,_,s,vs=>vs=[.string s]
 | .slice e,p,xs,vs=>e.flat=true∧∃ v,vs=[v]∧v.oneCell'=true∧(hole p=true→own p=none)∧(hole p=false→NS w (own p) e xs v)
 | .pair a b,p,x,vs=>∃ us ws,vs=us++ws∧ND w own hole a p x.1 us∧ND w own hole b (p + a.size) x.2 ws
 | .unit,_,_,vs=>vs=[]
 | .ptr,_,_,_=>False
 | .func,_,_,_=>False
 | .other,_,_,_=>False
def NRow (w:World) (own:Nat→Option Nat) (hole:Nat→Bool) (t:Ty):Nat→List t.den→List Value→Prop
 | _,[],vs=>vs=[]
 | p,x::xs,vs=>∃ us ws,vs=us++ws∧ND w own hole t p x us∧NRow w own hole t (p + t.size) xs ws
def holeAt (t:Ty) (h:Option (Int×Nat)) (p:Nat):Bool:=match h with | none=>false | some (i,off)=>Nat.beq p (i.toNat * t.size + off)
def Ty.val:(t:Ty)→t.den→Value
 | .bool,b=>.bool b | .int k,n=>.int k n | .str,s=>.string s
 | _,_=>.nilIface
def keyTy:Ty→Bool | .int _=>true | .str=>true | _=>false
def oneTy:Ty→Bool | .bool=>true | .int _=>true | .str=>true | _=>false
def MapR (k v:Ty) (es:List MapEntry) (xs:List (k.den×v.den×Int)):Prop:=es.map (fun e=>(e.key,e.val,(e.born:Int)))=xs.map fun x=>(k.val x.1,v.val x.2.1,x.2.2)
def SlotR (σ:Sig) (w:World) (N:Nat→Prop) (id:Nat):Slot→Prop
 | .none=>σ id=none
 | .gone=>σ id=some .gone
 | .box cs=>∃ b vs,σ id=some (.box b cs.length)∧OwnBlk w b cs.length∧At w b 0 vs∧Cells (CellR σ w N) cs vs
 | .row t xs=>(σ id=some .nil∧xs=[])∨∃ b off size us,σ id=some (.row b off t.size xs.length size)∧OwnBlk w b size∧off + xs.length * t.size≤size ∧
   At w b off us∧RowR (DRel w N t) xs us
 | .fro t xs=>(σ id=some .nil∧xs=[])∨∃ b off size us,(σ id=some (.row b off t.size xs.length size)∨∃ own,σ id=some (.nest b off t.size xs.length size own))∧b < w.heap.size∧¬ N b ∧
   At w b off us∧RowR (DRel w N t) xs us
 | .mp k v xs clk=>keyTy k=true∧oneTy v=true∧∃ b es clock,σ id=some (.mapo b)∧w.heap[b]? = some (.map es clock)∧clk=(clock:Int)∧MapR k v es.toList xs
 | .nest t xs hole=>(σ id=some .nil∧xs=[]∧hole=none)∨∃ b off size us own,σ id=some (.nest b off t.size xs.length size own)∧OwnBlk w b size∧off + xs.length * t.size≤size∧At w b off us ∧
   NRow w own (holeAt t hole) t 0 xs us∧(∀ p b',own p=some b'→b'≠b∧∃ z,OwnBlk w b' z)∧(∀ p q b',own p=some b'→own q=some b'→p=q)
def isOwned:Slot→Prop
 | .box _=>True
 | .row _ _=>True
 | .mp _ _ _ _=>True
 | .nest _ _ _=>True
 | _=>False
def Has (σ:Sig) (s:St) (id b:Nat):Prop:=
 isOwned (look .none s.heap id)∧∃ l,σ id=some l∧l.has b
def Owns (σ:Sig) (s:St) (b:Nat):Prop:=∃ id,Has σ s id b
def Nof (X:Nat→Prop) (σ:Sig) (s:St) (b:Nat):Prop:=Owns σ s b∨X b
structure Rel (X:Nat→Prop) (σ:Sig) (s:St) (a:Act) (w:World):Prop where
 defers:a.defers=[]
 size:a.tmps.size=s.n
 env:∀ t,look none s.genv t=none→AVR (CellR σ w (Nof X σ s)) (look (.c .dead) s.env t) (a.tmps.getD t undef)
 genv:∀ t gv,look none s.genv t=some gv→gv.g≠t ∧
  (a.tmps.getD gv.g undef = .bool gv.want→CellR σ w (Nof X σ s) gv.x (a.tmps.getD t undef))∧(a.tmps.getD gv.g undef ≠ .bool gv.want→a.tmps.getD t undef=undef)
 gdead:∀ t gv,look none s.genv t=some gv→look (.c .dead) s.env t = .c .dead
 heap:∀ id,SlotR σ w (Nof X σ s) id (look .none s.heap id)
 inj:∀ id id' b,Has σ s id b→Has σ s id' b→id=id'
 ext:∀ b,X b→b < w.heap.size∧¬ Owns σ s b
structure Go1 (w:World) (O:Nat→Prop) (w':World) (O':Nat→Prop):Prop where
 os:w'.os=w.os
 tape:w'.tape=w.tape
 output:w'.output=w.output
 size:w.heap.size≤w'.heap.size
 keep:∀ b,b < w.heap.size→¬ O b→w'.heap[b]? = w.heap[b]?
 own:∀ b,O' b→O b∨w.heap.size≤b
theorem Go1.refl (w:World) (O:Nat→Prop):Go1 w O w O:=⟨rfl,rfl,rfl,Nat.le_refl _,fun _ _ _=>rfl,fun _ h=>.inl h⟩
theorem Go1.trans {a b c:World} {N M K:Nat→Prop} (h:Go1 a N b M) (k:Go1 b M c K):Go1 a N c K where
 os:=k.os.trans h.os
 tape:=k.tape.trans h.tape
 output:=k.output.trans h.output
 size:=Nat.le_trans h.size k.size
 keep:=fun x hx hn=>(k.keep x (Nat.lt_of_lt_of_le hx h.size) (fun hm=>(h.own x hm).elim hn (fun hge=>absurd hx (by omega)))).trans (h.keep x hx hn)
 own:=fun x hx=>(k.own x hx).elim (fun hm=>h.own x hm) (fun hge=>.inr (Nat.le_trans h.size hge))
theorem DRel.flat {w w':World} {N N':Nat→Prop}:∀ {t:Ty} {x:t.den} {vs:List Value},t.flat=true→DRel w N t x vs→DRel w' N' t x vs:=by
 intro t
 induction t with
 | slice t _=>intro x vs h; cases h
 | pair a b iha ihb=>
  rintro x vs hd ⟨us,ws,rfl,h1,h2⟩
  simp only [Ty.flat,Bool.and_eq_true] at hd
  exact ⟨us,ws,rfl,iha hd.1 h1,ihb hd.2 h2⟩
 | _=>exact fun _ h=>h
theorem OwnBlk.keep {w w':World} {b z:Nat} (h:OwnBlk w b z) (e:w'.heap[b]? = w.heap[b]?):OwnBlk w' b z:=by
 obtain ⟨cs,el,h1,h2⟩:=h
 exact ⟨cs,el,e.trans h1,h2⟩
theorem NS.keep {w w':World} {o:Option Nat} {e:Ty} {xs:List e.den} {v:Value} (he:e.flat=true) (hk:∀ b,o=some b→w'.heap[b]? = w.heap[b]?) (h:NS w o e xs v):NS w' o e xs v:=by
 rcases h with h | ⟨b,off,size,us,a,cap,h1,h2,h3,h4,h5,h6,h7,h8⟩
 ·exact .inl h
 ·exact .inr ⟨b,off,size,us,a,cap,h1,h2.keep (hk b h1),h3,h4,h5,h6,h7.stab (hk b h1),h8.mono fun _ _ d=>d.flat he⟩
theorem ND.keep {w w':World} {own:Nat→Option Nat} {hole:Nat→Bool} (hk:∀ p b,own p=some b→w'.heap[b]? = w.heap[b]?):∀ {t:Ty} {p:Nat} {x:t.den} {vs:List Value},ND w own hole t p x vs→ND w' own hole t p x vs:=by
 intro t
 induction t with
 | slice e _=>
  rintro p x vs ⟨h1,v,h2,h3,h4,h5⟩
  exact ⟨h1,v,h2,h3,h4,fun z=>(h5 z).keep h1 (hk p)⟩
 | pair a b iha ihb=>
  rintro p x vs ⟨us,ws,rfl,h1,h2⟩
  exact ⟨us,ws,rfl,iha h1,ihb h2⟩
 | _=>exact fun h=>h
theorem NRow.keep {w w':World} {own:Nat→Option Nat} {hole:Nat→Bool} {t:Ty} (hk:∀ p b,own p=some b→w'.heap[b]? = w.heap[b]?):∀ {xs:List t.den} {p:Nat} {vs:List Value},NRow w own hole t p xs vs→NRow w' own hole t p xs vs
 | [],_,_,h=>h
 | _::xs,_,_,⟨us,ws,e,h1,h2⟩=>⟨us,ws,e,h1.keep hk,NRow.keep hk h2⟩
theorem SlotR.nest_keep {σ σ':Sig} {w w':World} {N N':Nat→Prop} {id id':Nat} {t:Ty} {xs:List t.den} {hole:Option (Int×Nat)} (hid:∀ l,σ id=some l→σ' id'=some l)
  (hk:∀ b,(∃ l,σ id=some l∧l.has b)→w'.heap[b]? = w.heap[b]?) (h:SlotR σ w N id (.nest t xs hole)):SlotR σ' w' N' id' (.nest t xs hole):=by
 rcases h with ⟨h0,hx,hh⟩ | ⟨b,off,size,us,own,h1,h2,h3,h4,h5,h6,h7⟩
 ·exact .inl ⟨hid _ h0,hx,hh⟩
 right
 have k0:=hk b ⟨_,h1,.inl rfl⟩
 have k1:∀ p b',own p=some b'→w'.heap[b']? = w.heap[b']?:=fun p b' e=>hk b' ⟨_,h1,.inr ⟨p,e⟩⟩
 exact ⟨b,off,size,us,own,hid _ h1,h2.keep k0,h3,h4.stab k0,h5.keep k1,fun p b' e=>⟨(h6 p b' e).1,(h6 p b' e).2.imp fun z hz=>hz.keep (k1 p b' e)⟩,h7⟩
theorem SlotR.mp_keep {σ σ':Sig} {w w':World} {N N':Nat→Prop} {id id':Nat} {k v:Ty} {xs:List (k.den×v.den×Int)} {clk:Int} (hid:∀ l,σ id=some l→σ' id'=some l)
  (hk:∀ b,(∃ l,σ id=some l∧l.has b)→w'.heap[b]? = w.heap[b]?) (h:SlotR σ w N id (.mp k v xs clk)):SlotR σ' w' N' id' (.mp k v xs clk):=by
 obtain ⟨h1,h2,b,es,clock,h3,h4,h5,h6⟩:=h
 exact ⟨h1,h2,b,es,clock,hid _ h3,(hk b ⟨_,h3,rfl⟩).trans h4,h5,h6⟩
theorem CellR.stab {σ:Sig} {w w':World} {N N':Nat→Prop} (s:Stab w N w' N') {c:Cell} {v:Value} (h:CellR σ w N c v):CellR σ w' N' c v:=by
 cases c with
 | felt t x off=>
  obtain ⟨b,o,us,hv,hb,hN,hat,hd⟩:=h
  exact ⟨b,o,us,hv,Nat.lt_of_lt_of_le hb s.size,(s.keep b hb hN).1,hat.stab (s.keep b hb hN).2,hd.stab s⟩
 | frz t xs=>exact DRel.stab s (t:=.slice t) h
 | ifd t ag ty x=>
  obtain ⟨h1,us,u,h2,h3,h4⟩:=h
  exact ⟨h1,us,u,h2,h3.flat h1,h4⟩
 | _=>exact h
theorem look_append {α:Type} (d:α):∀ (a b:List (Nat×α)) (n:Nat),look d (a++b) n=look (look d b n) a n
 | [],_,_=>rfl
 | (k,v)::r,b,n=>by simp only [List.cons_append,look]; rw [look_append d r b n]
theorem look_cons_eq {α:Type} (d:α) (v:α) (r:List (Nat×α)) (n:Nat):look d ((n,v)::r) n=v:=by simp [look]
theorem look_cons_ne {α:Type} (d:α) (v:α) (r:List (Nat×α)) {k n:Nat} (h:k≠n):look d ((k,v)::r) n=look d r n:=by
 simp only [look]
 have:Nat.beq k n=false:=by
  rw [← Bool.not_eq_true]
  intro e
  exact h (Nat.eq_of_beq_eq_true e)
 simp [this]
end Go.Eng
namespace Go.Eng
open Go
section
variable {X:Nat→Prop} {σ:Sig} {s:St} {a:Act} {w:World}
def upd (σ:Sig) (id:Nat) (l:Loc):Sig:=fun i=>if i=id then some l else σ i
theorem upd_same (σ:Sig) (id:Nat) (l:Loc):upd σ id l id=some l:=by simp [upd]
theorem upd_ne (σ:Sig) {id i:Nat} (l:Loc) (h:i≠id):upd σ id l i=σ i:=by simp [upd,h]
theorem Rel.move {σ':Sig} {hs:List (Nat×Slot)} {w':World} (h:Rel X σ s a w)
  (hm:∀ c v,CellR σ w (Nof X σ s) c v→CellR σ' w' (Nof X σ' (s.put [] [] hs)) c v)
  (hh:∀ id,SlotR σ' w' (Nof X σ' (s.put [] [] hs)) id (look .none (hs++s.heap) id))
  (hi:∀ id id' b,Has σ' (s.put [] [] hs) id b→Has σ' (s.put [] [] hs) id' b→id=id')
  (he:∀ b,X b→b < w'.heap.size∧¬ Owns σ' (s.put [] [] hs) b):Rel X σ' (s.put [] [] hs) a w' where
 defers:=h.defers
 size:=h.size
 env:=fun t ht=>(h.env t ht).mono hm
 genv:=fun t gv ht=>⟨(h.genv t gv ht).1,fun e=>hm _ _ ((h.genv t gv ht).2.1 e),(h.genv t gv ht).2.2⟩
 gdead:=h.gdead
 heap:=hh
 inj:=hi
 ext:=he
theorem Rel.same {w':World} (h:Rel X σ s a w) (e:w'.heap=w.heap):Rel X σ s a w':=by
 have st:Stab w (Nof X σ s) w' (Nof X σ s):=⟨by rw [e]; exact Nat.le_refl _,fun b _ hn=>⟨hn,by rw [e]⟩⟩
 refine h.move (hs:=[]) (fun c v hc=>hc.stab st) (fun id=>?_) h.inj (fun b hb=>⟨by rw [e]; exact (h.ext b hb).1,(h.ext b hb).2⟩)
 have:=h.heap id
 simp only [List.nil_append]
 cases hl:look .none s.heap id with
 | none=>rw [hl] at this; exact this
 | gone=>rw [hl] at this; exact this
 | box cs=>
  rw [hl] at this
  obtain ⟨b,vs,h1,⟨cs',el,h2,h3⟩,h4,h5⟩:=this
  exact ⟨b,vs,h1,⟨cs',el,by rw [e]; exact h2,h3⟩,h4.stab (by rw [e]),h5.mono fun _ _ hc=>hc.stab st⟩
 | row t xs=>
  rw [hl] at this
  rcases this with h0 | ⟨b,off,size,us,h1,⟨cs',el,h2,h3⟩,h4,h5,h6⟩
  ·exact .inl h0
  ·exact .inr ⟨b,off,size,us,h1,⟨cs',el,by rw [e]; exact h2,h3⟩,h4,h5.stab (by rw [e]),h6.mono fun _ _ hc=>hc.stab st⟩
 | fro t xs=>
  rw [hl] at this
  rcases this with h0 | ⟨b,off,size,us,h1,h2,h3,h4,h5⟩
  ·exact .inl h0
  ·exact .inr ⟨b,off,size,us,h1,by rw [e]; exact h2,h3,h4.stab (by rw [e]),h5.mono fun _ _ hc=>hc.stab st⟩
 | mp k v xs clk=>
  rw [hl] at this
  exact this.mp_keep (fun _ h=>h) fun b _=>by rw [e]
 | nest t xs hole=>
  rw [hl] at this
  exact this.nest_keep (fun _ h=>h) fun b _=>by rw [e]
theorem ne_beq {a b:Nat} (h:Nat.beq a b=false):a≠b:=by
 intro e
 subst e
 rw [Nat.beq_refl] at h
 cases h
theorem freeOf_spec:∀ {g:List (Nat×Option GV)} {d:Nat},freeOf g d=true→∀ t gv,look none g t=some gv→gv.g≠d
 | [],_,_,_,_,h=>by simp [look] at h
 | (k,some v)::r,d,h,t,gv,hl=>by
  simp only [freeOf,Bool.and_eq_true,Bool.not_eq_true'] at h
  by_cases hk:k=t
  ·subst hk
   rw [look_cons_eq] at hl
   cases hl
   exact ne_beq h.1
  ·rw [look_cons_ne _ _ _ hk] at hl
   exact freeOf_spec h.2 t gv hl
 | (k,none)::r,d,h,t,gv,hl=>by
  simp only [freeOf] at h
  by_cases hk:k=t
  ·subst hk
   rw [look_cons_eq] at hl
   cases hl
  ·rw [look_cons_ne _ _ _ hk] at hl
   exact freeOf_spec h t gv hl
theorem put_same {a:Act} {d:Nat} {v:Value} (h:d < a.tmps.size):(a.put (some d) v).tmps.getD d undef=v:=by
 simp [Act.put,Array.getD_eq_getD_getElem?,h]
theorem put_ne {a:Act} {d t:Nat} {v:Value} (h:d≠t):(a.put (some d) v).tmps.getD t undef=a.tmps.getD t undef:=by
 simp [Act.put,Array.getD_eq_getD_getElem?,h]
theorem put_defers {a:Act} {d:Option Nat} {v:Value}:(a.put d v).defers=a.defers:=by cases d <;> rfl
theorem put_size {a:Act} {d:Option Nat} {v:Value}:(a.put d v).tmps.size=a.tmps.size:=by cases d <;> simp [Act.put]
theorem Rel.tmp {d:Nat} {x:AV} {v:Value} (h:Rel X σ s a w) (hd:d < s.n) (hf:freeOf s.genv d=true) (hx:AVR (CellR σ w (Nof X σ s)) x v) :
  Rel X σ (s.put [(d,x)] [(d,none)] []) (a.put (some d) v) w where
 defers:=h.defers
 size:=put_size.trans h.size
 env:=fun t ht=>by
  by_cases e:d=t
  ·subst e
   show AVR (CellR σ w (Nof X σ s)) (look (.c .dead) ((d,x)::s.env) d) _
   rw [look_cons_eq,put_same (by rw [h.size]; exact hd)]
   exact hx
  ·have ht':look none s.genv t=none:=by
    have:look none ((d,none)::s.genv) t=none:=ht
    rwa [look_cons_ne _ _ _ e] at this
   show AVR (CellR σ w (Nof X σ s)) (look (.c .dead) ((d,x)::s.env) t) _
   rw [look_cons_ne _ _ _ e,put_ne e]
   exact h.env t ht'
 genv:=fun t gv ht=>by
  by_cases e:d=t
  ·subst e
   have:look none ((d,none)::s.genv) d=some gv:=ht
   rw [look_cons_eq] at this
   cases this
  ·have ht':look none s.genv t=some gv:=by
    have:look none ((d,none)::s.genv) t=some gv:=ht
    rwa [look_cons_ne _ _ _ e] at this
   have hg:=freeOf_spec hf t gv ht'
   have:=h.genv t gv ht'
   rw [put_ne e,put_ne hg.symm]
   exact this
 gdead:=fun t gv ht=>by
  by_cases e:d=t
  ·subst e
   have:look none ((d,none)::s.genv) d=some gv:=ht
   rw [look_cons_eq] at this
   cases this
  ·have ht':look none s.genv t=some gv:=by
    have:look none ((d,none)::s.genv) t=some gv:=ht
    rwa [look_cons_ne _ _ _ e] at this
   show look (.c .dead) ((d,x)::s.env) t=_
   rw [look_cons_ne _ _ _ e]
   exact h.gdead t gv ht'
 heap:=h.heap
 inj:=h.inj
 ext:=h.ext
theorem Rel.tmpG {d:Nat} {gv:GV} {v:Value} (h:Rel X σ s a w) (hd:d < s.n) (hf:freeOf s.genv d=true) (hg:gv.g≠d)
  (hx:(a.tmps.getD gv.g undef = .bool gv.want→CellR σ w (Nof X σ s) gv.x v)∧(a.tmps.getD gv.g undef ≠ .bool gv.want→v=undef)) :
  Rel X σ (s.put [(d,.c .dead)] [(d,some gv),(d,none)] []) (a.put (some d) v) w where
 defers:=h.defers
 size:=put_size.trans h.size
 env:=fun t ht=>by
  by_cases e:d=t
  ·subst e
   have:look none ((d,some gv)::(d,none)::s.genv) d=none:=ht
   rw [look_cons_eq] at this
   cases this
  ·have ht':look none s.genv t=none:=by
    have:look none ((d,some gv)::(d,none)::s.genv) t=none:=ht
    rwa [look_cons_ne _ _ _ e,look_cons_ne _ _ _ e] at this
   show AVR (CellR σ w (Nof X σ s)) (look (.c .dead) ((d,.c .dead)::s.env) t) _
   rw [look_cons_ne _ _ _ e,put_ne e]
   exact h.env t ht'
 genv:=fun t gv' ht=>by
  by_cases e:d=t
  ·subst e
   have:look none ((d,some gv)::(d,none)::s.genv) d=some gv':=ht
   rw [look_cons_eq] at this
   cases this
   rw [put_ne hg.symm,put_same (by rw [h.size]; exact hd)]
   exact ⟨hg,hx⟩
  ·have ht':look none s.genv t=some gv':=by
    have:look none ((d,some gv)::(d,none)::s.genv) t=some gv':=ht
    rwa [look_cons_ne _ _ _ e,look_cons_ne _ _ _ e] at this
   have hg:=freeOf_spec hf t gv' ht'
   have:=h.genv t gv' ht'
   rw [put_ne e,put_ne hg.symm]
   exact this
 gdead:=fun t gv' ht=>by
  by_cases e:d=t
  ·subst e
   show look (.c .dead) ((d,.c .dead)::s.env) d=_
   rw [look_cons_eq]
  ·have ht':look none s.genv t=some gv':=by
    have:look none ((d,some gv)::(d,none)::s.genv) t=some gv':=ht
    rwa [look_cons_ne _ _ _ e,look_cons_ne _ _ _ e] at this
   show look (.c .dead) ((d,.c .dead)::s.env) t=_
   rw [look_cons_ne _ _ _ e]
   exact h.gdead t gv' ht'
 heap:=h.heap
 inj:=h.inj
 ext:=h.ext
theorem Rel.refine {g:Nat} {x:AV} (h:Rel X σ s a w) (hx:AVR (CellR σ w (Nof X σ s)) x (a.tmps.getD g undef)) :
  Rel X σ (s.put [(g,x)] [(g,none)] []) a w where
 defers:=h.defers
 size:=h.size
 env:=fun t ht=>by
  by_cases e:g=t
  ·subst e
   show AVR (CellR σ w (Nof X σ s)) (look (.c .dead) ((g,x)::s.env) g) _
   rw [look_cons_eq]
   exact hx
  ·have ht':look none s.genv t=none:=by
    have:look none ((g,none)::s.genv) t=none:=ht
    rwa [look_cons_ne _ _ _ e] at this
   show AVR (CellR σ w (Nof X σ s)) (look (.c .dead) ((g,x)::s.env) t) _
   rw [look_cons_ne _ _ _ e]
   exact h.env t ht'
 genv:=fun t gv ht=>by
  by_cases e:g=t
  ·subst e
   have:look none ((g,none)::s.genv) g=some gv:=ht
   rw [look_cons_eq] at this
   cases this
  ·have ht':look none s.genv t=some gv:=by
    have:look none ((g,none)::s.genv) t=some gv:=ht
    rwa [look_cons_ne _ _ _ e] at this
   exact h.genv t gv ht'
 gdead:=fun t gv ht=>by
  by_cases e:g=t
  ·subst e
   have:look none ((g,none)::s.genv) g=some gv:=ht
   rw [look_cons_eq] at this
   cases this
  ·have ht':look none s.genv t=some gv:=by
    have:look none ((g,none)::s.genv) t=some gv:=ht
    rwa [look_cons_ne _ _ _ e] at this
   show look (.c .dead) ((g,x)::s.env) t=_
   rw [look_cons_ne _ _ _ e]
   exact h.gdead t gv ht'
 heap:=h.heap
 inj:=h.inj
 ext:=h.ext
theorem Rel.clean (h:Rel X σ s a w):Rel X σ { s with genv:=[] } a w where
 defers:=h.defers
 size:=h.size
 env:=fun t _=>by
  show AVR (CellR σ w (Nof X σ s)) (look (.c .dead) s.env t) _
  cases hl:look none s.genv t with
  | none=>exact h.env t hl
  | some gv=>rw [h.gdead t gv hl]; exact .c trivial
 genv:=fun t gv ht=>by simp [look] at ht
 gdead:=fun t gv ht=>by simp [look] at ht
 heap:=h.heap
 inj:=h.inj
 ext:=h.ext
theorem CellR.upd {N:Nat→Prop} {id:Nat} {l:Loc} (hn:σ id=none) {c:Cell} {v:Value} (h:CellR σ w N c v):CellR (upd σ id l) w N c v:=by
 have key:∀ i,σ i≠none→Eng.upd σ id l i=σ i:=fun i hi=>upd_ne σ l (fun e=>hi (e ▸ hn))
 cases c with
 | ptr i off=>
  have hi:σ i≠none:=fun e=>by simp [CellR,e] at h
  simpa only [CellR,key i hi] using h
 | elt i x off=>
  have hi:σ i≠none:=fun e=>by simp [CellR,e] at h
  simpa only [CellR,key i hi] using h
 | sl i=>
  have hi:σ i≠none:=fun e=>by simp [CellR,e] at h
  simpa only [CellR,key i hi] using h
 | sub i lo hi'=>
  have hi:σ i≠none:=fun e=>by simp [CellR,e] at h
  simpa only [CellR,key i hi] using h
 | func f caps=>
  obtain ⟨us,hv,hl,hu⟩:=h
  refine ⟨us,hv,hl,fun j p u hp hj=>?_⟩
  have:=hu j p u hp hj
  have hi:σ p.1≠none:=fun e=>by simp [e] at this
  rwa [key _ hi]
 | map i=>
  have hi:σ i≠none:=fun e=>by simp [CellR,e] at h
  simpa only [CellR,key i hi] using h
 | ifp t i off=>
  obtain ⟨u,h1,h2⟩:=h
  have hi:σ i≠none:=fun e=>by simp [e] at h2
  exact ⟨u,h1,by rw [key i hi]; exact h2⟩
 | _=>exact h
theorem CellR.drop {N:Nat→Prop} {id:Nat} {c:Cell} {v:Value} (h:CellR σ w N c v):CellR (Eng.upd σ id .gone) w N c v:=by
 cases c with
 | ptr i off=>
  by_cases e:i=id
  ·subst e
   simp only [CellR,upd_same]
   simp only [CellR] at h
   split at h <;> first | exact h | exact h.elim | (subst h; rfl)
  ·simpa only [CellR,upd_ne σ _ e] using h
 | elt i x off=>
  by_cases e:i=id
  ·subst e
   simp only [CellR,upd_same]
   simp only [CellR] at h
   split at h <;> first | exact h | exact h.elim | (obtain ⟨_,_,rfl⟩:=h; rfl)
  ·simpa only [CellR,upd_ne σ _ e] using h
 | sl i=>
  by_cases e:i=id
  ·subst e
   simp only [CellR,upd_same]
   simp only [CellR] at h
   split at h <;> first | exact h | exact h.elim | (subst h; rfl) | (obtain ⟨_,_,rfl,_⟩:=h; rfl)
  ·simpa only [CellR,upd_ne σ _ e] using h
 | sub i lo hi'=>
  by_cases e:i=id
  ·subst e
   simp only [CellR,upd_same]
   simp only [CellR] at h
   split at h <;> first | exact h | exact h.elim | (obtain ⟨_,_,rfl⟩:=h; rfl) | (obtain ⟨_,_,_,rfl,_⟩:=h; rfl)
  ·simpa only [CellR,upd_ne σ _ e] using h
 | func f caps=>
  obtain ⟨us,hv,hl,hu⟩:=h
  refine ⟨us,hv,hl,fun j p u hp hj=>?_⟩
  have:=hu j p u hp hj
  by_cases e:p.1=id
  ·rw [e,upd_same]
   rw [e] at this
   dsimp only
   split at this <;> first | exact this | exact this.elim | (subst this; rfl)
  ·rwa [upd_ne σ _ e]
 | map i=>
  by_cases e:i=id
  ·subst e
   simp only [CellR,upd_same]
   simp only [CellR] at h
   split at h <;> first | exact h | exact h.elim | (subst h; rfl)
  ·simpa only [CellR,upd_ne σ _ e] using h
 | ifp t i off=>
  obtain ⟨u,h1,h2⟩:=h
  refine ⟨u,h1,?_⟩
  by_cases e:i=id
  ·subst e
   rw [upd_same]
   split at h2 <;> first | exact h2 | exact h2.elim | (subst h2; rfl)
  ·rw [upd_ne σ _ e]; exact h2
 | _=>exact h
end
end Go.Eng
namespace Go.Eng
open Go
section
variable {X:Nat→Prop} {σ:Sig} {s:St} {a:Act} {w:World}
theorem has_iff {σ:Sig} {s:St} {id b:Nat}:Has σ s id b↔isOwned (look .none s.heap id)∧∃ l,σ id=some l∧l.has b:=Iff.rfl
theorem ownBlk_lt {b n:Nat} (h:OwnBlk w b n):b < w.heap.size:=by
 obtain ⟨cs,e,h,_⟩:=h
 exact (Array.getElem?_eq_some_iff.mp h).1
theorem Rel.owns_lt (h:Rel X σ s a w) {b:Nat} (hb:Owns σ s b):b < w.heap.size:=by
 obtain ⟨id,hi⟩:=hb
 obtain ⟨ho,l,hl,hb⟩:=has_iff.mp hi
 have:=h.heap id
 cases hs:look .none s.heap id with
 | box cs=>
  rw [hs] at this
  obtain ⟨b',vs,h1,h2,_⟩:=this
  rw [hl] at h1; cases h1; cases hb
  exact ownBlk_lt h2
 | row t xs=>
  rw [hs] at this
  rcases this with ⟨h0,_⟩ | ⟨b',off,size,us,h1,h2,_⟩
  ·rw [hl] at h0; cases h0; cases hb
  ·rw [hl] at h1; cases h1; cases hb
   exact ownBlk_lt h2
 | none=>rw [hs] at ho; exact ho.elim
 | gone=>rw [hs] at ho; exact ho.elim
 | fro t xs=>rw [hs] at ho; exact ho.elim
 | mp k v xs clk=>
  rw [hs] at this
  obtain ⟨_,_,b',es,clock,h1,h2,_⟩:=this
  rw [hl] at h1; cases h1; cases hb
  exact (Array.getElem?_eq_some_iff.mp h2).1
 | nest t xs hole=>
  rw [hs] at this
  rcases this with ⟨h0,_⟩ | ⟨b',off,size,us,own,h1,h2,_,_,_,h6,_⟩
  ·rw [hl] at h0; cases h0; exact hb.elim
  rw [hl] at h1; cases h1
  rcases hb with rfl | ⟨p,hp⟩
  ·exact ownBlk_lt h2
  ·exact ownBlk_lt (h6 p b hp).2.choose_spec
theorem look_put1 {id i:Nat} {S:Slot}:look .none ((id,S)::s.heap) i=if i=id then S else look .none s.heap i:=by
 by_cases h:i=id
 ·subst h; rw [look_cons_eq,if_pos rfl]
 ·rw [look_cons_ne _ _ _ (Ne.symm h),if_neg h]
theorem owns_put1 {id:Nat} {S:Slot} {l:Loc} {b:Nat} (h:Owns (upd σ id l) (s.put [] [] [(id,S)]) b) :
  (isOwned S∧l.has b)∨∃ i,i≠id∧Has σ s i b:=by
 obtain ⟨i,hi⟩:=h
 obtain ⟨ho,l',hl,hb⟩:=has_iff.mp hi
 have ho':isOwned (look .none ((id,S)::s.heap) i):=ho
 rw [look_put1] at ho'
 by_cases e:i=id
 ·subst e
  rw [if_pos rfl] at ho'
  rw [upd_same] at hl
  cases hl
  exact .inl ⟨ho',hb⟩
 ·rw [if_neg e] at ho'
  rw [upd_ne σ _ e] at hl
  exact .inr ⟨i,e,has_iff.mpr ⟨ho',l',hl,hb⟩⟩
theorem SlotR.other {w':World} {N N':Nat→Prop} {id i:Nat} {l:Loc} {S:Slot} (hi:i≠id)
  (hc:∀ c v,CellR σ w N c v→CellR (upd σ id l) w' N' c v)
  (st:∀ t (xs:List t.den) us,RowR (DRel w N t) xs us→RowR (DRel w' N' t) xs us)
  (hk:∀ b,(∃ l,σ i=some l∧l.has b)→isOwned S→w'.heap[b]? = w.heap[b]?)
  (hf:∀ b,b < w.heap.size→¬ N b→b < w'.heap.size∧¬ N' b∧w'.heap[b]? = w.heap[b]?)
  (h:SlotR σ w N i S):SlotR (upd σ id l) w' N' i S:=by
 cases S with
 | none=>exact (upd_ne σ l hi).trans h
 | gone=>exact (upd_ne σ l hi).trans h
 | box cs=>
  obtain ⟨b,vs,h1,⟨c',e,h2,h3⟩,h4,h5⟩:=h
  have e1:=hk b ⟨_,h1,rfl⟩ trivial
  exact ⟨b,vs,(upd_ne σ l hi).trans h1,⟨c',e,e1.trans h2,h3⟩,h4.stab e1,h5.mono hc⟩
 | row t xs=>
  rcases h with ⟨h0,hx⟩ | ⟨b,off,size,us,h1,⟨c',e,h2,h3⟩,h4,h5,h6⟩
  ·exact .inl ⟨(upd_ne σ l hi).trans h0,hx⟩
  ·have e1:=hk b ⟨_,h1,rfl⟩ trivial
   exact .inr ⟨b,off,size,us,(upd_ne σ l hi).trans h1,⟨c',e,e1.trans h2,h3⟩,h4,h5.stab e1,st _ _ _ h6⟩
 | fro t xs=>
  rcases h with ⟨h0,hx⟩ | ⟨b,off,size,us,h1,h2,h3,h4,h5⟩
  ·exact .inl ⟨(upd_ne σ l hi).trans h0,hx⟩
  ·obtain ⟨k1,k2,k3⟩:=hf b h2 h3
   exact .inr ⟨b,off,size,us,h1.imp (upd_ne σ l hi).trans (Exists.imp fun _=>(upd_ne σ l hi).trans),k1,k2,h4.stab k3,st _ _ _ h5⟩
 | mp k v xs clk=>exact h.mp_keep (fun l' hl'=>(upd_ne σ l hi).trans hl') fun b hb=>hk b hb trivial
 | nest t xs hole=>exact h.nest_keep (fun l' hl'=>(upd_ne σ l hi).trans hl') fun b hb=>hk b hb trivial
theorem Rel.turn {w':World} {id:Nat} {l:Loc} {S:Slot} (h:Rel X σ s a w)
  (hsz:w.heap.size≤w'.heap.size)
  (hc:∀ c v,CellR σ w (Nof X σ s) c v→CellR σ w' (Nof X (upd σ id l) (s.put [] [] [(id,S)])) c v→CellR (upd σ id l) w' (Nof X (upd σ id l) (s.put [] [] [(id,S)])) c v)
  (hk:∀ b,b < w.heap.size→(∀ l₀,σ id=some l₀→isOwned (look .none s.heap id)→¬ l₀.has b)→w'.heap[b]? = w.heap[b]?)
  (hb:isOwned S→∀ b,l.has b→(¬ b < w.heap.size)∨Has σ s id b)
  (hS:Stab w (Nof X σ s) w' (Nof X (upd σ id l) (s.put [] [] [(id,S)]))→SlotR (upd σ id l) w' (Nof X (upd σ id l) (s.put [] [] [(id,S)])) id S) :
  Rel X (upd σ id l) (s.put [] [] [(id,S)]) a w'∧Stab w (Nof X σ s) w' (Nof X (upd σ id l) (s.put [] [] [(id,S)])):=by
 have st:Stab w (Nof X σ s) w' (Nof X (upd σ id l) (s.put [] [] [(id,S)])):=by
  refine ⟨hsz,fun b hlt hn=>⟨?_,hk b hlt fun l₀ hl₀ ho e=>hn (.inl ⟨id,has_iff.mpr ⟨ho,l₀,hl₀,e⟩⟩)⟩⟩
  rintro (ho | hx)
  ·rcases owns_put1 ho with ⟨hO,hbl⟩ | ⟨i,_,hi⟩
   ·rcases hb hO b hbl with hge | hh
    ·exact hge hlt
    ·exact hn (.inl ⟨id,hh⟩)
   ·exact hn (.inl ⟨i,hi⟩)
  ·exact hn (.inr hx)
 refine ⟨h.move (fun c v hcv=>hc c v hcv (hcv.stab st)) (fun i=>?_) (fun i i' b hi hi'=>?_) (fun b hx=>?_),st⟩
 ·show SlotR _ _ _ i (look .none ((id,S)::s.heap) i)
  rw [look_put1]
  by_cases e:i=id
  ·subst e; rw [if_pos rfl]; exact hS st
  ·rw [if_neg e]
   refine SlotR.other e (fun c v hcv=>hc c v hcv (hcv.stab st)) (fun t xs us r=>r.mono fun _ _ d=>d.stab st) ?_ ?_ (h.heap i)
   ·rintro b ⟨l',hl',hb'⟩ hO
    have hH:Has σ s i b:=has_iff.mpr ⟨hO,l',hl',hb'⟩
    exact hk b (h.owns_lt ⟨i,hH⟩) fun l₀ hl₀ ho he=>e (h.inj i id b hH (has_iff.mpr ⟨ho,l₀,hl₀,he⟩))
   ·exact fun b hlt hn=>⟨Nat.lt_of_lt_of_le hlt hsz,st.keep b hlt hn⟩
 ·have two:∀ j,Has (upd σ id l) (s.put [] [] [(id,S)]) j b→(j=id∧((¬ b < w.heap.size)∨Has σ s id b))∨(j≠id∧Has σ s j b):=by
   intro j hj
   obtain ⟨ho,l',hl',hbl⟩:=has_iff.mp hj
   have ho':isOwned (look .none ((id,S)::s.heap) j):=ho
   rw [look_put1] at ho'
   by_cases e:j=id
   ·subst e
    rw [if_pos rfl] at ho'
    rw [upd_same] at hl'
    cases hl'
    exact .inl ⟨rfl,hb ho' b hbl⟩
   ·rw [if_neg e] at ho'
    rw [upd_ne σ _ e] at hl'
    exact .inr ⟨e,has_iff.mpr ⟨ho',l',hl',hbl⟩⟩
  rcases two i hi with ⟨rfl,h1⟩ | ⟨n1,h1⟩ <;> rcases two i' hi' with ⟨rfl,h2⟩ | ⟨n2,h2⟩
  ·rfl
  ·rcases h1 with h1 | h1
   ·exact absurd (h.owns_lt ⟨_,h2⟩) h1
   ·exact h.inj _ _ b h1 h2
  ·rcases h2 with h2 | h2
   ·exact absurd (h.owns_lt ⟨_,h1⟩) h2
   ·exact h.inj _ _ b h1 h2
  ·exact h.inj _ _ b h1 h2
 ·obtain ⟨hlt,hno⟩:=h.ext b hx
  refine ⟨Nat.lt_of_lt_of_le hlt hsz,fun ho=>?_⟩
  rcases owns_put1 ho with ⟨hO,hbl⟩ | ⟨i,_,hi⟩
  ·rcases hb hO b hbl with hge | hh
   ·exact hge hlt
   ·exact hno ⟨id,hh⟩
  ·exact hno ⟨i,hi⟩
theorem heap_push {o:Obj} {w':World} (e:w'.heap=w.heap.push o) {b:Nat} (h:b < w.heap.size):w'.heap[b]? = w.heap[b]?:=by
 rw [e,Array.getElem?_push,if_neg (by omega)]
theorem heap_push_new {o:Obj} {w':World} (e:w'.heap=w.heap.push o):w'.heap[w.heap.size]? = some o:=by
 rw [e,Array.getElem?_push,if_pos rfl]
theorem at_new {cs:Array Value} {el:TypeId} {w':World} (e:w'.heap=w.heap.push (.cells cs el (0,0))) {us:List Value} (hu:∃ r,cs.toList=us++r):At w' w.heap.size 0 us:=by
 obtain ⟨r,hr⟩:=hu
 intro j v hv
 have hj:=(List.getElem?_eq_some_iff.mp hv).1
 simp only [World.cell?,heap_push_new e,Nat.zero_add,Option.isSome_none,Bool.false_eq_true,if_false]
 rw [← Array.getElem?_toList,hr,List.getElem?_append_left hj]
 exact hv
theorem Rel.newBox {id:Nat} {cs:List Cell} {vs:List Value} {el:TypeId} {w':World} (h:Rel X σ s a w) (hid:look .none s.heap id = .none)
  (e:w'.heap=w.heap.push (.cells vs.toArray el (0,0))) (hc:Cells (CellR σ w (Nof X σ s)) cs vs) :
  Rel X (upd σ id (.box w.heap.size cs.length)) (s.put [] [] [(id,.box cs)]) a w' ∧
   Stab w (Nof X σ s) w' (Nof X (upd σ id (.box w.heap.size cs.length)) (s.put [] [] [(id,.box cs)])):=by
 have hn:σ id=none:=by have:=h.heap id; rw [hid] at this; exact this
 refine h.turn (by rw [e]; simp) (fun c v _ h2=>h2.upd hn) (fun b hlt _=>heap_push e hlt) (fun _ b hb=>.inl (by cases hb; omega)) (fun st=>?_)
 refine ⟨w.heap.size,vs,upd_same _ _ _,⟨vs.toArray,el,heap_push_new e,by simp [hc.length]⟩,at_new e ⟨[],by simp⟩,hc.mono fun c v hcv=>(hcv.stab st).upd hn⟩
theorem Rel.newRow {id:Nat} {t:Ty} {xs:List t.den} {us:List Value} {cs:Array Value} {el:TypeId} {size:Nat} {w':World} (h:Rel X σ s a w) (hid:look .none s.heap id = .none)
  (e:w'.heap=w.heap.push (.cells cs el (0,0))) (hs:cs.size=size) (hu:∃ r,cs.toList=us++r) (hr:RowR (DRel w (Nof X σ s) t) xs us) :
  Rel X (upd σ id (.row w.heap.size 0 t.size xs.length size)) (s.put [] [] [(id,.row t xs)]) a w' ∧
   Stab w (Nof X σ s) w' (Nof X (upd σ id (.row w.heap.size 0 t.size xs.length size)) (s.put [] [] [(id,.row t xs)])):=by
 have hn:σ id=none:=by have:=h.heap id; rw [hid] at this; exact this
 refine h.turn (by rw [e]; simp) (fun c v _ h2=>h2.upd hn) (fun b hlt _=>heap_push e hlt) (fun _ b hb=>.inl (by cases hb; omega)) (fun st=>?_)
 refine .inr ⟨w.heap.size,0,size,us,upd_same _ _ _,⟨cs,el,heap_push_new e,hs⟩,?_,at_new e hu,hr.mono fun x v d=>d.stab st⟩
 have hl:=hr.length (fun _ _ d=>d.length)
 obtain ⟨r,hr'⟩:=hu
 have:cs.toList.length=us.length + r.length:=by rw [hr']; simp
 simp only [Array.length_toList] at this
 omega
theorem Rel.newNil {id:Nat} {t:Ty} (h:Rel X σ s a w) (hid:look .none s.heap id = .none) :
  Rel X (upd σ id .nil) (s.put [] [] [(id,.row t [])]) a w∧Stab w (Nof X σ s) w (Nof X (upd σ id .nil) (s.put [] [] [(id,.row t [])])):=by
 have hn:σ id=none:=by have:=h.heap id; rw [hid] at this; exact this
 exact h.turn (Nat.le_refl _) (fun c v _ h2=>h2.upd hn) (fun b hlt _=>rfl) (fun _ b hb=>by cases hb) (fun _=>.inl ⟨upd_same _ _ _,rfl⟩)
theorem Rel.newNilNest {id:Nat} {t:Ty} (h:Rel X σ s a w) (hid:look .none s.heap id = .none) :
  Rel X (upd σ id .nil) (s.put [] [] [(id,.nest t [] none)]) a w∧Stab w (Nof X σ s) w (Nof X (upd σ id .nil) (s.put [] [] [(id,.nest t [] none)])):=by
 have hn:σ id=none:=by have:=h.heap id; rw [hid] at this; exact this
 exact h.turn (Nat.le_refl _) (fun c v _ h2=>h2.upd hn) (fun b hlt _=>rfl) (fun _ b hb=>by cases hb) (fun _=>.inl ⟨upd_same _ _ _,rfl,rfl⟩)
theorem Rel.freeze {id:Nat} {t:Ty} {xs:List t.den} (h:Rel X σ s a w) (hid:look .none s.heap id = .row t xs) :
  Rel X σ (s.put [] [] [(id,.fro t xs)]) a w∧Stab w (Nof X σ s) w (Nof X σ (s.put [] [] [(id,.fro t xs)])) ∧
   (∀ b,Owns σ (s.put [] [] [(id,.fro t xs)]) b→Owns σ s b):=by
 have hsl:=h.heap id
 rw [hid] at hsl
 have key:∀ l,σ id=some l→upd σ id l=σ:=by
  intro l hl
  funext i
  by_cases e:i=id
  ·subst e; rw [upd_same,hl]
  ·rw [upd_ne σ l e]
 have hex:∃ l,σ id=some l:=by
  rcases hsl with ⟨h0,_⟩ | ⟨b,off,size,us,h1,_⟩
  ·exact ⟨_,h0⟩
  ·exact ⟨_,h1⟩
 obtain ⟨l,hl⟩:=hex
 have:=h.turn (w':=w) (id:=id) (l:=l) (S:=.fro t xs) (Nat.le_refl _) (fun c v _ h2=>by rw [key l hl] at h2 ⊢; exact h2) (fun b _ _=>rfl) (fun hO=>hO.elim) (fun st=>by
  rw [key l hl] at st ⊢
  rcases hsl with ⟨h0,hx⟩ | ⟨b,off,size,us,h1,h2,h3,h4,h5⟩
  ·exact .inl ⟨h0,hx⟩
  ·refine .inr ⟨b,off,size,us,.inl h1,ownBlk_lt h2,?_,h4,h5.mono fun _ _ d=>d.stab st⟩
   have hH:Has σ s id b:=has_iff.mpr ⟨by rw [hid]; trivial,_,h1,rfl⟩
   rintro (ho | hx)
   ·have ho':Owns (upd σ id l) (s.put [] [] [(id,.fro t xs)]) b:=by rw [key l hl]; exact ho
    rcases owns_put1 ho' with ⟨hO,_⟩ | ⟨i,hne,hi⟩
    ·exact hO
    ·exact hne (h.inj i id b hi hH)
   ·exact (h.ext b hx).2 ⟨id,hH⟩)
 rw [key l hl] at this
 refine ⟨this.1,this.2,fun b hb=>?_⟩
 have hb':Owns (upd σ id l) (s.put [] [] [(id,.fro t xs)]) b:=by rw [key l hl]; exact hb
 rcases owns_put1 hb' with ⟨hO,_⟩ | ⟨i,_,hi⟩
 ·exact hO.elim
 ·exact ⟨i,hi⟩
end
end Go.Eng
namespace Go.Eng
open Go
section
variable {X:Nat→Prop} {σ:Sig} {s:St} {a:Act} {w:World}
theorem setAt_eq {α:Type}:∀ (xs:List α) (n:Nat) (ys:List α),n + ys.length≤xs.length→setAt xs n ys=xs.take n++ys++xs.drop (n + ys.length)
 | xs,0,[],_=>by simp [setAt]
 | [],0,y::ys,h=>by simp at h
 | x::r,0,y::ys,h=>by
  simp only [setAt]
  rw [setAt_eq r 0 ys (by simp at h ⊢; omega)]
  simp
 | [],n + 1,ys,h=>by simp at h
 | x::r,n + 1,ys,h=>by
  simp only [setAt]
  rw [setAt_eq r n ys (by simp at h; omega)]
  simp [Nat.add_right_comm n 1]
theorem setAt_length {α:Type}:∀ (xs:List α) (n:Nat) (ys:List α),(setAt xs n ys).length=xs.length
 | xs,0,[]=>by simp [setAt]
 | [],0,y::ys=>by simp [setAt]
 | x::r,0,y::ys=>by simp [setAt,setAt_length r 0 ys]
 | [],n + 1,ys=>by simp [setAt]
 | x::r,n + 1,ys=>by simp [setAt,setAt_length r n ys]
theorem Cells.set {R:Cell→Value→Prop}:∀ {cs:List Cell} {vs:List Value} (n:Nat) {ds:List Cell} {us:List Value},Cells R cs vs→Cells R ds us→Cells R (setAt cs n ds) (setAt vs n us)
 | _,_,0,_,_,h,.nil=>by simpa [setAt] using h
 | _,_,0,_,_,.nil,.cons _ _=>by simp only [setAt]; exact .nil
 | _,_,0,_,_,.cons _ h,.cons b k=>by simp only [setAt]; exact .cons b (Cells.set 0 h k)
 | _,_,n + 1,_,_,.nil,_=>by simp only [setAt]; exact .nil
 | _,_,n + 1,_,_,.cons a h,k=>by simp only [setAt]; exact .cons a (Cells.set n h k)
theorem setCells_size (b:Nat):∀ (vs:List Value) (o:Nat) (w:World),(w.setCells b o vs).heap.size=w.heap.size
 | [],_,_=>rfl
 | v::r,o,w=>by
  simp only [World.setCells]
  rw [setCells_size b r]
  simp
theorem setCells_rest (b:Nat):∀ (vs:List Value) (o:Nat) (w:World),(w.setCells b o vs).os=w.os∧(w.setCells b o vs).tape=w.tape∧(w.setCells b o vs).output=w.output
 | [],_,_=>⟨rfl,rfl,rfl⟩
 | v::r,o,w=>by
  simp only [World.setCells]
  exact setCells_rest b r _ _
theorem setCells_far {g:Nat}:∀ (vs:List Value) (o:Nat) (w:World) {k:Nat},k≠g→(w.setCells g o vs).heap[k]? = w.heap[k]?
 | [],_,_,_,_=>rfl
 | v::r,o,w,k,h=>by
  simp only [World.setCells]
  rw [setCells_far r _ _ h]
  exact heap_setCell_other _ _ _ _ h
theorem setCells_own {g n:Nat}:∀ (vs:List Value) (o:Nat) (w:World),OwnBlk w g n→OwnBlk (w.setCells g o vs) g n
 | [],_,_,h=>h
 | v::r,o,w,⟨cs,e,h,hs⟩=>by
  simp only [World.setCells]
  exact setCells_own r _ _ ⟨_,e,heap_setCell_same w g o cs e v h,by simp [hs]⟩
theorem ownCell {g n j:Nat} (h:OwnBlk w g n) (hj:j < n):(w.cell? ⟨g,j,none⟩).isSome=true:=by
 obtain ⟨cs,e,h,hs⟩:=h
 rw [cell_of_row w g j cs e _ h]
 simp [hs,hj]
theorem ownFree {g n j:Nat} (h:OwnBlk w g n):w.frozen? ⟨g,j,none⟩=false:=by
 obtain ⟨cs,e,h,hs⟩:=h
 exact frozen_of_row w g j cs e h
theorem At.set {b n off o:Nat} {vs us:List Value} (h:At w b off vs) (hb:OwnBlk w b n) (ho:off≤o) (hu:o - off + us.length≤vs.length) (hn:off + vs.length≤n) :
  At (w.setCells b o us) b off (setAt vs (o - off) us):=by
 intro j v hv
 rw [setAt_eq _ _ _ hu] at hv
 by_cases h1:j < o - off
 ·rw [List.append_assoc,List.getElem?_append_left (by simp; omega),List.getElem?_take_of_lt h1] at hv
  rw [World.cell?_setCells_out]
  ·exact h j v hv
  ·intro _ _; left; dsimp only; omega
 ·by_cases h2:j < o - off + us.length
  ·rw [List.getElem?_append_left (by simp; omega),List.getElem?_append_right (by simp; omega)] at hv
   have hk:(List.take (o - off) vs).length=o - off:=by simp; omega
   rw [hk] at hv
   have:=World.cell?_setCells_in b us o w (fun k hk=>ownCell hb (by omega)) (j - (o - off)) (by omega)
   rw [show o + (j - (o - off))=off + j by omega] at this
   rw [this]
   obtain ⟨hlt,he⟩:=List.getElem?_eq_some_iff.mp hv
   rw [he]
  ·rw [List.getElem?_append_right (by simp; omega)] at hv
   have hk:(List.take (o - off) vs++us).length=o - off + us.length:=by simp; omega
   rw [hk,List.getElem?_drop] at hv
   rw [World.cell?_setCells_out]
   ·refine h j v ?_
    rw [← hv]
    congr 1
    omega
   ·intro _ _; right; dsimp only; omega
theorem Has.owned {id b:Nat} (h:Has σ s id b):Owns σ s b:=⟨id,h⟩
theorem upd_self {id:Nat} {l:Loc} (h:σ id=some l):upd σ id l=σ:=by
 funext i
 by_cases e:i=id
 ·subst e; rw [upd_same,h]
 ·rw [upd_ne σ l e]
theorem Rel.storeBox {id b off:Nat} {cs ds:List Cell} {us:List Value} (h:Rel X σ s a w) (hid:look .none s.heap id = .box cs) (hl:σ id=some (.box b cs.length))
  (hd:Cells (CellR σ w (Nof X σ s)) ds us) (hn:off + ds.length≤cs.length) :
  Rel X σ (s.put [] [] [(id,.box (setAt cs off ds))]) a (w.setCells b off us) ∧
   Stab w (Nof X σ s) (w.setCells b off us) (Nof X σ (s.put [] [] [(id,.box (setAt cs off ds))])):=by
 have hH:Has σ s id b:=has_iff.mpr ⟨by rw [hid]; trivial,_,hl,rfl⟩
 have:=h.turn (w':=w.setCells b off us) (id:=id) (l:=.box b cs.length) (S:=.box (setAt cs off ds)) (by rw [setCells_size]; exact Nat.le_refl _)
  (fun c v _ h2=>by rw [upd_self hl] at h2 ⊢; exact h2)
  (fun b' _ hne=>setCells_far _ _ _ (fun e=>hne _ hl (by rw [hid]; trivial) (by rw [e]; rfl)))
  (fun _ b' hb=>.inr (by cases hb; exact hH))
  (fun st=>by
   have hsl:=h.heap id
   rw [hid] at hsl
   obtain ⟨b',vs,h1,h2,h3,h4⟩:=hsl
   rw [hl] at h1
   cases h1
   have hlen:=h4.length
   have hlen2:=hd.length
   refine ⟨b,setAt vs off us,by rw [setAt_length]; exact upd_same _ _ _,by rw [setAt_length]; exact setCells_own _ _ _ h2,?_,?_⟩
   ·have:=At.set (us:=us) (o:=off) h3 h2 (Nat.zero_le _) (by omega) (by omega)
    simpa using this
   ·refine (h4.set off hd).mono fun c v hcv=>?_
    rw [upd_self hl] at st ⊢
    exact hcv.stab st)
 rw [upd_self hl] at this
 exact this
theorem Rel.storeRow {id b o off size:Nat} {t:Ty} {xs ys:List t.den} {vs us:List Value} (h:Rel X σ s a w) (hid:look .none s.heap id = .row t xs)
  (hl:σ id=some (.row b o t.size xs.length size)) (hat:At w b o vs) (hb:OwnBlk w b size) (hfit:o + vs.length≤size) (ho:o≤off) (hu:off - o + us.length≤vs.length)
  (hx:ys.length=xs.length) (hr:RowR (DRel w (Nof X σ s) t) ys (setAt vs (off - o) us)) :
  Rel X σ (s.put [] [] [(id,.row t ys)]) a (w.setCells b off us) ∧
   Stab w (Nof X σ s) (w.setCells b off us) (Nof X σ (s.put [] [] [(id,.row t ys)])):=by
 have hH:Has σ s id b:=has_iff.mpr ⟨by rw [hid]; trivial,_,hl,rfl⟩
 have:=h.turn (w':=w.setCells b off us) (id:=id) (l:=.row b o t.size xs.length size) (S:=.row t ys) (by rw [setCells_size]; exact Nat.le_refl _)
  (fun c v _ h2=>by rw [upd_self hl] at h2 ⊢; exact h2)
  (fun b' _ hne=>setCells_far _ _ _ (fun e=>hne _ hl (by rw [hid]; trivial) (by rw [e]; rfl)))
  (fun _ b' hb=>.inr (by cases hb; exact hH))
  (fun st=>by
   have hlen:=hr.length (fun _ _ d=>d.length)
   rw [setAt_length] at hlen
   refine .inr ⟨b,o,size,setAt vs (off - o) us,by rw [hx]; exact upd_same _ _ _,setCells_own _ _ _ hb,by omega,hat.set hb ho hu hfit,?_⟩
   rw [upd_self hl] at st ⊢
   exact hr.mono fun _ _ d=>d.stab st)
 rw [upd_self hl] at this
 exact this
theorem nof_gone {id b:Nat} (hH:Has σ s id b) (hone:∀ l x,σ id=some l→l.has x→x=b) (x:Nat) :
  Nof (fun x=>X x∨x=b) (upd σ id .gone) (s.put [] [] [(id,.gone)]) x↔Nof X σ s x:=by
 constructor
 ·rintro (ho | hx | rfl)
  ·rcases owns_put1 ho with ⟨hO,_⟩ | ⟨i,_,hi⟩
   ·exact hO.elim
   ·exact .inl ⟨i,hi⟩
  ·exact .inr hx
  ·exact .inl ⟨id,hH⟩
 ·rintro (⟨i,hi⟩ | hx)
  ·by_cases e:i=id
   ·subst e
    refine .inr (.inr ?_)
    obtain ⟨_,l,hl,hb⟩:=has_iff.mp hi
    exact hone l x hl hb
   ·obtain ⟨ho,l,hl,hb⟩:=has_iff.mp hi
    refine .inl ⟨i,has_iff.mpr ⟨?_,l,by rw [upd_ne σ _ e]; exact hl,hb⟩⟩
    show isOwned (look .none ((id,.gone)::s.heap) i)
    rw [look_put1,if_neg e]
    exact ho
  ·exact .inr (.inl hx)
theorem Rel.giveUp {id b:Nat} (h:Rel X σ s a w) (hH:Has σ s id b) (hone:∀ l x,σ id=some l→l.has x→x=b:=by intro l x h1 h2; simp_all [Loc.has]) :
  Rel (fun x=>X x∨x=b) (upd σ id .gone) (s.put [] [] [(id,.gone)]) a w:=by
 have hN:=nof_gone (X:=X) hH hone
 have st:Stab w (Nof X σ s) w (Nof (fun x=>X x∨x=b) (upd σ id .gone) (s.put [] [] [(id,.gone)])):=⟨Nat.le_refl _,fun x _ hx=>⟨fun hx'=>hx ((hN x).mp hx'),rfl⟩⟩
 have hc:∀ c v,CellR σ w (Nof X σ s) c v→CellR (upd σ id .gone) w (Nof (fun x=>X x∨x=b) (upd σ id .gone) (s.put [] [] [(id,.gone)])) c v:=fun c v hcv=>(hcv.drop).stab st
 refine { defers:=h.defers,size:=h.size,env:=fun t ht=>(h.env t ht).mono hc,genv:=fun t gv ht=>⟨(h.genv t gv ht).1,fun e=>hc _ _ ((h.genv t gv ht).2.1 e),(h.genv t gv ht).2.2⟩,gdead:=h.gdead,heap:=fun i=>?_,inj:=fun i j x hi hj=>?_,ext:=fun x hx=>?_ }
 ·show SlotR _ _ _ i (look .none ((id,.gone)::s.heap) i)
  rw [look_put1]
  by_cases e:i=id
  ·subst e; rw [if_pos rfl]; exact upd_same _ _ _
  ·rw [if_neg e]
   exact SlotR.other e hc (fun t xs us r=>r.mono fun _ _ d=>d.stab st) (fun _ _ _=>rfl) (fun b' hlt hn=>⟨hlt,st.keep b' hlt hn⟩) (h.heap i)
 ·have two:∀ j,Has (upd σ id .gone) (s.put [] [] [(id,.gone)]) j x→Has σ s j x:=by
   intro j hj
   obtain ⟨ho,l',hl',hbl⟩:=has_iff.mp hj
   have ho':isOwned (look .none ((id,.gone)::s.heap) j):=ho
   rw [look_put1] at ho'
   by_cases e:j=id
   ·subst e; rw [if_pos rfl] at ho'; exact ho'.elim
   ·rw [if_neg e] at ho'; rw [upd_ne σ _ e] at hl'
    exact has_iff.mpr ⟨ho',l',hl',hbl⟩
  exact h.inj i j x (two i hi) (two j hj)
 ·have hn:¬ Owns (upd σ id .gone) (s.put [] [] [(id,.gone)]) x:=by
   intro ho
   rcases owns_put1 ho with ⟨hO,_⟩ | ⟨i,hne,hi⟩
   ·exact hO
   ·rcases hx with hx | rfl
    ·exact (h.ext x hx).2 ⟨i,hi⟩
    ·exact hne (h.inj i id _ hi hH)
  rcases hx with hx' | rfl
  ·exact ⟨(h.ext x hx').1,hn⟩
  ·exact ⟨h.owns_lt ⟨id,hH⟩,hn⟩
theorem Rel.adopt {id b off size:Nat} {t:Ty} {xs:List t.den} {us:List Value} {w':World} (h:Rel (fun x=>X x∨x=b) σ s a w) (hX:¬ X b) (hid:look .none s.heap id = .none)
  (hsz:w'.heap.size=w.heap.size) (hk:∀ k,k≠b→w'.heap[k]? = w.heap[k]?) (hb:OwnBlk w' b size) (hfit:off + us.length≤size)
  (hat:At w' b off us) (hr:RowR (DRel w (Nof (fun x=>X x∨x=b) σ s) t) xs us) :
  Rel X (upd σ id (.row b off t.size xs.length size)) (s.put [] [] [(id,.row t xs)]) a w' ∧
   ∀ x,Nof X (upd σ id (.row b off t.size xs.length size)) (s.put [] [] [(id,.row t xs)]) x↔Nof (fun x=>X x∨x=b) σ s x:=by
 have hn:σ id=none:=by have:=h.heap id; rw [hid] at this; exact this
 have hnb:¬ Owns σ s b:=(h.ext b (.inr rfl)).2
 have hN:∀ x,Nof X (upd σ id (.row b off t.size xs.length size)) (s.put [] [] [(id,.row t xs)]) x↔Nof (fun x=>X x∨x=b) σ s x:=by
  intro x
  constructor
  ·rintro (ho | hx)
   ·rcases owns_put1 ho with ⟨_,hbl⟩ | ⟨i,_,hi⟩
    ·cases hbl; exact .inr (.inr rfl)
    ·exact .inl ⟨i,hi⟩
   ·exact .inr (.inl hx)
  ·rintro (⟨i,hi⟩ | hx | rfl)
   ·have e:i≠id:=by
     rintro rfl
     obtain ⟨ho,_⟩:=has_iff.mp hi
     rw [hid] at ho
     exact ho
    obtain ⟨ho,l,hl,hbl⟩:=has_iff.mp hi
    refine .inl ⟨i,has_iff.mpr ⟨?_,l,by rw [upd_ne σ _ e]; exact hl,hbl⟩⟩
    show isOwned (look .none ((id,.row t xs)::s.heap) i)
    rw [look_put1,if_neg e]
    exact ho
   ·exact .inr hx
   ·refine .inl ⟨id,has_iff.mpr ⟨?_,_,upd_same _ _ _,rfl⟩⟩
    show isOwned (look .none ((id,.row t xs)::s.heap) id)
    rw [look_put1,if_pos rfl]
    trivial
 have st:Stab w (Nof (fun x=>X x∨x=b) σ s) w' (Nof X (upd σ id (.row b off t.size xs.length size)) (s.put [] [] [(id,.row t xs)])):=
  ⟨by rw [hsz]; exact Nat.le_refl _,fun x _ hx=>⟨fun hx'=>hx ((hN x).mp hx'),hk x (fun e=>hx (.inr (.inr e)))⟩⟩
 have hc:∀ c v,CellR σ w (Nof (fun x=>X x∨x=b) σ s) c v→CellR (upd σ id (.row b off t.size xs.length size)) w' (Nof X (upd σ id (.row b off t.size xs.length size)) (s.put [] [] [(id,.row t xs)])) c v:=
  fun c v hcv=>(hcv.upd hn).stab st
 refine ⟨{ defers:=h.defers,size:=h.size,env:=fun t ht=>(h.env t ht).mono hc,genv:=fun t gv ht=>⟨(h.genv t gv ht).1,fun e=>hc _ _ ((h.genv t gv ht).2.1 e),(h.genv t gv ht).2.2⟩,gdead:=h.gdead,heap:=fun i=>?_,inj:=fun i j x hi hj=>?_,ext:=fun x hx=>?_ },hN⟩
 ·show SlotR _ _ _ i (look .none ((id,.row t xs)::s.heap) i)
  rw [look_put1]
  by_cases e:i=id
  ·subst e
   rw [if_pos rfl]
   have hlen:=hr.length (fun _ _ d=>d.length)
   exact .inr ⟨b,off,size,us,upd_same _ _ _,hb,by omega,hat,hr.mono fun _ _ d=>d.stab st⟩
  ·rw [if_neg e]
   refine SlotR.other e hc (fun t xs us r=>r.mono fun _ _ d=>d.stab st) ?_ (fun b' hlt hn=>⟨by rw [hsz]; exact hlt,st.keep b' hlt hn⟩) (h.heap i)
   rintro b' ⟨l',hl',hb'⟩ hO
   exact hk b' (fun e'=>hnb (e' ▸ ⟨i,has_iff.mpr ⟨hO,l',hl',hb'⟩⟩))
 ·have two:∀ j,Has (upd σ id (.row b off t.size xs.length size)) (s.put [] [] [(id,.row t xs)]) j x→(j=id∧x=b)∨(j≠id∧Has σ s j x):=by
   intro j hj
   obtain ⟨ho,l',hl',hbl⟩:=has_iff.mp hj
   have ho':isOwned (look .none ((id,.row t xs)::s.heap) j):=ho
   rw [look_put1] at ho'
   by_cases e:j=id
   ·subst e; rw [upd_same] at hl'; cases hl'; cases hbl; exact .inl ⟨rfl,rfl⟩
   ·rw [if_neg e] at ho'; rw [upd_ne σ _ e] at hl'
    exact .inr ⟨e,has_iff.mpr ⟨ho',l',hl',hbl⟩⟩
  rcases two i hi with ⟨rfl,rfl⟩ | ⟨n1,h1⟩ <;> rcases two j hj with ⟨rfl,e2⟩ | ⟨n2,h2⟩
  ·rfl
  ·exact absurd ⟨_,h2⟩ hnb
  ·subst e2; exact absurd ⟨_,h1⟩ hnb
  ·exact h.inj i j x h1 h2
 ·obtain ⟨hlt,hno⟩:=h.ext x (.inl hx)
  refine ⟨by rw [hsz]; exact hlt,fun ho=>?_⟩
  rcases owns_put1 ho with ⟨_,hbl⟩ | ⟨i,_,hi⟩
  ·cases hbl; exact hX hx
  ·exact hno ⟨i,hi⟩
theorem Rel.giveNil {id:Nat} (h:Rel X σ s a w) (hl:σ id=some .nil) :
  Rel X (upd σ id .gone) (s.put [] [] [(id,.gone)]) a w∧Stab w (Nof X σ s) w (Nof X (upd σ id .gone) (s.put [] [] [(id,.gone)])):=
 h.turn (Nat.le_refl _) (fun _ _ _ h2=>h2.drop) (fun _ _ _=>rfl) (fun hO=>hO.elim) (fun _=>upd_same _ _ _)
end
end Go.Eng
namespace Go.Eng
open Go
structure Eff where
 ts:List (Nat×AV)
 gs:List (Nat×Option GV)
 hs:List (Nat×Slot)
 rs:List (Nat×AV)
def ev:Pl→St→Option Eff
 | .fin ts gs hs rs,_=>some ⟨ts,gs,hs,rs⟩
 | .no,_=>none
 | .getT t k,s=>ev (k (look (.c .dead) s.env t) (look none s.genv t)) s
 | .getH i k,s=>ev (k (look .none s.heap i)) s
 | .need b k,s=>cond b (ev k s) none
 | .alt b p q,s=>cond b (ev p s) (ev q s)
 | .ask _ o k,s=>match o with
  | some a=>ev (k a) s
  | none=>none
def St.eff (s:St) (e:Eff):St:=s.put (e.rs++e.ts) ((e.rs.map fun p=>(p.1,none))++(e.gs++e.ts.map fun p=>(p.1,none))) e.hs
theorem exec_ev {β:Type} {K:St→Option β} {r:β}:∀ {p:Pl} {s:St},exec p s K=some r→∃ e,ev p s=some e∧okPut s e.ts e.gs=true∧K (s.eff e)=some r:=by
 intro p
 induction p with
 | fin ts gs hs rs=>
  intro s h
  simp only [exec] at h
  cases hk:okPut s ts gs with
  | false=>rw [hk] at h; cases h
  | true=>rw [hk] at h; exact ⟨_,rfl,hk,h⟩
 | no=>intro s h; cases h
 | getT t k ih=>intro s h; exact ih _ _ h
 | getH i k ih=>intro s h; exact ih _ h
 | need b k ih=>
  intro s h
  cases b with
  | false=>cases h
  | true=>exact ih h
 | alt b p q ihp ihq=>
  intro s h
  cases b with
  | false=>exact ihq h
  | true=>exact ihp h
 | ask α o k ih=>
  intro s h
  cases o with
  | none=>cases h
  | some a=>exact ih a h
def zero1:Ty→Value→Bool
 | .bool,.bool b=>!b
 | .int k,.int k' n=>decide (k=k') && decide (n=0)
 | .str,.string s=>decide (s=ByteArray.empty)
 | .slice _,.slice none 0 0=>true
 | .ptr,.pointer none=>true
 | .func,.nilFunc=>true
 | .other,_=>true
 | _,_=>false
def isZero:Ty→List Value→Option (List Value)
 | .pair a b,vs=>match isZero a vs with | some r=>isZero b r | none=>none
 | .unit,r=>some r
 | t,v::r=>cond (zero1 t v) (some r) none
 | _,[]=>none
theorem zero1_spec {σ:Sig} {w:World} {N:Nat→Prop} {t:Ty} {v:Value} (h:zero1 t v=true) :
  (∃ c,t.zero=[c]∧CellR σ w N c v)∧(t.plain=true→DRel w N t t.dflt [v]):=by
 unfold zero1 at h
 split at h
 ·rename_i b
  cases b
  ·exact ⟨⟨_,rfl,rfl⟩,fun _=>rfl⟩
  ·cases h
 ·rename_i k k' n
  simp only [Bool.and_eq_true,decide_eq_true_eq] at h
  obtain ⟨rfl,rfl⟩:=h
  exact ⟨⟨_,rfl,rfl⟩,fun _=>rfl⟩
 ·rename_i s
  have:=of_decide_eq_true h
  subst this
  exact ⟨⟨_,rfl,rfl⟩,fun _=>rfl⟩
 ·exact ⟨⟨_,rfl,rfl⟩,fun _=>⟨none,0,0,rfl,rfl,Nat.le_refl _,.inl rfl⟩⟩
 ·exact ⟨⟨_,rfl,rfl⟩,fun h=>by cases h⟩
 ·exact ⟨⟨_,rfl,rfl⟩,fun h=>by cases h⟩
 ·exact ⟨⟨_,rfl,trivial⟩,fun h=>by cases h⟩
 ·cases h
theorem isZero_spec {σ:Sig} {w:World} {N:Nat→Prop}:∀ {t:Ty} {vs r:List Value},isZero t vs=some r →
  ∃ us,vs=us++r∧Cells (CellR σ w N) t.zero us∧(t.plain=true→DRel w N t t.dflt us):=by
 have one:∀ {t:Ty} {v:Value} {r r':List Value},cond (zero1 t v) (some r) none=some r'→∃ us,v::r=us++r'∧Cells (CellR σ w N) t.zero us∧(t.plain=true→DRel w N t t.dflt us):=by
  intro t v r r' h
  cases hz:zero1 t v with
  | false=>rw [hz] at h; cases h
  | true=>
   rw [hz] at h
   cases h
   obtain ⟨⟨c,hc,h1⟩,h2⟩:=zero1_spec (σ:=σ) (w:=w) (N:=N) hz
   exact ⟨[v],rfl,by rw [hc]; exact .cons h1 .nil,h2⟩
 intro t
 induction t with
 | pair a b iha ihb=>
  intro vs r h
  simp only [isZero] at h
  cases ha:isZero a vs with
  | none=>rw [ha] at h; cases h
  | some q=>
   rw [ha] at h
   obtain ⟨u1,e1,c1,d1⟩:=iha ha
   obtain ⟨u2,e2,c2,d2⟩:=ihb h
   refine ⟨u1++u2,by rw [e1,e2,List.append_assoc],c1.append c2,fun hp=>?_⟩
   simp only [Ty.plain,Bool.and_eq_true] at hp
   exact ⟨u1,u2,rfl,d1 hp.1,d2 hp.2⟩
 | unit=>intro vs r h; cases h; exact ⟨[],rfl,.nil,fun _=>rfl⟩
 | bool=>intro vs r h; cases vs with | nil=>cases h | cons v q=>exact one h
 | int k=>intro vs r h; cases vs with | nil=>cases h | cons v q=>exact one h
 | str=>intro vs r h; cases vs with | nil=>cases h | cons v q=>exact one h
 | slice t _=>intro vs r h; cases vs with | nil=>cases h | cons v q=>exact one h
 | ptr=>intro vs r h; cases vs with | nil=>cases h | cons v q=>exact one h
 | func=>intro vs r h; cases vs with | nil=>cases h | cons v q=>exact one h
 | other=>intro vs r h; cases vs with | nil=>cases h | cons v q=>exact one h
def fieldsOk (P:Program):List Field→List (Nat×Nat)→Bool
 | [],[]=>true
 | f::r,(o,z)::q=>Nat.beq f.offset o && (match P.info? f.type with | some i=>Nat.beq i.size z && !Nat.beq i.size 0 | none=>false) && fieldsOk P r q
 | _,_=>false
def structTy:Ty→Bool | .pair _ _=>true | .unit=>true | _=>false
def descOk' (P:Program) (ti:TI):TypeDesc→Bool
 | .struct fs=>ti.agg && (structTy ti.ty && fieldsOk P fs.toList ti.offs)
 | .slice e=>!ti.agg && (match ti.ty with
  | .slice t=>match P.info? e with
   | some j=>Nat.beq j.size t.size && Nat.ble j.bytes ti.bytes && (match j.zero with | some z=>(match isZero t z.cells.toList with | some []=>true | _=>false) | none=>false)
   | none=>false
  | .other=>true
  | _=>false)
 | .int k=>!ti.agg && decide (ti.ty = .int k)
 | .bool=>!ti.agg && decide (ti.ty = .bool)
 | .string=>!ti.agg && decide (ti.ty = .str)
 | .pointer _=>!ti.agg && decide (ti.ty = .ptr)
 | .func _ _ _=>!ti.agg && decide (ti.ty = .func)
 | .array _ _=>false
 | _=>!ti.agg && decide (ti.ty = .other)
def isStruct:TypeDesc→Bool | .struct _=>true | _=>false
def descOk (P:Program) (ti:TI) (d:TypeDesc):Bool:=descOk' P ti d && (isStruct d || ti.offs.isEmpty)
def eqFs (P:Program) (g:TypeId→Option (List Ty)):List Field→Nat→Option (List Ty)
 | [],_=>some []
 | f::r,off=>match g f.type,P.info? f.type with
  | some ks,some i=>cond (decide (f.name ≠ "_") && Nat.beq f.offset off && Nat.beq i.size ks.length) (match eqFs P g r (off + ks.length) with | some q=>some (ks++q) | none=>none) none
  | _,_=>none
def eqLeaves (P:Program):Nat→TypeId→Option (List Ty)
 | 0,_=>none
 | n + 1,t=>match P.underlying t with
  | some (.int k)=>some [.int k]
  | some .bool=>some [.bool]
  | some .string=>some [.str]
  | some (.struct fs)=>cond (!P.stoodInHeld t) (eqFs P (eqLeaves P n) fs.toList 0) none
  | _=>none
def eqOk (P:Program) (t:TypeId) (ti:TI):Bool:=
 !ti.eq || (ti.agg && !P.eqGuardType P.depth t && decide (eqLeaves P 20 t=some ti.ty.leaves))
def elOk (P:Program) (t:TypeId) (ti:TI):Bool:=
 match ti.ty,P.underlying t with
 | .slice (.int k),some (.slice e)=>(match P.underlying e with | some (.int k')=>decide (k=k') | _=>false)
 | _,_=>true
def aggsOk (P:Program):List Field→List (Option Bool)→Bool
 | [],[]=>true
 | f::r,b::q=>(match P.underlying f.type with
  | some (.struct _)=>decide (b=some true)
  | some (.array _ _)=>decide (b=none)
  | some _=>decide (b=some false)
  | none=>false) && aggsOk P r q
 | _,_=>false
def agOk (P:Program) (t:TypeId) (ti:TI):Bool:=
 match P.underlying t with
 | some (.struct fs)=>aggsOk P fs.toList ti.aggs
 | _=>true
def descKey:TypeDesc→Ty→Bool
 | .int k',.int k=>decide (k=k')
 | .string,.str=>true
 | _,_=>false
def mpOk (P:Program) (t:TypeId) (ti:TI):Bool:=
 match ti.mp with
 | none=>true
 | some (k,v)=>match P.underlying t with
  | some (.map kt vt)=>keyTy k && oneTy v && (match P.underlying kt with | some d=>descKey d k | none=>false) &&
   (match P.info? vt with | some j=>(match j.zero with | some z=>(match z with | .agg _=>false | _=>true) && (match isZero v z.cells.toList with | some []=>true | _=>false) | none=>false) | none=>false)
  | _=>false
def methsOk (P:Program) (t:TypeId):List (String×Nat)→Bool
 | []=>true
 | (n,f)::r=>(match P.underlying t,P.info? t with
  | some (.pointer _),some i=>(match i.methods.find? (fun m=>m.name == n) with | some m=>m.path.toList.isEmpty && decide (m.func=some (f,true)) | none=>false)
  | _,_=>false) && methsOk P t r
def tiOk (P:Program) (t:Nat) (ti:TI):Bool:=
 match P.info? t with
 | some i=>((eqOk P t ti && elOk P t ti && agOk P t ti) && (mpOk P t ti && methsOk P t ti.meths)) && Nat.beq i.size ti.ty.size && (match i.zero with | some z=>(match isZero ti.ty z.cells.toList with | some []=>true | _=>false) | none=>false) &&
  (match P.underlying t with | some d=>descOk P ti d | none=>false)
 | none=>false
def tisOk (P:Program):List (Nat×TI)→Bool
 | []=>true
 | (t,ti)::r=>tiOk P t ti && tisOk P r
structure TyOk (P:Program) (t:Nat) (ti:TI):Prop where
 eq:eqOk P t ti=true
 el:elOk P t ti=true
 ag:agOk P t ti=true
 mp:mpOk P t ti=true
 ms:methsOk P t ti.meths=true
 ex:∃ i z d,P.info? t=some i∧i.size=ti.ty.size∧i.zero=some z∧isZero ti.ty z.cells.toList=some []∧P.underlying t=some d∧descOk P ti d=true
theorem tiOk_spec {P:Program} {t:Nat} {ti:TI} (h:tiOk P t ti=true):TyOk P t ti:=by
 unfold tiOk at h
 cases hi:P.info? t with
 | none=>rw [hi] at h; cases h
 | some i=>
  rw [hi] at h
  simp only [Bool.and_eq_true] at h
  obtain ⟨⟨⟨h0,h1⟩,h2⟩,h3⟩:=h
  cases hz:i.zero with
  | none=>rw [hz] at h2; cases h2
  | some z=>
   rw [hz] at h2
   cases hd:P.underlying t with
   | none=>rw [hd] at h3; cases h3
   | some d=>
    rw [hd] at h3
    refine ⟨h0.1.1.1,h0.1.1.2,h0.1.2,h0.2.1,h0.2.2,i,z,d,hi,Nat.eq_of_beq_eq_true h1,hz,?_,hd,h3⟩
    dsimp only at h2
    split at h2
    ·assumption
    ·cases h2
theorem tisOk_spec {P:Program}:∀ {l:List (Nat×TI)},tisOk P l=true→∀ t,look noTI l t=noTI∨TyOk P t (look noTI l t)
 | [],_,_=>.inl rfl
 | (k,ti)::r,h,t=>by
  simp only [tisOk,Bool.and_eq_true] at h
  by_cases e:k=t
  ·subst e; rw [look_cons_eq]; exact .inr (tiOk_spec h.1)
  ·rw [look_cons_ne _ _ _ e]; exact tisOk_spec h.2 t
end Go.Eng
namespace Go.Eng
open Go
section
variable {P:Program} {X:Nat→Prop} {σ:Sig} {s:St} {a:Act} {w:World} {o:Oper} {e:Eff} {gl:List (Nat×Bool)}
def GL (a:Act) (gl:List (Nat×Bool)):Prop:=∀ g b,memG gl g b=true→a.tmps.getD g undef = .bool b
theorem cvCell_ok {N:Nat→Prop} (v:Value):CellR σ w N (cvCell v) v:=by
 unfold cvCell
 split <;> first | exact rfl | trivial
theorem cv_ok {N:Nat→Prop} (v:Value):AVR (CellR σ w N) (cv v) v:=by
 unfold cv
 split
 ·rename_i cs
  have:∀ l:List Value,Cells (CellR σ w N) (l.map cvCell) l:=by
   intro l
   induction l with
   | nil=>exact .nil
   | cons v r ih=>exact .cons (cvCell_ok v) ih
  have h:=AVR.agg (this cs.toList)
  simpa using h
 ·exact .c (cvCell_ok _)
theorem opd_ev (h:Rel X σ s a w) (hG:GL a gl) {x:Operand} {k:AV→Pl} (he:ev (opd gl x k) s=some e) :
  ∃ v,AVR (CellR σ w (Nof X σ s)) v (a.eval x)∧ev (k v) s=some e:=by
 cases x with
 | tmp t=>
  simp only [opd,ev] at he
  cases hg:look none s.genv t with
  | none=>
   rw [hg] at he
   exact ⟨_,h.env t hg,he⟩
  | some gv=>
   rw [hg] at he
   obtain ⟨g,b,x⟩:=gv
   have hgv:=h.genv t _ hg
   dsimp only at he hgv
   cases hm:memG gl g b with
   | true=>
    rw [hm] at he
    exact ⟨_,.c (hgv.2.1 (hG g b hm)),he⟩
   | false=>
    rw [hm] at he
    simp only [ev] at he
    split at he
    ·rename_i v' gv' b' e1 e2
     have hb:=h.env g e2
     rw [e1] at hb
     cases hb with
     | c hb=>
      cases hbb:b' == b with
      | false=>rw [hbb] at he; cases he
      | true=>
       rw [hbb] at he
       have hE:=eq_of_beq hbb
       subst hE
       exact ⟨_,.c (hgv.2.1 hb),he⟩
    ·cases he
 | const v=>exact ⟨_,cv_ok v,he⟩
 | func f=>exact ⟨_,.c (show CellR σ w (Nof X σ s) (.func f []) (.func (.func f) #[] #[]) from ⟨[],rfl,rfl,fun j p u hp=>by simp at hp⟩),he⟩
 | global g=>cases he
inductive AVs (R:Cell→Value→Prop):List AV→List Value→Prop where
 | nil:AVs R [] []
 | cons {x:AV} {v:Value} {xs:List AV} {vs:List Value}:AVR R x v→AVs R xs vs→AVs R (x::xs) (v::vs)
theorem opds_ev (h:Rel X σ s a w) (hG:GL a gl):∀ {xs:List Operand} {k:List AV→Pl},ev (opds gl xs k) s=some e →
  ∃ vs,AVs (CellR σ w (Nof X σ s)) vs (xs.map a.eval)∧ev (k vs) s=some e
 | [],_,he=>⟨[],.nil,he⟩
 | x::r,k,he=>by
  obtain ⟨v,hv,he⟩:=opd_ev h hG he
  obtain ⟨vs,hvs,he⟩:=opds_ev h hG he
  exact ⟨v::vs,.cons hv hvs,he⟩
theorem wp_value {K:Act→World→Prop} {Q:Exit→Act→World→Prop} {v:Value} {w':World} (h:(execOp a.eval o).run P w = .ok (.value v) w') (hk:K (a.put o.dst v) w'):o.wp P a w K Q:=by
 unfold Oper.wp
 rw [h]
 exact hk
theorem wp_skipped {K:Act→World→Prop} {Q:Exit→Act→World→Prop} {w':World} (h:(execOp a.eval o).run P w = .ok .skip w') (hk:K (a.put o.dst undef) w'):o.wp P a w K Q:=by
 unfold Oper.wp
 rw [h]
 exact hk
def Evo (σ σ':Sig):Prop:=∀ id l,σ id=some l→Leads l (σ' id)
theorem Evo.refl (σ:Sig):Evo σ σ:=fun _ _ h=>.of h
theorem Evo.trans {σ τ ρ:Sig} (h:Evo σ τ) (k:Evo τ ρ):Evo σ ρ:=fun id l hl=>(h id l hl).then fun l' hl'=>k id l' hl'
theorem Evo.upd {id:Nat} {l:Loc} (h:σ id=none):Evo σ (upd σ id l):=fun i l' hl=>.of (by
 by_cases e:i=id
 ·subst e; rw [h] at hl; cases hl
 ·rw [upd_ne σ _ e]; exact hl)
theorem Evo.gone {id:Nat}:Evo σ (Eng.upd σ id .gone):=fun i l' hl=>by
 by_cases e:i=id
 ·subst e; exact .inr (upd_same _ _ _)
 ·exact .of (by rw [upd_ne σ _ e]; exact hl)
theorem Evo.same {id:Nat} {l l':Loc} (h:σ id=some l) (k:l.same l'):Evo σ (Eng.upd σ id l'):=fun i l2 hl=>by
 by_cases e:i=id
 ·subst e; rw [h] at hl; cases hl; exact .inl ⟨l',upd_same _ _ _,k⟩
 ·exact .of (by rw [upd_ne σ _ e]; exact hl)
def Snd (P:Program) (o:Oper) (X:Nat→Prop) (σ:Sig) (s:St) (a:Act) (w:World) (e:Eff):Prop:=
 ∀ (K:Act→World→Prop) (Q:Exit→Act→World→Prop),
  (∀ σ' v w',Rel X σ' (s.eff e) (a.put o.dst v) w'→Go1 w (Owns σ s) w' (Owns σ' (s.eff e))→Evo σ σ'→K (a.put o.dst v) w')→o.wp P a w K Q
theorem okPut1 {d:Nat} {x:AV} (h:okPut s [(d,x)] []=true):d < s.n∧freeOf s.genv d=true:=by
 simp only [okPut,Bool.and_eq_true] at h
 exact ⟨Nat.lt_of_lt_of_le (Nat.lt_succ_self d) (Nat.le_of_ble_eq_true h.1.1.1),h.1.1.2⟩
theorem snd_put {x:AV} {v:Value} (h:Rel X σ s a w) (he:ev (put o.dst x) s=some e) (hk:okPut s e.ts e.gs=true) (hx:AVR (CellR σ w (Nof X σ s)) x v)
  (hr:(execOp a.eval o).run P w = .ok (.value v) w):Snd P o X σ s a w e:=by
 intro K Q hK
 refine wp_value hr ?_
 have:=hK σ v w
 cases hd:o.dst with
 | none=>
  rw [hd] at he this
  cases he
  exact this h (Go1.refl _ _) (Evo.refl _)
 | some d=>
  rw [hd] at he this
  cases he
  obtain ⟨h1,h2⟩:=okPut1 hk
  exact this (h.tmp h1 h2 hx) (Go1.refl _ _) (Evo.refl _)
theorem snd_slots {d:Nat} {x:AV} {v:Value} {hs:List (Nat×Slot)} {σ':Sig} {w':World} (hd:o.dst=some d) (he:e=⟨[(d,x)],[],hs,[]⟩) (hk:okPut s e.ts e.gs=true)
  (h:Rel X σ' (s.put [] [] hs) a w') (hx:AVR (CellR σ' w' (Nof X σ' (s.put [] [] hs))) x v) (hg:Go1 w (Owns σ s) w' (Owns σ' (s.put [] [] hs))) (hv:Evo σ σ')
  (hr:(execOp a.eval o).run P w = .ok (.value v) w'):Snd P o X σ s a w e:=by
 intro K Q hK
 refine wp_value hr ?_
 have:=hK σ' v w'
 rw [hd] at this ⊢
 subst he
 obtain ⟨h1,h2⟩:=okPut1 hk
 exact this (h.tmp h1 h2 hx) hg hv
theorem run_exec_move {x:Operand} (ho:o.op = .move x):(execOp a.eval o).run P w = .ok (.value (a.eval x)) w:=by simp [execOp,ho]
theorem run_exec_assign {x:Operand} (ho:o.op = .assign x):(execOp a.eval o).run P w = .ok (.value (a.eval x)) w:=by simp [execOp,ho]
theorem fixNil_ok {N:Nat→Prop} {t:Ty} {x:AV} {v:Value} (h:AVR (CellR σ w N) x v):AVR (CellR σ w N) (fixNil t x) v:=by
 unfold fixNil
 split
 ·cases h with
  | c h=>
   split
   ·exact .c h
   ·exact .c trivial
 ·exact h
theorem snd_move {c:Ctx} {x:Operand} (h:Rel X σ s a w) (hG:GL a gl) (ho:o.op = .move x) (he:ev (plan c gl o) s=some e) (hk:okPut s e.ts e.gs=true):Snd P o X σ s a w e:=by
 simp only [plan,ho] at he
 obtain ⟨v,hv,he⟩:=opd_ev h hG he
 exact snd_put h he hk (fixNil_ok hv) (run_exec_move ho)
theorem snd_assign {c:Ctx} {x:Operand} (h:Rel X σ s a w) (hG:GL a gl) (ho:o.op = .assign x) (he:ev (plan c gl o) s=some e) (hk:okPut s e.ts e.gs=true):Snd P o X σ s a w e:=by
 simp only [plan,ho] at he
 obtain ⟨v,hv,he⟩:=opd_ev h hG he
 exact snd_put h he hk (fixNil_ok hv) (run_exec_assign ho)
theorem GL.cons {g:Nat} {b:Bool} (hG:GL a gl) (h:a.tmps.getD g undef = .bool b):GL a ((g,b)::gl):=by
 intro g' b' hm
 simp only [memG,Bool.or_eq_true,Bool.and_eq_true] at hm
 rcases hm with ⟨h1,h2⟩ | hm
 ·have:=Nat.eq_of_beq_eq_true h1
  have:=eq_of_beq h2
  subst_vars
  exact h
 ·exact hG g' b' hm
theorem asB_ok {N:Nat→Prop} {c:Cell} {b:Bool} {v:Value} (h:CellR σ w N c v) (hb:asB c=some b):v = .bool b:=by
 cases c <;> simp only [asB] at hb <;> first | (cases hb; exact h) | cases hb
theorem cell_bool {c:Cell} {b:Bool} (h:asB c=some b):c = .bool b∨c = .kb b:=by
 cases c <;> simp only [asB] at h <;> first | (cases h; exact .inl rfl) | (cases h; exact .inr rfl) | cases h
theorem pickB_ok {v:Bool} {x y r:Cell} (h:pickB v x y=some r):∃ p q,asB x=some p∧asB y=some q∧asB r=some (cond v p q):=by
 unfold pickB at h
 split at h
 ·cases h; exact ⟨true,_,rfl,rfl,by cases v <;> rfl⟩
 ·cases h; exact ⟨_,false,rfl,rfl,by rename_i x; cases v <;> cases x <;> rfl⟩
 ·cases h; exact ⟨true,true,rfl,rfl,by cases v <;> rfl⟩
 ·cases h; exact ⟨false,false,rfl,rfl,by cases v <;> rfl⟩
 ·cases h; exact ⟨true,false,rfl,rfl,by cases v <;> rfl⟩
 ·cases h; exact ⟨false,true,rfl,rfl,by cases v <;> rfl⟩
 ·split at h
  ·rename_i p q e1 e2
   cases h
   exact ⟨p,q,e1,e2,rfl⟩
  ·cases h
theorem asB_rel {N:Nat→Prop} {c:Cell} {b:Bool} (h:asB c=some b):CellR σ w N c (.bool b):=by
 rcases cell_bool h with rfl | rfl <;> rfl
theorem run_exec_pick {x y z:Operand} {b:Bool} (ho:o.op = .pick x y z) (hb:a.eval x = .bool b):(execOp a.eval o).run P w = .ok (.value (cond b (a.eval y) (a.eval z))) w:=by
 cases b <;> simp [execOp,ho,hb,asBool]
theorem opd_any {x:Operand} {k:AV→Pl} (he:ev (opd gl x k) s=some e):∃ v,ev (k v) s=some e:=by
 cases x with
 | tmp t=>
  simp only [opd,ev] at he
  split at he
  ·exact ⟨_,he⟩
  ·split at he
   ·exact ⟨_,he⟩
   ·simp only [ev] at he
    split at he
    ·rename_i b' _ _
     revert he
     cases (b' == _) <;> intro he
     ·cases he
     ·exact ⟨_,he⟩
    ·cases he
 | const v=>exact ⟨_,he⟩
 | func f=>exact ⟨_,he⟩
 | global g=>cases he
theorem moreG_ok {x:Operand} {b:Bool} (hG:GL a gl) (h:a.eval x = .bool b):GL a (moreG x b gl):=by
 cases x with
 | tmp t=>exact hG.cons h
 | _=>exact hG
theorem avr_c {R:Cell→Value→Prop} {x:Cell} {v:Value} (h:AVR R (.c x) v):R x v:=by cases h; assumption
theorem need_ev {b:Bool} {p:Pl} (he:ev (.need b p) s=some e):b=true∧ev p s=some e:=by
 cases b with
 | false=>cases he
 | true=>exact ⟨rfl,he⟩
theorem pickOf_true {k:AV→Pl} {p q:AV} (he:ev (pickOf true k p q) s=some e):ev (k p) s=some e∨∃ a b r,p = .c a∧q = .c b∧pickB true a b=some r∧ev (k (.c r)) s=some e:=by
 unfold pickOf at he
 split at he
 ·exact absurd (need_ev he).1 (by simp)
 ·split at he
  ·exact .inl (need_ev he).2
  ·split at he
   ·rename_i hr
    exact .inr ⟨_,_,_,rfl,rfl,hr,he⟩
   ·exact .inl he
  ·exact .inl he
 ·split at he
  ·exact .inl (need_ev he).2
  ·exact .inl he
theorem pickOf_false {k:AV→Pl} {p q:AV} (he:ev (pickOf false k p q) s=some e):ev (k q) s=some e∨∃ a b r,p = .c a∧q = .c b∧pickB false a b=some r∧ev (k (.c r)) s=some e:=by
 unfold pickOf at he
 split at he
 ·exact .inl (need_ev he).2
 ·split at he
  ·exact absurd (need_ev he).1 (by simp)
  ·split at he
   ·rename_i hr
    exact .inr ⟨_,_,_,rfl,rfl,hr,he⟩
   ·exact .inl he
  ·exact .inl he
 ·split at he
  ·exact absurd (need_ev he).1 (by simp)
  ·exact .inl he
theorem snd_pick {c:Ctx} {x y z:Operand} (h:Rel X σ s a w) (hG:GL a gl) (ho:o.op = .pick x y z) (he:ev (plan c gl o) s=some e) (hk:okPut s e.ts e.gs=true):Snd P o X σ s a w e:=by
 simp only [plan,ho,pickPl] at he
 obtain ⟨v,hv,he⟩:=opd_ev h hG he
 split at he
 ·have hb:=avr_c hv
  obtain ⟨u,hu,he⟩:=opd_ev h (moreG_ok hG hb) he
  exact snd_put h he hk hu (by rw [run_exec_pick ho hb]; rfl)
 ·have hb:=avr_c hv
  obtain ⟨u,hu,he⟩:=opd_ev h (moreG_ok hG hb) he
  exact snd_put h he hk hu (by rw [run_exec_pick ho hb]; rfl)
 ·rename_i b
  have hb:=avr_c hv
  cases b with
  | true=>
   obtain ⟨u,hu,he⟩:=opd_ev h (moreG_ok hG hb) he
   obtain ⟨u',he⟩:=opd_any he
   rcases pickOf_true he with he | ⟨p,q,r,rfl,rfl,hr,he⟩
   ·exact snd_put h he hk hu (by rw [run_exec_pick ho hb]; rfl)
   ·obtain ⟨p',q',h1,h2,h3⟩:=pickB_ok hr
    have:=asB_ok (avr_c hu) h1
    refine snd_put h he hk (.c (asB_rel h3)) ?_
    rw [run_exec_pick ho hb,this]
    rfl
  | false=>
   obtain ⟨u,he⟩:=opd_any he
   obtain ⟨u',hu',he⟩:=opd_ev h (moreG_ok hG hb) he
   rcases pickOf_false he with he | ⟨p,q,r,rfl,rfl,hr,he⟩
   ·exact snd_put h he hk hu' (by rw [run_exec_pick ho hb]; rfl)
   ·obtain ⟨p',q',h1,h2,h3⟩:=pickB_ok hr
    have:=asB_ok (avr_c hu') h2
    refine snd_put h he hk (.c (asB_rel h3)) ?_
    rw [run_exec_pick ho hb,this]
    rfl
 ·cases he
end
end Go.Eng
namespace Go.Eng
open Go
section
variable {P:Program} {X:Nat→Prop} {σ:Sig} {s:St} {a:Act} {w:World} {o:Oper} {e:Eff} {gl:List (Nat×Bool)} {c:Ctx}
theorem ND.length {own:Nat→Option Nat} {hole:Nat→Bool}:∀ {t:Ty} {p:Nat} {x:t.den} {vs:List Value},ND w own hole t p x vs→vs.length=t.size:=by
 intro t
 induction t with
 | bool=>intro p x vs h; cases h; rfl
 | int k=>intro p x vs h; cases h; rfl
 | str=>intro p x vs h; cases h; rfl
 | slice e _=>rintro p x vs ⟨_,v,rfl,_⟩; rfl
 | pair a b iha ihb=>rintro p x vs ⟨us,ws,rfl,h1,h2⟩; simp [Ty.size,iha h1,ihb h2]
 | unit=>intro p x vs h; cases h; rfl
 | ptr=>intro p x vs h; exact h.elim
 | func=>intro p x vs h; exact h.elim
 | other=>intro p x vs h; exact h.elim
theorem ND.one {own:Nat→Option Nat} {hole:Nat→Bool}:∀ {t:Ty} {p:Nat} {x:t.den} {vs:List Value},ND w own hole t p x vs→∀ v ∈ vs,v.oneCell'=true:=by
 intro t
 induction t with
 | bool=>intro p x vs h; cases h; simp [Value.oneCell']
 | int k=>intro p x vs h; cases h; simp [Value.oneCell']
 | str=>intro p x vs h; cases h; simp [Value.oneCell']
 | slice e _=>rintro p x vs ⟨_,v,rfl,h,_⟩ u hu; obtain rfl:=List.mem_singleton.mp hu; exact h
 | pair a b iha ihb=>
  rintro p x vs ⟨us,ws,rfl,h1,h2⟩ v hv
  rcases List.mem_append.mp hv with hv | hv
  ·exact iha h1 v hv
  ·exact ihb h2 v hv
 | unit=>intro p x vs h; cases h; simp
 | ptr=>intro p x vs h; exact h.elim
 | func=>intro p x vs h; exact h.elim
 | other=>intro p x vs h; exact h.elim
theorem NRow.length {own:Nat→Option Nat} {hole:Nat→Bool} {t:Ty}:∀ {xs:List t.den} {p:Nat} {vs:List Value},NRow w own hole t p xs vs→vs.length=xs.length * t.size
 | [],_,_,h=>by cases h; simp
 | _::_,_,_,⟨us,ws,e,h1,h2⟩=>by subst e; simp [h1.length,NRow.length h2,Nat.add_mul]; omega
theorem ND.congr {own own':Nat→Option Nat} {hole hole':Nat→Bool}:∀ {t:Ty} {p:Nat} {x:t.den} {vs:List Value},(∀ q,p≤q→q < p + t.size→own' q=own q∧hole' q=hole q)→ND w own hole t p x vs→ND w own' hole' t p x vs:=by
 intro t
 induction t with
 | slice e _=>
  rintro p x vs hc ⟨h1,v,h2,h3,h4,h5⟩
  obtain ⟨e1,e2⟩:=hc p (Nat.le_refl _) (by simp [Ty.size])
  exact ⟨h1,v,h2,h3,by rw [e1,e2]; exact h4,by rw [e1,e2]; exact h5⟩
 | pair a b iha ihb=>
  rintro p x vs hc ⟨us,ws,rfl,h1,h2⟩
  simp only [Ty.size] at hc
  exact ⟨us,ws,rfl,iha (fun q h h'=>hc q h (by omega)) h1,ihb (fun q h h'=>hc q (by omega) (by omega)) h2⟩
 | _=>exact fun _ h=>h
theorem NRow.congr {own own':Nat→Option Nat} {hole hole':Nat→Bool} {t:Ty}:∀ {xs:List t.den} {p:Nat} {vs:List Value},(∀ q,p≤q→own' q=own q∧hole' q=hole q)→NRow w own hole t p xs vs→NRow w own' hole' t p xs vs
 | [],_,_,_,h=>h
 | _::xs,_,_,hc,⟨us,ws,e,h1,h2⟩=>⟨us,ws,e,h1.congr fun q h _=>hc q h,NRow.congr (fun q h=>hc q (by omega)) h2⟩
theorem NRow.at {own:Nat→Option Nat} {hole:Nat→Bool} {t:Ty}:∀ {xs:List t.den} {p:Nat} {us:List Value},NRow w own hole t p xs us→∀ i (hi:i < xs.length),
  ∃ A B C,us=A++B++C∧A.length=i * t.size∧ND w own hole t (p + i * t.size) xs[i] B ∧
   ∀ (own':Nat→Option Nat) (hole':Nat→Bool) (y:t.den) (B':List Value),(∀ q,(q < p + i * t.size∨p + i * t.size + t.size≤q)→own' q=own q∧hole' q=hole q)→ND w own' hole' t (p + i * t.size) y B'→NRow w own' hole' t p (xs.set i y) (A++B'++C)
 | [],_,_,_,i,hi=>by simp at hi
 | x::xs,p,us,⟨u0,w0,e0,h1,h2⟩,0,_=>by
  subst e0
  refine ⟨[],u0,w0,by simp,by simp,by simpa using h1,fun own' hole' y B' hc hy=>?_⟩
  refine ⟨B',w0,by simp,by simpa using hy,h2.congr fun q hq=>hc q (.inr (by simp; omega))⟩
 | x::xs,p,us,⟨u0,w0,e0,h1,h2⟩,i + 1,hi=>by
  subst e0
  obtain ⟨A,B,C,rfl,k1,k2,k3⟩:=NRow.at h2 i (by simpa using hi)
  have hp:p + (i + 1) * t.size=p + t.size + i * t.size:=by rw [Nat.add_mul]; omega
  refine ⟨u0++A,B,C,by simp,by simp [k1,h1.length,Nat.add_mul]; omega,by rw [hp]; simpa using k2,fun own' hole' y B' hc hy=>?_⟩
  rw [hp] at hc hy
  refine ⟨u0,A++B'++C,by simp,h1.congr fun q h h'=>hc q (.inl (by omega)),?_⟩
  exact k3 own' hole' y B' (fun q hq=>hc q hq) hy
theorem ND.cells {own:Nat→Option Nat} {hole:Nat→Bool} {N:Nat→Prop}:∀ {t:Ty} {p:Nat} {x:t.den} {us:List Value},ND w own hole t p x us→Cells (fun c v=>isFrz c=true∨CellR σ w N c v) (t.cells x) us:=by
 intro t
 induction t with
 | bool=>intro p x us h; cases h; exact .cons (.inr rfl) .nil
 | int k=>intro p x us h; cases h; exact .cons (.inr rfl) .nil
 | str=>intro p x us h; cases h; exact .cons (.inr rfl) .nil
 | slice e _=>rintro p x us ⟨_,v,rfl,_⟩; exact .cons (.inl rfl) .nil
 | pair a b iha ihb=>rintro p x us ⟨us,ws,rfl,h1,h2⟩; exact (iha h1).append (ihb h2)
 | unit=>intro p x us h; cases h; exact .nil
 | ptr=>intro p x us h; exact h.elim
 | func=>intro p x us h; exact h.elim
 | other=>intro p x us h; exact h.elim
theorem ND.cells2 {own:Nat→Option Nat} {hole:Nat→Bool} {N:Nat→Prop}:∀ {t:Ty} {p:Nat} {x:t.den} {us:List Value},ND w own hole t p x us→Cells (fun c v=>(flatCell c=true∧CellR σ w N c v)∨isFrz c=true) (t.cells x) us:=by
 intro t
 induction t with
 | bool=>intro p x us h; cases h; exact .cons (.inl ⟨rfl,rfl⟩) .nil
 | int k=>intro p x us h; cases h; exact .cons (.inl ⟨rfl,rfl⟩) .nil
 | str=>intro p x us h; cases h; exact .cons (.inl ⟨rfl,rfl⟩) .nil
 | slice e _=>rintro p x us ⟨_,v,rfl,_⟩; exact .cons (.inr rfl) .nil
 | pair a b iha ihb=>rintro p x us ⟨us,ws,rfl,h1,h2⟩; exact (iha h1).append (ihb h2)
 | unit=>intro p x us h; cases h; exact .nil
 | ptr=>intro p x us h; exact h.elim
 | func=>intro p x us h; exact h.elim
 | other=>intro p x us h; exact h.elim
theorem setAt_get {α:Type} {xs ys:List α} {n j:Nat} (h:n + ys.length≤xs.length):(setAt xs n ys)[j]? = if n≤j∧j < n + ys.length then ys[j - n]? else xs[j]?:=by
 rw [setAt_eq _ _ _ h]
 by_cases h1:j < n
 ·rw [if_neg (by omega),List.append_assoc,List.getElem?_append_left (by simp; omega),List.getElem?_take_of_lt h1]
 ·have hk:(xs.take n).length=n:=by simp; omega
  by_cases h2:j < n + ys.length
  ·rw [if_pos (by omega),List.getElem?_append_left (by simp; omega),List.getElem?_append_right (by omega),hk]
  ·rw [if_neg (by omega),List.getElem?_append_right (by simp; omega),List.getElem?_drop]
   congr 1
   simp
   omega
theorem ND.leaf {own:Nat→Option Nat} {hole:Nat→Bool}:∀ {t:Ty} {p off:Nat} {x:t.den} {B:List Value} {e:Ty} {ys:List e.den},ND w own hole t p x B→leafAt t off x=some ⟨e,ys⟩ →
  off < t.size∧e.flat=true∧∃ v,B[off]? = some v∧v.oneCell'=true∧(hole (p + off)=true→own (p + off)=none)∧(hole (p + off)=false→NS w (own (p + off)) e ys v):=by
 intro t
 induction t with
 | slice e0 _=>
  rintro p off x B e ys ⟨h1,v,rfl,h3,h4,h5⟩ h
  cases off with
  | zero=>simp only [leafAt] at h; cases h; exact ⟨by simp [Ty.size],h1,v,rfl,h3,h4,h5⟩
  | succ n=>simp [leafAt] at h
 | pair a b iha ihb=>
  rintro p off x B e ys ⟨us,ws,rfl,h1,h2⟩ h
  simp only [leafAt] at h
  cases hb:Nat.blt off a.size with
  | true=>
   rw [hb] at h
   obtain ⟨k0,k1,v,k2,k3⟩:=iha h1 h
   refine ⟨by simp only [Ty.size]; omega,k1,v,?_,k3⟩
   rw [List.getElem?_append_left (by rw [h1.length]; exact k0)]
   exact k2
  | false=>
   rw [hb] at h
   have hle:a.size≤off:=by
    rcases Nat.lt_or_ge off a.size with hlt | hge
    ·have:Nat.blt off a.size=true:=Nat.ble_eq_true_of_le hlt
     rw [hb] at this; cases this
    ·exact hge
   obtain ⟨k0,k1,v,k2,k3⟩:=ihb h2 h
   rw [show p + a.size + (off - a.size)=p + off by omega] at k3
   refine ⟨by simp only [Ty.size]; omega,k1,v,?_,k3⟩
   rw [List.getElem?_append_right (by rw [h1.length]; exact hle),h1.length]
   exact k2
 | _=>intro p off x B e ys _ h; simp [leafAt] at h
theorem castRow_ex {t t':Ty} {xs:List t.den} {ys:List t'.den} (h:castRow t t' xs=some ys):∃ e:t=t',ys=e ▸ xs:=by
 unfold castRow at h
 split at h
 ·rename_i e _
  cases h
  exact ⟨e,rfl⟩
 ·cases h
theorem ND.put {own own':Nat→Option Nat} {hole hole':Nat→Bool}:∀ {t:Ty} {p off:Nat} {x:t.den} {B:List Value} {e:Ty} {ys:List e.den} {y:t.den} {v:Value},ND w own hole t p x B→setLeaf t off x e ys=some y →
  (∀ q,q≠p + off→own' q=own q∧hole' q=hole q)→e.flat=true→v.oneCell'=true→hole' (p + off)=false→NS w (own' (p + off)) e ys v→ND w own' hole' t p y (setAt B off [v])∧off < t.size:=by
 intro t
 induction t with
 | slice e0 _=>
  rintro p off x B e ys y v ⟨h1,v0,rfl,h3,h4,h5⟩ h hc hf hv hh hn
  cases off with
  | zero=>
   simp only [setLeaf] at h
   obtain ⟨he,hy⟩:=castRow_ex h
   subst he
   subst hy
   have hh0:hole' p=false:=hh
   refine ⟨⟨h1,v,by simp [setAt],hv,⟨fun z=>?_,fun _=>hn⟩⟩,by simp [Ty.size]⟩
   rw [hh0] at z
   cases z
  | succ n=>simp [setLeaf] at h
 | pair a b iha ihb=>
  rintro p off x B e ys y v ⟨us,ws,rfl,h1,h2⟩ h hc hf hv hh hn
  simp only [setLeaf] at h
  cases hb:Nat.blt off a.size with
  | true=>
   rw [hb] at h
   have hlt:off < a.size:=Nat.le_of_ble_eq_true hb
   dsimp only [cond] at h
   split at h
   ·rename_i y1 e1
    cases h
    obtain ⟨k1,k2⟩:=iha h1 e1 hc hf hv hh hn
    refine ⟨⟨setAt us off [v],ws,?_,k1,h2.congr fun q hq _=>hc q (by omega)⟩,by simp only [Ty.size]; omega⟩
    have l1:=h1.length
    rw [setAt_eq _ _ _ (by simp; omega),setAt_eq _ _ _ (by simp; omega),List.take_append_of_le_length (by omega),List.drop_append_of_le_length (by simp; omega)]
    simp
   ·cases h
  | false=>
   rw [hb] at h
   have hle:a.size≤off:=by
    rcases Nat.lt_or_ge off a.size with hlt | hge
    ·have:Nat.blt off a.size=true:=Nat.ble_eq_true_of_le hlt
     rw [hb] at this; cases this
    ·exact hge
   dsimp only [cond] at h
   split at h
   ·rename_i y1 e1
    cases h
    have hpo:p + a.size + (off - a.size)=p + off:=by omega
    obtain ⟨k1,k2⟩:=ihb h2 e1 (by rw [hpo]; exact hc) hf hv (by rw [hpo]; exact hh) (by rw [hpo]; exact hn)
    refine ⟨⟨us,setAt ws (off - a.size) [v],?_,h1.congr fun q _ hq=>hc q (by omega),k1⟩,by simp only [Ty.size]; omega⟩
    have l1:=h1.length
    have l2:=h2.length
    rw [setAt_eq _ _ _ (by simp; omega),setAt_eq _ _ _ (by simp; omega)]
    rw [List.take_append,List.drop_append]
    have e2:us.take off=us:=List.take_of_length_le (by omega)
    have e3:us.drop (off + [v].length)=[]:=List.drop_of_length_le (by simp; omega)
    rw [e2,e3,l1]
    simp only [List.length_singleton,List.nil_append,List.append_assoc]
    rw [show off + 1 - a.size=off - a.size + 1 by omega]
   ·cases h
 | _=>intro p off x B e ys y v _ h; simp [setLeaf] at h
theorem ND.drop {own own':Nat→Option Nat} {hole hole':Nat→Bool} {Q:Nat}:∀ {t:Ty} {p:Nat} {x:t.den} {B:List Value},ND w own hole t p x B→(∀ q,q≠Q→own' q=own q∧hole' q=hole q)→own' Q=none→hole' Q=true→ND w own' hole' t p x B:=by
 intro t
 induction t with
 | slice e0 _=>
  rintro p x B ⟨h1,v0,rfl,h3,h4,h5⟩ hc ho hh
  by_cases e:p=Q
  ·subst e; exact ⟨h1,v0,rfl,h3,fun _=>ho,fun z=>by rw [hh] at z; cases z⟩
  ·obtain ⟨e1,e2⟩:=hc p e
   exact ⟨h1,v0,rfl,h3,by rw [e1,e2]; exact h4,by rw [e1,e2]; exact h5⟩
 | pair a b iha ihb=>
  rintro p x B ⟨us,ws,rfl,h1,h2⟩ hc ho hh
  exact ⟨us,ws,rfl,iha h1 hc ho hh,ihb h2 hc ho hh⟩
 | _=>exact fun h _ _ _=>h
theorem NRow.drop {own own':Nat→Option Nat} {hole hole':Nat→Bool} {Q:Nat} {t:Ty}:∀ {xs:List t.den} {p:Nat} {vs:List Value},NRow w own hole t p xs vs→(∀ q,q≠Q→own' q=own q∧hole' q=hole q)→own' Q=none→hole' Q=true→NRow w own' hole' t p xs vs
 | [],_,_,h,_,_,_=>h
 | _::xs,_,_,⟨us,ws,e,h1,h2⟩,hc,ho,hh=>⟨us,ws,e,h1.drop hc ho hh,NRow.drop h2 hc ho hh⟩
theorem ND.frozen {own:Nat→Option Nat} {hole:Nat→Bool} {N:Nat→Prop} (hh:∀ q,hole q=false) (hN:∀ p b,own p=some b→¬ N b):∀ {t:Ty} {p:Nat} {x:t.den} {us:List Value},ND w own hole t p x us→DRel w N t x us:=by
 intro t
 induction t with
 | slice e _=>
  rintro p x us ⟨h1,v,rfl,h3,h4,h5⟩
  rcases h5 (hh p) with ⟨_,rfl,rfl⟩ | ⟨b,off,size,us,a0,cap,k1,k2,rfl,k4,k5,k6,k7,k8⟩
  ·exact ⟨none,0,0,rfl,rfl,Nat.le_refl _,.inl rfl⟩
  ·refine ⟨_,_,_,rfl,rfl,k4,?_⟩
   rcases k5 with rfl | rfl
   ·left; exact List.eq_nil_of_length_eq_zero (by omega)
   ·exact .inr ⟨b,off,us,rfl,ownBlk_lt k2,hN p b k1,k7,k8.mono fun _ _ d=>d.flat h1⟩
 | pair a b iha ihb=>rintro p x us ⟨us,ws,rfl,h1,h2⟩; exact ⟨us,ws,rfl,iha h1,ihb h2⟩
 | bool=>exact fun h=>h
 | int k=>exact fun h=>h
 | str=>exact fun h=>h
 | unit=>exact fun h=>h
 | ptr=>exact fun h=>h.elim
 | func=>exact fun h=>h.elim
 | other=>exact fun h=>h.elim
theorem NRow.frozen {own:Nat→Option Nat} {hole:Nat→Bool} {N:Nat→Prop} {t:Ty} (hh:∀ q,hole q=false) (hN:∀ p b,own p=some b→¬ N b):∀ {xs:List t.den} {p:Nat} {us:List Value},NRow w own hole t p xs us→RowR (DRel w N t) xs us
 | [],_,_,h=>by cases h; exact .nil
 | _::_,_,_,⟨us,ws,e,h1,h2⟩=>by subst e; exact .cons (h1.frozen hh hN) (NRow.frozen hh hN h2)
theorem owns_ext {s':St} (hh:∀ id,look .none s'.heap id=look .none s.heap id) (b:Nat):Owns σ s' b↔Owns σ s b:=by
 simp only [Owns,Has,hh]
theorem nof_ext {s':St} (hh:∀ id,look .none s'.heap id=look .none s.heap id):Nof X σ s'=Nof X σ s:=by
 funext b
 simp only [Nof,owns_ext hh]
theorem Rel.look_eq {s':St} (h:Rel X σ s a w) (hn:s'.n=s.n) (he:∀ t,look (.c .dead) s'.env t=look (.c .dead) s.env t) (hg:∀ t,look none s'.genv t=look none s.genv t)
  (hh:∀ id,look .none s'.heap id=look .none s.heap id):Rel X σ s' a w where
 defers:=h.defers
 size:=h.size.trans hn.symm
 env:=fun t ht=>by rw [nof_ext hh,he]; exact h.env t (by rw [← hg]; exact ht)
 genv:=fun t gv ht=>by rw [nof_ext hh]; exact h.genv t gv (by rw [← hg]; exact ht)
 gdead:=fun t gv ht=>by rw [he]; exact h.gdead t gv (by rw [← hg]; exact ht)
 heap:=fun id=>by rw [nof_ext hh,hh]; exact h.heap id
 inj:=fun id id' b h1 h2=>h.inj id id' b (by simpa only [Has,hh] using h1) (by simpa only [Has,hh] using h2)
 ext:=fun b hb=>⟨(h.ext b hb).1,fun ho=>(h.ext b hb).2 ((owns_ext hh b).mp ho)⟩
theorem Rel.turnX {X':Nat→Prop} {w':World} {id:Nat} {l:Loc} {S:Slot} (h:Rel X σ s a w)
  (hsz:w.heap.size≤w'.heap.size)
  (hc:∀ c v,CellR σ w (Nof X σ s) c v→CellR σ w' (Nof X' (upd σ id l) (s.put [] [] [(id,S)])) c v→CellR (upd σ id l) w' (Nof X' (upd σ id l) (s.put [] [] [(id,S)])) c v)
  (hN:∀ b,b < w.heap.size→Nof X' (upd σ id l) (s.put [] [] [(id,S)]) b→Nof X σ s b)
  (hk:∀ b,b < w.heap.size→¬ Nof X σ s b→w'.heap[b]? = w.heap[b]?)
  (hko:∀ i b,i≠id→Has σ s i b→w'.heap[b]? = w.heap[b]?)
  (hS:Stab w (Nof X σ s) w' (Nof X' (upd σ id l) (s.put [] [] [(id,S)]))→SlotR (upd σ id l) w' (Nof X' (upd σ id l) (s.put [] [] [(id,S)])) id S)
  (hI:∀ b,isOwned S→l.has b→∀ i,i≠id→¬ Has σ s i b)
  (hE:∀ b,X' b→b < w'.heap.size∧¬ (isOwned S∧l.has b)∧∀ i,i≠id→¬ Has σ s i b) :
  Rel X' (upd σ id l) (s.put [] [] [(id,S)]) a w'∧Stab w (Nof X σ s) w' (Nof X' (upd σ id l) (s.put [] [] [(id,S)])):=by
 have st:Stab w (Nof X σ s) w' (Nof X' (upd σ id l) (s.put [] [] [(id,S)])):=⟨hsz,fun b hlt hn=>⟨fun hn'=>hn (hN b hlt hn'),hk b hlt hn⟩⟩
 have hcc:∀ c v,CellR σ w (Nof X σ s) c v→CellR (upd σ id l) w' (Nof X' (upd σ id l) (s.put [] [] [(id,S)])) c v:=fun c v hcv=>hc c v hcv (hcv.stab st)
 refine ⟨{ defers:=h.defers,size:=h.size,env:=fun t ht=>(h.env t ht).mono hcc,genv:=fun t gv ht=>⟨(h.genv t gv ht).1,fun e=>hcc _ _ ((h.genv t gv ht).2.1 e),(h.genv t gv ht).2.2⟩,gdead:=h.gdead,heap:=fun i=>?_,inj:=fun i j b hi hj=>?_,ext:=fun b hb=>?_ },st⟩
 ·show SlotR _ _ _ i (look .none ((id,S)::s.heap) i)
  rw [look_put1]
  by_cases e:i=id
  ·subst e; rw [if_pos rfl]; exact hS st
  ·rw [if_neg e]
   refine SlotR.other e hcc (fun t xs us r=>r.mono fun _ _ d=>d.stab st) ?_ (fun b hlt hn=>⟨Nat.lt_of_lt_of_le hlt hsz,st.keep b hlt hn⟩) (h.heap i)
   rintro b ⟨l',hl',hb'⟩ hO
   exact hko i b e ⟨hO,l',hl',hb'⟩
 ·have two:∀ j,Has (upd σ id l) (s.put [] [] [(id,S)]) j b→(j=id∧isOwned S∧l.has b)∨(j≠id∧Has σ s j b):=by
   intro j hj
   obtain ⟨ho,l',hl',hbl⟩:=has_iff.mp hj
   have ho':isOwned (look .none ((id,S)::s.heap) j):=ho
   rw [look_put1] at ho'
   by_cases e:j=id
   ·subst e; rw [if_pos rfl] at ho'; rw [upd_same] at hl'; cases hl'; exact .inl ⟨rfl,ho',hbl⟩
   ·rw [if_neg e] at ho'; rw [upd_ne σ _ e] at hl'; exact .inr ⟨e,ho',l',hl',hbl⟩
  rcases two i hi with ⟨rfl,o1,b1⟩ | ⟨n1,k1⟩ <;> rcases two j hj with ⟨rfl,o2,b2⟩ | ⟨n2,k2⟩
  ·rfl
  ·exact (hI b o1 b1 _ n2 k2).elim
  ·exact (hI b o2 b2 _ n1 k1).elim
  ·exact h.inj _ _ b k1 k2
 ·obtain ⟨k1,k2,k3⟩:=hE b hb
  refine ⟨k1,fun ho=>?_⟩
  rcases owns_put1 ho with h1 | ⟨i,hne,hi⟩
  ·exact k2 h1
  ·exact k3 i hne hi
theorem CellR.same {σ:Sig} {N:Nat→Prop} {id:Nat} {l l':Loc} (hl:σ id=some l) (hs:l.same l') {c:Cell} {v:Value} (h:CellR σ w N c v):CellR (Eng.upd σ id l') w N c v:=by
 cases l with
 | nest b o wd len size own=>
  obtain ⟨own',rfl⟩:=hs
  cases c with
  | ptr i off=>
   by_cases e:i=id
   ·subst e; simp [CellR,hl] at h
   ·simpa only [CellR,upd_ne σ _ e] using h
  | elt i x off=>
   by_cases e:i=id
   ·subst e; simp only [CellR,upd_same]; simpa only [CellR,hl] using h
   ·simpa only [CellR,upd_ne σ _ e] using h
  | sl i=>
   by_cases e:i=id
   ·subst e; simp only [CellR,upd_same]; simpa only [CellR,hl] using h
   ·simpa only [CellR,upd_ne σ _ e] using h
  | sub i lo hi=>
   by_cases e:i=id
   ·subst e; simp only [CellR,upd_same]; simpa only [CellR,hl] using h
   ·simpa only [CellR,upd_ne σ _ e] using h
  | func f caps=>
   obtain ⟨us,hv,hl2,hu⟩:=h
   refine ⟨us,hv,hl2,fun j p u hp hj=>?_⟩
   have:=hu j p u hp hj
   by_cases e:p.1=id
   ·rw [e,hl] at this; exact this.elim
   ·rwa [upd_ne σ _ e]
  | map i=>
   by_cases e:i=id
   ·subst e; simp [CellR,hl] at h
   ·simpa only [CellR,upd_ne σ _ e] using h
  | ifp t i off=>
   obtain ⟨u,h1,h2⟩:=h
   refine ⟨u,h1,?_⟩
   by_cases e:i=id
   ·rw [e,hl] at h2; exact h2.elim
   ·rw [upd_ne σ _ e]; exact h2
  | _=>exact h
 | _=>cases hs; rw [upd_self hl]; exact h
end
end Go.Eng
namespace Go.Eng
open Go
section
variable {P:Program} {X:Nat→Prop} {σ:Sig} {s:St} {a:Act} {w:World} {o:Oper} {e:Eff} {gl:List (Nat×Bool)} {c:Ctx}
theorem ND.setLeaf_flat {own:Nat→Option Nat} {hole:Nat→Bool}:∀ {t:Ty} {p off:Nat} {x:t.den} {B:List Value} {e:Ty} {ys:List e.den} {y:t.den},ND w own hole t p x B→setLeaf t off x e ys=some y→e.flat=true:=by
 intro t
 induction t with
 | slice e0 _=>
  rintro p off x B e ys y ⟨h1,_⟩ h
  cases off with
  | zero=>
   simp only [setLeaf] at h
   obtain ⟨he,_⟩:=castRow_ex h
   subst he
   exact h1
  | succ n=>simp [setLeaf] at h
 | pair a b iha ihb=>
  rintro p off x B e ys y ⟨us,ws,rfl,h1,h2⟩ h
  simp only [setLeaf] at h
  cases hb:Nat.blt off a.size with
  | true=>
   rw [hb] at h
   dsimp only [cond] at h
   split at h
   ·rename_i e1; exact iha h1 e1
   ·cases h
  | false=>
   rw [hb] at h
   dsimp only [cond] at h
   split at h
   ·rename_i e1; exact ihb h2 e1
   ·cases h
 | _=>intro p off x B e ys y _ h; simp [setLeaf] at h
theorem new_ev {d:Option Nat} {S:Slot} {x:Nat→Cell} {hs:List (Nat×Slot)} (he:ev (new d S x hs) s=some e) :
  ∃ d',d=some d'∧look .none s.heap (site d' 0) = .none∧e=⟨[(d',.c (x (site d' 0)))],[],hs++[(site d' 0,S)],[]⟩:=by
 cases d with
 | none=>cases he
 | some d=>
  simp only [new,ev] at he
  split at he
  ·rename_i hl
   cases he
   exact ⟨d,rfl,hl,rfl⟩
  ·cases he
theorem Cells.noFrz {N:Nat→Prop} {cs:List Cell} {vs:List Value} (h:Cells (fun c v=>isFrz c=true∨CellR σ w N c v) cs vs) (hf:cs.any isFrz=false):Cells (CellR σ w N) cs vs:=by
 induction h with
 | nil=>exact .nil
 | cons a _ ih=>
  simp only [List.any_cons,Bool.or_eq_false_iff] at hf
  exact .cons (a.resolve_left (by rw [hf.1]; decide)) (ih hf.2)
theorem go1_world {O O':Nat→Prop} {w':World} (e:w'=w) (h:∀ b,O' b→O b):Go1 w O w' O':=by
 subst e
 exact ⟨rfl,rfl,rfl,Nat.le_refl _,fun _ _ _=>rfl,fun b hb=>.inl (h b hb)⟩
theorem rd_at {t:Ty} {xs:List t.den} {i:Int} (h0:0≤i) (hi:i < xs.length):rd t xs i=xs[i.toNat]'(by omega):=by
 unfold rd
 rw [List.getD_eq_getElem?_getD,List.getElem?_eq_getElem (by omega)]
 rfl
theorem NS.slot {w':World} {N N':Nat→Prop} {σ':Sig} {b off size cap sid:Nat} {e:Ty} {xs:List e.den} {us:List Value} {a0:Addr} (he:e.flat=true) (hs:σ' sid=some (.row b off e.size xs.length size))
  (hb:OwnBlk w b size) (hc:xs.length≤cap) (ha:cap=0∨a0=⟨b,off,none⟩) (hz:off + cap * e.size≤size) (hat:At w b off us) (hr:RowR (DRel w N e) xs us) :
  SlotR σ' w N' sid (.row e xs)∧CellR σ' w N' (.sl sid) (.slice (some a0) xs.length cap):=by
 refine ⟨.inr ⟨b,off,size,us,hs,hb,?_,hat,hr.mono fun _ _ d=>d.flat he⟩,?_⟩
 ·exact Nat.le_trans (Nat.add_le_add_left (Nat.mul_le_mul_right _ hc) _) hz
 ·simp only [CellR,hs]
  exact ⟨a0,cap,rfl,hc,ha,hz⟩
theorem Rel.takeOut {id sid:Nat} {t:Ty} {xs:List t.den} {i:Int} {off:Nat} {el:Ty} {ys:List el.den} (h:Rel X σ s a w) (hid:look .none s.heap id = .nest t xs none) (hsid:look .none s.heap sid = .none) (h0:0≤i) (hi:i < xs.length)
  (hleaf:leafAt t off (rd t xs i)=some ⟨el,ys⟩):∃ σ' b o size own v,σ id=some (.nest b o t.size xs.length size own)∧w.cell? ⟨b,o + i.toNat * t.size + off,none⟩=some v ∧
   Rel X σ' (s.put [] [] ([(id,.nest t xs (some (i,off)))]++[(sid,.row el ys)])) a w∧CellR σ' w (Nof X σ' (s.put [] [] ([(id,.nest t xs (some (i,off)))]++[(sid,.row el ys)]))) (.sl sid) v ∧
   (∀ b,Owns σ' (s.put [] [] ([(id,.nest t xs (some (i,off)))]++[(sid,.row el ys)])) b→Owns σ s b)∧Evo σ σ':=by
 have hsl:=h.heap id
 rw [hid] at hsl
 rcases hsl with ⟨_,hx,_⟩ | ⟨b,o',size,us,own,h1,h2,h3,h4,h5,h6,h7⟩
 ·subst hx; simp at hi; omega
 have hne:sid≠id:=by rintro rfl; rw [hid] at hsid; cases hsid
 obtain ⟨A,B,C,rfl,k1,k2,_⟩:=h5.at i.toNat (by omega)
 rw [rd_at h0 hi] at hleaf
 obtain ⟨l1,l2,v,l3,l4,_,l6⟩:=k2.leaf hleaf
 rw [Nat.zero_add] at l6
 have hns:=l6 rfl
 generalize hQ:i.toNat * t.size + off=Q at hns
 have hcell:w.cell? ⟨b,o' + i.toNat * t.size + off,none⟩=some v:=by
  have hB:=k2.length
  have:=h4 (i.toNat * t.size + off) v (by
   rw [← k1,List.append_assoc,List.getElem?_append_right (by omega),List.getElem?_append_left (by omega),show A.length + off - A.length=off by omega]
   exact l3)
  rwa [show o' + (i.toNat * t.size + off)=o' + i.toNat * t.size + off by omega] at this
 have hown':∀ q,(fun q=>if q=Q then none else own q) q=if q=Q then none else own q:=fun _=>rfl
 generalize (fun q=>if q=Q then none else own q)=own' at hown'
 have hoQ:own' Q=none:=by rw [hown',if_pos rfl]
 have hoN:∀ q,q≠Q→own' q=own q:=fun q hq=>by rw [hown',if_neg hq]
 have hsub:∀ q x,own' q=some x→own q=some x:=fun q x hx=>by
  by_cases e:q=Q
  ·subst e; rw [hoQ] at hx; cases hx
  ·rwa [hoN q e] at hx
 have hrow':NRow w own' (holeAt t (some (i,off))) t 0 xs (A++B++C):=h5.drop (Q:=Q) (fun q hq=>⟨hoN q hq,by
  simp only [holeAt]
  cases hb:Nat.beq q (i.toNat * t.size + off) with
  | false=>rfl
  | true=>exact absurd (Nat.eq_of_beq_eq_true hb) (by rw [hQ]; exact hq)⟩) hoQ (by simp only [holeAt,hQ,Nat.beq_refl])
 have hHas:∀ x,Has σ s id x↔(x=b∨∃ q,own q=some x):=fun x=>by
  constructor
  ·rintro ⟨_,l,hl,hb⟩
   rw [h1] at hl; cases hl
   exact hb.imp (fun z=>z.symm) (fun z=>z)
  ·rintro hx
   exact ⟨by rw [hid]; trivial,_,h1,hx.imp (fun z=>z.symm) (fun z=>z)⟩
 have hsame:(Loc.nest b o' t.size xs.length size own).same (.nest b o' t.size xs.length size own'):=⟨_,rfl⟩
 have hsn:σ sid=none:=by have:=h.heap sid; rw [hsid] at this; exact this
 have hevo1:Evo σ (upd σ id (.nest b o' t.size xs.length size own')):=Evo.same h1 hsame
 have hlk:∀ j,look .none (s.put [] [] ([(id,.nest t xs (some (i,off)))]++[(sid,.row el ys)])).heap j=look .none ((s.put [] [] [(id,.nest t xs (some (i,off)))]).put [] [] [(sid,.row el ys)]).heap j:=fun j=>by
  show look .none ((id,.nest t xs (some (i,off)))::(sid,.row el ys)::s.heap) j=look .none ((sid,.row el ys)::(id,.nest t xs (some (i,off)))::s.heap) j
  rw [look_put1 (s:=⟨0,0,[],[],(sid,.row el ys)::s.heap⟩),look_put1 (s:=⟨0,0,[],[],(id,.nest t xs (some (i,off)))::s.heap⟩)]
  by_cases e1:j=id
  ·subst e1; rw [if_pos rfl,if_neg hne.symm,look_cons_eq]
  ·rw [if_neg e1]
   by_cases e2:j=sid
   ·subst e2; rw [if_pos rfl,look_cons_eq]
   ·rw [if_neg e2,look_cons_ne _ _ _ (Ne.symm e2),look_cons_ne _ _ _ (Ne.symm e1)]
 rcases hns with ⟨hq0,rfl,rfl⟩ | ⟨b2,off2,size2,us2,a0,cap,q1,q2,rfl,q4,q5,q6,q7,q8⟩
 ·
  have hoq:own'=own:=by
   funext q
   by_cases e:q=Q
   ·subst e; rw [hoQ,hq0]
   ·exact hoN q e
  subst hoq
  obtain ⟨g1,g2⟩:=h.turn (w':=w) (id:=id) (l:=.nest b o' t.size xs.length size own') (S:=.nest t xs (some (i,off))) (Nat.le_refl _)
   (fun c v _ h2=>by rw [upd_self h1] at h2 ⊢; exact h2) (fun _ _ _=>rfl) (fun _ x hx=>.inr ((hHas x).mpr (hx.imp (fun z=>z.symm) (fun z=>z))))
   (fun _=>.inr ⟨b,o',size,_,own',upd_same _ _ _,h2,h3,h4,hrow',h6,h7⟩)
  have hsid2:look .none (s.put [] [] [(id,.nest t xs (some (i,off)))]).heap sid = .none:=by
   show look .none ((id,_)::s.heap) sid=_
   rw [look_cons_ne _ _ _ hne.symm]; exact hsid
  obtain ⟨g3,g4⟩:=g1.newNil (t:=el) hsid2
  refine ⟨_,b,o',size,own',_,h1,hcell,g3.look_eq rfl (fun _=>rfl) (fun _=>rfl) hlk,?_,fun x hx=>?_,hevo1.trans (Evo.upd (by rw [upd_ne _ _ hne]; exact hsn))⟩
  ·simp only [CellR,upd_same]
  ·rw [owns_ext hlk] at hx
   rcases owns_put1 hx with ⟨_,k⟩ | ⟨j,hj,k⟩
   ·exact k.elim
   ·rcases owns_put1 (S:=.nest t xs (some (i,off))) ⟨j,k⟩ with ⟨_,k⟩ | ⟨j,_,k⟩
    ·exact ⟨id,(hHas x).mpr (k.imp (fun z=>z.symm) (fun z=>z))⟩
    ·exact ⟨j,k⟩
 ·have hb2:b2≠b:=(h6 Q b2 q1).1
  have hH2:Has σ s id b2:=(hHas b2).mpr (.inr ⟨Q,q1⟩)
  have hXb:¬ X b2:=fun hx=>(h.ext b2 hx).2 ⟨id,hH2⟩
  have hnotown:∀ q,own' q≠some b2:=fun q hq=>by
   have:=h7 q Q b2 (hsub q b2 hq) q1
   subst this
   rw [hoQ] at hq; cases hq
  have hlhas:∀ x,(Loc.nest b o' t.size xs.length size own').has x→Has σ s id x∧x≠b2:=fun x hx=>by
   rcases hx with rfl | ⟨q,hq⟩
   ·exact ⟨(hHas _).mpr (.inl rfl),Ne.symm hb2⟩
   ·exact ⟨(hHas _).mpr (.inr ⟨q,hsub q x hq⟩),fun e=>hnotown q (e ▸ hq)⟩
  have hN:∀ x,Nof (fun x=>X x∨x=b2) (upd σ id (.nest b o' t.size xs.length size own')) (s.put [] [] [(id,.nest t xs (some (i,off)))]) x→Nof X σ s x:=by
   rintro x (ho | hx | rfl)
   ·rcases owns_put1 ho with ⟨_,k⟩ | ⟨j,_,k⟩
    ·exact .inl ⟨id,(hlhas x k).1⟩
    ·exact .inl ⟨j,k⟩
   ·exact .inr hx
   ·exact .inl ⟨id,hH2⟩
  obtain ⟨g1,g2⟩:=h.turnX (X':=fun x=>X x∨x=b2) (w':=w) (id:=id) (l:=.nest b o' t.size xs.length size own') (S:=.nest t xs (some (i,off))) (Nat.le_refl _)
   (fun c v h1' h2'=>(CellR.same h1 hsame (h1'.stab ⟨Nat.le_refl _,fun y _ hn=>⟨fun hy=>hn (hN y hy),rfl⟩⟩)))
   (fun x _ hx=>hN x hx) (fun _ _ _=>rfl) (fun _ _ _ _=>rfl)
   (fun _=>.inr ⟨b,o',size,_,own',upd_same _ _ _,h2,h3,h4,hrow',fun q x hx=>h6 q x (hsub q x hx),fun q q' x hx hx'=>h7 q q' x (hsub q x hx) (hsub q' x hx')⟩)
   (fun x _ hx j hj hjx=>hj (h.inj j id x hjx (hlhas x hx).1))
   (fun x hx=>by
    rcases hx with hx | rfl
    ·exact ⟨(h.ext x hx).1,fun ⟨_,k⟩=>(h.ext x hx).2 ⟨id,(hlhas x k).1⟩,fun j _ hj=>(h.ext x hx).2 ⟨j,hj⟩⟩
    ·exact ⟨ownBlk_lt q2,fun ⟨_,k⟩=>(hlhas _ k).2 rfl,fun j hj hjx=>hj (h.inj j id _ hjx hH2)⟩)
  have hsid2:look .none (s.put [] [] [(id,.nest t xs (some (i,off)))]).heap sid = .none:=by
   show look .none ((id,_)::s.heap) sid=_
   rw [look_cons_ne _ _ _ hne.symm]; exact hsid
  have hul:=q8.length (fun _ _ d=>d.length)
  have hfit:off2 + us2.length≤size2:=by
   rw [hul]
   exact Nat.le_trans (Nat.add_le_add_left (Nat.mul_le_mul_right _ q4) _) q6
  obtain ⟨g3,g4⟩:=g1.adopt (id:=sid) (b:=b2) (off:=off2) (size:=size2) (t:=el) (xs:=ys) (us:=us2) (w':=w) hXb hsid2 rfl (fun _ _=>rfl) q2 hfit q7 (q8.mono fun _ _ d=>d.flat l2)
  refine ⟨_,b,o',size,own,_,h1,hcell,g3.look_eq rfl (fun _=>rfl) (fun _=>rfl) hlk,?_,fun x hx=>?_,hevo1.trans (Evo.upd (by rw [upd_ne _ _ hne]; exact hsn))⟩
  ·simp only [CellR,upd_same]
   exact ⟨a0,cap,rfl,q4,q5,q6⟩
  ·rw [owns_ext hlk] at hx
   rcases owns_put1 hx with ⟨_,k⟩ | ⟨j,hj,k⟩
   ·cases k; exact ⟨id,hH2⟩
   ·rcases owns_put1 (S:=.nest t xs (some (i,off))) ⟨j,k⟩ with ⟨_,k⟩ | ⟨j,_,k⟩
    ·exact ⟨id,(hlhas x k).1⟩
    ·exact ⟨j,k⟩
theorem Rel.freezeNest {id:Nat} {t:Ty} {xs:List t.den} (h:Rel X σ s a w) (hid:look .none s.heap id = .nest t xs none) :
  Rel X σ (s.put [] [] [(id,.fro t xs)]) a w∧Stab w (Nof X σ s) w (Nof X σ (s.put [] [] [(id,.fro t xs)])) ∧
   (∀ b,Owns σ (s.put [] [] [(id,.fro t xs)]) b→Owns σ s b):=by
 have hsl:=h.heap id
 rw [hid] at hsl
 rcases hsl with ⟨h0,hx,_⟩ | ⟨b,o',size,us,own,h1,h2,h3,h4,h5,h6,h7⟩
 ·have:=h.turn (w':=w) (id:=id) (l:=.nil) (S:=.fro t xs) (Nat.le_refl _) (fun c v _ h2=>by rw [upd_self h0] at h2 ⊢; exact h2) (fun b _ _=>rfl) (fun hO=>hO.elim) (fun st=>.inl ⟨upd_same _ _ _,hx⟩)
  rw [upd_self h0] at this
  refine ⟨this.1,this.2,fun x hx=>?_⟩
  have hx':Owns (upd σ id .nil) (s.put [] [] [(id,.fro t xs)]) x:=by rw [upd_self h0]; exact hx
  rcases owns_put1 hx' with ⟨k,_⟩ | ⟨j,_,k⟩
  ·exact k.elim
  ·exact ⟨j,k⟩
 have hH:∀ x,(Loc.nest b o' t.size xs.length size own).has x→Has σ s id x:=fun x hx=>⟨by rw [hid]; trivial,_,h1,hx⟩
 have hown:∀ x,Owns (upd σ id (.nest b o' t.size xs.length size own)) (s.put [] [] [(id,.fro t xs)]) x→∃ j,j≠id∧Has σ s j x:=fun x hx=>by
  rcases owns_put1 hx with ⟨k,_⟩ | k
  ·exact k.elim
  ·exact k
 have:=h.turn (w':=w) (id:=id) (l:=.nest b o' t.size xs.length size own) (S:=.fro t xs) (Nat.le_refl _) (fun c v _ h2=>by rw [upd_self h1] at h2 ⊢; exact h2) (fun b _ _=>rfl) (fun hO=>hO.elim) (fun st=>by
  have hnN:∀ x,Has σ s id x→¬ Nof X (upd σ id (.nest b o' t.size xs.length size own)) (s.put [] [] [(id,.fro t xs)]) x:=by
   rintro x hx (ho | hX)
   ·obtain ⟨j,hj,k⟩:=hown x ho
    exact hj (h.inj j id x k hx)
   ·exact (h.ext x hX).2 ⟨id,hx⟩
  exact .inr ⟨b,o',size,us,.inr ⟨own,upd_same _ _ _⟩,ownBlk_lt h2,hnN b (hH b (.inl rfl)),h4,h5.frozen (fun _=>rfl) fun p x hx=>hnN x (hH x (.inr ⟨p,hx⟩))⟩)
 rw [upd_self h1] at this hown
 exact ⟨this.1,this.2,fun x hx=>let ⟨j,_,k⟩:=hown x hx; ⟨j,k⟩⟩
end
end Go.Eng
namespace Go.Eng
open Go
section
variable {P:Program} {X:Nat→Prop} {σ:Sig} {s:St} {a:Act} {w:World} {o:Oper} {e:Eff} {gl:List (Nat×Bool)} {c:Ctx}
theorem getMap {r:Nat} {es:Array MapEntry} {clk:Nat} (h:w.heap[r]? = some (.map es clk)):(getObj r).run P w = .ok (.map es clk) w:=by
 simp [getObj,Sem.run,h]
def World.withObj (w:World) (r:Nat) (o:Obj):World:={ w with heap:=w.heap.setIfInBounds r o }
theorem setMap {r:Nat} {es:Array MapEntry} {clk:Nat} (o:Obj) (h:w.heap[r]? = some (.map es clk)):(setObj r o).run P w = .ok () (World.withObj w r o):=by
 simp [setObj,Sem.run,h,World.withObj]
theorem mp_spec {t:Nat} {ti:TI} (h:TyOk P t ti) {k v:Ty} (hm:ti.mp=some (k,v)):keyTy k=true∧oneTy v=true∧∃ kt vt d j,P.underlying t=some (.map kt vt)∧P.underlying kt=some d∧descKey d k=true ∧
  P.info? vt=some j∧j.zero=some (v.val v.dflt):=by
 have:=h.mp
 unfold mpOk at this
 rw [hm] at this
 dsimp only at this
 split at this
 ·rename_i kt vt hd
  simp only [Bool.and_eq_true] at this
  obtain ⟨⟨⟨h1,h2⟩,h3⟩,h4⟩:=this
  split at h3
  ·rename_i d hk
   split at h4
   ·rename_i j hj
    split at h4
    ·rename_i z hz
     simp only [Bool.and_eq_true] at h4
     obtain ⟨h5,h6⟩:=h4
     split at h6
     ·rename_i hzz
      refine ⟨h1,h2,kt,vt,d,j,hd,hk,h3,hj,?_⟩
      rw [hz]
      congr 1
      obtain ⟨us,hu,_,hdr⟩:=isZero_spec (σ:=fun _=>none) (w:=default) (N:=fun _=>False) hzz
      simp only [List.append_nil] at hu
      have key:z.cells.toList=[v.val v.dflt]:=by
       rw [hu]
       have hfl:v.plain=true:=by cases v <;> first | rfl | cases h2
       have:=hdr hfl
       cases v <;> first | exact this | exact absurd h2 Bool.false_ne_true
      have hsz:z.cells = #[v.val v.dflt]:=Array.toList_inj.mp (by simpa using key)
      cases z with
      | agg cs=>cases h5
      | _=>simpa [Value.cells] using hsz
     ·cases h6
    ·cases h4
   ·cases h4
  ·cases h3
 ·cases this
theorem mapAt_ev {mc:Cell} {v:Value} {k:(kt vt:Ty)→List (kt.den×vt.den×Int)→Int→Nat→Pl} (h:Rel X σ s a w) (hm:CellR σ w (Nof X σ s) mc v) (he:ev (mapAt mc k) s=some e) :
  ∃ id kt vt xs clk b es clock,look .none s.heap id = .mp kt vt xs clk∧σ id=some (.mapo b)∧v = .map (some b)∧w.heap[b]? = some (.map es clock)∧clk=(clock:Int)∧MapR kt vt es.toList xs ∧
   keyTy kt=true∧oneTy vt=true∧mc = .map id∧ev (k kt vt xs clk id) s=some e:=by
 unfold mapAt at he
 split at he
 ·rename_i id
  simp only [ev] at he
  have hs:=h.heap id
  split at he
  ·rename_i kt vt xs clk hl
   rw [hl] at hs
   obtain ⟨h1,h2,b,es,clock,h3,h4,h5,h6⟩:=hs
   simp only [CellR,h3] at hm
   exact ⟨id,kt,vt,xs,clk,b,es,clock,hl,h3,hm,h4,h5,h6,h1,h2,rfl,he⟩
  ·cases he
 ·cases he
theorem one_val {t:Ty} (ht:oneTy t=true) {N:Nat→Prop} (y:t.den):t.cells y=[(t.cells y).headD .dead]∧CellR σ w N ((t.cells y).headD .dead) (t.val y):=by
 cases t <;> first | exact ⟨rfl,rfl⟩ | exact absurd ht Bool.false_ne_true
theorem key_one {t:Ty} (ht:keyTy t=true):oneTy t=true:=by cases t <;> first | rfl | exact absurd ht Bool.false_ne_true
theorem one_of {t:Ty} (ht:oneTy t=true) {N:Nat→Prop} {c:Cell} {v:Value} {y:t.den} (hc:CellR σ w N c v) (h:t.ofCells [c]=some (y,[])):v=t.val y:=by
 cases t <;> first | cases ht | skip
 ·cases c <;> simp only [Ty.ofCells] at h <;> first | cases h | skip
  ·cases hc; rfl
  ·cases hc; rfl
 ·rename_i k
  cases c <;> simp only [Ty.ofCells] at h <;> first | cases h | skip
  split at h
  ·rename_i hk; subst hk; cases h; cases hc; rfl
  ·cases h
 ·cases c <;> simp only [Ty.ofCells] at h <;> first | cases h | skip
  cases hc; rfl
def mIdx (k v:Ty) (q:k.den):List (k.den×v.den×Int)→Option Nat
 | []=>none
 | e::r=>match keq k q e.1 with | true=>some 0 | false=>(mIdx k v q r).map (· + 1)
theorem barr_beq (a b:ByteArray):(a == b)=decide (a=b):=by
 show (a.data == b.data)=_
 rw [Bool.eq_iff_iff]
 simp only [beq_iff_eq,decide_eq_true_eq]
 exact ⟨fun h=>ByteArray.ext h,fun h=>by rw [h]⟩
theorem keq_val {k:Ty} (hk:keyTy k=true) {d:TypeDesc} (hd:descKey d k=true) (q x:k.den):Instr.sameNow d (k.val q) (k.val x)=some (keq k q x):=by
 cases k <;> first | cases hk | skip
 ·rename_i k
  cases d <;> first | cases hd | skip
  simp only [Instr.sameNow,Ty.val,keq,if_true]
  congr 1
 ·cases d <;> first | cases hd | skip
  simp only [Instr.sameNow,Ty.val,keq]
  congr 1
  exact barr_beq q x
theorem findNow_ok {k v:Ty} (hk:keyTy k=true) {d:TypeDesc} (hd:descKey d k=true) {q:k.den}:∀ {xs:List (k.den×v.den×Int)} {es:List MapEntry} {i:Nat},MapR k v es xs →
  Instr.findNow d (k.val q) es i=some (match mIdx k v q xs with | some j=>(es[j]?).map fun e=>(i + j,e.val) | none=>none)
 | [],es,i,h=>by
  have:es=[]:=by unfold MapR at h; simpa using h
  subst this
  rfl
 | x::xs,es,i,h=>by
  cases es with
  | nil=>unfold MapR at h; simp at h
  | cons e es=>
   unfold MapR at h
   simp only [List.map_cons,List.cons.injEq,Prod.mk.injEq] at h
   obtain ⟨⟨h1,h2,h3⟩,h4⟩:=h
   have ih:=findNow_ok hk hd (q:=q) (i:=i + 1) (show MapR k v es xs from h4)
   simp only [Instr.findNow,h1,keq_val hk hd,mIdx]
   cases hq:keq k q x.1 with
   | true=>simp
   | false=>
    dsimp only
    rw [ih]
    cases mIdx k v q xs with
    | none=>rfl
    | some j=>
     simp only [Option.map_some,List.getElem?_cons_succ]
     congr 1
     congr 1
     funext e
     rw [show i + 1 + j=i + (j + 1) by omega]
theorem mIdx_lt {k v:Ty} {q:k.den}:∀ {xs:List (k.den×v.den×Int)} {j:Nat},mIdx k v q xs=some j→j < xs.length
 | [],_,h=>by cases h
 | x::xs,j,h=>by
  simp only [mIdx] at h
  split at h
  ·cases h; simp
  ·cases hj:mIdx k v q xs with
   | none=>rw [hj] at h; cases h
   | some i=>rw [hj] at h; cases h; have:=mIdx_lt hj; simp; omega
theorem mFind_idx {k v:Ty} {q:k.den}:∀ {xs:List (k.den×v.den×Int)},mFind k v q xs=(mIdx k v q xs).bind fun j=>(xs[j]?).map (·.2)
 | []=>rfl
 | x::xs=>by
  simp only [mFind,mIdx]
  cases keq k q x.1 with
  | true=>simp
  | false=>
   dsimp only
   rw [mFind_idx (xs:=xs)]
   cases mIdx k v q xs <;> simp
theorem mPut_idx {k v:Ty} {q:k.den} {y:v.den} {clk:Int}:∀ {xs:List (k.den×v.den×Int)},mPut k v xs clk q y=match mIdx k v q xs with | some j=>xs.modify j fun e=>(q,y,e.2.2) | none=>xs++[(q,y,clk)]
 | []=>rfl
 | x::xs=>by
  simp only [mPut,mIdx]
  cases keq k q x.1 with
  | true=>simp
  | false=>
   dsimp only
   rw [mPut_idx (xs:=xs)]
   cases mIdx k v q xs <;> simp
theorem keq_eq {k:Ty} {q x:k.den} (h:keq k q x=true):q=x:=by
 cases k <;> first | cases h | exact of_decide_eq_true h
theorem mIdx_key {k v:Ty} {q:k.den}:∀ {xs:List (k.den×v.den×Int)} {j:Nat},mIdx k v q xs=some j→∃ e,xs[j]? = some e∧e.1=q
 | [],_,h=>by cases h
 | x::xs,j,h=>by
  simp only [mIdx] at h
  split at h
  ·rename_i hq; cases h; exact ⟨x,rfl,(keq_eq hq).symm⟩
  ·cases hj:mIdx k v q xs with
   | none=>rw [hj] at h; cases h
   | some i=>rw [hj] at h; cases h; simpa using mIdx_key hj
theorem mapR_get {k v:Ty} {es:List MapEntry} {xs:List (k.den×v.den×Int)} (h:MapR k v es xs) (j:Nat):(es[j]?).map (fun e=>(e.key,e.val,(e.born:Int)))=(xs[j]?).map fun x=>(k.val x.1,v.val x.2.1,x.2.2):=by
 have:=congrArg (fun l=>l[j]?) h
 simpa using this
theorem mapR_length {k v:Ty} {es:List MapEntry} {xs:List (k.den×v.den×Int)} (h:MapR k v es xs):es.length=xs.length:=by
 have:=congrArg List.length h
 simpa using this
theorem checkKey_int {kt:TypeId} {k k':IntKind} (hd:P.underlying kt=some (.int k)) {x:Int} {b:Bool} {n:Nat}:(Instr.checkKey b (n + 1) kt (.int k' x)).run P w = .ok () w:=by
 simp [Instr.checkKey,run_underlying hd]
theorem checkKey_str {kt:TypeId} (hd:P.underlying kt=some .string) {x:ByteArray} {b:Bool} {n:Nat}:(Instr.checkKey b (n + 1) kt (.string x)).run P w = .ok () w:=by
 simp [Instr.checkKey,run_underlying hd]
theorem run_checkKey {k:Ty} (hk:keyTy k=true) {kt:TypeId} {d:TypeDesc} (hd:P.underlying kt=some d) (hdk:descKey d k=true) (b:Bool) (q:k.den):(Instr.checkKey b 10000 kt (k.val q)).run P w = .ok () w:=by
 cases k <;> first | cases hk | skip
 ·cases d <;> first | cases hdk | skip
  exact checkKey_int (n:=9999) hd
 ·cases d <;> first | cases hdk | skip
  exact checkKey_str (n:=9999) hd
theorem run_findKey {k v:Ty} (hk:keyTy k=true) {kt:TypeId} {d:TypeDesc} (hd:P.underlying kt=some d) (hdk:descKey d k=true) {es:List MapEntry} {xs:List (k.den×v.den×Int)} (hm:MapR k v es xs) (q:k.den) :
  (Instr.findKey kt (k.val q) es).run P w = .ok (match mIdx k v q xs with | some j=>(es[j]?).map fun e=>(j,e.val) | none=>none) w:=by
 have:=findNow_ok (i:=0) hk hdk (q:=q) hm
 simp only [Nat.zero_add] at this
 simp [Instr.findKey,run_underlying hd,this]
theorem run_keyStays {k:Ty} (hk:keyTy k=true) (q:k.den):(Instr.keyThatStays (k.val q) (k.val q)).run P w = .ok (k.val q) w:=by
 cases k <;> first | cases hk | skip
 ·simp [Instr.keyThatStays,Instr.sameBits,Ty.val]
 ·have e1:((q:ByteArray) == q)=true:=by rw [barr_beq]; exact decide_eq_true rfl
  simp [Instr.keyThatStays,Instr.sameBits,Ty.val,e1]
theorem Rel.turnMap {id b:Nat} {kt vt:Ty} {xs ys:List (kt.den×vt.den×Int)} {clk:Int} {clock:Nat} {es es':Array MapEntry} {clock0:Nat} {clk0:Int} (h:Rel X σ s a w) (hid:look .none s.heap id = .mp kt vt xs clk0) (hl:σ id=some (.mapo b))
  (hb:w.heap[b]? = some (.map es clock0)) (hc:clk=(clock:Int)) (hm:MapR kt vt es'.toList ys) (hk:keyTy kt=true) (hv:oneTy vt=true) :
  Rel X σ (s.put [] [] [(id,.mp kt vt ys clk)]) a (World.withObj w b (.map es' clock))∧Go1 w (Owns σ s) (World.withObj w b (.map es' clock)) (Owns σ (s.put [] [] [(id,.mp kt vt ys clk)])):=by
 have hH:Has σ s id b:=⟨by rw [hid]; trivial,_,hl,rfl⟩
 have hlt:b < w.heap.size:=(Array.getElem?_eq_some_iff.mp hb).1
 have hfar:∀ x,x≠b→(World.withObj w b (.map es' clock)).heap[x]? = w.heap[x]?:=fun x hx=>by
  simp only [World.withObj]
  rw [Array.getElem?_setIfInBounds_ne (by omega)]
 have:=h.turn (w':=World.withObj w b (.map es' clock)) (id:=id) (l:=.mapo b) (S:=.mp kt vt ys clk) (by simp [World.withObj])
  (fun c v _ h2=>by rw [upd_self hl] at h2 ⊢; exact h2)
  (fun x _ hx=>hfar x fun e=>hx _ hl (by rw [hid]; trivial) e.symm)
  (fun _ x hx=>.inr (by cases hx; exact hH))
  (fun _=>⟨hk,hv,b,es',clock,upd_same _ _ _,by simp [World.withObj,hlt],hc,hm⟩)
 rw [upd_self hl] at this
 refine ⟨this.1,rfl,rfl,rfl,by simp [World.withObj],fun x _ hx=>hfar x fun e=>hx (e ▸ ⟨id,hH⟩),fun x hx=>.inl ?_⟩
 obtain ⟨i,hi⟩:=hx
 have hi':Has (upd σ id (.mapo b)) (s.put [] [] [(id,.mp kt vt ys clk)]) i x:=by rw [upd_self hl]; exact hi
 rcases owns_put1 ⟨i,hi'⟩ with ⟨_,k⟩ | ⟨j,_,k⟩
 ·cases k; exact ⟨id,hH⟩
 ·exact ⟨j,k⟩
end
end Go.Eng
namespace Go.Eng
open Go
section
variable {P:Program} {X:Nat→Prop} {σ:Sig} {s:St} {a:Act} {w:World} {o:Oper} {e:Eff} {gl:List (Nat×Bool)} {c:Ctx}
theorem ND.zero {own:Nat→Option Nat} {hole:Nat→Bool} {N:Nat→Prop} (ho:∀ q,own q=none) (hh:∀ q,hole q=false):∀ {t:Ty} {p:Nat} {us:List Value},t.nestOk=true→Cells (CellR σ w N) t.zero us→ND w own hole t p t.dflt us:=by
 intro t
 induction t with
 | bool=>intro p us _ h; cases h with | cons h1 h2=>cases h2; cases h1; rfl
 | int k=>intro p us _ h; cases h with | cons h1 h2=>cases h2; cases h1; rfl
 | str=>intro p us _ h; cases h with | cons h1 h2=>cases h2; cases h1; rfl
 | slice e _=>
  intro p us hn h
  cases h with
  | cons h1 h2=>
   cases h2
   have h1:_=Value.slice none 0 0:=h1
   subst h1
   exact ⟨hn,_,rfl,rfl,fun _=>ho p,fun _=>.inl ⟨ho p,rfl,rfl⟩⟩
 | pair a b iha ihb=>
  intro p us hn h
  simp only [Ty.nestOk,Bool.and_eq_true] at hn
  obtain ⟨us,ws,rfl,h1,h2⟩:=Cells.split h
  exact ⟨us,ws,rfl,iha hn.1 h1,ihb hn.2 h2⟩
 | unit=>intro p us _ h; cases h; rfl
 | ptr=>intro p us hn _; cases hn
 | func=>intro p us hn _; cases hn
 | other=>intro p us hn _; cases hn
theorem NRow.mk {own:Nat→Option Nat} {hole:Nat→Bool} {t:Ty} {x:t.den} {us:List Value} (h:∀ p,ND w own hole t p x us) (r:Nat→List Value) (h0:r 0=[]) (h1:∀ n,r (n + 1)=us++r n):∀ (n p:Nat),NRow w own hole t p (List.replicate n x) (r n)
 | 0,_=>by rw [h0]; rfl
 | n + 1,p=>by rw [h1]; exact ⟨us,r n,rfl,h p,NRow.mk h r h0 h1 n _⟩
theorem Rel.newNest {id:Nat} {t:Ty} {xs:List t.den} {us:List Value} {cs:Array Value} {el:TypeId} {size:Nat} {w':World} (h:Rel X σ s a w) (hid:look .none s.heap id = .none)
  (e:w'.heap=w.heap.push (.cells cs el (0,0))) (hs:cs.size=size) (hu:∃ r,cs.toList=us++r) (hr:NRow w (fun _=>none) (holeAt t none) t 0 xs us) :
  Rel X (upd σ id (.nest w.heap.size 0 t.size xs.length size fun _=>none)) (s.put [] [] [(id,.nest t xs none)]) a w':=by
 have hn:σ id=none:=by have:=h.heap id; rw [hid] at this; exact this
 refine (h.turn (by rw [e]; simp) (fun c v _ h2=>h2.upd hn) (fun b hlt _=>heap_push e hlt) (fun _ b hb=>.inl (by
  rcases hb with rfl | ⟨_,hp⟩
  ·omega
  ·cases hp)) (fun st=>?_)).1
 refine .inr ⟨w.heap.size,0,size,us,fun _=>none,upd_same _ _ _,⟨cs,el,heap_push_new e,hs⟩,?_,at_new e hu,hr.keep (fun _ _ hb=>by cases hb),(fun _ _ hb=>by cases hb),(fun _ _ _ hb=>by cases hb)⟩
 have hl:=hr.length
 obtain ⟨r,hr'⟩:=hu
 have:cs.toList.length=us.length + r.length:=by rw [hr']; simp
 simp only [Array.length_toList] at this
 omega
theorem Rel.nestTurn {Xq:Nat→Prop} {id b off size o0:Nat} {t:Ty} {xs ys:List t.den} {vs us:List Value} {hole hole':Option (Int×Nat)} {own own':Nat→Option Nat} (h:Rel Xq σ s a w) (hid:look .none s.heap id = .nest t xs hole)
  (hl:σ id=some (.nest b off t.size xs.length size own)) (hb:OwnBlk w b size) (hat:At w b off vs) (hvs:vs.length=xs.length * t.size) (hfit:off + xs.length * t.size≤size) (hX:∀ x,X x→Xq x)
  (hown:∀ p x,own' p=some x→own p=some x∨(Xq x∧¬ X x)) (hinj:∀ p q x,own' p=some x→own' q=some x→p=q) (hne:∀ p x,own' p=some x→x≠b∧∃ z,OwnBlk w x z)
  (hgo:∀ x,Xq x→¬ X x→∃ p,own' p=some x)
  (hu:o0 + us.length≤vs.length) (hlen:ys.length=xs.length) (hrow:NRow w own' (holeAt t hole') t 0 ys (setAt vs o0 us)) :
  Rel X (upd σ id (.nest b off t.size xs.length size own')) (s.put [] [] [(id,.nest t ys hole')]) a (w.setCells b (off + o0) us):=by
 have hH:∀ x,(Loc.nest b off t.size xs.length size own).has x→Has σ s id x:=fun x hx=>⟨by rw [hid]; trivial,_,hl,hx⟩
 have hbO:Has σ s id b:=hH b (.inl rfl)
 have hhas:∀ x,(Loc.nest b off t.size xs.length size own').has x→Has σ s id x∨(Xq x∧¬ X x):=fun x hx=>by
  rcases hx with rfl | ⟨p,hp⟩
  ·exact .inl hbO
  ·exact (hown p x hp).imp (fun z=>hH x (.inr ⟨p,z⟩)) (fun z=>z)
 have hsame:(Loc.nest b off t.size xs.length size own).same (.nest b off t.size xs.length size own'):=⟨_,rfl⟩
 have hN:∀ x,Nof X (upd σ id (.nest b off t.size xs.length size own')) (s.put [] [] [(id,.nest t ys hole')]) x→Nof Xq σ s x:=by
  rintro x (ho | hx)
  ·rcases owns_put1 ho with ⟨_,k⟩ | ⟨j,_,k⟩
   ·rcases hhas x k with k | ⟨k,_⟩
    ·exact .inl ⟨id,k⟩
    ·exact .inr k
   ·exact .inl ⟨j,k⟩
  ·exact .inr (hX x hx)
 have hfar:∀ x,x≠b→(w.setCells b (off + o0) us).heap[x]? = w.heap[x]?:=fun x hx=>setCells_far _ _ _ hx
 have st0:Stab w (Nof Xq σ s) (w.setCells b (off + o0) us) (Nof X (upd σ id (.nest b off t.size xs.length size own')) (s.put [] [] [(id,.nest t ys hole')])):=
  ⟨by rw [setCells_size]; exact Nat.le_refl _,fun x _ hn=>⟨fun hn'=>hn (hN x hn'),hfar x fun e=>hn (.inl ⟨id,e ▸ hbO⟩)⟩⟩
 refine (h.turnX (X':=X) (w':=w.setCells b (off + o0) us) (id:=id) (l:=.nest b off t.size xs.length size own') (S:=.nest t ys hole') (by rw [setCells_size]; exact Nat.le_refl _)
  (fun c v h1 _=>(CellR.same hl hsame h1).stab st0) (fun x _ hx=>hN x hx) (fun x _ hn=>hfar x fun e=>hn (.inl ⟨id,e ▸ hbO⟩))
  (fun i x hi hx=>hfar x fun e=>hi (h.inj i id b (e ▸ hx) hbO)) (fun _=>?_) (fun x _ hx j hj hjx=>?_) (fun x hx=>?_)).1
 ·refine .inr ⟨b,off,size,setAt vs o0 us,own',by rw [hlen]; exact upd_same _ _ _,setCells_own _ _ _ hb,by rw [hlen]; exact hfit,?_,hrow.keep (fun p x hx=>hfar x (hne p x hx).1),fun p x hx=>⟨(hne p x hx).1,?_⟩,hinj⟩
  ·have:=At.set (o:=off + o0) (us:=us) hat hb (by omega) (by omega) (by omega)
   rwa [show off + o0 - off=o0 by omega] at this
  ·obtain ⟨z,hz⟩:=(hne p x hx).2
   exact ⟨z,hz.keep (hfar x (hne p x hx).1)⟩
 ·rcases hhas x hx with k | ⟨k,_⟩
  ·exact hj (h.inj j id x hjx k)
  ·exact (h.ext x k).2 ⟨j,hjx⟩
 ·obtain ⟨e1,e2⟩:=h.ext x (hX x hx)
  refine ⟨by rw [setCells_size]; exact e1,fun ⟨_,k⟩=>?_,fun j _ hj=>e2 ⟨j,hj⟩⟩
  rcases hhas x k with k | ⟨_,k⟩
  ·exact e2 ⟨id,k⟩
  ·exact k hx
theorem setAt_mid {α:Type} {A B C us:List α} {off:Nat} (h:off + us.length≤B.length):setAt (A++B++C) (A.length + off) us=A++setAt B off us++C:=by
 rw [setAt_eq _ _ _ (by simp; omega),setAt_eq _ _ _ h]
 have e1:(A++B++C).take (A.length + off)=A++B.take off:=by
  rw [List.append_assoc,List.take_append,List.take_of_length_le (by omega),show A.length + off - A.length=off by omega,List.take_append_of_le_length (by omega)]
 have e2:(A++B++C).drop (A.length + off + us.length)=B.drop (off + us.length)++C:=by
  rw [List.append_assoc,List.drop_append,List.drop_of_length_le (by omega),show A.length + off + us.length - A.length=off + us.length by omega,List.drop_append_of_le_length (by omega)]
  rfl
 rw [e1,e2]
 simp
theorem ND.flatSet {own:Nat→Option Nat} {hole:Nat→Bool} {N:Nat→Prop}:∀ {t:Ty} {p:Nat} {x y:t.den} {B vs:List Value} {cs r ds:List Cell},ND w own hole t p x B→t.ofCells cs=some (y,r) →
  Cells (fun c v=>(flatCell c=true∧CellR σ w N c v)∨isFrz c=true) cs vs →
  (∀ j c v,cs[j]? = some c→vs[j]? = some v→j < t.size→isFrz c=true→(t.cells x)[j]? = some c∧B[j]? = some v) →
  ∃ us ws,vs=us++ws∧ND w own hole t p y us∧Cells (fun c v=>(flatCell c=true∧CellR σ w N c v)∨isFrz c=true) r ws∧r=cs.drop t.size:=by
 intro t
 induction t with
 | bool=>
  intro p x y B vs cs r ds hnd h hc hk
  cases hc with
  | nil=>simp [Ty.ofCells] at h
  | cons h1 h2=>
   rename_i c v cs' vs'
   cases c <;> simp only [Ty.ofCells] at h <;> first | cases h | skip
   ·rcases h1 with ⟨_,h1⟩ | h1
    ·cases h1; exact ⟨[_],_,rfl,rfl,h2,rfl⟩
    ·cases h1
   ·rcases h1 with ⟨_,h1⟩ | h1
    ·cases h1; exact ⟨[_],_,rfl,rfl,h2,rfl⟩
    ·cases h1
 | int k=>
  intro p x y B vs cs r ds hnd h hc hk
  cases hc with
  | nil=>simp [Ty.ofCells] at h
  | cons h1 h2=>
   rename_i c v cs' vs'
   cases c <;> simp only [Ty.ofCells] at h <;> first | cases h | skip
   split at h
   ·rename_i hk; subst hk; cases h
    rcases h1 with ⟨_,h1⟩ | h1
    ·cases h1; exact ⟨[_],_,rfl,rfl,h2,rfl⟩
    ·cases h1
   ·cases h
 | str=>
  intro p x y B vs cs r ds hnd h hc hk
  cases hc with
  | nil=>simp [Ty.ofCells] at h
  | cons h1 h2=>
   rename_i c v cs' vs'
   cases c <;> simp only [Ty.ofCells] at h <;> first | cases h | skip
   rcases h1 with ⟨_,h1⟩ | h1
   ·cases h1; exact ⟨[_],_,rfl,rfl,h2,rfl⟩
   ·cases h1
 | slice e _=>
  rintro p x y B vs cs r ds ⟨g1,v0,rfl,g3⟩ h hc hk
  cases hc with
  | nil=>simp [Ty.ofCells] at h
  | cons h1 h2=>
   rename_i c v cs' vs'
   have hf:isFrz c=true:=by
    rcases h1 with ⟨h1,_⟩ | h1
    ·cases c <;> simp only [Ty.ofCells] at h <;> first | exact absurd h1 Bool.false_ne_true | cases h
    ·exact h1
   obtain ⟨k1,k2⟩:=hk 0 c v rfl rfl (by simp [Ty.size]) hf
   simp only [Ty.cells,List.getElem?_cons_zero,Option.some.injEq] at k1 k2
   subst k1
   subst k2
   simp only [Ty.ofCells] at h
   split at h
   ·rename_i zs hz
    cases h
    obtain ⟨e1,e2⟩:=castRow_ex hz
    cases e1
    cases e2
    exact ⟨[_],_,rfl,⟨g1,_,rfl,g3⟩,h2,rfl⟩
   ·cases h
 | pair a b iha ihb=>
  rintro p x y B vs cs r ds ⟨B1,B2,rfl,g1,g2⟩ h hc hk
  simp only [Ty.ofCells] at h
  split at h
  ·rename_i x1 r1 e1
   split at h
   ·rename_i x2 r2 e2
    cases h
    have lx:(a.cells x.1).length=a.size:=by have:=(g1.cells (σ:=σ) (N:=N)).length; rw [g1.length] at this; exact this
    obtain ⟨u1,w1,rfl,d1,c1,rfl⟩:=iha (ds:=[]) g1 e1 hc (fun j c v hj hv hlt hf=>by
     have:=hk j c v hj hv (by simp only [Ty.size]; omega) hf
     simp only [Ty.cells] at this
     rw [List.getElem?_append_left (by omega),List.getElem?_append_left (by rw [g1.length]; omega)] at this
     exact this)
    have lu:=d1.length
    obtain ⟨u2,w2,rfl,d2,c2,rfl⟩:=ihb (ds:=[]) g2 e2 c1 (fun j c v hj hv hlt hf=>by
     have:=hk (a.size + j) c v (by rw [← List.getElem?_drop]; exact hj) (by rw [List.getElem?_append_right (by omega),lu,show a.size + j - a.size=j by omega]; exact hv) (by simp only [Ty.size]; omega) hf
     simp only [Ty.cells] at this
     rw [List.getElem?_append_right (by omega),List.getElem?_append_right (by rw [g1.length]; omega),lx,g1.length,show a.size + j - a.size=j by omega] at this
     exact this)
    exact ⟨u1++u2,w2,by simp,⟨u1,u2,rfl,d1,d2⟩,c2,by simp [Ty.size]⟩
   ·cases h
  ·cases h
 | unit=>intro p x y B vs cs r ds _ h hc _; simp only [Ty.ofCells] at h; cases h; exact ⟨[],vs,rfl,rfl,hc,rfl⟩
 | ptr=>intro p x y B vs cs r ds hn; exact hn.elim
 | func=>intro p x y B vs cs r ds hn; exact hn.elim
 | other=>intro p x y B vs cs r ds hn; exact hn.elim
structure Giv (X:Nat→Prop) (σ:Sig) (s:St) (a:Act) (w:World) (id:Nat) (e:Ty) (ys:List e.den) (hs:List (Nat×Slot)) (v:Value) where
 Xq:Nat→Prop
 σq:Sig
 blk:Option Nat
 rel:Rel Xq σq (s.put [] [] hs) a w
 sub:∀ x,X x→Xq x
 blkX:∀ x,blk=some x↔(Xq x∧¬ X x)
 here:look .none (s.put [] [] hs).heap id=look .none s.heap id
 sig:σq id=σ id
 evo:Evo σ σq
 owns:∀ x,Owns σq (s.put [] [] hs) x→Owns σ s x
 was:∀ x,blk=some x→Owns σ s x∧∃ z,OwnBlk w x z
 ns:e.flat=true→NS w blk e ys v
 one:v.oneCell'=true
 swap:∀ (S:Slot) i,look .none (hs++[(id,S)]++s.heap) i=look .none ((id,S)::(hs++s.heap)) i
end
end Go.Eng
namespace Go.Eng
open Go
section
variable {P:Program} {X:Nat→Prop} {σ:Sig} {s:St} {a:Act} {w:World} {o:Oper} {e:Eff} {gl:List (Nat×Bool)} {c:Ctx}
theorem RowR.cutAt {w:World} {N:Nat→Prop} {e:Ty} {xs:List e.den} {us:List Value} (h:RowR (DRel w N e) xs us):∀ n,RowR (DRel w N e) (xs.take n) (us.take (n * e.size))∧RowR (DRel w N e) (xs.drop n) (us.drop (n * e.size)):=by
 induction h with
 | nil=>intro n; simp; exact .nil
 | @cons x us xs vs h _ ih=>
  intro n
  cases n with
  | zero=>simp; exact ⟨.nil,.cons h ‹_›⟩
  | succ n=>
   have hl:=h.length
   have e1:(us++vs).take ((n + 1) * e.size)=us++vs.take (n * e.size):=by
    rw [List.take_append,Nat.add_mul,Nat.one_mul,List.take_of_length_le (by omega),hl,Nat.add_sub_cancel]
   have e2:(us++vs).drop ((n + 1) * e.size)=vs.drop (n * e.size):=by
    rw [List.drop_append,Nat.add_mul,Nat.one_mul,List.drop_of_length_le (by omega),hl,Nat.add_sub_cancel]; simp
   rw [e1,e2]
   exact ⟨.cons h (ih n).1,(ih n).2⟩
theorem givNil (h:Rel X σ s a w) {id:Nat} {el:Ty}:Nonempty (Giv X σ s a w id el [] [] (.slice none 0 0)):=
 ⟨{ Xq:=X,σq:=σ,blk:=none,rel:=h,sub:=fun _ hx=>hx,blkX:=fun x=>⟨(fun hx=>by cases hx),fun ⟨h1,h2⟩=>(h2 h1).elim⟩,here:=rfl,sig:=rfl,evo:=Evo.refl _,owns:=fun _ hx=>hx,
    was:=(fun x hx=>by cases hx),ns:=fun _=>.inl ⟨rfl,rfl,rfl⟩,one:=rfl,swap:=fun _ _=>rfl }⟩
theorem givRow (h:Rel X σ s a w) {id q:Nat} {el:Ty} {ys zs:List el.den} {v:Value} (hne:q≠id) (hq:look .none s.heap q = .row el ys)
  (hv:(σ q=some .nil→zs=[]∧v = .slice none 0 0)∧(∀ b off size us,σ q=some (.row b off el.size ys.length size)→At w b off us→RowR (DRel w (Nof X σ s) el) ys us →
   ∃ a0 cap off' us',v = .slice (some a0) zs.length cap∧zs.length≤cap∧(cap=0∨a0=⟨b,off',none⟩)∧off' + cap * el.size≤size∧At w b off' us'∧RowR (DRel w (Nof X σ s) el) zs us')) :
  Nonempty (Giv X σ s a w id el zs [(q,.gone)] v):=by
 have hs:=h.heap q
 rw [hq] at hs
 have hsw:∀ (S:Slot) i,look .none ([(q,.gone)]++[(id,S)]++s.heap) i=look .none ((id,S)::([(q,.gone)]++s.heap)) i:=fun S i=>by
  show look .none ((q,.gone)::(id,S)::s.heap) i=look .none ((id,S)::(q,.gone)::s.heap) i
  by_cases e1:q=i
  ·subst e1; rw [look_cons_eq,look_cons_ne _ _ _ (Ne.symm hne),look_cons_eq]
  ·rw [look_cons_ne _ _ _ e1]
   by_cases e2:id=i
   ·subst e2; rw [look_cons_eq,look_cons_eq]
   ·rw [look_cons_ne _ _ _ e2,look_cons_ne _ _ _ e2,look_cons_ne _ _ _ e1]
 have hhere:look .none (s.put [] [] [(q,.gone)]).heap id=look .none s.heap id:=look_cons_ne _ _ _ hne
 rcases hs with ⟨h0,hx⟩ | ⟨b,off,size,us,h1,h2,h3,h4,h5⟩
 ·obtain ⟨e1,rfl⟩:=hv.1 h0
  subst e1
  obtain ⟨g1,g2⟩:=h.giveNil h0
  refine ⟨⟨X,_,none,g1,(fun _ hx=>hx),(fun x=>⟨(fun hx=>by cases hx),fun ⟨h1,h2⟩=>(h2 h1).elim⟩),hhere,upd_ne _ _ (Ne.symm hne),Evo.gone,(fun x hx=>?_),(fun x hx=>by cases hx),(fun _=>.inl ⟨rfl,rfl,rfl⟩),rfl,hsw⟩⟩
  rcases owns_put1 (S:=.gone) hx with ⟨k,_⟩ | ⟨j,_,k⟩
  ·exact k.elim
  ·exact ⟨j,k⟩
 ·obtain ⟨a0,cap,off',us',rfl,k1,k2,k3,k4,k5⟩:=hv.2 b off size us h1 h4 h5
  have hH:Has σ s q b:=⟨by rw [hq]; trivial,_,h1,rfl⟩
  have hXb:¬ X b:=fun hx=>(h.ext b hx).2 ⟨q,hH⟩
  have g1:=h.giveUp hH
  refine ⟨⟨(fun x=>X x∨x=b),_,some b,g1,(fun _ hx=>.inl hx),(fun x=>⟨fun hx=>?_,fun hx=>?_⟩),hhere,upd_ne _ _ (Ne.symm hne),Evo.gone,(fun x hx=>?_),(fun x hx=>?_),(fun he=>?_),rfl,hsw⟩⟩
  ·cases hx; exact ⟨.inr rfl,hXb⟩
  ·obtain ⟨h1,h2⟩:=hx
   rcases h1 with h1 | rfl
   ·exact (h2 h1).elim
   ·rfl
  ·rcases owns_put1 (S:=.gone) hx with ⟨k,_⟩ | ⟨j,_,k⟩
   ·exact k.elim
   ·exact ⟨j,k⟩
  ·cases hx; exact ⟨⟨q,hH⟩,_,h2⟩
  ·exact .inr ⟨b,off',size,us',a0,cap,rfl,h2,rfl,k1,k2,k3,k4,k5.mono fun _ _ d=>d.flat he⟩
theorem givSl (h:Rel X σ s a w) {id q:Nat} {el:Ty} {ys:List el.den} {v:Value} (hne:q≠id) (hq:look .none s.heap q = .row el ys) (hv:CellR σ w (Nof X σ s) (.sl q) v):Nonempty (Giv X σ s a w id el ys [(q,.gone)] v):=by
 refine givRow h hne hq ⟨fun h0=>?_,fun b off size us h1 h4 h5=>?_⟩
 ·have hs:=h.heap q
  rw [hq] at hs
  simp only [CellR,h0] at hv
  rcases hs with ⟨_,hx⟩ | ⟨b,off,size,us,h1,_⟩
  ·exact ⟨hx,hv⟩
  ·rw [h0] at h1; cases h1
 ·simp only [CellR,h1] at hv
  obtain ⟨a0,cap,rfl,hc,ha,hz⟩:=hv
  exact ⟨a0,cap,off,us,rfl,hc,ha,hz,h4,h5⟩
theorem givSub (h:Rel X σ s a w) {id q:Nat} {el:Ty} {ys:List el.den} {lo hi:Int} {v:Value} (hne:q≠id) (hq:look .none s.heap q = .row el ys) (hv:CellR σ w (Nof X σ s) (.sub q lo hi) v):Nonempty (Giv X σ s a w id el ((ys.take hi.toNat).drop lo.toNat) [(q,.gone)] v):=by
 refine givRow h hne hq ⟨fun h0=>?_,fun b off size us h1 h4 h5=>?_⟩
 ·simp only [CellR,h0] at hv
  obtain ⟨rfl,rfl,rfl⟩:=hv
  simp
 ·simp only [CellR,h1] at hv
  obtain ⟨a0,n,cap,rfl,hc,hlo,hhi,hle,ha,hz⟩:=hv
  have hn:((ys.take hi.toNat).drop lo.toNat).length=n:=by simp; omega
  rw [hn]
  refine ⟨a0,cap,off + lo.toNat * el.size,((us.take (hi.toNat * el.size)).drop (lo.toNat * el.size)),rfl,hc,ha,hz,?_,((h5.cutAt hi.toNat).1.cutAt lo.toNat).2⟩
  intro j v hj
  rw [List.getElem?_drop,List.getElem?_take] at hj
  split at hj
  ·rw [Nat.add_assoc]; exact h4 _ v hj
  ·cases hj
theorem Rel.putIn {id:Nat} {t:Ty} {xs:List t.den} {hole:Option (Int×Nat)} {i:Int} {off:Nat} {el:Ty} {ys:List el.den} {y:t.den} {hs:List (Nat×Slot)} {v:Value} {b o' size:Nat} {own:Nat→Option Nat} (h:Rel X σ s a w)
  (hid:look .none s.heap id = .nest t xs hole) (h1:σ id=some (.nest b o' t.size xs.length size own)) (h0:0≤i) (hi:i < xs.length) (hset:setLeaf t off (rd t xs i) el ys=some y) (hh:hole=none∨hole=some (i,off)) (g:Giv X σ s a w id el ys hs v) :
  ∃ σ',Rel X σ' (s.put [] [] (hs++[(id,.nest t (xs.set i.toNat y) none)])) a (w.setCells b (o' + i.toNat * t.size + off) [v])∧Go1 w (Owns σ s) (w.setCells b (o' + i.toNat * t.size + off) [v]) (Owns σ' (s.put [] [] (hs++[(id,.nest t (xs.set i.toNat y) none)])))∧Evo σ σ' ∧
   OwnBlk w b size∧o' + i.toNat * t.size + off + 1≤size:=by
 have hsl:=h.heap id
 rw [hid] at hsl
 rcases hsl with ⟨_,hx,_⟩ | ⟨b',o2,size',vs,own',e1,h2,h3,h4,h5,h6,h7⟩
 ·subst hx; simp at hi; omega
 rw [h1] at e1
 cases e1
 rw [rd_at h0 hi] at hset
 obtain ⟨A,B,C,rfl,k1,k2,k3⟩:=h5.at i.toNat (by omega)
 have hel:=k2.setLeaf_flat hset
 rw [Nat.zero_add] at k2 k3
 have hown':∀ q,(fun q=>if q=i.toNat * t.size + off then g.blk else own q) q=if q=i.toNat * t.size + off then g.blk else own q:=fun _=>rfl
 generalize (fun q=>if q=i.toNat * t.size + off then g.blk else own q)=own' at hown'
 have hoQ:own' (i.toNat * t.size + off)=g.blk:=by rw [hown',if_pos rfl]
 have hoN:∀ q,q≠i.toNat * t.size + off→own' q=own q:=fun q hq=>by rw [hown',if_neg hq]
 have hhole:∀ q,q≠i.toNat * t.size + off→holeAt t none q=holeAt t hole q:=fun q hq=>by
  rcases hh with rfl | rfl
  ·rfl
  ·simp only [holeAt]
   cases hb:Nat.beq q (i.toNat * t.size + off) with
   | false=>rfl
   | true=>exact absurd (Nat.eq_of_beq_eq_true hb) hq
 obtain ⟨m1,m2⟩:=k2.put (own':=own') (hole':=holeAt t none) (v:=v) hset (fun q hq=>⟨hoN q hq,hhole q hq⟩) hel g.one rfl (by rw [hoQ]; exact g.ns hel)
 have m3:=k3 own' (holeAt t none) y _ (fun q hq=>by
  have:q≠i.toNat * t.size + off:=by omega
  exact ⟨hoN q this,hhole q this⟩) m1
 have hBl:=k2.length
 have hmid:setAt (A++B++C) (i.toNat * t.size + off) [v]=A++setAt B off [v]++C:=by
  rw [← k1]; exact setAt_mid (by simp; omega)
 rw [← hmid] at m3
 have hvl:=h5.length
 have hHb:Has σ s id b:=⟨by rw [hid]; trivial,_,h1,.inl rfl⟩
 have hHo:∀ p x,own p=some x→Has σ s id x:=fun p x hx=>⟨by rw [hid]; trivial,_,h1,.inr ⟨p,hx⟩⟩
 have hblk:∀ x,g.blk=some x→x≠b∧∀ p,own p≠some x:=fun x hx=>by
  have hX:=(g.blkX x).mp hx
  have hno:=(g.rel.ext x hX.1).2
  have hHq:∀ z,(Loc.nest b o' t.size xs.length size own).has z→Owns g.σq (s.put [] [] hs) z:=fun z hz=>⟨id,by rw [g.here,hid]; trivial,_,g.sig.trans h1,hz⟩
  exact ⟨fun e=>hno (hHq x (.inl e.symm)),fun p hp=>hno (hHq x (.inr ⟨p,hp⟩))⟩
 have r1:=g.rel.nestTurn (X:=X) (id:=id) (o0:=i.toNat * t.size + off) (us:=[v]) (own':=own') (hole':=none) (by rw [g.here]; exact hid) (g.sig.trans h1) h2 h4 hvl h3 g.sub
  (fun p x hx=>by
   by_cases e:p=i.toNat * t.size + off
   ·subst e; rw [hoQ] at hx; exact .inr ((g.blkX x).mp hx)
   ·rw [hoN p e] at hx; exact .inl hx)
  (fun p q x hp hq=>by
   by_cases e:p=i.toNat * t.size + off <;> by_cases e':q=i.toNat * t.size + off
   ·rw [e,e']
   ·rw [e,hoQ] at hp; rw [hoN q e'] at hq; exact absurd hq ((hblk x hp).2 q)
   ·rw [e',hoQ] at hq; rw [hoN p e] at hp; exact absurd hp ((hblk x hq).2 p)
   ·rw [hoN p e] at hp; rw [hoN q e'] at hq; exact h7 p q x hp hq)
  (fun p x hx=>by
   by_cases e:p=i.toNat * t.size + off
   ·subst e; rw [hoQ] at hx; exact ⟨(hblk x hx).1,(g.was x hx).2⟩
   ·rw [hoN p e] at hx; exact h6 p x hx)
  (fun x hx hx'=>⟨_,by rw [hoQ]; exact (g.blkX x).mpr ⟨hx,hx'⟩⟩)
  (by
   have:(i.toNat + 1) * t.size≤xs.length * t.size:=Nat.mul_le_mul_right _ (by omega)
   rw [Nat.add_mul] at this
   simp only [List.length_singleton]
   omega)
  (List.length_set ..) m3
 have hoff:o' + (i.toNat * t.size + off)=o' + i.toNat * t.size + off:=by omega
 rw [hoff] at r1
 have hlk:∀ j,look .none (s.put [] [] (hs++[(id,.nest t (xs.set i.toNat y) none)])).heap j=look .none ((s.put [] [] hs).put [] [] [(id,.nest t (xs.set i.toNat y) none)]).heap j:=fun j=>g.swap _ j
 refine ⟨_,r1.look_eq rfl (fun _=>rfl) (fun _=>rfl) hlk,?_,g.evo.trans (Evo.same (g.sig.trans h1) ⟨_,rfl⟩),h2,?_⟩
 ·refine ⟨(setCells_rest b [v] _ w).1,(setCells_rest b [v] _ w).2.1,(setCells_rest b [v] _ w).2.2,by rw [setCells_size]; exact Nat.le_refl _,fun k _ hk=>setCells_far _ _ _ (fun e=>hk (e ▸ ⟨id,hHb⟩)),fun x hx=>.inl ?_⟩
  rw [owns_ext hlk] at hx
  rcases owns_put1 hx with ⟨_,k⟩ | ⟨j,_,k⟩
  ·rcases k with rfl | ⟨p,hp⟩
   ·exact ⟨id,hHb⟩
   ·by_cases e:p=i.toNat * t.size + off
    ·subst e; rw [hoQ] at hp; exact (g.was x hp).1
    ·rw [hoN p e] at hp; exact ⟨id,hHo p x hp⟩
  ·exact g.owns x ⟨j,k⟩
 ·have:(i.toNat + 1) * t.size≤xs.length * t.size:=Nat.mul_le_mul_right _ (by omega)
  rw [Nat.add_mul] at this
  omega
end
end Go.Eng
namespace Go.Eng
open Go
section
variable {P:Program} {X:Nat→Prop} {σ:Sig} {s:St} {a:Act} {w:World} {o:Oper} {e:Eff} {gl:List (Nat×Bool)} {c:Ctx}
theorem run_isAgg {t:Nat} {ti:TI} (h:TyOk P t ti):(isAgg t).run P w = .ok ti.agg w:=by
 obtain ⟨i,z,d,_,_,_,_,hd,hok⟩:=h.ex
 simp only [isAgg,Sem.run_bind,run_underlying hd,Result.andThen_ok]
 unfold descOk at hok
 cases d <;> simp only [descOk',Bool.and_eq_true,Bool.not_eq_true'] at hok <;> first | (rw [hok.1.1]; rfl) | exact absurd hok.1 (by simp)
theorem run_sizeOf {t:Nat} {ti:TI} (h:TyOk P t ti):(sizeOf t).run P w = .ok ti.ty.size w:=by
 obtain ⟨i,z,d,hi,hs,_⟩:=h.ex
 simp [sizeOf,typeInfo,hi,hs]
theorem addr_add (b o j:Nat):(⟨b,o,none⟩:Addr).add j=⟨b,o + j,none⟩:=by
 unfold Addr.add
 split
 ·subst_vars; rfl
 ·rfl
theorem run_loadAt {t b off:Nat} {ti:TI} {us:List Value} (h:TyOk P t ti) (ht:At w b off us) (hl:us.length=ti.ty.size) :
  (Instr.loadAt t (.pointer (some ⟨b,off,none⟩))).run P w=match ti.agg with
   | true=>.ok (.agg us.toArray) w
   | false=>(load ⟨b,off,none⟩).run P w:=by
 simp only [Instr.loadAt,Instr.sureAddr,loadVar,Sem.run_bind,Sem.run_pure,Result.andThen_ok,run_isAgg h]
 cases ti.agg with
 | true=>
  simp only [if_true,Sem.run_bind,run_sizeOf h,Result.andThen_ok]
  rw [← hl,run_loadCells_list w ⟨b,off,none⟩ us (fun j v hv=>by rw [addr_add]; exact ht j v hv)]
  rfl
 | false=>simp
theorem run_load_one {b off:Nat} {v:Value} (h:w.cell? ⟨b,off,none⟩=some v):(load ⟨b,off,none⟩).run P w = .ok v w:=by
 rw [run_load,h]
theorem run_exec_load {t:TypeId} {x:Operand} {b off:Nat} (ho:o.op = .load t x) (hx:a.eval x = .pointer (some ⟨b,off,none⟩)) {v:Value}
  (h:(Instr.loadAt t (.pointer (some ⟨b,off,none⟩))).run P w = .ok v w):(execOp a.eval o).run P w = .ok (.value v) w:=by
 simp only [execOp,ho,hx,Sem.run_bind,h,Result.andThen_ok,Sem.run_pure]
theorem loadOut {t b off k:Nat} {ti:TI} {cs:List Cell} {vs:List Value} {R:Cell→Value→Prop} {x:Operand} (h:TyOk P t ti) (hc:Cells R cs vs) (ht:At w b off vs)
  (ho:o.op = .load t x) (hx:a.eval x = .pointer (some ⟨b,off + k,none⟩)) :
  (∀ r,ti.agg=false→cs.drop k=r→∀ c q,r=c::q→∃ v,R c v∧(execOp a.eval o).run P w = .ok (.value v) w) ∧
  (ti.agg=true→k + ti.ty.size≤cs.length→∃ us,Cells R ((cs.drop k).take ti.ty.size) us∧(execOp a.eval o).run P w = .ok (.value (.agg us.toArray)) w):=by
 have hlen:=hc.length
 refine ⟨?_,?_⟩
 ·rintro r hg hr c q rfl
  have hd:=hc.drop k
  rw [hr] at hd
  generalize hv:vs.drop k=ws at hd
  cases hd with
  | cons h1 h2=>
   rename_i v vs'
   have hv':vs[k]? = some v:=by
    have:=congrArg (fun l=>l[0]?) hv
    simpa using this
   refine ⟨v,h1,?_⟩
   refine run_exec_load ho hx ?_
   simp only [Instr.loadAt,Instr.sureAddr,loadVar,Sem.run_bind,Sem.run_pure,Result.andThen_ok,run_isAgg h,hg]
   simp only [Bool.false_eq_true,if_false]
   exact run_load_one (ht k v hv')
 ·intro hg hk
  have hd:=(hc.drop k).take ti.ty.size
  have hl:((vs.drop k).take ti.ty.size).length=ti.ty.size:=by simp; omega
  have hat:At w b (off + k) ((vs.drop k).take ti.ty.size):=by
   intro j v hv
   rw [List.getElem?_take] at hv
   split at hv
   ·rw [List.getElem?_drop] at hv
    rw [Nat.add_assoc]
    exact ht (k + j) v hv
   ·cases hv
  refine ⟨_,hd,run_exec_load ho hx ?_⟩
  rw [run_loadAt h hat hl,hg]
theorem withT_ev {t:Nat} {k:TI→Pl} (hc:tisOk P c.ti=true) (he:ev (withT c t k) s=some e):TyOk P t (c.T t)∧ev (k (c.T t)) s=some e:=by
 unfold withT at he
 cases ho:(c.T t).ok with
 | false=>rw [ho] at he; cases he
 | true=>
  rw [ho] at he
  refine ⟨(tisOk_spec hc t).resolve_left fun e=>?_,he⟩
  have:(c.T t).ok=false:=by unfold Ctx.T; rw [e]; rfl
  rw [ho] at this
  cases this
theorem RowR.at {t:Ty} {N:Nat→Prop} {xs:List t.den} {us:List Value} (r:RowR (DRel w N t) xs us):∀ i (hi:i < xs.length),
  ∃ A B C,us=A++B++C∧A.length=i * t.size∧DRel w N t xs[i] B∧∀ y B',DRel w N t y B'→RowR (DRel w N t) (xs.set i y) (A++B'++C):=by
 induction r with
 | nil=>intro i hi; simp at hi
 | @cons x us xs vs h r ih=>
  intro i hi
  cases i with
  | zero=>exact ⟨[],us,vs,by simp,by simp,h,fun y B' hy=>by simpa using RowR.cons hy r⟩
  | succ i=>
   obtain ⟨A,B,C,rfl,h2,h3,h4⟩:=ih i (by simpa using hi)
   refine ⟨us++A,B,C,by simp,by simp [h2,h.length,Nat.add_mul]; omega,by simpa using h3,fun y B' hy=>?_⟩
   have:=RowR.cons h (h4 y B' hy)
   simpa using this
theorem cells_ok {N:Nat→Prop}:∀ {t:Ty} {x:t.den} {us:List Value},DRel w N t x us→Cells (CellR σ w N) (t.cells x) us:=by
 intro t
 induction t with
 | bool=>intro x us h; simp only [DRel] at h; subst h; exact .cons rfl .nil
 | int k=>intro x us h; simp only [DRel] at h; subst h; exact .cons rfl .nil
 | str=>intro x us h; simp only [DRel] at h; subst h; exact .cons rfl .nil
 | slice t _=>
  intro x us h
  obtain ⟨a,n,cp,rfl,h'⟩:=h
  exact .cons (show DRel w N (.slice t) x [_] from ⟨a,n,cp,rfl,h'⟩) .nil
 | pair a b iha ihb=>
  intro x us h
  obtain ⟨us,ws,rfl,h1,h2⟩:=h
  exact (iha h1).append (ihb h2)
 | unit=>intro x us h; simp only [DRel] at h; subst h; exact .nil
 | ptr=>intro x us h; exact h.elim
 | func=>intro x us h; exact h.elim
 | other=>intro x us h; exact h.elim
theorem castRow_spec {t t':Ty} {xs:List t.den} {ys:List t'.den} (h:castRow t t' xs=some ys):∃ e:t=t',ys=e ▸ xs:=by
 unfold castRow at h
 split at h
 ·rename_i e _
  cases h
  exact ⟨e,rfl⟩
 ·cases h
theorem ofCells_ok {N:Nat→Prop}:∀ {t:Ty} {cs:List Cell} {vs:List Value} {x:t.den} {r:List Cell},Cells (CellR σ w N) cs vs→t.ofCells cs=some (x,r) →
  ∃ us ws,vs=us++ws∧DRel w N t x us∧Cells (CellR σ w N) r ws:=by
 intro t
 induction t with
 | bool=>
  intro cs vs x r hc h
  cases hc with
  | nil=>simp [Ty.ofCells] at h
  | cons h1 h2=>
   rename_i c v cs' vs'
   cases c <;> simp only [Ty.ofCells] at h <;> first | cases h | skip
   ·cases h1; exact ⟨[_],_,rfl,rfl,h2⟩
   ·cases h1; exact ⟨[_],_,rfl,rfl,h2⟩
 | int k=>
  intro cs vs x r hc h
  cases hc with
  | nil=>simp [Ty.ofCells] at h
  | cons h1 h2=>
   rename_i c v cs' vs'
   cases c <;> simp only [Ty.ofCells] at h <;> first | cases h | skip
   split at h
   ·rename_i hk; subst hk; cases h; cases h1; exact ⟨[_],_,rfl,rfl,h2⟩
   ·cases h
 | str=>
  intro cs vs x r hc h
  cases hc with
  | nil=>simp [Ty.ofCells] at h
  | cons h1 h2=>
   rename_i c v cs' vs'
   cases c <;> simp only [Ty.ofCells] at h <;> first | cases h | skip
   cases h1; exact ⟨[_],_,rfl,rfl,h2⟩
 | slice t _=>
  intro cs vs x r hc h
  cases hc with
  | nil=>simp [Ty.ofCells] at h
  | cons h1 h2=>
   rename_i c v cs' vs'
   cases c <;> simp only [Ty.ofCells] at h <;> first | cases h | skip
   ·cases h1; exact ⟨[_],_,rfl,⟨none,0,0,rfl,rfl,Nat.le_refl _,.inl rfl⟩,h2⟩
   ·split at h
    ·rename_i ys hy
     cases h
     obtain ⟨e,hy⟩:=castRow_spec hy
     subst e
     subst hy
     exact ⟨[_],_,rfl,h1,h2⟩
    ·cases h
 | pair a b iha ihb=>
  intro cs vs x r hc h
  simp only [Ty.ofCells] at h
  split at h
  ·rename_i x1 r1 e1
   split at h
   ·rename_i x2 r2 e2
    cases h
    obtain ⟨u1,w1,rfl,d1,c1⟩:=iha hc e1
    obtain ⟨u2,w2,rfl,d2,c2⟩:=ihb c1 e2
    exact ⟨u1++u2,w2,by simp,⟨u1,u2,rfl,d1,d2⟩,c2⟩
   ·cases h
  ·cases h
 | unit=>intro cs vs x r hc h; simp only [Ty.ofCells] at h; cases h; exact ⟨[],vs,rfl,rfl,hc⟩
 | ptr=>intro cs vs x r hc h; simp [Ty.ofCells] at h
 | func=>intro cs vs x r hc h; simp [Ty.ofCells] at h
 | other=>intro cs vs x r hc h; simp [Ty.ofCells] at h
theorem at_elem {N:Nat→Prop} {t:Ty} {b o:Nat} {xs:List t.den} {us:List Value} (hat:At w b o us) (hr:RowR (DRel w N t) xs us) {i:Int} (h0:0≤i) (hi:i < xs.length) :
  ∃ B,DRel w N t (rd t xs i) B∧At w b (o + i.toNat * t.size) B:=by
 obtain ⟨A,B,C,rfl,h2,h3,_⟩:=hr.at i.toNat (by omega)
 refine ⟨B,?_,?_⟩
 ·unfold rd
  rw [List.getD_eq_getElem?_getD,List.getElem?_eq_getElem (by omega)]
  exact h3
 ·rw [List.append_assoc] at hat
  rw [← h2]
  exact (At.append.mp (At.append.mp hat).2).1
theorem cond_ev {b:Bool} {p:Pl} (he:ev (cond b p .no) s=some e):b=true∧ev p s=some e:=by
 cases b with
 | false=>cases he
 | true=>exact ⟨rfl,he⟩
theorem snd_load {t:TypeId} {x:Operand} (hc:tisOk P c.ti=true) (h:Rel X σ s a w) (hG:GL a gl) (ho:o.op = .load t x) (he:ev (plan c gl o) s=some e) (hk:okPut s e.ts e.gs=true):Snd P o X σ s a w e:=by
 simp only [plan,ho] at he
 obtain ⟨hT,he⟩:=withT_ev hc he
 obtain ⟨v,hv,he⟩:=opd_ev h hG he
 split at he
 ·rename_i p
  have hp:=avr_c hv
  have main:∀ {cs:List Cell} {vs:List Value} {b off k:Nat},Cells (CellR σ w (Nof X σ s)) cs vs→At w b off vs→a.eval x = .pointer (some ⟨b,off + k,none⟩) →
    ev (match (c.T t).agg with
     | true=>cond (Nat.ble (k + (c.T t).ty.size) cs.length) (put o.dst (.agg ((cs.drop k).take (c.T t).ty.size))) .no
     | false=>match cs.drop k with | x::_=>put o.dst (.c x) | []=>.no) s=some e→Snd P o X σ s a w e:=by
   intro cs vs b off k hcs hat hx he
   obtain ⟨l1,l2⟩:=loadOut (P:=P) hT hcs hat ho hx
   cases hg:(c.T t).agg with
   | true=>
    rw [hg] at he
    obtain ⟨hb,he⟩:=cond_ev he
    obtain ⟨us,h1,h2⟩:=l2 hg (Nat.le_of_ble_eq_true hb)
    exact snd_put h he hk (.agg h1) h2
   | false=>
    rw [hg] at he
    dsimp only at he
    split at he
    ·rename_i q r hd
     obtain ⟨u,h1,h2⟩:=l1 _ hg hd _ _ rfl
     exact snd_put h he hk (.c h1) h2
    ·cases he
  cases p with
  | ptr id off=>
   simp only [loadPl,ev] at he
   have hs:=h.heap id
   split at he
   ·rename_i cs hl
    rw [hl] at hs
    obtain ⟨b,vs,h1,_,h3,h4⟩:=hs
    simp only [CellR,h1] at hp
    exact main h4 h3 (by rw [hp,Nat.zero_add]) he
   ·cases he
  | elt id i off=>
   simp only [loadPl,ev] at he
   have hs:=h.heap id
   split at he
   ·rename_i t' xs hl
    rw [hl] at hs
    rcases hs with ⟨h0,_⟩ | ⟨b,o',size,us,h1,_,_,h4,h5⟩
    ·simp [CellR,h0] at hp
    ·simp only [CellR,h1] at hp
     obtain ⟨B,hB,hat⟩:=at_elem h4 h5 hp.1 hp.2.1
     exact main (cells_ok hB) hat hp.2.2 he
   ·rename_i t' xs hl
    rw [hl] at hs
    rcases hs with ⟨h0,_⟩ | ⟨b,o',size,us,h1,_,_,h4,h5⟩
    ·simp [CellR,h0] at hp
    ·rcases h1 with h1 | ⟨_,h1⟩
     ·simp only [CellR,h1] at hp
      obtain ⟨B,hB,hat⟩:=at_elem h4 h5 hp.1 hp.2.1
      exact main (cells_ok hB) hat hp.2.2 he
     ·simp only [CellR,h1] at hp
      obtain ⟨B,hB,hat⟩:=at_elem h4 h5 hp.1 hp.2.1
      exact main (cells_ok hB) hat hp.2.2 he
   ·rename_i t' xs hole hl
    rw [hl] at hs
    rcases hs with ⟨h0,_⟩ | ⟨b,o',size,us,own,h1,h2,h3,h4,h5,h6,h7⟩
    ·simp [CellR,h0] at hp
    simp only [CellR,h1] at hp
    obtain ⟨i0,i1,hpv⟩:=hp
    obtain ⟨A,B,C,rfl,k1,k2,_⟩:=h5.at i.toNat (by omega)
    have hat:At w b (o' + i.toNat * t'.size) B:=by
     rw [List.append_assoc] at h4
     rw [← k1]
     exact (At.append.mp (At.append.mp h4).2).1
    obtain ⟨l1,l2⟩:=loadOut (P:=P) hT (k2.cells (σ:=σ) (N:=Nof X σ s)) hat ho hpv
    unfold nestLoad at he
    rw [rd_at i0 i1] at he
    cases hg:(c.T t).agg with
    | true=>
     rw [hg] at he
     obtain ⟨hb,he⟩:=cond_ev he
     simp only [Bool.and_eq_true,Bool.not_eq_true'] at hb
     obtain ⟨us,g1,g2⟩:=l2 hg (Nat.le_of_ble_eq_true hb.1)
     exact snd_put h he hk (.agg (g1.noFrz hb.2)) g2
    | false=>
     rw [hg] at he
     dsimp only at he
     split at he
     ·rename_i el ys hlf
      split at he
      ·obtain ⟨d',hd,hsid,rfl⟩:=new_ev he
       obtain ⟨σ',b',o2,size',own',v,m1,m2,m3,m4,m5,m6⟩:=h.takeOut hl hsid i0 i1 (by rw [rd_at i0 i1]; exact hlf)
       rw [h1] at m1
       cases m1
       refine snd_slots hd rfl hk m3 (.c m4) (go1_world rfl m5) m6 (run_exec_load ho hpv ?_)
       simp only [Instr.loadAt,Instr.sureAddr,loadVar,Sem.run_bind,Sem.run_pure,Result.andThen_ok,run_isAgg hT,hg]
       simp only [Bool.false_eq_true,if_false]
       exact run_load_one m2
      ·cases he
     ·split at he
      ·rename_i q r hd
       cases hq:isFrz q with
       | true=>rw [hq] at he; cases he
       | false=>
        rw [hq] at he
        obtain ⟨u,g1,g2⟩:=l1 _ hg hd _ _ rfl
        exact snd_put h he hk (.c (g1.resolve_left (by rw [hq]; decide))) g2
      ·cases he
   ·cases he
  | felt t' x' off=>
   obtain ⟨b,o',us,hx,_,_,hat,hd⟩:=hp
   exact main (cells_ok hd) hat hx he
  | _=>cases he
 ·cases he
end
end Go.Eng
namespace Go.Eng
open Go
section
variable {P:Program} {X:Nat→Prop} {σ:Sig} {s:St} {a:Act} {w:World} {o:Oper} {e:Eff} {gl:List (Nat×Bool)} {c:Ctx}
theorem live_ev {p:Cell} {k:Pl} {v:Value} (h:Rel X σ s a w) (hp:CellR σ w (Nof X σ s) p v) (he:ev (live p k) s=some e) :
  ev k s=some e∧∃ b off,v = .pointer (some ⟨b,off,none⟩)∧∀ n,CellR σ w (Nof X σ s) (shift n p) (.pointer (some ⟨b,off + n,none⟩)):=by
 cases p with
 | ptr id off=>
  simp only [live,ev] at he
  split at he
  ·rename_i cs hl
   have hs:=h.heap id
   rw [hl] at hs
   obtain ⟨b,vs,h1,_⟩:=hs
   simp only [CellR,h1] at hp
   exact ⟨he,b,off,hp,fun n=>by simp only [shift,CellR,h1]⟩
  ·cases he
 | elt id i off=>
  simp only [live,ev] at he
  have hs:=h.heap id
  split at he
  ·rename_i t xs hl
   rw [hl] at hs
   rcases hs with ⟨h0,_⟩ | ⟨b,o',size,us,h1,_⟩
   ·simp [CellR,h0] at hp
   ·simp only [CellR,h1] at hp
    exact ⟨he,b,_,hp.2.2,fun n=>by simp only [shift,CellR,h1]; exact ⟨hp.1,hp.2.1,by rw [Nat.add_assoc]⟩⟩
  ·rename_i t xs hl
   rw [hl] at hs
   rcases hs with ⟨h0,_⟩ | ⟨b,o',size,us,h1 | ⟨_,h1⟩,_⟩
   ·simp [CellR,h0] at hp
   all_goals
    simp only [CellR,h1] at hp
    exact ⟨he,b,_,hp.2.2,fun n=>by simp only [shift,CellR,h1]; exact ⟨hp.1,hp.2.1,by rw [Nat.add_assoc]⟩⟩
  ·rename_i t xs hole hl
   rw [hl] at hs
   rcases hs with ⟨h0,_⟩ | ⟨b,o',size,us,own,h1,_⟩
   ·simp [CellR,h0] at hp
   simp only [CellR,h1] at hp
   exact ⟨he,b,_,hp.2.2,fun n=>by simp only [shift,CellR,h1]; exact ⟨hp.1,hp.2.1,by rw [Nat.add_assoc]⟩⟩
  ·cases he
 | felt t x off=>
  obtain ⟨b,o',us,hv,h1,h2,h3,h4⟩:=hp
  exact ⟨he,b,_,hv,fun n=>⟨b,o',us,by rw [Nat.add_assoc],h1,h2,h3,h4⟩⟩
 | _=>cases he
theorem shift0 (p:Cell):shift 0 p=p:=by cases p <;> rfl
theorem snd_nilCheck {x:Operand} (h:Rel X σ s a w) (hG:GL a gl) (ho:o.op = .nilCheck x) (he:ev (plan c gl o) s=some e) (hk:okPut s e.ts e.gs=true):Snd P o X σ s a w e:=by
 simp only [plan,ho] at he
 obtain ⟨v,hv,he⟩:=opd_ev h hG he
 split at he
 ·have hp:=avr_c hv
  obtain ⟨he,b,off,hx,_⟩:=live_ev h hp he
  exact snd_put h he hk hv (by simp [execOp,ho,hx])
 ·cases he
theorem run_fieldPlace {f:Field} {i:TypeInfo} (b off:Nat) (hi:P.info? f.type=some i) (hn:i.size≠0):(fieldPlace ⟨b,off,none⟩ f).run P w = .ok ⟨b,off + f.offset,none⟩ w:=by
 simp [fieldPlace,sizeOf,typeInfo,hi,hn,addr_add]
theorem fieldsOk_at:∀ {fs:List Field} {os:List (Nat×Nat)},fieldsOk P fs os=true→∀ {i:Nat} {off z:Nat},os[i]? = some (off,z) →
  ∃ f t,fs[i]? = some f∧f.offset=off∧P.info? f.type=some t∧t.size=z∧t.size≠0
 | [],[],_,i,off,z,h=>by simp at h
 | [],_::_,h,_,_,_,_=>by simp [fieldsOk] at h
 | _::_,[],h,_,_,_,_=>by simp [fieldsOk] at h
 | f::r,(o,z')::q,h,i,off,z,hi=>by
  simp only [fieldsOk,Bool.and_eq_true] at h
  obtain ⟨⟨h1,h2⟩,h3⟩:=h
  cases i with
  | succ i=>exact fieldsOk_at h3 (by simpa using hi)
  | zero=>
   simp only [List.getElem?_cons_zero,Option.some.injEq,Prod.mk.injEq] at hi
   obtain ⟨rfl,rfl⟩:=hi
   cases ht:P.info? f.type with
   | none=>rw [ht] at h2; cases h2
   | some t=>
    rw [ht] at h2
    simp only [Bool.and_eq_true,Bool.not_eq_true'] at h2
    exact ⟨f,t,rfl,Nat.eq_of_beq_eq_true h1,ht,Nat.eq_of_beq_eq_true h2.1,ne_beq h2.2⟩
theorem ty_struct {t:Nat} {ti:TI} {i off z:Nat} (h:TyOk P t ti) (hi:ti.offs[i]? = some (off,z)) (hd:∃ fs,P.underlying t=some (.struct fs)) :
  ∃ fs f tt,P.underlying t=some (.struct fs)∧fs[i]? = some f∧f.offset=off∧P.info? f.type=some tt∧tt.size=z∧tt.size≠0:=by
 obtain ⟨_,_,d,_,_,_,_,hd',hok⟩:=h.ex
 obtain ⟨fs,hfs⟩:=hd
 rw [hfs] at hd'
 cases hd'
 simp only [descOk,descOk',Bool.and_eq_true] at hok
 obtain ⟨f,tt,h1,h2,h3,h4,h5⟩:=fieldsOk_at hok.1.2.2 hi
 exact ⟨fs,f,tt,hfs,by simpa using h1,h2,h3,h4,h5⟩
theorem snd_fieldAddr {t:TypeId} {x:Operand} {i:Nat} (hc:tisOk P c.ti=true) (h:Rel X σ s a w) (hG:GL a gl) (ho:o.op = .fieldAddr t x i) (he:ev (plan c gl o) s=some e) (hk:okPut s e.ts e.gs=true):Snd P o X σ s a w e:=by
 simp only [plan,ho] at he
 obtain ⟨hT,he⟩:=withT_ev hc he
 split at he
 ·rename_i off z hoff
  obtain ⟨v,hv,he⟩:=opd_ev h hG he
  split at he
  ·have hp:=avr_c hv
   obtain ⟨he,b,off',hx,hsh⟩:=live_ev h hp he
   have hst:∃ fs,P.underlying t=some (.struct fs):=by
    obtain ⟨_,_,d,_,_,_,_,hd',hok⟩:=hT.ex
    cases d with
    | struct fs=>exact ⟨fs,hd'⟩
    | _=>
     simp only [descOk,isStruct,Bool.false_or,Bool.and_eq_true,List.isEmpty_iff] at hok
     rw [hok.2] at hoff
     simp at hoff
   obtain ⟨fs,f,tt,h1,h2,h3,h4,h5,h6⟩:=ty_struct hT hoff hst
   refine snd_put h he hk (.c (hsh off)) ?_
   simp only [execOp,ho,hx,Instr.fieldAt,Sem.run_bind,run_underlying h1,Result.andThen_ok,h2,Instr.sureAddr,Sem.run_pure,run_fieldPlace b off' h4 h6,h3]
  ·cases he
 ·cases he
theorem run_eqGuard_c {op:BinOp} {t:TypeId} {x y:Operand} {u v:Value} (h:(∀ cs,u ≠ .agg cs)∧u ≠ .nilIface):(eqGuard op t x y u v).run P w = .ok () w:=by
 have key:(match u,v with
  | .nilIface,.nilIface=>(do
   if (x matches .const _) || (y matches .const _) then return
   if ← Op.eqGuardIn Op.maxDepth t u v then unsupported (.noEntry "binop/eql: two nil values of an interface type with methods, neither of them the literal nil"):Sem Unit)
  | .agg _,.agg _=>(do
   if !(← program).eqGuardType (← program).depth t then return
   if ← Op.eqGuardIn Op.maxDepth t u v then unsupported (.noEntry "binop/eql: two nil values of an interface type with methods, in a part of a struct or an array"):Sem Unit)
  | _,_=>(pure ():Sem Unit))=pure ():=by
  cases u <;> first | exact absurd rfl (h.1 _) | exact absurd rfl h.2 | (cases v <;> rfl)
 unfold eqGuard
 cases op <;> first | rfl | (simp only [Bool.not_true,Bool.false_eq_true,if_false]; exact congrArg (fun z=>Sem.run P z w) key) | (cases u <;> first | exact absurd rfl (h.1 _) | exact absurd rfl h.2 | (cases v <;> rfl))
theorem run_exec_binop {op:BinOp} {t t':TypeId} {x y:Operand} {r:Value} (ho:o.op = .binOp op t x y t') (h:(∀ cs,a.eval x ≠ .agg cs)∧a.eval x ≠ .nilIface)
  (hr:(binOp op t (a.eval x) (a.eval y)).run P w = .ok r w):(execOp a.eval o).run P w = .ok (.value r) w:=by
 simp only [execOp,ho,Sem.run_bind,run_eqGuard_c h,Result.andThen_ok,hr,Sem.run_pure]
theorem int_beq (x y:Int):(x == y)=decide (x=y):=by
 by_cases h:x=y
 ·subst h; simp
 ·simp [h]
theorem snd_arith {op:BinOp} {k:IntKind} {p q:Int} (h:Rel X σ s a w) (he:ev (arith op k p q fun r=>put o.dst (.c r)) s=some e) (hk:okPut s e.ts e.gs=true)
  {t t':TypeId} {x y:Operand} (ho:o.op = .binOp op t x y t') (hx:a.eval x = .int k p) (hy:a.eval y = .int k q):Snd P o X σ s a w e:=by
 have hn:(∀ cs,a.eval x ≠ .agg cs)∧a.eval x ≠ .nilIface:=by rw [hx]; exact ⟨fun _ e=>(by cases e),fun e=>(by cases e)⟩
 have fin:∀ {r:Value} {cl:Cell},ev (put o.dst (.c cl)) s=some e→CellR σ w (Nof X σ s) cl r→(binOp op t (.int k p) (.int k q)).run P w = .ok r w→Snd P o X σ s a w e:=
  fun he hcl hr=>snd_put h he hk (.c hcl) (run_exec_binop ho hn (by rw [hx,hy]; exact hr))
 cases op <;> simp only [arith] at he
 case add=>exact fin he rfl (by simp [binOp,Op.intArith,wrap])
 case sub=>exact fin he rfl (by simp [binOp,Op.intArith,wrap])
 case mul=>exact fin he rfl (by simp [binOp,Op.intArith,wrap])
 case quo=>
  obtain ⟨hb,he⟩:=need_ev he
  simp only [Bool.not_eq_true',decide_eq_false_iff_not] at hb
  exact fin he rfl (by simp [binOp,Op.intDiv,wrap,hb])
 case rem=>
  obtain ⟨hb,he⟩:=need_ev he
  simp only [Bool.not_eq_true',decide_eq_false_iff_not] at hb
  exact fin he rfl (by simp [binOp,Op.intDiv,hb])
 case and=>exact fin he rfl (by simp [binOp,Op.intBits,bAnd])
 case or=>exact fin he rfl (by simp [binOp,Op.intBits,bOr])
 case xor=>exact fin he rfl (by simp [binOp,Op.intBits,bXor])
 case andNot=>exact fin he rfl (by simp [binOp,Op.intBits,bAnn])
 case eql=>exact fin he rfl (by simp [binOp,Op.intCmp,int_beq])
 case neq=>exact fin he rfl (by simp [binOp,Op.intCmp,bne,int_beq])
 case lss=>exact fin he rfl (by simp [binOp,Op.intCmp])
 case leq=>exact fin he rfl (by simp [binOp,Op.intCmp])
 case gtr=>exact fin he rfl (by simp [binOp,Op.intCmp])
 case geq=>exact fin he rfl (by simp [binOp,Op.intCmp])
 all_goals cases he
theorem desc_of {t:Nat} {ti:TI} (h:TyOk P t ti):(∀ k,ti.ty = .int k→P.underlying t=some (.int k))∧(ti.ty = .bool→P.underlying t=some .bool)∧(ti.ty = .str→P.underlying t=some .string) ∧
  (∀ e,ti.ty = .slice e→∃ et j z,P.underlying t=some (.slice et)∧P.info? et=some j∧j.size=e.size∧j.bytes≤ti.bytes∧j.zero=some z∧isZero e z.cells.toList=some []):=by
 obtain ⟨i,z,d,hi,hs,hz,hzz,hd,hok⟩:=h.ex
 unfold descOk at hok
 simp only [Bool.and_eq_true] at hok
 have hok:=hok.1
 refine ⟨fun k hk=>?_,fun hk=>?_,fun hk=>?_,fun e hk=>?_⟩ <;> cases d <;> simp [descOk',hk,structTy] at hok
 ·rw [hd,hok.2]
 ·exact hd
 ·exact hd
 ·rename_i et _
  obtain ⟨_,hok⟩:=hok
  cases hj:P.info? et with
  | none=>rw [hj] at hok; simp at hok
  | some j=>
   rw [hj] at hok
   simp only [Bool.and_eq_true] at hok
   obtain ⟨⟨h1,h2⟩,h3⟩:=hok
   cases hz:j.zero with
   | none=>rw [hz] at h3; cases h3
   | some z'=>
    rw [hz] at h3
    refine ⟨et,j,z',hd,hj,Nat.eq_of_beq_eq_true h1,Nat.le_of_ble_eq_true h2,hz,?_⟩
    dsimp only at h3
    split at h3
    ·assumption
    ·cases h3
inductive EqV:List Ty→List Value→List Value→Bool→Prop where
 | nil:EqV [] [] [] true
 | int {k:IntKind} {k1:IntKind} {p q:Int} {ks:List Ty} {xs ys:List Value} {r:Bool}:EqV ks xs ys r→EqV (.int k::ks) (.int k1 p::xs) (.int k1 q::ys) (decide (p=q) && r)
 | bool {p q:Bool} {ks:List Ty} {xs ys:List Value} {r:Bool}:EqV ks xs ys r→EqV (.bool::ks) (.bool p::xs) (.bool q::ys) ((p == q) && r)
 | str {p q:ByteArray} {ks:List Ty} {xs ys:List Value} {r:Bool}:EqV ks xs ys r→EqV (.str::ks) (.string p::xs) (.string q::ys) (decide (p=q) && r)
theorem EqV.split {ks':List Ty}:∀ {ks:List Ty} {xs ys:List Value} {r:Bool},EqV (ks++ks') xs ys r→∃ r1 r2,r=(r1 && r2)∧EqV ks (xs.take ks.length) (ys.take ks.length) r1∧EqV ks' (xs.drop ks.length) (ys.drop ks.length) r2:=by
 intro ks
 induction ks with
 | nil=>intro xs ys r h; exact ⟨true,r,by simp,by simpa using EqV.nil,by simpa using h⟩
 | cons k ks ih=>
  intro xs ys r h
  rw [List.cons_append] at h
  cases h with
  | int h=>obtain ⟨r1,r2,rfl,h1,h2⟩:=ih h; exact ⟨_,r2,by rw [Bool.and_assoc],by simpa using EqV.int h1,by simpa using h2⟩
  | bool h=>obtain ⟨r1,r2,rfl,h1,h2⟩:=ih h; exact ⟨_,r2,by rw [Bool.and_assoc],by simpa using EqV.bool h1,by simpa using h2⟩
  | str h=>obtain ⟨r1,r2,rfl,h1,h2⟩:=ih h; exact ⟨_,r2,by rw [Bool.and_assoc],by simpa using EqV.str h1,by simpa using h2⟩
theorem EqV.length {ks:List Ty} {xs ys:List Value} {r:Bool} (h:EqV ks xs ys r):xs.length=ks.length∧ys.length=ks.length:=by
 induction h with
 | nil=>exact ⟨rfl,rfl⟩
 | int _ ih=>simp [ih]
 | bool _ ih=>simp [ih]
 | str _ ih=>simp [ih]
theorem eqCells_ok {N:Nat→Prop}:∀ {ks:List Ty} {cs ds:List Cell} {r:Bool} {xs ys:List Value},Cells (CellR σ w N) cs xs→Cells (CellR σ w N) ds ys→eqCells ks cs ds=some r→EqV ks xs ys r:=by
 intro ks
 induction ks with
 | nil=>
  intro cs ds r xs ys hc hd h
  cases cs <;> cases ds <;> simp [eqCells] at h
  subst h
  cases hc
  cases hd
  exact .nil
 | cons k ks ih=>
  intro cs ds r xs ys hc hd h
  unfold eqCells at h
  split at h
  ·rename_i e1; cases e1
  ·rename_i e1
   cases hc with
   | cons h1 h2=>
    cases hd with
    | cons h3 h4=>
     split at h
     ·rename_i z hk hz
      have hk:=of_decide_eq_true hk
      subst hk
      cases h
      cases e1
      cases h1
      cases h3
      exact .int (ih h2 h4 hz)
     ·cases h
  ·rename_i e1
   cases hc with
   | cons h1 h2=>
    cases hd with
    | cons h3 h4=>
     split at h
     ·rename_i p q z hp hq hz
      cases h
      cases e1
      rw [asB_ok h1 hp,asB_ok h3 hq]
      exact .bool (ih h2 h4 hz)
     ·cases h
  ·rename_i e1
   cases hc with
   | cons h1 h2=>
    cases hd with
    | cons h3 h4=>
     split at h
     ·rename_i z hz
      cases h
      cases e1
      cases h1
      cases h3
      exact .str (ih h2 h4 hz)
     ·cases h
  ·cases h
theorem bytes_beq (s1 s2:ByteArray):(s1.toList == s2.toList)=decide (s1=s2):=by
 by_cases hh:s1=s2
 ·subst hh; simp
 ·have:s1.toList≠s2.toList:=fun e=>hh (by
   rw [ByteArray.toList_eq,ByteArray.toList_eq] at e
   cases s1
   cases s2
   congr 1
   exact Array.toList_inj.mp e)
  simp [this,hh]
inductive ValOf (P:Program) (t:TypeId):List Value→Value→Prop where
 | agg {fs:Array Field} {xs:List Value}:P.underlying t=some (.struct fs)→ValOf P t xs (.agg xs.toArray)
 | one {d:TypeDesc} {v:Value}:P.underlying t=some d→(∀ fs,d ≠ .struct fs)→(∀ n e,d ≠ .array n e)→ValOf P t [v] v
theorem run_part {t:TypeId} {i:TypeInfo} {xs:Array Value} {off n:Nat} (hi:P.info? t=some i) (hn:i.size=n) {us:List Value} (hu:us=(xs.toList.drop off).take n) (hl:us.length=n) {v:Value} (hv:ValOf P t us v) :
  (part t xs off).run P w = .ok v w:=by
 cases hv with
 | agg hf=>
  simp only [part,isAgg,Sem.run_bind,run_underlying hf,Result.andThen_ok,Sem.run_pure,if_true,sizeOf,typeInfo,run_program,hi,hn]
  congr 1
  congr 1
  apply Array.toList_inj.mp
  rw [hu]
  simp
 | one hd h1 h2=>
  have hx:xs[off]? = some v:=by
   have:=congrArg (fun l=>l[0]?) hu
   simp only [List.getElem?_cons_zero,List.length_singleton] at this hl
   subst hl
   simpa using this.symm
  have hagg:(isAgg t).run P w = .ok false w:=by
   simp only [isAgg,Sem.run_bind,run_underlying hd,Result.andThen_ok]
   rename_i d
   cases d <;> first | rfl | exact absurd rfl (h1 _) | exact absurd rfl (h2 _ _)
  simp only [part,Sem.run_bind,hagg,Result.andThen_ok,Bool.false_eq_true,if_false,hx]
  rfl
theorem aggsOk_at {P:Program}:∀ {fs:List Field} {bs:List (Option Bool)} {i:Nat} {f:Field} {b:Bool},aggsOk P fs bs=true→fs[i]? = some f→bs[i]? = some (some b) →
  ∃ d,P.underlying f.type=some d∧match b with | true=>∃ gs,d = .struct gs | false=>(∀ gs,d ≠ .struct gs)∧∀ n e,d ≠ .array n e
 | [],_,_,_,_,_,h,_=>by simp at h
 | _::_,[],_,_,_,h,_,_=>by simp [aggsOk] at h
 | g::fs,c::bs,0,f,b,h,hf,hb=>by
  simp only [List.getElem?_cons_zero,Option.some.injEq] at hf hb
  subst hf hb
  simp only [aggsOk,Bool.and_eq_true] at h
  have h:=h.1
  cases hd:P.underlying g.type with
  | none=>rw [hd] at h; cases h
  | some d=>
   rw [hd] at h
   refine ⟨d,rfl,?_⟩
   cases d with
   | struct gs=>
    have:=of_decide_eq_true h
    cases this
    exact ⟨gs,rfl⟩
   | array n e=>
    have:=of_decide_eq_true h
    cases this
   | _=>
    have:=of_decide_eq_true h
    cases this
    exact ⟨fun _ h=>(by cases h),fun _ _ h=>(by cases h)⟩
 | g::fs,c::bs,i + 1,f,b,h,hf,hb=>by
  simp only [aggsOk,Bool.and_eq_true] at h
  exact aggsOk_at h.2 (by simpa using hf) (by simpa using hb)
theorem snd_field {t:TypeId} {x:Operand} {i:Nat} (hc:tisOk P c.ti=true) (h:Rel X σ s a w) (hG:GL a gl) (ho:o.op = .field t x i) (he:ev (plan c gl o) s=some e) (hk:okPut s e.ts e.gs=true):Snd P o X σ s a w e:=by
 simp only [plan,ho] at he
 obtain ⟨hT,he⟩:=withT_ev hc he
 split at he
 ·rename_i off z b hoff hag
  obtain ⟨v,hv,he⟩:=opd_ev h hG he
  split at he
  ·rename_i cs
   have hlen:=Nat.eq_of_beq_eq_true (cond_ev he).1
   replace he:=(cond_ev he).2
   generalize hx:a.eval x=val at hv
   cases hv with
   | agg hcells=>
    rename_i vs
    have hst:∃ fs,P.underlying t=some (.struct fs):=by
     obtain ⟨_,_,d,_,_,_,_,hd',hok⟩:=hT.ex
     cases d with
     | struct fs=>exact ⟨fs,hd'⟩
     | _=>
      simp only [descOk,isStruct,Bool.false_or,Bool.and_eq_true,List.isEmpty_iff] at hok
      rw [hok.2] at hoff
      simp at hoff
    obtain ⟨fs,f,tt,h1,h2,h3,h4,h5,h6⟩:=ty_struct hT hoff hst
    have hago:=hT.ag
    unfold agOk at hago
    rw [h1] at hago
    obtain ⟨d,hd,hb⟩:=aggsOk_at hago (by simpa using h2) hag
    have hcut:=(hcells.drop off).take z
    have hl:((vs.drop off).take z).length=z:=by rw [← hcut.length]; exact hlen
    have run:∀ u,ValOf P f.type ((vs.drop off).take z) u→(execOp a.eval o).run P w = .ok (.value u) w:=by
     intro u hu
     have hp:=run_part (P:=P) (w:=w) h4 h5 (xs:=vs.toArray) (off:=off) (us:=(vs.drop off).take z) (by simp) hl hu
     simp only [execOp,ho,hx,Instr.field,Sem.run_bind,run_underlying h1,Result.andThen_ok,h2,asAgg,Sem.run_pure,h3,hp]
    cases b with
    | true=>
     obtain ⟨gs,rfl⟩:=hb
     exact snd_put h he hk (.agg hcut) (run _ (.agg hd))
    | false=>
     dsimp only at he
     split at he
     ·rename_i u hu
      rw [hu] at hcut
      generalize hq:(vs.drop off).take z=q at hcut run
      cases hcut with
      | cons hc1 hc2=>
       cases hc2
       exact snd_put h he hk (.c hc1) (run _ (.one hd hb.1 hb.2))
     ·cases he
  ·cases he
 ·cases he
theorem valOf_ex {n:Nat} {t:TypeId} {ks:List Ty} (h:eqLeaves P n t=some ks) {xs ys:List Value} {r:Bool} (he:EqV ks xs ys r):(∃ u,ValOf P t xs u)∧∃ u,ValOf P t ys u:=by
 cases n with
 | zero=>cases h
 | succ n=>
  simp only [eqLeaves] at h
  split at h
  ·rename_i hd
   cases h
   cases he with
   | int he=>cases he; exact ⟨⟨_,.one hd (fun _ h=>by cases h) (fun _ _ h=>by cases h)⟩,⟨_,.one hd (fun _ h=>by cases h) (fun _ _ h=>by cases h)⟩⟩
  ·rename_i hd
   cases h
   cases he with
   | bool he=>cases he; exact ⟨⟨_,.one hd (fun _ h=>by cases h) (fun _ _ h=>by cases h)⟩,⟨_,.one hd (fun _ h=>by cases h) (fun _ _ h=>by cases h)⟩⟩
  ·rename_i hd
   cases h
   cases he with
   | str he=>cases he; exact ⟨⟨_,.one hd (fun _ h=>by cases h) (fun _ _ h=>by cases h)⟩,⟨_,.one hd (fun _ h=>by cases h) (fun _ _ h=>by cases h)⟩⟩
  ·rename_i hd
   exact ⟨⟨_,.agg hd⟩,⟨_,.agg hd⟩⟩
  ·cases h
theorem eqFs_ok {n:Nat} (ih:∀ {t:TypeId} {ks:List Ty},eqLeaves P n t=some ks→∀ {xs ys:List Value} {r:Bool} {u v:Value},EqV ks xs ys r→ValOf P t xs u→ValOf P t ys v→∀ d,n≤d→(Op.equalIn d t u v).run P w = .ok r w) :
  ∀ {fs:List Field} {off:Nat} {ks:List Ty},eqFs P (eqLeaves P n) fs off=some ks→∀ {xs ys:Array Value} {r:Bool},EqV ks (xs.toList.drop off) (ys.toList.drop off) r→∀ d,n≤d→(Op.eqFields d xs ys fs).run P w = .ok r w
 | [],off,ks,h,xs,ys,r,he,d,hd=>by
  cases h
  generalize xs.toList.drop off=p at he
  generalize ys.toList.drop off=q at he
  cases he
  simp [Op.eqFields]
 | f::fs,off,ks,h,xs,ys,r,he,d,hd=>by
  simp only [eqFs] at h
  split at h
  ·rename_i ks1 i hk hi
   cases hb:(decide (f.name ≠ "_") && Nat.beq f.offset off && Nat.beq i.size ks1.length) with
   | false=>rw [hb] at h; cases h
   | true=>
    rw [hb] at h
    simp only [Bool.and_eq_true,decide_eq_true_eq] at hb
    obtain ⟨⟨hn,ho⟩,hz⟩:=hb
    have ho:=Nat.eq_of_beq_eq_true ho
    have hz:=Nat.eq_of_beq_eq_true hz
    simp only [cond_true] at h
    split at h
    ·rename_i q hq
     cases h
     obtain ⟨r1,r2,rfl,h1,h2⟩:=he.split
     rw [List.drop_drop,List.drop_drop] at h2
     obtain ⟨⟨u,hu⟩,⟨v,hv⟩⟩:=valOf_ex hk h1
     have l1:=h1.length
     have p1:=run_part (P:=P) (w:=w) hi hz (xs:=xs) (off:=off) rfl l1.1 hu
     have p2:=run_part (P:=P) (w:=w) hi hz (xs:=ys) (off:=off) rfl l1.2 hv
     have p3:=ih hk h1 hu hv d hd
     have p4:=eqFs_ok ih hq h2 d hd
     simp only [Op.eqFields]
     rw [if_pos hn,ho]
     simp only [Sem.run_bind,p1,p2,p3,Result.andThen_ok]
     cases r1 with
     | false=>rfl
     | true=>simpa using p4
    ·cases h
  ·cases h
theorem eqLeaves_ok:∀ {n:Nat} {t:TypeId} {ks:List Ty},eqLeaves P n t=some ks→∀ {xs ys:List Value} {r:Bool} {u v:Value},EqV ks xs ys r→ValOf P t xs u→ValOf P t ys v→∀ d,n≤d→(Op.equalIn d t u v).run P w = .ok r w:=by
 intro n
 induction n with
 | zero=>intro t ks h; cases h
 | succ n ih=>
  intro t ks h xs ys r u v he hu hv d hd
  obtain ⟨d,rfl⟩:∃ k,d=k + 1:=⟨d - 1,by omega⟩
  simp only [eqLeaves] at h
  split at h
  ·rename_i k hk
   cases h
   cases he with
   | int he=>
    cases he
    cases hu with
    | agg h0=>rw [hk] at h0; cases h0
    | one _ _ _=>
     cases hv with
     | agg h0=>rw [hk] at h0; cases h0
     | one _ _ _=>rw [run_equalIn_int w d t _ _ _ _ hk,int_beq]; simp
  ·rename_i hk
   cases h
   cases he with
   | bool he=>
    cases he
    cases hu with
    | agg h0=>rw [hk] at h0; cases h0
    | one _ _ _=>
     cases hv with
     | agg h0=>rw [hk] at h0; cases h0
     | one _ _ _=>rw [run_equalIn_bool' w d t _ _ hk]; simp
  ·rename_i hk
   cases h
   cases he with
   | str he=>
    cases he
    cases hu with
    | agg h0=>rw [hk] at h0; cases h0
    | one _ _ _=>
     cases hv with
     | agg h0=>rw [hk] at h0; cases h0
     | one _ _ _=>rw [run_equalIn_string w d t _ _ hk,bytes_beq]; simp
  ·rename_i fs hk
   cases hs:P.stoodInHeld t with
   | true=>rw [hs] at h; cases h
   | false=>
    rw [hs] at h
    have hf:P.fieldsOf t=fs:=by unfold Program.fieldsOf; rw [hk]
    cases hu with
    | agg _=>
     cases hv with
     | agg _=>
      rw [run_equalIn_struct w d t _ _ (by rw [hf]; exact hk) hs,hf]
      exact eqFs_ok ih h (by simpa using he) d (by omega)
     | one h0 h1 _=>rw [hk] at h0; cases h0; exact absurd rfl (h1 _)
    | one h0 h1 _=>rw [hk] at h0; cases h0; exact absurd rfl (h1 _)
  ·cases h
def nilV:Value→Bool
 | .slice (some _) _ _=>false
 | _=>true
theorem run_equal_nil {t et:TypeId} {d:Nat} {v:Value} (hd:P.underlying t=some (.slice et)) (hv:(∃ n k,v = .slice none n k)∨∃ x n k,v = .slice (some x) n k):(Op.equalIn (d + 1) t v (.slice none 0 0)).run P w = .ok (nilV v) w:=by
 rcases hv with ⟨n,k,rfl⟩ | ⟨x,n,k,rfl⟩
 ·simp [Op.equalIn,run_underlying hd,nilV]
 ·simp [Op.equalIn,run_underlying hd,nilV]
theorem run_eql_nil {t et:TypeId} {v:Value} (hd:P.underlying t=some (.slice et)) (hv:(∃ n k,v = .slice none n k)∨∃ x n k,v = .slice (some x) n k) :
  (binOp .eql t v (.slice none 0 0)).run P w = .ok (.bool (nilV v)) w:=by
 have h1:(Op.equal t v (.slice none 0 0)).run P w = .ok (nilV v) w:=run_equal_nil (d:=9999) hd hv
 rcases hv with ⟨n,k,rfl⟩ | ⟨x,n,k,rfl⟩
 ·simp only [binOp,Sem.run_bind,h1,Result.andThen_ok,Sem.run_pure]
 ·simp only [binOp,Sem.run_bind,h1,Result.andThen_ok,Sem.run_pure]
theorem snd_nilEq {op:BinOp} {t t':TypeId} {x y:Operand} {u v:AV} (hT:TyOk P t (c.T t)) (h:Rel X σ s a w) (hu:AVR (CellR σ w (Nof X σ s)) u (a.eval x)) (hv:AVR (CellR σ w (Nof X σ s)) v (a.eval y)) (ho:o.op = .binOp op t x y t')
  (hq:isNilEq op (c.T t) v=true) (he:ev (nilEq u fun r=>put o.dst (.c r)) s=some e) (hk:okPut s e.ts e.gs=true):Snd P o X σ s a w e:=by
 unfold isNilEq at hq
 split at hq
 ·rename_i e0 e1 hty
  have hy:a.eval y = .slice none 0 0:=avr_c hv
  obtain ⟨et,j,z,d1,_⟩:=(desc_of hT).2.2.2 _ hty
  have fin:∀ {r:Cell},((∃ n k,a.eval x = .slice none n k)∨∃ p n k,a.eval x = .slice (some p) n k)→CellR σ w (Nof X σ s) r (.bool (nilV (a.eval x)))→ev (put o.dst (.c r)) s=some e→Snd P o X σ s a w e:=by
   intro r hx hr he
   refine snd_put h he hk (.c hr) (run_exec_binop ho ?_ ?_)
   ·rcases hx with ⟨n,k,hx⟩ | ⟨p,n,k,hx⟩ <;> rw [hx] <;> exact ⟨fun _ e=>(by cases e),fun e=>(by cases e)⟩
   ·rw [hy]; exact run_eql_nil d1 hx
  have amb:∀ {n:Nat} {p:Option Addr} {k:Nat} {m:Nat},a.eval x = .slice p n k→(m≠0→∃ q,p=some q)→ev (put o.dst (.c (.nq (decide (m=0))))) s=some e→Snd P o X σ s a w e:=by
   intro n p k m hx hm he
   cases p with
   | none=>
    refine fin (r:=.nq (decide (m=0))) (.inl ⟨n,k,hx⟩) ⟨_,rfl,fun h0=>?_⟩ he
    have h1:¬ m=0:=of_decide_eq_false h0
    obtain ⟨q,hq⟩:=hm h1
    cases hq
   | some q=>
    refine fin (r:=.nq (decide (m=0))) (.inr ⟨q,n,k,hx⟩) ⟨_,rfl,fun _=>?_⟩ he
    rw [hx]
    rfl
  unfold nilEq at he
  split at he
  ·have hx:a.eval x = .slice none 0 0:=avr_c hu
   refine fin (.inl ⟨0,0,hx⟩) ?_ he
   rw [hx]
   rfl
  ·rename_i t0 xs
   obtain ⟨p,n,k,hx,hn,_,hr⟩:=avr_c hu
   refine amb (List.cons.inj hx).1 (fun h0=>?_) he
   rcases hr with h1 | ⟨b,off,us,h1,_⟩
   ·rw [h1] at h0; exact absurd rfl h0
   ·exact ⟨_,h1⟩
  ·rename_i id
   have hx:=avr_c hu
   simp only [ev] at he
   have hs:=h.heap id
   split at he
   ·rename_i t0 xs hl
    rw [hl] at hs
    rcases hs with ⟨h0,hx0⟩ | ⟨b,off,size,us,h1,_⟩
    ·simp only [CellR,h0] at hx
     subst hx0
     exact amb hx (fun h0=>absurd rfl h0) he
    ·simp only [CellR,h1] at hx
     obtain ⟨a0,cap,hx,_⟩:=hx
     exact amb hx (fun _=>⟨_,rfl⟩) he
   ·rename_i t0 xs hl
    rw [hl] at hs
    rcases hs with ⟨h0,hx0⟩ | ⟨b,off,size,us,h1 | ⟨_,h1⟩,_⟩
    ·simp only [CellR,h0] at hx
     subst hx0
     exact amb hx (fun h0=>absurd rfl h0) he
    all_goals
     simp only [CellR,h1] at hx
     obtain ⟨a0,cap,hx,_⟩:=hx
     exact amb hx (fun _=>⟨_,rfl⟩) he
   ·cases he
  ·cases he
 ·cases hq
theorem snd_binop {op:BinOp} {t t':TypeId} {x y:Operand} (hc:tisOk P c.ti=true) (h:Rel X σ s a w) (hG:GL a gl) (ho:o.op = .binOp op t x y t') (he:ev (plan c gl o) s=some e) (hk:okPut s e.ts e.gs=true):Snd P o X σ s a w e:=by
 simp only [plan,ho] at he
 obtain ⟨hT,he⟩:=withT_ev hc he
 obtain ⟨u,hu,he⟩:=opd_ev h hG he
 obtain ⟨v,hv,he0⟩:=opd_ev h hG he
 clear he
 cases hnq:isNilEq op (c.T t) v with
 | true=>
  rw [hnq] at he0
  exact snd_nilEq hT h hu hv ho hnq he0 hk
 | false=>
 rw [hnq] at he0
 have he:ev (binop (c.T t) op u v fun r=>put o.dst (.c r)) s=some e:=he0
 clear he0 hnq
 unfold binop at he
 split at he
 ·rename_i k p k' q
  have hx:=avr_c hu
  have hy:=avr_c hv
  have hn:(∀ cs,a.eval x ≠ .agg cs)∧a.eval x ≠ .nilIface:=by rw [show a.eval x=_ from hx]; exact ⟨fun _ e=>(by cases e),fun e=>(by cases e)⟩
  split at he
  ·obtain ⟨hb,he⟩:=need_ev he
   have hb:=of_decide_eq_true hb
   refine snd_put h he hk (.c (show CellR σ w (Nof X σ s) _ (.int k (shl k p q)) from rfl)) (run_exec_binop ho hn ?_)
   rw [show a.eval x=_ from hx,show a.eval y=_ from hy]
   simp [binOp,Op.shift,show ¬ q < 0 by omega,shl]
  ·obtain ⟨hb,he⟩:=need_ev he
   have hb:=of_decide_eq_true hb
   refine snd_put h he hk (.c (show CellR σ w (Nof X σ s) _ (.int k (shr k p q)) from rfl)) (run_exec_binop ho hn ?_)
   rw [show a.eval x=_ from hx,show a.eval y=_ from hy]
   simp [binOp,Op.shift,show ¬ q < 0 by omega,shr]
  ·obtain ⟨hb,he'⟩:=cond_ev he
   have hb:=of_decide_eq_true hb
   clear he
   subst hb
   exact snd_arith h he' hk ho hx hy
 ·rename_i p q _
  have hx:=avr_c hu
  have hy:=avr_c hv
  have eq:∀ {r:Bool},eqC (c.T t).ty p q=some r→((∀ cs,a.eval x ≠ .agg cs)∧a.eval x ≠ .nilIface)∧(binOp .eql t (a.eval x) (a.eval y)).run P w = .ok (.bool r) w∧(binOp .neq t (a.eval x) (a.eval y)).run P w = .ok (.bool (!r)) w:=by
   intro r hr
   unfold eqC at hr
   split at hr
   ·rename_i hty
    split at hr
    ·rename_i b1 b2 e1 e2
     cases hr
     rw [asB_ok hx e1,asB_ok hy e2]
     have hd:=(desc_of hT).2.1 hty
     refine ⟨⟨fun _ e=>(by cases e),fun e=>(by cases e)⟩,?_,?_⟩
     ·show Sem.run P (Op.equalIn (9999 + 1) t (.bool b1) (.bool b2) >>= fun r=>pure (Value.bool r)) w=_
      rw [Sem.run_bind,run_equalIn_bool' w 9999 t b1 b2 hd]; rfl
     ·show Sem.run P (Op.equalIn (9999 + 1) t (.bool b1) (.bool b2) >>= fun r=>pure (Value.bool (!r))) w=_
      rw [Sem.run_bind,run_equalIn_bool' w 9999 t b1 b2 hd]; rfl
    ·cases hr
   ·split at hr
    ·rename_i s1 s2 _
     cases hr
     rw [show a.eval x=_ from hx,show a.eval y=_ from hy]
     have hl:=bytes_beq s1 s2
     refine ⟨⟨fun _ e=>(by cases e),fun e=>(by cases e)⟩,?_,?_⟩
     ·simp [binOp,Op.stringOp,← hl]
     ·simp [binOp,Op.stringOp,← hl]
    ·cases hr
   ·cases hr
  split at he
  ·split at he
   ·rename_i r hr
    obtain ⟨hn,h1,h2⟩:=eq hr
    exact snd_put h he hk (.c (show CellR σ w (Nof X σ s) _ (.bool r) from rfl)) (run_exec_binop ho hn h1)
   ·cases he
  ·split at he
   ·rename_i r hr
    obtain ⟨hn,h1,h2⟩:=eq hr
    exact snd_put h he hk (.c (show CellR σ w (Nof X σ s) _ (.bool (!r)) from rfl)) (run_exec_binop ho hn h2)
   ·cases he
  ·split at he
   ·rename_i s1 s2 _
    obtain ⟨hb,he⟩:=need_ev he
    have hb:=of_decide_eq_true hb
    refine snd_put h he hk (.c (show CellR σ w (Nof X σ s) _ (.string (s1++s2)) from rfl)) (run_exec_binop ho ?_ ?_)
    ·rw [show a.eval x=_ from hx]; exact ⟨fun _ e=>(by cases e),fun e=>(by cases e)⟩
    ·rw [show a.eval x=_ from hx,show a.eval y=_ from hy]
     have:¬ (((s1.size + s2.size:Nat):Int) > IntKind.i64.max):=by
      have hm:IntKind.i64.max=9223372036854775807:=by decide
      rw [hm]; omega
     simp only [binOp,Op.stringOp,this,if_false,Sem.run_pure]
   ·cases he
  ·split at he
   ·refine snd_put h he hk (.c (show CellR σ w (Nof X σ s) _ (.bool _) from rfl)) (run_exec_binop ho ?_ ?_)
    ·rw [show a.eval x=_ from hx]; exact ⟨fun _ e=>(by cases e),fun e=>(by cases e)⟩
    ·rw [show a.eval x=_ from hx,show a.eval y=_ from hy]
     simp [binOp,Op.stringOp]
   ·cases he
  ·cases he
 ·rename_i p q
  have run:∀ {r:Bool},(c.T t).eq=true→eqCells (c.T t).ty.leaves p q=some r→∃ U V:Array Value,a.eval x = .agg U∧a.eval y = .agg V∧P.eqGuardType P.depth t=false∧(Op.equalIn 10000 t (.agg U) (.agg V)).run P w = .ok r w:=by
   intro r heq hr
   have hok:=hT.eq
   simp only [eqOk,heq,Bool.not_true,Bool.false_or,Bool.and_eq_true,Bool.not_eq_true',decide_eq_true_eq] at hok
   generalize hX:a.eval x=xv at hu
   generalize hY:a.eval y=yv at hv
   cases hu with
   | agg hu=>
    cases hv with
    | agg hv=>
     refine ⟨_,_,rfl,rfl,hok.1.2,?_⟩
     have hE:=eqCells_ok hu hv hr
     have hst:∃ fs,P.underlying t=some (.struct fs):=by
      obtain ⟨_,_,d,_,_,_,_,hd',hok'⟩:=hT.ex
      cases d with
      | struct fs=>exact ⟨fs,hd'⟩
      | _=>simp [descOk,descOk',hok.1.1] at hok'
     obtain ⟨fs,hfs⟩:=hst
     exact eqLeaves_ok hok.2 hE (.agg hfs) (.agg hfs) 10000 (by omega)
  split at he
  ·obtain ⟨h1,h2⟩:=cond_ev he
   split at h2
   ·rename_i r hr
    obtain ⟨U,V,hX,hY,hg,hrun⟩:=run h1 hr
    refine snd_put h h2 hk (.c (show CellR σ w (Nof X σ s) _ (.bool r) from rfl)) ?_
    simp only [execOp,ho,hX,hY,Sem.run_bind,run_eqGuard_agg w .eql t x y U V hg,Result.andThen_ok,run_eql_struct,hrun,Sem.run_pure]
   ·cases h2
  ·obtain ⟨h1,h2⟩:=cond_ev he
   split at h2
   ·rename_i r hr
    obtain ⟨U,V,hX,hY,hg,hrun⟩:=run h1 hr
    refine snd_put h h2 hk (.c (show CellR σ w (Nof X σ s) _ (.bool (!r)) from rfl)) ?_
    simp only [execOp,ho,hX,hY,Sem.run_bind,run_eqGuard_agg w .neq t x y U V hg,Result.andThen_ok,run_neq_struct,hrun,Sem.run_pure]
   ·cases h2
  ·cases he
 ·cases he
end
end Go.Eng
namespace Go.Eng
open Go
section
variable {P:Program} {X:Nat→Prop} {σ:Sig} {s:St} {a:Act} {w:World} {o:Oper} {e:Eff} {gl:List (Nat×Bool)} {c:Ctx}
theorem snd_unOp {op:UnOp} {t:TypeId} {x:Operand} (h:Rel X σ s a w) (hG:GL a gl) (ho:o.op = .unOp op t x) (he:ev (plan c gl o) s=some e) (hk:okPut s e.ts e.gs=true):Snd P o X σ s a w e:=by
 simp only [plan,ho] at he
 obtain ⟨u,hu,he⟩:=opd_ev h hG he
 split at he
 ·rename_i k n
  have hx:=avr_c hu
  split at he
  ·refine snd_put h he hk (.c (show CellR σ w (Nof X σ s) _ (.int k (wrap k (0 - n))) from rfl)) ?_
   simp [execOp,ho,show a.eval x=_ from hx,Op.unary,Op.intArith,wrap]
  ·refine snd_put h he hk (.c (show CellR σ w (Nof X σ s) _ (.int k (bXor k (ones k) n)) from rfl)) ?_
   have e1:(if k.signed then -1 else k.max)=ones k:=by cases k <;> rfl
   simp only [execOp,ho,show a.eval x=_ from hx,Op.unary,e1]
   simp [Op.intBits,bXor]
  ·cases he
 ·rename_i b
  have hx:=avr_c hu
  split at he
  ·refine snd_put h he hk (.c (show CellR σ w (Nof X σ s) _ (.bool (!b)) from rfl)) ?_
   simp [execOp,ho,show a.eval x=_ from hx,Op.unary]
  ·cases he
 ·rename_i b
  have hx:=avr_c hu
  split at he
  ·refine snd_put h he hk (.c (show CellR σ w (Nof X σ s) _ (.bool (!b)) from rfl)) ?_
   simp [execOp,ho,show a.eval x=_ from hx,Op.unary]
  ·cases he
 ·cases he
theorem und_of {t:Nat} {ti:TI} (h:TyOk P t ti):∃ d,P.underlying t=some d∧descOk P ti d=true:=by
 obtain ⟨i,z,d,_,_,_,_,hd,hok⟩:=h.ex
 exact ⟨d,hd,hok⟩
theorem Tup.drop {R:Cell→Value→Prop}:∀ {as:List AV0} {vs:List Value} (n:Nat),Tup R as vs→Tup R (as.drop n) (vs.drop n)
 | _,_,0,h=>h
 | _,_,_ + 1,.nil=>.nil
 | _,_,n + 1,.cons _ h=>Tup.drop n h
theorem snd_extract {x:Operand} {i:Nat} (h:Rel X σ s a w) (hG:GL a gl) (ho:o.op = .extract x i) (he:ev (plan c gl o) s=some e) (hk:okPut s e.ts e.gs=true):Snd P o X σ s a w e:=by
 simp only [plan,ho] at he
 obtain ⟨u,hu,he⟩:=opd_ev h hG he
 split at he
 ·rename_i as _
  generalize hv:a.eval x=v at hu
  cases hu with
  | tup ht=>
   rename_i vs
   have hd:=ht.drop i
   have run:∀ {q:Value},(vs.drop i)[0]? = some q→(execOp a.eval o).run P w = .ok (.value q) w:=by
    intro q hq
    have hq':vs[i]? = some q:=by simpa using hq
    simp [execOp,ho,hv,Instr.extract,hq']
   split at he
   ·rename_i hl
    rw [hl] at hd
    generalize hws:vs.drop i=ws at hd run
    cases hd with
    | cons h1 h2=>cases h1 with | c h1=>exact snd_put h he hk (.c h1) (run rfl)
   ·rename_i hl
    rw [hl] at hd
    generalize hws:vs.drop i=ws at hd run
    cases hd with
    | cons h1 h2=>cases h1 with | agg h1=>exact snd_put h he hk (.agg h1) (run rfl)
   ·cases he
 ·cases he
theorem RowR.cut {α:Type} {R:α→List Value→Prop} {n:Nat} (hn:∀ x vs,R x vs→vs.length=n) {xs:List α} {us:List Value} (r:RowR R xs us) :
  (∀ k,RowR R (xs.take k) (us.take (k * n)))∧(∀ k,RowR R (xs.drop k) (us.drop (k * n))):=by
 induction r with
 | nil=>exact ⟨fun k=>by simpa using RowR.nil,fun k=>by simpa using RowR.nil⟩
 | @cons x us xs vs h r ih=>
  have hl:=hn _ _ h
  refine ⟨fun k=>?_,fun k=>?_⟩
  ·cases k with
   | zero=>simpa using RowR.nil
   | succ k=>
    have:(us++vs).take ((k + 1) * n)=us++vs.take (k * n):=by
     rw [List.take_append,Nat.add_mul,Nat.one_mul,hl,Nat.add_sub_cancel,List.take_of_length_le (by omega)]
    rw [this]
    exact .cons h (ih.1 k)
  ·cases k with
   | zero=>simpa using RowR.cons h r
   | succ k=>
    have:(us++vs).drop ((k + 1) * n)=vs.drop (k * n):=by
     rw [List.drop_append,Nat.add_mul,Nat.one_mul,hl,Nat.add_sub_cancel,List.drop_of_length_le (by omega)]
     simp
    rw [this]
    exact ih.2 k
theorem At.take {b o:Nat} {us:List Value} (h:At w b o us) (n:Nat):At w b o (us.take n):=fun j v hv=>h j v (by
 rw [List.getElem?_take] at hv
 split at hv
 ·exact hv
 ·cases hv)
theorem At.drop {b o:Nat} {us:List Value} (h:At w b o us) (n:Nat):At w b (o + n) (us.drop n):=fun j v hv=>by
 rw [List.getElem?_drop] at hv
 rw [Nat.add_assoc]
 exact h (n + j) v hv
theorem run_indexAt {t et:TypeId} {j:TypeInfo} {k:IntKind} {i:Int} {a0:Option Addr} {n cap:Nat} {b off:Nat} (hd:P.underlying t=some (.slice et)) (hj:P.info? et=some j)
  (h0:0≤i) (hi:i < n) (ha:a0=some ⟨b,off,none⟩):(Instr.indexAt t (.slice a0 n cap) (.int k i)).run P w = .ok (.pointer (some ⟨b,off + i.toNat * j.size,none⟩)) w:=by
 subst ha
 simp [Instr.indexAt,asIntOf,run_underlying hd,h0,hi,sizeOf,typeInfo,hj,addr_add]
theorem snd_indexAddr {t:TypeId} {x ix:Operand} (hc:tisOk P c.ti=true) (h:Rel X σ s a w) (hG:GL a gl) (ho:o.op = .indexAddr t x ix) (he:ev (plan c gl o) s=some e) (hk:okPut s e.ts e.gs=true):Snd P o X σ s a w e:=by
 simp only [plan,ho] at he
 obtain ⟨hT,he⟩:=withT_ev hc he
 obtain ⟨u,hu,he⟩:=opd_ev h hG he
 split at he
 ·rename_i q
  have hx:=avr_c hu
  obtain ⟨v,hv,he⟩:=opd_ev h hG he
  split at he
  ·rename_i k i
   have hi:=avr_c hv
   have run:∀ {t':Ty} {n cap:Nat} {b off:Nat} {a0:Option Addr},(c.T t).ty = .slice t'→a.eval x = .slice a0 n cap→0≤i→i < n→a0=some ⟨b,off,none⟩ →
     (execOp a.eval o).run P w = .ok (.value (.pointer (some ⟨b,off + i.toNat * t'.size,none⟩))) w:=by
    intro t' n cap b off a0 hty hxx h0 h1 ha
    obtain ⟨et,j,z,d1,d2,d3,_⟩:=(desc_of hT).2.2.2 _ hty
    simp only [execOp,ho,hxx,show a.eval ix=_ from hi,Sem.run_bind,run_indexAt d1 d2 h0 h1 ha,Result.andThen_ok,Sem.run_pure,d3]
   cases q with
   | sl id=>
    simp only [idxPl,ev] at he
    have hs:=h.heap id
    have main:∀ {t':Ty} {xs:List t'.den},(σ id=some .nil∧xs=[])∨(∃ b off size,σ id=some (.row b off t'.size xs.length size)∨∃ own,σ id=some (.nest b off t'.size xs.length size own)) →
      ev (cond (decide ((c.T t).ty = .slice t')) (.need (decide (0≤i∧i < xs.length)) (put o.dst (.c (.elt id i 0)))) .no) s=some e→Snd P o X σ s a w e:=by
     intro t' xs hl he
     obtain ⟨hty,he⟩:=cond_ev he
     obtain ⟨hb,he⟩:=need_ev he
     have hty:=of_decide_eq_true hty
     have hb:=of_decide_eq_true hb
     rcases hl with ⟨_,hx0⟩ | ⟨b,off,size,h1 | ⟨_,h1⟩⟩
     ·subst hx0; simp at hb; omega
     all_goals
      simp only [CellR,h1] at hx
      obtain ⟨a0,cap,hxx,hnc,ha,_⟩:=hx
      have ha':a0=⟨b,off,none⟩:=ha.resolve_left (by omega)
      refine snd_put h he hk (.c ?_) (run hty hxx hb.1 hb.2 (by rw [ha']))
      simp only [CellR,h1]
      exact ⟨hb.1,hb.2,by simp⟩
    split at he
    ·rename_i t' xs hl
     rw [hl] at hs
     exact main (hs.imp (fun z=>z) fun ⟨b,off,size,us,h1,_⟩=>⟨b,off,size,.inl h1⟩) he
    ·rename_i t' xs hl
     rw [hl] at hs
     exact main (hs.imp (fun z=>z) fun ⟨b,off,size,us,h1,_⟩=>⟨b,off,size,h1⟩) he
    ·rename_i t' xs hole hl
     rw [hl] at hs
     exact main (hs.imp (fun z=>⟨z.1,z.2.1⟩) fun ⟨b,off,size,us,own,h1,_⟩=>⟨b,off,size,.inr ⟨own,h1⟩⟩) he
    ·cases he
   | sub id lo hi'=>
    simp only [idxPl,ev] at he
    have hs:=h.heap id
    have main:∀ {t':Ty} {xs:List t'.den},(σ id=some .nil∧xs=[])∨(∃ b off size,σ id=some (.row b off t'.size xs.length size)∨∃ own,σ id=some (.nest b off t'.size xs.length size own)) →
      ev (cond (decide ((c.T t).ty = .slice t')) (.need (decide (0≤i∧i < hi' - lo)) (put o.dst (.c (.elt id (lo + i) 0)))) .no) s=some e→Snd P o X σ s a w e:=by
     intro t' xs hl he
     obtain ⟨hty,he⟩:=cond_ev he
     obtain ⟨hb,he⟩:=need_ev he
     have hty:=of_decide_eq_true hty
     have hb:=of_decide_eq_true hb
     rcases hl with ⟨h0,hx0⟩ | ⟨b,off,size,h1 | ⟨_,h1⟩⟩
     ·simp only [CellR,h0] at hx
      obtain ⟨rfl,rfl,_⟩:=hx
      omega
     all_goals
      simp only [CellR,h1] at hx
      obtain ⟨a0,n,cap,hxx,hnc,hlo,hhi,hle,ha,_⟩:=hx
      have ha':a0=⟨b,off + lo.toNat * t'.size,none⟩:=ha.resolve_left (by omega)
      refine snd_put h he hk (.c ?_) (run hty hxx hb.1 (by omega) (by rw [ha']))
      simp only [CellR,h1]
      refine ⟨by omega,by omega,?_⟩
      rw [show (lo + i).toNat=lo.toNat + i.toNat by omega,Nat.add_mul]
      simp [Nat.add_assoc]
    split at he
    ·rename_i t' xs hl
     rw [hl] at hs
     exact main (hs.imp (fun z=>z) fun ⟨b,off,size,us,h1,_⟩=>⟨b,off,size,.inl h1⟩) he
    ·rename_i t' xs hl
     rw [hl] at hs
     exact main (hs.imp (fun z=>z) fun ⟨b,off,size,us,h1,_⟩=>⟨b,off,size,h1⟩) he
    ·cases he
   | frz t' xs=>
    simp only [idxPl] at he
    obtain ⟨hty,he⟩:=cond_ev he
    obtain ⟨hb,he⟩:=need_ev he
    have hty:=of_decide_eq_true hty
    have hb:=of_decide_eq_true hb
    obtain ⟨a0,n,cap,hxx,hn,hnc,hr⟩:=hx
    rcases hr with rfl | ⟨b,off,us,ha,hlt,hN,hat,hr⟩
    ·simp at hb; omega
    ·obtain ⟨B,hB,hB'⟩:=at_elem hat hr hb.1 hb.2
     refine snd_put h he hk (.c ?_) (run hty (List.cons.inj hxx).1 hb.1 (by rw [hn]; exact hb.2) ha)
     exact ⟨b,off + i.toNat * t'.size,B,by simp,hlt,hN,hB',hB⟩
   | _=>cases he
  ·cases he
 ·cases he
theorem snd_index {t:TypeId} {x ix:Operand} (hc:tisOk P c.ti=true) (h:Rel X σ s a w) (hG:GL a gl) (ho:o.op = .index t x ix) (he:ev (plan c gl o) s=some e) (hk:okPut s e.ts e.gs=true):Snd P o X σ s a w e:=by
 simp only [plan,ho] at he
 obtain ⟨hT,he⟩:=withT_ev hc he
 obtain ⟨u,hu,he⟩:=opd_ev h hG he
 split at he
 ·rename_i q
  have hx:=avr_c hu
  obtain ⟨hty,he⟩:=cond_ev he
  have hty:=of_decide_eq_true hty
  obtain ⟨v,hv,he⟩:=opd_ev h hG he
  split at he
  ·rename_i k i
   have hi:=avr_c hv
   obtain ⟨hb,he⟩:=need_ev he
   have hb:=of_decide_eq_true hb
   refine snd_put h he hk (.c rfl) ?_
   have hd:=(desc_of hT).2.2.1 hty
   have hlt:i.toNat < q.data.size:=by have:=hb.2; change i < (q.data.size:Int) at this; omega
   have hq:q[i.toNat]? = some (q.data.getD i.toNat 0):=by
    rw [getElem?_pos q i.toNat hlt]
    show some (q.data[i.toNat])=_
    rw [Array.getD_eq_getD_getElem?,Array.getElem?_eq_getElem hlt]
    rfl
   simp [execOp,ho,show a.eval x=_ from hx,show a.eval ix=_ from hi,Instr.index,asIntOf,run_underlying hd,hb.1,hq]
  ·cases he
 ·cases he
theorem builtin_run {cl:Call} {b:Builtin} {vs:List Value} {r:Value} (ho:o.op = .call cl) (hb:cl.callee = .builtin b) (ha:(cl.args.toList.map a.eval)=vs)
  (hr:∀ l,(builtin b cl.argTypes o.type l vs.toArray).run P w = .ok (.value r) w):(execOp a.eval o).run P w = .ok (.value r) w:=by
 have:cl.args.map a.eval=vs.toArray:=Array.toList_inj.mp (by rw [← ha]; simp)
 simp only [execOp,ho,Sem.run_bind,Go.resolve,hb,Sem.run_pure,Result.andThen_ok,invoke,this]
 exact hr _
theorem avs_one {R:Cell→Value→Prop} {x:AV} {vs:List Value} (h:AVs R [x] vs):∃ v,vs=[v]∧AVR R x v:=by
 cases h with | cons h1 h2=>cases h2 with | nil=>exact ⟨_,rfl,h1⟩
theorem avs_two {R:Cell→Value→Prop} {x y:AV} {vs:List Value} (h:AVs R [x,y] vs):∃ v u,vs=[v,u]∧AVR R x v∧AVR R y u:=by
 cases h with | cons h1 h2=>cases h2 with | cons h2 h3=>cases h3 with | nil=>exact ⟨_,_,rfl,h1,h2⟩
theorem rowOf_ok {x:Cell} {v:Value} {k:(t:Ty)→List t.den→Pl} (h:Rel X σ s a w) (hx:CellR σ w (Nof X σ s) x v) (he:ev (rowOf x k) s=some e) :
  ∃ t xs a0 n cap,ev (k t xs) s=some e∧v = .slice a0 n cap∧n=List.length xs∧n≤cap ∧
   (xs=[]∨∃ b off us,a0=some ⟨b,off,none⟩∧At w b off us∧RowR (DRel w (Nof X σ s) t) xs us):=by
 have cutl:∀ {t:Ty} {xs:List t.den} {us:List Value} (p q:Nat),RowR (DRel w (Nof X σ s) t) xs us →
   RowR (DRel w (Nof X σ s) t) ((xs.take q).drop p) ((us.take (q * t.size)).drop (p * t.size)):=fun p q r=>
  (((r.cut (fun _ _ d=>d.length)).1 q).cut (fun _ _ d=>d.length)).2 p
 cases x with
 | nilsl t=>exact ⟨t,[],none,0,0,he,hx,rfl,Nat.le_refl _,.inl rfl⟩
 | frz t xs=>
  obtain ⟨a0,n,cap,hv,hn,hc,hr⟩:=hx
  refine ⟨t,xs,a0,n,cap,he,(List.cons.inj hv).1,hn,hc,?_⟩
  ·exact hr.imp (fun z=>z) fun ⟨b,off,us,h1,_,_,h4,h5⟩=>⟨b,off,us,h1,h4,h5⟩
 | sl id=>
  simp only [rowOf,ev] at he
  have hs:=h.heap id
  split at he
  ·rename_i t xs hl
   rw [hl] at hs
   rcases hs with ⟨h0,hx0⟩ | ⟨b,off,size,us,h1,_,_,h4,h5⟩
   ·simp only [CellR,h0] at hx
    subst hx0
    exact ⟨t,[],none,0,0,he,hx,rfl,Nat.le_refl _,.inl rfl⟩
   ·simp only [CellR,h1] at hx
    obtain ⟨a0,cap,hv,hc,ha,_⟩:=hx
    refine ⟨t,xs,some a0,_,cap,he,hv,rfl,hc,?_⟩
    rcases ha with rfl | rfl
    ·left; exact List.eq_nil_of_length_eq_zero (by omega)
    ·exact .inr ⟨b,off,us,rfl,h4,h5⟩
  ·rename_i t xs hl
   rw [hl] at hs
   rcases hs with ⟨h0,hx0⟩ | ⟨b,off,size,us,h1 | ⟨_,h1⟩,_,_,h4,h5⟩
   ·simp only [CellR,h0] at hx
    subst hx0
    exact ⟨t,[],none,0,0,he,hx,rfl,Nat.le_refl _,.inl rfl⟩
   all_goals
    simp only [CellR,h1] at hx
    obtain ⟨a0,cap,hv,hc,ha,_⟩:=hx
    refine ⟨t,xs,some a0,_,cap,he,hv,rfl,hc,?_⟩
    rcases ha with rfl | rfl
    ·left; exact List.eq_nil_of_length_eq_zero (by omega)
    ·exact .inr ⟨b,off,us,rfl,h4,h5⟩
  ·cases he
 | sub id lo hi=>
  simp only [rowOf,ev] at he
  have hs:=h.heap id
  have main:∀ {t:Ty} {xs:List t.den},(σ id=some .nil∧xs=[])∨(∃ b off size us,(σ id=some (.row b off t.size xs.length size)∨∃ own,σ id=some (.nest b off t.size xs.length size own))∧At w b off us∧RowR (DRel w (Nof X σ s) t) xs us) →
    ∃ a0 n cap,v = .slice a0 n cap∧n=List.length ((xs.take hi.toNat).drop lo.toNat)∧n≤cap ∧
     ((xs.take hi.toNat).drop lo.toNat=[]∨∃ b off us,a0=some ⟨b,off,none⟩∧At w b off us∧RowR (DRel w (Nof X σ s) t) ((xs.take hi.toNat).drop lo.toNat) us):=by
   intro t xs hl
   rcases hl with ⟨h0,hx0⟩ | ⟨b,off,size,us,h1 | ⟨_,h1⟩,h4,h5⟩
   ·simp only [CellR,h0] at hx
    obtain ⟨rfl,rfl,hv⟩:=hx
    exact ⟨none,0,0,hv,by simp,Nat.le_refl _,.inl (by simp)⟩
   all_goals
    simp only [CellR,h1] at hx
    obtain ⟨a0,n,cap,hv,hc,hlo,hhi,hle,ha,_⟩:=hx
    have hn:n=List.length ((xs.take hi.toNat).drop lo.toNat):=by simp; omega
    refine ⟨some a0,n,cap,hv,hn,hc,?_⟩
    rcases ha with rfl | rfl
    ·left; exact List.eq_nil_of_length_eq_zero (by omega)
    ·exact .inr ⟨b,_,_,rfl,(h4.take (hi.toNat * t.size)).drop (lo.toNat * t.size),cutl _ _ h5⟩
  split at he
  ·rename_i t xs hl
   rw [hl] at hs
   obtain ⟨a0,n,cap,hv⟩:=main (hs.imp (fun z=>z) fun ⟨b,off,size,us,h1,_,_,h4,h5⟩=>⟨b,off,size,us,.inl h1,h4,h5⟩)
   exact ⟨t,_,a0,n,cap,he,hv⟩
  ·rename_i t xs hl
   rw [hl] at hs
   obtain ⟨a0,n,cap,hv⟩:=main (hs.imp (fun z=>z) fun ⟨b,off,size,us,h1,_,_,h4,h5⟩=>⟨b,off,size,us,h1,h4,h5⟩)
   exact ⟨t,_,a0,n,cap,he,hv⟩
  ·cases he
 | _=>cases he
theorem lenPl_ok {x:AV} {v:Value} {k:Int→Pl} (h:Rel X σ s a w) (hx:AVR (CellR σ w (Nof X σ s)) x v) (he:ev (lenPl x k) s=some e) :
  ∃ a0 n cap,v = .slice a0 n cap∧ev (k (n:Int)) s=some e:=by
 unfold lenPl at he
 split at he
 ·rename_i id lo hi
  have hx:=avr_c hx
  simp only [ev] at he
  have hs:=h.heap id
  have main:∀ {t:Ty} {xs:List t.den},(σ id=some .nil∧xs=[])∨(∃ b off size,σ id=some (.row b off t.size xs.length size)∨∃ own,σ id=some (.nest b off t.size xs.length size own))→ev (k (hi - lo)) s=some e →
    ∃ a0 n cap,v = .slice a0 n cap∧ev (k (n:Int)) s=some e:=by
   intro t xs hl he
   rcases hl with ⟨h0,_⟩ | ⟨b,off,size,h1 | ⟨_,h1⟩⟩
   ·simp only [CellR,h0] at hx
    obtain ⟨rfl,rfl,hv⟩:=hx
    exact ⟨_,_,_,hv,by simpa using he⟩
   all_goals
    simp only [CellR,h1] at hx
    obtain ⟨a0,n,cap,hv,hc,hlo,hhi,hle,ha,_⟩:=hx
    exact ⟨_,n,_,hv,by rw [show (n:Int)=hi - lo by omega]; exact he⟩
  split at he
  ·rename_i t xs hl
   rw [hl] at hs
   exact (main (hs.imp (fun z=>z) fun ⟨b,off,size,us,h1,_⟩=>⟨b,off,size,.inl h1⟩) he)
  ·rename_i t xs hl
   rw [hl] at hs
   exact (main (hs.imp (fun z=>z) fun ⟨b,off,size,us,h1,_⟩=>⟨b,off,size,h1⟩) he)
  ·cases he
 ·rename_i id
  have hx:=avr_c hx
  simp only [ev] at he
  have hs:=h.heap id
  have main:∀ {t:Ty} {xs:List t.den},(σ id=some .nil∧xs=[])∨(∃ b off size,σ id=some (.row b off t.size xs.length size)∨∃ own,σ id=some (.nest b off t.size xs.length size own))→ev (k (xs.length:Int)) s=some e →
    ∃ a0 n cap,v = .slice a0 n cap∧ev (k (n:Int)) s=some e:=by
   intro t xs hl he
   rcases hl with ⟨h0,hx0⟩ | ⟨b,off,size,h1 | ⟨_,h1⟩⟩
   ·simp only [CellR,h0] at hx
    subst hx0
    exact ⟨_,_,_,hx,he⟩
   all_goals
    simp only [CellR,h1] at hx
    obtain ⟨a0,cap,hv,_⟩:=hx
    exact ⟨_,_,_,hv,he⟩
  split at he
  ·rename_i t xs hl
   rw [hl] at hs
   exact (main (hs.imp (fun z=>z) fun ⟨b,off,size,us,h1,_⟩=>⟨b,off,size,.inl h1⟩) he)
  ·rename_i t xs hl
   rw [hl] at hs
   exact (main (hs.imp (fun z=>z) fun ⟨b,off,size,us,h1,_⟩=>⟨b,off,size,h1⟩) he)
  ·rename_i t xs hole hl
   rw [hl] at hs
   exact main (hs.imp (fun z=>⟨z.1,z.2.1⟩) fun ⟨b,off,size,us,own,h1,_⟩=>⟨b,off,size,.inr ⟨own,h1⟩⟩) he
  ·cases he
 ·obtain ⟨t,xs,a0,n,cap,he,hv,hn,_⟩:=rowOf_ok h (avr_c hx) he
  exact ⟨a0,n,cap,hv,by rw [hn]; exact he⟩
 ·cases he
theorem snd_len {cl:Call} (hc:tisOk P c.ti=true) (h:Rel X σ s a w) (ho:o.op = .call cl) (hb:cl.callee = .builtin .len) {x:AV} (hx:AVs (CellR σ w (Nof X σ s)) [x] (cl.args.toList.map a.eval))
  (he:ev (match cl.argTypes.toList with
    | [t]=>withT c t fun T=>match T.ty with
     | .slice _=>lenPl x fun n=>put o.dst (.c (.int .i64 n))
     | .str=>strLen x fun n=>put o.dst (.c (.int .i64 n))
     | _=>lenMap o.dst T x
    | _=>.no) s=some e) (hk:okPut s e.ts e.gs=true):Snd P o X σ s a w e:=by
 obtain ⟨v,hvs,hv⟩:=avs_one hx
 split at he
 ·rename_i t hat
  obtain ⟨hT,he⟩:=withT_ev hc he
  have ht:cl.argTypes = #[t]:=Array.toList_inj.mp (by simpa using hat)
  split at he
  ·rename_i et hty
   obtain ⟨et,j,z,d1,_⟩:=(desc_of hT).2.2.2 _ hty
   obtain ⟨a0,n,cap,rfl,he⟩:=lenPl_ok h hv he
   refine snd_put h he hk (.c (show CellR σ w (Nof X σ s) _ (.int .i64 n) from rfl)) (builtin_run ho hb hvs fun l=>?_)
   simp [builtin,Builtin.len_,ht,run_underlying d1,goInt]
  ·rename_i hty
   have d1:=(desc_of hT).2.2.1 hty
   unfold strLen at he
   split at he
   ·rename_i q _
    obtain rfl:=avr_c hv
    refine snd_put h he hk (.c (show CellR σ w (Nof X σ s) _ (.int .i64 q.size) from rfl)) (builtin_run ho hb hvs fun l=>?_)
    simp [builtin,Builtin.len_,ht,run_underlying d1,goInt]
   ·cases he
  ·unfold lenMap at he
   split at he
   ·obtain ⟨id,kt,vt,xs,clk,b,es,clock,hl,h3,rfl,hb',hc',hm,hk1,hv1,rfl,he'⟩:=mapAt_ev h (avr_c hv) he
    clear he
    obtain ⟨hmp,he⟩:=cond_ev he'
    obtain ⟨_,_,kt0,vt0,d,j,d1,_⟩:=mp_spec hT (of_decide_eq_true hmp)
    have hlen:es.size=xs.length:=by have:=mapR_length hm; simpa using this
    refine snd_put h he hk (.c (show CellR σ w (Nof X σ s) _ (.int .i64 xs.length) from rfl)) (builtin_run ho hb hvs fun l=>?_)
    simp [builtin,Builtin.len_,ht,run_underlying d1,getMap hb',goInt,hlen]
   ·cases he
 ·cases he
theorem snd_cap {cl:Call} (hc:tisOk P c.ti=true) (h:Rel X σ s a w) (ho:o.op = .call cl) (hb:cl.callee = .builtin .cap) {t0:Ty} (hx:AVs (CellR σ w (Nof X σ s)) [.c (.nilsl t0)] (cl.args.toList.map a.eval))
  (he:ev (match cl.argTypes.toList with
    | [t]=>withT c t fun T=>match T.ty with
     | .slice _=>put o.dst (.c (.int .i64 0))
     | _=>.no
    | _=>.no) s=some e) (hk:okPut s e.ts e.gs=true):Snd P o X σ s a w e:=by
 obtain ⟨v,hvs,hv⟩:=avs_one hx
 split at he
 ·rename_i t hat
  obtain ⟨hT,he⟩:=withT_ev hc he
  have ht:cl.argTypes = #[t]:=Array.toList_inj.mp (by simpa using hat)
  split at he
  ·rename_i et hty
   obtain ⟨et,j,z,d1,_⟩:=(desc_of hT).2.2.2 _ hty
   obtain rfl:=avr_c hv
   refine snd_put h he hk (.c (show CellR σ w (Nof X σ s) _ (.int .i64 0) from rfl)) (builtin_run ho hb hvs fun l=>?_)
   simp [builtin,Builtin.cap_,ht,run_underlying d1,goInt]
  ·cases he
 ·cases he
theorem snd_min {cl:Call} (h:Rel X σ s a w) (ho:o.op = .call cl) (hb:cl.callee = .builtin .min) {k k':IntKind} {p q:Int} (hx:AVs (CellR σ w (Nof X σ s)) [.c (.int k p),.c (.int k' q)] (cl.args.toList.map a.eval))
  (he:ev (put o.dst (.c (.int k (min p q)))) s=some e) (hk:okPut s e.ts e.gs=true):Snd P o X σ s a w e:=by
 obtain ⟨u,v,hvs,hu,hv⟩:=avs_two hx
 obtain rfl:=avr_c hu
 obtain rfl:=avr_c hv
 refine snd_put h he hk (.c (show CellR σ w (Nof X σ s) _ (.int k (min p q)) from rfl)) (builtin_run ho hb hvs fun l=>?_)
 have:min p q=if q < p then q else p:=by
  by_cases hh:q < p
  ·rw [if_pos hh]; omega
  ·rw [if_neg hh]; omega
 simp [builtin,Builtin.min_,Builtin.min2,this]
theorem snd_max {cl:Call} (h:Rel X σ s a w) (ho:o.op = .call cl) (hb:cl.callee = .builtin .max) {k k':IntKind} {p q:Int} (hx:AVs (CellR σ w (Nof X σ s)) [.c (.int k p),.c (.int k' q)] (cl.args.toList.map a.eval))
  (he:ev (put o.dst (.c (.int k (max p q)))) s=some e) (hk:okPut s e.ts e.gs=true):Snd P o X σ s a w e:=by
 obtain ⟨u,v,hvs,hu,hv⟩:=avs_two hx
 obtain rfl:=avr_c hu
 obtain rfl:=avr_c hv
 refine snd_put h he hk (.c (show CellR σ w (Nof X σ s) _ (.int k (max p q)) from rfl)) (builtin_run ho hb hvs fun l=>?_)
 have:max p q=if p < q then q else p:=by
  by_cases hh:p < q
  ·rw [if_pos hh]; omega
  ·rw [if_neg hh]; omega
 simp [builtin,Builtin.max_,Builtin.max2,this]
theorem avs_three {R:Cell→Value→Prop} {x y z:AV} {vs:List Value} (h:AVs R [x,y,z] vs):∃ u v t,vs=[u,v,t]∧AVR R x u∧AVR R y v∧AVR R z t:=by
 cases h with
 | cons h1 h=>
  cases h with
  | cons h2 h=>
   cases h with
   | cons h3 h=>
    cases h
    exact ⟨_,_,_,rfl,h1,h2,h3⟩
theorem snd_min3 {cl:Call} (h:Rel X σ s a w) (ho:o.op = .call cl) (hb:cl.callee = .builtin .min) {k k' k2:IntKind} {p q r:Int} (hx:AVs (CellR σ w (Nof X σ s)) [.c (.int k p),.c (.int k' q),.c (.int k2 r)] (cl.args.toList.map a.eval))
  (he:ev (put o.dst (.c (.int k (min (min p q) r)))) s=some e) (hk:okPut s e.ts e.gs=true):Snd P o X σ s a w e:=by
 obtain ⟨u,v,z,hvs,hu,hv,hz⟩:=avs_three hx
 obtain rfl:=avr_c hu
 obtain rfl:=avr_c hv
 obtain rfl:=avr_c hz
 refine snd_put h he hk (.c (show CellR σ w (Nof X σ s) _ (.int k (min (min p q) r)) from rfl)) (builtin_run ho hb hvs fun l=>?_)
 have e1:∀ p q:Int,min p q=if q < p then q else p:=by
  intro p q
  by_cases hh:q < p
  ·rw [if_pos hh]; omega
  ·rw [if_neg hh]; omega
 have e2:(if q < p then q else p)=min p q:=(e1 p q).symm
 have e3:(if r < (min p q) then r else min p q)=min (min p q) r:=(e1 (min p q) r).symm
 simp [builtin,Builtin.min_,Builtin.min2,e2,e3]
theorem snd_max3 {cl:Call} (h:Rel X σ s a w) (ho:o.op = .call cl) (hb:cl.callee = .builtin .max) {k k' k2:IntKind} {p q r:Int} (hx:AVs (CellR σ w (Nof X σ s)) [.c (.int k p),.c (.int k' q),.c (.int k2 r)] (cl.args.toList.map a.eval))
  (he:ev (put o.dst (.c (.int k (max (max p q) r)))) s=some e) (hk:okPut s e.ts e.gs=true):Snd P o X σ s a w e:=by
 obtain ⟨u,v,z,hvs,hu,hv,hz⟩:=avs_three hx
 obtain rfl:=avr_c hu
 obtain rfl:=avr_c hv
 obtain rfl:=avr_c hz
 refine snd_put h he hk (.c (show CellR σ w (Nof X σ s) _ (.int k (max (max p q) r)) from rfl)) (builtin_run ho hb hvs fun l=>?_)
 have e1:∀ p q:Int,max p q=if p < q then q else p:=by
  intro p q
  by_cases hh:p < q
  ·rw [if_pos hh]; omega
  ·rw [if_neg hh]; omega
 have e2:(if p < q then q else p)=max p q:=(e1 p q).symm
 have e3:(if (max p q) < r then r else max p q)=max (max p q) r:=(e1 (max p q) r).symm
 simp [builtin,Builtin.max_,Builtin.max2,e2,e3]
theorem run_slice' {t et:TypeId} {j:TypeInfo} {a0:Option Addr} {n cap:Nat} {lo hi:Option Value} {p q:Nat} (hd:P.underlying t=some (.slice et)) (hj:P.info? et=some j)
  (hl:(Instr.sliceBounds true n cap lo hi none).run P w = .ok (p,q,cap) w) :
  (Instr.sliceAt t (.slice a0 n cap) lo hi none).run P w = .ok (.slice (if cap=p then a0 else a0.map (·.add (p * j.size))) (q - p) (cap - p)) w:=by
 simp [Instr.sliceAt,Instr.slice,run_underlying hd,hl,sizeOf,typeInfo,hj]
inductive OptR (R:Cell→Value→Prop):Option AV→Option Value→Prop where
 | none:OptR R none none
 | some {x:AV} {v:Value}:AVR R x v→OptR R (some x) (some v)
theorem optOpd_ev (h:Rel X σ s a w) (hG:GL a gl) {x:Option Operand} {k:Option AV→Pl} (he:ev (optOpd gl x k) s=some e) :
  ∃ v,OptR (CellR σ w (Nof X σ s)) v (x.map a.eval)∧ev (k v) s=some e:=by
 cases x with
 | none=>exact ⟨none,.none,he⟩
 | some x=>
  obtain ⟨v,hv,he⟩:=opd_ev h hG he
  exact ⟨some v,.some hv,he⟩
theorem bounds_ok {R:Cell→Value→Prop} (hR:∀ k n v,R (.int k n) v→v = .int k n) {lo hi:Option AV} {vl vh:Option Value} {n cap:Nat} {k:Int→Int→Pl} (hl:OptR R lo vl) (hh:OptR R hi vh) (hc:n≤cap)
  (he:ev (bounds lo hi (n:Int) k) s=some e) :
  ∃ p q:Nat,p≤q∧q≤n∧ev (k p q) s=some e∧∀ b,(Instr.sliceBounds b n cap vl vh none).run P w = .ok (p,q,cap) w:=by
 unfold bounds at he
 split at he
 ·cases hl; cases hh
  exact ⟨0,n,Nat.zero_le _,Nat.le_refl _,he,fun b=>by simp [Instr.sliceBounds]⟩
 ·cases hh
  cases hl with
  | some h1=>
   cases h1 with
   | c h1=>
    obtain rfl:=hR _ _ _ h1
    obtain ⟨hb,he⟩:=need_ev he
    have hb:=of_decide_eq_true hb
    rename_i _ a' _ _
    refine ⟨a'.toNat,n,by omega,Nat.le_refl _,by rw [Int.toNat_of_nonneg hb.1]; exact he,fun b=>?_⟩
    simp [Instr.sliceBounds,Instr.sliceBound,asIntOf,hb.1,hb.2]
 ·cases hl
  cases hh with
  | some h1=>
   cases h1 with
   | c h1=>
    obtain rfl:=hR _ _ _ h1
    obtain ⟨hb,he⟩:=need_ev he
    have hb:=of_decide_eq_true hb
    rename_i _ b' _ _
    refine ⟨0,b'.toNat,by omega,by omega,by rw [Int.toNat_of_nonneg hb.1]; exact he,fun b=>?_⟩
    simp [Instr.sliceBounds,Instr.sliceBound,asIntOf,hb.1,show b'≤(cap:Int) by omega]
 ·cases hl with
  | some h1=>
   cases h1 with
   | c h1=>
    cases hh with
    | some h2=>
     cases h2 with
     | c h2=>
      obtain rfl:=hR _ _ _ h1
      obtain rfl:=hR _ _ _ h2
      obtain ⟨hb,he⟩:=need_ev he
      have hb:=of_decide_eq_true hb
      rename_i _ a' _ b' _ _
      refine ⟨a'.toNat,b'.toNat,by omega,by omega,by rw [Int.toNat_of_nonneg hb.1,Int.toNat_of_nonneg (by omega)]; exact he,fun b=>?_⟩
      have e1:(b'.toNat:Int)=b':=Int.toNat_of_nonneg (by omega)
      simp [Instr.sliceBounds,Instr.sliceBound,asIntOf,hb.1,hb.2.1,show 0≤b' by omega,show b'≤(cap:Int) by omega,e1]
 ·cases he
theorem rowR_ints {N:Nat→Prop} {k:IntKind} {xs:List Int} {us:List Value} (h:RowR (DRel w N (.int k)) xs us):us=xs.map (Value.int k):=by
 generalize ht:DRel w N (.int k)=R at h
 induction h with
 | nil=>rfl
 | @cons x us xs vs a _ ih=>
  subst ht
  have a:us=[Value.int k x]:=a
  rw [ih,a]
  rfl
theorem snd_convert {t t':TypeId} {x:Operand} (hc:tisOk P c.ti=true) (h:Rel X σ s a w) (hG:GL a gl) (ho:o.op = .convert t t' x) (he:ev (plan c gl o) s=some e) (hk:okPut s e.ts e.gs=true):Snd P o X σ s a w e:=by
 simp only [plan,ho] at he
 obtain ⟨hT,he⟩:=withT_ev hc he
 obtain ⟨hT',he⟩:=withT_ev hc he
 obtain ⟨u,hu,he⟩:=opd_ev h hG he
 obtain ⟨d,hd,_⟩:=und_of hT
 split at he
 ·rename_i k0 n
  have hx:=avr_c hu
  split at he
  ·rename_i k hk'
   have hd':=(desc_of hT').1 k hk'
   refine snd_put h he hk (.c (show CellR σ w (Nof X σ s) _ (.int k (wrap k n)) from rfl)) ?_
   simp [execOp,ho,show a.eval x=_ from hx,convert,run_underlying hd,run_underlying hd',Conv.intToInt,wrap]
  ·cases he
 ·rename_i b
  have hx:=avr_c hu
  split at he
  ·rename_i hk'
   have hd':=(desc_of hT').2.2.1 hk'
   refine snd_put h he hk (.c (show CellR σ w (Nof X σ s) _ (.string b) from rfl)) ?_
   simp [execOp,ho,show a.eval x=_ from hx,convert,run_underlying hd,run_underlying hd']
  ·cases he
 ·rename_i y _ _
  have hx:=avr_c hu
  cases hb:(decide ((c.T t).ty = .slice (.int .u8)) && decide ((c.T t').ty = .str)) with
  | false=>rw [hb] at he; cases he
  | true=>
   rw [hb] at he
   simp only [Bool.and_eq_true,decide_eq_true_eq] at hb
   obtain ⟨et,_,_,hu1,_⟩:=(desc_of hT).2.2.2 _ hb.1
   have hd':=(desc_of hT').2.2.1 hb.2
   have hel:P.underlying et=some (.int .u8):=by
    have:=hT.el
    unfold elOk at this
    rw [hb.1,hu1] at this
    dsimp only at this
    split at this
    ·rename_i k' hk'
     rw [hk',← of_decide_eq_true this]
    ·cases this
   obtain ⟨t1,xs,a0,n,cap,he2,hv,hn,_,hrow⟩:=rowOf_ok h hx (show ev (rowOf y _) s=some e from he)
   clear he
   split at he2
   ·rename_i ys hys
    obtain ⟨rfl,rfl⟩:=castRow_spec hys
    refine snd_put h he2 hk (.c (show CellR σ w (Nof X σ s) (.str (bytesStr ys)) (.string (bytesStr ys)) from rfl)) ?_
    have hrun:(Conv.bytesToString (.slice a0 n cap)).run P w = .ok (.string (bytesStr ys)) w:=by
     subst hn
     rcases hrow with rfl | ⟨b,off,us,rfl,hat,hr⟩
     ·cases a0 with
      | none=>rfl
      | some a1=>exact run_bytesToString w a1 0 cap [] (by simp [loadCells,loadCellsFrom])
     ·obtain rfl:=rowR_ints hr
      refine run_bytesToString w _ _ cap ys ?_
      have:=run_loadCells_list (P:=P) w ⟨b,off,none⟩ (ys.map (Value.int .u8)) (fun j v hv=>by rw [addr_add]; exact hat j v hv)
      simpa using this
    simp [execOp,ho,show a.eval x=_ from hv,convert,run_underlying hu1,run_underlying hd',run_underlying hel,hrun]
   ·cases he2
 ·cases he
end
end Go.Eng
namespace Go.Eng
open Go
section
variable {P:Program} {X:Nat→Prop} {σ:Sig} {s:St} {a:Act} {w:World} {o:Oper} {e:Eff} {gl:List (Nat×Bool)} {c:Ctx}
theorem intR {N:Nat→Prop} (k:IntKind) (n:Int) (v:Value) (h:CellR σ w N (.int k n) v):v = .int k n:=h
theorem map_addr (a0:Option Addr) (b off k:Nat) (h:a0=some ⟨b,off,none⟩):a0.map (·.add k)=some ⟨b,off + k,none⟩:=by
 subst h
 simp [addr_add]
theorem snd_slice {t:TypeId} {x:Operand} {lo hi mx:Option Operand} (hc:tisOk P c.ti=true) (h:Rel X σ s a w) (hG:GL a gl) (ho:o.op = .slice t x lo hi mx) (he:ev (plan c gl o) s=some e) (hk:okPut s e.ts e.gs=true):Snd P o X σ s a w e:=by
 simp only [plan,ho] at he
 have hT:=(withT_ev hc he).1
 replace he:=(withT_ev hc he).2
 cases mx with
 | some m=>exact absurd (cond_ev he).1 (by simp)
 | none=>
 replace he:=(cond_ev he).2
 obtain ⟨u,hu,he1⟩:=opd_ev h hG he
 clear he
 obtain ⟨l,hl,he2⟩:=optOpd_ev h hG he1
 clear he1
 obtain ⟨g,hg,he⟩:=optOpd_ev h hG he2
 clear he2
 have fin:∀ {v r:Value},a.eval x=v→(Instr.sliceAt t v (lo.map a.eval) (hi.map a.eval) none).run P w = .ok r w→(execOp a.eval o).run P w = .ok (.value r) w:=by
  intro v r hv hr
  simp only [execOp,ho,hv,Option.map_none,Sem.run_bind,hr,Result.andThen_ok,Sem.run_pure]
 unfold slicePl at he
 split at he
 ·rename_i q
  have hx:=avr_c hu
  obtain ⟨hty,he⟩:=cond_ev he
  have hd:=(desc_of hT).2.2.1 (of_decide_eq_true hty)
  obtain ⟨p,q',_,_,he,hb⟩:=bounds_ok (P:=P) (w:=w) (cap:=q.size) intR hl hg (Nat.le_refl _) he
  refine snd_put h he hk (.c (show CellR σ w (Nof X σ s) _ (.string (q.extract p q')) from rfl)) (fin hx ?_)
  simp [Instr.sliceAt,Instr.slice,run_underlying hd,hb]
 ·rename_i t' xs
  have hx:=avr_c hu
  obtain ⟨hty,he⟩:=cond_ev he
  obtain ⟨et,j,z,d1,d2,d3,_⟩:=(desc_of hT).2.2.2 _ (of_decide_eq_true hty)
  obtain ⟨a0,n,cap,hxx,hn,hnc,hr⟩:=hx
  rw [← hn] at he
  obtain ⟨p,q',hpq,hqn,he,hb⟩:=bounds_ok (P:=P) (w:=w) intR hl hg hnc he
  refine snd_put h he hk (.c ?_) (fin (List.cons.inj hxx).1 (run_slice' d1 d2 (hb _)))
  refine ⟨_,_,_,rfl,by simp; omega,by omega,?_⟩
  by_cases hq:p < q'
  ·right
   rcases hr with rfl | ⟨b,off,us,ha,hlt,hN,hat,hr⟩
   ·simp at hn; omega
   ·refine ⟨b,off + p * j.size,(us.take (q' * t'.size)).drop (p * t'.size),?_,hlt,hN,?_,?_⟩
    ·rw [if_neg (by omega)]; exact map_addr _ _ _ _ ha
    ·rw [d3]; exact (hat.take _).drop _
    ·have r1:=(hr.cut (fun _ _ d=>d.length)).1 q'
     have r2:=(r1.cut (fun _ _ d=>d.length)).2 p
     simpa using r2
  ·left
   exact List.eq_nil_of_length_eq_zero (by simp; omega)
 ·rename_i e'
  have hx:=avr_c hu
  split at he
  ·rename_i e2 hty
   obtain ⟨et,j,z,d1,d2,d3,_⟩:=(desc_of hT).2.2.2 _ hty
   obtain ⟨p,q',hpq,hqn,he,hb⟩:=bounds_ok (P:=P) (w:=w) (n:=0) (cap:=0) intR hl hg (Nat.le_refl _) he
   refine snd_put h he hk (.c ?_) (fin hx (run_slice' d1 d2 (hb _)))
   obtain rfl:q'=0:=by omega
   obtain rfl:p=0:=by omega
   simp [CellR]
  ·cases he
 ·rename_i id l' h'
  have hx:=avr_c hu
  simp only [ev] at he
  have hs:=h.heap id
  have main:∀ {t':Ty} {xs:List t'.den},(σ id=some .nil∧xs=[])∨(∃ b off size,σ id=some (.row b off t'.size xs.length size)∨∃ own,σ id=some (.nest b off t'.size xs.length size own)) →
    ev (cond (decide ((c.T t).ty = .slice t')) (bounds l g (h' - l') fun a b=>put o.dst (.c (.sub id (l' + a) (l' + b)))) .no) s=some e→Snd P o X σ s a w e:=by
   intro t' xs hs he
   obtain ⟨hty,he⟩:=cond_ev he
   obtain ⟨et,j,z,d1,d2,d3,_⟩:=(desc_of hT).2.2.2 _ (of_decide_eq_true hty)
   rcases hs with ⟨h0,_⟩ | ⟨b,off,size,h1 | ⟨_,h1⟩⟩
   ·simp only [CellR,h0] at hx
    obtain ⟨rfl,rfl,hv⟩:=hx
    obtain ⟨p,q',hpq,hqn,he,hb⟩:=bounds_ok (P:=P) (w:=w) (n:=0) (cap:=0) intR hl hg (Nat.le_refl _) he
    refine snd_put h he hk (.c ?_) (fin hv (run_slice' d1 d2 (hb _)))
    simp only [CellR,h0]
    obtain rfl:q'=0:=by omega
    obtain rfl:p=0:=by omega
    simp
   all_goals
    simp only [CellR,h1] at hx
    obtain ⟨a0,n,cap,hv,hnc,hlo,hhi,hle,ha,hfit⟩:=hx
    rw [show h' - l'=(n:Int) by omega] at he
    obtain ⟨p,q',hpq,hqn,he,hb⟩:=bounds_ok (P:=P) (w:=w) intR hl hg hnc he
    refine snd_put h he hk (.c ?_) (fin hv (run_slice' d1 d2 (hb _)))
    simp only [CellR,h1]
    have e1:(l' + (p:Int)).toNat=l'.toNat + p:=by omega
    by_cases hcp:cap=p
    ·refine ⟨a0,q' - p,cap - p,by rw [if_pos hcp],by omega,by omega,by omega,by omega,.inl (by omega),?_⟩
     rw [e1,show cap - p=0 by omega,Nat.add_mul,Nat.zero_mul,← hcp]
     omega
    ·have ha':=ha.resolve_left (by omega)
     subst ha'
     refine ⟨⟨b,off + l'.toNat * t'.size + p * j.size,none⟩,q' - p,cap - p,by rw [if_neg hcp]; simp [addr_add],by omega,by omega,by omega,by omega,.inr ?_,?_⟩
     ·rw [e1,Nat.add_mul,d3,Nat.add_assoc]
     ·rw [e1,Nat.add_mul,Nat.sub_mul]
      have:p * t'.size≤cap * t'.size:=Nat.mul_le_mul_right _ (by omega)
      omega
  split at he
  ·rename_i t' xs hl'
   rw [hl'] at hs
   exact main (hs.imp (fun z=>z) fun ⟨b,off,size,us,h1,_⟩=>⟨b,off,size,.inl h1⟩) he
  ·rename_i t' xs hl'
   rw [hl'] at hs
   exact main (hs.imp (fun z=>z) fun ⟨b,off,size,us,h1,_⟩=>⟨b,off,size,h1⟩) he
  ·cases he
 ·rename_i id
  have hx:=avr_c hu
  simp only [ev] at he
  have hs:=h.heap id
  have main:∀ {t':Ty} {xs:List t'.den},(σ id=some .nil∧xs=[])∨(∃ b off size,σ id=some (.row b off t'.size xs.length size)∨∃ own,σ id=some (.nest b off t'.size xs.length size own)) →
    ev (cond (decide ((c.T t).ty = .slice t')) (bounds l g (xs.length:Int) fun a b=>put o.dst (.c (.sub id a b))) .no) s=some e→Snd P o X σ s a w e:=by
   intro t' xs hs he
   obtain ⟨hty,he⟩:=cond_ev he
   obtain ⟨et,j,z,d1,d2,d3,_⟩:=(desc_of hT).2.2.2 _ (of_decide_eq_true hty)
   rcases hs with ⟨h0,hx0⟩ | ⟨b,off,size,h1 | ⟨_,h1⟩⟩
   ·simp only [CellR,h0] at hx
    subst hx0
    obtain ⟨p,q',hpq,hqn,he,hb⟩:=bounds_ok (P:=P) (w:=w) (n:=0) (cap:=0) intR hl hg (Nat.le_refl _) he
    refine snd_put h he hk (.c ?_) (fin hx (run_slice' d1 d2 (hb _)))
    simp only [CellR,h0]
    obtain rfl:q'=0:=by omega
    obtain rfl:p=0:=by omega
    simp
   all_goals
    simp only [CellR,h1] at hx
    obtain ⟨a0,cap,hv,hnc,ha,hfit⟩:=hx
    obtain ⟨p,q',hpq,hqn,he,hb⟩:=bounds_ok (P:=P) (w:=w) intR hl hg hnc he
    refine snd_put h he hk (.c ?_) (fin hv (run_slice' d1 d2 (hb _)))
    simp only [CellR,h1]
    by_cases hcp:cap=p
    ·refine ⟨a0,q' - p,cap - p,by rw [if_pos hcp],by omega,by omega,by omega,by omega,.inl (by omega),?_⟩
     rw [Int.toNat_natCast,show cap - p=0 by omega,Nat.zero_mul,← hcp]
     omega
    ·have ha':=ha.resolve_left (by omega)
     subst ha'
     refine ⟨⟨b,off + p * j.size,none⟩,q' - p,cap - p,by rw [if_neg hcp]; simp [addr_add],by omega,by omega,by omega,by omega,.inr ?_,?_⟩
     ·rw [Int.toNat_natCast,d3]
     ·rw [Int.toNat_natCast,Nat.sub_mul]
      have:p * t'.size≤cap * t'.size:=Nat.mul_le_mul_right _ (by omega)
      omega
  split at he
  ·rename_i t' xs hl'
   rw [hl'] at hs
   exact main (hs.imp (fun z=>z) fun ⟨b,off,size,us,h1,_⟩=>⟨b,off,size,.inl h1⟩) he
  ·rename_i t' xs hl'
   rw [hl'] at hs
   exact main (hs.imp (fun z=>z) fun ⟨b,off,size,us,h1,_⟩=>⟨b,off,size,h1⟩) he
  ·cases he
 ·cases he
end
end Go.Eng
namespace Go.Eng
open Go
section
variable {P:Program} {X:Nat→Prop} {σ:Sig} {s:St} {a:Act} {w:World} {o:Oper} {e:Eff} {gl:List (Nat×Bool)} {c:Ctx}
def Frz (s:St) (hs:List (Nat×Slot)):Prop:=∀ p ∈ hs,∃ t xs,(look .none s.heap p.1 = .row t xs∨look .none s.heap p.1 = .nest t xs none)∧p.2 = .fro t xs
theorem frz_look {hs:List (Nat×Slot)} (hf:Frz s hs) (id:Nat):look .none (hs++s.heap) id=look .none s.heap id∨∃ t xs,(look .none s.heap id = .row t xs∨look .none s.heap id = .nest t xs none)∧look .none (hs++s.heap) id = .fro t xs:=by
 induction hs with
 | nil=>exact .inl rfl
 | cons p r ih=>
  obtain ⟨k,S⟩:=p
  by_cases e:k=id
  ·subst e
   obtain ⟨t,xs,h1,h2⟩:=hf (k,S) List.mem_cons_self
   refine .inr ⟨t,xs,h1,?_⟩
   rw [List.cons_append,look_cons_eq]
   exact h2
  ·rw [List.cons_append,look_cons_ne _ _ _ e]
   exact ih fun q hq=>hf q (List.mem_cons_of_mem _ hq)
theorem Rel.freezes (h:Rel X σ s a w):∀ {hs:List (Nat×Slot)},Frz s hs→Rel X σ (s.put [] [] hs) a w∧Stab w (Nof X σ s) w (Nof X σ (s.put [] [] hs))∧∀ b,Owns σ (s.put [] [] hs) b→Owns σ s b
 | [],_=>⟨h,Stab.refl _ _,fun _ h=>h⟩
 | (id,S)::r,hf=>by
  obtain ⟨h1,h2,h3⟩:=Rel.freezes h (hs:=r) fun q hq=>hf q (List.mem_cons_of_mem _ hq)
  obtain ⟨t,xs,e1,e2⟩:=hf (id,S) List.mem_cons_self
  dsimp only at e1 e2
  subst e2
  rcases frz_look (hs:=r) (fun q hq=>hf q (List.mem_cons_of_mem _ hq)) id with e3 | ⟨t',xs',e3,e4⟩
  ·rcases e1 with e1 | e1
   ·rw [e1] at e3
    obtain ⟨k1,k2,k3⟩:=h1.freeze (id:=id) (t:=t) (xs:=xs) e3
    exact ⟨k1,h2.trans k2,fun b hb=>h3 b (k3 b hb)⟩
   ·rw [e1] at e3
    obtain ⟨k1,k2,k3⟩:=h1.freezeNest (id:=id) (t:=t) (xs:=xs) e3
    exact ⟨k1,h2.trans k2,fun b hb=>h3 b (k3 b hb)⟩
  ·have h5:t=t'∧HEq xs xs':=by
    rcases e1 with e1 | e1 <;> rcases e3 with e3 | e3 <;> rw [e1] at e3 <;> cases e3 <;> exact ⟨rfl,HEq.rfl⟩
   obtain ⟨rfl,h5⟩:=h5
   cases h5
   have hh:∀ i,look .none (s.put [] [] ((id,.fro t xs)::r)).heap i=look .none (s.put [] [] r).heap i:=by
    intro i
    show look .none ((id,.fro t xs)::(r++s.heap)) i=look .none (r++s.heap) i
    by_cases e:id=i
    ·subst e; rw [look_cons_eq,e4]
    ·rw [look_cons_ne _ _ _ e]
   refine ⟨h1.look_eq rfl (fun _=>rfl) (fun _=>rfl) hh,?_,fun b hb=>h3 b ((owns_ext hh b).mp hb)⟩
   rw [nof_ext hh]
   exact h2
theorem cellR_nil {N:Nat→Prop} {t:Ty} {v:Value} (h:CellR σ w N (.nilsl t) v):v = .slice none 0 0:=h
theorem frz_of_row {id:Nat} {t:Ty} {xs:List t.den} (h:Rel X σ s a w) (hl:look .none s.heap id = .fro t xs):(∀ v,CellR σ w (Nof X σ s) (.sl id) v→CellR σ w (Nof X σ s) (.frz t xs) v) ∧
  (∀ lo hi v,CellR σ w (Nof X σ s) (.sub id lo hi) v→CellR σ w (Nof X σ s) (.frz t ((xs.take hi.toNat).drop lo.toNat)) v):=by
 have hs:=h.heap id
 rw [hl] at hs
 refine ⟨fun v hv=>?_,fun lo hi v hv=>?_⟩
 ·rcases hs with ⟨h0,hx0⟩ | ⟨b,off,size,us,h1 | ⟨_,h1⟩,h2,h3,h4,h5⟩
  ·simp only [CellR,h0] at hv
   subst hx0
   exact ⟨none,0,0,by rw [hv],rfl,Nat.le_refl _,.inl rfl⟩
  all_goals
   simp only [CellR,h1] at hv
   obtain ⟨a0,cap,rfl,hc,ha,_⟩:=hv
   refine ⟨_,_,_,rfl,rfl,hc,?_⟩
   rcases ha with rfl | rfl
   ·left; exact List.eq_nil_of_length_eq_zero (by omega)
   ·exact .inr ⟨b,off,us,rfl,h2,h3,h4,h5⟩
 ·rcases hs with ⟨h0,hx0⟩ | ⟨b,off,size,us,h1 | ⟨_,h1⟩,h2,h3,h4,h5⟩
  ·simp only [CellR,h0] at hv
   obtain ⟨rfl,rfl,rfl⟩:=hv
   exact ⟨none,0,0,rfl,by simp,Nat.le_refl _,.inl (by simp)⟩
  all_goals
   simp only [CellR,h1] at hv
   obtain ⟨a0,n,cap,rfl,hc,hlo,hhi,hle,ha,_⟩:=hv
   refine ⟨_,_,_,rfl,by simp; omega,hc,?_⟩
   rcases ha with rfl | rfl
   ·left; exact List.eq_nil_of_length_eq_zero (by simp; omega)
   ·refine .inr ⟨b,_,_,rfl,h2,h3,(h4.take (hi.toNat * t.size)).drop (lo.toNat * t.size),?_⟩
    exact ((h5.cut (fun _ _ d=>d.length)).1 hi.toNat |>.cut (fun _ _ d=>d.length)).2 lo.toNat
theorem resolve_ev (h:Rel X σ s a w):∀ {cs:List Cell} {vs:List Value} {k:List Cell→List (Nat×Slot)→Pl},Cells (CellR σ w (Nof X σ s)) cs vs→ev (resolve cs k) s=some e →
  ∃ ds hs,Frz s hs∧ds.length=cs.length∧ev (k ds hs) s=some e∧∀ hs',Frz s hs'→(∀ p ∈ hs,p ∈ hs')→Cells (CellR σ w (Nof X σ (s.put [] [] hs'))) ds vs
 | [],_,k,.nil,he=>⟨[],[],fun _ h=>by simp at h,rfl,he,fun _ _ _=>.nil⟩
 | x::r,_,k,.cons (v:=v) (vs:=vs) hx hr,he=>by
  have plain:ev (resolve r fun cs hs=>k (x::cs) hs) s=some e→∃ ds hs,Frz s hs∧ds.length=(x::r).length∧ev (k ds hs) s=some e∧∀ hs',Frz s hs'→(∀ p ∈ hs,p ∈ hs')→Cells (CellR σ w (Nof X σ (s.put [] [] hs'))) ds (v::vs):=by
   intro he
   obtain ⟨ds,hs,h1,h2,h3,h4⟩:=resolve_ev h hr he
   exact ⟨x::ds,hs,h1,by simp [h2],h3,fun hs' hf hm=>.cons (hx.stab (h.freezes hf).2.1) (h4 hs' hf hm)⟩
  have froz:∀ {id:Nat} {t:Ty} {xs:List t.den} {y:Cell} {q:List (Nat×Slot)},((look .none s.heap id = .row t xs∨look .none s.heap id = .nest t xs none)∧q=[(id,.fro t xs)])∨(look .none s.heap id = .fro t xs∧q=[]) →
    (∀ s',Rel X σ s' a w→look .none s'.heap id = .fro t xs→CellR σ w (Nof X σ s') x v→CellR σ w (Nof X σ s') y v) →
    ev (resolve r fun cs hs=>k (y::cs) (q++hs)) s=some e→∃ ds hs,Frz s hs∧ds.length=(x::r).length∧ev (k ds hs) s=some e∧∀ hs',Frz s hs'→(∀ p ∈ hs,p ∈ hs')→Cells (CellR σ w (Nof X σ (s.put [] [] hs'))) ds (v::vs):=by
   intro id t xs y q hl hy he
   obtain ⟨ds,hs,h1,h2,h3,h4⟩:=resolve_ev h hr he
   refine ⟨y::ds,q++hs,?_,by simp [h2],h3,fun hs' hf hm=>?_⟩
   ·intro p hp
    rcases List.mem_append.mp hp with hp | hp
    ·rcases hl with ⟨hl,rfl⟩ | ⟨_,rfl⟩
     ·obtain rfl:p=(id,.fro t xs):=by simpa using hp
      exact ⟨t,xs,hl,rfl⟩
     ·simp at hp
    ·exact h1 p hp
   ·obtain ⟨k1,k2,_⟩:=h.freezes hf
    refine .cons (hy _ k1 ?_ (hx.stab k2)) (h4 hs' hf fun p hp=>hm p (List.mem_append_right _ hp))
    show look .none (hs'++s.heap) id=_
    rcases hl with ⟨hl,rfl⟩ | ⟨hl,rfl⟩
    ·rcases frz_look hf id with e1 | ⟨t',xs',e1,e2⟩
     ·exfalso
      have hmem:(id,Slot.fro t xs) ∈ hs':=hm _ (by simp)
      have:∀ l:List (Nat×Slot),Frz s l→(id,Slot.fro t xs) ∈ l→∃ t' xs',look .none (l++s.heap) id = .fro t' xs':=by
       intro l
       induction l with
       | nil=>intro _ hm; simp at hm
       | cons p r ih=>
        intro hf hm
        obtain ⟨k,S⟩:=p
        by_cases ek:k=id
        ·subst ek
         obtain ⟨t',xs',_,h2⟩:=hf (k,S) List.mem_cons_self
         exact ⟨t',xs',by rw [List.cons_append,look_cons_eq]; exact h2⟩
        ·rw [List.cons_append,look_cons_ne _ _ _ ek]
         refine ih (fun q hq=>hf q (List.mem_cons_of_mem _ hq)) ?_
         rcases List.mem_cons.mp hm with hm | hm
         ·cases hm; exact (ek rfl).elim
         ·exact hm
      obtain ⟨t',xs',h9⟩:=this hs' hf hmem
      rcases hl with hl | hl <;> rw [e1,hl] at h9 <;> cases h9
     ·have h5:t=t'∧HEq xs xs':=by
       rcases e1 with e1 | e1 <;> rcases hl with hl | hl <;> rw [e1] at hl <;> cases hl <;> exact ⟨rfl,HEq.rfl⟩
      obtain ⟨rfl,h5⟩:=h5
      cases h5
      exact e2
    ·rcases frz_look hf id with e1 | ⟨t',xs',e1,e2⟩
     ·rw [e1,hl]
     ·rcases e1 with e1 | e1 <;> rw [hl] at e1 <;> cases e1
  cases x with
  | sl id=>
   simp only [resolve,ev] at he
   split at he
   ·rename_i t xs hl
    exact froz (.inl ⟨.inl hl,rfl⟩) (fun s' hs' hl' hv=>(frz_of_row hs' hl').1 v hv) he
   ·rename_i t xs hl
    exact froz (.inr ⟨hl,rfl⟩) (fun s' hs' hl' hv=>(frz_of_row hs' hl').1 v hv) he
   ·rename_i t xs hl
    exact froz (.inl ⟨.inr hl,rfl⟩) (fun s' hs' hl' hv=>(frz_of_row hs' hl').1 v hv) he
   ·cases he
  | sub id lo hi=>
   simp only [resolve,ev] at he
   split at he
   ·rename_i t xs hl
    exact froz (.inl ⟨.inl hl,rfl⟩) (fun s' hs' hl' hv=>(frz_of_row hs' hl').2 lo hi v hv) he
   ·rename_i t xs hl
    exact froz (.inr ⟨hl,rfl⟩) (fun s' hs' hl' hv=>(frz_of_row hs' hl').2 lo hi v hv) he
   ·cases he
  | _=>exact plain he
end
end Go.Eng
