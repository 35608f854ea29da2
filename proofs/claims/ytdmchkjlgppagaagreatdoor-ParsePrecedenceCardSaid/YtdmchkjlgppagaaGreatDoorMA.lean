/- Part 1 of a proof of ParsePrecedence (for all texts p, q): what it rests on. -/
import GoSem.Dispatch
import Derived.KernelRfl
import Derived.Orders
import Derived.Laws.Sem
import Derived.Laws.Append
import Derived.Laws.Strings
import Derived.OrdersIn
import Derived.RangeFuncLeaves
import Derived.RecoverIn
import Derived.LoopNIn
import Derived.Scope
set_option linter.all false
namespace Go.Ez
theorem om {p:Prop}(h:p:=by omega):p:=h
theorem dc {p:Prop}(h:p:=by decide):p:=h
theorem sm {p:Prop}(h:p:=by simp):p:=h
theorem kr {p:Prop}(h:p:=by kernel_rfl):p:=h
inductive AV where
 |bool (b:Bool)
 |int (k:IntKind) (n:Int)
 |str (s:List UInt8)
 |ptr0
 |ref (o off:Nat)
 |gref (g off:Nat)
 |pvec (xs:List AV) (es i:Nat)
 |sl0
 |vec (xs:List AV) (es:Nat) (full:Bool)
 |sl (o off len:Nat)
 |map0
 |map (o:Nat)
 |fn0
 |fn (f:Fn) (first captured:List AV)
 |if0
 |iface (t:TypeId) (v:AV)
 |agg (cs:List AV)
 |tup (vs:List AV)
 |undef
 |unk
 deriving Inhabited
inductive mP where
 |call (f:Fn) (args:List AV)
 |collected (o:Nat)
 deriving Inhabited
inductive aK where
 |cells (cs:List AV)
 |arr (es:Nat) (xs:List AV)
 |map (kv:List (AV×AV))
 |siter (s:List UInt8) (pos:Nat)
 |loop (st:LoopState) (pending:Option Code) (fn:FuncId) (tmps:List AV) (params:List Tmp) (assign body:Code) (defers:Nat)
 |dfr
 deriving Inhabited
abbrev Hp:=List (Nat×aK)
def Hp.get:Hp->Nat->Option aK
 |[],_=>none
 |(n,x)::t,o=>bif n==o then some x else Hp.get t o
def Hp.put:Hp->Nat->aK->Hp
 |[],o,y=>[(o,y)]
 |(n,x)::t,o,y=>bif n==o then (n,y)::t else (n,x)::Hp.put t o y
def Hp.del:Hp->Nat->Hp
 |[],_=>[]
 |(n,x)::t,o=>bif n==o then Hp.del t o else (n,x)::Hp.del t o
def Hp.cut (lo hi:Nat):Hp->Hp
 |[]=>[]
 |(n,x)::t=>bif Nat.ble lo n&&Nat.blt n hi then Hp.cut lo hi t else (n,x)::Hp.cut lo hi t
structure Out (α:Type) where
 val:α
 nx:Nat
 hi:Nat
 hp:Hp
 rd:Nat
 wr:Nat
inductive AM (α:Type):Type where
 |ret (a:α)
 |get (o:Nat) (k:aK->AM α)
 |set (o:Nat) (x:aK) (k:AM α)
 |new (x:aK) (k:Nat->AM α)
 |del (o:Nat) (k:AM α)
 |fail
namespace AM
variable {α β:Type}
def bind:AM α->(α->AM β)->AM β
 |.ret a,f=>f a
 |.get o k,f=>.get o fun x=>(k x).bind f
 |.set o x k,f=>.set o x (k.bind f)
 |.new x k,f=>.new x fun o=>(k o).bind f
 |.del o k,f=>.del o (k.bind f)
 |.fail,_=>.fail
instance:Monad AM where
 pure:=AM.ret
 bind:=AM.bind
def ofOpt:Option α->AM α
 |some a=>.ret a
 |none=>.fail
def must (b:Bool):AM Unit:=bif b then .ret () else .fail
end AM
def bit (o:Nat):Nat:=1 <<< o
def AM.run {α:Type}:AM α->Nat->Hp->Nat->Nat->Option (Out α)
 |.ret a,n,h,rd,wr=>some {val:=a,nx:=n,hi:=n,hp:=h,rd,wr}
 |.get o k,n,h,rd,wr=>match h.get o with
  |some x=>(k x).run n h (rd|||bit o) wr
  |none=>none
 |.set o x k,n,h,rd,wr=>match h.get o with
  |some _=>k.run n (h.put o x) rd (wr|||bit o)
  |none=>none
 |.new x k,n,h,rd,wr=>(k n).run (n+1) ((n,x)::h) rd (wr|||bit n)
 |.del o k,n,h,rd,wr=>match h.get o with
  |some _=>k.run n (h.del o) rd (wr|||bit o)
  |none=>none
 |.fail,_,_,_,_=>none
def dR (P:Program)(t:TypeId):Option Bool:=
 match P.underlying t with
 |some (.struct _) | some (.array _ _)=>some true
 |some _=>some false
 |none=>none
def bN (P:Program)(t:TypeId):Option Nat:=(P.info? t).map (·.size)
def qY (P:Program)(t:TypeId):Option Nat:=(P.info? t).map (·.bytes)
def oI (P:Program)(t:TypeId):Option TypeId:=
 match P.underlying t with
 |some (.slice e)=>some e
 |_=>none
def Cb:Value->Option AV
 |.bool b=>some (.bool b)
 |.int k n=>some (.int k n)
 |.string s=>some (.str s.data.toList)
 |.pointer none=>some .ptr0
 |.slice none 0 0=>some .sl0
 |.map none=>some .map0
 |.nilFunc=>some .fn0
 |.nilIface=>some .if0
 |_=>none
def wH:List Value->Option (List AV)
 |[]=>some []
 |v::vs=>match Cb v,wH vs with
  |some a,some l=>some (a::l)
  |_,_=>none
def Ca:Value->Option AV
 |.agg cs=>match wH cs.toList with
  |some l=>some (.agg l)
  |none=>none
 |v=>Cb v
def bK (P:Program)(t:TypeId):Option AV:=
 match P.info? t with
 |some i=>match i.zero with
  |some v=>Ca v
  |none=>none
 |none=>none
def AV.cells:AV->List AV
 |.agg cs=>cs
 |v=>[v]
def AV.one:AV->Bool
 |.agg _ | .tup _ | .undef | .unk=>false
 |_=>true
def AV.whole:AV->Bool
 |.agg cs=>cs.all AV.one
 |v=>v.one
def sub (cs:List AV)(i n:Nat):Option (List AV):=
 bif Nat.ble (i+n) cs.length then some ((cs.drop i).take n) else none
def splice (cs:List AV)(i:Nat)(vs:List AV):Option (List AV):=
 bif Nat.ble (i+vs.length) cs.length then some (cs.take i++(vs++cs.drop (i+vs.length))) else none
def cN (P:Program)(t:TypeId)(cs:List AV)(i:Nat):Option AV:=
 match dR P t,bN P t with
 |some true,some n=>(sub cs i n).map .agg
 |some false,some _=>cs[i]?
 |_,_=>none
def cF (P:Program)(t:TypeId)(es:Nat)(xs:List AV)(i:Nat):Option AV:=
 match xs[i / es]? with
 |some .unk=>none
 |some x=>cN P t x.cells (i % es)
 |none=>none
def dP (P:Program)(t:TypeId)(cs:List AV)(i:Nat)(v:AV):Option (List AV):=
 bif v.whole&&bN P t==some v.cells.length then splice cs i v.cells else none
def lJ (x:AV)(cs:List AV):AV:=match x with
 |.agg _=>.agg cs
 |y=>cs.headD y
def cP (P:Program)(t:TypeId)(es:Nat)(xs:List AV)(i:Nat)(v:AV):Option (List AV):=
 match xs[i / es]? with
 |some .unk=>none
 |some x=>match dP P t x.cells (i % es) v with
  |some cs=>bif cs.all AV.one then some (xs.set (i / es) (lJ x cs)) else none
  |none=>none
 |none=>none
inductive iW where
 |val (v:AV)
 |skip
 |enter (f:FuncId) (args:List AV)
 |round (o:Nat) (args:List AV)
 |dfr (d:mP)
 |pan (v:AV)
 |rcv
section ops
abbrev qC6:=Nat->Option (List AV)
variable (P:Program)(Gl:qC6)
def rM (t:TypeId)(a:AV):AM AV:=
 match a with
 |.ref o i=>.get o fun
  |.cells cs=>AM.ofOpt (cN P t cs i)
  |.arr es xs=>AM.ofOpt (cF P t es xs i)
  |_=>.fail
 |.pvec xs es i=>AM.ofOpt (cF P t es xs i)
 |.gref g i=>match Gl g with
  |some cs=>AM.ofOpt (cN P t cs i)
  |none=>.fail
 |_=>.fail
def Cr (t:TypeId)(a v:AV):AM Unit:=
 match a with
 |.ref o i=>.get o fun
  |.cells cs=>match dP P t cs i v with
   |some cs'=>.set o (.cells cs') (.ret ())
   |none=>.fail
  |.arr es xs=>match cP P t es xs i v with
   |some xs'=>.set o (.arr es xs') (.ret ())
   |none=>.fail
  |_=>.fail
 |_=>.fail
def bW (a:AV)(d:Nat):Option AV:=
 match a with
 |.ref o i=>some (.ref o (i+d))
 |.pvec xs es i=>some (.pvec xs es (i+d))
 |.gref g i=>some (.gref g (i+d))
 |_=>none
def zQ (s:TypeId)(f:Nat):Option Field:=
 match P.underlying s with
 |some (.struct fs)=>fs[f]?
 |_=>none
def aR (s:TypeId)(a:AV)(f:Nat):AM AV:=
 match zQ P s f with
 |some fd=>match bN P fd.type with
  |some 0=>.fail
  |some (_+1)=>AM.ofOpt (bW a fd.offset)
  |none=>.fail
 |none=>.fail
def nW (t:TypeId)(x:AV)(f:Nat):AM AV:=
 match zQ P t f,x with
 |some fd,.agg cs=>AM.ofOpt (cN P fd.type cs fd.offset)
 |_,_=>.fail
def inside (i:Int)(n:Nat):Option Nat:=
 match i with
 |.ofNat k=>bif Nat.blt k n then some k else none
 |.negSucc _=>none
def dU (t:TypeId)(x i:AV):AM AV:=
 match i with
 |.int _ i=>match P.underlying t with
  |some (.slice e)=>match bN P e,x with
   |some es,.vec xs es' _=>match inside i xs.length with
    |some k=>bif es==es' then .ret (.pvec xs es (k*es)) else .fail
    |none=>.fail
   |some es,.sl o off len=>.get o fun
    |.arr es' _=>match inside i len with
     |some k=>bif es==es' then .ret (.ref o ((off+k)*es)) else .fail
     |none=>.fail
    |_=>.fail
   |_,_=>.fail
  |some (.array len e)=>match bN P e,inside i len with
   |some es,some k=>AM.ofOpt (bW x (k*es))
   |_,_=>.fail
  |_=>.fail
 |_=>.fail
def sG (t:TypeId)(x i:AV):AM AV:=
 match i with
 |.int _ i=>match P.underlying t,x with
  |some .string,.str s=>match inside i s.length with
   |some k=>match s[k]? with
    |some b=>.ret (.int .u8 b.toNat)
    |none=>.fail
   |none=>.fail
  |some (.array len e),.agg cs=>match bN P e,inside i len with
   |some es,some k=>AM.ofOpt (cN P e cs (k*es))
   |_,_=>.fail
  |_,_=>.fail
 |_=>.fail
def dE (x:Option AV)(dflt:Nat):Option Nat:=
 match x with
 |none=>some dflt
 |some (.int _ (.ofNat k))=>some k
 |_=>none
def lK (t:TypeId)(x:AV)(lo hi mx:Option AV):AM AV:=
 match P.underlying t,x with
 |some .string,.str s=>match dE lo 0,dE hi s.length,mx with
  |some l,some h,none=>bif Nat.ble l h&&Nat.ble h s.length then .ret (.str ((s.drop l).take (h-l))) else .fail
  |_,_,_=>.fail
 |some (.slice e),.sl0=>match bN P e,dE lo 0,dE hi 0,dE mx 0 with
  |some _,some 0,some 0,some 0=>bif mx.isSome&&hi.isNone then .fail else .ret .sl0
  |_,_,_,_=>.fail
 |some (.slice e),.vec xs es full=>match bN P e,dE lo 0,dE hi xs.length,dE mx xs.length with
  |some es',some l,some h,some m=>
   bif es==es'&&Nat.ble l h&&Nat.ble h m&&Nat.ble m xs.length&&!(mx.isSome&&hi.isNone) then
    .ret (.vec ((xs.drop l).take (h-l)) es (bif mx.isSome then m==h else full&&h==xs.length))
   else .fail
  |_,_,_,_=>.fail
 |some (.slice e),.sl o off len=>match bN P e,dE lo 0,dE hi len with
  |some es',some l,some h=>.get o fun
   |.arr es xs=>
    bif es==es'&&Nat.ble l h then
     match mx with
     |none=>bif Nat.ble (off+h) xs.length then .ret (.sl o (off+l) (h-l)) else .fail
     |some (.int _ (.ofNat m))=>bif hi.isSome&&Nat.ble (off+m) xs.length&&l==h&&h==m then .ret (.vec [] es true) else .fail
     |some _=>.fail
    else .fail
   |_=>.fail
  |_,_,_=>.fail
 |_,_=>.fail
def nV (x:AV)(es:Nat):AM (List AV):=
 match x with
 |.sl0=>.ret []
 |.vec xs es' _=>bif es==es' then .ret xs else .fail
 |.sl o off len=>.get o fun
  |.arr es' xs=>bif es==es'&&Nat.ble (off+len) xs.length then .ret ((xs.drop off).take len) else .fail
  |_=>.fail
 |.str s=>bif es==1 then .ret (s.map fun b=>.int .u8 b.toNat) else .fail
 |_=>.fail
def qL:TypeDesc->Bool
 |.int _=>true
 |_=>false
def lV (n bytes:Nat):Bool:=Nat.ble (n*bytes) 140737488355328&&Nat.ble 1 bytes
def jH (argTypes:Array TypeId)(s x:AV):AM AV:=
 match argTypes[0]?,argTypes[1]? with
 |some t,some u=>match oI P t,P.underlying u with
  |some e,some ud=>match bN P e,qY P e,bK P e with
   |some es,some bytes,some z=>
    bif qL ud || es==0 || !(z.whole&&z.cells.length==es) then .fail else
    (nV x es).bind fun news=>
    bif !(news.all AV.whole) then .fail else
    match s with
    |.sl0=>match news with
     |[]=>.ret .sl0
     |_::_=>bif lV news.length bytes then .new (.arr es news) fun o=>.ret (.sl o 0 news.length) else .fail
    |.vec xs es' full=>bif es==es' then
      match news with
      |[]=>.ret s
      |_::_=>bif full&&lV (xs.length+news.length) bytes then .new (.arr es (xs++news)) fun o=>.ret (.sl o 0 (xs.length+news.length)) else .fail
     else .fail
    |.sl o off len=>.get o fun
     |.arr es' xs=>bif es==es'&&lV (len+news.length) bytes then
       match news with
       |[]=>.ret s
       |_::_=>
        bif Nat.ble (off+len+news.length) xs.length then
         .set o (.arr es (xs.take (off+len)++(news++xs.drop (off+len+news.length)))) (.ret (.sl o off (len+news.length)))
        else bif off+len==xs.length then
         .del o (.new (.arr es (xs.drop off++news)) fun o'=>.ret (.sl o' 0 (len+news.length)))
        else .fail
      else .fail
     |_=>.fail
    |_=>.fail
   |_,_,_=>.fail
  |_,_=>.fail
 |_,_=>.fail
def pK (argTypes:Array TypeId)(x:AV):AM AV:=
 match argTypes[0]? with
 |some t=>match P.underlying t,x with
  |some .string,.str s=>.ret (.int .i64 s.length)
  |some (.slice _),.sl0=>.ret (.int .i64 0)
  |some (.slice _),.vec xs _ _=>.ret (.int .i64 xs.length)
  |some (.slice _),.sl _ _ n=>.ret (.int .i64 n)
  |some (.array n _),.agg _=>.ret (.int .i64 n)
  |some (.map _ _),.map0=>.ret (.int .i64 0)
  |some (.map _ _),.map o=>.get o fun
   |.map kv=>.ret (.int .i64 kv.length)
   |_=>.fail
  |_,_=>.fail
 |none=>.fail
def tY:AV->AV->Option AV
 |.int k x,.int _ y=>some (.int k (if y>x then y else x))
 |_,_=>none
def Bt:AV->AV->Option AV
 |.int k x,.int _ y=>some (.int k (if y<x then y else x))
 |_,_=>none
def mM (f:AV->AV->Option AV):AV->List AV->Option AV
 |x,[]=>some x
 |x,y::r=>match f x y with
  |some z=>mM f z r
  |none=>none
def yV:AV->AV->Option Bool
 |.int k a,.int k' b=>if k=k' then some (a==b) else none
 |.str a,.str b=>some (a==b)
 |.bool a,.bool b=>some (a==b)
 |_,_=>none
def nJ (t:TypeId)(x:AV):Bool:=
 match P.underlying t,x with
 |some (.int _),.int _ _=>true
 |some .string,.str _=>true
 |some .bool,.bool _=>true
 |_,_=>false
def mY (k:AV):List (AV×AV)->Option (Option AV)
 |[]=>some none
 |(k',v)::t=>match yV k k' with
  |some true=>some (some v)
  |some false=>mY k t
  |none=>none
def jM (k v:AV):List (AV×AV)->Option (List (AV×AV))
 |[]=>some [(k,v)]
 |(k',v')::t=>match yV k k' with
  |some true=>some ((k,v)::t)
  |some false=>match jM k v t with
   |some t'=>some ((k',v')::t')
   |none=>none
  |none=>none
def kH (t:TypeId)(m k:AV)(ok:Bool):AM AV:=
 match P.underlying t with
 |some (.map kt et)=>bif nJ P kt k then
   let fin (r:Option AV):AM AV:=match r with
    |some v=>.ret (bif ok then .tup [v,.bool true] else v)
    |none=>match bK P et with
     |some z=>.ret (bif ok then .tup [z,.bool false] else z)
     |none=>.fail
   match m with
   |.map0=>fin none
   |.map o=>.get o fun
    |.map kv=>match mY k kv with
     |some r=>fin r
     |none=>.fail
    |_=>.fail
   |_=>.fail
  else .fail
 |_=>.fail
def fY (t:TypeId)(m k v:AV):AM Unit:=
 match P.underlying t with
 |some (.map kt _)=>bif nJ P kt k then
   match m with
   |.map o=>.get o fun
    |.map kv=>match jM k v kv with
     |some kv'=>.set o (.map kv') (.ret ())
     |none=>.fail
    |_=>.fail
   |_=>.fail
  else .fail
 |_=>.fail
def nP (eq:TypeId->AV->AV->Option Bool)(xs ys:List AV):List Field->Option Bool
 |[]=>some true
 | f :: r => if f.name = "_" then nP eq xs ys r else
  match cN P f.type xs f.offset,cN P f.type ys f.offset with
  |some a,some b=>match eq f.type a b with
   |some true=>nP eq xs ys r
   |some false=>some false
   |none=>none
  |_,_=>none
def yP:Nat->TypeId->AV->AV->Option Bool
 |0,_,_,_=>none
 |d+1,t,x,y=>
  match P.underlying t,x,y with
  |some .bool,.bool a,.bool b=>some (a==b)
  |some (.int _),.int k a,.int k' b=>if k=k' then some (a==b) else none
  |some .string,.str a,.str b=>some (a==b)
  |some (.pointer _),.ptr0,.ptr0=>some true
  |some (.pointer _),.ptr0,.ref _ _ | some (.pointer _),.ref _ _,.ptr0=>some false
  |some (.pointer _),.ptr0,.pvec _ _ _ | some (.pointer _),.pvec _ _ _,.ptr0=>some false
  |some (.interface _),.if0,.if0=>some true
  |some (.interface _),.if0,.iface _ _ | some (.interface _),.iface _ _,.if0=>some false
  |some (.interface _),.iface tx vx,.iface ty vy=>
   if tx≠ty then some false else
   match P.info? tx with
   |some i=>bif i.comparable then yP d tx vx vy else none
   |none=>none
  |some (.slice _),.sl0,.sl0=>some true
  |some (.slice _),.sl0,.vec _ _ _ | some (.slice _),.vec _ _ _,.sl0=>some false
  |some (.slice _),.sl0,.sl _ _ _ | some (.slice _),.sl _ _ _,.sl0=>some false
  |some (.func _ _ _),.fn0,.fn0=>some true
  |some (.func _ _ _),.fn0,.fn _ _ _ | some (.func _ _ _),.fn _ _ _,.fn0=>some false
  |some (.struct fs),.agg xs,.agg ys=>
   bif P.stoodInHeld t then none else
   nP P (yP d) xs ys fs.toList
  |_,_,_=>none
def qE:List UInt8->List UInt8->Bool:=Op.bytesLess
def gZ (op:BinOp)(k:IntKind)(a b:Int):Option AV:=
 match op with
 |.add=>some (.int k (k.wrap (a+b)))
 |.sub=>some (.int k (k.wrap (a-b)))
 |.mul=>some (.int k (k.wrap (a*b)))
 |.quo=>if b=0 then none else some (.int k (k.wrap (a.tdiv b)))
 |.rem=>if b=0 then none else some (.int k (a.tmod b))
 |.and=>some (.int k (k.wrap (BitVec.ofInt k.bits a&&&BitVec.ofInt k.bits b).toNat))
 |.or=>some (.int k (k.wrap (BitVec.ofInt k.bits a|||BitVec.ofInt k.bits b).toNat))
 |.xor=>some (.int k (k.wrap (BitVec.ofInt k.bits a ^^^ BitVec.ofInt k.bits b).toNat))
 |.andNot=>some (.int k (k.wrap (BitVec.ofInt k.bits a&&&~~~ BitVec.ofInt k.bits b).toNat))
 |.eql=>some (.bool (a==b))
 |.neq=>some (.bool (a != b))
 |.lss=>some (.bool (a<b))
 |.leq=>some (.bool (a<=b))
 |.gtr=>some (.bool (a>b))
 |.geq=>some (.bool (a ≥ b))
 |_=>none
def Ja (op:BinOp)(a b:List UInt8):Option AV:=
 match op with
 |.add=>bif Nat.ble (a.length+b.length) 9223372036854775807 then some (.str (a++b)) else none
 |.eql=>some (.bool (a==b))
 |.neq=>some (.bool !(a==b))
 |.lss=>some (.bool (qE a b))
 |.leq=>some (.bool (qE a b || a==b))
 |.gtr=>some (.bool !(qE a b || a==b))
 |.geq=>some (.bool !(qE a b))
 |_=>none
def cL (op:BinOp)(t:TypeId)(lit:Bool)(x y:AV):Option AV:=
 match op,x,y with
 |.shl,.int k a,.int _ b=>if b<0 then none else some (.int k (k.wrap (a*2 ^ (min b.toNat k.bits))))
 |.shr,.int k a,.int _ b=>if b<0 then none else some (.int k (a.fdiv (2 ^ (min b.toNat k.bits))))
 |op,.int k a,.int k' b=>if k≠k' then none else gZ op k a b
 |op,.str a,.str b=>Ja op a b
 |.eql,x,y=>(eqTop x y).map .bool
 |.neq,x,y=>(eqTop x y).map fun b=>.bool (!b)
 |_,_,_=>none
where
 eqTop (x y:AV):Option Bool:=
  match x,y with
  |.if0,.if0=>bif lit then yP P 100 t x y else none
  |.agg _,.agg _=>bif P.eqGuardType P.depth t then none else yP P 100 t x y
  |_,_=>yP P 100 t x y
def Nu (op:UnOp)(x:AV):Option AV:=
 match op,x with
 |.neg,.int k n=>some (.int k (k.wrap (0-n)))
 |.xor,.int k n=>gZ .xor k (if k.signed then -1 else k.max) n
 |.not,.bool b=>some (.bool !b)
 |_,_=>none
def bytesOf:List AV->Option (List UInt8)
 |[]=>some []
 |.int .u8 n::r=>match bytesOf r with
  |some l=>some (UInt8.ofNat n.toNat::l)
  |none=>none
 |_=>none
def Zp:AV->Bool
 |.sl0 | .vec _ _ _ | .sl _ _ _=>true
 |_=>false
def lD (src dst:TypeId)(x:AV):AM AV:=
 match P.underlying src,P.underlying dst,x with
 |some _,some (.int k),.int _ n=>.ret (.int k (k.wrap n))
 |some _,some .string,.int _ n=>.ret (.str (Utf8.encode n).data.toList)
 |some _,some .string,.str s=>.ret (.str s)
 |some (.slice e),some .string,x=>match P.underlying e with
  |some (.int .u8)=>bif !(Zp x) then .fail else (nV x 1).bind fun xs=>match bytesOf xs with
   |some l=>.ret (.str l)
   |none=>.fail
  |_=>.fail
 |_,_,_=>.fail
def gW (place:Nat->Option (Nat×Nat))(cells:List AV):List (Nat×AV)->Option (List AV)
 |[]=>some cells
 |(i,v)::r=>match place i with
  |some (off,size)=>bif v.whole&&v.cells.length==size then
    match splice cells off v.cells with
    |some cs=>gW place cs r
    |none=>none
   else none
  |none=>none
def placesOf (fs:List Field):Option (List (Nat×Nat)):=
 match fs with
 |[]=>some []
 |f::r=>match bN P f.type,placesOf r with
  |some n,some l=>some ((f.offset,n)::l)
  |_,_=>none
def gQ (t:TypeId)(parts:List (Nat×AV)):Option AV:=
 match bK P t,P.underlying t with
 |some z,some (.struct fs)=>match placesOf P fs.toList with
  |some l=>(gW (l[·]?) z.cells parts).map .agg
  |none=>none
 |some z,some (.array _ e)=>match bN P e with
  |some n=>(gW (fun i=>some (i*n,n)) z.cells parts).map .agg
  |none=>none
 |_,_=>none
def oV (agg:Bool):AV->Bool
 |.agg _=>agg
 |_=>!agg
def jA (es:Nat)(agg:Bool)(xs:List AV):List (Nat×AV)->Option (List AV)
 |[]=>some xs
 |(i,v)::r=>bif v.whole&&v.cells.length==es&&oV agg v&&Nat.blt i xs.length then jA es agg (xs.set i v) r else none
def bU (t:TypeId)(len:Nat)(parts:List (Nat×AV)):AM AV:=
 match oI P t with
 |some e=>match bN P e,dR P e,bK P e with
  |some es,some agg,some z=>
   bif Nat.ble (len*es) 16777216&&!(es==0)&&z.cells.length==es&&z.whole&&oV agg z then
    match jA es agg (List.replicate len z) parts with
    |some xs=>.ret (.vec xs es true)
    |none=>.fail
   else .fail
  |_,_,_=>.fail
 |none=>.fail
def kJ (t:TypeId)(len cap:AV):AM AV:=
 match oI P t,len,cap with
 |some e,.int .i64 (.ofNat l),.int .i64 (.ofNat c)=>match bN P e,qY P e,dR P e,bK P e with
  |some es,some bytes,some agg,some z=>
   bif Nat.ble l c&&Nat.ble c 9223372036854775807&&lV c bytes&&!(es==0)&&z.cells.length==es&&z.whole&&oV agg z then
    .new (.arr es (List.replicate c z)) fun o=>.ret (.sl o 0 l)
   else .fail
  |_,_,_,_=>.fail
 |_,_,_=>.fail
def iA (x:AV)(_xType asserted:TypeId)(ok:Bool):AM AV:=
 match P.underlying asserted,x with
 |some (.interface _),_=>.fail
 |some _,.if0=>bif ok then (match bK P asserted with | some z=>.ret (.tup [z,.bool false]) | none=>.fail) else .fail
 |some _,.iface t v=>
  if t=asserted then .ret (bif ok then .tup [v,.bool true] else v)
  else bif ok then (match bK P asserted with | some z=>.ret (.tup [z,.bool false]) | none=>.fail) else .fail
 |_,_=>.fail
def Gc (it:AV)(isString:Bool):AM AV:=
 match it,isString with
 |.ref o 0,true=>.get o fun
  |.siter s pos=>bif Nat.blt pos s.length then
    let (c,w):=Utf8.decode ⟨⟨s⟩⟩ pos
    .set o (.siter s (pos+w)) (.ret (.tup [.bool true,.int .i64 pos,.int .i32 c]))
   else .ret (.tup [.bool false])
  |_=>.fail
 |_,_=>.fail
end ops
structure bE where
 tmps:List AV
 defers:List mP
 rnd:Option Nat
def bE.put (a:bE)(dst:Option Tmp)(v:AV):bE:=
 match dst with
 |some d=>{a with tmps:=a.tmps.set d v}
 |none=>a
def bE.eval (a:bE):Operand->AV
 |.tmp t=>a.tmps.getD t .undef
 |.const v=>(Ca v).getD .unk
 |.global g=>.gref g 0
 |.func f=>.fn (.func f) [] []
def isLit (o:Operand):Bool:=match o with | .const _=>true | _=>false
def aT (P:Program)(f:FuncId)(args:List AV):AM iW:=
 match P.funcs[f]? with
 |some fn=>match fn.body with
  | some _ => bif fn.name == "runtime.NumGoroutine" then .fail else .ret (.enter f args)
  |none=>.fail
 |none=>.fail
def fF (P:Program)(Gl:qC6)(ρ:Operand->AV)(o:Oper):AM iW:=
 let v (m:AM AV):AM iW:=m.bind fun x=>.ret (.val x)
 let u (m:AM Unit):AM iW:=m.bind fun _=>.ret .skip
 match o.op with
 |.move x | .assign x=>.ret (.val (ρ x))
 |.pick c a b=>match ρ c with
  |.bool t=>.ret (.val (bif t then ρ a else ρ b))
  |_=>.fail
 |.alloc e=>match bK P e with
  |some z=>bif z.whole then .new (.cells z.cells) fun o=>.ret (.val (.ref o 0)) else .fail
  |none=>.fail
 |.box _ x=>bif (ρ x).whole then .new (.cells (ρ x).cells) fun o=>.ret (.val (.ref o 0)) else .fail
 |.build t parts=>v (AM.ofOpt (gQ P t (parts.toList.map fun (i,x)=>(i,ρ x))))
 |.buildSlice t len parts=>v (bU P t len (parts.toList.map fun (i,x)=>(i,ρ x)))
 |.load t a=>v (rM P Gl t (ρ a))
 |.store t a x=>u (Cr P t (ρ a) (ρ x))
 |.nilCheck x=>match ρ x with
  |.ref o i=>.ret (.val (.ref o i))
  |.gref o i=>.ret (.val (.gref o i))
  |.pvec xs es i=>.ret (.val (.pvec xs es i))
  | .ptr0 | .fn0 | .if0 => .ret (.pan (.iface P.rt.errorString (.str "invalid memory address or nil pointer dereference".toUTF8.data.toList)))
  |_=>.fail
 |.binOp op t x y _=>v (AM.ofOpt (cL P op t (isLit x || isLit y) (ρ x) (ρ y)))
 |.unOp op _ x=>v (AM.ofOpt (Nu op (ρ x)))
 |.convert s d x=>v (lD P s d (ρ x))
 |.makeInterface t x=>match P.underlying t with
  |some (.interface _) | none=>.fail
  |some _=>.ret (.val (.iface t (ρ x)))
 |.makeFunc fn first cap=>match fn with
  |.func f=>.ret (.val (.fn (.func f) (first.toList.map ρ) (cap.toList.map ρ)))
  |_=>.fail
 |.makeMap t r=>match r,P.underlying t with
  |none,_=>.new (.map []) fun o=>.ret (.val (.map o))
  |some x,some (.map _ _)=>match ρ x with
   |.int _ _=>.new (.map []) fun o=>.ret (.val (.map o))
   |_=>.fail
  |_,_=>.fail
 |.makeSlice t l c=>v (kJ P t (ρ l) (ρ c))
 |.slice t x lo hi mx=>v (lK P t (ρ x) (lo.map ρ) (hi.map ρ) (mx.map ρ))
 |.fieldAddr s x f=>v (aR P s (ρ x) f)
 |.field t x f=>v (nW P t (ρ x) f)
 |.indexAddr t x i=>v (dU P t (ρ x) (ρ i))
 |.index t x i=>v (sG P t (ρ x) (ρ i))
 |.lookup t x i ok=>v (kH P t (ρ x) (ρ i) ok)
 |.mapUpdate t m k x | .insert t m k x=>u (fY P t (ρ m) (ρ k) (ρ x))
 |.range t x=>match P.underlying t,ρ x with
  |some .string,.str s=>.new (.siter s 0) fun o=>.ret (.val (.ref o 0))
  |_,_=>.fail
 |.next it isS=>v (Gc (ρ it) isS)
 |.typeAssert x t a ok=>v (iA P (ρ x) t a ok)
 |.extract t i=>match ρ t with
  |.tup vs=>match vs[i]? with
   |some x=>.ret (.val x)
   |none=>.fail
  |_=>.fail
 |.panic x=>match ρ x with
  |.iface t y=>.ret (.pan (.iface t y))
  |_=>.fail
 |.defer c=>match c.callee with
  |.value f=>match ρ f with
   |.fn (.func g) first cap=>.ret (.dfr (.call (.func g) ((first++c.args.toList.map ρ)++cap)))
   |_=>.fail
  |_=>.fail
 |.call c=>match c.callee with
  |.value f=>match ρ f with
   |.fn (.func g) first cap=>aT P g ((first++c.args.toList.map ρ)++cap)
   |.fn (.yield l) [] []=>.ret (.round l (c.args.toList.map ρ))
   |_=>.fail
  |.invoke _ _=>.fail
  |.builtin b=>match b,c.args.toList.map ρ with
   |.append,[s,x]=>bif c.argTypes.size==2 then v (jH P c.argTypes s x) else .fail
   |.len,[x]=>v (pK P c.argTypes x)
   |.max,x::r=>v (AM.ofOpt (mM tY x r))
   |.min,x::r=>v (AM.ofOpt (mM Bt x r))
   |.panic,[.iface t y]=>.ret (.pan (.iface t y))
   |.recover,[]=>.ret .rcv
   |_,_=>.fail
 |_=>.fail
abbrev C (α:Type):=Nat->Hp->Option (Out α)
namespace C
variable {α β:Type}
def ret (a:α):C α:=fun n h=>some {val:=a,nx:=n,hi:=n,hp:=h,rd:=0,wr:=0}
def fail:C α:=fun _ _=>none
def bind (x:C α)(f:α->C β):C β:=fun n h=>
 match x n h with
 |none=>none
 |some o=>match f o.val o.nx o.hp with
  |none=>none
  |some p=>some {val:=p.val,nx:=p.nx,hi:=Nat.max o.hi p.hi,hp:=p.hp,rd:=o.rd|||p.rd,wr:=o.wr|||p.wr}
def am (m:AM α):C α:=fun n h=>m.run n h 0 0
end C
inductive mQ where
 |normal
 |exit (id:Nat)
 |goto (l:Nat)
 |ret
 |pan (v:AV)
inductive aS where
 |returned (v:AV)
 |panicked (v:AV)
inductive rR where
 |put (v:AV)
 |dfr (d:mP)
 |pan (v:AV)
def xC (ops:Array Oper)(a:bE)(j:Nat):Option Bool:=
 match (ops[j]?).bind (·.dst) with
 |some d=>match a.tmps[d]? with
  |some (.bool b)=>some b
  |_=>none
 |none=>none
def cI (ops:Array Oper)(a:bE)(o:Oper):Bool:=
 match o.guard with
 |none=>true
 |some (j,_)=>match (ops[j]?).bind (·.dst) with
  |some d=>match a.tmps[d]? with
   |some .unk=>false
   |_=>true
  |none=>true
def dY (ops:Array Oper)(a:bE)(o:Oper):Bool:=
 match o.guard with
 |none=>true
 |some (j,want)=>match xC ops a j with
  |some b=>b==want
  |none=>false
structure Rec where
 i:Nat
 n:Nat
 hi:Nat
 rd:Nat
 wr:Nat
def xK (acc:List Nat):List Edge->Nat->Nat
 |[],s=>s
 |e::r,s=>xK acc r (bif Region.binds .any e then s|||bit e.on|||acc.getD e.on 0 else s)
def Ke:List Oper->List Nat->List Nat
 |[],acc=>acc
 |o::r,acc=>Ke r (acc++[xK acc o.after.toList 0])
def jS (ops:Array Oper):List Nat:=Ke ops.toList []
def zO:List Oper->Nat->Bool
 |[],_=>true
 |o::r,i=>(o.after.toList.all fun e=>!Region.binds .any e || Nat.blt e.on i)&&zO r (i+1)
def kD (ops : Array Oper) (before : List Nat) : Bool :=
  zO ops.toList 0 && (List.range ops.size).all fun i => (List.range i).all fun j =>
    (before.getD i 0).testBit j ||
      (match ops[i]?, ops[j]? with
       | some x, some y => Oper.apart ops x y
       | _, _ => false)
def clear (before:Nat)(rd wr:Nat):List Rec->Bool
 |[]=>true
 |r::rs=>(before.testBit r.i || ((wr&&&(r.rd|||r.wr))==0&&(rd&&&r.wr)==0))&&clear before rd wr rs
structure rQ where
 act:bE
 ret:Nat
 hi:Nat
 hp:Hp
 recs:List Rec
 rd:Nat
 wr:Nat
def forget (a:bE):List Oper->bE
 |[]=>a
 |o::r=>forget (a.put o.dst .unk) r
def Hp.below (n:Nat):Hp->Bool
 |[]=>true
 |(m,_)::t=>Nat.blt m n&&Hp.below n t
def gG (h:Hp)(anc:Nat)(upto:Nat):List Rec->Hp
 |[]=>h
 |r::rs=>gG (bif Nat.blt r.i upto&&!anc.testBit r.i then Hp.cut r.n r.hi h else h) anc upto rs
def nL (anc:Nat)(j:Nat):List Rec->Bool
 |[]=>true
 |r::rs=>(r.i==j || anc.testBit r.i || r.wr % 2 ^ r.n==0)&&nL anc j rs
mutual
def jO (lo:Nat):AV->Bool
 |.ref o _ | .sl o _ _ | .map o=>Nat.blt o lo
 |.fn f a c=>(match f with | .yield l=>Nat.blt l lo | _=>true)&&lF lo a&&lF lo c
 |.iface _ v=>jO lo v
 |.agg cs | .tup cs=>lF lo cs
 |.pvec xs _ _ | .vec xs _ _=>lF lo xs
 |_=>true
def lF (lo:Nat):List AV->Bool
 |[]=>true
 |x::xs=>jO lo x&&lF lo xs
end
def zR (lo:Nat):List (AV×AV)->Bool
 |[]=>true
 |(k,v)::r=>jO lo k&&jO lo v&&zR lo r
def Qu (lo:Nat):aK->Bool
 |.cells cs=>lF lo cs
 |.arr _ xs=>lF lo xs
 |.map kv=>zR lo kv
 |.siter _ _=>true
 |.loop _ _ _ ts _ _ _ d=>lF lo ts&&Nat.blt d lo
 |.dfr=>true
def Qs (lo wr:Nat):Hp->Bool
 |[]=>true
 |(n,x)::t=>(!(Nat.blt n lo&&wr.testBit n) || Qu lo x)&&Qs lo wr t
mutual
def nI:Nat->List AV->C (List AV)
 |0,xs=>match xs with
  |[]=>C.ret []
  |_=>C.fail
 |fuel+1,xs=>match xs with
  |[]=>C.ret []
  |x::xs=>C.bind (qH fuel x) fun y=>C.bind (nI fuel xs) fun ys=>C.ret (y::ys)
termination_by structural fuel=>fuel
def qH:Nat->AV->C AV
 |0,_=>C.fail
 |fuel+1,v=>match v with
  |.agg cs=>C.bind (nI fuel cs) fun ds=>C.ret (.agg ds)
  |.sl o off len=>fun n h=>match h.get o with
   |some (.arr es xs)=>bif Nat.ble (off+len) xs.length then
     match nI fuel ((xs.drop off).take len) n h with
     |some r=>some {r with val:=.vec r.val es false,hp:=r.hp.del o,rd:=r.rd|||bit o,wr:=r.wr|||bit o}
     |none=>none
    else none
   |_=>none
  |v=>C.ret v
termination_by structural fuel=>fuel
end
def xR:Bool->Nat->AV->C AV
 |true,_,.sl o off len=>C.ret (.sl o off len)
 |_,fuel,v=>qH fuel v
def gD (top:Bool):Nat->List AV->C (List AV)
 |_,[]=>C.ret []
 |0,_::_=>C.fail
 |fuel+1,x::xs=>C.bind (xR top fuel x) fun y=>C.bind (gD top fuel xs) fun ys=>C.ret (y::ys)
def isRecover:Op->Bool
 |.call c=>(match c.callee with | .builtin .recover=>true | _=>false)&&c.args.size==0
 |_=>false
section ev
abbrev qC7:=FuncId->Option (List AV->C aS)
abbrev qC8:=FuncId->Bool×Bool
variable (P:Program)(Gl:qC6)(Gm:qC7)(Kp:qC8)
def fG (a:bE):List ResultVar->AM (List AV)
 |[]=>.ret []
 |.tmp t::r=>(fG a r).bind fun l=>.ret (a.tmps.getD t .undef::l)
 |.cell p t::r=>(rM P Gl t (a.tmps.getD p .undef)).bind fun v=>(fG a r).bind fun l=>.ret (v::l)
def jJ:List AV->List Tmp->List AV->List AV
 |ts,p::ps,v::vs=>jJ (ts.set p v) ps vs
 |ts,_,_=>ts
def jR (vs:List AV):AV:=match vs with
 |[v]=>v
 |vs=>.tup vs
def alone (_:Bool)(_:List AV)(x:C aS):C aS:=x
mutual
def bD:Nat->Code->bE->C (mQ×bE)
 |0,_,_=>C.fail
 |fuel+1,c,a=>
  match c with
  |.skip | .label _=>C.ret (.normal,a)
  |.exit id=>C.ret (.exit id,a)
  |.goto l=>C.ret (.goto l,a)
  |.ret=>C.ret (.ret,a)
  |.seq x y=>C.bind (bD fuel x a) fun
   |(.normal,a')=>bD fuel y a'
   |r=>C.ret r
  |.cond c x y=>match a.eval c with
   |.bool true=>bD fuel x a
   |.bool false=>bD fuel y a
   |_=>C.fail
  |.block id x=>C.bind (bD fuel x a) fun
   |(.exit id',a')=>bif id'==id then C.ret (.normal,a') else C.ret (.exit id',a')
   |r=>C.ret r
  |.loop x=>C.bind (bD fuel x a) fun
   |(.normal,a')=>bD fuel (.loop x) a'
   |r=>C.ret r
  |.region _ ops false=>eS fuel ops ops.toList a
  |.region _ ops true=>
   bif kD ops (jS ops) then fun n h=>
    fX fuel ops (jS ops) 0 ops.toList {act:=a,ret:=n,hi:=n,hp:=h,recs:=[],rd:=0,wr:=0}
   else C.fail
  |.rangeFunc f ps asg body=>match a.rnd,a.eval f with
   |none,.fn (.func g) first cap=>
    C.bind (C.am (.new .dfr fun r=>.new (.loop .ready none 0 a.tmps ps.toList asg body r) fun l=>.ret (r,l))) fun (r,l)=>
    let a':bE:={a with defers:=.collected r::a.defers}
    C.bind (C.am (aT P g (first++[.fn (.yield l) [] []]++cap))) fun _=>
    C.bind (fT fuel g (first++[.fn (.yield l) [] []]++cap)) fun
     |.panicked v=>C.ret (.pan v,a')
     |.returned _=>
      C.bind (C.am (.get l fun
       |.loop st p fn ts pr ag b d=>match st with
        |.busy=>.fail
        |_=>.set l (.loop .exhausted p fn ts pr ag b d) (.ret p)
       |_=>.fail)) fun
       |none=>C.ret (.normal,a')
       |some j=>bD fuel j a'
   |_,_=>C.fail
  |.scope x=>C.bind (bD fuel x a) fun
   |(.goto _,_)=>C.fail
   |r=>C.ret r
  |.refuse _=>C.fail
termination_by structural fuel=>fuel
def jU:Nat->Oper->bE->C rR
 |0,_,_=>C.fail
 |fuel+1,o,a=>C.bind (C.am (fF P Gl a.eval o)) fun
  |.val v=>C.ret (.put v)
  |.skip=>C.ret (.put .undef)
  |.dfr d=>match a.rnd with
   |none=>C.ret (.dfr d)
   |some _=>C.fail
  |.pan v=>C.ret (.pan v)
  |.rcv=>C.fail
  |.enter f args=>C.bind (fT fuel f args) fun
   |.returned v=>C.ret (.put v)
   |.panicked v=>C.ret (.pan v)
  |.round l args=>C.bind (jV fuel l args) fun
   |.returned v=>C.ret (.put v)
   |.panicked v=>C.ret (.pan v)
termination_by structural fuel=>fuel
def eS:Nat->Array Oper->List Oper->bE->C (mQ×bE)
 |_,_,[],a=>C.ret (.normal,a)
 |0,_,_::_,_=>C.fail
 |fuel+1,ops,o::r,a=>
  bif cI ops a o then
   bif dY ops a o then C.bind (jU fuel o a) fun
    |.put v=>eS fuel ops r (a.put o.dst v)
    |.dfr d=>eS fuel ops r ({a with defers:=d::a.defers}.put o.dst .undef)
    |.pan v=>C.ret (.pan v,a)
   else eS fuel ops r (a.put o.dst .undef)
  else C.fail
termination_by structural fuel=>fuel
def fX:Nat->Array Oper->List Nat->Nat->List Oper->rQ->Option (Out (mQ×bE))
 |_,_,_,_,[],s=>some {val:=(.normal,s.act),nx:=bif Hp.below s.ret s.hp then s.ret else s.hi,hi:=s.hi,hp:=s.hp,rd:=s.rd,wr:=s.wr}
 |0,_,_,_,_::_,_=>none
 |fuel+1,ops,bf,i,o::r,s=>
  bif cI ops s.act o then
   bif dY ops s.act o then
    match jU fuel o s.act s.hi s.hp with
    |none=>none
    |some out=>
     bif clear (bf.getD i 0) out.rd out.wr s.recs then
      let rec':Rec:={i,n:=s.hi,hi:=out.hi,rd:=out.rd,wr:=out.wr}
      match out.val with
      |.put v=>fX fuel ops bf (i+1) r
        {act:=s.act.put o.dst v,ret:=bif Nat.blt s.hi out.nx then out.nx else s.ret,hi:=out.hi,hp:=out.hp,recs:=rec'::s.recs,rd:=s.rd|||out.rd,wr:=s.wr|||out.wr}
      |.dfr _=>none
      |.pan v=>gR fuel ops bf i (i+1) r v out.hp
        {act:=s.act,ret:=s.ret,hi:=out.hi,hp:=out.hp,recs:=rec'::s.recs,rd:=s.rd|||out.rd,wr:=s.wr|||out.wr}
     else none
   else fX fuel ops bf (i+1) r {s with act:=s.act.put o.dst .undef,recs:={i,n:=s.hi,hi:=s.hi,rd:=0,wr:=0}::s.recs}
  else none
termination_by structural fuel=>fuel
def gR:Nat->Array Oper->List Nat->Nat->Nat->List Oper->AV->Hp->rQ->Option (Out (mQ×bE))
 |_,ops,bf,j,_,[],v,h,s=>
  bif nL (bf.getD j 0) j s.recs then
   some {val:=(.pan v,forget s.act ops.toList),nx:=s.hi,hi:=s.hi,hp:=gG h (bf.getD j 0) j s.recs,rd:=s.rd,wr:=s.wr}
  else none
 |0,_,_,_,_,_::_,_,_,_=>none
 |fuel+1,ops,bf,j,i,o::r,v,h,s=>
  bif (bf.getD i 0).testBit j then gR fuel ops bf j (i+1) r v h s
  else bif cI ops s.act o then
   bif dY ops s.act o then
    match jU fuel o s.act s.hi s.hp with
    |none=>none
    |some out=>
     bif clear (bf.getD i 0) out.rd out.wr s.recs then
      match out.val with
      |.put u=>gR fuel ops bf j (i+1) r v h
        {act:=s.act.put o.dst u,ret:=s.ret,hi:=out.hi,hp:=out.hp,recs:={i,n:=s.hi,hi:=out.hi,rd:=out.rd,wr:=out.wr}::s.recs,rd:=s.rd|||out.rd,wr:=s.wr|||out.wr}
      |_=>none
     else none
   else gR fuel ops bf j (i+1) r v h {s with act:=s.act.put o.dst .undef,recs:={i,n:=s.hi,hi:=s.hi,rd:=0,wr:=0}::s.recs}
  else none
termination_by structural fuel=>fuel
def fT:Nat->FuncId->List AV->C aS
 |0,_,_=>C.fail
 |fuel+1,f,args=>
  match Gm f with
  |some g=>g args
  |none=>
  match P.funcs[f]? with
  |none=>C.fail
  |some fn=>match fn.body with
   |none=>C.fail
   |some c=>alone (Kp f).2 args
    (C.bind (bD fuel c {tmps:=args++List.replicate (fn.ntmps-args.length) .undef,defers:=[],rnd:=none}) fun
     |(.normal,a) | (.ret,a)=>dV fuel fn (Kp f).1 a none
     |(.pan v,a)=>dV fuel fn (Kp f).1 a (some v)
     |_=>C.fail)
termination_by structural fuel=>fuel
def dV:Nat->Func->Bool->bE->Option AV->C aS
 |0,_,_,_,_=>C.fail
 |fuel+1,fn,top,a,mode=>
  match a.defers with
  |[]=>match mode with
   |some v=>C.ret (.panicked v)
   |none=>C.bind (C.am (fG P Gl a fn.results.toList)) fun vs=>
    C.bind (gD top fuel vs) fun vs'=>C.ret (.returned (jR vs'))
  |.collected o::ds=>C.bind (C.am (.get o fun
    |.dfr=>.del o (.ret ())
    |_=>.fail)) fun _=>dV fuel fn top {a with defers:=ds} mode
  |.call (.func f) args::ds=>C.bind (C.am (aT P f args)) fun _=>C.bind (fP fuel f args mode) fun mode'=>dV fuel fn top {a with defers:=ds} mode'
  |.call _ _::_=>C.fail
termination_by structural fuel=>fuel
def fP:Nat->FuncId->List AV->Option AV->C (Option AV)
 |0,_,_,_=>C.fail
 |fuel+1,f,args,mode=>
  match P.funcs[f]? with
  |none=>C.fail
  |some fn=>match fn.body with
   |none=>C.fail
   |some c=>C.bind (zP fuel c {tmps:=args++List.replicate (fn.ntmps-args.length) .undef,defers:=[],rnd:=none} mode) fun
    |(.normal,a,m) | (.ret,a,m)=>match a.defers,fn.results.toList with
     |[],[]=>C.ret m
     |_,_=>C.fail
    |_=>C.fail
termination_by structural fuel=>fuel
def zP:Nat->Code->bE->Option AV->C (mQ×bE×Option AV)
 |0,_,_,_=>C.fail
 |fuel+1,c,a,mode=>
  match c with
  |.seq x y=>C.bind (zP fuel x a mode) fun
   |(.normal,a',m)=>zP fuel y a' m
   |r=>C.ret r
  |.region _ ops false=>fJ fuel ops ops.toList a mode
  |c=>C.bind (bD fuel c a) fun r=>C.ret (r.1,r.2,mode)
termination_by structural fuel=>fuel
def fJ:Nat->Array Oper->List Oper->bE->Option AV->C (mQ×bE×Option AV)
 |_,_,[],a,m=>C.ret (.normal,a,m)
 |0,_,_::_,_,_=>C.fail
 |fuel+1,ops,o::r,a,m=>
  bif cI ops a o then
   bif dY ops a o then
    bif isRecover o.op then match m with
     |some v=>fJ fuel ops r (a.put o.dst v) none
     |none=>fJ fuel ops r (a.put o.dst .if0) none
    else C.bind (C.am (fF P Gl a.eval o)) fun
     |.val v=>fJ fuel ops r (a.put o.dst v) m
     |.skip=>fJ fuel ops r (a.put o.dst .undef) m
     |.pan v=>C.ret (.pan v,a,m)
     |_=>C.fail
   else fJ fuel ops r (a.put o.dst .undef) m
  else C.fail
termination_by structural fuel=>fuel
def jV:Nat->Nat->List AV->C aS
 |0,_,_=>C.fail
 |fuel+1,l,args=>
  C.bind (C.am (.get l fun
   |.loop _ _ _ ts ps ag b _=>bif ps.length==args.length then .ret (jJ ts ps args,ag,b) else .fail
   |_=>.fail)) fun (ts,ag,b)=>
  C.bind (bD fuel ag {tmps:=ts,defers:=[],rnd:=some l}) fun
   |(.normal,a)=>
    C.bind (C.am (.get l fun
     |.loop .ready p fn ts ps ag b d=>.set l (.loop .busy p fn ts ps ag b d) (.ret ())
     |_=>.fail)) fun _=>
    C.bind (bD fuel b a) fun
     |(.pan _,_)=>C.fail
     |(e,_)=>C.am (.get l fun
      |.loop _ _ fn ts ps ag b d=>match e with
       |.normal=>.set l (.loop .ready none fn ts ps ag b d) (.ret (.returned (.bool true)))
       |.ret=>.set l (.loop .done (some .ret) fn ts ps ag b d) (.ret (.returned (.bool false)))
       |.exit id=>.set l (.loop .done (some (.exit id)) fn ts ps ag b d) (.ret (.returned (.bool false)))
       |.goto t=>.set l (.loop .done (some (.goto t)) fn ts ps ag b d) (.ret (.returned (.bool false)))
       |.pan _=>.fail
      |_=>.fail)
   |_=>C.fail
termination_by structural fuel=>fuel
end
end ev
structure lR where
 blk:Nat
 dl:Nat
 ln:Nat
 es:Nat
 bs:Nat
structure Gh where
 nm:Nat->Option lR
 S:Nat->Nat->Option Value
def oR (G:Gh)(f f':Fn):Prop:=
 match f with
 |.yield l=>∃ I,G.nm l=some I/\f'=.yield I.blk
 |f=>f'=f
mutual
def aF (G:Gh):AV->Value->Prop
 |.bool b,v=>v=.bool b
 |.int k n,v=>v=.int k n
 |.str s,v=>v=.string ⟨⟨s⟩⟩
 |.ptr0,v=>v=.pointer none
 |.ref o i,v=>∃ I,G.nm o=some I/\v=.pointer (some ⟨I.blk,I.dl+i,none⟩)
 |.gref g i,v=>v=.pointer (some ⟨g,i,none⟩)
 |.pvec xs es i,v=>∃ b off,v=.pointer (some ⟨b,off+i,none⟩)/\bA G (G.S b) es off xs
 |.sl0,v=>v=.slice none 0 0
 |.vec xs es full,v=>∃ b off cap,v=.slice (some ⟨b,off,none⟩) xs.length cap/\xs.length<=cap/\(full=true->cap=xs.length)/\bA G (G.S b) es off xs
 |.sl o off len,v=>∃ I ab ao cap,G.nm o=some I/\v=.slice (some ⟨ab,ao,none⟩) len cap/\(cap≠0->ab=I.blk/\ao=I.dl+off*I.es)/\
   off+len<=I.ln/\I.ln<=off+cap/\I.dl+(off+cap)*I.es<=I.bs/\len<=cap
 |.map0,v=>v=.map none
 |.map o,v=>∃ I,G.nm o=some I/\v=.map (some I.blk)
 |.fn0,v=>v=.nilFunc
 |.fn f a c,v=>∃ f' a' c',v=.func f' a' c'/\oR G f f'/\aI G a a'.toList/\aI G c c'.toList
 |.if0,v=>v=.nilIface
 |.iface t x,v=>∃ u,v=.iface t u/\aF G x u
 |.agg cs,v=>∃ us,v=.agg us/\aI G cs us.toList
 |.tup vs,v=>∃ us,v=.tuple us/\aI G vs us.toList
 |.undef,v=>v=Go.undef
 |.unk,_=>True
def aI (G:Gh):List AV->List Value->Prop
 |[],l=>l=[]
 |x::xs,l=>∃ u us,l=u::us/\aF G x u/\aI G xs us
def bA (G:Gh)(c:Nat->Option Value)(es:Nat):Nat->List AV->Prop
 |_,[]=>True
 |off,x::xs=>(∃ u,aF G x u/\u.cells.size=es/\∀ j (h:j<u.cells.size),c (off+j)=some u.cells[j])/\bA G c es (off+es) xs
end
def Gh.le (G G':Gh):Prop:=(∀ o I,G.nm o=some I->G'.nm o=some I)/\(∀ b i v,G.S b i=some v->G'.S b i=some v)
theorem Gh.le_refl (G:Gh):G.le G:=⟨fun _ _ h=>h,fun _ _ _ h=>h⟩
theorem Gh.le_trans {A B C:Gh}(h:A.le B)(k:B.le C):A.le C:=⟨fun _ _ x=>k.1 _ _ (h.1 _ _ x),fun _ _ _ x=>k.2 _ _ _ (h.2 _ _ _ x)⟩
theorem oR.mono {G G':Gh}(h:G.le G'){f f':Fn}(r:oR G f f'):oR G' f f':=by
 cases f<;>simp only[oR]at r ⊢<;>first | exact r | skip
 obtain⟨I,h1,h2⟩:=r;exact⟨I,h.1 _ _ h1,h2⟩
mutual
theorem aF.mono {G G':Gh}(h:G.le G'):∀(x:AV) (v:Value),aF G x v->aF G' x v
 |.bool _,_,r | .int _ _,_,r | .str _,_,r | .ptr0,_,r | .gref _ _,_,r | .sl0,_,r | .map0,_,r | .fn0,_,r | .if0,_,r | .undef,_,r=>by
  simpa only[aF]using r
 |.unk,_,_=>by simp only[aF]
 |.ref o i,v,r=>by
  simp only[aF]at r ⊢;obtain⟨I,h1,h2⟩:=r;exact⟨I,h.1 _ _ h1,h2⟩
 |.pvec xs es i,v,r=>by
  simp only[aF]at r ⊢;obtain⟨b,off,h1,h2⟩:=r;exact⟨b,off,h1,bA.mono h (fun i v=>h.2 b i v) es off xs h2⟩
 |.vec xs es full,v,r=>by
  simp only[aF]at r ⊢;obtain⟨b,off,cap,h1,h2,M,O⟩:=r;exact⟨b,off,cap,h1,h2,M,bA.mono h (fun i v=>h.2 b i v) es off xs O⟩
 |.sl o off len,v,r=>by
  simp only[aF]at r ⊢;obtain⟨I,U,Y,cap,h1,r⟩:=r;exact⟨I,U,Y,cap,h.1 _ _ h1,r⟩
 |.map o,v,r=>by
  simp only[aF]at r ⊢;obtain⟨I,h1,h2⟩:=r;exact⟨I,h.1 _ _ h1,h2⟩
 |.fn f a c,v,r=>by
  simp only[aF]at r ⊢;obtain⟨f',a',c',h1,h2,M,O⟩:=r;exact⟨f',a',c',h1,h2.mono h,aI.mono h a _ M,aI.mono h c _ O⟩
 |.iface t x,v,r=>by
  simp only[aF]at r ⊢;obtain⟨u,h1,h2⟩:=r;exact⟨u,h1,aF.mono h x u h2⟩
 |.agg cs,v,r=>by
  simp only[aF]at r ⊢;obtain⟨u,h1,h2⟩:=r;exact⟨u,h1,aI.mono h cs _ h2⟩
 |.tup cs,v,r=>by
  simp only[aF]at r ⊢;obtain⟨u,h1,h2⟩:=r;exact⟨u,h1,aI.mono h cs _ h2⟩
theorem aI.mono {G G':Gh}(h:G.le G'):∀(xs:List AV) (l:List Value),aI G xs l->aI G' xs l
 |[],l,r=>by simpa only[aI]using r
 |x::xs,l,r=>by
  simp only[aI]at r ⊢;obtain⟨u,us,h1,h2,M⟩:=r;exact⟨u,us,h1,aF.mono h x u h2,aI.mono h xs us M⟩
theorem bA.mono {G G':Gh}(h:G.le G'){c c':Nat->Option Value}(hc:∀ i v,c i=some v->c' i=some v)(es:Nat):∀(off:Nat) (xs:List AV),bA G c es off xs->bA G' c' es off xs
 |_,[],_=>by simp only[bA]
 |off,x::xs,r=>by
  simp only[bA]at r ⊢;obtain⟨⟨u,h1,h2,M⟩,O⟩:=r;exact⟨⟨u,aF.mono h x u h1,h2,fun j U=>hc _ _ (M j U)⟩,bA.mono h hc es _ xs O⟩
end
theorem aI.length {G:Gh}:∀{xs:List AV}{l:List Value},aI G xs l->xs.length=l.length
 |[],_,r=>by simp only[aI]at r;subst r;rfl
 |_::xs,_,r=>by
  simp only[aI]at r;obtain⟨u,us,rfl,_,h⟩:=r;simp[aI.length h]
theorem aI.get {G:Gh}:∀{xs:List AV}{l:List Value} (i:Nat),aI G xs l->∀{x:AV},xs[i]?=some x->∃ v,l[i]?=some v/\aF G x v
 |[],_,_,_,_,h=>by simp at h
 |y::ys,_,0,r,x,h=>by
  simp only[aI]at r;obtain⟨u,us,rfl,h1,_⟩:=r;simp at h;subst h;exact⟨u,by simp,h1⟩
 |y::ys,_,i+1,r,x,h=>by
  simp only[aI]at r;obtain⟨u,us,rfl,_,h2⟩:=r;simp at h;simpa using aI.get i h2 h
theorem aI.of_get {G:Gh}:∀{xs:List AV}{l:List Value},xs.length=l.length->(∀(i:Nat) (x:AV) (v:Value),xs[i]?=some x->l[i]?=some v->aF G x v)->aI G xs l
 |[],l,h,_=>by simp only[aI];exact List.length_eq_zero_iff.1 h.symm
 |x::xs,[],h,_=>by simp at h
 |x::xs,v::l,h,k=>by
  simp only[aI];refine⟨v,l,rfl,k 0 x v sm sm,aI.of_get (by simpa using h) fun i y u M hu=>k (i+1) y u (by simpa using M) (by simpa using hu)⟩
theorem aI.append {G:Gh}:∀{xs ys:List AV}{l m:List Value},aI G xs l->aI G ys m->aI G (xs++ys) (l++m)
 |[],_,_,_,h,k=>by simp only[aI]at h;subst h;exact k
 |x::xs,_,_,_,h,k=>by
  simp only[aI]at h;obtain⟨u,us,rfl,h1,h2⟩:=h;simp only[List.cons_append,aI];exact⟨u,us++_,rfl,h1,aI.append h2 k⟩
theorem aI.take {G:Gh}(n:Nat){xs:List AV}{l:List Value}(h:aI G xs l):aI G (xs.take n) (l.take n):=by
 refine aI.of_get (by simp[h.length]) fun i x v O M=>?_;rw[List.getElem?_take]at O M;split at O
 .rename_i hi;simp only[hi,if_true]at M;obtain⟨U,h1,h2⟩:=aI.get i h O;rw[h1]at M;simp at M;exact M ▸ h2
 .simp at O
theorem aI.drop {G:Gh}(n:Nat){xs:List AV}{l:List Value}(h:aI G xs l):aI G (xs.drop n) (l.drop n):=by
 refine aI.of_get (by simp[h.length]) fun i x v O M=>?_;rw[List.getElem?_drop]at O M;obtain⟨_,h1,h2⟩:=aI.get _ h O;rw[h1]at M;simp at M;exact M ▸ h2
theorem aI.set {G:Gh}(n:Nat){xs:List AV}{l:List Value}(h:aI G xs l){x:AV}{v:Value}(hv:aF G x v):aI G (xs.set n x) (l.set n v):=by
 refine aI.of_get (by simp[h.length]) fun i y u M hu=>?_;rw[List.getElem?_set]at M hu;by_cases e:n=i
 .subst e;simp only[if_true]at M hu;split at M<;>simp at M
  split at hu<;>simp at hu
  subst M;subst hu;exact hv
 .simp only[e,if_false]at M hu;obtain⟨_,h1,h2⟩:=aI.get _ h M;rw[h1]at hu;simp at hu;exact hu ▸ h2
theorem aI.replicate {G:Gh}{x:AV}{v:Value}(h:aF G x v):∀ n,aI G (List.replicate n x) (List.replicate n v)
 |0=>by simp[aI]
 |n+1=>by simp only[List.replicate_succ,aI];exact⟨v,_,rfl,h,aI.replicate h n⟩
theorem aI.nil {G:Gh}:aI G [] []:=by simp[aI]
theorem aI.cons {G:Gh}{x:AV}{v:Value}{xs:List AV}{l:List Value}(h:aF G x v)(k:aI G xs l):aI G (x::xs) (v::l):=by
 simp only[aI];exact⟨v,l,rfl,h,k⟩
theorem aF.not_agg {G:Gh}{x:AV}{v:Value}(h:aF G x v)(h1:∀ cs,x≠.agg cs)(h2:x≠.unk):v.cells=#[v]:=by
 cases x<;>simp only[aF]at h
 case agg cs=>exact absurd rfl (h1 cs)
 case unk=>exact absurd rfl h2
 all_goals first
  |(subst h;rfl)
  |(obtain⟨_,_,rfl⟩:=h;rfl)
  |(obtain⟨_,_,rfl,_⟩:=h;rfl)
  |(obtain⟨_,_,_,rfl,_⟩:=h;rfl)
  |(obtain⟨_,_,_,_,rfl,_⟩:=h;rfl)
  |(obtain⟨_,_,_,_,_,rfl,_⟩:=h;rfl)
  |(obtain⟨_,rfl,_⟩:=h;rfl)
theorem aF.cellsL {G:Gh}{x:AV}{v:Value}(h:aF G x v)(hu:x≠.unk):aI G x.cells v.cells.toList:=by
 by_cases M:∃ cs,x=.agg cs
 .obtain⟨cs,rfl⟩:=M;simp only[aF]at h;obtain⟨us,rfl,h⟩:=h;exact h
 .have h1:∀ cs,x≠.agg cs:=fun cs e=>M ⟨cs,e⟩;rw[h.not_agg h1 hu];have O:x.cells=[x]:=(by cases x<;>first | rfl | exact absurd rfl (h1 _));rw[O];exact aI.cons h aI.nil
theorem qBD {x:AV}(h:x.whole=true):x≠.unk:=by rintro rfl;simp[AV.whole,AV.one]at h
theorem aF.oneCell {G:Gh}{x:AV}{v:Value}(h:aF G x v)(h1:x.one=true):v.oneCell'=true:=by
 cases x<;>simp only[aF]at h<;>simp[AV.one]at h1
 all_goals first
  |(subst h;rfl)
  |(obtain⟨_,_,rfl⟩:=h;rfl)
  |(obtain⟨_,_,rfl,_⟩:=h;rfl)
  |(obtain⟨_,_,_,rfl,_⟩:=h;rfl)
  |(obtain⟨_,_,_,_,rfl,_⟩:=h;rfl)
  |(obtain⟨_,_,_,_,_,rfl,_⟩:=h;rfl)
  |(obtain⟨_,rfl,_⟩:=h;rfl)
theorem AV.cells_one {x:AV}(h:x.whole=true):∀ y ∈ x.cells,y.one=true:=by
 cases x<;>simp[AV.whole,AV.one,AV.cells]at h ⊢
 exact h
abbrev cG:=Nat->Option aK
def cG.upd (K:cG)(o:Nat)(x:Option aK):cG:=fun t=>if t=o then x else K t
def GD (n:Nat)(fz:Nat×Nat):Prop:=fz.1=fz.2\/n<=fz.1
def fA (G:Gh):List (AV×AV)->List MapEntry->Prop
 |[],l=>l=[]
 |(k,v)::r,l=>∃ e es,l=e::es/\aF G k e.key/\aF G v e.val/\fA G r es
def Dr (es:List MapEntry)(clk:Nat):Prop:=(∀ x ∈ es,x.born<clk)/\(es.map (·.born)).Nodup
theorem Dr.nil (clk:Nat):Dr [] clk:=⟨fun _ h=>(by cases h),.nil⟩
theorem Dr.push {es:List MapEntry}{clk:Nat}(h:Dr es clk)(e:MapEntry)(he:e.born=clk):Dr (es++[e]) (clk+1):=by
 refine⟨fun x M=>?_,?_⟩
 .rcases List.mem_append.1 M with M | M
  .exact Nat.lt_succ_of_lt (h.1 x M)
  .rw[List.mem_singleton.1 M,he];exact Nat.lt_succ_self _
 .rw[List.map_append];refine List.nodup_append.2 ⟨h.2,by simp,fun a O b hb=>?_⟩;obtain⟨x,M,rfl⟩:=List.mem_map.1 O;simp only[List.map_cons,List.map_nil,List.mem_singleton]at hb;have:=h.1 x M;omega
theorem Dr.modify {es:List MapEntry}{clk:Nat}(h:Dr es clk)(j:Nat)(f:MapEntry->MapEntry)(hf:∀ e,(f e).born=e.born):Dr (es.modify j f) clk:=by
 have M:(es.modify j f).map (·.born)=es.map (·.born):=by
  apply List.ext_getElem?;intro i;rw[List.getElem?_map,List.getElem?_map,List.getElem?_modify];cases es[i]? with
  |none=>rfl
  |some e=>simp only[Option.map_some];split<;>simp[hf]
 refine⟨fun x O=>?_,by rw[M];exact h.2⟩;have h1:x.born ∈ (es.modify j f).map (·.born):=List.mem_map.2 ⟨x,O,rfl⟩;rw[M]at h1;obtain⟨y,U,e⟩:=List.mem_map.1 h1;rw[<- e];exact h.1 y U
def cK (G:Gh)(I:lR):aK->Obj->Prop
 |.cells cs,.cells us _ fz=>I.dl=0/\aI G cs us.toList/\GD us.size fz
 |.arr es xs,.cells us _ fz=>I.es=es/\I.ln=xs.length/\I.bs=us.size/\0<es/\I.dl+xs.length*es<=us.size/\bA G (fun i=>us[i]?) es I.dl xs/\GD us.size fz
 |.map kv,.map es clk=>fA G kv es.toList/\Dr es.toList clk
 |.siter s pos,.stringIter b p=>I.dl=0/\b=⟨⟨s⟩⟩/\p=pos
 |.loop st pend _ ts ps ag b d,.loop L=>L.state=st/\L.pending=pend/\aI G ts L.tmps.toList/\L.params.toList=ps/\L.assign=ag/\L.body=b/\
   ∃ D,G.nm d=some D/\L.defers=D.blk
 |.dfr,.deferred c=>c=some []
 |_,_=>False
structure Base extends World where
 S0:Nat->Nat->Option Value
 X0:Nat->Prop:=fun _=>False
structure eO (w0:Base)(B:Nat)(K:cG)(G:Gh)(w:World):Prop where
 os:w.os=w0.os
 out:w.output=w0.output
 tape:w.tape=w0.tape
 size:B<=w.heap.size
 old:∀ b,b<B->w.heap[b]?=w0.heap[b]?
 S:∀ b i v,G.S b i=some v->w.cell? ⟨b,i,none⟩=some v
 obj:∀ o x,K o=some x->∃ I ob,G.nm o=some I/\B<=I.blk/\w.heap[I.blk]?=some ob/\cK G I x ob
 inj:∀ o o' x x' I I',K o=some x->K o'=some x'->G.nm o=some I->G.nm o'=some I'->I.blk=I'.blk->o=o'
 sep:∀ o x I,K o=some x->G.nm o=some I->∀ i,G.S I.blk i=none
 low:∀ b i v,b<B->G.S b i=some v->w0.S0 b i=some v
 stay:∀ b,w0.X0 b->w.heap[b]?=w0.heap[b]?/\b<w.heap.size
 apart:∀ o x I,K o=some x->G.nm o=some I->¬w0.X0 I.blk
def nS (G:Gh)(n hi:Nat):Prop:=∀ o,n<=o->o<hi->G.nm o=none
def NmIn (G G':Gh)(n hi:Nat):Prop:=∀ o I,G'.nm o=some I->G.nm o=none->n<=o/\o<hi
structure eU (G G':Gh)(n hi:Nat):Prop where
 le:G.le G'
 nm:NmIn G G' n hi
theorem eU.refl (G:Gh)(n hi:Nat):eU G G n hi:=⟨G.le_refl,fun o I h h'=>by rw[h']at h;cases h⟩
theorem eU.trans {A B C:Gh}{n hi:Nat}(h:eU A B n hi)(k:eU B C n hi):eU A C n hi:=
 ⟨Gh.le_trans h.le k.le,fun o I O M=>by
  cases hb:B.nm o with
  |none=>exact k.nm o I O hb
  |some J=>exact h.nm o J hb M⟩
theorem eU.wide {A B:Gh}{n hi n' hi':Nat}(h:eU A B n hi)(h1:n'<=n)(h2:hi<=hi'):eU A B n' hi':=
 ⟨h.le,fun o I hb M=>by have:=h.nm o I hb M;omega⟩
theorem fA.mono {G G':Gh}(h:G.le G'):∀{kv:List (AV×AV)}{l:List MapEntry},fA G kv l->fA G' kv l
 |[],_,r=>r
 |(k,v)::r,_,⟨e,es,h1,h2,h3,h4⟩=>⟨e,es,h1,h2.mono h _ _,h3.mono h _ _,fA.mono h h4⟩
theorem cK.mono {G G':Gh}(h:G.le G'){I:lR}{x:aK}{ob:Obj}(r:cK G I x ob):cK G' I x ob:=by
 cases x<;>cases ob<;>simp only[cK]at r ⊢<;>try exact r
 .exact⟨r.1,aI.mono h _ _ r.2.1,r.2.2⟩
 .obtain⟨h1,h2,M,O,U,Y,h7⟩:=r;exact⟨h1,h2,M,O,U,bA.mono h (fun _ _ k=>k) _ _ _ Y,h7⟩
 .exact⟨fA.mono h r.1,r.2⟩
 .obtain⟨h1,h2,M,O,U,Y,D,h7,h8⟩:=r;exact⟨h1,h2,aI.mono h _ _ M,O,U,Y,D,h.1 _ _ h7,h8⟩
theorem eO.forget {w0:Base}{B:Nat}{K K':cG}{G:Gh}{w:World}(h:eO w0 B K G w)(hk:∀ o x,K' o=some x->K o=some x):eO w0 B K' G w:=
 {h with
  obj:=fun o x M=>h.obj o x (hk _ _ M)
  inj:=fun o o' x x' I I' M O=>h.inj o o' x x' I I' (hk _ _ M) (hk _ _ O)
  sep:=fun o x I M=>h.sep o x I (hk _ _ M)
  apart:=fun o x I M=>h.apart o x I (hk _ _ M)}
theorem eO.drew {w0:Base}{B:Nat}{K:cG}{G:Gh}{w w':World}(h:eO w0 B K G w)(hh:w'.heap=w.heap)(ho:w'.os=w.os)(hu:w'.output=w.output)(ht:w'.tape=w.tape) :
  eO w0 B K G w':=by
 refine⟨ho.trans h.os,hu.trans h.out,ht.trans h.tape,hh ▸ h.size,fun b hb=>hh ▸ h.old b hb,fun b i v U=>?_,fun o x Y=>?_,h.inj,h.sep,h.low,fun b hb=>hh ▸ h.stay b hb,h.apart⟩
 .have:=h.S b i v U;unfold World.cell? at this ⊢;rw[hh];exact this
 .obtain⟨I,ob,h1,h2,M,O⟩:=h.obj o x Y;exact⟨I,ob,h1,h2,hh ▸ M,O⟩
theorem eO.write {w0:Base}{B:Nat}{K:cG}{G:Gh}{w w':World}(h:eO w0 B K G w){o:Nat}{x y:aK}{I:lR}{ob':Obj}
  (hx:K o=some x) (hI:G.nm o=some I) (hy:cK G I y ob')
  (hself:w'.heap[I.blk]?=some ob') (hoth:∀ b,b≠I.blk->w'.heap[b]?=w.heap[b]?) (hsz:w'.heap.size=w.heap.size)
  (ho:w'.os=w.os) (hu:w'.output=w.output) (ht:w'.tape=w.tape):eO w0 B (K.upd o (some y)) G w':=by
 obtain⟨O,_,e1,hB,_,_⟩:=h.obj o x hx;obtain rfl:O=I:=Option.some.inj (e1.symm.trans hI);have old:∀ p z,(K.upd o (some y)) p=some z->∃ z',K p=some z':=by
  intro p z M;unfold cG.upd at M;by_cases e:p=o
  .subst e;exact⟨x,hx⟩
  .simp only[e,if_false]at M;exact⟨z,M⟩
 refine⟨ho.trans h.os,hu.trans h.out,ht.trans h.tape,hsz ▸ h.size,fun b hb=>(hoth b om).trans (h.old b hb),fun b i v hv=>?_,fun p z M=>?_,?_,?_,h.low,fun b hb=>⟨(hoth b (fun e=>h.apart o x O hx hI (e ▸ hb))).trans (h.stay b hb).1,hsz ▸ (h.stay b hb).2⟩,fun p z J M hJ=>by obtain⟨a,U⟩:=old p z M;exact h.apart p a J U hJ⟩
 .have Y:b≠O.blk:=by
   rintro rfl;rw[h.sep o x O hx hI i]at hv;cases hv
  have:=h.S b i v hv;unfold World.cell? at this ⊢;simp only at this ⊢;rw[hoth b Y];exact this
 .by_cases e:p=o
  .subst e;simp only[cG.upd,if_true]at M;obtain rfl:=Option.some.inj M;exact⟨O,ob',hI,hB,hself,hy⟩
  .simp only[cG.upd,e,if_false]at M;obtain⟨J,ob,h1,h2,h3,h4⟩:=h.obj p z M;refine⟨J,ob,h1,h2,?_,h4⟩;rw[hoth J.blk fun ee=>e (h.inj p o z x J O M hx h1 hI ee)];exact h3
 .intro p q z z' J J' M a1;obtain⟨a,U⟩:=old p z M;obtain⟨b,hb⟩:=old q z' a1;exact h.inj p q a b J J' U hb
 .intro p z J M;obtain⟨a,U⟩:=old p z M;exact h.sep p a J U
theorem eO.make {w0:Base}{B:Nat}{K:cG}{G:Gh}{w:World}(h:eO w0 B K G w){n:Nat}{y:aK}{ob:Obj}(I:lR)(hb:I.blk=w.heap.size)
  (hn:G.nm n=none) (hy:cK {G with nm:=fun o=>if o=n then some I else G.nm o} I y ob) :
  eU G {G with nm:=fun o=>if o=n then some I else G.nm o} n (n+1)/\
  eO w0 B (K.upd n (some y)) {G with nm:=fun o=>if o=n then some I else G.nm o} {w with heap:=w.heap.push ob}:=by
 have a4:G.le {G with nm:=fun o=>if o=n then some I else G.nm o}:=by
  refine⟨fun o J M=>?_,fun _ _ _ h=>h⟩;by_cases e:o=n
  .subst e;rw[hn]at M;cases M
  .simp only[e,if_false];exact M
 have hK:∀ p z,p≠n->(K.upd n (some y)) p=some z->K p=some z:=fun p z e U=>(by simpa only[cG.upd,e,if_false]using U);have a2:∀ p z J,K p=some z->G.nm p=some J->J.blk<w.heap.size:=by
  intro p z J U M;obtain⟨J',ob',h1,_,h3,_⟩:=h.obj p z U;obtain rfl:J'=J:=Option.some.inj (h1.symm.trans M);exact(Array.getElem?_eq_some_iff.1 h3).1
 have O:∀ p J,p≠n->(if p=n then some I else G.nm p)=some J->G.nm p=some J:=fun p J e M=>(by simpa only[e,if_false]using M);have hS:∀ i,G.S w.heap.size i=none:=by
  intro i;cases hv:G.S w.heap.size i with
  |none=>rfl
  |some v=>
   have:=h.S _ i v hv;simp[World.cell?]at this
 refine⟨⟨a4,fun o J M hG=>?_⟩,h.os,h.out,h.tape,?_,fun b a3=>?_,fun b i v hv=>?_,fun p z U=>?_,?_,?_,h.low,fun b hb=>by
  obtain⟨s1,s2⟩:=h.stay b hb;refine⟨?_,by simp only[Array.size_push];omega⟩;show (w.heap.push _)[b]?=_;rw[Array.getElem?_push,if_neg om];exact s1,fun p z J U M Y=>by
  by_cases e:p=n
  .subst e;simp only[if_true]at M;obtain rfl:=Option.some.inj M;have:=(h.stay _ Y).2;omega
  .exact h.apart p z J (hK p z e U) (O p J e M) Y⟩
 .by_cases e:o=n
  .omega
  .exact absurd (O o J e M) (by rw[hG];simp)
 .simp only[Array.size_push];have:=h.size;omega
 .show (w.heap.push ob)[b]?=_;rw[Array.getElem?_push,if_neg (by have:=h.size;omega)];exact h.old b a3
 .have Y:=h.S b i v hv;have a3:b<w.heap.size:=by
   unfold World.cell? at Y;simp only at Y;split at Y
   .rename_i hg;exact(Array.getElem?_eq_some_iff.1 hg).1
   .cases Y
  unfold World.cell? at Y ⊢;simp only at Y ⊢;rw[Array.getElem?_push,if_neg om];exact Y
 .by_cases e:p=n
  .subst e;simp only[cG.upd,if_true]at U;obtain rfl:=Option.some.inj U;refine⟨I,ob,by simp,hb ▸ h.size,?_,hy⟩;show (w.heap.push ob)[I.blk]?=_;rw[hb];simp
  .obtain⟨J,ob',h1,h2,h3,h4⟩:=h.obj p z (hK p z e U);refine⟨J,ob',by simp only[e,if_false];exact h1,h2,?_,h4.mono a4⟩;have a3:=(Array.getElem?_eq_some_iff.1 h3).1;show (w.heap.push ob)[J.blk]?=_;rw[Array.getElem?_push,if_neg om];exact h3
 .intro p q z z' J J' U a5 M a1 a6;by_cases e:p=n<;>by_cases e':q=n
  .rw[e,e']
  .exfalso;subst e;simp only[if_true]at M;obtain rfl:=Option.some.inj M;have:=a2 q z' J' (hK q z' e' a5) (O q J' e' a1);omega
  .exfalso;subst e';simp only[if_true]at a1;obtain rfl:=Option.some.inj a1;have:=a2 p z J (hK p z e U) (O p J e M);omega
  .exact h.inj p q z z' J J' (hK p z e U) (hK q z' e' a5) (O p J e M) (O q J' e' a1) a6
 .intro p z J U M i;by_cases e:p=n
  .subst e;simp only[if_true]at M;obtain rfl:=Option.some.inj M;rw[hb];exact hS i
  .exact h.sep p z J (hK p z e U) (O p J e M) i
theorem eO.lay {w0:Base}{B:Nat}{K:cG}{G:Gh}{w:World}(h:eO w0 B K G w)(us:Array Value)(el:TypeId)(fz:Nat×Nat)(n hi:Nat) :
  let G':Gh:={G with S:=fun b i=>if b=w.heap.size then us[i]? else G.S b i}
  eU G G' n hi/\eO w0 B K G' {w with heap:=w.heap.push (.cells us el fz)}:=by
 intro G';have hS:∀ i,G.S w.heap.size i=none:=by
  intro i;cases M:G.S w.heap.size i with
  |none=>rfl
  |some v=>
   have:=h.S _ i v M;simp[World.cell?]at this
 have Y:G.le G':=by
  refine⟨fun _ _ h=>h,fun b i v M=>?_⟩;by_cases e:b=w.heap.size
  .subst e;rw[hS i]at M;cases M
  .simp only[G',e,if_false];exact M
 refine⟨⟨Y,fun o I h1 h2=>by rw[show G'.nm o=G.nm o from rfl,h2]at h1;cases h1⟩,h.os,h.out,h.tape,?_,fun b O=>?_,fun b i v M=>?_,fun p z hz=>?_,h.inj,?_,fun b i v O M=>h.low b i v O (by
  have U:b≠w.heap.size:=(by have:=h.size;omega);simpa [G',U]using M),fun b hb=>by
  obtain⟨s1,s2⟩:=h.stay b hb;refine⟨?_,by simp only[Array.size_push];omega⟩;show (w.heap.push _)[b]?=_;rw[Array.getElem?_push,if_neg om];exact s1,h.apart⟩
 .simp only[Array.size_push];have:=h.size;omega
 .show (w.heap.push _)[b]?=_;rw[Array.getElem?_push,if_neg (by have:=h.size;omega)];exact h.old b O
 .by_cases e:b=w.heap.size
  .subst e;simp only[G',if_true]at M;simp[World.cell?,M]
  .simp only[G',e,if_false]at M;have hc:=h.S b i v M;unfold World.cell? at hc ⊢;simp only at hc ⊢;rw[Array.getElem?_push,if_neg e];exact hc
 .obtain⟨J,ob',h1,h2,h3,h4⟩:=h.obj p z hz;refine⟨J,ob',h1,h2,?_,h4.mono Y⟩;have O:=(Array.getElem?_eq_some_iff.1 h3).1;show (w.heap.push _)[J.blk]?=_;rw[Array.getElem?_push,if_neg om];exact h3
 .intro p z J hz hJ i;obtain⟨J',ob',h1,_,h3,_⟩:=h.obj p z hz;obtain rfl:J'=J:=Option.some.inj (h1.symm.trans hJ);have O:=(Array.getElem?_eq_some_iff.1 h3).1;have U:J'.blk≠w.heap.size:=om;simp only[G',U,if_false];exact h.sep p z J' hz hJ i
theorem eO.waste {w0:Base}{B:Nat}{K:cG}{G:Gh}{w:World}(h:eO w0 B K G w)(ob:Obj):eO w0 B K G {w with heap:=w.heap.push ob}:=by
 refine⟨h.os,h.out,h.tape,?_,fun b O=>?_,fun b i v hv=>?_,fun p z hz=>?_,h.inj,h.sep,h.low,fun b hb=>by
  obtain⟨s1,s2⟩:=h.stay b hb;refine⟨?_,by simp only[Array.size_push];omega⟩;show (w.heap.push _)[b]?=_;rw[Array.getElem?_push,if_neg om];exact s1,h.apart⟩
 .simp only[Array.size_push];have:=h.size;omega
 .show (w.heap.push _)[b]?=_;rw[Array.getElem?_push,if_neg (by have:=h.size;omega)];exact h.old b O
 .have M:=h.S b i v hv;have O:b<w.heap.size:=by
   unfold World.cell? at M;simp only at M;split at M
   .rename_i hg;exact(Array.getElem?_eq_some_iff.1 hg).1
   .cases M
  unfold World.cell? at M ⊢;simp only at M ⊢;rw[Array.getElem?_push,if_neg om];exact M
 .obtain⟨J,ob',h1,h2,U,Y⟩:=h.obj p z hz;refine⟨J,ob',h1,h2,?_,Y⟩;have O:=(Array.getElem?_eq_some_iff.1 U).1;show (w.heap.push _)[J.blk]?=_;rw[Array.getElem?_push,if_neg om];exact U
def AM.runK {α:Type}:AM α->Nat->cG->Option (α×Nat×cG)
 |.ret a,n,K=>some (a,n,K)
 |.get o k,n,K=>match K o with
  |some x=>(k x).runK n K
  |none=>none
 |.set o x k,n,K=>match K o with
  |some _=>k.runK n (K.upd o (some x))
  |none=>none
 |.new x k,n,K=>(k n).runK (n+1) (K.upd n (some x))
 |.del o k,n,K=>match K o with
  |some _=>k.runK n (K.upd o none)
  |none=>none
 |.fail,_,_=>none
theorem qCf (h:Hp)(o t:Nat)(x:aK):(h.put o x).get t=if t=o then some x else h.get t:=by
 induction h with
 |nil=>
  by_cases e:o=t
  .subst e;simp[Hp.put,Hp.get]
  .have O:(o==t)=false:=(by simpa using e);have U:t≠o:=fun h=>e h.symm;simp[Hp.put,Hp.get,O,U]
 |cons p r ih=>
  obtain⟨n,y⟩:=p;by_cases e:n=o
  .subst e;simp only[Hp.put,beq_self_eq_true,cond_true,Hp.get];by_cases M:n=t
   .subst M;simp
   .have O:(n==t)=false:=(by simpa using M);have U:t≠n:=fun h=>M h.symm;simp[O,U]
  .have Y:(n==o)=false:=(by simpa using e);simp only[Hp.put,Y,cond_false,Hp.get];by_cases M:n=t
   .subst M;simp[e]
   .have O:(n==t)=false:=(by simpa using M);simp only[O,cond_false];exact ih
theorem qCe (h:Hp)(o t:Nat):(h.del o).get t=if t=o then none else h.get t:=by
 induction h with
 |nil=>simp[Hp.del,Hp.get]
 |cons p r ih=>
  obtain⟨n,y⟩:=p;by_cases e:n=o
  .subst e;simp only[Hp.del,beq_self_eq_true,cond_true,Hp.get];rw[ih];by_cases M:t=n
   .simp[M]
   .have O:(n==t)=false:=(by simpa using fun h=>M h.symm);simp[M,O]
  .have U:(n==o)=false:=(by simpa using e);simp only[Hp.del,U,cond_false,Hp.get];by_cases M:n=t
   .subst M;simp[e]
   .have O:(n==t)=false:=(by simpa using M);simp only[O,cond_false];exact ih
theorem qCd (lo hi:Nat)(h:Hp)(t:Nat):(Hp.cut lo hi h).get t=if lo<=t/\t<hi then none else h.get t:=by
 induction h with
 |nil=>simp[Hp.cut,Hp.get]
 |cons p r ih=>
  obtain⟨n,y⟩:=p;by_cases e:lo<=n/\n<hi
  .have O:(Nat.ble lo n&&Nat.blt n hi)=true:=by
    have h1:Nat.ble lo n=true:=Nat.ble_eq_true_of_le e.1;have h2:Nat.blt n hi=true:=Nat.ble_eq_true_of_le e.2;rw[h1,h2];rfl
   simp only[Hp.cut,O,cond_true,Hp.get];rw[ih];by_cases M:n=t
   .subst M;simp[e]
   .have U:(n==t)=false:=(by simpa using M);simp[U]
  .have O:(Nat.ble lo n&&Nat.blt n hi)=false:=by
    cases hb:(Nat.ble lo n&&Nat.blt n hi) with
    |false=>rfl
    |true=>
     rw[Bool.and_eq_true]at hb;exact absurd ⟨Nat.le_of_ble_eq_true hb.1,Nat.le_of_ble_eq_true hb.2⟩ e
   simp only[Hp.cut,O,cond_false,Hp.get];by_cases M:n=t
   .subst M;simp[e]
   .have U:(n==t)=false:=(by simpa using M);simp only[U,cond_false];exact ih
def aE (n:Nat)(h:Hp):Prop:=∀ t,n<=t->h.get t=none
theorem cY (o t:Nat):(bit o).testBit t=decide (o=t):=by
 unfold bit;rw[Nat.one_shiftLeft,Nat.testBit_two_pow]
structure Fr {α:Type}(n:Nat)(h:Hp)(out:Out α):Prop where
 le:n<=out.nx
 hi:out.nx<=out.hi
 lt:aE out.nx out.hp
 keep:∀ t,out.wr.testBit t=false->out.hp.get t=h.get t
 low:∀ t,(out.rd|||out.wr).testBit t=true->t<out.hi
def cG.merge {α:Type}(K:cG)(out:Out α):cG:=fun t=>if out.wr.testBit t then out.hp.get t else K t
def Agree (K:cG)(h:Hp)(m:Nat):Prop:=∀ t,m.testBit t=true->K t=h.get t
theorem qBC {α:Type}(m:AM α):∀(n:Nat) (h:Hp) (rd wr:Nat) (out:Out α),m.run n h rd wr=some out->
  (∀ t,rd.testBit t=true->out.rd.testBit t=true)/\(∀ t,wr.testBit t=true->out.wr.testBit t=true):=by
 induction m with
 |ret a=>intro n h rd wr out e;simp only[AM.run,Option.some.injEq]at e;subst e;exact⟨fun _ h=>h,fun _ h=>h⟩
 |get o k ih=>
  intro n h rd wr out e;simp only[AM.run]at e;split at e
  .have:=ih _ _ _ _ _ _ e;exact⟨fun t M=>this.1 t (by simp[M]),this.2⟩
  .cases e
 |set o x k ih=>
  intro n h rd wr out e;simp only[AM.run]at e;split at e
  .have:=ih _ _ _ _ _ e;exact⟨this.1,fun t M=>this.2 t (by simp[M])⟩
  .cases e
 |new x k ih=>
  intro n h rd wr out e;simp only[AM.run]at e;have:=ih _ _ _ _ _ _ e;exact⟨this.1,fun t M=>this.2 t (by simp[M])⟩
 |del o k ih=>
  intro n h rd wr out e;simp only[AM.run]at e;split at e
  .have:=ih _ _ _ _ _ e;exact⟨this.1,fun t M=>this.2 t (by simp[M])⟩
  .cases e
 |fail=>intro n h rd wr out e;simp[AM.run]at e
theorem aE.lt_of_get {n t:Nat}{h:Hp}{x:aK}(hl:aE n h)(hx:h.get t=some x):t<n:=by
 rcases Nat.lt_or_ge t n with h1 | h1
 .exact h1
 .rw[hl t h1]at hx;cases hx
theorem qCZ {α:Type}(m:AM α):∀(n:Nat) (h:Hp) (rd wr:Nat) (out:Out α),m.run n h rd wr=some out->aE n h->
  (∀ t,(rd|||wr).testBit t=true->t<n)->out.hi=out.nx/\Fr n h out:=by
 induction m with
 |ret a=>
  intro n h rd wr out e O hb;simp only[AM.run,Option.some.injEq]at e;subst e;exact⟨rfl,Nat.le_refl _,Nat.le_refl _,O,fun _ _=>rfl,hb⟩
 |get o k ih=>
  intro n h rd wr out e O hb;simp only[AM.run]at e;split at e
  .rename_i x hx;have a1:=O.lt_of_get hx;have:=ih _ _ _ _ _ _ e O (fun t M=>by
    simp only[Nat.testBit_or,Bool.or_eq_true,cY,decide_eq_true_eq]at M hb;rcases M with(h1 | h1) | h1
    .exact hb t (.inl h1)
    .omega
    .exact hb t (.inr h1))
   exact this
  .cases e
 |set o x k ih=>
  intro n h rd wr out e O hb;simp only[AM.run]at e;split at e
  .rename_i y hy;have a1:=O.lt_of_get hy;have hm:=(qBC k _ _ _ _ _ e).2;obtain⟨h1,h2,U,Y,h5,h6⟩:=ih _ _ _ _ _ e (fun t M=>by rw[qCf,if_neg om];exact O t M) (fun t M=>by
    simp only[Nat.testBit_or,Bool.or_eq_true,cY,decide_eq_true_eq]at M hb;rcases M with h1 | h1 | h1
    .exact hb t (.inl h1)
    .exact hb t (.inr h1)
    .omega)
   refine⟨h1,h2,U,Y,fun t M=>?_,h6⟩;rw[h5 t M,qCf,if_neg];rintro rfl;rw[hm t (by simp[cY])]at M;cases M
  .cases e
 |new x k ih=>
  intro n h rd wr out e O hb;simp only[AM.run]at e;have hm:=(qBC (k n) _ _ _ _ _ e).2;obtain⟨h1,h2,U,Y,h5,h6⟩:=ih _ _ _ _ _ _ e (fun t M=>by
    have e2:(n==t)=false:=(by simp<;>omega);simp only[Hp.get,e2,cond_false];exact O t om) (fun t M=>by
   simp only[Nat.testBit_or,Bool.or_eq_true,cY,decide_eq_true_eq]at M hb;rcases M with h1 | h1 | h1
   .have:=hb t (.inl h1);omega
   .have:=hb t (.inr h1);omega
   .omega)
  refine⟨h1,by omega,U,Y,fun t M=>?_,h6⟩;rw[h5 t M];have a2:n≠t:=by
   rintro rfl;rw[hm n (by simp[cY])]at M;cases M
  have e2:(n==t)=false:=(by simpa using a2);simp[Hp.get,e2]
 |del o k ih=>
  intro n h rd wr out e O hb;simp only[AM.run]at e;split at e
  .rename_i y hy;have a1:=O.lt_of_get hy;have hm:=(qBC k _ _ _ _ _ e).2;obtain⟨h1,h2,U,Y,h5,h6⟩:=ih _ _ _ _ _ e (fun t M=>by rw[qCe];split;rfl;exact O t M) (fun t M=>by
    simp only[Nat.testBit_or,Bool.or_eq_true,cY,decide_eq_true_eq]at M hb;rcases M with h1 | h1 | h1
    .exact hb t (.inl h1)
    .exact hb t (.inr h1)
    .omega)
   refine⟨h1,h2,U,Y,fun t M=>?_,h6⟩;rw[h5 t M,qCe,if_neg];rintro rfl;rw[hm t (by simp[cY])]at M;cases M
  .cases e
 |fail=>intro n h rd wr out e;simp[AM.run]at e
theorem AM.run_local {α:Type}(m:AM α):∀(n:Nat) (h:Hp) (rd wr:Nat) (out:Out α) (K:cG),m.run n h rd wr=some out->aE n h->
  Agree K h (out.rd|||out.wr)->m.runK n K=some (out.val,out.nx,K.merge out):=by
 induction m with
 |ret a=>
  intro n h rd wr out K e U O;simp only[AM.run,Option.some.injEq]at e;subst e;simp only[AM.runK,Option.some.injEq,Prod.mk.injEq,true_and]
  funext t
  simp only[cG.merge];split
  .rename_i M;exact O t (by simp[M])
  .rfl
 |get o k ih=>
  intro n h rd wr out K e U O;simp only[AM.run]at e;split at e
  .rename_i x hx;have Y:=(qBC (k x) _ _ _ _ _ e).1;have hK:K o=some x:=(by rw[O o (by simp[Y o (by simp[cY])])];exact hx);simp only[AM.runK,hK];exact ih x _ _ _ _ _ _ e U O
  .cases e
 |set o x k ih=>
  intro n h rd wr out K e U O;simp only[AM.run]at e;split at e
  .rename_i y hy;have Y:=(qBC k _ _ _ _ _ e).2;have hw:out.wr.testBit o=true:=Y o (by simp[cY]);have a1:=U.lt_of_get hy;have hK:K o=some y:=(by rw[O o (by simp[hw])];exact hy);simp only[AM.runK,hK];rw[ih _ _ _ _ _ (K.upd o (some x)) e (fun t M=>by rw[qCf,if_neg om];exact U t M) (fun t M=>by
    rw[qCf];unfold cG.upd;split
    .rfl
    .exact O t M)]
   congr 3
   funext t
   simp only[cG.merge,cG.upd];split
   .rfl
   .rename_i M;rw[if_neg];rintro rfl;exact M hw
  .cases e
 |new x k ih=>
  intro n h rd wr out K e U O;simp only[AM.run]at e;have Y:=(qBC (k n) _ _ _ _ _ e).2;have hw:out.wr.testBit n=true:=Y n (by simp[cY]);simp only[AM.runK];rw[ih _ _ _ _ _ _ (K.upd n (some x)) e (fun t M=>by
    have e2:(n==t)=false:=(by simp<;>omega);simp only[Hp.get,e2,cond_false];exact U t om) (fun t M=>by
   by_cases e1:t=n
   .subst e1;simp[cG.upd,Hp.get]
   .have e2:(n==t)=false:=(by simpa using fun h=>e1 h.symm);simp only[cG.upd,e1,if_false,Hp.get,e2,cond_false];exact O t M)]
  congr 3
  funext t
  simp only[cG.merge,cG.upd];split
  .rfl
  .rename_i M;rw[if_neg];rintro rfl;exact M hw
 |del o k ih=>
  intro n h rd wr out K e U O;simp only[AM.run]at e;split at e
  .rename_i y hy;have Y:=(qBC k _ _ _ _ _ e).2;have hw:out.wr.testBit o=true:=Y o (by simp[cY]);have hK:K o=some y:=(by rw[O o (by simp[hw])];exact hy);simp only[AM.runK,hK];rw[ih _ _ _ _ _ (K.upd o none) e (fun t M=>by rw[qCe];split;rfl;exact U t M) (fun t M=>by
    rw[qCe];unfold cG.upd;split
    .rfl
    .exact O t M)]
   congr 3
   funext t
   simp only[cG.merge,cG.upd];split
   .rfl
   .rename_i M;rw[if_neg];rintro rfl;exact M hw
  .cases e
 |fail=>intro n h rd wr out K e;simp[AM.run]at e
theorem qCY {α β:Type}(m:AM α)(f:α->AM β):∀(n:Nat) (K:cG),(m.bind f).runK n K=(m.runK n K).bind fun r=>(f r.1).runK r.2.1 r.2.2:=by
 induction m with
 |ret a=>intro n K;rfl
 |get o k ih=>intro n K;simp only[AM.bind,AM.runK];split<;>simp[ih]
 |set o x k ih=>intro n K;simp only[AM.bind,AM.runK];split<;>simp[ih]
 |new x k ih=>intro n K;simp only[AM.bind,AM.runK];exact ih _ _ _
 |del o k ih=>intro n K;simp only[AM.bind,AM.runK];split<;>simp[ih]
 |fail=>intro n K;rfl
section
variable {P:Program}{w:World}{G:Gh}
theorem run_underlying {t:TypeId}{d:TypeDesc}(h:P.underlying t=some d):(underlying t).run P w=.ok d w:=by
 simp[underlying,h]
theorem run_typeInfo {t:TypeId}{i:TypeInfo}(h:P.info? t=some i):(typeInfo t).run P w=.ok i w:=by
 simp[typeInfo,h]
theorem tL {t:TypeId}{b:Bool}(h:dR P t=some b):(isAgg t).run P w=.ok b w:=by
 unfold dR at h;split at h
 .rename_i hd;cases h;simp[isAgg,run_underlying hd]
 .rename_i hd;cases h;simp[isAgg,run_underlying hd]
 .rename_i d h1 h2 hd;cases h;rw[isAgg];simp only[Sem.run_bind,run_underlying hd,Result.andThen_ok];cases d<;>first | rfl | exact absurd hd (h1 _) | exact absurd hd (h2 _ _)
 .cases h
theorem run_sizeOf {t:TypeId}{n:Nat}(h:bN P t=some n):(sizeOf t).run P w=.ok n w:=by
 unfold bN at h;cases hi:P.info? t with
 |none=>rw[hi]at h;cases h
 |some i=>
  rw[hi]at h;simp at h;simp[sizeOf,run_typeInfo hi,h]
theorem Cc {v:Value}{x:AV}(h:Cb v=some x):aF G x v:=by
 unfold Cb at h;split at h<;>first
  |(cases h;simp[aF];done)
  |cases h
theorem yZ:∀{l:List Value}{xs:List AV},wH l=some xs->aI G xs l
 |[],xs,h=>by simp[wH]at h;subst h;simp[aI]
 |v::vs,xs,h=>by
  simp only[wH]at h;split at h
  .rename_i a l h1 h2;cases h;exact aI.cons (Cc h1) (yZ h2)
  .cases h
theorem Gd {v:Value}{x:AV}(h:Ca v=some x):aF G x v:=by
 unfold Ca at h;split at h
 .split at h
  .rename_i l hl;cases h;simp only[aF];exact⟨_,rfl,yZ hl⟩
  .cases h
 .exact Cc h
theorem oJ {t:TypeId}{z:AV}(h:bK P t=some z):∃ v,(zeroValue t).run P w=.ok v w/\aF G z v:=by
 unfold bK at h;split at h
 .rename_i i hi;split at h
  .rename_i v hv;exact⟨v,by simp[zeroValue,run_typeInfo hi,hv],Gd h⟩
  .cases h
 .cases h
theorem qCa (b off j:Nat):(⟨b,off,none⟩:Addr).add j=⟨b,off+j,none⟩:=by
 unfold Addr.add;split
 .rename_i h;subst h;rfl
 .rfl
def CR (G:Gh)(w:World)(b off:Nat)(cs:List AV):Prop:=∀ j x,cs[j]?=some x->∃ v,w.cell? ⟨b,off+j,none⟩=some v/\aF G x v
theorem run_loadCellsFrom (b off:Nat):∀(n i:Nat) (vs:List Value) (acc:Array Value),vs.length=n->
  (∀ j v,vs[j]?=some v->w.cell? ⟨b,off+i+j,none⟩=some v)->
  (loadCellsFrom ⟨b,off,none⟩ i n acc).run P w=.ok (acc++vs.toArray) w
 |0,i,vs,acc,hn,_=>by
  have:vs=[]:=List.length_eq_zero_iff.1 hn;subst this;simp[loadCellsFrom]
 |n+1,i,[],acc,hn,_=>by simp at hn
 |n+1,i,v::vs,acc,hn,hv=>by
  have h0:w.cell? ⟨b,off+i,none⟩=some v:=(by simpa using hv 0 v rfl);have M:=run_loadCellsFrom b off n (i+1) vs (acc.push v) (by simpa using hn) (fun j u hu=>by
   have:=hv (j+1) u (by simpa using hu);rw[show off+(i+1)+j=off+i+(j+1) from by omega];exact this)
  simp only[loadCellsFrom,Sem.run_bind,run_load,qCa,h0,Result.andThen_ok,M]
  congr 1
  simp
theorem run_loadCells (b off:Nat)(vs:List Value)(hv:∀ j v,vs[j]?=some v->w.cell? ⟨b,off+j,none⟩=some v) :
  (loadCells ⟨b,off,none⟩ vs.length).run P w=.ok vs.toArray w:=by
 have:=run_loadCellsFrom (P:=P) b off vs.length 0 vs #[] rfl (by simpa using hv);simpa [loadCells]using this
theorem CR.vals {b off:Nat}:∀{cs:List AV},CR G w b off cs->∃ vs,aI G cs vs/\∀ j v,vs[j]?=some v->w.cell? ⟨b,off+j,none⟩=some v:=by
 intro cs
 induction cs generalizing off with
 |nil=>intro _;exact⟨[],aI.nil,by simp⟩
 |cons x xs ih=>
  intro h;obtain⟨v,O,M⟩:=h 0 x rfl;obtain⟨vs,h1,h2⟩:=ih (off:=off+1) (fun j y U=>by
   obtain⟨u,h1,h2⟩:=h (j+1) y (by simpa using U);exact⟨u,by rw[show off+1+j=off+(j+1) from by omega];exact h1,h2⟩)
  refine⟨v::vs,aI.cons M h1,fun j u hu=>?_⟩;cases j with
  |zero=>simp at hu;subst hu;exact O
  |succ j=>
   have:=h2 j u (by simpa using hu);rw[show off+1+j=off+(j+1) from by omega]at this;exact this
theorem CR.sub {b off:Nat}{cs ds:List AV}{i n:Nat}(h:CR G w b off cs)(hs:sub cs i n=some ds):CR G w b (off+i) ds/\ds.length=n:=by
 unfold Ez.sub at hs;cases hb:Nat.ble (i+n) cs.length with
 |false=>rw[hb]at hs;cases hs
 |true=>
  rw[hb]at hs;simp only[cond_true,Option.some.injEq]at hs;subst hs;have O:=Nat.le_of_ble_eq_true hb;refine⟨fun j x M=>?_,by simp<;>omega⟩;rw[List.getElem?_take]at M;split at M
  .rw[List.getElem?_drop]at M;obtain⟨v,h1,h2⟩:=h _ x M;exact⟨v,by rw[Nat.add_assoc];exact h1,h2⟩
  .cases M
theorem sS {t:TypeId}{cs:List AV}{i:Nat}{x:AV}{b off:Nat}(h:cN P t cs i=some x)(hc:CR G w b off cs) :
  ∃ v,(loadVar t ⟨b,off+i,none⟩).run P w=.ok v w/\aF G x v:=by
 unfold cN at h;split at h
 .rename_i n ha hn;cases hs:sub cs i n with
  |none=>rw[hs]at h;cases h
  |some ds=>
   rw[hs]at h;simp at h;subst h;obtain⟨hd,O⟩:=hc.sub hs;obtain⟨vs,h1,h2⟩:=hd.vals;have M:vs.length=n:=(by rw[<- h1.length,O]);refine⟨.agg vs.toArray,?_,?_⟩
   .simp only[loadVar,Sem.run_bind,tL ha,Result.andThen_ok,if_true,run_sizeOf hn,Sem.run_pure];rw[<- M,run_loadCells b (off+i) vs h2]
    rfl
   .simp only[aF];exact⟨_,rfl,by simpa using h1⟩
 .rename_i n ha hn;obtain⟨v,h1,h2⟩:=hc i x h;exact⟨v,by simp[loadVar,tL ha,h1],h2⟩
 .cases h
theorem bA.get {c:Nat->Option Value}{es:Nat}:∀{off:Nat}{xs:List AV}{k:Nat}{x:AV},bA G c es off xs->xs[k]?=some x->
  ∃ u,aF G x u/\u.cells.size=es/\∀ j (h:j<u.cells.size),c (off+k*es+j)=some u.cells[j]
 |_,[],_,_,_,h=>by simp at h
 |off,y::ys,0,x,r,h=>by
  simp only[bA]at r;simp at h;subst h;simpa using r.1
 |off,y::ys,k+1,x,r,h=>by
  simp only[bA]at r;obtain⟨u,h1,h2,M⟩:=bA.get r.2 (by simpa using h);exact⟨u,h1,h2,fun j O=>by rw[<- M j O];congr 1;rw[Nat.add_mul];omega⟩
theorem bA.of_get {c:Nat->Option Value}{es:Nat}:∀{off:Nat}{xs:List AV},(∀ k x,xs[k]?=some x->∃ u,aF G x u/\u.cells.size=es/\∀ j (h:j<u.cells.size),c (off+k*es+j)=some u.cells[j])->bA G c es off xs
 |_,[],_=>by simp[bA]
 |off,y::ys,h=>by
  simp only[bA];refine⟨by simpa using h 0 y rfl,bA.of_get fun k x U=>?_⟩;obtain⟨u,h1,h2,M⟩:=h (k+1) x (by simpa using U);exact⟨u,h1,h2,fun j O=>by rw[<- M j O];congr 1;rw[Nat.add_mul];omega⟩
theorem bA.cr {es:Nat}{off b:Nat}{xs:List AV}{k:Nat}{x:AV}(h:bA G (fun i=>w.cell? ⟨b,i,none⟩) es off xs)(hx:xs[k]?=some x)(hu:x≠.unk) :
  CR G w b (off+k*es) x.cells:=by
 obtain⟨u,h1,h2,U⟩:=h.get hx;intro j y hy;obtain⟨v,O,Y⟩:=aI.get j (h1.cellsL hu) hy;have M:j<u.cells.size:=by
  have:=(List.getElem?_eq_some_iff.1 O).1;simpa using this
 refine⟨v,?_,Y⟩;rw[U j M];rw[<- O];simp[M]
theorem wO {t:TypeId}{es:Nat}{xs:List AV}{i:Nat}{x:AV}{b off:Nat}(h:cF P t es xs i=some x)
  (hc:bA G (fun i=>w.cell? ⟨b,i,none⟩) es off xs):∃ v,(loadVar t ⟨b,off+i,none⟩).run P w=.ok v w/\aF G x v:=by
 unfold cF at h;split at h
 .cases h
 .rename_i y hu hy;have M:=hc.cr hy hu;obtain⟨v,h1,h2⟩:=sS h M;refine⟨v,?_,h2⟩;rw[show off+i=off+i / es*es+i % es from by have:=Nat.div_add_mod i es;rw[Nat.mul_comm]at this;omega];exact h1
 .cases h
def zD (us:List Value)(i:Nat)(vs:List Value):List Value:=us.take i++(vs++us.drop (i+vs.length))
structure Wrote (w w':World)(b:Nat)(ob:Obj):Prop where
 self:w'.heap[b]?=some ob
 oth:∀ c,c≠b->w'.heap[c]?=w.heap[c]?
 size:w'.heap.size=w.heap.size
 os:w'.os=w.os
 out:w'.output=w.output
 tape:w'.tape=w.tape
theorem Wrote.refl {w:World}{b:Nat}{ob:Obj}(h:w.heap[b]?=some ob):Wrote w w b ob:=⟨h,fun _ _=>rfl,rfl,rfl,rfl,rfl⟩
theorem Wrote.trans {w w1 w2:World}{b:Nat}{o1 o2:Obj}(h:Wrote w w1 b o1)(k:Wrote w1 w2 b o2):Wrote w w2 b o2:=
 ⟨k.self,fun c M=>(k.oth c M).trans (h.oth c M),k.size.trans h.size,k.os.trans h.os,k.out.trans h.out,k.tape.trans h.tape⟩
theorem Es {w:World}{b off:Nat}{us:Array Value}{el:TypeId}{fz:Nat×Nat}(h:w.heap[b]?=some (.cells us el fz))(v:Value) :
  Wrote w (w.setCell ⟨b,off,none⟩ v) b (.cells (us.setIfInBounds off v) el fz):=by
 refine⟨?_,fun c M=>?_,?_,rfl,rfl,rfl⟩
 .simp[World.setCell,Array.getElem?_modify,h]
 .simp only[World.setCell,Array.getElem?_modify];rw[if_neg (fun e=>M e.symm)]
 .simp[World.setCell]
theorem oG (b off:Nat)(el:TypeId)(fz:Nat×Nat):∀(vs:List Value) (i:Nat) (us:Array Value) (w:World),w.heap[b]?=some (.cells us el fz)->
  off+i+vs.length<=us.size->GD us.size fz->(∀ v ∈ vs,v.oneCell'=true)->
  ∃ w',(storeCells ⟨b,off,none⟩ vs i).run P w=.ok () w'/\Wrote w w' b (.cells (zD us.toList (off+i) vs).toArray el fz)
 |[],i,us,w,h,hle,_,_=>by
  refine⟨w,by simp[storeCells],?_⟩;have:(zD us.toList (off+i) []).toArray=us:=(by simp[zD]);rw[this];exact .refl h
 |v::vs,i,us,w,h,hle,hz,h1=>by
  have M:off+i<us.size:=(by simp at hle;omega);have hc:w.cell? ⟨b,off+i,none⟩=some us[off+i]:=(by simp[World.cell?,h,M]);have hf:w.frozen? ⟨b,off+i,none⟩=false:=by
   obtain⟨lo,hi⟩:=fz;unfold GD at hz;simp only at hz;simp only[World.frozen?,h,Bool.and_eq_false_iff,decide_eq_false_iff_not];omega
  have U:=Es (off:=off+i) h v;obtain⟨w',h2,O⟩:=oG b off el fz vs (i+1) (us.setIfInBounds (off+i) v) _ U.self (by simp at hle ⊢;omega) (by simpa using hz) (fun u hu=>h1 u (by simp[hu]));refine⟨w',?_,?_⟩
  .simp only[storeCells,Sem.run_bind,qCa,run_store P w _ v _ (h1 v sm),hc,hf,Bool.false_eq_true,if_false,Result.andThen_ok];exact h2
  .have e:zD (us.setIfInBounds (off+i) v).toList (off+(i+1)) vs=zD us.toList (off+i) (v::vs):=by
    have hl:off+i<us.toList.length:=(by simpa using M);simp only[zD,Array.toList_setIfInBounds,List.length_cons];rw[show off+(i+1)=off+i+1 from by omega,List.take_set,List.drop_set];have Y:List.take (off+i+1) us.toList=List.take (off+i) us.toList++[us.toList[off+i]]:=by
     rw[List.take_succ_eq_append_getElem hl]
    rw[if_pos om,show off+i+(vs.length+1)=off+i+1+vs.length from by omega,Y,List.set_append];have e2:(List.take (off+i) us.toList).length=off+i:=(by rw[List.length_take];omega);simp[e2]
   rw[e]at O;exact U.trans O
theorem wQ {t:TypeId}{b off:Nat}{el:TypeId}{fz:Nat×Nat}{us:Array Value}{v:Value}{n:Nat}(hn:bN P t=some n)(hv:v.cells.size=n)
  (h:w.heap[b]?=some (.cells us el fz)) (hle:off+n<=us.size) (hz:GD us.size fz) (h1:∀ u ∈ v.cells.toList,u.oneCell'=true) :
  ∃ w',(storeVar t ⟨b,off,none⟩ v).run P w=.ok () w'/\Wrote w w' b (.cells (zD us.toList off v.cells.toList).toArray el fz):=by
 obtain⟨w',h2,M⟩:=oG (P:=P) b off el fz v.cells.toList 0 us w h (by simpa [hv]using hle) hz h1;refine⟨w',?_,by simpa using M⟩;simp only[storeVar,Sem.run_bind,run_sizeOf hn,Result.andThen_ok,hv,ne_eq,not_true_eq_false,if_false];exact h2
theorem uW {cs ds vs:List AV}{us us':List Value}{i:Nat}(h:splice cs i vs=some ds)(hc:aI G cs us)(hv:aI G vs us') :
  aI G ds (zD us i us')/\i+us'.length<=us.length:=by
 unfold splice at h;cases hb:Nat.ble (i+vs.length) cs.length with
 |false=>rw[hb]at h;cases h
 |true=>
  rw[hb]at h;simp only[cond_true,Option.some.injEq]at h;subst h;have M:=Nat.le_of_ble_eq_true hb;unfold zD;rw[hv.length]at M ⊢;rw[hc.length]at M;exact⟨(hc.take i).append (hv.append (hc.drop _)),M⟩
theorem yI {x:AV}{v:Value}(h:aF G x v)(hw:x.whole=true):∀ u ∈ v.cells.toList,u.oneCell'=true:=by
 intro u hu;have O:=h.cellsL (qBD hw);obtain⟨i,hi,rfl⟩:=List.getElem_of_mem hu;have M:i<x.cells.length:=(by rw[O.length];exact hi);obtain⟨_,h1,h2⟩:=aI.get i O (List.getElem?_eq_getElem M);rw[List.getElem?_eq_getElem hi]at h1;cases h1;exact h2.oneCell (AV.cells_one hw _ (List.getElem_mem M))
end
theorem qBB {α:Type}{o:Option α}{n:Nat}{K:cG}{r:α×Nat×cG}(h:(AM.ofOpt o).runK n K=some r):o=some r.1/\r.2=(n,K):=by
 cases o with
 |none=>simp[AM.ofOpt,AM.runK]at h
 |some a=>simp[AM.ofOpt,AM.runK]at h;subst h;exact⟨rfl,rfl⟩
def Pg (G:Gh)(Gl:qC6):Prop:=∀ g cs,Gl g=some cs->∀(j:Nat) (x:AV),cs[j]?=some x->∃ v,G.S g j=some v/\aF G x v
theorem Pg.mono {G G':Gh}{Gl:qC6}(h:G.le G')(r:Pg G Gl):Pg G' Gl:=fun g cs M j x O=>
 let ⟨v,h1,h2⟩:=r g cs M j x O
 ⟨v,h.2 _ _ _ h1,h2.mono h _ _⟩
section
variable {P:Program}{Gl:qC6}{w0:Base}{B:Nat}{K K':cG}{G:Gh}{w:World}{n n':Nat}
theorem eO.cr (hR:eO w0 B K G w){o:Nat}{cs:List AV}(hK:K o=some (.cells cs)){I:lR}(hI:G.nm o=some I):I.dl=0/\CR G w I.blk 0 cs:=by
 obtain⟨J,ob,h1,_,O,M⟩:=hR.obj o _ hK;obtain rfl:J=I:=Option.some.inj (h1.symm.trans hI);cases ob<;>simp only[cK]at M
 rename_i us el fz;obtain⟨hd,M,_⟩:=M;refine⟨hd,fun j x hx=>?_⟩;obtain⟨v,Y,U⟩:=aI.get j M hx;exact⟨v,by simpa [World.cell?,O]using Y,U⟩
theorem eO.es (hR:eO w0 B K G w){o es:Nat}{xs:List AV}(hK:K o=some (.arr es xs)){I:lR}(hI:G.nm o=some I) :
  bA G (fun i=>w.cell? ⟨I.blk,i,none⟩) es I.dl xs/\I.es=es/\I.ln=xs.length/\0<es:=by
 obtain⟨J,ob,h1,_,h3,M⟩:=hR.obj o _ hK;obtain rfl:J=I:=Option.some.inj (h1.symm.trans hI);cases ob<;>simp only[cK]at M
 rename_i us el fz;obtain⟨O,U,_,Y,_,M,_⟩:=M;refine⟨bA.mono G.le_refl (fun i v hv=>?_) es _ xs M,O,U,Y⟩;simpa [World.cell?,h3]using hv
theorem eO.vec (hR:eO w0 B K G w){b es off:Nat}{xs:List AV}(h:bA G (G.S b) es off xs):bA G (fun i=>w.cell? ⟨b,i,none⟩) es off xs:=
 bA.mono G.le_refl (fun i v M=>hR.S b i v M) es off xs h
theorem yY {t:TypeId}{a x:AV}{ca:Value}(hR:eO w0 B K G w)(hG:Pg G Gl)(ha:aF G a ca)(hm:(rM P Gl t a).runK n K=some (x,n',K')) :
  (n'=n/\K'=K)/\∃ v,(Instr.loadAt t ca).run P w=.ok v w/\aF G x v:=by
 cases a<;>simp only[rM,AM.runK]at hm<;>try (cases hm;done)
 .rename_i o i;simp only[aF]at ha;obtain⟨I,Y,rfl⟩:=ha;split at hm
  .rename_i ob hK;cases ob<;>simp only[AM.runK]at hm<;>try (cases hm;done)
   .rename_i cs;obtain⟨h1,h2⟩:=qBB hm;cases h2;obtain⟨hd,U⟩:=hR.cr hK Y;obtain⟨v,M,O⟩:=sS h1 U;refine⟨⟨rfl,rfl⟩,v,?_,O⟩;simpa [Instr.loadAt,Instr.sureAddr,hd]using M
   .rename_i es xs;obtain⟨h1,h2⟩:=qBB hm;cases h2;obtain⟨U,_⟩:=hR.es hK Y;obtain⟨v,M,O⟩:=wO h1 U;refine⟨⟨rfl,rfl⟩,v,?_,O⟩;simpa [Instr.loadAt,Instr.sureAddr]using M
  .cases hm
 .rename_i g i;simp only[aF]at ha;subst ha;split at hm
  .rename_i cs hg;obtain⟨h1,h2⟩:=qBB hm;cases h2;have U:CR G w g 0 cs:=fun j y hy=>by
    obtain⟨v,M,O⟩:=hG g cs hg j y hy;exact⟨v,by simpa using hR.S _ _ _ M,O⟩
   obtain⟨v,M,O⟩:=sS h1 U;refine⟨⟨rfl,rfl⟩,v,?_,O⟩;simpa [Instr.loadAt,Instr.sureAddr]using M
  .cases hm
 .rename_i xs es i;simp only[aF]at ha;obtain⟨b,off,rfl,hE⟩:=ha;obtain⟨h1,h2⟩:=qBB hm;cases h2;obtain⟨v,M,O⟩:=wO h1 (hR.vec hE);refine⟨⟨rfl,rfl⟩,v,?_,O⟩;simpa [Instr.loadAt,Instr.sureAddr]using M
theorem xA {t:TypeId}{cs ds:List AV}{i:Nat}{x:AV}(h:dP P t cs i x=some ds) :
  x.whole=true/\bN P t=some x.cells.length/\splice cs i x.cells=some ds:=by
 unfold dP at h;cases hb:(x.whole&&bN P t==some x.cells.length) with
 |false=>rw[hb]at h;cases h
 |true=>
  rw[hb]at h;rw[Bool.and_eq_true,beq_iff_eq]at hb;exact⟨hb.1,hb.2,h⟩
theorem kN (us vs:List Value)(i:Nat)(h:i+vs.length<=us.length):(zD us i vs).length=us.length:=by
 unfold zD;simp<;>omega
theorem lL (us vs:List Value)(i j:Nat)(h:i+vs.length<=us.length):(zD us i vs)[j]?=if i<=j/\j<i+vs.length then vs[j-i]? else us[j]?:=by
 unfold zD;have M:(us.take i).length=i:=(by simp<;>omega);by_cases h1:j<i
 .rw[List.getElem?_append_left om,List.getElem?_take,if_pos h1,if_neg om]
 .rw[List.getElem?_append_right om,M];by_cases h2:j<i+vs.length
  .rw[List.getElem?_append_left om,if_pos om]
  .rw[List.getElem?_append_right om,List.getElem?_drop,if_neg om]
   congr 1;omega
theorem bA.write {es off k f:Nat}{xs:List AV}{us vs:List Value}{x y:AV}{ds:List AV}(h:bA G (fun i=>us[i]?) es off xs)(hx:xs[k]?=some x)(hu:x≠.unk)
  (hsp:splice x.cells f ds=some y.cells) (hy:y=lJ x y.cells) (hv:aI G ds vs) (h1:∀ z ∈ y.cells,z.one=true) (hle:off+xs.length*es<=us.length) :
  bA G (fun i=>(zD us (off+k*es+f) vs)[i]?) es off (xs.set k y)/\off+k*es+f+vs.length<=us.length:=by
 obtain⟨u,hr,hs,hc⟩:=h.get hx;have hk:k<xs.length:=(List.getElem?_eq_some_iff.1 hx).1;have a5:=hr.cellsL hu;obtain⟨O,Y⟩:=uW hsp a5 hv;have aa:u.cells.toList.length=es:=(by simpa using hs);have a8:k*es+es<=xs.length*es:=by
  have:(k+1)*es<=xs.length*es:=Nat.mul_le_mul_right es hk;rw[Nat.add_mul]at this;omega
 have U:off+k*es+f+vs.length<=us.length:=om;refine⟨bA.of_get fun j z hz=>?_,U⟩;rw[List.getElem?_set]at hz;by_cases e:k=j
 .subst e;simp only[if_true]at hz;split at hz
  .cases hz;have key:∃ u',aF G y u'/\u'.cells.toList=zD u.cells.toList f vs:=by
    cases x with
    |agg xc=>
     rw[hy];simp only[lJ];exact⟨.agg (zD u.cells.toList f vs).toArray,by simp only[aF];exact⟨_,rfl,by simpa using O⟩,by simp[Value.cells]⟩
    |unk=>exact absurd rfl hu
    |_=>
     all_goals
      have M:=O.length;rw[kN _ _ _ Y]at M;have e1:=hr.not_agg sm hu;rw[e1]at M O ⊢;obtain⟨z1,hz1⟩:∃ z1,y.cells=[z1]:=by
       match hyc:y.cells with
       |[z1]=>exact⟨z1,rfl⟩
       |[]=>rw[hyc]at M;simp at M
       |_::_::_=>rw[hyc]at M;simp at M
      rw[hz1]at O;have a7:y=z1:=(by rw[hy,hz1];simp[lJ]);simp only[aI]at O;obtain⟨v1,r1,h2,h3,h4⟩:=O;rw[h2,h4,a7];refine⟨v1,h3,?_⟩;have a3:z1.one=true:=h1 z1 (by rw[hz1];simp);rw[h3.not_agg (by rintro cs rfl;simp[AV.one]at a3) (by rintro rfl;simp[AV.one]at a3)]
   obtain⟨u',k1,k2⟩:=key;have a6:u'.cells.size=es:=by
    have:=congrArg List.length k2;rw[kN _ _ _ Y]at this;simp at this;omega
   refine⟨u',k1,a6,fun j hj=>?_⟩;rw[lL _ _ _ _ U];have hg:u'.cells[j]?=some u'.cells[j]:=Array.getElem?_eq_getElem hj;rw[<- Array.getElem?_toList,k2,lL _ _ _ _ Y]at hg;by_cases e2:f<=j/\j<f+vs.length
   .rw[if_pos e2]at hg;rw[if_pos om,show off+k*es+j-(off+k*es+f)=j-f from by omega];exact hg
   .rw[if_neg e2]at hg;rw[if_neg om];have a4:j<u.cells.size:=om;rw[Array.getElem?_toList,Array.getElem?_eq_getElem a4]at hg;exact(hc j a4).trans hg
  .exact absurd hk (by assumption)
 .simp only[e,if_false]at hz;obtain⟨u',k1,k2,k3⟩:=h.get hz;have a9:j<xs.length:=(List.getElem?_eq_some_iff.1 hz).1;refine⟨u',k1,k2,fun i hi=>?_⟩;rw[lL _ _ _ _ U,if_neg]
  .exact k3 i hi
  .rintro ⟨a1,a2⟩;rcases Nat.lt_or_ge j k with h5 | h5
   .have:(j+1)*es<=k*es:=Nat.mul_le_mul_right es h5;rw[Nat.add_mul]at this;omega
   .have:(k+1)*es<=j*es:=Nat.mul_le_mul_right es om;rw[Nat.add_mul]at this;omega
theorem AV.one_cells {z:AV}(h:z.one=true):z.cells=[z]:=by cases z<;>simp[AV.one]at h<;>rfl
theorem Eo {x:AV}{cs:List AV}(hl:cs.length=x.cells.length)(h1:cs.all AV.one=true):(lJ x cs).cells=cs:=by
 by_cases M:∃ l,x=.agg l
 .obtain⟨l,rfl⟩:=M;rfl
 .have O:x.cells=[x]:=(by cases x<;>first | rfl | exact absurd ⟨_,rfl⟩ M);have U:lJ x cs=cs.headD x:=(by cases x<;>first | rfl | exact absurd ⟨_,rfl⟩ M);rw[O]at hl
  match cs,hl,h1 with
  |[z],_,h1=>rw[U];exact AV.one_cells (by simpa using h1)
theorem Et {cs ds vs:List AV}{i:Nat}(h:splice cs i vs=some ds):ds.length=cs.length:=by
 unfold splice at h;cases hb:Nat.ble (i+vs.length) cs.length with
 |false=>rw[hb]at h;cases h
 |true=>
  rw[hb]at h;simp only[cond_true,Option.some.injEq]at h;have:=Nat.le_of_ble_eq_true hb;subst h;simp<;>omega
theorem Iz {t:TypeId}{a x:AV}{ca cx:Value}(hR:eO w0 B K G w)(ha:aF G a ca)(hx:aF G x cx)(hm:(Cr P t a x).runK n K=some ((),n',K')) :
  n'=n/\∃ w',(Instr.storeAt t ca cx).run P w=.ok () w'/\eO w0 B K' G w':=by
 cases a<;>simp only[Cr,AM.runK]at hm<;>try (cases hm;done)
 rename_i o i;simp only[aF]at ha;obtain⟨I,hI,rfl⟩:=ha;split at hm
 .rename_i ob hK;obtain⟨J,a1,e1,_,hb,hO⟩:=hR.obj o _ hK;obtain rfl:J=I:=Option.some.inj (e1.symm.trans hI);cases ob<;>simp only[AM.runK]at hm<;>try (cases hm;done)
  .rename_i cs;split at hm
   .rename_i cs' hw;simp only[AM.runK,hK,Option.some.injEq,Prod.mk.injEq,true_and]at hm;obtain⟨rfl,rfl⟩:=hm;obtain⟨h1,h2,h3⟩:=xA hw;cases a1<;>simp only[cK]at hO
    rename_i us el fz;obtain⟨hd,hO,hz⟩:=hO;have O:=hx.cellsL (qBD h1);obtain⟨h4,h5⟩:=uW h3 hO O;have U:cx.cells.size=x.cells.length:=(by have:=O.length;simpa using this.symm);obtain⟨w',h6,M⟩:=wQ (P:=P) (off:=i) h2 U hb (by simpa [U]using h5) hz (yI hx h1);refine⟨rfl,w',by simpa [Instr.storeAt,Instr.sureAddr,hd]using h6,?_⟩;refine hR.write hK hI ?_ M.self M.oth M.size M.os M.out M.tape;simp only[cK];refine⟨hd,h4,?_⟩;have:(zD us.toList i cx.cells.toList).toArray.size=us.size:=(by simpa using kN us.toList cx.cells.toList i (by simpa using h5));rw[this];exact hz
   .simp only[AM.runK]at hm;cases hm
  .rename_i es xs;split at hm
   .rename_i xs' hw;simp only[AM.runK,hK,Option.some.injEq,Prod.mk.injEq,true_and]at hm;obtain⟨rfl,rfl⟩:=hm;unfold cP at hw;split at hw
    .cases hw
    .rename_i z hzu hz0;split at hw
     .rename_i ds hwa;cases hall:ds.all AV.one with
      |false=>rw[hall]at hw;cases hw
      |true=>
       rw[hall]at hw;simp only[cond_true,Option.some.injEq]at hw;subst hw;obtain⟨h1,h2,h3⟩:=xA hwa;cases a1<;>simp only[cK]at hO
       rename_i us el fz;obtain⟨e2,e3,e4,e5,e6,hE,hz⟩:=hO;have O:=hx.cellsL (qBD h1);have Y:=Eo (Et h3) hall;have U:cx.cells.size=x.cells.length:=(by have:=O.length;simpa using this.symm);have a3:bA G (fun i=>us.toList[i]?) es J.dl xs:=(by simpa using hE);obtain⟨h4,h5⟩:=bA.write (f:=i % es) (y:=lJ z ds) a3 hz0 hzu (by rw[Y];exact h3) (by rw[Y]) O (by rw[Y];simpa using hall) (by simpa using e6);have a2:J.dl+i / es*es+i % es=J.dl+i:=(by have:=Nat.div_add_mod i es;rw[Nat.mul_comm]at this;omega);rw[a2]at h4 h5;obtain⟨w',h6,M⟩:=wQ (P:=P) (off:=J.dl+i) h2 U hb (by simpa [U]using h5) hz (yI hx h1);refine⟨rfl,w',by simpa [Instr.storeAt,Instr.sureAddr]using h6,?_⟩;refine hR.write hK hI ?_ M.self M.oth M.size M.os M.out M.tape;have a4:(zD us.toList (J.dl+i) cx.cells.toList).toArray.size=us.size:=(by simpa using kN us.toList cx.cells.toList (J.dl+i) (by simpa using h5));simp only[cK];rw[a4];refine⟨e2,by simpa using e3,e4,e5,by simpa using e6,?_,hz⟩;simpa using h4
     .cases hw
    .cases hw
   .simp only[AM.runK]at hm;cases hm
 .cases hm
theorem Ac {a x:AV}{d:Nat}{ca:Value}(ha:aF G a ca)(h:bW a d=some x):∃ ad:Addr,ca=.pointer (some ad)/\aF G x (.pointer (some (ad.add d))):=by
 cases a<;>simp[bW]at h<;>subst h<;>simp only[aF]at ha
 .obtain⟨I,h1,rfl⟩:=ha;exact⟨_,rfl,by simp only[aF];exact⟨I,h1,by rw[qCa];simp<;>omega⟩⟩
 .subst ha;exact⟨_,rfl,by simp only[aF];rw[qCa]⟩
 .obtain⟨b,off,rfl,h⟩:=ha;exact⟨_,rfl,by simp only[aF];exact⟨b,off,by rw[qCa];simp<;>omega,h⟩⟩
theorem vR {s:TypeId}{f:Nat}{fd:Field}(h:zQ P s f=some fd):∃ fs,P.underlying s=some (.struct fs)/\fs[f]?=some fd:=by
 unfold zQ at h;split at h
 .rename_i fs hd;exact⟨fs,hd,h⟩
 .cases h
theorem xO {s:TypeId}{a x:AV}{f:Nat}{ca:Value}(ha:aF G a ca)(hm:(aR P s a f).runK n K=some (x,n',K')) :
  (n'=n/\K'=K)/\∃ v,(Instr.fieldAt s ca f).run P w=.ok v w/\aF G x v:=by
 unfold aR at hm;split at hm
 .rename_i fd hf;obtain⟨fs,h1,h2⟩:=vR hf;split at hm
  .simp only[AM.runK]at hm;cases hm
  .rename_i k hk;obtain⟨M,O⟩:=qBB hm;cases O;obtain⟨Y,rfl,U⟩:=Ac ha M;refine⟨⟨rfl,rfl⟩,_,?_,U⟩;simp[Instr.fieldAt,run_underlying h1,h2,Instr.sureAddr,fieldPlace,run_sizeOf hk]
  .simp only[AM.runK]at hm;cases hm
 .simp only[AM.runK]at hm;cases hm
theorem wP {t:TypeId}{cs:List AV}{us:Array Value}{i:Nat}{x:AV}(hc:aI G cs us.toList)(h:cN P t cs i=some x) :
  ∃ v,(part t us i).run P w=.ok v w/\aF G x v:=by
 unfold cN at h;split at h
 .rename_i k ha hn;cases hs:sub cs i k with
  |none=>rw[hs]at h;cases h
  |some ds=>
   rw[hs]at h;simp at h;subst h;refine⟨.agg (us.extract i (i+k)),by simp[part,tL ha,run_sizeOf hn],?_⟩;simp only[aF];refine⟨_,rfl,?_⟩;unfold Ez.sub at hs;cases hb:Nat.ble (i+k) cs.length with
   |false=>rw[hb]at hs;cases hs
   |true=>
    rw[hb]at hs;simp only[cond_true,Option.some.injEq]at hs;subst hs;have e:(us.extract i (i+k)).toList=(us.toList.drop i).take k:=(by simp[List.take_drop]);rw[e];exact(hc.drop i).take k
 .rename_i k ha hn;obtain⟨v,h1,h2⟩:=aI.get i hc h;refine⟨v,?_,h2⟩;have M:us[i]?=some v:=(by simpa using h1);simp[part,tL ha,M]
 .cases h
theorem Hi {t:TypeId}{a x:AV}{f:Nat}{ca:Value}(ha:aF G a ca)(hm:(nW P t a f).runK n K=some (x,n',K')) :
  (n'=n/\K'=K)/\∃ v,(Instr.field t ca f).run P w=.ok v w/\aF G x v:=by
 unfold nW at hm;split at hm
 .rename_i fd cs hf;obtain⟨fs,h1,h2⟩:=vR hf;obtain⟨M,O⟩:=qBB hm;cases O;simp only[aF]at ha;obtain⟨us,rfl,hc⟩:=ha;obtain⟨v,U,Y⟩:=wP (w:=w) hc M;exact⟨⟨rfl,rfl⟩,v,by simp[Instr.field,run_underlying h1,h2,asAgg,U],Y⟩
 .simp only[AM.runK]at hm;cases hm
theorem mN {i:Int}{m k:Nat}(h:inside i m=some k):i=(k:Int)/\k<m:=by
 unfold inside at h;split at h
 .rename_i j;cases hb:Nat.blt j m with
  |false=>rw[hb]at h;cases h
  |true=>
   rw[hb]at h;simp only[cond_true,Option.some.injEq]at h;subst h;exact⟨rfl,Nat.le_of_ble_eq_true hb⟩
 .cases h
theorem xV {t:TypeId}{a i x:AV}{ca ci:Value}(hR:eO w0 B K G w)(ha:aF G a ca)(hi:aF G i ci)(hm:(dU P t a i).runK n K=some (x,n',K')) :
  (n'=n/\K'=K)/\∃ v,(Instr.indexAt t ca ci).run P w=.ok v w/\aF G x v:=by
 unfold dU at hm;split at hm
 .rename_i k i;simp only[aF]at hi;subst hi;split at hm
  .rename_i e hd;split at hm
   .
    rename_i es xs es' full hes;split at hm
    .rename_i j hj;obtain⟨rfl,M⟩:=mN hj;cases hq:(es==es') with
     |false=>rw[hq]at hm;cases hm
     |true=>
      rw[hq]at hm;simp only[cond_true,AM.runK,Option.some.injEq,Prod.mk.injEq]at hm;obtain⟨rfl,rfl,rfl⟩:=hm;obtain rfl:es=es':=(by simpa using hq);simp only[aF]at ha;obtain⟨b,off,cap,rfl,_,_,hE⟩:=ha;refine⟨⟨rfl,rfl⟩,.pointer (some ⟨b,off+j*es,none⟩),?_,by simp only[aF];exact⟨b,off,rfl,hE⟩⟩;simp[Instr.indexAt,asIntOf,run_underlying hd,run_sizeOf hes,qCa,M]
    .simp only[AM.runK]at hm;cases hm
   .rename_i es o off len hes;simp only[AM.runK]at hm;split at hm
    .rename_i ob hK;cases ob<;>simp only[AM.runK]at hm<;>try (cases hm;done)
     rename_i es' xs;split at hm
     .rename_i j hj;obtain⟨rfl,M⟩:=mN hj;cases hq:(es==es') with
      |false=>rw[hq]at hm;cases hm
      |true=>
       rw[hq]at hm;simp only[cond_true,AM.runK,Option.some.injEq,Prod.mk.injEq]at hm;obtain⟨rfl,rfl,rfl⟩:=hm;obtain rfl:es=es':=(by simpa using hq);simp only[aF]at ha;obtain⟨I,ab,ao,cap,hI,rfl,O,h1,h2,Y,h4⟩:=ha;obtain⟨_,U,_,_⟩:=hR.es hK hI;obtain⟨rfl,rfl⟩:=O om;refine⟨⟨rfl,rfl⟩,.pointer (some ⟨I.blk,I.dl+(off+j)*es,none⟩),?_,by simp only[aF];exact⟨I,hI,rfl⟩⟩;simp[Instr.indexAt,asIntOf,run_underlying hd,run_sizeOf hes,qCa,M,U,Nat.add_mul]<;>omega
     .simp only[AM.runK]at hm;cases hm
    .cases hm
   .simp only[AM.runK]at hm;cases hm
  .rename_i len e hd;split at hm
   .rename_i es j hes hj;obtain⟨rfl,M⟩:=mN hj;obtain⟨Y,h4⟩:=qBB hm;cases h4;obtain⟨ad,rfl,h5⟩:=Ac ha Y;refine⟨⟨rfl,rfl⟩,_,?_,h5⟩;simp[Instr.indexAt,asIntOf,run_underlying hd,Instr.sureAddr,run_sizeOf hes,M]
   .simp only[AM.runK]at hm;cases hm
  .simp only[AM.runK]at hm;cases hm
 .simp only[AM.runK]at hm;cases hm
theorem Hr {t:TypeId}{a i x:AV}{ca ci:Value}(ha:aF G a ca)(hi:aF G i ci)(hm:(sG P t a i).runK n K=some (x,n',K')) :
  (n'=n/\K'=K)/\∃ v,(Instr.index t ca ci).run P w=.ok v w/\aF G x v:=by
 unfold sG at hm;split at hm
 .rename_i k i;simp only[aF]at hi;subst hi;split at hm
  .rename_i s hd;split at hm
   .rename_i j hj;obtain⟨rfl,M⟩:=mN hj;split at hm
    .rename_i b hb;simp only[AM.runK,Option.some.injEq,Prod.mk.injEq]at hm;obtain⟨rfl,rfl,rfl⟩:=hm;simp only[aF]at ha;subst ha;refine⟨⟨rfl,rfl⟩,.int .u8 b.toNat,?_,by simp only[aF]⟩;have hg:(⟨⟨s⟩⟩:ByteArray)[j]?=some b:=by
      have h1:j<(⟨⟨s⟩⟩:ByteArray).size:=M;rw[getElem?_pos (⟨⟨s⟩⟩:ByteArray) j h1];have:=List.getElem?_eq_getElem M;rw[this]at hb;rw[<- hb]
      rfl
     simp[Instr.index,asIntOf,run_underlying hd,hg]
    .simp only[AM.runK]at hm;cases hm
   .simp only[AM.runK]at hm;cases hm
  .rename_i len e cs hd;split at hm
   .rename_i es j hes hj;obtain⟨rfl,M⟩:=mN hj;obtain⟨O,U⟩:=qBB hm;cases U;simp only[aF]at ha;obtain⟨us,rfl,hc⟩:=ha;obtain⟨v,Y,h6⟩:=wP (w:=w) hc O;refine⟨⟨rfl,rfl⟩,v,?_,h6⟩;simp[Instr.index,asIntOf,run_underlying hd,run_sizeOf hes,M,Y]
   .simp only[AM.runK]at hm;cases hm
  .simp only[AM.runK]at hm;cases hm
 .simp only[AM.runK]at hm;cases hm
def kB (G:Gh):Option AV->Option Value->Prop
 |none,c=>c=none
 |some x,c=>∃ v,c=some v/\aF G x v
theorem vQ (s:List UInt8)(l h:Nat):(⟨⟨s⟩⟩:ByteArray).extract l h=⟨⟨(s.drop l).take (h-l)⟩⟩:=by
 apply ByteArray.ext;rw[ByteArray.data_extract];apply Array.ext';simp[List.take_drop]
theorem run_sliceBound {k:IntKind}{i y:Nat}{code:BoundsCode}(h:i<=y):(Instr.sliceBound (.int k (i:Int)) y code).run P w=.ok i w:=by
 simp[Instr.sliceBound,asIntOf,h]
theorem mL {x:Option AV}{c:Option Value}{d k:Nat}(h:dE x d=some k)(hr:kB G x c):(x=none/\c=none/\k=d)\/(∃ y,x=some y/\∃ kk,c=some (.int kk (k:Int))):=by
 unfold dE at h;split at h
 .simp only[kB]at hr;cases h;exact .inl ⟨rfl,hr,rfl⟩
 .rename_i kk j;simp only[kB]at hr;obtain⟨v,rfl,M⟩:=hr;simp only[aF]at M;subst M;cases h;exact .inr ⟨_,rfl,kk,rfl⟩
 .cases h
theorem iZ {isS:Bool}{len cap l h m:Nat}{lo hi mx:Option AV}{clo chi cmx:Option Value}(hl:dE lo 0=some l)(hh:dE hi len=some h)
  (hm:dE mx m=some m) (rl:kB G lo clo) (rh:kB G hi chi) (rm:kB G mx cmx) (h1:l<=h) (h2:h<=m) (h3:m<=cap) (h4:mx.isSome=true->hi.isSome=true) :
  ∃ m',(Instr.sliceBounds isS len cap clo chi cmx).run P w=.ok (l,h,m') w/\h<=m'/\(mx=none->m'=cap)/\(mx≠none->m'=m):=by
 rcases mL hm rm with⟨e1,e2,_⟩ | ⟨y,e1,kk,e2⟩
 .subst e1;subst e2;refine⟨cap,?_,by omega,fun _=>rfl,fun h=>absurd rfl h⟩;rcases mL hh rh with⟨e3,e4,e5⟩ | ⟨y,e3,kk,e4⟩<;>rcases mL hl rl with⟨e6,e7,e8⟩ | ⟨y',e6,kk',e7⟩<;>subst e4<;>subst e7
  .subst e5;subst e8;simp[Instr.sliceBounds]
  .subst e5;simp[Instr.sliceBounds,run_sliceBound h1]
  .subst e8;simp[Instr.sliceBounds,run_sliceBound (P:=P) (w:=w) (k:=kk) (show h<=cap by omega)]
  .simp[Instr.sliceBounds,run_sliceBound h1,run_sliceBound (P:=P) (w:=w) (k:=kk) (show h<=cap by omega)]
 .subst e1;subst e2;refine⟨m,?_,h2,(fun h=>by cases h),fun _=>rfl⟩;rcases mL hh rh with⟨e3,e4,e5⟩ | ⟨y',e3,kk',e4⟩
  .subst e3;simp at h4
  .subst e4;rcases mL hl rl with⟨e6,e7,e8⟩ | ⟨y'',e6,kk'',e7⟩<;>subst e7
   .subst e8;simp[Instr.sliceBounds,run_sliceBound h3,run_sliceBound h2]
   .simp[Instr.sliceBounds,run_sliceBound h1,run_sliceBound h3,run_sliceBound h2]
theorem bA.part {c:Nat->Option Value}{es off l k:Nat}{xs:List AV}(h:bA G c es off xs):bA G c es (off+l*es) ((xs.drop l).take k):=by
 refine bA.of_get fun j x M=>?_;rw[List.getElem?_take]at M;split at M
 .rw[List.getElem?_drop]at M;obtain⟨u,h1,h2,O⟩:=h.get M;exact⟨u,h1,h2,fun i hi=>by rw[<- O i hi];congr 1;rw[Nat.add_mul];omega⟩
 .cases M
theorem jT {a b:Nat}:Nat.ble a b=true↔a<=b:=⟨Nat.le_of_ble_eq_true,Nat.ble_eq_true_of_le⟩
theorem kG {a b:Nat}:Nat.blt a b=true↔a<b:=⟨Nat.le_of_ble_eq_true,Nat.ble_eq_true_of_le⟩
theorem eC {α:Type}{b:Bool}{x:AM α}{r:α×Nat×cG}(h:(bif b then x else .fail).runK n K=some r):b=true/\x.runK n K=some r:=by
 cases b with
 |false=>simp[AM.runK]at h
 |true=>exact⟨rfl,h⟩
theorem Iy {t:TypeId}{a x:AV}{ca:Value}{lo hi mx:Option AV}{clo chi cmx:Option Value}(hR:eO w0 B K G w)(ha:aF G a ca)
  (rl:kB G lo clo) (rh:kB G hi chi) (rm:kB G mx cmx) (hm:(lK P t a lo hi mx).runK n K=some (x,n',K')) :
  (n'=n/\K'=K)/\∃ v,(Instr.sliceAt t ca clo chi cmx).run P w=.ok v w/\aF G x v:=by
 have Y:∀ d,P.underlying t=some d->(∀ k e,d≠.array k e)->(Instr.sliceAt t ca clo chi cmx).run P w=(Instr.slice t ca clo chi cmx).run P w:=by
  intro d hd a8;rw[Instr.sliceAt];simp only[Sem.run_bind,run_underlying hd,Result.andThen_ok]
 unfold lK at hm;split at hm
 .
  rename_i s hd;rw[Y _ hd sm];simp only[aF]at ha;subst ha;split at hm
  .rename_i l h hl hh;replace hm:=eC hm;obtain⟨hb,hm⟩:=hm;rw[Bool.and_eq_true,jT,jT]at hb;simp only[AM.runK,Option.some.injEq,Prod.mk.injEq]at hm;obtain⟨rfl,rfl,rfl⟩:=hm;simp only[kB]at rm;subst rm;obtain⟨O,h1,_⟩:=iZ (P:=P) (w:=w) (isS:=false) (len:=s.length) (cap:=s.length) (mx:=none) (cmx:=none) hl hh rfl rl rh rfl hb.1 hb.2 (Nat.le_refl _) sm;refine⟨⟨rfl,rfl⟩,_,?_,by simp only[aF];rfl⟩;have a9:(⟨⟨s⟩⟩:ByteArray).size=s.length:=rfl;simp only[Instr.slice,Sem.run_bind,run_underlying hd,Result.andThen_ok,Option.isSome_none,Bool.false_eq_true,if_false,Sem.run_ite,Sem.run_pure,a9,h1,vQ]
  .simp only[AM.runK]at hm;cases hm
 .
  rename_i e hd;rw[Y _ hd sm];simp only[aF]at ha;subst ha;split at hm
  .rename_i es hes hl hh hx;cases hq:(mx.isSome&&hi.isNone) with
   |true=>rw[hq]at hm;simp[AM.runK]at hm
   |false=>
    rw[hq]at hm;simp only[cond_false,AM.runK,Option.some.injEq,Prod.mk.injEq]at hm;obtain⟨rfl,rfl,rfl⟩:=hm;obtain⟨O,h1,h2,h3,h4⟩:=iZ (P:=P) (w:=w) (isS:=true) (len:=0) (cap:=0) hl hh hx rl rh rm (Nat.le_refl _) (Nat.le_refl _) (Nat.le_refl _) (by
     intro h5;rw[h5]at hq;simpa using hq)
    have a7:O=0:=(by cases mx with | none=>exact h3 rfl | some y=>exact h4 sm);subst a7;refine⟨⟨rfl,rfl⟩,.slice none 0 0,?_,by simp only[aF]⟩;simp[Instr.slice,run_underlying hd,h1,run_sizeOf hes]
  .simp only[AM.runK]at hm;cases hm
 .
  rename_i e xs es full hd;rw[Y _ hd sm];simp only[aF]at ha;obtain⟨b,off,cap,rfl,ac,a2,hE⟩:=ha;split at hm
  .rename_i es' l h m hes hl hh hx;replace hm:=eC hm;obtain⟨hb,hm⟩:=hm;simp only[Bool.and_eq_true,jT,beq_iff_eq,Bool.not_eq_true']at hb;obtain⟨⟨⟨⟨rfl,a1⟩,M⟩,a6⟩,a4⟩:=hb;simp only[AM.runK,Option.some.injEq,Prod.mk.injEq]at hm;obtain⟨rfl,rfl,rfl⟩:=hm;have aa:dE mx m=some m:=by
    cases mx with
    |none=>rfl
    |some y=>cases y with
     |int k i=>cases i<;>exact hx
     |_=>exact hx
   obtain⟨O,h1,h2,h3,h4⟩:=iZ (P:=P) (w:=w) (isS:=true) (len:=xs.length) (cap:=cap) hl hh aa rl rh rm a1 M om (by
    intro h5;rw[h5]at a4;simpa using a4)
   refine⟨⟨rfl,rfl⟩,.slice (some ⟨b,if O=l then off else off+l*es,none⟩) (h-l) (O-l),?_,?_⟩
   .simp only[Instr.slice,Sem.run_bind,run_underlying hd,h1,Result.andThen_ok,run_sizeOf hes,Sem.run_pure,Option.map_some,qCa];split<;>rfl
   .simp only[aF];have U:((xs.drop l).take (h-l)).length=h-l:=(by simp<;>omega);refine⟨b,_,O-l,by rw[U],by rw[U];omega,fun hf=>?_,?_⟩
    .rw[U];cases mx with
     |none=>
      simp only[Option.isSome_none,cond_false,Bool.and_eq_true,beq_iff_eq]at hf;have:=a2 hf.1;have:=h3 rfl;omega
     |some y=>
      simp only[Option.isSome_some,cond_true,beq_iff_eq]at hf;have:=h4 sm;omega
    .split
     .have:h-l=0:=om;rw[this];simp[bA]
     .exact bA.part hE
  .simp only[AM.runK]at hm;cases hm
 .
  rename_i e o off len hd;rw[Y _ hd sm];split at hm
  .rename_i es' l h hes hl hh;simp only[AM.runK]at hm;split at hm
   .rename_i ob hK;cases ob<;>simp only[AM.runK]at hm<;>try (cases hm;done)
    rename_i es xs;replace hm:=eC hm;obtain⟨hb,hm⟩:=hm;simp only[Bool.and_eq_true,jT,beq_iff_eq]at hb;obtain⟨rfl,a1⟩:=hb;simp only[aF]at ha;obtain⟨I,ab,ao,cap,hI,rfl,a3,h1,h2,h3,h4⟩:=ha;obtain⟨_,a5,ad,_⟩:=hR.es hK hI;split at hm
    .replace hm:=eC hm;obtain⟨M,hm⟩:=hm;rw[jT]at M;simp only[AM.runK,Option.some.injEq,Prod.mk.injEq]at hm;obtain⟨rfl,rfl,rfl⟩:=hm;simp only[kB]at rm;subst rm;obtain⟨O,h5,h6,h7,_⟩:=iZ (P:=P) (w:=w) (isS:=true) (len:=len) (cap:=cap) (mx:=none) (cmx:=none) hl hh (m:=cap) rfl rl rh rfl a1 om (Nat.le_refl _) sm;obtain rfl:=h7 rfl;refine⟨⟨rfl,rfl⟩,.slice (some (if O=l then ⟨ab,ao,none⟩ else ⟨ab,ao+l*es,none⟩)) (h-l) (O-l),?_,?_⟩
     .simp only[Instr.slice,Sem.run_bind,run_underlying hd,h5,Result.andThen_ok,run_sizeOf hes,Sem.run_pure,Option.map_some,qCa];split<;>rfl
     .simp only[aF];refine⟨I,ab,if O=l then ao else ao+l*es,O-l,hI,by split<;>rfl,fun a8=>?_,by omega,by omega,?_,by omega⟩
      .rw[if_neg om];obtain⟨rfl,rfl⟩:=a3 om;exact⟨rfl,by rw[a5,Nat.add_mul];omega⟩
      .rw[show off+l+(O-l)=off+O from by omega];exact h3
    .rename_i kk m;replace hm:=eC hm;obtain⟨M,hm⟩:=hm;simp only[Bool.and_eq_true,jT,beq_iff_eq]at M;obtain⟨⟨⟨M,a6⟩,rfl⟩,rfl⟩:=M;simp only[AM.runK,Option.some.injEq,Prod.mk.injEq]at hm;obtain⟨rfl,rfl,rfl⟩:=hm;obtain⟨O,h5,h6,_,h8⟩:=iZ (P:=P) (w:=w) (isS:=true) (len:=len) (cap:=cap) hl hh (show dE (some (.int kk (.ofNat l))) l=some l from rfl) rl rh rm (Nat.le_refl _) (Nat.le_refl _) om (fun _=>M);obtain rfl:=h8 sm;refine⟨⟨rfl,rfl⟩,.slice (some ⟨ab,ao,none⟩) 0 0,?_,?_⟩
     .simp[Instr.slice,run_underlying hd,h5,run_sizeOf hes]
     .simp only[aF];exact⟨ab,ao,0,rfl,Nat.le_refl _,fun _=>rfl,by simp[bA]⟩
    .simp only[AM.runK]at hm;cases hm
   .cases hm
  .simp only[AM.runK]at hm;cases hm
 .simp only[AM.runK]at hm;cases hm
theorem bA.flat {c:Nat->Option Value}{es off:Nat}{xs:List AV}(h:bA G c es off xs):∃ us:List Value,us.length=xs.length*es/\
  (∀ j v,us[j]?=some v->c (off+j)=some v)/\bA G (fun i=>us[i]?) es 0 xs:=by
 rcases Nat.eq_zero_or_pos es with rfl | hpos
 .refine⟨[],by simp,by simp,bA.of_get fun k x hx=>?_⟩;obtain⟨u,h1,h2,h3⟩:=h.get hx;exact⟨u,h1,h2,fun j O=>by omega⟩
 .have M:∀ j,j<xs.length*es->∃ v,c (off+j)=some v:=by
   intro j O;have hk:j / es<xs.length:=(Nat.div_lt_iff_lt_mul hpos).2 O;obtain⟨u,h1,h2,h3⟩:=h.get (List.getElem?_eq_getElem hk);have hr:j % es<u.cells.size:=(by rw[h2];exact Nat.mod_lt _ hpos);refine⟨u.cells[j % es],?_⟩
   .rw[<- h3 _ hr];congr 1;have:=Nat.div_add_mod j es;rw[Nat.mul_comm]at this;omega
  let us:=(List.range (xs.length*es)).map fun j=>(c (off+j)).getD Go.undef
  have Y:∀ j v,us[j]?=some v->c (off+j)=some v:=by
   intro j v U;simp only[us,List.getElem?_map,Option.map_eq_some_iff]at U;obtain⟨i,hi,rfl⟩:=U;obtain⟨a1,rfl⟩:=List.getElem?_eq_some_iff.1 hi;simp at a1;obtain⟨v,U⟩:=M j a1;simp[U]
  have a2:∀ j v,j<xs.length*es->c (off+j)=some v->us[j]?=some v:=by
   intro j v O U;simp[us,O,U]
  refine⟨us,by simp[us],Y,bA.of_get fun k x hx=>?_⟩;obtain⟨u,h1,h2,h3⟩:=h.get hx;have hk:k<xs.length:=(List.getElem?_eq_some_iff.1 hx).1;have a3:k*es+es<=xs.length*es:=by
   have:(k+1)*es<=xs.length*es:=Nat.mul_le_mul_right es hk;rw[Nat.add_mul]at this;omega
  refine⟨u,h1,h2,fun j O=>?_⟩;simp only[Nat.zero_add];exact a2 _ _ om (by rw[<- h3 j O];congr 1;omega)
theorem bA.ones {us:List Value}{es:Nat}(hpos:0<es){xs:List AV}(h:bA G (fun i=>us[i]?) es 0 xs)(hl:us.length=xs.length*es)(hw:xs.all AV.whole=true) :
  ∀ u ∈ us,u.oneCell'=true:=by
 intro u hu;obtain⟨j,hj,rfl⟩:=List.getElem_of_mem hu;have O:j / es<xs.length:=(Nat.div_lt_iff_lt_mul hpos).2 om;obtain⟨v,h1,h2,U⟩:=h.get (List.getElem?_eq_getElem O);have hr:j % es<v.cells.size:=(by rw[h2];exact Nat.mod_lt _ hpos);have M:=U _ hr;simp only[Nat.zero_add]at M;rw[show j / es*es+j % es=j from by have:=Nat.div_add_mod j es;rw[Nat.mul_comm]at this;omega,List.getElem?_eq_getElem hj]at M;have Y:us[j]=v.cells[j % es]:=Option.some.inj M;rw[Y];exact yI h1 (by rw[List.all_eq_true]at hw;exact hw _ (List.getElem_mem O)) _ sm
theorem bA.join {us vs:List Value}{es off:Nat}{xs ys:List AV}(h:bA G (fun i=>us[i]?) es off xs)(k:bA G (fun i=>vs[i]?) es 0 ys)
  (hl:us.length=off+xs.length*es) (ws:List Value) (hk:vs.length=ys.length*es):bA G (fun i=>(us++vs++ws)[i]?) es off (xs++ys):=by
 refine bA.of_get fun j x M=>?_;rw[List.getElem?_append]at M;split at M
 .rename_i hj;obtain⟨u,h1,h2,O⟩:=h.get M;refine⟨u,h1,h2,fun i hi=>?_⟩;have:(j+1)*es<=xs.length*es:=Nat.mul_le_mul_right es hj;rw[Nat.add_mul]at this;rw[List.append_assoc,List.getElem?_append_left om];exact O i hi
 .rename_i hj;obtain⟨u,h1,h2,O⟩:=k.get M;have U:j-xs.length<ys.length:=(List.getElem?_eq_some_iff.1 M).1;refine⟨u,h1,h2,fun i hi=>?_⟩;have Y:(j-xs.length)*es+xs.length*es=j*es:=(by rw[<- Nat.add_mul];congr 1;omega);have:(j-xs.length+1)*es<=ys.length*es:=Nat.mul_le_mul_right es U;rw[Nat.add_mul]at this;rw[List.append_assoc,List.getElem?_append_right om,List.getElem?_append_left om];have:=O i hi;simp only[Nat.zero_add]at this;rw[<- this]
  congr 1;omega
theorem Xm (s:List UInt8):bA G (fun i=>(s.map fun b=>Value.int .u8 b.toNat)[i]?) 1 0 (s.map fun b=>AV.int .u8 b.toNat):=by
 refine bA.of_get fun k x O=>?_;simp only[List.getElem?_map,Option.map_eq_some_iff]at O;obtain⟨b,hb,rfl⟩:=O;refine⟨.int .u8 b.toNat,by simp only[aF],rfl,fun j M=>?_⟩;simp[Value.cells]at M;subst M;simp[hb,Value.cells]
theorem vP {a:AV}{es:Nat}{ca:Value}{xs:List AV}(hR:eO w0 B K G w)(ha:aF G a ca)(hm:(nV a es).runK n K=some (xs,n',K')) :
  (n'=n/\K'=K)/\(Builtin.lenOf ca).run P w=.ok xs.length w/\∃ us:List Value,(Builtin.firstCells es xs.length ca).run P w=.ok us.toArray w/\
   us.length=xs.length*es/\bA G (fun i=>us[i]?) es 0 xs:=by
 unfold nV at hm;split at hm
 .simp only[AM.runK,Option.some.injEq,Prod.mk.injEq]at hm;obtain⟨rfl,rfl,rfl⟩:=hm;simp only[aF]at ha;subst ha;exact⟨⟨rfl,rfl⟩,by simp[Builtin.lenOf],[],by simp[Builtin.firstCells],by simp,by simp[bA]⟩
 .rename_i ys es' full;replace hm:=eC hm;obtain⟨hb,hm⟩:=hm;simp only[AM.runK,Option.some.injEq,Prod.mk.injEq]at hm;obtain⟨rfl,rfl,rfl⟩:=hm;obtain rfl:es=es':=(by simpa using hb);simp only[aF]at ha;obtain⟨b,off,cap,rfl,_,_,hE⟩:=ha;obtain⟨us,h1,h2,U⟩:=bA.flat (hR.vec hE);refine⟨⟨rfl,rfl⟩,by simp[Builtin.lenOf],us,?_,h1,U⟩;simp only[Builtin.firstCells];rw[<- h1];exact run_loadCells b off us h2
 .rename_i o off len;simp only[AM.runK]at hm;split at hm
  .rename_i ob hK;cases ob<;>simp only[AM.runK]at hm<;>try (cases hm;done)
   rename_i es' ys;replace hm:=eC hm;obtain⟨hb,hm⟩:=hm;simp only[Bool.and_eq_true,jT,beq_iff_eq]at hb;obtain⟨rfl,hb⟩:=hb;simp only[AM.runK,Option.some.injEq,Prod.mk.injEq]at hm;obtain⟨rfl,rfl,rfl⟩:=hm;simp only[aF]at ha;obtain⟨I,ab,ao,cap,hI,rfl,M,h1,h2,U,h4⟩:=ha;obtain⟨hE,O,a2,a1⟩:=hR.es hK hI;have Y:((ys.drop off).take len).length=len:=(by simp<;>omega);obtain⟨us,k1,k2,k3⟩:=bA.flat (bA.part (l:=off) (k:=len) hE);refine⟨⟨rfl,rfl⟩,by simp[Builtin.lenOf]<;>omega,us,?_,k1,k3⟩;simp only[Builtin.firstCells];by_cases hc:cap=0
   .have:len=0:=om;subst this;simp at k1;subst k1;simp[loadCells,loadCellsFrom]
   .obtain⟨rfl,rfl⟩:=M hc;rw[<- k1,O];exact run_loadCells _ _ us k2
  .cases hm
 .rename_i s;replace hm:=eC hm;obtain⟨hb,hm⟩:=hm;simp only[AM.runK,Option.some.injEq,Prod.mk.injEq]at hm;obtain⟨rfl,rfl,rfl⟩:=hm;obtain rfl:es=1:=(by simpa using hb);simp only[aF]at ha;subst ha;refine⟨⟨rfl,rfl⟩,by simp[Builtin.lenOf];rfl,s.map fun b=>.int .u8 b.toNat,?_,by simp,Xm s⟩;simp only[Builtin.firstCells,Sem.run_pure,List.length_map];rw[vQ];simp
 .simp only[AM.runK]at hm;cases hm
theorem zI (z:Array Value)(k:Nat):(Builtin.zeroCells z k).size=k*z.size:=by simp[Builtin.zeroCells]
theorem jY {t u ty e:TypeId}{ud:TypeDesc}{base:Option Addr}{sLen sCap es m:Nat}{x:Value}{us:List Value}{r:Result Unit}
  (ht:oI P t=some e) (hu:P.underlying u=some ud) (hud:qL ud=false) (hes:bN P e=some es)
  (hl:(Builtin.lenOf x).run P w=.ok m w) (hf:(Builtin.firstCells es m x).run P w=.ok us.toArray w) (hroom:sLen+m<=sCap)
  (hst:(match base with | some a=>storeCells (a.add (sLen*es)) us | none=>pure ()).run P w=r) :
  (Builtin.append_ #[t,u] ty #[.slice base sLen sCap,x]).run P w=r.andThen fun _ w'=>.ok (.slice base (sLen+m) sCap) w':=by
 have M:P.underlying t=some (.slice e):=by
  unfold oI at ht;split at ht
  .rename_i h;cases ht;exact h
  .cases ht
 rw[Builtin.append_];simp only[List.getElem?_toArray,List.getElem?_cons_zero,List.getElem?_cons_succ,Sem.run_bind,run_underlying M,run_underlying hu,Result.andThen_ok,run_sizeOf hes,Sem.run_pure];cases ud<;>simp[qL]at hud<;>simp only[Bool.false_eq_true,if_false,hl,Result.andThen_ok,hroom,if_true,Bool.not_false,hf,Sem.run_bind] <;>
  (subst hst;cases base<;>simp)
theorem sX {t e:TypeId}(h:oI P t=some e):P.underlying t=some (.slice e):=by
 unfold oI at h;split at h
 .rename_i hd;cases h;exact hd
 .cases h
theorem wT {t:TypeId}{k:Nat}(h:qY P t=some k):∃ i,P.info? t=some i/\i.bytes=k:=by
 unfold qY at h;cases hi:P.info? t with
 |none=>rw[hi]at h;cases h
 |some i=>rw[hi]at h;simp at h;exact⟨i,rfl,h⟩
theorem yS {k b:Nat}(h:lV k b=true):k*b<=140737488355328/\1<=b/\k<=140737488355328:=by
 unfold lV at h;rw[Bool.and_eq_true,jT,jT]at h;exact⟨h.1,h.2,Nat.le_trans (Nat.le_mul_of_pos_right k h.2) h.1⟩
theorem lZ {t u ty e:TypeId}{ud:TypeDesc}{base:Option Addr}{sLen sCap es bytes m:Nat}{x z:Value}{us olds:List Value}
  (ht:oI P t=some e) (hu:P.underlying u=some ud) (hud:qL ud=false) (hes:bN P e=some es) (hby:qY P e=some bytes)
  (hz:(zeroValue e).run P {w with drawn:=w.drawn+1}=.ok z {w with drawn:=w.drawn+1})
  (hl:(Builtin.lenOf x).run P w=.ok m w) (hf:(Builtin.firstCells es m x).run P {w with drawn:=w.drawn+1}=.ok us.toArray {w with drawn:=w.drawn+1})
  (ho:(Builtin.firstCells es sLen (.slice base sLen sCap)).run P {w with drawn:=w.drawn+1}=.ok olds.toArray {w with drawn:=w.drawn+1})
  (hno:sCap<sLen+m) (hfit:lV (sLen+m) bytes=true) :
  ∃ newCap,sLen+m<=newCap/\(Builtin.append_ #[t,u] ty #[.slice base sLen sCap,x]).run P w =
   .ok (.slice (some ⟨w.heap.size,0,none⟩) (sLen+m) newCap)
    {w with drawn:=w.drawn+1,heap:=w.heap.push (.cells (olds.toArray++us.toArray++Builtin.zeroCells z.cells (newCap-(sLen+m))) e)}:=by
 have O:=sX ht;obtain⟨i,hi,M⟩:=wT hby
 obtain⟨h1,h2,_⟩:=yS hfit;have U:=growslice_fits hno h1;refine⟨Question.cut (.appendCap (sLen+m) sCap e) (w.tape w.drawn (.appendCap (sLen+m) sCap e)),by simp only[Question.cut];omega,?_⟩;have Y:Question.forced (.appendCap (sLen+m) sCap e)=false:=rfl;have c1:¬(sLen+m<=sCap):=om;have c2:¬(((sLen+m:Nat):Int)>IntKind.i64.max/\(i.bytes=0)):=(by rw[M];omega);have c3:¬(Builtin.nextslicecap (sLen+m) sCap*i.bytes>2 ^ 48):=(by rw[M];omega);rw[Builtin.append_];simp only[List.getElem?_toArray,List.getElem?_cons_zero,List.getElem?_cons_succ,Sem.run_bind,run_underlying O,run_underlying hu,Result.andThen_ok,run_sizeOf hes,Sem.run_pure];cases ud<;>simp[qL]at hud <;>
  simp only[Bool.false_eq_true,if_false,hl,Result.andThen_ok,c1,Sem.run_bind,run_typeInfo hi,false_or,c2,c3,run_choose,Y,run_askRoom,ho,hf,Bool.not_false,if_true,hz,Sem.run_pure,newRow,run_newObj]
theorem eO.rename {o m:Nat}{y0 y:aK}{I J:lR}{ob:Obj}(h:eO w0 B K G w)(hK:K o=some y0)(hI:G.nm o=some I)(hb:w.heap[I.blk]?=some ob)
  (hm:G.nm m=none) (hJ:J.blk=I.blk) (hy:cK {G with nm:=fun p=>if p=m then some J else G.nm p} J y ob) :
  eU G {G with nm:=fun p=>if p=m then some J else G.nm p} m (m+1)/\
  eO w0 B ((K.upd o none).upd m (some y)) {G with nm:=fun p=>if p=m then some J else G.nm p} w:=by
 have a2:G.le {G with nm:=fun p=>if p=m then some J else G.nm p}:=by
  refine⟨fun p L M=>?_,fun _ _ _ h=>h⟩;by_cases e:p=m
  .subst e;rw[hm]at M;cases M
  .simp only[e,if_false];exact M
 obtain⟨I0,_,e1,hB,_,_⟩:=h.obj o y0 hK;obtain rfl:I0=I:=Option.some.inj (e1.symm.trans hI);have U:∀ p z,p≠m->((K.upd o none).upd m (some y)) p=some z->p≠o/\K p=some z:=by
  intro p z e O;simp only[cG.upd,e,if_false]at O;by_cases e':p=o
  .simp only[e',if_true]at O;cases O
  .simp only[e',if_false]at O;exact⟨e',O⟩
 have Y:∀ p L,p≠m->(if p=m then some J else G.nm p)=some L->G.nm p=some L:=fun p L e M=>(by simpa only[e,if_false]using M);refine⟨⟨a2,fun p L M hG=>?_⟩,h.os,h.out,h.tape,h.size,h.old,h.S,fun p z O=>?_,?_,?_,h.low,h.stay,fun p z L O M=>by
  by_cases e:p=m
  .subst e;simp only[if_true]at M;obtain rfl:=Option.some.inj M;rw[hJ];exact h.apart o y0 I0 hK hI
  .exact h.apart p z L (U p z e O).2 (Y p L e M)⟩
 .by_cases e:p=m
  .omega
  .exact absurd (Y p L e M) (by rw[hG];simp)
 .by_cases e:p=m
  .subst e;simp only[cG.upd,if_true]at O;obtain rfl:=Option.some.inj O;exact⟨J,ob,by simp,hJ ▸ hB,hJ ▸ hb,hy⟩
  .obtain⟨_,O⟩:=U p z e O;obtain⟨L,ob',h1,h2,h3,h4⟩:=h.obj p z O;exact⟨L,ob',by simp only[e,if_false];exact h1,h2,h3,h4.mono a2⟩
 .intro p q z z' L L' O a3 M a1 a4;by_cases e:p=m<;>by_cases e':q=m
  .rw[e,e']
  .exfalso;obtain⟨k1,k2⟩:=U q z' e' a3;subst e;simp only[if_true]at M;obtain rfl:=Option.some.inj M;exact k1 (h.inj q o z' y0 L' I0 k2 hK (Y q L' e' a1) hI om)
  .exfalso;obtain⟨k1,k2⟩:=U p z e O;subst e';simp only[if_true]at a1;obtain rfl:=Option.some.inj a1;exact k1 (h.inj p o z y0 L I0 k2 hK (Y p L e M) hI om)
  .exact h.inj p q z z' L L' (U p z e O).2 (U q z' e' a3).2 (Y p L e M) (Y q L' e' a1) a4
 .intro p z L O M i;by_cases e:p=m
  .subst e;simp only[if_true]at M;obtain rfl:=Option.some.inj M;rw[hJ];exact h.sep o y0 I0 hK hI i
  .exact h.sep p z L (U p z e O).2 (Y p L e M) i
theorem uG {e:TypeId}{es bytes m newCap:Nat}{z:AV}{zv:Value}{xs:List AV}{us:List Value}(hR:eO w0 B K G w)(hn:G.nm n=none)(hpos:0<es)
  (hE:bA G (fun i=>us[i]?) es 0 xs) (hl:us.length=xs.length*es) (hzv:zv.cells.size=es) (hcap:xs.length<=newCap) :
  ∃ G',eU G G' n (n+1)/\
   eO w0 B (K.upd n (some (.arr es xs))) G' {w with drawn:=w.drawn+1,heap:=w.heap.push (.cells (us.toArray++Builtin.zeroCells zv.cells (newCap-xs.length)) e)}/\
   aF G' (.sl n 0 xs.length) (.slice (some ⟨w.heap.size,0,none⟩) xs.length newCap):=by
 have hd:=hR.drew (w':={w with drawn:=w.drawn+1}) rfl rfl rfl rfl
 let I:lR:={blk:=w.heap.size,dl:=0,ln:=xs.length,es,bs:=newCap*es}
 have O:(us.toArray++Builtin.zeroCells zv.cells (newCap-xs.length)).size=newCap*es:=by
  rw[Array.size_append,zI,hzv,List.size_toArray,hl,<- Nat.add_mul]
  congr 1;omega
 have M:=hd.make (n:=n) (y:=.arr es xs) (ob:=.cells (us.toArray++Builtin.zeroCells zv.cells (newCap-xs.length)) e) I rfl hn (by
  simp only[cK];refine⟨rfl,rfl,O.symm,hpos,?_,?_,.inl rfl⟩
  .rw[O];simp only[I,Nat.zero_add];exact Nat.mul_le_mul_right es hcap
  .have h1:bA G (fun i=>(us++[]++(Builtin.zeroCells zv.cells (newCap-xs.length)).toList)[i]?) es 0 (xs++[]):=
    bA.join hE (by simp[bA]) (by simpa using hl) _ sm
   simp only[List.append_nil]at h1;refine bA.mono (Gh.le_trans (G.le_refl) ?_) (fun i v hv=>?_) es _ xs h1
   .refine⟨fun p L U=>?_,fun _ _ _ h=>h⟩;by_cases Y:p=n
    .subst Y;rw[hn]at U;cases U
    .simp only[Y,if_false];exact U
   .rw[<- hv,<- Array.getElem?_toList];simp)
 refine⟨_,M.1,M.2,?_⟩;simp only[aF];refine⟨I,w.heap.size,0,newCap,by simp,rfl,fun _=>⟨rfl,by simp[I]⟩,by simp[I],by simp[I];exact hcap,by simp[I],hcap⟩
theorem mU {ad:Addr}{k:Nat}:∀(m i:Nat) (acc:Array Value) (r:Array Value),(loadCellsFrom ad i m acc).run P w=.ok r w->
  (loadCellsFrom ad i m acc).run P {w with drawn:=k}=.ok r {w with drawn:=k}
 |0,i,acc,r,q=>by simpa [loadCellsFrom]using q
 |m+1,i,acc,r,q=>by
  simp only[loadCellsFrom,Sem.run_bind,run_load]at q ⊢;have O:({w with drawn:=k}:World).cell? (ad.add i)=w.cell? (ad.add i):=rfl;have M:({w with drawn:=k}:World).farLoad P (ad.add i) (Mode.plain==Mode.atomic)=w.farLoad P (ad.add i) (Mode.plain==Mode.atomic):=rfl;rw[O,M];cases hcc:w.cell? (ad.add i) with
  |some v=>rw[hcc]at q;simp only[Result.andThen_ok]at q ⊢;exact mU m _ _ _ q
  |none=>
   rw[hcc]at q;simp only at q ⊢;cases hf:w.farLoad P (ad.add i) (Mode.plain==Mode.atomic) with
   |error h=>rw[hf]at q;simp at q
   |ok p=>rw[hf]at q;simp only[Result.andThen_ok]at q ⊢;exact mU m _ _ _ q
theorem xP {es m k:Nat}{ca:Value}{r:Array Value}(h:(Builtin.firstCells es m ca).run P w=.ok r w) :
  (Builtin.firstCells es m ca).run P {w with drawn:=k}=.ok r {w with drawn:=k}:=by
 unfold Builtin.firstCells at h ⊢;split at h
 .exact mU _ _ _ _ h
 .simpa using h
 .simpa using h
 .simp at h
set_option maxHeartbeats 1000000 in
theorem Dx {argTypes:Array TypeId}{ty:TypeId}{s a x:AV}{cs ca:Value}(hR:eO w0 B K G w)(hF:nS G n n')(hs:aF G s cs)(ha:aF G a ca)
  (ht2:argTypes.size=2) (hm:(jH P argTypes s a).runK n K=some (x,n',K')) :
  ∃ G' v w',(Builtin.append_ argTypes ty #[cs,ca]).run P w=.ok v w'/\eU G G' n n'/\eO w0 B K' G' w'/\aF G' x v:=by
 obtain⟨t,u,rfl⟩:∃ t u,argTypes=#[t,u]:=by
  obtain⟨l⟩:=argTypes
  match l,ht2 with
  |[t,u],_=>exact⟨t,u,rfl⟩
 simp only[jH,List.getElem?_toArray,List.getElem?_cons_zero,List.getElem?_cons_succ]at hm;split at hm
 .rename_i e ud hte hu;split at hm
  .rename_i es bytes z hes hby hz;cases hq:(qL ud || es==0 || !(z.whole&&z.cells.length==es)) with
   |true=>rw[hq]at hm;simp[AM.runK]at hm
   |false=>
    rw[hq]at hm;simp only[cond_false]at hm;simp only[Bool.or_eq_false_iff,beq_eq_false_iff_ne,Bool.not_eq_false',Bool.and_eq_true,beq_iff_eq]at hq;obtain⟨⟨a8,az⟩,b9,b8⟩:=hq;have a1:0<es:=Nat.pos_of_ne_zero az;rw[qCY]at hm;cases hn:(nV a es).runK n K with
    |none=>rw[hn]at hm;cases hm
    |some r=>
     obtain⟨news,n1,K1⟩:=r;rw[hn]at hm;simp only[Option.bind_some]at hm;obtain⟨⟨en,eK⟩,Y,us,aa,a2,hE⟩:=vP hR ha hn;rw[en,eK]at hm;cases hall:news.all AV.whole with
     |false=>rw[hall]at hm;simp[AM.runK]at hm
     |true=>
     rw[hall]at hm;simp only[Bool.not_true,cond_false]at hm;have b2:=bA.ones a1 hE a2 hall;have hd:=hR.drew (w':={w with drawn:=w.drawn+1}) rfl rfl rfl rfl;have ac:(Builtin.firstCells es news.length ca).run P {w with drawn:=w.drawn+1}=.ok us.toArray {w with drawn:=w.drawn+1}:=by
      exact xP aa
     obtain⟨zv,aw,ax⟩:=oJ (P:=P) (w:={w with drawn:=w.drawn+1}) (G:=G) hz;have au:zv.cells.size=es:=by
      have:=(ax.cellsL (qBD b9)).length;rw[b8]at this;simpa using this.symm
     split at hm
     .
      simp only[aF]at hs;subst hs;split at hm
      .simp only[AM.runK,Option.some.injEq,Prod.mk.injEq]at hm;obtain⟨rfl,rfl,rfl⟩:=hm;have ah:us=[]:=List.eq_nil_of_length_eq_zero (by simpa using a2);have M:=jY (ty:=ty) (base:=none) (sLen:=0) (sCap:=0) hte hu a8 hes Y aa (Nat.le_refl _) rfl;exact⟨G,_,w,M,eU.refl _ _ _,hR,by simp only[aF];rfl⟩
      .rename_i y ys _;replace hm:=eC hm;obtain⟨U,hm⟩:=hm;simp only[AM.runK,Option.some.injEq,Prod.mk.injEq]at hm;obtain⟨rfl,rfl,rfl⟩:=hm;obtain⟨newCap,a3,M⟩:=lZ (ty:=ty) (base:=none) (sLen:=0) (sCap:=0) (olds:=[]) hte hu a8 hes hby aw Y ac (by simp[Builtin.firstCells]) sm (by simpa using U);simp only[Nat.zero_add]at a3 M;obtain⟨G',h1,h2,h3⟩:=uG (e:=e) (bytes:=bytes) (m:=0) (z:=z) (n:=n) hR (hF n (Nat.le_refl _) om) a1 hE a2 au a3;refine⟨G',_,_,M,h1,?_,h3⟩;simpa using h2
     .
      rename_i xs es' full _;replace hm:=eC hm;obtain⟨a9,hm⟩:=hm;obtain rfl:es=es':=(by simpa using a9);have ar:=hs;simp only[aF]at hs;obtain⟨b,off,cap,rfl,ak,a7,b4⟩:=hs;split at hm
      .simp only[AM.runK,Option.some.injEq,Prod.mk.injEq]at hm;obtain⟨rfl,rfl,rfl⟩:=hm;have ah:us=[]:=List.eq_nil_of_length_eq_zero (by simpa using a2);subst ah;have M:=jY (ty:=ty) (base:=some ⟨b,off,none⟩) (sLen:=xs.length) (sCap:=cap) hte hu a8 hes Y aa (by simpa using ak) rfl;exact⟨G,_,w,by simpa [storeCells]using M,eU.refl _ _ _,hR,ar⟩
      .rename_i y ys _;replace hm:=eC hm;obtain⟨U,hm⟩:=hm;rw[Bool.and_eq_true]at U;simp only[AM.runK,Option.some.injEq,Prod.mk.injEq]at hm;obtain⟨rfl,rfl,rfl⟩:=hm;have al:=a7 U.1;subst al;obtain⟨os,o1,o2,o3⟩:=bA.flat (hd.vec b4);obtain⟨newCap,a3,M⟩:=lZ (ty:=ty) (base:=some ⟨b,off,none⟩) (sLen:=xs.length) (sCap:=xs.length) (olds:=os) hte hu a8 hes hby aw Y ac
        (by simp only[Builtin.firstCells];rw[<- o1];exact run_loadCells b off os o2) sm U.2
       have hj:bA G (fun i=>(os++us++[])[i]?) es 0 (xs++y::ys):=bA.join o3 hE (by simpa using o1) [] a2;obtain⟨G',h1,h2,h3⟩:=uG (e:=e) (bytes:=bytes) (m:=0) (z:=z) (n:=n) (us:=os++us) (xs:=xs++y::ys) (newCap:=newCap) hR (hF n (Nat.le_refl _) om) a1
        (by simpa using hj) (by simp only[List.length_append];rw[o1,a2,<- Nat.add_mul]) au (by simpa using a3)
       refine⟨G',_,_,M,h1,?_,?_⟩
       .simpa using h2
       .simpa using h3
     .
      rename_i o off len _;simp only[AM.runK]at hm;split at hm
      .rename_i ob hK;cases ob<;>simp only[AM.runK]at hm<;>try (cases hm;done)
       rename_i es' xs;replace hm:=eC hm;obtain⟨a9,hm⟩:=hm;rw[Bool.and_eq_true]at a9;obtain⟨a9,U⟩:=a9;obtain rfl:es=es':=(by simpa using a9);have ar:=hs;simp only[aF]at hs;obtain⟨I,ab,ao,cap,hI,rfl,ai,q1,q2,q3,q4⟩:=hs;obtain⟨J,ob,e1,bb,hb,hO⟩:=hR.obj o _ hK;obtain rfl:J=I:=Option.some.inj (e1.symm.trans hI);cases ob<;>simp only[cK]at hO
       rename_i cus el fz;obtain⟨p1,p2,p3,_,p5,p6,p7⟩:=hO;split at hm
       .simp only[AM.runK,Option.some.injEq,Prod.mk.injEq]at hm;obtain⟨rfl,rfl,rfl⟩:=hm;have ah:us=[]:=List.eq_nil_of_length_eq_zero (by simpa using a2);subst ah;have M:=jY (ty:=ty) (base:=some ⟨ab,ao,none⟩) (sLen:=len) (sCap:=cap) hte hu a8 hes Y aa (by simpa using q4) rfl;exact⟨G,_,w,by simpa [storeCells]using M,eU.refl _ _ _,hR,ar⟩
       .rename_i y ys _;have bc:0<(y::ys).length:=sm;generalize hnews:y::ys=news at *;have a6:len+news.length<=cap->∃ w',(Builtin.append_ #[t,u] ty #[.slice (some ⟨ab,ao,none⟩) len cap,ca]).run P w=.ok (.slice (some ⟨ab,ao,none⟩) (len+news.length) cap) w'/\
          Wrote w w' J.blk (.cells (zD cus.toList (J.dl+(off+len)*es) us).toArray el fz)/\J.dl+(off+len)*es+us.length<=cus.size/\ab=J.blk/\ao=J.dl+off*es:=by
         intro a4;obtain⟨rfl,rfl⟩:=ai om;have b0:J.dl+(off+len)*es+us.length<=cus.size:=by
          rw[a2];have:(off+len+news.length)*es<=(off+cap)*es:=Nat.mul_le_mul_right es om;rw[Nat.add_mul]at this;rw[p1]at q3;omega
         obtain⟨w',k1,k2⟩:=oG (P:=P) J.blk (J.dl+(off+len)*es) el fz us 0 cus w hb (by simpa using b0) p7 b2;have M:=jY (ty:=ty) (base:=some ⟨J.blk,J.dl+off*J.es,none⟩) (sLen:=len) (sCap:=cap) hte hu a8 hes Y aa a4 rfl;refine⟨w',?_,by simpa using k2,b0,rfl,by rw[p1]⟩;rw[M];simp only[qCa];rw[show J.dl+off*J.es+len*es=J.dl+(off+len)*es from by rw[p1,Nat.add_mul];omega,k1]
         rfl
        cases hin:Nat.ble (off+len+news.length) xs.length with
        |true=>
         rw[hin]at hm;have ba:=jT.1 hin;simp only[cond_true,AM.runK,hK,Option.some.injEq,Prod.mk.injEq]at hm;obtain⟨rfl,rfl,rfl⟩:=hm;obtain⟨w',k1,k2,k3,rfl,rfl⟩:=a6 om;have ad:(xs.take (off+len)++(news++xs.drop (off+len+news.length))).length=xs.length:=(by simp<;>omega);have ag:(zD cus.toList (J.dl+(off+len)*es) us).toArray.size=cus.size:=(by simpa using kN cus.toList us _ (by simpa using k3));refine⟨G,_,w',k1,eU.refl _ _ _,hR.write hK hI ?_ k2.self k2.oth k2.size k2.os k2.out k2.tape,?_⟩
         .simp only[cK];rw[ag];refine⟨p1,by rw[ad];exact p2,p3,a1,by rw[ad];exact p5,?_,p7⟩;refine bA.of_get fun k x O=>?_;rw[List.getElem?_append]at O;have tl:(xs.take (off+len)).length=off+len:=(by simp<;>omega);rw[tl]at O;split at O
          .rename_i hk;rw[List.getElem?_take,if_pos hk]at O;obtain⟨v,g1,g2,g3⟩:=p6.get O;refine⟨v,g1,g2,fun j hj=>?_⟩;have:(k+1)*es<=(off+len)*es:=Nat.mul_le_mul_right es hk;rw[Nat.add_mul]at this;have:=g3 j hj;simp only[List.getElem?_toArray];rw[lL _ _ _ _ (by simpa using k3),if_neg om];simpa using this
          .rename_i hk;rw[List.getElem?_append]at O;split at O
           .rename_i ae;obtain⟨v,g1,g2,g3⟩:=hE.get O;refine⟨v,g1,g2,fun j hj=>?_⟩;have e3:(k-(off+len))*es+(off+len)*es=k*es:=(by rw[<- Nat.add_mul];congr 1;omega);have:(k-(off+len)+1)*es<=news.length*es:=Nat.mul_le_mul_right es ae;rw[Nat.add_mul]at this;have:=g3 j hj;simp only[List.getElem?_toArray];rw[lL _ _ _ _ (by simpa using k3),if_pos om];simp only[Nat.zero_add]at this;rw[<- this];congr 1;omega
           .rename_i ae;rw[List.getElem?_drop]at O;rw[show off+len+news.length+(k-(off+len)-news.length)=k from by omega]at O;obtain⟨v,g1,g2,g3⟩:=p6.get O;refine⟨v,g1,g2,fun j hj=>?_⟩;have:(off+len+news.length)*es<=k*es:=Nat.mul_le_mul_right es om;rw[Nat.add_mul]at this;have:=g3 j hj;simp only[List.getElem?_toArray];rw[lL _ _ _ _ (by simpa using k3),if_neg om];simpa using this
         .simp only[aF];exact⟨J,_,_,cap,hI,rfl,fun _=>⟨rfl,by rw[p1]⟩,by omega,q2,q3,by omega⟩
        |false=>
         rw[hin]at hm;simp only[cond_false]at hm;cases hend:(off+len==xs.length) with
         |false=>rw[hend]at hm;simp[AM.runK]at hm
         |true=>
          rw[hend]at hm;have b6:off+len=xs.length:=(by simpa using hend);simp only[cond_true,AM.runK,hK,Option.some.injEq,Prod.mk.injEq]at hm;obtain⟨rfl,rfl,rfl⟩:=hm;have ap:=hF n (Nat.le_refl _) om;have an:(xs.drop off).length=len:=(by simp<;>omega);have a5:(xs.drop off++news).length=len+news.length:=(by simp<;>omega);by_cases a4:len+news.length<=cap
          .obtain⟨w',k1,k2,k3,rfl,rfl⟩:=a6 a4;have ag:(zD cus.toList (J.dl+(off+len)*es) us).toArray.size=cus.size:=by simpa using kN cus.toList us _ (by simpa using k3)
           let L:lR:={blk:=J.blk,dl:=J.dl+off*es,ln:=len+news.length,es,bs:=J.bs}
           have b1:G.le {G with nm:=fun p=>if p=n then some L else G.nm p}:=by
            refine⟨fun p X hX=>?_,fun _ _ _ h=>h⟩;by_cases ee:p=n
            .subst ee;rw[ap]at hX;cases hX
            .simp only[ee,if_false];exact hX
           have a7:bA G (fun i=>(zD cus.toList (J.dl+(off+len)*es) us).toArray[i]?) es (J.dl+off*es) (xs.drop off++news):=by
            refine bA.of_get fun k x O=>?_;rw[List.getElem?_append,an]at O;split at O
            .rename_i hk;rw[List.getElem?_drop]at O;obtain⟨v,g1,g2,g3⟩:=p6.get O;refine⟨v,g1,g2,fun j hj=>?_⟩;have:(off+k+1)*es<=(off+len)*es:=Nat.mul_le_mul_right es om;rw[Nat.add_mul,Nat.add_mul]at this;have h5:=g3 j hj;simp only[List.getElem?_toArray];rw[lL _ _ _ _ (by simpa using k3),if_neg om];rw[Nat.add_mul]at h5;rw[<- h5];simp only[Array.getElem?_toList]
             congr 1;omega
            .rename_i hk;obtain⟨v,g1,g2,g3⟩:=hE.get O;have ae:k-len<news.length:=(List.getElem?_eq_some_iff.1 O).1;refine⟨v,g1,g2,fun j hj=>?_⟩;have e3:(k-len)*es+len*es=k*es:=(by rw[<- Nat.add_mul];congr 1;omega);have e4:(off+len)*es=off*es+len*es:=Nat.add_mul _ _ _;have:(k-len+1)*es<=news.length*es:=Nat.mul_le_mul_right es ae;rw[Nat.add_mul]at this;have:=g3 j hj;simp only[List.getElem?_toArray];rw[lL _ _ _ _ (by simpa using k3),if_pos om];simp only[Nat.zero_add]at this;rw[<- this];congr 1;omega
           have ay:J.dl+off*es+(len+news.length)*es<=cus.size:=by
            have e4:(off+len)*es=off*es+len*es:=Nat.add_mul _ _ _;rw[a2]at k3;rw[Nat.add_mul];omega
           have b5:eO w0 B (K.upd o (some (.arr es (xs.take off++(xs.drop off))))) G w':=by
            refine hR.write hK hI ?_ k2.self k2.oth k2.size k2.os k2.out k2.tape;simp only[cK,List.take_append_drop];rw[ag];refine⟨p1,p2,p3,a1,p5,?_,p7⟩;refine bA.of_get fun k x O=>?_;obtain⟨v,g1,g2,g3⟩:=p6.get O;have hk:k<xs.length:=(List.getElem?_eq_some_iff.1 O).1;refine⟨v,g1,g2,fun j hj=>?_⟩;have:(k+1)*es<=(off+len)*es:=Nat.mul_le_mul_right es om;rw[Nat.add_mul]at this;have h5:=g3 j hj;simp only[List.getElem?_toArray];rw[lL _ _ _ _ (by simpa using k3),if_neg om];simpa using h5
           have aj:=b5.rename (o:=o) (m:=n) (y:=.arr es (xs.drop off++news)) (J:=L) (by simp[cG.upd];rfl) hI k2.self ap rfl (by
            simp only[cK];rw[ag];refine⟨rfl,a5.symm,p3,a1,?_,?_,p7⟩
            .rw[a5];exact ay
            .exact bA.mono b1 (fun _ _ h=>h) _ _ _ a7)
           have b3:((K.upd o (some (.arr es (xs.take off++xs.drop off)))).upd o none).upd n (some (.arr es (xs.drop off++news)))=(K.upd o none).upd n (some (.arr es (xs.drop off++news))):=by
            funext p;simp only[cG.upd];split
            .rfl
            .split<;>rfl
           rw[b3]at aj;refine⟨_,_,w',k1,aj.1,aj.2,?_⟩;simp only[aF];refine⟨L,J.blk,J.dl+off*es,cap,by simp,rfl,fun _=>⟨rfl,by simp[L]⟩,by simp[L],by simp[L]<;>omega,?_,a4⟩;simp only[L,Nat.zero_add];have e4:(off+cap)*es=off*es+cap*es:=Nat.add_mul _ _ _;rw[p1]at q3;omega
          .
           obtain⟨os,o1,o2,o3⟩:=bA.flat (bA.part (l:=off) (k:=len) (bA.mono G.le_refl (c':=fun i=>w.cell? ⟨J.blk,i,none⟩) (fun i v hv=>by simpa [World.cell?,hb]using hv) es J.dl xs p6));have b7:(xs.drop off).take len=xs.drop off:=List.take_of_length_le om;rw[b7]at o1 o3;rw[an]at o1;have hold:(Builtin.firstCells es len (.slice (some ⟨ab,ao,none⟩) len cap)).run P {w with drawn:=w.drawn+1}=.ok os.toArray {w with drawn:=w.drawn+1}:=by
            simp only[Builtin.firstCells];by_cases hc:cap=0
            .have:len=0:=om;subst this;simp at o1;subst o1;simp[loadCells,loadCellsFrom]
            .obtain⟨rfl,rfl⟩:=ai hc;rw[<- o1,p1];exact run_loadCells _ _ os o2
           obtain⟨newCap,a3,M⟩:=lZ (ty:=ty) (base:=some ⟨ab,ao,none⟩) (sLen:=len) (sCap:=cap) (olds:=os) hte hu a8 hes hby aw Y ac hold om U;have hj:bA G (fun i=>(os++us++[])[i]?) es 0 (xs.drop off++news):=bA.join o3 hE (by rw[an];simpa using o1) [] a2;obtain⟨G',h1,h2,h3⟩:=uG (e:=e) (bytes:=bytes) (m:=0) (z:=z) (n:=n) (us:=os++us) (xs:=xs.drop off++news) (newCap:=newCap)
            (hR.forget (K':=K.upd o none) (fun p x O=>by
             simp only[cG.upd]at O;split at O
             .cases O
             .exact O)) ap a1
            (by simpa using hj) (by rw[a5];simp only[List.length_append];rw[o1,a2,<- Nat.add_mul]) au (by rw[a5];exact a3)
           rw[a5]at h2 h3;refine⟨G',_,_,M,h1,?_,h3⟩;simpa using h2
      .cases hm
     .simp only[AM.runK]at hm;cases hm
  .simp only[AM.runK]at hm;cases hm
 .simp only[AM.runK]at hm;cases hm
theorem Rw {argTypes:Array TypeId}{ty:TypeId}{a x:AV}{ca:Value}(hR:eO w0 B K G w)(ha:aF G a ca)(hm:(pK P argTypes a).runK n K=some (x,n',K')) :
  (n'=n/\K'=K)/\∃ v,(Builtin.len_ argTypes ty #[ca]).run P w=.ok v w/\aF G x v:=by
 unfold pK at hm;split at hm
 .rename_i t ht;split at hm
  .rename_i s hd;simp only[AM.runK,Option.some.injEq,Prod.mk.injEq]at hm;obtain⟨rfl,rfl,rfl⟩:=hm;simp only[aF]at ha;subst ha;exact⟨⟨rfl,rfl⟩,.int .i64 (s.length:Nat),by simp[Builtin.len_,ht,run_underlying hd,goInt];rfl,by simp only[aF]⟩
  .rename_i e hd;simp only[AM.runK,Option.some.injEq,Prod.mk.injEq]at hm;obtain⟨rfl,rfl,rfl⟩:=hm;simp only[aF]at ha;subst ha;exact⟨⟨rfl,rfl⟩,.int .i64 0,by simp[Builtin.len_,ht,run_underlying hd,goInt],by simp only[aF]⟩
  .rename_i e xs es full hd;simp only[AM.runK,Option.some.injEq,Prod.mk.injEq]at hm;obtain⟨rfl,rfl,rfl⟩:=hm;simp only[aF]at ha;obtain⟨_,_,_,rfl,_⟩:=ha;exact⟨⟨rfl,rfl⟩,.int .i64 (xs.length:Nat),by simp[Builtin.len_,ht,run_underlying hd,goInt],by simp only[aF]⟩
  .rename_i e o off len hd;simp only[AM.runK,Option.some.injEq,Prod.mk.injEq]at hm;obtain⟨rfl,rfl,rfl⟩:=hm;simp only[aF]at ha;obtain⟨_,_,_,_,_,rfl,_⟩:=ha;exact⟨⟨rfl,rfl⟩,.int .i64 (len:Nat),by simp[Builtin.len_,ht,run_underlying hd,goInt],by simp only[aF]⟩
  .rename_i k e cs hd;simp only[AM.runK,Option.some.injEq,Prod.mk.injEq]at hm;obtain⟨rfl,rfl,rfl⟩:=hm;exact⟨⟨rfl,rfl⟩,.int .i64 (k:Nat),by simp[Builtin.len_,ht,run_underlying hd,goInt],by simp only[aF]⟩
  .rename_i kt e hd;simp only[AM.runK,Option.some.injEq,Prod.mk.injEq]at hm;obtain⟨rfl,rfl,rfl⟩:=hm;simp only[aF]at ha;subst ha;exact⟨⟨rfl,rfl⟩,.int .i64 0,by simp[Builtin.len_,ht,run_underlying hd,goInt],by simp only[aF]⟩
  .rename_i kt e o hd;simp only[aF]at ha;obtain⟨I,hI,rfl⟩:=ha;simp only[AM.runK]at hm;split at hm
   .rename_i ob hK;cases ob<;>simp only[AM.runK]at hm<;>try (cases hm;done)
    rename_i M;simp only[Option.some.injEq,Prod.mk.injEq]at hm;obtain⟨rfl,rfl,rfl⟩:=hm;obtain⟨J,O,Y,_,hb,U⟩:=hR.obj o _ hK;obtain rfl:J=I:=Option.some.inj (Y.symm.trans hI);cases O<;>simp only[cK]at U
    rename_i es clock;refine⟨⟨rfl,rfl⟩,.int .i64 (M.length:Nat),?_,by simp only[aF]⟩;have hl:M.length=es.size:=by
     have:∀(M:List (AV×AV)) (l:List MapEntry),fA G M l->M.length=l.length:=by
      intro M
      induction M with
      |nil=>intro l h;simp only[fA]at h;subst h;rfl
      |cons p r ih=>
       obtain⟨k,v⟩:=p;intro l h;simp only[fA]at h;obtain⟨e,es,rfl,_,_,h4⟩:=h;simp[ih es h4]
     simpa using this M _ U.1
    have hg:(getObj J.blk).run P w=.ok (.map es clock) w:=(by simp[getObj,Sem.run,hb]);simp[Builtin.len_,ht,run_underlying hd,goInt,hg,hl]
   .cases hm
  .simp only[AM.runK]at hm;cases hm
 .simp only[AM.runK]at hm;cases hm
theorem Hb (x y:List UInt8):((⟨⟨x⟩⟩:ByteArray)==⟨⟨y⟩⟩)=(x==y):=by
 have h:((⟨⟨x⟩⟩:ByteArray)==⟨⟨y⟩⟩)=((⟨x⟩:Array UInt8)==⟨y⟩):=rfl;rw[h,Bool.eq_iff_iff,beq_iff_eq,beq_iff_eq,Array.mk.injEq]
theorem tG {a b:AV}{va vb:Value}{r:Bool}{d:TypeDesc}(ha:aF G a va)(hb:aF G b vb)(h:yV a b=some r)
  (hd:(∃ k,d=.int k/\∃ k' x,a=.int k' x)\/(d=.string/\∃ s,a=.str s)\/(d=.bool/\∃ t,a=.bool t)):Instr.sameNow d va vb=some r:=by
 unfold yV at h;split at h
 .rename_i k x k' y;simp only[aF]at ha hb;subst ha;subst hb;rcases hd with⟨kk,rfl,_⟩ | ⟨_,s,h1⟩ | ⟨_,t,h1⟩
  .split at h
   .rename_i e;cases h;simp[Instr.sameNow,e]
   .cases h
  .cases h1
  .cases h1
 .rename_i x y;simp only[aF]at ha hb;subst ha;subst hb;rcases hd with⟨kk,_,k',z,h1⟩ | ⟨rfl,_⟩ | ⟨_,t,h1⟩
  .cases h1
  .cases h;simp only[Instr.sameNow,Hb]
  .cases h1
 .rename_i x y;simp only[aF]at ha hb;subst ha;subst hb;rcases hd with⟨kk,_,k',z,h1⟩ | ⟨_,s,h1⟩ | ⟨rfl,_⟩
  .cases h1
  .cases h1
  .cases h;simp[Instr.sameNow]
 .cases h
theorem vZ {t:TypeId}{a:AV}(h:nJ P t a=true):∃ d,P.underlying t=some d/\
  ((∃ k,d=.int k/\∃ k' x,a=.int k' x)\/(d=.string/\∃ s,a=.str s)\/(d=.bool/\∃ t,a=.bool t)):=by
 unfold nJ at h;split at h
 .rename_i hd;exact⟨_,hd,.inl ⟨_,rfl,_,_,rfl⟩⟩
 .rename_i hd;exact⟨_,hd,.inr (.inl ⟨rfl,_,rfl⟩)⟩
 .rename_i hd;exact⟨_,hd,.inr (.inr ⟨rfl,_,rfl⟩)⟩
 .cases h
theorem Ft {k:AV}{ck:Value}{d:TypeDesc}(hk:aF G k ck)
  (hd:(∃ kk,d=.int kk/\∃ k' x,k=.int k' x)\/(d=.string/\∃ s,k=.str s)\/(d=.bool/\∃ t,k=.bool t)):∀{kv:List (AV×AV)}{l:List MapEntry}{r:Option AV} (i:Nat),fA G kv l->mY k kv=some r->match r with
   |none=>Instr.findNow d ck l i=some none
   |some v=>∃ j u,Instr.findNow d ck l i=some (some (j,u))/\aF G v u
 |[],l,r,i,h,e=>by
  simp only[fA]at h;subst h;simp[mY]at e;subst e;simp[Instr.findNow]
 |(k',v)::rest,l,r,i,h,e=>by
  simp only[fA]at h;obtain⟨en,es,rfl,h1,h2,O⟩:=h;simp only[mY]at e;split at e
  .rename_i hq;cases e;have:=tG hk h1 hq hd;exact⟨i,en.val,by simp[Instr.findNow,this],h2⟩
  .rename_i hq;have:=tG hk h1 hq hd;have M:=Ft hk hd (i+1) O e;cases r with
   |none=>simp only at M ⊢;simp[Instr.findNow,this,M]
   |some v=>simp only at M ⊢;obtain⟨j,u,g1,g2⟩:=M;exact⟨j,u,by simp[Instr.findNow,this,g1],g2⟩
  .cases e
theorem run_checkKey {t:TypeId}{d:TypeDesc}{a:AV}{ca:Value}{b:Bool}(ha:aF G a ca)(hd:P.underlying t=some d)
  (hk:(∃ k,d=.int k/\∃ k' x,a=.int k' x)\/(d=.string/\∃ s,a=.str s)\/(d=.bool/\∃ t,a=.bool t)):(Instr.checkKey b 10000 t ca).run P w=.ok () w:=by
 rw[show (10000:Nat)=9999+1 from rfl,Instr.checkKey];simp only[Sem.run_bind,run_underlying hd,Result.andThen_ok];rcases hk with⟨kk,rfl,k',x,rfl⟩ | ⟨rfl,s,rfl⟩ | ⟨rfl,t,rfl⟩<;>rfl
theorem mA {r:Nat}{ob:Obj}(h:w.heap[r]?=some ob)(hc:∀ c e f,ob≠.cells c e f):(getObj r).run P w=.ok ob w:=by
 unfold getObj Sem.run;rw[h];cases ob<;>first | rfl | exact absurd rfl (hc _ _ _)
theorem eO.mp (hR:eO w0 B K G w){o:Nat}{kv:List (AV×AV)}(hK:K o=some (.map kv)){I:lR}(hI:G.nm o=some I):∃ es clock,w.heap[I.blk]?=some (.map es clock)/\fA G kv es.toList/\Dr es.toList clock:=by
 obtain⟨J,M,U,_,hb,O⟩:=hR.obj o _ hK;obtain rfl:J=I:=Option.some.inj (U.symm.trans hI);cases M<;>simp only[cK]at O
 exact⟨_,_,hb,O⟩
theorem Ej {t:TypeId}{m k x:AV}{ok:Bool}{cm ck:Value}(hR:eO w0 B K G w)(hm0:aF G m cm)(hk:aF G k ck)(hm:(kH P t m k ok).runK n K=some (x,n',K')) :
  (n'=n/\K'=K)/\∃ v,(Instr.lookup t cm ck ok).run P w=.ok v w/\aF G x v:=by
 unfold kH at hm;split at hm
 .rename_i kt et hd;replace hm:=eC hm;obtain⟨a4,hm⟩:=hm;obtain⟨d,U,a3⟩:=vZ a4;have fin:∀(r:Option AV) (es:Array MapEntry),(match r with
    |none=>Instr.findNow d ck es.toList 0=some none
    |some v=>∃ j u,Instr.findNow d ck es.toList 0=some (some (j,u))/\aF G v u)->
    (match r with
     |some v=>AM.ret (bif ok then AV.tup [v,.bool true] else v)
     |none=>match bK P et with
      |some z=>AM.ret (bif ok then AV.tup [z,.bool false] else z)
      |none=>AM.fail).runK n K=some (x,n',K')->
    (n'=n/\K'=K)/\∃ v,aF G x v/\((∃ j u,(Instr.findKey kt ck es.toList).run P w=.ok (some (j,u)) w/\v=if ok then .tuple #[u,.bool true] else u)\/
     ((Instr.findKey kt ck es.toList).run P w=.ok none w/\∃ z,(zeroValue et).run P w=.ok z w/\v=if ok then .tuple #[z,.bool false] else z)):=by
   intro r es hf Y;cases r with
   |some v=>
    simp only at hf Y;obtain⟨j,u,g1,g2⟩:=hf;simp only[AM.runK,Option.some.injEq,Prod.mk.injEq]at Y;obtain⟨rfl,rfl,rfl⟩:=Y;have a2:(Instr.findKey kt ck es.toList).run P w=.ok (some (j,u)) w:=(by simp[Instr.findKey,run_underlying U,g1]);refine⟨⟨rfl,rfl⟩,if ok then .tuple #[u,.bool true] else u,?_,.inl ⟨j,u,a2,rfl⟩⟩;cases ok with
    |true=>simp only[cond_true,if_true,aF];exact⟨_,rfl,aI.cons g2 (aI.cons (by simp[aF]) aI.nil)⟩
    |false=>simpa using g2
   |none=>
    simp only at hf Y;split at Y
    .rename_i z hz;simp only[AM.runK,Option.some.injEq,Prod.mk.injEq]at Y;obtain⟨rfl,rfl,rfl⟩:=Y;obtain⟨u,hu,g2⟩:=oJ (P:=P) (w:=w) (G:=G) hz;have a2:(Instr.findKey kt ck es.toList).run P w=.ok none w:=(by simp[Instr.findKey,run_underlying U,hf]);refine⟨⟨rfl,rfl⟩,if ok then .tuple #[u,.bool false] else u,?_,.inr ⟨a2,u,hu,rfl⟩⟩;cases ok with
     |true=>simp only[cond_true,if_true,aF];exact⟨_,rfl,aI.cons g2 (aI.cons (by simp[aF]) aI.nil)⟩
     |false=>simpa using g2
    .simp only[AM.runK]at Y;cases Y
  simp only at hm;split at hm
  .simp only[aF]at hm0;subst hm0;obtain⟨h1,v,h3,h2⟩:=fin none #[] (by simp[Instr.findNow]) hm;refine⟨h1,v,?_,h3⟩;have M:=run_checkKey (P:=P) (w:=w) (b:=(#[]:Array MapEntry).isEmpty) hk U a3;rcases h2 with⟨j,u,h4,rfl⟩ | ⟨h4,z,h5,rfl⟩
   .have a1:(Instr.findKey kt ck []).run P w=.ok (some (j,u)) w:=h4;have O:(Instr.checkKey true 10000 kt ck).run P w=.ok () w:=M;cases ok<;>simp[Instr.lookup,run_underlying hd,a1,O]
   .have a1:(Instr.findKey kt ck []).run P w=.ok none w:=h4;have O:(Instr.checkKey true 10000 kt ck).run P w=.ok () w:=M;cases ok<;>simp[Instr.lookup,run_underlying hd,a1,h5,O]
  .rename_i o;simp only[aF]at hm0;obtain⟨I,hI,rfl⟩:=hm0;simp only[AM.runK]at hm;split at hm
   .rename_i ob hK;cases ob<;>simp only[AM.runK]at hm<;>try (cases hm;done)
    rename_i kv;split at hm
    .rename_i r hr;obtain⟨es,clock,hb,a5,a6⟩:=hR.mp hK hI;obtain⟨h1,v,h3,h2⟩:=fin r es (Ft hk a3 0 a5 hr) hm;refine⟨h1,v,?_,h3⟩;have M:=run_checkKey (P:=P) (w:=w) (b:=es.isEmpty) hk U a3;rcases h2 with⟨j,u,h4,rfl⟩ | ⟨h4,z,h5,rfl⟩
     .cases ok<;>simp[Instr.lookup,run_underlying hd,mA hb sm,h4,M]
     .cases ok<;>simp[Instr.lookup,run_underlying hd,mA hb sm,h4,h5,M]
    .simp only[AM.runK]at hm;cases hm
   .cases hm
  .simp only[AM.runK]at hm;cases hm
 .simp only[AM.runK]at hm;cases hm
theorem My {k v:AV}{ck cv:Value}{d:TypeDesc}(hk:aF G k ck)(hv:aF G v cv)
  (hd:(∃ kk,d=.int kk/\∃ k' x,k=.int k' x)\/(d=.string/\∃ s,k=.str s)\/(d=.bool/\∃ t,k=.bool t)):∀{kv kv':List (AV×AV)}{l:List MapEntry} (i:Nat),fA G kv l->jM k v kv=some kv'->
  (Instr.findNow d ck l i=some none/\∀ b,fA G kv' (l++[{key:=ck,val:=cv,born:=b}]))\/
  (∃ j u ek,Instr.findNow d ck l i=some (some (i+j,u))/\j<l.length/\(l[j]?).map (·.key)=some ek/\Instr.sameBits 10000 ek ck=true/\
   fA G kv' (l.modify j fun e=>{e with key:=ck,val:=cv}))
 |[],kv',l,i,h,e=>by
  simp only[fA]at h;subst h;simp[jM]at e;subst e;exact .inl ⟨by simp[Instr.findNow],fun b=>by simp only[List.nil_append,fA];exact⟨_,[],rfl,hk,hv,rfl⟩⟩
 |(k',v')::rest,kv',l,i,h,e=>by
  simp only[fA]at h;obtain⟨en,es,rfl,h1,h2,O⟩:=h;simp only[jM]at e;split at e
  .rename_i hq;cases e;have M:=tG hk h1 hq hd;refine .inr ⟨0,en.val,en.key,by simp[Instr.findNow,M],by simp,by simp,?_,?_⟩
   .unfold yV at hq;split at hq
    .simp only[aF]at h1 hk;subst hk;rw[h1];split at hq
     .rename_i e;simp at hq;subst e;subst hq;simp[Instr.sameBits]
     .cases hq
    .simp only[aF]at h1 hk;subst hk;rw[h1];simp at hq;subst hq;simp[Instr.sameBits,Hb]
    .simp only[aF]at h1 hk;subst hk;rw[h1];simp at hq;subst hq;simp[Instr.sameBits,Hb]
    .cases hq
   .simp only[List.modify_cons,if_true,fA];exact⟨_,es,rfl,hk,hv,O⟩
  .rename_i hq;split at e
   .rename_i t' ht;cases e;have M:=tG hk h1 hq hd;rcases My hk hv hd (i+1) O ht with⟨g1,g2⟩ | ⟨j,u,ek,g1,g2,g3,g4,g5⟩
    .exact .inl ⟨by simp[Instr.findNow,M,g1],fun b=>by simp only[List.cons_append,fA];exact⟨en,_,rfl,h1,h2,g2 b⟩⟩
    .refine .inr ⟨j+1,u,ek,?_,by simpa using g2,by simpa using g3,g4,?_⟩
     .simp only[Instr.findNow,M,g1]
      congr 3;omega
     .simp only[List.modify_cons,Nat.add_one_ne_zero,if_false,fA];exact⟨en,_,rfl,h1,h2,by simpa using g5⟩
   .cases e
  .cases e
theorem pT {t:TypeId}{m k v:AV}{cm ck cv:Value}(hR:eO w0 B K G w)(hm0:aF G m cm)(hk:aF G k ck)(hv:aF G v cv)
  (hm:(fY P t m k v).runK n K=some ((),n',K')):n'=n/\∃ w',(Instr.mapUpdate t cm ck cv).run P w=.ok () w'/\eO w0 B K' G w':=by
 unfold fY at hm;split at hm
 .rename_i kt et hd;replace hm:=eC hm;obtain⟨a6,hm⟩:=hm;obtain⟨d,Y,a4⟩:=vZ a6;split at hm
  .rename_i o;simp only[aF]at hm0;obtain⟨I,hI,rfl⟩:=hm0;simp only[AM.runK]at hm;split at hm
   .rename_i ob hK;cases ob<;>simp only[AM.runK]at hm<;>try (cases hm;done)
    rename_i kv;split at hm
    .rename_i kv' hp;simp only[AM.runK,hK,Option.some.injEq,Prod.mk.injEq,true_and]at hm;obtain⟨rfl,rfl⟩:=hm;obtain⟨es,clock,hb,a7,a1⟩:=hR.mp hK hI;have a2:=run_checkKey (P:=P) (w:=w) (b:=false) hk Y a4;have O:∀ ob':Obj,(setObj I.blk ob').run P w=.ok () {w with heap:=w.heap.setIfInBounds I.blk ob'}:=by
      intro ob';unfold setObj Sem.run;rw[hb];rfl
     have a5:∀ ob':Obj,Wrote w {w with heap:=w.heap.setIfInBounds I.blk ob'} I.blk ob':=by
      intro ob';have a8:=(Array.getElem?_eq_some_iff.1 hb).1;exact⟨by simp[a8],fun c hc=>by simp[Array.getElem?_setIfInBounds,hc.symm],by simp,rfl,rfl,rfl⟩
     rcases My hk hv a4 0 a7 hp with⟨g1,g2⟩ | ⟨j,u,ek,g1,g2,g3,g4,g5⟩
     .have U:(Instr.findKey kt ck es.toList).run P w=.ok none w:=(by simp[Instr.findKey,run_underlying Y,g1]);have M:=a5 (.map (es.push {key:=ck,val:=cv,born:=clock}) (clock+1));refine⟨rfl,_,?_,hR.write hK hI ?_ M.self M.oth M.size M.os M.out M.tape⟩
      .simp only[Instr.mapUpdate,Sem.run_bind,run_underlying hd,Result.andThen_ok,mA hb sm,a2,U,O]
      .simp only[cK,Array.toList_push];exact⟨g2 clock,a1.push _ rfl⟩
     .have U:(Instr.findKey kt ck es.toList).run P w=.ok (some (j,u)) w:=(by simp[Instr.findKey,run_underlying Y,g1]);have M:=a5 (.map (es.modify j fun e=>{e with key:=ck,val:=cv}) clock);have a3:((es[j]?).map (·.key)).getD ck=ek:=by
       rw[Array.getElem?_toList]at g3;rw[g3];rfl
      refine⟨rfl,_,?_,hR.write hK hI ?_ M.self M.oth M.size M.os M.out M.tape⟩
      .simp only[Instr.mapUpdate,Sem.run_bind,run_underlying hd,Result.andThen_ok,mA hb sm,a2,U,a3,Instr.keyThatStays,g4,if_true,Sem.run_pure,O]
      .simp only[cK,Array.toList_modify];exact⟨g5,a1.modify _ _ fun _=>rfl⟩
    .simp only[AM.runK]at hm;cases hm
   .cases hm
  .simp only[AM.runK]at hm;cases hm
 .simp only[AM.runK]at hm;cases hm
theorem qW {d:Nat}{eq:TypeId->AV->AV->Option Bool}{us vs:Array Value}{xs ys:List AV}(hx:aI G xs us.toList)(hy:aI G ys vs.toList)
  (heq:∀ t a b va vb r,aF G a va->aF G b vb->eq t a b=some r->(Op.equalIn d t va vb).run P w=.ok r w):∀(fs:List Field) (r:Bool),nP P eq xs ys fs=some r->
  (forIn fs ((none:Option Bool),()) fun (f:Field) __s=>
   if f.name ≠ "_" then do
    let a <- part f.type us f.offset
    let b <- part f.type vs f.offset
    let c <- Op.equalIn d f.type a b
    if (!c)=true then pure (ForInStep.done (some false,())) else pure (ForInStep.yield (none,()))
   else pure (ForInStep.yield (none,()))).run P w=.ok ((if r then none else some false),()) w
 |[],r,h=>by
  simp[nP]at h;subst h;simp
 |f::fs,r,h=>by
  simp only[nP]at h;rw[List.forIn_cons]
  by_cases M : f.name = "_"
  .simp only[M,if_true]at h;have U:=qW hx hy heq fs r h;simp only[M,ne_eq,not_true_eq_false,if_false,Sem.run_bind,Sem.run_pure,Result.andThen_ok];exact U
  .simp only[M,if_false]at h;split at h
   .rename_i a b ha hb;obtain⟨va,h1,h2⟩:=wP (w:=w) hx ha;obtain⟨vb,Y,h4⟩:=wP (w:=w) hy hb;split at h
    .rename_i he;have O:=heq _ _ _ _ _ _ h2 h4 he;have U:=qW hx hy heq fs r h;simp only[ne_eq,M,not_false_eq_true,if_true,Sem.run_bind,h1,Y,O,Result.andThen_ok,Bool.not_true,Bool.false_eq_true,if_false,Sem.run_pure];exact U
    .rename_i he;cases h;have O:=heq _ _ _ _ _ _ h2 h4 he;simp[M,h1,Y,O]
    .cases h
   .cases h
theorem xN:∀(d d':Nat) (t:TypeId) (x y:AV) (cx cy:Value) (r:Bool),d<=d'->aF G x cx->aF G y cy->yP P d t x y=some r->
  (Op.equalIn d' t cx cy).run P w=.ok r w
 |0,_,_,_,_,_,_,_,_,_,_,h=>by simp[yP]at h
 |d+1,0,_,_,_,_,_,_,hd,_,_,_=>by omega
 |d+1,d'+1,t,x,y,cx,cy,r,hd,M,O,h=>by
  rw[Op.equalIn];simp only[yP]at h;split at h
  .rename_i a b ht;simp only[aF]at M O;subst M;subst O;simp only[Sem.run_bind,Ez.run_underlying ht,Result.andThen_ok,Sem.run_pure];cases h;rfl
  .rename_i k a k' b _ ht;simp only[aF]at M O;subst M;subst O;simp only[Sem.run_bind,Ez.run_underlying ht,Result.andThen_ok];split at h
   .rename_i e;cases h;simp[e]
   .cases h
  .rename_i a b ht;simp only[aF]at M O;subst M;subst O;simp only[Sem.run_bind,Ez.run_underlying ht,Result.andThen_ok,Sem.run_pure,Hb];cases h;rfl
  .rename_i e ht;simp only[aF]at M O;subst M;subst O;simp only[Sem.run_bind,Ez.run_underlying ht,Result.andThen_ok,Sem.run_pure];cases h;rfl
  .rename_i e o i ht;simp only[aF]at M O;subst M;obtain⟨I,_,rfl⟩:=O;simp only[Sem.run_bind,Ez.run_underlying ht,Result.andThen_ok,Sem.run_pure];cases h;rfl
  .rename_i e o i ht;simp only[aF]at M O;subst O;obtain⟨I,_,rfl⟩:=M;simp only[Sem.run_bind,Ez.run_underlying ht,Result.andThen_ok,Sem.run_pure];cases h;rfl
  .rename_i e xs es i ht;simp only[aF]at M O;subst M;obtain⟨_,_,rfl,_⟩:=O;simp only[Sem.run_bind,Ez.run_underlying ht,Result.andThen_ok,Sem.run_pure];cases h;rfl
  .rename_i e xs es i ht;simp only[aF]at M O;subst O;obtain⟨_,_,rfl,_⟩:=M;simp only[Sem.run_bind,Ez.run_underlying ht,Result.andThen_ok,Sem.run_pure];cases h;rfl
  .rename_i ms ht;simp only[aF]at M O;subst M;subst O;simp only[Sem.run_bind,Ez.run_underlying ht,Result.andThen_ok,Sem.run_pure];cases h;rfl
  .rename_i ms t' v ht;simp only[aF]at M O;subst M;obtain⟨_,rfl,_⟩:=O;simp only[Sem.run_bind,Ez.run_underlying ht,Result.andThen_ok,Sem.run_pure];cases h;rfl
  .rename_i ms t' v ht;simp only[aF]at M O;subst O;obtain⟨_,rfl,_⟩:=M;simp only[Sem.run_bind,Ez.run_underlying ht,Result.andThen_ok,Sem.run_pure];cases h;rfl
  .rename_i ms tx vx ty vy ht;simp only[aF]at M O;obtain⟨ux,rfl,M⟩:=M;obtain⟨uy,rfl,O⟩:=O;simp only[Sem.run_bind,Ez.run_underlying ht,Result.andThen_ok];split at h
   .rename_i hne;cases h;simp[hne]
   .rename_i U;have Y:tx=ty:=(by simpa using U);subst Y;split at h
    .rename_i i hi;cases hc:i.comparable with
     |false=>rw[hc]at h;cases h
     |true=>
      rw[hc]at h;simp only[cond_true]at h;have ih:=xN d d' tx vx vy ux uy r om M O h;simp[run_typeInfo hi,hc,ih]
    .cases h
  .rename_i e ht;simp only[aF]at M O;subst M;subst O;simp only[Sem.run_bind,Ez.run_underlying ht,Result.andThen_ok,Sem.run_pure];cases h;rfl
  .rename_i e xs es f ht;simp only[aF]at M O;subst M;obtain⟨_,_,_,rfl,_⟩:=O;simp only[Sem.run_bind,Ez.run_underlying ht,Result.andThen_ok,Sem.run_pure];cases h;rfl
  .rename_i e xs es f ht;simp only[aF]at M O;subst O;obtain⟨_,_,_,rfl,_⟩:=M;simp only[Sem.run_bind,Ez.run_underlying ht,Result.andThen_ok,Sem.run_pure];cases h;rfl
  .rename_i e o off len ht;simp only[aF]at M O;subst M;obtain⟨_,_,_,_,_,rfl,_⟩:=O;simp only[Sem.run_bind,Ez.run_underlying ht,Result.andThen_ok,Sem.run_pure];cases h;rfl
  .rename_i e o off len ht;simp only[aF]at M O;subst O;obtain⟨_,_,_,_,_,rfl,_⟩:=M;simp only[Sem.run_bind,Ez.run_underlying ht,Result.andThen_ok,Sem.run_pure];cases h;rfl
  .rename_i p1 p2 p3 ht;simp only[aF]at M O;subst M;subst O;simp only[Sem.run_bind,Ez.run_underlying ht,Result.andThen_ok,Sem.run_pure];cases h;rfl
  .rename_i p1 p2 p3 f a c ht;simp only[aF]at M O;subst M;obtain⟨_,_,_,rfl,_⟩:=O;simp only[Sem.run_bind,Ez.run_underlying ht,Result.andThen_ok,Sem.run_pure];cases h;rfl
  .rename_i p1 p2 p3 f a c ht;simp only[aF]at M O;subst O;obtain⟨_,_,_,rfl,_⟩:=M;simp only[Sem.run_bind,Ez.run_underlying ht,Result.andThen_ok,Sem.run_pure];cases h;rfl
  .rename_i fs xs ys ht;simp only[aF]at M O;obtain⟨us,rfl,M⟩:=M;obtain⟨vs,rfl,O⟩:=O;cases hs:P.stoodInHeld t with
   |true=>rw[hs]at h;cases h
   |false=>
    rw[hs]at h;simp only[cond_false]at h;have hf:=qW (P:=P) (w:=w) (d:=d') M O (fun t a b va vb r ha hb U=>xN d d' t a b va vb r om ha hb U) fs.toList r h;simp only[Sem.run_bind,Ez.run_underlying ht,Result.andThen_ok,run_program,hs,Bool.false_eq_true,if_false,<- Array.forIn_toList];rw[hf];cases r<;>simp
  .cases h
theorem yR {t:TypeId}{x y:AV}{cx cy:Value}{r:Bool}(hx:aF G x cx)(hy:aF G y cy)(h:yP P 100 t x y=some r):(Op.equal t cx cy).run P w=.ok r w:=
 xN 100 Op.maxDepth t x y cx cy r (by unfold Op.maxDepth;omega) hx hy h
theorem tX {op : BinOp}{k : IntKind}{a b : Int}{x : AV} (h : gZ op k a b = some x) :
    ∃ v, ((match op with
      | .add | .sub | .mul => Op.intArith op k a b
      | .quo | .rem => Op.intDiv op k a b
      | .and | .or | .xor | .andNot => Op.intBits op k a b
      | _ => Op.intCmp op a b) : Sem Value).run P w = .ok v w /\ aF G x v := by
  cases op <;> simp only [gZ] at h
  all_goals first
    | (cases h; done)
    | (cases h; exact ⟨_, rfl, by simp only [aF]⟩)
    | (split at h
       . cases h
       . rename_i hb
         cases h
         exact ⟨_, by simp [Op.intDiv, hb]; rfl, by simp only [aF]⟩)
theorem Ev {op:BinOp}{a b:List UInt8}{x:AV}(h:Ja op a b=some x):∃ v,(Op.stringOp op ⟨⟨a⟩⟩ ⟨⟨b⟩⟩).run P w=.ok v w/\aF G x v:=by
 have M:(⟨⟨a⟩⟩:ByteArray).toList=a:=(by rw[Go.ByteArray.toList_eq]);have O:(⟨⟨b⟩⟩:ByteArray).toList=b:=(by rw[Go.ByteArray.toList_eq]);have s1:(⟨⟨a⟩⟩:ByteArray).size=a.length:=rfl;have s2:(⟨⟨b⟩⟩:ByteArray).size=b.length:=rfl;cases op<;>simp only[Ja,qE]at h
 all_goals first
  |(cases h;done)
  |(cases h;exact⟨_,by simp only[Op.stringOp,M,O,Sem.run_pure];rfl,by simp only[aF]⟩)
  |skip
 cases hb:Nat.ble (a.length+b.length) 9223372036854775807 with
 |false=>rw[hb]at h;cases h
 |true=>
  rw[hb]at h;cases h;have Y:=jT.1 hb;have U:¬(((a.length+b.length:Nat):Int)>IntKind.i64.max):=(by simp[IntKind.max,IntKind.signed,IntKind.bits]<;>omega);refine⟨.string (⟨⟨a⟩⟩++⟨⟨b⟩⟩),?_,?_⟩
  .simp only[Op.stringOp,s1,s2,U,if_false,Sem.run_pure]
  .simp only[aF]
   congr 1
def wG:Value->Bool
 |.int _ _ | .float _ _ | .complex _ _ _ | .string _=>true
 |_=>false
theorem binOp_eql (t:TypeId)(a b:Value)(h:wG a=false):binOp .eql t a b=(do pure (.bool (<- Op.equal t a b))):=by
 cases a<;>simp[wG]at h<;>cases b<;>rfl
theorem binOp_neq (t:TypeId)(a b:Value)(h:wG a=false):binOp .neq t a b=(do pure (.bool (!(<- Op.equal t a b)))):=by
 cases a<;>simp[wG]at h<;>cases b<;>rfl
theorem Kw {d : Nat}{t : TypeId}{x y : AV}{r : Bool}{cx : Value} (h : yP P d t x y = some r) (hx : aF G x cx) :
    (∃ k n k' m, x = .int k n /\ y = .int k' m) \/ (∃ s s', x = .str s /\ y = .str s') \/ wG cx = false := by
  cases d with
  | zero => simp [yP] at h
  | succ d =>
    simp only [yP] at h
    split at h
    all_goals first
      | (exact .inl ⟨_, _, _, _, rfl, rfl⟩)
      | (exact .inr (.inl ⟨_, _, rfl, rfl⟩))
      | (cases h; done)
      | (refine .inr (.inr ?_)
         simp only [aF] at hx
         first
           | (subst hx; rfl)
           | (obtain ⟨_, _, rfl⟩ := hx; rfl)
           | (obtain ⟨_, _, rfl, _⟩ := hx; rfl)
           | (obtain ⟨_, _, _, rfl, _⟩ := hx; rfl)
           | (obtain ⟨_, _, _, _, _, rfl, _⟩ := hx; rfl)
           | (obtain ⟨_, rfl, _⟩ := hx; rfl))
theorem aF.if0_of {a:AV}(h:aF G a .nilIface)(hu:a≠.unk):a=.if0:=by
 cases a<;>simp only[aF]at h<;>first
  |rfl
  |exact absurd rfl hu
  |(cases h;done)
  |(obtain⟨_,_,h⟩:=h;cases h;done)
  |(obtain⟨_,_,h,_⟩:=h;cases h;done)
  |(obtain⟨_,_,_,h,_⟩:=h;cases h;done)
  |(obtain⟨_,_,_,_,_,h,_⟩:=h;cases h;done)
  |(obtain⟨_,h,_⟩:=h;cases h;done)
theorem aF.agg_of {a:AV}{us:Array Value}(h:aF G a (.agg us))(hu:a≠.unk):∃ cs,a=.agg cs:=by
 cases a<;>simp only[aF]at h<;>first
  |exact⟨_,rfl⟩
  |exact absurd rfl hu
  |(cases h;done)
  |(obtain⟨_,_,h⟩:=h;cases h;done)
  |(obtain⟨_,_,h,_⟩:=h;cases h;done)
  |(obtain⟨_,_,_,h,_⟩:=h;cases h;done)
  |(obtain⟨_,_,_,_,_,h,_⟩:=h;cases h;done)
  |(obtain⟨_,h,_⟩:=h;cases h;done)
theorem Fp {d:Nat}{t:TypeId}{x y:AV}{r:Bool}(h:yP P d t x y=some r):x≠.unk/\y≠.unk:=by
 cases d with
 |zero=>simp[yP]at h
 |succ d=>
  constructor
  .rintro rfl;simp only[yP]at h;cases hd:P.underlying t with
   |none=>rw[hd]at h;cases h
   |some D=>rw[hd]at h;cases D<;>cases h
  .rintro rfl;simp only[yP]at h;cases hd:P.underlying t with
   |none=>rw[hd]at h;cases h
   |some D=>rw[hd]at h;cases D<;>cases x<;>cases h
theorem yQ {x y:Operand}{op:BinOp}{t:TypeId}{a b:AV}{ca cb:Value}{r:Bool}(hop:op=.eql\/op=.neq)(ha:aF G a ca)(hb:aF G b cb)
  (h:cL.eqTop P t (isLit x || isLit y) a b=some r):yP P 100 t a b=some r/\(eqGuard op t x y ca cb).run P w=.ok () w:=by
 unfold cL.eqTop at h;have gen:(∀(_:ca=.nilIface) (_:cb=.nilIface),False)->(∀ us vs (_:ca=.agg us) (_:cb=.agg vs),False)->(eqGuard op t x y ca cb).run P w=.ok () w:=by
  intro h1 h2;unfold eqGuard;rcases hop with rfl | rfl
  all_goals
   cases ca<;>cases cb<;>first | rfl | exact absurd (h1 rfl rfl) id | exact absurd (h2 _ _ rfl rfl) id
 split at h
 .cases hl:(isLit x || isLit y) with
  |false=>rw[hl]at h;cases h
  |true=>
   rw[hl]at h;refine⟨h,?_⟩;simp only[aF]at ha hb;subst ha;subst hb;unfold eqGuard;clear gen h;rcases hop with rfl | rfl<;>cases x<;>cases y<;>first | (simp[isLit]at hl;done) | rfl
 .rename_i xs ys;cases hg:P.eqGuardType P.depth t with
  |true=>rw[hg]at h;cases h
  |false=>
   rw[hg]at h;refine⟨h,?_⟩;simp only[aF]at ha hb;obtain⟨us,rfl,_⟩:=ha;obtain⟨vs,rfl,_⟩:=hb;unfold eqGuard;rcases hop with rfl | rfl<;>simp[hg]
 .rename_i h1 h2;refine⟨h,gen (fun M O=>?_) (fun us vs M O=>?_)⟩
  .subst M;subst O;obtain⟨k1,k2⟩:=Fp h;exact h1 (aF.if0_of ha k1) (aF.if0_of hb k2)
  .subst M;subst O;obtain⟨k1,k2⟩:=Fp h;obtain⟨cs,rfl⟩:=aF.agg_of ha k1;obtain⟨ds,rfl⟩:=aF.agg_of hb k2;exact h2 _ _ rfl rfl
theorem Hc {x y:Operand}{op:BinOp}{t:TypeId}{a b r:AV}{ca cb:Value}(ha:aF G a ca)(hb:aF G b cb)
  (h:cL P op t (isLit x || isLit y) a b=some r):∃ v,(do eqGuard op t x y ca cb;binOp op t ca cb:Sem Value).run P w=.ok v w/\aF G r v:=by
 have M:(∀(_:ca=.nilIface) (_:cb=.nilIface),False)->(∀ us vs (_:ca=.agg us) (_:cb=.agg vs),False)->(eqGuard op t x y ca cb).run P w=.ok () w:=by
  intro h1 h2;unfold eqGuard;cases op<;>cases ca<;>cases cb<;>first | rfl | exact absurd (h1 rfl rfl) id | exact absurd (h2 _ _ rfl rfl) id
 unfold cL at h;split at h
 .rename_i k a k' b;simp only[aF]at ha hb;subst ha;subst hb;split at h
  .cases h
  .rename_i hn;cases h;refine⟨_,?_,by simp only[aF];rfl⟩;simp[M sm sm,binOp,Op.shift,hn]
 .rename_i k a k' b;simp only[aF]at ha hb;subst ha;subst hb;split at h
  .cases h
  .rename_i hn;cases h;refine⟨_,?_,by simp only[aF];rfl⟩;simp[M sm sm,binOp,Op.shift,hn]
 .rename_i op' k a k' b h1 h2;simp only[aF]at ha hb;subst ha;subst hb;split at h
  .cases h
  .rename_i hk;have Y:k=k':=(by simpa using hk);subst Y;obtain⟨v,O,U⟩:=tX (P:=P) (w:=w) (G:=G) h;refine⟨v,?_,U⟩;simp only[Sem.run_bind,M sm sm,Result.andThen_ok];rw[<- O];cases op<;>first
    |rfl
    |(simp[binOp];done)
    |exact(h1 rfl).elim
    |exact(h2 rfl).elim
 .rename_i s s';simp only[aF]at ha hb;subst ha;subst hb;obtain⟨v,U,h5⟩:=Ev (P:=P) (w:=w) (G:=G) h;refine⟨v,?_,h5⟩;simp only[Sem.run_bind,M sm sm,Result.andThen_ok];rw[<- U];cases op<;>rfl
 .cases he:cL.eqTop P t (isLit x || isLit y) a b with
  |none=>rw[he]at h;cases h
  |some q=>
   rw[he]at h;simp at h;subst h;obtain⟨h1,h2⟩:=yQ (op:=.eql) (w:=w) (.inl rfl) ha hb he;have O:=yR (w:=w) ha hb h1;refine⟨.bool q,?_,by simp only[aF]⟩;rcases Kw h1 ha with⟨k,n,k',m,rfl,rfl⟩ | ⟨s,s',rfl,rfl⟩ | hnum
   .rename_i g1 g2;exact(g1 _ _ _ _ rfl rfl).elim
   .rename_i g1 g2;exact(g2 _ _ rfl rfl).elim
   .simp only[Sem.run_bind,h2,Result.andThen_ok,binOp_eql t ca cb hnum,O,Sem.run_pure]
 .cases he:cL.eqTop P t (isLit x || isLit y) a b with
  |none=>rw[he]at h;cases h
  |some q=>
   rw[he]at h;simp at h;subst h;obtain⟨h1,h2⟩:=yQ (op:=.neq) (w:=w) (.inr rfl) ha hb he;have O:=yR (w:=w) ha hb h1;refine⟨.bool (!q),?_,by simp only[aF]⟩;rcases Kw h1 ha with⟨k,n,k',m,rfl,rfl⟩ | ⟨s,s',rfl,rfl⟩ | hnum
   .rename_i g1 g2;exact(g1 _ _ _ _ rfl rfl).elim
   .rename_i g1 g2;exact(g2 _ _ rfl rfl).elim
   .simp only[Sem.run_bind,h2,Result.andThen_ok,binOp_neq t ca cb hnum,O,Sem.run_pure]
 .cases h
theorem Nv {op:UnOp}{a r:AV}{ca:Value}(ha:aF G a ca)(h:Nu op a=some r):∃ v,(Op.unary op ca).run P w=.ok v w/\aF G r v:=by
 unfold Nu at h;split at h
 .simp only[aF]at ha;subst ha;cases h;exact⟨_,by simp[Op.unary,Op.intArith];rfl,by simp only[aF];simp⟩
 .rename_i k n;simp only[aF]at ha;subst ha;obtain⟨v,h1,h2⟩:=tX (P:=P) (w:=w) (G:=G) h;exact⟨v,h1,h2⟩
 .simp only[aF]at ha;subst ha;cases h;exact⟨_,rfl,by simp only[aF]⟩
 .cases h
theorem sE {f:AV->AV->Option AV}{g:Value->Value->Sem Value}(hfg:∀ a b r ca cb,aF G a ca->aF G b cb->f a b=some r->∃ v,(g ca cb).run P w=.ok v w/\aF G r v) :
  ∀{xs:List AV}{cs:List Value}{x r:AV}{cx:Value},aF G x cx->aI G xs cs->mM f x xs=some r->∃ v,(cs.foldlM g cx).run P w=.ok v w/\aF G r v
 |[],cs,x,r,cx,hx,M,h=>by
  simp only[aI]at M;subst M;simp only[mM,Option.some.injEq]at h;subst h;exact⟨cx,rfl,hx⟩
 |y::ys,cs,x,r,cx,hx,M,h=>by
  simp only[aI]at M;obtain⟨cy,O,rfl,hy,M⟩:=M;simp only[mM]at h;split at h
  .rename_i z hz;obtain⟨cz,h1,h2⟩:=hfg _ _ _ _ _ hx hy hz;obtain⟨v,U,Y⟩:=sE hfg h2 M h;exact⟨v,by simp[List.foldlM,h1,U],Y⟩
  .cases h
theorem Lu (a b r:AV)(ca cb:Value)(ha:aF G a ca)(hb:aF G b cb)(h:tY a b=some r):∃ v,(Builtin.max2 ca cb).run P w=.ok v w/\aF G r v:=by
 unfold tY at h;split at h
 .simp only[aF]at ha hb;subst ha;subst hb;cases h;exact⟨_,rfl,by simp only[aF]⟩
 .cases h
theorem Lv (a b r:AV)(ca cb:Value)(ha:aF G a ca)(hb:aF G b cb)(h:Bt a b=some r):∃ v,(Builtin.min2 ca cb).run P w=.ok v w/\aF G r v:=by
 unfold Bt at h;split at h
 .simp only[aF]at ha hb;subst ha;subst hb;cases h;exact⟨_,rfl,by simp only[aF]⟩
 .cases h
theorem vI:∀{xs:List AV}{l:List UInt8}{us:List Value},aI G xs us->bytesOf xs=some l->∃ ns:List Int,us=ns.map (Value.int .u8)/\l=ns.map fun n=>UInt8.ofNat n.toNat
 |[],l,us,h,e=>by
  simp only[aI]at h;subst h;simp[bytesOf]at e;subst e;exact⟨[],rfl,rfl⟩
 |x::xs,l,us,h,e=>by
  simp only[aI]at h;obtain⟨u,M,rfl,hu,h⟩:=h;unfold bytesOf at e;split at e
  .rename_i heq;cases heq
  .rename_i n r heq;cases heq;split at e
   .rename_i l' hl;cases e;obtain⟨ns,rfl,rfl⟩:=vI h hl;simp only[aF]at hu;subst hu;exact⟨n::ns,rfl,rfl⟩
   .cases e
  .cases e
theorem Ep (ns:List Int):∀(acc:ByteArray),(forIn (ns.map (Value.int .u8)) acc fun (c:Value) (__s:ByteArray)=>
   match c with
   |Value.int IntKind.u8 n=>(pure (ForInStep.yield (__s.push (UInt8.ofNat n.toNat))):Sem (ForInStep ByteArray))
   |_=>do
    stuck "bytesToString: byte expected"
    pure (ForInStep.yield __s)).run P w=Result.ok (⟨⟨acc.data.toList++ns.map fun n=>UInt8.ofNat n.toNat⟩⟩:ByteArray) w:=by
 induction ns with
 |nil=>intro acc;simp
 |cons n ns ih=>
  intro acc;rw[List.map_cons,List.forIn_cons];simp only[Sem.run_bind,Sem.run_pure,Result.andThen_ok];rw[ih];simp[ByteArray.push]
theorem bA.one_list {us:List Value}{xs:List AV}(h:bA G (fun i=>us[i]?) 1 0 xs)(hl:us.length=xs.length*1)(hna:∀ x ∈ xs,∀ cs,x≠.agg cs)(hnu:∀ x ∈ xs,x≠.unk):aI G xs us:=by
 refine aI.of_get om fun i x v O hv=>?_;obtain⟨u,h1,h2,U⟩:=h.get O;have M:x ∈ xs:=List.mem_of_getElem? O;have Y:=h1.not_agg (hna x M) (hnu x M);have:=U 0 (by rw[h2];omega);simp only[Nat.zero_add,Nat.mul_one,Nat.add_zero,Y]at this;rw[hv]at this;simp at this;rw[this];exact h1
theorem He {xs:List AV}{l:List UInt8}(h:bytesOf xs=some l):∀ x ∈ xs,∃ n,x=.int .u8 n:=by
 induction xs generalizing l with
 |nil=>simp
 |cons x xs ih=>
  intro y M;unfold bytesOf at h;split at h
  .rename_i heq;cases heq
  .rename_i n r heq;cases heq;split at h
   .rename_i l' hl;simp at M;rcases M with rfl | M
    .exact⟨n,rfl⟩
    .exact ih hl y M
   .cases h
  .cases h
theorem Ar {s d:TypeId}{a x:AV}{ca:Value}(hR:eO w0 B K G w)(ha:aF G a ca)(hm:(lD P s d a).runK n K=some (x,n',K')) :
  (n'=n/\K'=K)/\∃ v,(convert s d ca).run P w=.ok v w/\aF G x v:=by
 unfold lD at hm;split at hm
 .rename_i u1 k kk m h1 h2;simp only[aF]at ha;subst ha;simp only[AM.runK,Option.some.injEq,Prod.mk.injEq]at hm;obtain⟨rfl,rfl,rfl⟩:=hm;refine⟨⟨rfl,rfl⟩,.int k (k.wrap m),?_,by simp only[aF]⟩;simp[convert,Ez.run_underlying h1,Ez.run_underlying h2,Conv.intToInt]
 .rename_i u1 kk m h1 h2;simp only[aF]at ha;subst ha;simp only[AM.runK,Option.some.injEq,Prod.mk.injEq]at hm;obtain⟨rfl,rfl,rfl⟩:=hm;refine⟨⟨rfl,rfl⟩,.string (Utf8.encode m),?_,by simp only[aF]⟩;simp[convert,Ez.run_underlying h1,Ez.run_underlying h2,Conv.intToString]
 .rename_i u1 str h1 h2;simp only[aF]at ha;subst ha;simp only[AM.runK,Option.some.injEq,Prod.mk.injEq]at hm;obtain⟨rfl,rfl,rfl⟩:=hm;refine⟨⟨rfl,rfl⟩,.string ⟨⟨str⟩⟩,?_,by simp only[aF]⟩;simp[convert,Ez.run_underlying h1,Ez.run_underlying h2]
 .rename_i a _ _ _ e h1 h2 _ _;split at hm
  .rename_i he;cases hsl:Zp a with
   |false=>rw[hsl]at hm;simp[AM.runK]at hm
   |true=>
   rw[hsl]at hm;simp only[Bool.not_true,cond_false]at hm;rw[qCY]at hm;cases hn:(nV a 1).runK n K with
   |none=>rw[hn]at hm;cases hm
   |some r=>
    obtain⟨xs,n1,K1⟩:=r;rw[hn]at hm;simp only[Option.bind_some]at hm;obtain⟨⟨e1,e2⟩,O,us,U,Y,hE⟩:=vP (P:=P) hR ha hn;rw[e1,e2]at hm;split at hm
    .rename_i l hl;simp only[AM.runK,Option.some.injEq,Prod.mk.injEq]at hm;obtain⟨rfl,rfl,rfl⟩:=hm;have M:=He hl;have hL:=bA.one_list hE Y (fun x hx cs e=>by obtain⟨m,rfl⟩:=M x hx;cases e) (fun x hx e=>by obtain⟨m,rfl⟩:=M x hx;cases e);obtain⟨ns,rfl,rfl⟩:=vI hL hl;refine⟨⟨rfl,rfl⟩,.string ⟨⟨ns.map fun n=>UInt8.ofNat n.toNat⟩⟩,?_,by simp only[aF]⟩;have conv:(convert s d ca).run P w=(Conv.bytesToString ca).run P w:=by
      rw[convert];simp only[Sem.run_bind,Ez.run_underlying h1,Ez.run_underlying h2,Result.andThen_ok];cases a<;>simp[Zp]at hsl<;>simp only[aF]at ha
      .subst ha;simp[Ez.run_underlying he]
      .obtain⟨_,_,_,rfl,_⟩:=ha;simp[Ez.run_underlying he]
      .obtain⟨_,_,_,_,_,rfl,_⟩:=ha;simp[Ez.run_underlying he]
     rw[conv];have loop:∀(len c:Nat) (ad:Addr),ca=.slice (some ad) len c->(Conv.bytesToString ca).run P w=.ok (.string ⟨⟨ns.map fun n=>UInt8.ofNat n.toNat⟩⟩) w:=by
      rintro len c ad rfl;simp only[Builtin.firstCells,Nat.mul_one]at U;have a1:len=xs.length:=(by simpa [Builtin.lenOf]using O);simp only[Conv.bytesToString,Sem.run_bind,a1,U,Result.andThen_ok,<- Array.forIn_toList];refine(congrArg (fun r=>Result.andThen r fun (a:ByteArray) w'=>Sem.run P (pure (Value.string a)) w') (Ep (P:=P) (w:=w) ns ByteArray.empty)).trans ?_;simp[ByteArray.empty,ByteArray.emptyWithCapacity]
      rfl
     cases a<;>simp[Zp]at hsl<;>simp only[aF]at ha
     .subst ha;have a2:xs.length=0:=(by simpa [Builtin.lenOf]using O.symm);have:ns=[]:=List.eq_nil_of_length_eq_zero (by simpa [a2]using Y);subst this;simp[Conv.bytesToString,ByteArray.empty,ByteArray.emptyWithCapacity]
      rfl
     .obtain⟨_,_,_,rfl,_⟩:=ha;exact loop _ _ _ rfl
     .obtain⟨_,_,_,_,_,rfl,_⟩:=ha;exact loop _ _ _ rfl
    .simp only[AM.runK]at hm;cases hm
  .simp only[AM.runK]at hm;cases hm
 .simp only[AM.runK]at hm;cases hm
def vF (G:Gh):List (Nat×AV)->List (Nat×Value)->Prop
 |[],l=>l=[]
 |(i,x)::r,l=>∃ v l',l=(i,v)::l'/\aF G x v/\vF G r l'
theorem Fu (off:Nat):∀(vs:List Value) (i:Nat) (us:Array Value),off+i+vs.length<=us.size->
  ((vs.zipIdx i).foldl (fun cs (p:Value×Nat)=>cs.setIfInBounds (off+p.2) p.1) us).toList=zD us.toList (off+i) vs
 |[],i,us,_=>by simp[zD]
 |v::vs,i,us,h=>by
  simp only[List.zipIdx_cons,List.foldl_cons];have U:off+i<us.toList.length:=(by simp at h ⊢;omega);rw[Fu off vs (i+1) (us.setIfInBounds (off+i) v) (by simp at h ⊢;omega)];simp only[zD,Array.toList_setIfInBounds,List.length_cons];rw[show off+(i+1)=off+i+1 from by omega,List.take_set,List.drop_set];have M:List.take (off+i+1) us.toList=List.take (off+i) us.toList++[us.toList[off+i]]:=by
   rw[List.take_succ_eq_append_getElem U]
  rw[if_pos om,show off+i+(vs.length+1)=off+i+1+vs.length from by omega,M,List.set_append];have O:(List.take (off+i) us.toList).length=off+i:=(by rw[List.length_take];omega);simp[O]
theorem Ba (off:Nat)(vs us:Array Value)(h:off+vs.size<=us.size) :
  (vs.zipIdx.foldl (fun cs (c,j)=>cs.setIfInBounds (off+j) c) us).toList=zD us.toList off vs.toList:=by
 have:=Fu off vs.toList 0 us (by simpa using h);rw[<- Array.foldl_toList,Array.toList_zipIdx];simpa using this
theorem sD {place:Nat->Option (Nat×Nat)}:∀{parts:List (Nat×AV)}{ps:List (Nat×Value)}{cs ds:List AV}{us:Array Value},vF G parts ps->aI G cs us.toList->
  gW place cs parts=some ds->∃ us',Instr.fill place us ps=some us'/\aI G ds us'.toList
 |[],ps,cs,ds,us,hp,hc,h=>by
  simp only[vF]at hp;subst hp;simp only[gW,Option.some.injEq]at h;subst h;exact⟨us,rfl,hc⟩
 |(i,x)::r,ps,cs,ds,us,hp,hc,h=>by
  simp only[vF]at hp;obtain⟨v,l',rfl,hv,hp⟩:=hp;simp only[gW]at h;split at h
  .rename_i off size hpl;cases hw:(x.whole&&x.cells.length==size) with
   |false=>rw[hw]at h;cases h
   |true=>
    rw[hw]at h;simp only[cond_true]at h;rw[Bool.and_eq_true,beq_iff_eq]at hw;split at h
    .rename_i cs' hs;have M:=hv.cellsL (qBD hw.1);obtain⟨h1,h2⟩:=uW hs hc M;have U:v.cells.size=size:=(by have:=M.length;rw[hw.2]at this;simpa using this.symm);have O:off+v.cells.size<=us.size:=(by simpa using h2);have Y:=Ba off v.cells us O;obtain⟨us',h4,h5⟩:=sD (us:=v.cells.zipIdx.foldl (fun cs (c,j)=>cs.setIfInBounds (off+j) c) us) hp (by rw[Y];exact h1) h;refine⟨us',?_,h5⟩;simp only[Instr.fill,hpl];have c1:(v.cells.size≠size || off+v.cells.size>us.size)=false:=by
      simp[U]<;>omega
     simp only[U,ne_eq,not_true_eq_false,decide_false,Bool.false_or,decide_eq_true_eq];rw[if_neg om];exact h4
    .cases h
  .cases h
theorem wJ:∀{fs:List Field}{l:List (Nat×Nat)},placesOf P fs=some l->
  (fs.mapM fun f=>do pure (f.offset,<- sizeOf f.type):Sem (List (Nat×Nat))).run P w=.ok l w
 |[],l,h=>by simp[placesOf]at h;subst h;rfl
 |f::fs,l,h=>by
  simp only[placesOf]at h;split at h
  .rename_i k l' h1 h2;cases h;have M:=wJ h2;simp only[List.mapM_cons,Sem.run_bind,run_sizeOf h1,Result.andThen_ok,Sem.run_pure,M]
  .cases h
theorem oP {t:TypeId}{z:AV}(h:bK P t=some z):∃ v,(zeroValue t).run P w=.ok v w/\aF G z v/\aI G z.cells v.cells.toList:=by
 obtain⟨v,h1,h2⟩:=oJ (P:=P) (w:=w) (G:=G) h;refine⟨v,h1,h2,h2.cellsL ?_⟩;rintro rfl;unfold bK at h;split at h
 .split at h
  .rename_i v' _;unfold Ca at h;split at h
   .split at h<;>cases h
   .unfold Cb at h;split at h<;>cases h
  .cases h
 .cases h
theorem Hd {t:TypeId}{parts:List (Nat×AV)}{ps:Array (Nat×Value)}{x:AV}(hp:vF G parts ps.toList)(h:gQ P t parts=some x) :
  ∃ v,(Instr.build t ps).run P w=.ok v w/\aF G x v:=by
 unfold gQ at h;split at h
 .rename_i z fs hz hd;split at h
  .rename_i l hl;cases hf:gW (l[·]?) z.cells parts with
   |none=>rw[hf]at h;cases h
   |some ds=>
    rw[hf]at h;simp at h;subst h;obtain⟨v,h1,h2,U⟩:=oP (P:=P) (w:=w) (G:=G) hz;obtain⟨M,Y,h5⟩:=sD hp U hf;refine⟨.agg M,?_,by simp only[aF];exact⟨M,rfl,h5⟩⟩;have a1:=wJ (w:=w) hl;have O:(fs.mapM fun f=>do pure (f.offset,<- sizeOf f.type):Sem (Array (Nat×Nat))).run P w=.ok l.toArray w:=by
     rw[Array.mapM_eq_mapM_toList];simp only[Sem.run_map,a1,Result.andThen_ok]
    simp only[Instr.build,Sem.run_bind,h1,Result.andThen_ok,Ez.run_underlying hd,O];simp only[List.getElem?_toArray];rw[Y]
    rfl
  .cases h
 .rename_i z k e hz hd;split at h
  .rename_i size hs;cases hf:gW (fun i=>some (i*size,size)) z.cells parts with
   |none=>rw[hf]at h;cases h
   |some ds=>
    rw[hf]at h;simp at h;subst h;obtain⟨v,h1,h2,U⟩:=oP (P:=P) (w:=w) (G:=G) hz;obtain⟨M,Y,h5⟩:=sD hp U hf;refine⟨.agg M,?_,by simp only[aF];exact⟨M,rfl,h5⟩⟩;simp only[Instr.build,Sem.run_bind,h1,Result.andThen_ok,Ez.run_underlying hd,run_sizeOf hs];rw[Y]
    rfl
  .cases h
 .cases h
theorem rO {z:AV}{v:Value}{es:Nat}(hv:aF G z v)(hw:z.whole=true)(hl:z.cells.length=es)(len:Nat) :
  bA G (fun i=>((List.range (len*es)).map fun j=>v.cells[j % v.cells.size]!)[i]?) es 0 (List.replicate len z)/\v.cells.size=es:=by
 have U:=hv.cellsL (qBD hw);have M:v.cells.size=es:=(by have:=U.length;rw[hl]at this;simpa using this.symm);refine⟨bA.of_get fun k x O=>?_,M⟩;rw[List.getElem?_replicate]at O;split at O
 .rename_i hk;cases O;refine⟨v,hv,M,fun j hj=>?_⟩;have Y:k*es+j<len*es:=by
   have:(k+1)*es<=len*es:=Nat.mul_le_mul_right es hk;rw[Nat.add_mul]at this;omega
  simp only[Nat.zero_add,List.getElem?_map,List.getElem?_range Y,Option.map_some]
  congr 1
  rw[M,Nat.mul_comm,Nat.mul_add_mod,Nat.mod_eq_of_lt om];simp[hj]
 .cases O
theorem rJ {es:Nat}{agg:Bool}(hpos:0<es):∀{parts:List (Nat×AV)}{ps:List (Nat×Value)}{xs ys:List AV}{us:Array Value},vF G parts ps->
  bA G (fun i=>us[i]?) es 0 xs->us.size=xs.length*es->(∀ x ∈ xs,x≠.unk)->jA es agg xs parts=some ys->
  ∃ us',Instr.fill (fun i=>some (i*es,es)) us ps=some us'/\bA G (fun i=>us'[i]?) es 0 ys/\us'.size=us.size/\ys.length=xs.length
 |[],ps,xs,ys,us,hp,hE,hl,hu,h=>by
  simp only[vF]at hp;subst hp;simp only[jA,Option.some.injEq]at h;subst h;exact⟨us,rfl,hE,rfl,rfl⟩
 |(i,x)::r,ps,xs,ys,us,hp,hE,hl,hu,h=>by
  simp only[vF]at hp;obtain⟨v,_,rfl,hv,hp⟩:=hp;simp only[jA]at h;cases hc:(x.whole&&x.cells.length==es&&oV agg x&&Nat.blt i xs.length) with
  |false=>rw[hc]at h;cases h
  |true=>
   rw[hc]at h;simp only[cond_true]at h;simp only[Bool.and_eq_true,beq_iff_eq,kG]at hc;obtain⟨⟨⟨h1,h2⟩,_⟩,h4⟩:=hc;have a4:=hv.cellsL (qBD h1);have Y:v.cells.size=es:=(by have:=a4.length;rw[h2]at this;simpa using this.symm);have a5:i*es+es<=xs.length*es:=by
    have:(i+1)*es<=xs.length*es:=Nat.mul_le_mul_right es h4;rw[Nat.add_mul]at this;omega
   have M:i*es+v.cells.size<=us.size:=om;have h3:=Ba (i*es) v.cells us M;have U:(v.cells.zipIdx.foldl (fun cs (c,j)=>cs.setIfInBounds (i*es+j) c) us).size=us.size:=by
    rw[<- Array.length_toList,h3,kN _ _ _ (by simpa using M)];simp
   have a3:bA G (fun j=>(v.cells.zipIdx.foldl (fun cs (c,j)=>cs.setIfInBounds (i*es+j) c) us)[j]?) es 0 (xs.set i x):=by
    refine bA.of_get fun k y O=>?_;rw[List.getElem?_set]at O;by_cases e:i=k
    .subst e;simp only[if_true,h4]at O;cases O;refine⟨v,hv,Y,fun j hj=>?_⟩;rw[<- Array.getElem?_toList,h3,lL _ _ _ _ (by simpa using M),if_pos (by simp<;>omega)];rw[show 0+i*es+j-i*es=j from by omega];simp[hj]
    .simp only[e,if_false]at O;obtain⟨u,g1,g2,g3⟩:=hE.get O;refine⟨u,g1,g2,fun j hj=>?_⟩;have g4:=g3 j hj;rw[<- Array.getElem?_toList,h3,lL _ _ _ _ (by simpa using M),if_neg]
     .simpa using g4
     .rintro ⟨a1,a2⟩;simp at a2;rcases Nat.lt_or_ge k i with h5 | h5
      .have:(k+1)*es<=i*es:=Nat.mul_le_mul_right es h5;rw[Nat.add_mul]at this;omega
      .have:(i+1)*es<=k*es:=Nat.mul_le_mul_right es om;rw[Nat.add_mul]at this;omega
   obtain⟨us',k1,k2,k3,k4⟩:=rJ hpos hp a3 (by rw[U];simpa using hl) (fun y O=>by
    rcases List.mem_or_eq_of_mem_set O with O | rfl
    .exact hu y O
    .exact qBD h1) h
   refine⟨us',?_,k2,by rw[k3,U],by simpa using k4⟩;simp only[Instr.fill,Y,ne_eq,not_true_eq_false,decide_false,Bool.false_or,decide_eq_true_eq];rw[if_neg om];exact k1
theorem vH {t:TypeId}{len:Nat}{parts:List (Nat×AV)}{ps:Array (Nat×Value)}{x:AV}(hR:eO w0 B K G w)(hp:vF G parts ps.toList)
  (hm:(bU P t len parts).runK n K=some (x,n',K')) :
  ∃ G' v w',(Instr.buildSlice t len ps).run P w=.ok v w'/\eU G G' n n'/\eO w0 B K' G' w'/\aF G' x v:=by
 unfold bU at hm;split at hm
 .rename_i e hte;split at hm
  .rename_i es agg z hes hag hz;replace hm:=eC hm;obtain⟨hb,hm⟩:=hm;simp only[Bool.and_eq_true,jT,beq_iff_eq,Bool.not_eq_true',beq_eq_false_iff_ne]at hb;obtain⟨⟨⟨⟨h1,h2⟩,h3⟩,h4⟩,_⟩:=hb;have a1:0<es:=Nat.pos_of_ne_zero h2;split at hm
   .rename_i xs hx;simp only[AM.runK,Option.some.injEq,Prod.mk.injEq]at hm;obtain⟨rfl,rfl,rfl⟩:=hm;obtain⟨zv,k1,k2,k3⟩:=oP (P:=P) (w:=w) (G:=G) hz;obtain⟨k4,k5⟩:=rO k2 h4 h3 len
    let base:Array Value:=(Array.range (len*es)).map fun j=>zv.cells[j % zv.cells.size]!
    have U:base.toList=(List.range (len*es)).map fun j=>zv.cells[j % zv.cells.size]!:=(by simp[base]);have a2:bA G (fun i=>base[i]?) es 0 (List.replicate len z):=by
     refine bA.mono G.le_refl (fun i v hv=>?_) es 0 _ k4;rw[<- Array.getElem?_toList,U];exact hv
    obtain⟨Y,f1,f2,f3,f4⟩:=rJ a1 hp a2 (by simp[base]) (fun y hy=>by rw[List.eq_of_mem_replicate hy];exact qBD h4) hx;have O:xs.length=len:=(by simpa using f4);obtain⟨g1,g2⟩:=hR.lay Y e (0,0) n n;refine⟨_,.slice (some ⟨w.heap.size,0,none⟩) len len,_,?_,g1,g2,?_⟩
    .have hc:¬(len*es>2 ^ 24):=om;simp only[Instr.buildSlice,Sem.run_bind,Ez.run_underlying (sX hte),Result.andThen_ok,run_sizeOf hes,hc,if_false];by_cases h0:len*es=0
     .have a3:len=0:=by
       rcases Nat.mul_eq_zero.1 h0 with h | h<;>omega
      have M:Instr.fill (fun i=>some (i*es,es)) ((Array.range (len*es)).map fun x=>(#[]:Array Value)[x % (#[]:Array Value).size]!) ps.toList=some Y:=by
       rw[<- f1]
       congr 1
       simp[base,h0]
      rw[h0]at M;simp only[h0,if_true,Sem.run_bind,Sem.run_pure,Result.andThen_ok,M,newRow,run_newObj]
     .simp only[h0,if_false,Sem.run_bind,k1,Result.andThen_ok,Sem.run_pure];rw[show Instr.fill (fun i=>some (i*es,es)) ((Array.range (len*es)).map fun x=>zv.cells[x % zv.cells.size]!) ps.toList=some Y from f1];simp[newRow]
    .simp only[aF];refine⟨w.heap.size,0,len,by rw[O],by omega,fun _=>O.symm,?_⟩;refine bA.mono g1.le (fun i v hv=>?_) es 0 xs f2;simpa using hv
   .simp only[AM.runK]at hm;cases hm
  .simp only[AM.runK]at hm;cases hm
 .simp only[AM.runK]at hm;cases hm
theorem wrap_i64 {c:Nat}(h:c<=9223372036854775807):IntKind.i64.wrap (c:Int)=c:=by
 simp[IntKind.wrap,IntKind.bits,IntKind.signed]<;>omega
theorem xZ {t:TypeId}{l c x:AV}{cl cc:Value}(hR:eO w0 B K G w)(hF:nS G n n')(h1:aF G l cl)(h2:aF G c cc)
  (hm:(kJ P t l c).runK n K=some (x,n',K')) :
  ∃ G' v w',(Instr.makeSlice t cl cc).run P w=.ok v w'/\eU G G' n n'/\eO w0 B K' G' w'/\aF G' x v:=by
 unfold kJ at hm;split at hm
 .rename_i e l c hte;split at hm
  .rename_i es bytes agg z hes hby hag hz;replace hm:=eC hm;obtain⟨hb,hm⟩:=hm;simp only[Bool.and_eq_true,jT,beq_iff_eq,Bool.not_eq_true',beq_eq_false_iff_ne]at hb;obtain⟨⟨⟨⟨⟨⟨q1,q2⟩,q3⟩,q4⟩,q5⟩,q6⟩,_⟩:=hb;have U:0<es:=Nat.pos_of_ne_zero q4;simp only[AM.runK,Option.some.injEq,Prod.mk.injEq]at hm;obtain⟨rfl,rfl,rfl⟩:=hm;simp only[aF]at h1 h2;subst h1;subst h2;obtain⟨f1,f2,f3⟩:=yS q3;obtain⟨i,hi,a3⟩:=wT hby
   obtain⟨Y,k1,k2,k3⟩:=oP (P:=P) (w:=w) (G:=G) hz;obtain⟨k4,k5⟩:=rO k2 q6 q5 c
   let base:Array Value:=(Array.range (c*es)).map fun j=>Y.cells[j % Y.cells.size]!
   have M:base.toList=(List.range (c*es)).map fun j=>Y.cells[j % Y.cells.size]!:=(by simp[base]);have a2:base.size=c*es:=by simp[base]
   let I:lR:={blk:=w.heap.size,dl:=0,ln:=c,es,bs:=c*es}
   have O:=hF n (Nat.le_refl _) om;have a4:G.le {G with nm:=fun p=>if p=n then some I else G.nm p}:=by
    refine⟨fun p L hL=>?_,fun _ _ _ h=>h⟩;by_cases ee:p=n
    .subst ee;rw[O]at hL;cases hL
    .simp only[ee,if_false];exact hL
   obtain⟨g1,g2⟩:=hR.make (n:=n) (y:=.arr es (List.replicate c z)) (ob:=.cells base e) I rfl O (by
    simp only[cK];rw[a2];refine⟨rfl,by simp[I],rfl,U,by simp[I],?_,.inl rfl⟩;refine bA.mono a4 (fun i v hv=>?_) es _ _ k4;rw[<- Array.getElem?_toList,M];exact hv)
   have a5:c<=9223372036854775807:=q2;have e1:IntKind.i64.wrap (c:Int)=(c:Int):=wrap_i64 q2;have e2:IntKind.i64.wrap (l:Int)=(l:Int):=wrap_i64 om;refine⟨_,.slice (some ⟨w.heap.size,0,none⟩) l c,_,?_,g1,g2,?_⟩
   .have t1:((c:Int)<0 || decide ((bytes:Int)*(c:Int)>2 ^ 48))=false:=by
     have:(bytes:Int)*(c:Int)<=2 ^ 48:=by
      have:((bytes*c:Nat):Int)<=2 ^ 48:=(by rw[Nat.mul_comm];omega);simpa using this
     simp<;>omega
    simp only[Instr.makeSlice,Sem.run_bind,Ez.run_underlying (sX hte),Result.andThen_ok,asInt,asIntOf,Sem.run_pure,run_typeInfo hi,a3];simp only[Int.ofNat_eq_natCast,e1,e2,t1];have t2:(false || decide ((l:Int)<0) || decide ((l:Int)>(c:Int)))=false:=(by simp<;>omega);rw[t2];simp only[Bool.false_eq_true,if_false,Sem.run_bind,Sem.run_pure,Result.andThen_ok,run_askRoom,Int.toNat_natCast,run_sizeOf hes];by_cases h0:c*es=0
    .have a6:c=0:=by
      rcases Nat.mul_eq_zero.1 h0 with h | h<;>omega
     simp only[h0,if_true,Sem.run_bind,Sem.run_pure,Result.andThen_ok,newRow,run_newObj];have a1:base=(Array.range 0).map fun x=>(#[]:Array Value)[x % (#[]:Array Value).size]!:=by
      apply Array.ext';simp[base,h0]
     rw[a1]
    .simp[h0,k1,newRow,base]
   .simp only[aF];exact⟨I,w.heap.size,0,c,by simp,rfl,fun _=>⟨rfl,by simp[I]⟩,by simp[I];exact q1,by simp[I],by simp[I],q1⟩
  .simp only[AM.runK]at hm;cases hm
 .simp only[AM.runK]at hm;cases hm
theorem wU {a x:AV}{xt t:TypeId}{ok:Bool}{ca:Value}(ha:aF G a ca)(hm:(iA P a xt t ok).runK n K=some (x,n',K')) :
  (n'=n/\K'=K)/\∃ v,(Instr.typeAssert ca xt t ok).run P w=.ok v w/\aF G x v:=by
 have tup:∀{z:AV}{u:Value}{b:Bool},aF G z u->aF G (.tup [z,.bool b]) (.tuple #[u,.bool b]):=fun h=>by
  simp only[aF];exact⟨_,rfl,aI.cons h (aI.cons (by simp[aF]) aI.nil)⟩
 unfold iA at hm;split at hm
 .simp only[AM.runK]at hm;cases hm
 .rename_i d hni hd;simp only[aF]at ha;subst ha;cases ok with
  |false=>simp[AM.runK]at hm
  |true=>
   simp only[cond_true]at hm;split at hm
   .rename_i z hz;simp only[AM.runK,Option.some.injEq,Prod.mk.injEq]at hm;obtain⟨rfl,rfl,rfl⟩:=hm;obtain⟨u,h1,h2⟩:=oJ (P:=P) (w:=w) (G:=G) hz;refine⟨⟨rfl,rfl⟩,.tuple #[u,.bool false],?_,tup h2⟩;simp only[Instr.typeAssert,Sem.run_bind,Ez.run_underlying hd,Result.andThen_ok];cases d<;>first | exact(hni _ rfl).elim | simp[h1]
   .simp only[AM.runK]at hm;cases hm
 .rename_i d t' y hni hd;simp only[aF]at ha;obtain⟨u,rfl,hu⟩:=ha;split at hm
  .rename_i e;subst e;simp only[AM.runK,Option.some.injEq,Prod.mk.injEq]at hm;obtain⟨rfl,rfl,rfl⟩:=hm;refine⟨⟨rfl,rfl⟩,if ok then .tuple #[u,.bool true] else u,?_,?_⟩
   .simp only[Instr.typeAssert,Sem.run_bind,Ez.run_underlying hd,Result.andThen_ok];cases d<;>first | exact(hni _ rfl).elim | simp
   .cases ok with
    |true=>simpa using tup hu
    |false=>simpa using hu
  .rename_i e;cases ok with
   |false=>simp[AM.runK]at hm
   |true=>
    simp only[cond_true]at hm;split at hm
    .rename_i z hz;simp only[AM.runK,Option.some.injEq,Prod.mk.injEq]at hm;obtain⟨rfl,rfl,rfl⟩:=hm;obtain⟨v,h1,h2⟩:=oJ (P:=P) (w:=w) (G:=G) hz;refine⟨⟨rfl,rfl⟩,.tuple #[v,.bool false],?_,tup h2⟩;have M:¬t'=t:=fun h=>e (by first | exact h | exact h.symm);simp only[Instr.typeAssert,Sem.run_bind,Ez.run_underlying hd,Result.andThen_ok];cases d<;>first | exact(hni _ rfl).elim | simp[h1,M]
    .simp only[AM.runK]at hm;cases hm
 .simp only[AM.runK]at hm;cases hm
theorem Ly {it x:AV}{isS:Bool}{ci:Value}{ty:TypeId}(hR:eO w0 B K G w)(hi:aF G it ci)(hm:(Gc it isS).runK n K=some (x,n',K')) :
  n'=n/\∃ v w',(Instr.next ci isS ty).run P w=.ok v w'/\eO w0 B K' G w'/\aF G x v:=by
 unfold Gc at hm;split at hm
 .rename_i o;simp only[aF]at hi;obtain⟨I,hI,rfl⟩:=hi;simp only[AM.runK]at hm;split at hm
  .rename_i ob hK;cases ob<;>simp only[AM.runK]at hm<;>try (cases hm;done)
   rename_i s pos;obtain⟨J,U,e1,_,hb,hO⟩:=hR.obj o _ hK;obtain rfl:J=I:=Option.some.inj (e1.symm.trans hI);cases U<;>simp only[cK]at hO
   obtain⟨hd,rfl,rfl⟩:=hO;rename_i pos;cases hlt:Nat.blt pos s.length with
   |true=>
    rw[hlt]at hm;simp only[cond_true,AM.runK,hK,Option.some.injEq,Prod.mk.injEq]at hm;obtain⟨rfl,rfl,rfl⟩:=hm;have hl:=kG.1 hlt;have O:=(Array.getElem?_eq_some_iff.1 hb).1;refine⟨rfl,.tuple #[.bool true,.int .i64 pos,.int .i32 (Utf8.decode ⟨⟨s⟩⟩ pos).1],{w with heap:=w.heap.setIfInBounds J.blk (.stringIter ⟨⟨s⟩⟩ (pos+(Utf8.decode ⟨⟨s⟩⟩ pos).2))},?_,?_,?_⟩
    .have Y:(getObj J.blk).run P w=.ok (.stringIter ⟨⟨s⟩⟩ pos) w:=mA hb sm;have hs:(setObj J.blk (.stringIter ⟨⟨s⟩⟩ (pos+(Utf8.decode ⟨⟨s⟩⟩ pos).2))).run P w=.ok () {w with heap:=w.heap.setIfInBounds J.blk (.stringIter ⟨⟨s⟩⟩ (pos+(Utf8.decode ⟨⟨s⟩⟩ pos).2))}:=by
      unfold setObj Sem.run;rw[hb];rfl
     have M:pos<(⟨⟨s⟩⟩:ByteArray).size:=hl;simp[Instr.next,hd,Y,M,hs,goInt]
    .refine hR.write (ob':=.stringIter ⟨⟨s⟩⟩ (pos+(Utf8.decode ⟨⟨s⟩⟩ pos).2)) hK hI ?_ (by simp[O]) (fun c hc=>by simp[Array.getElem?_setIfInBounds,hc.symm]) sm rfl rfl rfl;simp[cK,hd]
    .simp only[aF];exact⟨_,rfl,aI.cons (by simp[aF]) (aI.cons (by simp[aF]) (aI.cons (by simp[aF]) aI.nil))⟩
   |false=>
    rw[hlt]at hm;simp only[cond_false,AM.runK,Option.some.injEq,Prod.mk.injEq]at hm;obtain⟨rfl,rfl,rfl⟩:=hm;have hl:¬pos<s.length:=fun h=>(by rw[kG.2 h]at hlt;cases hlt);refine⟨rfl,.tuple #[.bool false],w,?_,hR,?_⟩
    .have Y:(getObj J.blk).run P w=.ok (.stringIter ⟨⟨s⟩⟩ pos) w:=mA hb sm;have M:¬pos<(⟨⟨s⟩⟩:ByteArray).size:=hl;simp[Instr.next,hd,Y,M]
    .simp only[aF];exact⟨_,rfl,aI.cons (by simp[aF]) aI.nil⟩
  .cases hm
 .simp only[AM.runK]at hm;cases hm
end
def Jq (G:Gh)(d:mP)(e:Deferred):Prop:=
 match d with
 |.call (.func f) args=>∃ cap,e.target=.fn (.func f) cap/\aI G args (e.args++cap).toList
 |.call _ _=>False
 |.collected o=>∃ I,G.nm o=some I/\e.target=.collected I.blk
def tU (G:Gh):List mP->List Deferred->Prop
 |[],l=>l=[]
 |d::ds,l=>∃ e es,l=e::es/\Jq G d e/\tU G ds es
theorem Jq.mono {G G':Gh}(h:G.le G'){d:mP}{e:Deferred}(r:Jq G d e):Jq G' d e:=by
 unfold Jq at r ⊢;split at r
 .obtain⟨cap,h1,h2⟩:=r;exact⟨cap,h1,h2.mono h _ _⟩
 .exact r
 .obtain⟨I,h1,h2⟩:=r;exact⟨I,h.1 _ _ h1,h2⟩
theorem tU.mono {G G':Gh}(h:G.le G'):∀{ds:List mP}{es:List Deferred},tU G ds es->tU G' ds es
 |[],_,r=>r
 |_::_,_,⟨e,es,h1,h2,h3⟩=>⟨e,es,h1,h2.mono h,tU.mono h h3⟩
structure eT (G:Gh)(ro:Option Nat)(a:bE)(ca:Act):Prop where
 tmps:aI G a.tmps ca.tmps.toList
 defers:tU G a.defers ca.defers
 rnd:match a.rnd with
  |none=>ro=none
  |some l=>∃ I,G.nm l=some I/\ro=some I.blk
theorem eT.mono {G G':Gh}(h:G.le G'){ro:Option Nat}{a:bE}{ca:Act}(r:eT G ro a ca):eT G' ro a ca:=by
 refine⟨r.tmps.mono h _ _,r.defers.mono h,?_⟩;have:=r.rnd;split at this
 .exact this
 .obtain⟨I,h1,h2⟩:=this;exact⟨I,h.1 _ _ h1,h2⟩
theorem eT.put {G:Gh}{ro:Option Nat}{a:bE}{ca:Act}(r:eT G ro a ca)(dst:Option Tmp){x:AV}{v:Value}(h:aF G x v):eT G ro (a.put dst x) (ca.put dst v):=by
 cases dst with
 |none=>exact r
 |some d=>exact⟨by simpa [bE.put,Act.put]using r.tmps.set d h,r.defers,r.rnd⟩
section
variable {P:Program}{Gl:qC6}{w0:Base}{B:Nat}{K K':cG}{G:Gh}{w:World}{n n':Nat}{ro:Option Nat}{a:bE}{ca:Act}
theorem eT.eval (r:eT G ro a ca)(x:Operand):aF G (a.eval x) (ca.eval x):=by
 cases x with
 |tmp t=>
  simp only[bE.eval,Act.eval];have hl:=r.tmps.length;by_cases M:t<a.tmps.length
  .obtain⟨v,h1,h2⟩:=aI.get t r.tmps (List.getElem?_eq_getElem M);have O:a.tmps.getD t .undef=a.tmps[t]:=(by simp[List.getD,M]);have Y:ca.tmps[t]?=some v:=(by simpa using h1);have U:ca.tmps.getD t Go.undef=v:=(by simp[Array.getD_eq_getD_getElem?,Y]);rw[O,U];exact h2
  .have O:a.tmps.getD t .undef=.undef:=(by simp[List.getD,List.getElem?_eq_none (Nat.le_of_not_lt M)]);have hn:ca.tmps[t]?=none:=by
    have a1:a.tmps.length=ca.tmps.size:=(by simpa using hl);exact Array.getElem?_eq_none (by rw[<- a1];exact Nat.le_of_not_lt M)
   have U:ca.tmps.getD t Go.undef=Go.undef:=(by simp[Array.getD_eq_getD_getElem?,hn]);rw[O,U];simp only[aF]
 |const v=>
  simp only[bE.eval,Act.eval];cases h:Ca v with
  |none=>simp[aF]
  |some x=>simpa using Gd h
 |global g=>simp[bE.eval,Act.eval,aF]
 |func f=>simp only[bE.eval,Act.eval,aF];exact⟨.func f,#[],#[],rfl,by simp[oR],aI.nil,aI.nil⟩
theorem eT.evals (r:eT G ro a ca):∀(l:List Operand),aI G (l.map a.eval) (l.map ca.eval)
 |[]=>aI.nil
 |x::l=>aI.cons (r.eval x) (eT.evals r l)
def fB (P:Program)(w0:Base)(B:Nat)(w:World)(n n':Nat)(K K':cG)(G:Gh)(s:Sem Next):iW->Prop
 |.val x=>∃ G' v w',s.run P w=.ok (.value v) w'/\eU G G' n n'/\eO w0 B K' G' w'/\aF G' x v
 |.skip=>∃ G' w',s.run P w=.ok .skip w'/\eU G G' n n'/\eO w0 B K' G' w'
 |.enter f args=>(n'=n/\K'=K)/\∃ cargs,s.run P w=.ok (.enter f cargs) w/\aI G args cargs.toList
 |.round l args=>(n'=n/\K'=K)/\∃ I cargs,G.nm l=some I/\aI G args cargs.toList/\s.run P w=(Instr.yield I.blk cargs).run P w
 |.dfr d=>(n'=n/\K'=K)/\∃ e,s.run P w=.ok (.defer e) w/\Jq G d e
 |.pan x=>(n'=n/\K'=K)/\∃ v,s.run P w=.halt (.panic v) w/\aF G x v
 |.rcv=>(n'=n/\K'=K)/\s.run P w=.ok .recover w
theorem qCj {s:Sem Value}{m:AM AV}{r:iW}(hm:(m.bind fun x=>.ret (iW.val x)).runK n K=some (r,n',K'))
  (h:∀ x,m.runK n K=some (x,n',K')->∃ G' v w',s.run P w=.ok v w'/\eU G G' n n'/\eO w0 B K' G' w'/\aF G' x v) :
  fB P w0 B w n n' K K' G (do pure (.value (<- s))) r:=by
 rw[qCY]at hm;cases hx:m.runK n K with
 |none=>rw[hx]at hm;cases hm
 |some q=>
  obtain⟨x,n1,_⟩:=q;rw[hx]at hm;simp only[Option.bind_some,AM.runK,Option.some.injEq,Prod.mk.injEq]at hm;obtain⟨rfl,rfl,rfl⟩:=hm;obtain⟨G',v,w',h1,h2,M,O⟩:=h x hx;exact⟨G',v,w',by simp only[Sem.run_bind,h1,Result.andThen_ok,Sem.run_pure],h2,M,O⟩
theorem qBd {s:Sem Value}{m:AM AV}{r:iW}(hR:eO w0 B K G w)(hm:(m.bind fun x=>.ret (iW.val x)).runK n K=some (r,n',K'))
  (h:∀ x,m.runK n K=some (x,n',K')->(n'=n/\K'=K)/\∃ v,s.run P w=.ok v w/\aF G x v) :
  fB P w0 B w n n' K K' G (do pure (.value (<- s))) r:=by
 refine qCj hm fun x M=>?_;obtain⟨⟨rfl,rfl⟩,v,h1,h2⟩:=h x M;exact⟨G,v,w,h1,eU.refl _ _ _,hR,h2⟩
theorem qCi {s:Sem Value}{m:Option AV}{r:iW}(hR:eO w0 B K G w)(hm:((AM.ofOpt m).bind fun x=>.ret (iW.val x)).runK n K=some (r,n',K'))
  (h:∀ x,m=some x->∃ v,s.run P w=.ok v w/\aF G x v):fB P w0 B w n n' K K' G (do pure (.value (<- s))) r:=by
 refine qBd hR hm fun x M=>?_;obtain⟨h1,h2⟩:=qBB M;cases h2;exact⟨⟨rfl,rfl⟩,h x h1⟩
theorem fB.ofU {s:Sem Unit}{m:AM Unit}{r:iW}(hm:(m.bind fun _=>.ret iW.skip).runK n K=some (r,n',K'))
  (h:m.runK n K=some ((),n',K')->n'=n/\∃ w',s.run P w=.ok () w'/\eO w0 B K' G w') :
  fB P w0 B w n n' K K' G (do s;pure .skip) r:=by
 rw[qCY]at hm;cases hx:m.runK n K with
 |none=>rw[hx]at hm;cases hm
 |some q=>
  obtain⟨x,n1,_⟩:=q;rw[hx]at hm;simp only[Option.bind_some,AM.runK,Option.some.injEq,Prod.mk.injEq]at hm;obtain⟨rfl,rfl,rfl⟩:=hm;obtain⟨rfl,w',h1,h2⟩:=h hx;exact⟨G,w',by simp only[Sem.run_bind,h1,Result.andThen_ok,Sem.run_pure],eU.refl _ _ _,h2⟩
theorem kB.map (r:eT G ro a ca)(x:Option Operand):kB G (x.map a.eval) (x.map ca.eval):=by
 cases x with
 |none=>rfl
 |some x=>exact⟨_,rfl,r.eval x⟩
theorem vF.map (r:eT G ro a ca):∀(l:List (Nat×Operand)),vF G (l.map fun (i,x)=>(i,a.eval x)) (l.map fun (i,x)=>(i,ca.eval x))
 |[]=>rfl
 |(i,x)::l=>⟨_,_,rfl,r.eval x,vF.map r l⟩
theorem rY {f:FuncId}{args:List AV}{cargs:Array Value}{r:iW}(hl:aI G args cargs.toList)(hm:(aT P f args).runK n K=some (r,n',K')) :
  (∃ fn c,P.funcs[f]?=some fn/\fn.body=some c)/\r=.enter f args/\(n'=n/\K'=K)/\(callFunc f cargs).run P w=.ok (.enter f cargs) w:=by
 unfold aT at hm;split at hm
 .rename_i fn hf;split at hm
  .rename_i c hb
   cases hq : (fn.name == "runtime.NumGoroutine") with
   |true=>rw[hq]at hm;simp[AM.runK]at hm
   |false=>
    rw[hq]at hm;simp only[cond_false,AM.runK,Option.some.injEq,Prod.mk.injEq]at hm;obtain⟨rfl,rfl,rfl⟩:=hm;refine⟨⟨fn,c,hf,hb⟩,rfl,⟨rfl,rfl⟩,?_⟩
    have M : ¬ fn.name = "runtime.NumGoroutine" := by simpa using hq
    simp[callFunc,hf,M,hb]
  .simp only[AM.runK]at hm;cases hm
 .simp only[AM.runK]at hm;cases hm
theorem Ov {x:AV}{v:Value}(h:aF G x v)(hw:x.whole=true):aI G x.cells v.cells.toList:=h.cellsL (qBD hw)
theorem wF {e:TypeId}{x:AV}{v:Value}(hR:eO w0 B K G w)(hF:G.nm n=none)(hx:aF G x v)(hw:x.whole=true) :
  ∃ G',(newVar e v).run P w=.ok ⟨w.heap.size,0,none⟩ {w with heap:=w.heap.push (.cells v.cells e)}/\eU G G' n (n+1)/\
   eO w0 B (K.upd n (some (.cells x.cells))) G' {w with heap:=w.heap.push (.cells v.cells e)}/\aF G' (.ref n 0) (.pointer (some ⟨w.heap.size,0,none⟩)):=by
 let I:lR:={blk:=w.heap.size,dl:=0,ln:=0,es:=0,bs:=0}
 have O:G.le {G with nm:=fun p=>if p=n then some I else G.nm p}:=by
  refine⟨fun p L M=>?_,fun _ _ _ h=>h⟩;by_cases U:p=n
  .subst U;rw[hF]at M;cases M
  .simp only[U,if_false];exact M
 obtain⟨g1,g2⟩:=hR.make (n:=n) (y:=.cells x.cells) (ob:=.cells v.cells e) I rfl hF (by
  simp only[cK];exact⟨by simp[I],(Ov hx hw).mono O _ _,.inl rfl⟩)
 exact⟨_,by simp[newVar,newRow],g1,g2,by simp only[aF];exact⟨I,by simp,by simp[I]⟩⟩
set_option maxHeartbeats 1000000 in
theorem nN {o : Oper}{r : iW} (hR : eO w0 B K G w) (hF : nS G n n') (hG : Pg G Gl) (hA : eT G ro a ca) (hm : (fF P Gl a.eval o).runK n K = some (r, n', K')) :
    fB P w0 B w n n' K K' G (execOp ca.eval o) r := by
  unfold fF at hm
  unfold execOp
  cases ho : o.op <;> simp only [ho] at hm ⊢
  case move x =>
    simp only [AM.runK, Option.some.injEq, Prod.mk.injEq] at hm
    obtain ⟨rfl, rfl, rfl⟩ := hm
    exact ⟨G, _, w, rfl, eU.refl _ _ _, hR, hA.eval x⟩
  case assign x =>
    simp only [AM.runK, Option.some.injEq, Prod.mk.injEq] at hm
    obtain ⟨rfl, rfl, rfl⟩ := hm
    exact ⟨G, _, w, rfl, eU.refl _ _ _, hR, hA.eval x⟩
  case pick c x y =>
    split at hm
    . rename_i t ht
      simp only [AM.runK, Option.some.injEq, Prod.mk.injEq] at hm
      obtain ⟨rfl, rfl, rfl⟩ := hm
      have hc := hA.eval c
      rw [ht] at hc
      simp only [aF] at hc
      refine ⟨G, if t then ca.eval x else ca.eval y, w, by simp [hc, asBool], eU.refl _ _ _, hR, ?_⟩
      cases t
      . exact hA.eval y
      . exact hA.eval x
    . simp only [AM.runK] at hm; cases hm
  case alloc e =>
    split at hm
    . rename_i z hz
      replace hm := eC hm
      obtain ⟨hw, hm⟩ := hm
      simp only [AM.runK, Option.some.injEq, Prod.mk.injEq] at hm
      obtain ⟨rfl, rfl, rfl⟩ := hm
      obtain ⟨v, h1, h2, _⟩ := oP (P := P) (w := w) (G := G) hz
      obtain ⟨G', g1, g2, g3, g4⟩ := wF (P := P) (e := e) (n := n) hR (hF n (Nat.le_refl _) om) h2 hw
      exact ⟨G', _, _, by simp only [Instr.alloc, Sem.run_bind, h1, Result.andThen_ok, g1, Sem.run_pure], g2, g3, g4⟩
    . simp only [AM.runK] at hm; cases hm
  case box e x =>
    replace hm := eC hm
    obtain ⟨hw, hm⟩ := hm
    simp only [AM.runK, Option.some.injEq, Prod.mk.injEq] at hm
    obtain ⟨rfl, rfl, rfl⟩ := hm
    obtain ⟨G', g1, g2, g3, g4⟩ := wF (P := P) (e := e) (n := n) hR (hF n (Nat.le_refl _) om) (hA.eval x) hw
    exact ⟨G', _, _, by simp only [Instr.box, Sem.run_bind, g1, Result.andThen_ok, Sem.run_pure], g2, g3, g4⟩
  case build t parts => exact qCi hR hm fun x O => Hd (by simpa using vF.map hA parts.toList) O
  case buildSlice t len parts => exact qCj hm fun x O => vH hR (by simpa using vF.map hA parts.toList) O
  case load t x => exact qBd hR hm fun y U => yY hR hG (hA.eval x) U
  case store t x y => exact fB.ofU hm fun h => Iz hR (hA.eval x) (hA.eval y) h
  case nilCheck x =>
    have O := hA.eval x
    split at hm
    . rename_i p i hp
      rw [hp] at O
      simp only [AM.runK, Option.some.injEq, Prod.mk.injEq] at hm
      obtain ⟨rfl, rfl, rfl⟩ := hm
      have Y := O
      simp only [aF] at O
      obtain ⟨I, hI, O⟩ := O
      rw [O] at Y ⊢
      exact ⟨G, _, w, rfl, eU.refl _ _ _, hR, Y⟩
    . rename_i p i hp
      rw [hp] at O
      simp only [AM.runK, Option.some.injEq, Prod.mk.injEq] at hm
      obtain ⟨rfl, rfl, rfl⟩ := hm
      have Y := O
      simp only [aF] at O
      rw [O] at Y ⊢
      exact ⟨G, _, w, rfl, eU.refl _ _ _, hR, Y⟩
    . rename_i xs es i hp
      rw [hp] at O
      simp only [AM.runK, Option.some.injEq, Prod.mk.injEq] at hm
      obtain ⟨rfl, rfl, rfl⟩ := hm
      have Y := O
      simp only [aF] at O
      obtain ⟨b, off, O, _⟩ := O
      rw [O] at Y ⊢
      exact ⟨G, _, w, rfl, eU.refl _ _ _, hR, Y⟩
    all_goals first
      | (rename_i hp
         rw [hp] at O
         simp only [AM.runK, Option.some.injEq, Prod.mk.injEq] at hm
         obtain ⟨rfl, rfl, rfl⟩ := hm
         simp only [aF] at O
         rw [O]
         exact ⟨⟨rfl, rfl⟩, _, rfl, by simp only [aF]; exact ⟨_, rfl, rfl⟩⟩)
      | (simp only [AM.runK] at hm; cases hm; done)
  case binOp op t x y u => exact qCi hR hm fun z hz => Hc (hA.eval x) (hA.eval y) hz
  case unOp op t x => exact qCi hR hm fun z hz => Nv (hA.eval x) hz
  case convert s d x => exact qBd hR hm fun y U => Ar hR (hA.eval x) U
  case makeInterface t x =>
    split at hm
    . simp only [AM.runK] at hm; cases hm
    . simp only [AM.runK] at hm; cases hm
    . rename_i d hd hni
      simp only [AM.runK, Option.some.injEq, Prod.mk.injEq] at hm
      obtain ⟨rfl, rfl, rfl⟩ := hm
      refine ⟨G, .iface t (ca.eval x), w, ?_, eU.refl _ _ _, hR, by simp only [aF]; exact ⟨_, rfl, hA.eval x⟩⟩
      first
        | (simp only [Instr.makeInterface, Sem.run_bind, Ez.run_underlying hni, Result.andThen_ok]
           cases d <;> first | exact (hd _ rfl).elim | rfl)
        | (simp only [Instr.makeInterface, Sem.run_bind, Ez.run_underlying hd, Result.andThen_ok]
           cases d <;> first | exact (hni _ rfl).elim | rfl)
  case makeFunc fn first cap =>
    split at hm
    . rename_i f
      simp only [AM.runK, Option.some.injEq, Prod.mk.injEq] at hm
      obtain ⟨rfl, rfl, rfl⟩ := hm
      refine ⟨G, .func (.func f) (first.map ca.eval) (cap.map ca.eval), w, rfl, eU.refl _ _ _, hR, ?_⟩
      simp only [aF]
      exact ⟨.func f, _, _, rfl, by simp [oR], by simpa using hA.evals first.toList, by simpa using hA.evals cap.toList⟩
    . simp only [AM.runK] at hm; cases hm
  case makeMap t res =>
    have fin : r = .val (.map n) -> n' = n+1 -> K' = K.upd n (some (.map [])) -> (Instr.makeMap t (res.map ca.eval)).run P w = .ok (.map (some w.heap.size)) { w with heap := w.heap.push (.map #[] 0) } ->
        fB P w0 B w n n' K K' G (do pure (.value (<- Instr.makeMap t (res.map ca.eval)))) r := by
      rintro rfl rfl rfl a2
      let I : lR := { blk := w.heap.size, dl := 0, ln := 0, es := 0, bs := 0 }
      obtain ⟨g1, g2⟩ := hR.make (n := n) (y := .map []) (ob := .map #[] 0) I rfl (hF n (Nat.le_refl _) om) (by simp [cK, fA, Dr])
      exact ⟨_, .map (some w.heap.size), _, by simp only [Sem.run_bind, a2, Result.andThen_ok, Sem.run_pure], g1, g2, by simp only [aF]; exact ⟨I, by simp, by simp [I]⟩⟩
    split at hm
    . simp only [AM.runK, Option.some.injEq, Prod.mk.injEq] at hm
      obtain ⟨h1, h2, h3⟩ := hm
      exact fin h1.symm h2.symm h3.symm (by simp [Instr.makeMap])
    . rename_i x kt et hd
      split at hm
      . rename_i k i O
        simp only [AM.runK, Option.some.injEq, Prod.mk.injEq] at hm
        obtain ⟨h1, h2, h3⟩ := hm
        have hc := hA.eval x
        rw [O] at hc
        simp only [aF] at hc
        exact fin h1.symm h2.symm h3.symm (by simp [Instr.makeMap, hc, Ez.run_underlying hd, asInt, asIntOf])
      . simp only [AM.runK] at hm; cases hm
    . simp only [AM.runK] at hm; cases hm
  case makeSlice t l c => exact qCj hm fun x O => xZ hR hF (hA.eval l) (hA.eval c) O
  case slice t x lo hi mx => exact qBd hR hm fun y U => Iy hR (hA.eval x) (kB.map hA lo) (kB.map hA hi) (kB.map hA mx) U
  case fieldAddr s x f => exact qBd hR hm fun y U => xO (hA.eval x) U
  case field t x f => exact qBd hR hm fun y U => Hi (hA.eval x) U
  case indexAddr t x i => exact qBd hR hm fun y U => xV hR (hA.eval x) (hA.eval i) U
  case index t x i => exact qBd hR hm fun y U => Hr (hA.eval x) (hA.eval i) U
  case lookup t x i ok => exact qBd hR hm fun y U => Ej hR (hA.eval x) (hA.eval i) U
  case mapUpdate t m k v => exact fB.ofU hm fun h => pT hR (hA.eval m) (hA.eval k) (hA.eval v) h
  case insert t m k v => exact fB.ofU hm fun h => pT hR (hA.eval m) (hA.eval k) (hA.eval v) h
  case range t x =>
    split at hm
    . rename_i s hd O
      simp only [AM.runK, Option.some.injEq, Prod.mk.injEq] at hm
      obtain ⟨rfl, rfl, rfl⟩ := hm
      have hc := hA.eval x
      rw [O] at hc
      simp only [aF] at hc
      let I : lR := { blk := w.heap.size, dl := 0, ln := 0, es := 0, bs := 0 }
      obtain ⟨g1, g2⟩ := hR.make (n := n) (y := .siter s 0) (ob := .stringIter ⟨⟨s⟩⟩ 0) I rfl (hF n (Nat.le_refl _) om) (by simp [cK, I])
      refine ⟨_, .pointer (some ⟨w.heap.size, 0, none⟩), _, ?_, g1, g2, by simp only [aF]; exact ⟨I, by simp, by simp [I]⟩⟩
      simp [Instr.range, Ez.run_underlying hd, hc]
    . simp only [AM.runK] at hm; cases hm
  case next it isS =>
    refine qCj hm fun x O => ?_
    obtain ⟨rfl, v, w', h1, h2, h3⟩ := Ly (P := P) (ty := o.type) hR (hA.eval it) O
    exact ⟨G, v, w', h1, eU.refl _ _ _, h2, h3⟩
  case typeAssert x t s ok => exact qBd hR hm fun y U => wU (hA.eval x) U
  case extract t i =>
    have ht := hA.eval t
    split at hm
    . rename_i vs hv
      rw [hv] at ht
      simp only [aF] at ht
      obtain ⟨us, hu, hl⟩ := ht
      split at hm
      . rename_i x O
        simp only [AM.runK, Option.some.injEq, Prod.mk.injEq] at hm
        obtain ⟨rfl, rfl, rfl⟩ := hm
        obtain ⟨v, h1, h2⟩ := aI.get i hl O
        have a3 : us[i]? = some v := by simpa using h1
        exact ⟨G, v, w, by simp [Instr.extract, hu, a3], eU.refl _ _ _, hR, h2⟩
      . simp only [AM.runK] at hm; cases hm
    . simp only [AM.runK] at hm; cases hm
  case panic x =>
    have O := hA.eval x
    split at hm
    . rename_i t y hv
      rw [hv] at O
      simp only [AM.runK, Option.some.injEq, Prod.mk.injEq] at hm
      obtain ⟨rfl, rfl, rfl⟩ := hm
      have Y := O
      simp only [aF] at O
      obtain ⟨u, hu, _⟩ := O
      refine ⟨⟨rfl, rfl⟩, ca.eval x, ?_, Y⟩
      rw [hu]
      simp [Instr.panic]
    . simp only [AM.runK] at hm; cases hm
  case defer c =>
    split at hm
    . rename_i f hf
      have hv := hA.eval f
      split at hm
      . rename_i g first cap hg
        rw [hg] at hv
        simp only [aF] at hv
        obtain ⟨f', a', c', hv, a1, h1, h2⟩ := hv
        simp only [oR] at a1
        subst a1
        simp only [AM.runK, Option.some.injEq, Prod.mk.injEq] at hm
        obtain ⟨rfl, rfl, rfl⟩ := hm
        refine ⟨⟨rfl, rfl⟩, { target := .fn (.func g) c', args := a' ++ c.args.map ca.eval }, by simp [resolve, hf, hv, Deferred.ofValue], ?_⟩
        simp only [Jq]
        refine ⟨c', rfl, ?_⟩
        simp only [Array.toList_append, Array.toList_map]
        exact (h1.append (hA.evals c.args.toList)).append h2
      . simp only [AM.runK] at hm; cases hm
    . simp only [AM.runK] at hm; cases hm
  case call c =>
    split at hm
    . rename_i f hf
      have hv := hA.eval f
      split at hm
      . rename_i g first cap hg
        rw [hg] at hv
        simp only [aF] at hv
        obtain ⟨f', a', c', hv, a1, h1, h2⟩ := hv
        simp only [oR] at a1
        subst a1
        have hl : aI G ((first ++ c.args.toList.map a.eval) ++ cap) ((a' ++ c.args.map ca.eval) ++ c').toList := by
          simp only [Array.toList_append, Array.toList_map]
          exact (h1.append (hA.evals c.args.toList)).append h2
        obtain ⟨_, rfl, ⟨rfl, rfl⟩, a2⟩ := rY (w := w) hl hm
        refine ⟨⟨rfl, rfl⟩, _, ?_, hl⟩
        simp only [resolve, hf, hv, Deferred.ofValue, Sem.run_bind, Sem.run_pure, Result.andThen_ok, invoke]
        exact a2
      . rename_i l hg
        rw [hg] at hv
        simp only [aF] at hv
        obtain ⟨f', a', c', hv, a1, h1, h2⟩ := hv
        simp only [oR] at a1
        obtain ⟨I, hI, rfl⟩ := a1
        simp only [AM.runK, Option.some.injEq, Prod.mk.injEq] at hm
        obtain ⟨rfl, rfl, rfl⟩ := hm
        have a5 : a' = #[] := by simp only [aI] at h1; exact Array.toList_eq_nil_iff.1 h1
        subst a5
        refine ⟨⟨rfl, rfl⟩, I, c.args.map ca.eval, hI, by simpa using hA.evals c.args.toList, ?_⟩
        simp [resolve, hf, hv, Deferred.ofValue, invoke]
      . simp only [AM.runK] at hm; cases hm
    . simp only [AM.runK] at hm; cases hm
    . rename_i b hb
      have M := hA.evals c.args.toList
      obtain ⟨cs, hres⟩ : ∃ cs : Array Bool, ∀ (k : Deferred -> Sem Next), ((do let d <- resolve ca.eval c o.type; k d) : Sem Next).run P w = (k { target := .builtin b c.argTypes o.type cs, args := c.args.map ca.eval }).run P w := by
        obtain ⟨cs, h0⟩ : ∃ cs : Array Bool, (resolve ca.eval c o.type).run P w = .ok { target := .builtin b c.argTypes o.type cs, args := c.args.map ca.eval } w := by
          unfold resolve
          rw [hb]
          exact ⟨_, rfl⟩
        exact ⟨cs, fun k => by rw [Sem.run_bind, h0]; rfl⟩
      have tr : ∀ {s s' : Sem Next}, s.run P w = s'.run P w -> fB P w0 B w n n' K K' G s' r -> fB P w0 B w n n' K K' G s r := by
        intro s s' he h
        cases r <;> simp only [fB] at h ⊢ <;> rw [he] <;> exact h
      have a6 : c.args.map ca.eval = (c.args.toList.map ca.eval).toArray := by apply Array.ext'; simp
      refine tr (hres fun d => invoke d.target d.args) ?_
      simp only [invoke]
      rw [a6]
      split at hm
      . rename_i s x hargs'
        rw [hargs'] at M
        simp only [aI] at M
        obtain ⟨u1, us, he, h1, u2, a7, rfl, h2, rfl⟩ := M
        rw [he]
        replace hm := eC hm
        obtain ⟨a4, hm⟩ := hm
        exact qCj hm fun y U => Dx hR hF h1 h2 (by simpa using a4) U
      . rename_i x hargs'
        rw [hargs'] at M
        simp only [aI] at M
        obtain ⟨u1, us, he, h1, rfl⟩ := M
        rw [he]
        exact qBd hR hm fun y U => Rw hR h1 U
      . rename_i x rest hargs'
        rw [hargs'] at M
        simp only [aI] at M
        obtain ⟨u1, us, he, h1, h2⟩ := M
        rw [he]
        refine qCi hR hm fun y U => ?_
        obtain ⟨v, h3, h4⟩ := sE (P := P) (w := w) (Lu) h1 h2 U
        exact ⟨v, by simpa [Builtin.max_] using h3, h4⟩
      . rename_i x rest hargs'
        rw [hargs'] at M
        simp only [aI] at M
        obtain ⟨u1, us, he, h1, h2⟩ := M
        rw [he]
        refine qCi hR hm fun y U => ?_
        obtain ⟨v, h3, h4⟩ := sE (P := P) (w := w) (Lv) h1 h2 U
        exact ⟨v, by simpa [Builtin.min_] using h3, h4⟩
      . rename_i t y hargs'
        rw [hargs'] at M
        simp only [aI] at M
        obtain ⟨u1, us, he, h1, rfl⟩ := M
        rw [he]
        simp only [AM.runK, Option.some.injEq, Prod.mk.injEq] at hm
        obtain ⟨rfl, rfl, rfl⟩ := hm
        have a3 := h1
        simp only [aF] at h1
        obtain ⟨u, rfl, _⟩ := h1
        exact ⟨⟨rfl, rfl⟩, _, by simp [builtin, Instr.panic], a3⟩
      . rename_i hargs'
        simp only [AM.runK, Option.some.injEq, Prod.mk.injEq] at hm
        obtain ⟨rfl, rfl, rfl⟩ := hm
        exact ⟨⟨rfl, rfl⟩, rfl⟩
      . simp only [AM.runK] at hm; cases hm
  all_goals (simp only [AM.runK] at hm; cases hm)
end
def Fw (ro:Option Nat):Fence:={Fence.wide with round:=ro}
theorem nS.sub {G:Gh}{n hi n' hi':Nat}(h:nS G n hi)(h1:n<=n')(h2:hi'<=hi):nS G n' hi':=fun o a b=>h o om om
def Out.seq {α β:Type}(o:Out α)(p:Out β):Out β:={val:=p.val,nx:=p.nx,hi:=Nat.max o.hi p.hi,hp:=p.hp,rd:=o.rd|||p.rd,wr:=o.wr|||p.wr}
theorem C.bind_some {α β:Type}{x:C α}{f:α->C β}{n:Nat}{h:Hp}{out:Out β}(e:C.bind x f n h=some out) :
  ∃ o p,x n h=some o/\f o.val o.nx o.hp=some p/\out=o.seq p:=by
 unfold C.bind at e;split at e
 .cases e
 .rename_i o ho;split at e
  .cases e
  .rename_i p hp;cases e;exact⟨o,p,ho,hp,rfl⟩
section
variable {α β:Type}{n:Nat}{h:Hp}{o:Out α}{p:Out β}{K:cG}
theorem Fr.seq (h1:Fr n h o)(h2:Fr o.nx o.hp p):Fr n h (o.seq p):=by
 refine⟨Nat.le_trans h1.le h2.le,Nat.le_trans h2.hi (Nat.le_max_right _ _),h2.lt,fun t M=>?_,fun t M=>?_⟩
 .simp only[Out.seq,Nat.testBit_or,Bool.or_eq_false_iff]at M;exact(h2.keep t M.2).trans (h1.keep t M.1)
 .simp only[Out.seq,Nat.testBit_or,Bool.or_eq_true]at M;have a:=h1.low t;have b:=h2.low t;simp only[Nat.testBit_or,Bool.or_eq_true]at a b;have O:o.hi<=Nat.max o.hi p.hi:=Nat.le_max_left _ _;have U:p.hi<=Nat.max o.hi p.hi:=Nat.le_max_right _ _;show t<Nat.max o.hi p.hi;rcases M with(c | c) | (c | c)
  .have:=a (.inl c);omega
  .have:=b (.inl c);omega
  .have:=a (.inr c);omega
  .have:=b (.inr c);omega
theorem Agree.left (hA:Agree K h ((o.seq p).rd|||(o.seq p).wr)):Agree K h (o.rd|||o.wr):=fun t M=>hA t (by
 simp only[Out.seq,Nat.testBit_or,Bool.or_eq_true]at M ⊢;rcases M with c | c
 .exact .inl (.inl c)
 .exact .inr (.inl c))
theorem Agree.right (h1:Fr n h o)(hA:Agree K h ((o.seq p).rd|||(o.seq p).wr)):Agree (K.merge o) o.hp (p.rd|||p.wr):=fun t M=>by
 unfold cG.merge;split
 .rfl
 .rename_i hw;rw[h1.keep t (by simpa using hw)];refine hA t ?_;simp only[Out.seq,Nat.testBit_or,Bool.or_eq_true]at M ⊢;rcases M with c | c
  .exact .inl (.inr c)
  .exact .inr (.inr c)
theorem cO (h2:Fr o.nx o.hp p):(K.merge o).merge p=K.merge (o.seq p):=by
 funext t
 simp only[cG.merge,Out.seq,Nat.testBit_or];cases e2:p.wr.testBit t with
 |true=>simp
 |false=>
  simp only[Bool.or_false,Bool.false_eq_true,if_false];split
  .exact(h2.keep t e2).symm
  .rfl
theorem nS.right {G G1:Gh}(h1:Fr n h o)(hF:nS G n (o.seq p).hi)(hE:eU G G1 n o.nx):nS G1 o.nx p.hi:=by
 intro t _ _;have O:p.hi<=(o.seq p).hi:=Nat.le_max_right _ _;cases hn:G1.nm t with
 |none=>rfl
 |some I=>
  have M:=h1.le;have:=hE.nm t I hn (hF t om om);omega
theorem nS.left {G:Gh}(hF:nS G n (o.seq p).hi):nS G n o.hi:=hF.sub (Nat.le_refl _) (Nat.le_max_left _ _)
theorem eU.seq {G G1 G2:Gh}(h1:Fr n h o)(h2:Fr o.nx o.hp p)(e1:eU G G1 n o.nx)(e2:eU G1 G2 o.nx p.nx):eU G G2 n (o.seq p).nx:=
 (e1.wide (Nat.le_refl _) h2.le).trans (e2.wide h1.le (Nat.le_refl _))
theorem Fr.ret (a:α)(hl:aE n h):Fr n h ({val:=a,nx:=n,hi:=n,hp:=h,rd:=0,wr:=0}:Out α):=
 ⟨Nat.le_refl _,Nat.le_refl _,hl,fun _ _=>rfl,fun t M=>by simp at M⟩
theorem gV (a:α):K.merge ({val:=a,nx:=n,hi:=n,hp:=h,rd:=0,wr:=0}:Out α)=K:=by
 funext t;simp[cG.merge]
end
theorem jB {α:Type}{m:AM α}{n:Nat}{h:Hp}{out:Out α}(e:C.am m n h=some out)(hl:aE n h) :
  Fr n h out/\out.hi=out.nx/\∀ K:cG,Agree K h (out.rd|||out.wr)->m.runK n K=some (out.val,out.nx,K.merge out):=by
 obtain⟨h1,h2⟩:=qCZ m n h 0 0 out e hl sm;exact⟨h2,h1,fun K M=>AM.run_local m n h 0 0 out K e hl M⟩
mutual
def iO (p:Nat->Prop):AV->Prop
 |.ref o _ | .sl o _ _ | .map o=>p o
 |.fn f a c=>(∀ l,f=.yield l->p l)/\pH p a/\pH p c
 |.iface _ v=>iO p v
 |.agg cs | .tup cs=>pH p cs
 |.pvec xs _ _ | .vec xs _ _=>pH p xs
 |_=>True
def pH (p:Nat->Prop):List AV->Prop
 |[]=>True
 |x::xs=>iO p x/\pH p xs
end
def Pi (p:Nat->Prop):aK->Prop
 |.cells cs=>pH p cs
 |.arr _ xs=>pH p xs
 |.map kv=>∀ q ∈ kv,iO p q.1/\iO p q.2
 |.siter _ _=>True
 |.loop _ _ _ ts _ _ _ d=>pH p ts/\p d
 |.dfr=>True
mutual
theorem nY (lo:Nat):∀ x:AV,jO lo x=true->iO (· < lo) x
 |.ref o _,h | .sl o _ _,h | .map o,h=>by simp only[jO]at h;simp only[iO];exact kG.1 h
 |.fn f a c,h=>by
  simp only[jO,Bool.and_eq_true]at h;simp only[iO];refine⟨?_,iU lo a h.1.2,iU lo c h.2⟩;rintro l rfl;exact kG.1 h.1.1
 |.iface _ v,h=>by simp only[jO]at h;simp only[iO];exact nY lo v h
 |.agg cs,h | .tup cs,h=>by simp only[jO]at h;simp only[iO];exact iU lo cs h
 |.pvec xs _ _,h | .vec xs _ _,h=>by simp only[jO]at h;simp only[iO];exact iU lo xs h
 |.bool _,_ | .int _ _,_ | .str _,_ | .ptr0,_ | .gref _ _,_ | .sl0,_ | .map0,_ | .fn0,_ | .if0,_ | .undef,_ | .unk,_=>by simp only[iO]
theorem iU (lo:Nat):∀ xs:List AV,lF lo xs=true->pH (· < lo) xs
 |[],_=>by simp only[pH]
 |x::xs,h=>by
  simp only[lF,Bool.and_eq_true]at h;simp only[pH];exact⟨nY lo x h.1,iU lo xs h.2⟩
end
theorem yT (lo:Nat):∀ kv:List (AV×AV),zR lo kv=true->∀ q ∈ kv,iO (· < lo) q.1/\iO (· < lo) q.2
 |[],_=>by simp
 |(k,v)::r,h=>by
  simp only[zR,Bool.and_eq_true]at h;intro q M;simp at M;rcases M with rfl | M
  .exact⟨nY lo k h.1.1,nY lo v h.1.2⟩
  .exact yT lo r h.2 q M
theorem Qv (lo:Nat)(x:aK)(h:Qu lo x=true):Pi (· < lo) x:=by
 cases x<;>simp only[Qu,Pi]at h ⊢
 .exact iU lo _ h
 .exact iU lo _ h
 .exact yT lo _ h
 .rw[Bool.and_eq_true]at h;exact⟨iU lo _ h.1,kG.1 h.2⟩
theorem Qt {lo wr:Nat}:∀{h:Hp},Qs lo wr h=true->∀{t:Nat}{x:aK},h.get t=some x->t<lo->wr.testBit t=true->Pi (· < lo) x
 |[],_,t,x,hx,_,_=>by simp[Hp.get]at hx
 |(m,y)::r,h,t,x,hx,hlt,hw=>by
  simp only[Qs,Bool.and_eq_true]at h;simp only[Hp.get]at hx;cases e:(m==t) with
  |true=>
   rw[e]at hx;simp only[cond_true,Option.some.injEq]at hx;subst hx;obtain rfl:m=t:=(by simpa using e);have h1:=h.1;rw[show Nat.blt m lo=true from kG.2 hlt,hw]at h1;exact Qv lo y (by simpa using h1)
  |false=>
   rw[e]at hx;exact Qt h.2 hx hlt hw
mutual
theorem aF.nms {G:Gh}:∀(x:AV) (v:Value),aF G x v->iO (fun o=>∃ I,G.nm o=some I) x
 |.ref o _,v,h=>by simp only[aF]at h;simp only[iO];obtain⟨I,h,_⟩:=h;exact⟨I,h⟩
 |.sl o _ _,v,h=>by simp only[aF]at h;simp only[iO];obtain⟨I,_,_,_,h,_⟩:=h;exact⟨I,h⟩
 |.map o,v,h=>by simp only[aF]at h;simp only[iO];obtain⟨I,h,_⟩:=h;exact⟨I,h⟩
 |.fn f a c,v,h=>by
  simp only[aF]at h;simp only[iO];obtain⟨_,a',c',_,h1,h2,M⟩:=h;refine⟨?_,aI.nms a _ h2,aI.nms c _ M⟩;rintro l rfl;simp only[oR]at h1;obtain⟨I,h1,_⟩:=h1;exact⟨I,h1⟩
 |.iface _ x,v,h=>by simp only[aF]at h;simp only[iO];obtain⟨u,_,h⟩:=h;exact aF.nms x u h
 |.agg cs,v,h=>by simp only[aF]at h;simp only[iO];obtain⟨u,_,h⟩:=h;exact aI.nms cs _ h
 |.tup cs,v,h=>by simp only[aF]at h;simp only[iO];obtain⟨u,_,h⟩:=h;exact aI.nms cs _ h
 |.pvec xs _ _,v,h=>by simp only[aF]at h;simp only[iO];obtain⟨b,off,_,h⟩:=h;exact bA.nms _ _ xs h
 |.vec xs _ _,v,h=>by simp only[aF]at h;simp only[iO];obtain⟨b,off,_,_,_,_,h⟩:=h;exact bA.nms _ _ xs h
 |.bool _,_,_ | .int _ _,_,_ | .str _,_,_ | .ptr0,_,_ | .gref _ _,_,_ | .sl0,_,_ | .map0,_,_ | .fn0,_,_ | .if0,_,_ | .undef,_,_ | .unk,_,_=>by simp only[iO]
theorem aI.nms {G:Gh}:∀(xs:List AV) (l:List Value),aI G xs l->pH (fun o=>∃ I,G.nm o=some I) xs
 |[],_,_=>by simp only[pH]
 |x::xs,l,h=>by
  simp only[aI]at h;simp only[pH];obtain⟨u,us,_,h1,h2⟩:=h;exact⟨aF.nms x u h1,aI.nms xs us h2⟩
theorem bA.nms {G:Gh}{c:Nat->Option Value}(es:Nat):∀(off:Nat) (xs:List AV),bA G c es off xs->pH (fun o=>∃ I,G.nm o=some I) xs
 |_,[],_=>by simp only[pH]
 |off,x::xs,h=>by
  simp only[bA]at h;simp only[pH];obtain⟨⟨u,h1,_⟩,h2⟩:=h;exact⟨aF.nms x u h1,bA.nms es _ xs h2⟩
end
theorem cK.nms {G:Gh}{I:lR}{x:aK}{ob:Obj}(h:cK G I x ob):Pi (fun o=>∃ I,G.nm o=some I) x:=by
 cases x<;>cases ob<;>simp only[cK]at h<;>simp only[Pi]
 .exact aI.nms _ _ h.2.1
 .exact bA.nms _ _ _ h.2.2.2.2.2.1
 .rename_i M es _;have:∀(M:List (AV×AV)) (l:List MapEntry),fA G M l->∀ q ∈ M,iO (fun o=>∃ I,G.nm o=some I) q.1/\iO (fun o=>∃ I,G.nm o=some I) q.2:=by
   intro M
   induction M with
   |nil=>simp
   |cons p r ih=>
    obtain⟨k,v⟩:=p;intro l h q O;simp only[fA]at h;obtain⟨e,es,_,h1,h2,U⟩:=h;simp at O;rcases O with rfl | O
    .exact⟨aF.nms _ _ h1,aF.nms _ _ h2⟩
    .exact ih es U q O
  exact this M _ h.1
 .obtain⟨_,_,h1,_,_,_,D,h2,_⟩:=h;exact⟨aI.nms _ _ h1,D,h2⟩
structure oS (G G':Gh)(p:Nat->Prop):Prop where
 nm:∀ o,p o->G'.nm o=G.nm o
 S:G'.S=G.S
mutual
theorem aF.keep {G G':Gh}{p:Nat->Prop}(k:oS G G' p):∀(x:AV) (v:Value),iO p x->aF G x v->aF G' x v
 |.ref o _,v,hn,h=>by simp only[iO]at hn;simp only[aF]at h ⊢;rw[k.nm o hn];exact h
 |.sl o _ _,v,hn,h=>by simp only[iO]at hn;simp only[aF]at h ⊢;rw[k.nm o hn];exact h
 |.map o,v,hn,h=>by simp only[iO]at hn;simp only[aF]at h ⊢;rw[k.nm o hn];exact h
 |.fn f a c,v,hn,h=>by
  simp only[iO]at hn;simp only[aF]at h ⊢;obtain⟨M,a',c',e,h1,h2,O⟩:=h;refine⟨M,a',c',e,?_,aI.keep k a _ hn.2.1 h2,aI.keep k c _ hn.2.2 O⟩;cases f<;>simp only[oR]at h1 ⊢<;>try exact h1
  rw[k.nm _ (hn.1 _ rfl)];exact h1
 |.iface _ x,v,hn,h=>by
  simp only[iO]at hn;simp only[aF]at h ⊢;obtain⟨u,e,h⟩:=h;exact⟨u,e,aF.keep k x u hn h⟩
 |.agg cs,v,hn,h=>by
  simp only[iO]at hn;simp only[aF]at h ⊢;obtain⟨u,e,h⟩:=h;exact⟨u,e,aI.keep k cs _ hn h⟩
 |.tup cs,v,hn,h=>by
  simp only[iO]at hn;simp only[aF]at h ⊢;obtain⟨u,e,h⟩:=h;exact⟨u,e,aI.keep k cs _ hn h⟩
 |.pvec xs es _,v,hn,h=>by
  simp only[iO]at hn;simp only[aF]at h ⊢;obtain⟨b,off,e,h⟩:=h;exact⟨b,off,e,by rw[k.S];exact bA.keep k es off xs hn h⟩
 |.vec xs es _,v,hn,h=>by
  simp only[iO]at hn;simp only[aF]at h ⊢;obtain⟨b,off,cap,e,h1,h2,h⟩:=h;exact⟨b,off,cap,e,h1,h2,by rw[k.S];exact bA.keep k es off xs hn h⟩
 |.bool _,_,_,h | .int _ _,_,_,h | .str _,_,_,h | .ptr0,_,_,h | .gref _ _,_,_,h | .sl0,_,_,h | .map0,_,_,h | .fn0,_,_,h | .if0,_,_,h | .undef,_,_,h | .unk,_,_,h=>by
  simpa only[aF]using h
theorem aI.keep {G G':Gh}{p:Nat->Prop}(k:oS G G' p):∀(xs:List AV) (l:List Value),pH p xs->aI G xs l->aI G' xs l
 |[],l,_,h=>by simpa only[aI]using h
 |x::xs,l,hn,h=>by
  simp only[pH]at hn;simp only[aI]at h ⊢;obtain⟨u,us,e,h1,h2⟩:=h;exact⟨u,us,e,aF.keep k x u hn.1 h1,aI.keep k xs us hn.2 h2⟩
theorem bA.keep {G G':Gh}{p:Nat->Prop}(k:oS G G' p){c:Nat->Option Value}(es:Nat):∀(off:Nat) (xs:List AV),pH p xs->bA G c es off xs->bA G' c es off xs
 |_,[],_,_=>by simp only[bA]
 |off,x::xs,hn,h=>by
  simp only[pH]at hn;simp only[bA]at h ⊢;obtain⟨⟨u,h1,h2⟩,M⟩:=h;exact⟨⟨u,aF.keep k x u hn.1 h1,h2⟩,bA.keep k es _ xs hn.2 M⟩
end
theorem cK.keep {G G':Gh}{p:Nat->Prop}(k:oS G G' p){I:lR}{x:aK}{ob:Obj}(hn:Pi p x)(h:cK G I x ob):cK G' I x ob:=by
 cases x<;>cases ob<;>simp only[cK]at h ⊢<;>simp only[Pi]at hn<;>try exact h
 .exact⟨h.1,aI.keep k _ _ hn h.2.1,h.2.2⟩
 .obtain⟨h1,h2,O,U,Y,h6,h7⟩:=h;exact⟨h1,h2,O,U,Y,bA.keep k _ _ _ hn h6,h7⟩
 .rename_i M es _;have:∀(M:List (AV×AV)) (l:List MapEntry),(∀ q ∈ M,iO p q.1/\iO p q.2)->fA G M l->fA G' M l:=by
   intro M
   induction M with
   |nil=>intro l _ h;exact h
   |cons q r ih=>
    obtain⟨a,b⟩:=q;intro l hq h;simp only[fA]at h ⊢;obtain⟨e,es,h1,h2,O,U⟩:=h;have:=hq (a,b) sm;exact⟨e,es,h1,aF.keep k _ _ this.1 h2,aF.keep k _ _ this.2 O,ih es (fun q a1=>hq q (by simp[a1])) U⟩
  exact⟨this M _ hn h.1,h.2⟩
 .obtain⟨h1,h2,O,U,Y,h6,D,h7,h8⟩:=h;exact⟨h1,h2,aI.keep k _ _ hn.1 O,U,Y,h6,D,by rw[k.nm _ hn.2];exact h7,h8⟩
structure St (w0:Base)(B:Nat)(Gl:qC6)(K:cG)(G:Gh)(w:World)(n hi:Nat)(h:Hp)(m:Nat):Prop where
 agree:Agree K h m
 rel:eO w0 B K G w
 fresh:nS G n hi
 gl:Pg G Gl
section
variable {w0:Base}{B:Nat}{Gl:qC6}{K:cG}{G G1:Gh}{w w1:World}{n hi:Nat}{h:Hp}{α β:Type}{o:Out α}{p:Out β}
theorem St.left (s:St w0 B Gl K G w n (o.seq p).hi h ((o.seq p).rd|||(o.seq p).wr)):St w0 B Gl K G w n o.hi h (o.rd|||o.wr):=
 ⟨s.agree.left,s.rel,s.fresh.left,s.gl⟩
theorem St.right (s:St w0 B Gl K G w n (o.seq p).hi h ((o.seq p).rd|||(o.seq p).wr))(f:Fr n h o)(e:eU G G1 n o.nx)(r:eO w0 B (K.merge o) G1 w1) :
  St w0 B Gl (K.merge o) G1 w1 o.nx p.hi o.hp (p.rd|||p.wr):=
 ⟨s.agree.right f,r,s.fresh.right f e,s.gl.mono e.le⟩
theorem qCh (o:Out α)(b:β)(f:Fr n h o):o.seq ({val:=b,nx:=o.nx,hi:=o.nx,hp:=o.hp,rd:=0,wr:=0}:Out β) =
  {val:=b,nx:=o.nx,hi:=o.hi,hp:=o.hp,rd:=o.rd,wr:=o.wr}:=by
 have:=f.hi;simp only[Out.seq,Nat.or_zero,Out.mk.injEq,true_and,and_true];exact Nat.max_eq_left this
theorem qCb {x:C α}{g:α->β}{out:Out β}(e:C.bind x (fun a=>C.ret (g a)) n h=some out)(hl:∀ o,x n h=some o->Fr n h o) :
  ∃ o,x n h=some o/\out={val:=g o.val,nx:=o.nx,hi:=o.hi,hp:=o.hp,rd:=o.rd,wr:=o.wr}:=by
 obtain⟨o,p,h1,h2,rfl⟩:=C.bind_some e;cases h2;exact⟨o,h1,qCh o _ (hl o h1)⟩
theorem Fr.val (f:Fr n h o)(b:β):Fr n h ({val:=b,nx:=o.nx,hi:=o.hi,hp:=o.hp,rd:=o.rd,wr:=o.wr}:Out β):=⟨f.le,f.hi,f.lt,f.keep,f.low⟩
theorem tI (b:β):K.merge ({val:=b,nx:=o.nx,hi:=o.hi,hp:=o.hp,rd:=o.rd,wr:=o.wr}:Out β)=K.merge o:=rfl
def rG (w0:Base)(B:Nat){α:Type}(T:Gh->α->Prop)(n:Nat)(h:Hp)(out:Out α)(T0:Gh->Prop):Prop:=
 Fr n h out/\∀(K:cG) (G:Gh) (w:World),Agree K h (out.rd|||out.wr)->eO w0 B K G w->nS G n out.hi->T0 G->
  ∃ G',eU G G' n out.nx/\eO w0 B (K.merge out) G' w/\(∀ t x,K.merge out t=some x->K t=some x)/\T G' out.val
theorem rG.ret {T:Gh->α->Prop}{T0:Gh->Prop}{a:α}(hl:aE n h)(hT:∀ G,T0 G->T G a) :
  rG w0 B T n h ({val:=a,nx:=n,hi:=n,hp:=h,rd:=0,wr:=0}:Out α) T0:=
 ⟨Fr.ret a hl,fun K G w _ r _ t=>⟨G,eU.refl _ _ _,by rw[gV];exact r,by rw[gV];exact fun _ _ h=>h,hT G t⟩⟩
theorem bA.vals {c:Nat->Option Value}{es:Nat}:∀{off:Nat}{xs:List AV},bA G c es off xs->
  ∃ us,aI G xs us/\∀ i u,us[i]?=some u->u.cells.size=es/\∀ j (hj:j<u.cells.size),c (off+i*es+j)=some u.cells[j]
 |_,[],_=>⟨[],aI.nil,by simp⟩
 |off,x::xs,r=>by
  simp only[bA]at r;obtain⟨⟨u,h1,h2,Y⟩,h4⟩:=r;obtain⟨us,k1,k2⟩:=bA.vals h4;refine⟨u::us,aI.cons h1 k1,fun i v M=>?_⟩;cases i with
  |zero=>
   simp at M;subst M;exact⟨h2,fun j hj=>by simpa using Y j hj⟩
  |succ i=>
   simp at M;obtain⟨O,U⟩:=k2 i v M;refine⟨O,fun j hj=>?_⟩;have:=U j hj;rw[show off+(i+1)*es+j=off+es+i*es+j by rw[Nat.succ_mul];omega];exact this
theorem bA.of_vals {c:Nat->Option Value}{es:Nat}:∀{off:Nat}{xs:List AV}{us:List Value},aI G xs us->
  (∀ i u,us[i]?=some u->u.cells.size=es/\∀ j (hj:j<u.cells.size),c (off+i*es+j)=some u.cells[j])->bA G c es off xs
 |_,[],_,_,_=>by simp only[bA]
 |off,x::xs,l,r,k=>by
  simp only[aI]at r;obtain⟨u,us,rfl,h1,h2⟩:=r;simp only[bA];refine⟨⟨u,h1,(k 0 u sm).1,fun j hj=>by simpa using(k 0 u sm).2 j hj⟩,bA.of_vals h2 fun i v U=>?_⟩;obtain⟨M,O⟩:=k (i+1) v (by simpa using U);refine⟨M,fun j hj=>?_⟩;have:=O j hj;rw[show off+(i+1)*es+j=off+es+i*es+j by rw[Nat.succ_mul];omega]at this;exact this
theorem Yn:∀ fuel:Nat,(∀(xs:List AV) (n:Nat) (h:Hp) (out:Out (List AV)),nI fuel xs n h=some out->aE n h->∀ vs,rG w0 B (fun G ys=>aI G ys vs) n h out (fun G=>aI G xs vs))/\
  (∀(x:AV) (n:Nat) (h:Hp) (out:Out AV),qH fuel x n h=some out->aE n h->∀ v,rG w0 B (fun G y=>aF G y v) n h out (fun G=>aF G x v)):=by
 intro fuel
 induction fuel with
 |zero=>
  refine⟨fun xs n h out e Y vs=>?_,fun x n h out e=>?_⟩
  .unfold nI at e;cases xs with
   |nil=>cases e;exact rG.ret Y fun _ t=>t
   |cons x xs=>cases e
  .unfold qH at e;cases e
 |succ fuel ih=>
  obtain⟨O,ac⟩:=ih;refine⟨fun xs n h out e Y vs=>?_,fun x n h out e Y v=>?_⟩
  .unfold nI at e;cases xs with
   |nil=>cases e;exact rG.ret Y fun _ t=>t
   |cons x xs=>
    simp only at e;obtain⟨o,p,h1,h2,rfl⟩:=C.bind_some e;cases vs with
    |nil=>
     have f1:=(ac x n h o h1 Y Go.undef).1;obtain⟨o2,h3,rfl⟩:=qCb h2 fun o' a7=>(O xs o.nx o.hp o' a7 f1.lt []).1;have f2:=(O xs o.nx o.hp o2 h3 f1.lt []).1;exact⟨f1.seq (f2.val _),fun K G w _ _ _ t=>by simp[aI]at t⟩
    |cons v vs=>
     obtain⟨f1,k1⟩:=ac x n h o h1 Y v;obtain⟨o2,h3,rfl⟩:=qCb h2 fun o' a7=>(O xs o.nx o.hp o' a7 f1.lt vs).1;obtain⟨f2,k2⟩:=O xs o.nx o.hp o2 h3 f1.lt vs;refine⟨f1.seq (f2.val _),fun K G w hA hR hF t=>?_⟩;simp only[aI]at t;obtain⟨u,us,e1,t1,t2⟩:=t;cases e1;obtain⟨G1,g1,g2,g3,g4⟩:=k1 K G w hA.left hR hF.left t1;obtain⟨G2,g5,g6,g7,g8⟩:=k2 (K.merge o) G1 w (hA.right f1) g2 (hF.right f1 g1) (t2.mono g1.le _ _);refine⟨G2,eU.seq f1 (f2.val _) g1 g5,?_,?_,?_⟩
     .rw[<- cO (f2.val _),tI];exact g6
     .rw[<- cO (f2.val _),tI];exact fun t x U=>g3 t x (g7 t x U)
     .exact aI.cons (g4.mono g5.le _ _) g8
  .unfold qH at e;cases x
   case agg cs=>
    simp only at e;obtain⟨o,h1,rfl⟩:=qCb e fun o ho=>(O cs n h o ho Y []).1;refine⟨(O cs n h o h1 Y []).1.val _,fun K G w hA hR hF t=>?_⟩;simp only[aF]at t;obtain⟨us,rfl,t⟩:=t;obtain⟨G1,g1,g2,g3,g4⟩:=(O cs n h o h1 Y us.toList).2 K G w hA hR hF t;exact⟨G1,g1,g2,g3,by simp only[aF];exact⟨us,rfl,g4⟩⟩
   case sl ob off len=>
    simp only at e;split at e
    .rename_i es xs hg;cases hq:Nat.ble (off+len) xs.length with
     |false=>rw[hq]at e;cases e
     |true=>
      rw[hq]at e;simp only[cond_true]at e;split at e
      .rename_i r hr;cases e;have aa:=Y.lt_of_get hg;have an:=Nat.le_of_ble_eq_true hq;have f1:=(O _ n h r hr Y []).1;have ak:∀ t,(r.wr|||bit ob).testBit t=false->r.wr.testBit t=false/\t≠ob:=fun t ht=>by
        simp only[Nat.testBit_or,Bool.or_eq_false_iff,cY,decide_eq_false_iff_not]at ht;exact⟨ht.1,fun h=>ht.2 h.symm⟩
       refine⟨⟨f1.le,f1.hi,fun t ht=>?_,fun t ht=>?_,fun t ht=>?_⟩,fun K G w hA hR hF t=>?_⟩
       .show (r.hp.del ob).get t=none;rw[qCe];split;rfl;exact f1.lt t ht
       .obtain⟨a1,a2⟩:=ak t ht;show (r.hp.del ob).get t=_;rw[qCe,if_neg a2];exact f1.keep t a1
       .show t<r.hi;have h1:=f1.le;have h2:=f1.hi;simp only[Nat.testBit_or,Bool.or_eq_true,cY,decide_eq_true_eq]at ht;have:=f1.low t;simp only[Nat.testBit_or,Bool.or_eq_true]at this;rcases ht with(c | c) | (c | c)
        .exact this (.inl c)
        .omega
        .exact this (.inr c)
        .omega
       .have hK:K ob=some (.arr es xs):=by
         rw[hA ob (by simp[cY])];exact hg
        obtain⟨I,obj,i1,i2,i3,i4⟩:=hR.obj ob _ hK;simp only[aF]at t;obtain⟨I',ab,ao,cap,j1,rfl,j2,j3,j4,j5,j6⟩:=t;obtain rfl:I'=I:=Option.some.inj (j1.symm.trans i1);cases obj with
        |cells us el fz=>
         simp only[cK]at i4;obtain⟨c1,c2,c3,c4,c5,c6,c7⟩:=i4;obtain⟨vs,v1,v2⟩:=c6.vals;have ai:aI G ((xs.drop off).take len) ((vs.drop off).take len):=(v1.drop off).take len;obtain⟨G1,g1,g2,g3,g4⟩:=(O _ n h r hr Y _).2 K G w (fun t ht=>hA t (by
          simp only[Nat.testBit_or,Bool.or_eq_true]at ht ⊢;rcases ht with c | c
          .exact .inl (.inl c)
          .exact .inr (.inl c))) hR hF ai
         have a3:∀ i,w.cell? ⟨I'.blk,i,none⟩=us[i]?:=fun i=>by
          simp[World.cell?,i3]
         let G':Gh:={G1 with S:=fun b i=>if b=I'.blk then us[i]? else G1.S b i}
         have a4:G1.le G':=by
          refine⟨fun _ _ h=>h,fun b i v hv=>?_⟩;by_cases eb:b=I'.blk
          .subst eb;have:=g2.S _ _ _ hv;rw[a3]at this;simpa [G']using this
          .simpa [G',eb]using hv
         have M:∀ t x,K.merge {r with val:=AV.vec r.val es false,hp:=r.hp.del ob,rd:=r.rd|||bit ob,wr:=r.wr|||bit ob} t=some x->t≠ob/\K.merge r t=some x:=by
          intro t x U;simp only[cG.merge,Nat.testBit_or,cY,Bool.or_eq_true,decide_eq_true_eq]at U ⊢;by_cases et:t=ob
          .subst et;simp[qCe]at U
          .refine⟨et,?_⟩;have ad:¬ob=t:=fun h=>et h.symm;rw[qCe,if_neg et]at U;simpa [ad]using U
         refine⟨G',g1.trans ⟨a4,fun o J a b=>by rw[show G'.nm o=G1.nm o from rfl,b]at a;cases a⟩,?_,fun t x U=>g3 t x (M t x U).2,?_⟩
         .refine {g2 with S:=fun b i v hv=>?_,obj:=fun t x U=>?_,inj:=fun t t' x x' J J' U al=>?_,sep:=fun t x J U hJ i=>?_,low:=fun b i v aa hv=>g2.low b i v aa (by
           have a6:b≠I'.blk:=om;simpa [G',a6]using hv),apart:=fun t x J U hJ=>g2.apart t x J (M t x U).2 hJ}
          .by_cases eb:b=I'.blk
           .subst eb;rw[a3];simpa [G']using hv
           .exact g2.S b i v (by simpa [G',eb]using hv)
          .obtain⟨J,ob',e1,e2,e3,e4⟩:=g2.obj t x (M t x U).2;exact⟨J,ob',e1,e2,e3,e4.mono a4⟩
          .exact g2.inj t t' x x' J J' (M t x U).2 (M t' x' al).2
          .have a8:=M t x U;have a9:=g3 t x a8.2;have ag:G1.nm t=some J:=hJ;obtain⟨J0,_,e1,_,_,_⟩:=hR.obj t x a9;obtain rfl:J0=J:=Option.some.inj ((g1.le.1 _ _ e1).symm.trans ag);have a6:J0.blk≠I'.blk:=fun hb=>a8.1 (hR.inj t ob x _ J0 I' a9 hK e1 i1 hb);simp only[G',a6,if_false];exact g2.sep t x J0 a8.2 hJ i
         .have a5:r.val.length=len:=by
           have a1:=g4.length;have a2:=v1.length;rw[a1];simp<;>omega
          simp only[aF];refine⟨ab,ao,cap,by rw[a5],by rw[a5];exact j6,by simp,?_⟩;have ae:=g4.mono a4 _ _;by_cases ah:cap=0
          .have:r.val=[]:=List.length_eq_zero_iff.1 om;rw[this];simp only[bA]
          .obtain⟨rfl,rfl⟩:=j2 ah;refine bA.of_vals ae fun i u hu=>?_;have aj:vs[off+i]?=some u:=by
            rw[List.getElem?_take]at hu;split at hu
            .rw[List.getElem?_drop]at hu;exact hu
            .cases hu
           obtain⟨s1,s2⟩:=v2 (off+i) u aj;refine⟨s1,fun j hj=>?_⟩;have:=s2 j hj;simp only[G',if_true];rw[show I'.dl+off*I'.es+i*es+j=I'.dl+(off+i)*es+j by rw[c1,Nat.add_mul];omega];exact this
        |_=>simp only[cK]at i4
      .cases e
    .cases e
   all_goals (simp only at e;cases e;exact rG.ret Y fun _ t=>t)
theorem vV {top:Bool}{fuel:Nat}{x:AV}{out:Out AV}(e:xR top fuel x n h=some out)(hl:aE n h)(v:Value) :
  rG w0 B (fun G y=>aF G y v) n h out (fun G=>aF G x v):=by
 unfold xR at e;split at e
 .cases e;exact rG.ret hl fun _ t=>t
 .exact(Yn fuel).2 _ n h out e hl v
theorem pI {top:Bool}:∀(fuel:Nat) (xs:List AV) (n:Nat) (h:Hp) (out:Out (List AV)),gD top fuel xs n h=some out->aE n h->∀ vs,rG w0 B (fun G ys=>aI G ys vs) n h out (fun G=>aI G xs vs):=by
 intro fuel
 induction fuel with
 |zero=>
  intro xs n h out e O vs;cases xs with
  |nil=>unfold gD at e;cases e;exact rG.ret O fun _ t=>t
  |cons x xs=>unfold gD at e;cases e
 |succ fuel ih=>
  intro xs n h out e O vs;cases xs with
  |nil=>unfold gD at e;cases e;exact rG.ret O fun _ t=>t
  |cons x xs=>
   unfold gD at e;obtain⟨o,p,h1,h2,rfl⟩:=C.bind_some e;cases vs with
   |nil=>
    have f1:=(vV (w0:=w0) (B:=B) h1 O Go.undef).1;obtain⟨o2,U,rfl⟩:=qCb h2 fun o' M=>(ih xs o.nx o.hp o' M f1.lt []).1;have f2:=(ih xs o.nx o.hp o2 U f1.lt []).1;exact⟨f1.seq (f2.val _),fun K G w _ _ _ t=>by simp[aI]at t⟩
   |cons v vs=>
    obtain⟨f1,k1⟩:=vV (w0:=w0) (B:=B) h1 O v;obtain⟨o2,U,rfl⟩:=qCb h2 fun o' M=>(ih xs o.nx o.hp o' M f1.lt vs).1;obtain⟨f2,k2⟩:=ih xs o.nx o.hp o2 U f1.lt vs;refine⟨f1.seq (f2.val _),fun K G w Y hR hF t=>?_⟩;simp only[aI]at t;obtain⟨u,us,e1,t1,t2⟩:=t;cases e1;obtain⟨G1,g1,g2,g3,g4⟩:=k1 K G w Y.left hR hF.left t1;obtain⟨G2,g5,g6,g7,g8⟩:=k2 (K.merge o) G1 w (Y.right f1) g2 (hF.right f1 g1) (t2.mono g1.le _ _);refine⟨G2,eU.seq f1 (f2.val _) g1 g5,?_,?_,?_⟩
    .rw[<- cO (f2.val _),tI];exact g6
    .rw[<- cO (f2.val _),tI];exact fun t x hx=>g3 t x (g7 t x hx)
    .exact aI.cons (g4.mono g5.le _ _) g8
theorem Nm {x lo t:Nat}:(x % 2 ^ lo).testBit t=(decide (t<lo)&&x.testBit t):=by
 rw[Nat.testBit_mod_two_pow]
end
def fN (G:Gh):mQ->Exit->Prop
 |.normal,e=>e=.normal
 |.exit id,e=>e=.exit id
 |.goto l,e=>e=.goto l
 |.ret,e=>e=.ret
 |.pan x,e=>∃ v,e=.panic [{v,recovered:=false}]/\aF G x v
def rV (G:Gh):aS->Ending->Prop
 |.returned x,e=>∃ v,e=.returned v/\aF G x v
 |.panicked x,e=>∃ v,e=.panicked [{v,recovered:=false}]/\aF G x v
def kZ (G:Gh):Option AV->FrameMode->Prop
 |none,u=>u=.returning
 |some x,u=>∃ v,u=.panicking [{v,recovered:=false}]/\aF G x v
def MR (G:Gh):Option AV->FrameMode->Prop
 |none,u=>u=.returning\/∃ v,u=.panicking [{v,recovered:=true}]
 |some x,u=>∃ v,u=.panicking [{v,recovered:=false}]/\aF G x v
theorem kZ.mono {G G':Gh}(h:G.le G'){m:Option AV}{u:FrameMode}(r:kZ G m u):kZ G' m u:=by
 cases m with
 |none=>exact r
 |some x=>obtain⟨v,h1,h2⟩:=r;exact⟨v,h1,h2.mono h _ _⟩
theorem MR.mono {G G':Gh}(h:G.le G'){m:Option AV}{u:FrameMode}(r:MR G m u):MR G' m u:=by
 cases m with
 |none=>exact r
 |some x=>obtain⟨v,h1,h2⟩:=r;exact⟨v,h1,h2.mono h _ _⟩
theorem kZ.mr {G:Gh}{m:Option AV}{u:FrameMode}(r:kZ G m u):MR G m u:=by
 cases m with
 |none=>exact .inl r
 |some x=>exact r
theorem MR.settle {G:Gh}{m:Option AV}{u:FrameMode}(r:MR G m u):kZ G m (settle u):=by
 cases m with
 |none=>
  rcases r with rfl | ⟨v,rfl⟩
  .rfl
  .simp[kZ,Go.settle]
 |some x=>obtain⟨v,rfl,h2⟩:=r;exact⟨v,rfl,h2⟩
theorem fN.mono {G G':Gh}(h:G.le G'){x:mQ}{e:Exit}(r:fN G x e):fN G' x e:=by
 cases x<;>simp only[fN]at r ⊢<;>try exact r
 obtain⟨v,h1,h2⟩:=r;exact⟨v,h1,h2.mono h _ _⟩
theorem rV.mono {G G':Gh}(h:G.le G'){x:aS}{e:Ending}(r:rV G x e):rV G' x e:=by
 cases x<;>simp only[rV]at r ⊢<;>(obtain⟨v,h1,h2⟩:=r;exact⟨v,h1,h2.mono h _ _⟩)
section
variable (P:Program)(Gl:qC6)(w0:Base)(B:Nat)
def rU (c:Code)(a:bE)(n:Nat)(h:Hp)(out:Out (mQ×bE)):Prop:=
 Fr n h out/\∀(K:cG) (G:Gh) (w:World) (ro:Option Nat) (ca:Act),St w0 B Gl K G w n out.hi h (out.rd|||out.wr)->eT G ro a ca->
  ∀ Q:Exit->Act->World->Prop,(∀ G' e ca' w',eU G G' n out.nx->eO w0 B (K.merge out) G' w'->fN G' out.val.1 e->eT G' ro out.val.2 ca'->Q e ca' w')->
   c.wpIn (Fw ro) 0 P Q ca w
def CW (m:Nat)(c:Code)(a:bE)(n:Nat)(h:Hp)(out:Out (mQ×bE)):Prop:=
 Fr n h out/\∀(K:cG) (G:Gh) (w:World) (ro:Option Nat) (ca:Act),St w0 B Gl K G w n out.hi h (out.rd|||out.wr)->eT G ro a ca->
  ∀ Q:Exit->Act->World->Prop,(∀ G' e ca' w',eU G G' n out.nx->eO w0 B (K.merge out) G' w'->fN G' out.val.1 e->eT G' ro out.val.2 ca'->Q e ca' w')->
   Code.roundsIn (Fw ro) 0 P c Q m ca w
def CX (ops:Array Oper)(l:List Oper)(a:bE)(n:Nat)(h:Hp)(out:Out (mQ×bE)):Prop:=
 Fr n h out/\∀(K:cG) (G:Gh) (w:World) (ro:Option Nat) (ca:Act),St w0 B Gl K G w n out.hi h (out.rd|||out.wr)->eT G ro a ca->
  ∀ Q:Exit->Act->World->Prop,(∀ G' e ca' w',eU G G' n out.nx->eO w0 B (K.merge out) G' w'->fN G' out.val.1 e->eT G' ro out.val.2 ca'->Q e ca' w')->
   ∀ is:List Nat,is.map (fun i=>ops[i]?)=l.map some->wpOpsIn (Fw ro) 0 P ops Q is ca w
def ResK (G:Gh)(dst:Option Tmp)(ca:Act)(next:Act->World->Prop)(Q:Exit->Act->World->Prop)(w:World):rR->Prop
 |.put x=>∀ v,aF G x v->next (ca.put dst v) w
 |.dfr d=>∀ e,Jq G d e->next (({ca with defers:=e::ca.defers}:Act).put dst Go.undef) w
 |.pan x=>∀ v,aF G x v->Q (.panic [{v,recovered:=false}]) ca w
def Jt (o:Oper)(a:bE)(n:Nat)(h:Hp)(out:Out rR):Prop:=
 Fr n h out/\∀(K:cG) (G:Gh) (w:World) (ro:Option Nat) (ca:Act),St w0 B Gl K G w n out.hi h (out.rd|||out.wr)->eT G ro a ca->
  ∀(next:Act->World->Prop) (Q:Exit->Act->World->Prop),(∀ G' w',eU G G' n out.nx->eO w0 B (K.merge out) G' w'->ResK G' o.dst ca next Q w' out.val)->
   o.uponIn (Fw ro) 0 P ca next Q ((o.semAt ro ca.eval).run P w)
def nR (f:FuncId)(args:List AV)(n:Nat)(h:Hp)(out:Out aS):Prop:=
 Fr n h out/\∀(K:cG) (G:Gh) (w:World) (cargs:Array Value),St w0 B Gl K G w n out.hi h (out.rd|||out.wr)->aI G args cargs.toList->
  ∀ R:Ending->World->Prop,(∀ G' e w',eU G G' n out.nx->eO w0 B (K.merge out) G' w'->rV G' out.val e->R e w')->CallsIn (Fw none) 0 P f cargs w R
def Vh (fn:Func)(a:bE)(mode:Option AV)(n:Nat)(h:Hp)(out:Out aS):Prop:=
 Fr n h out/\∀(K:cG) (G:Gh) (w:World) (ca:Act) (u:FrameMode),St w0 B Gl K G w n out.hi h (out.rd|||out.wr)->eT G none a ca->kZ G mode u->
  ∀ R:Ending->World->Prop,(∀ G' e w',eU G G' n out.nx->eO w0 B (K.merge out) G' w'->rV G' out.val e->R e w')->
   LeavesInM (Fw none) 0 P fn ca.tmps R ca.defers u w
def OD (f:FuncId)(args:List AV)(mode:Option AV)(n:Nat)(h:Hp)(out:Out (Option AV)):Prop:=
 Fr n h out/\∀(K:cG) (G:Gh) (w:World) (cargs:Array Value) (u:FrameMode),St w0 B Gl K G w n out.hi h (out.rd|||out.wr)->aI G args cargs.toList->kZ G mode u->
  ∀ R:Ending->FrameMode->World->Prop,(∀ G' v u' w',eU G G' n out.nx->eO w0 B (K.merge out) G' w'->MR G' out.val u'->R (.returned v) u' w')->
   CallsDIn (Fw none) 0 P f cargs u w R
def Gy (c:Code)(a:bE)(mode:Option AV)(n:Nat)(h:Hp)(out:Out (mQ×bE×Option AV)):Prop:=
 Fr n h out/\∀(K:cG) (G:Gh) (w:World) (ca:Act) (c₀:Frame) (cs:List Frame) (u:FrameMode),St w0 B Gl K G w n out.hi h (out.rd|||out.wr)->eT G none a ca->MR G mode u->
  ∀ Q:Exit->Act->List Frame->World->Prop,(∀ G' e ca' u' w',eU G G' n out.nx->eO w0 B (K.merge out) G' w'->fN G' out.val.1 e->eT G' none out.val.2.1 ca'->
   MR G' out.val.2.2 u'->Q e ca' ({c₀ with mode:=u'}::cs) w')->c.wpSIn (Fw none) 0 P Q ca ({c₀ with mode:=u}::cs) w
def Pf (ops:Array Oper)(l:List Oper)(a:bE)(mode:Option AV)(n:Nat)(h:Hp)(out:Out (mQ×bE×Option AV)):Prop:=
 Fr n h out/\∀(K:cG) (G:Gh) (w:World) (ca:Act) (c₀:Frame) (cs:List Frame) (u:FrameMode),St w0 B Gl K G w n out.hi h (out.rd|||out.wr)->eT G none a ca->MR G mode u->
  ∀ Q:Exit->Act->List Frame->World->Prop,(∀ G' e ca' u' w',eU G G' n out.nx->eO w0 B (K.merge out) G' w'->fN G' out.val.1 e->eT G' none out.val.2.1 ca'->
   MR G' out.val.2.2 u'->Q e ca' ({c₀ with mode:=u'}::cs) w')->
   ∀ is:List Nat,is.map (fun i=>ops[i]?)=l.map some->wpOpsSIn (Fw none) 0 P ops Q is ca ({c₀ with mode:=u}::cs) w
def Vj (l:Nat)(args:List AV)(n:Nat)(h:Hp)(out:Out aS):Prop:=
 Fr n h out/\∀(K:cG) (G:Gh) (w:World) (ro:Option Nat) (I:lR) (cargs:Array Value),St w0 B Gl K G w n out.hi h (out.rd|||out.wr)->G.nm l=some I->aI G args cargs.toList->
  ∀ R:Ending->World->Prop,(∀ G' e w',eU G G' n out.nx->eO w0 B (K.merge out) G' w'->rV G' out.val e->R e w')->
   ∃ f tmps ag b,(Instr.yield I.blk cargs).run P w=.ok (.round I.blk f tmps ag b) w/\RoundIn (Fw ro) 0 P I.blk f tmps ag b w R
variable (Gm:qC7)(Kp:qC8)
structure pL (fuel:Nat):Prop where
 code:∀ c a n h out,bD P Gl Gm Kp fuel c a n h=some out->aE n h->rU P Gl w0 B c a n h out
 loop:∀ c a n h out,bD P Gl Gm Kp fuel (.loop c) a n h=some out->aE n h->CW P Gl w0 B fuel c a n h out
 op:∀ o a n h out,jU P Gl Gm Kp fuel o a n h=some out->aE n h->Jt P Gl w0 B o a n h out
 ops:∀ ops l a n h out,eS P Gl Gm Kp fuel ops l a n h=some out->aE n h->CX P Gl w0 B ops l a n h out
 draw:∀ id ops a n h out,kD ops (jS ops)=true->
  fX P Gl Gm Kp fuel ops (jS ops) 0 ops.toList {act:=a,ret:=n,hi:=n,hp:=h,recs:=[],rd:=0,wr:=0}=some out->aE n h->rU P Gl w0 B (.region id ops true) a n h out
 call:∀ f args n h out,fT P Gl Gm Kp fuel f args n h=some out->aE n h->nR P Gl w0 B f args n h out
 leave:∀ fn top a mode n h out,dV P Gl Gm Kp fuel fn top a mode n h=some out->aE n h->Vh P Gl w0 B fn a mode n h out
 dfr:∀ f args mode n h out,fP P Gl Gm Kp fuel f args mode n h=some out->aE n h->OD P Gl w0 B f args mode n h out
 dcode:∀ c a mode n h out,zP P Gl Gm Kp fuel c a mode n h=some out->aE n h->Gy P Gl w0 B c a mode n h out
 dops:∀ ops l a mode n h out,fJ P Gl Gm Kp fuel ops l a mode n h=some out->aE n h->Pf P Gl w0 B ops l a mode n h out
 round:∀ l args n h out,jV P Gl Gm Kp fuel l args n h=some out->aE n h->Vj P Gl w0 B l args n h out
end
section
variable {P:Program}{Gl:qC6}{w0:Base}{B:Nat}{Gm:qC7}{Kp:qC8}{fuel:Nat}{K:cG}{G:Gh}{w:World}{n:Nat}{h:Hp}
theorem Sf {t:TypeId}{a v:Value}(h:(Instr.loadAt t a).run P w=.ok v w):(do loadVar t (<- asAddr a)).run P w=.ok v w:=by
 unfold Instr.loadAt at h;cases a with
 |pointer p=>
  cases p with
  |none=>simp[Instr.sureAddr,stuck]at h
  |some ad=>simpa [Instr.sureAddr,asAddr]using h
 |_=>simp[Instr.sureAddr,stuck]at h
def qV (tmps:Array Value):ResultVar->Sem Value
 |.tmp t=>pure (tmps.getD t Go.undef)
 |.cell a t=>do loadVar t (<- asAddr (tmps.getD a Go.undef))
theorem La {G:Gh}{xs:List AV}{vs:Array Value}(h:aI G xs vs.toList)(t:Nat):aF G (xs.getD t .undef) (vs.getD t Go.undef):=by
 have:=(show eT G none {tmps:=xs,defers:=[],rnd:=none} {tmps:=vs,defers:=[]} from ⟨h,rfl,rfl⟩).eval (.tmp t);exact this
theorem wM {a:bE}{tmps:Array Value}(hR:eO w0 B K G w)(hG:Pg G Gl)(ht:aI G a.tmps tmps.toList) :
  ∀(l:List ResultVar) (vs:List AV) (n n':Nat) (K':cG),(fG P Gl a l).runK n K=some (vs,n',K')->
   (n'=n/\K'=K)/\∃ cvs,aI G vs cvs/\(l.mapM (qV tmps)).run P w=.ok cvs w:=by
 intro l
 induction l with
 |nil=>
  intro vs n n' K' e;simp only[fG,AM.runK,Option.some.injEq,Prod.mk.injEq]at e;obtain⟨rfl,rfl,rfl⟩:=e;exact⟨⟨rfl,rfl⟩,[],aI.nil,by simp⟩
 |cons r l ih=>
  intro vs n n' K' e;cases r with
  |tmp t=>
   simp only[fG,qCY]at e;cases hq:(fG P Gl a l).runK n K with
   |none=>rw[hq]at e;cases e
   |some q=>
    obtain⟨a1,n1,K1⟩:=q;rw[hq]at e;simp only[Option.bind_some,AM.runK,Option.some.injEq,Prod.mk.injEq]at e;obtain⟨rfl,rfl,rfl⟩:=e;obtain⟨O,cvs,U,Y⟩:=ih _ _ _ _ hq;exact⟨O,_,aI.cons (La ht t) U,by simp[List.mapM_cons,qV,Y]⟩
  |cell p t=>
   simp only[fG,qCY]at e;cases hl:(rM P Gl t (a.tmps.getD p .undef)).runK n K with
   |none=>rw[hl]at e;cases e
   |some ql=>
    obtain⟨x,n0,K0⟩:=ql;rw[hl]at e;obtain⟨⟨rfl,rfl⟩,v,g1,g2⟩:=yY hR hG (La ht p) hl;simp only[Option.bind_some,qCY]at e;cases hq:(fG P Gl a l).runK n0 K0 with
    |none=>rw[hq]at e;cases e
    |some q=>
     obtain⟨a1,n1,K1⟩:=q;rw[hq]at e;simp only[Option.bind_some,AM.runK,Option.some.injEq,Prod.mk.injEq]at e;obtain⟨rfl,rfl,rfl⟩:=e;obtain⟨O,cvs,U,Y⟩:=ih _ _ _ _ hq;refine⟨O,_,aI.cons g2 U,?_⟩;have M:=Sf g1;simp only[Sem.run_bind]at M;simp only[List.mapM_cons,qV,Sem.run_bind,M,Result.andThen_ok,Y,Sem.run_pure]
theorem tZ {fn:Func}{tmps:Array Value}{cvs:List Value}(h:(fn.results.toList.mapM (qV tmps)).run P w=.ok cvs w) :
  (results fn tmps).run P w=.ok (if h:cvs.toArray.size=1 then cvs.toArray[0] else .tuple cvs.toArray) w:=by
 have e:fn.results.mapM (qV tmps)=List.toArray <$> fn.results.toList.mapM (qV tmps):=by
  rw[Array.mapM_eq_mapM_toList]
 have M:results fn tmps=(do
   let vs <- fn.results.mapM (qV tmps)
   pure (if h:vs.size=1 then vs[0] else .tuple vs)):=rfl
 rw[M,e];simp only[Sem.run_bind,map_eq_pure_bind,h,Result.andThen_ok,Sem.run_pure]
theorem Iv {G:Gh}:∀{vs:List AV}{cvs:List Value},aI G vs cvs->aF G (jR vs) (if h:cvs.toArray.size=1 then cvs.toArray[0] else .tuple cvs.toArray)
 |[],cvs,h=>by
  simp only[aI]at h;subst h;simp only[jR,aF,List.size_toArray,List.length_nil];exact⟨#[],rfl,by simp[aI]⟩
 |[x],cvs,h=>by
  simp only[aI]at h;obtain⟨u,us,rfl,h1,rfl⟩:=h;simpa [jR]using h1
 |x::y::r,cvs,h=>by
  have M:=h.length;simp at M;simp only[jR,aF];rw[dif_neg (by simp<;>omega)];exact⟨_,rfl,by simpa using h⟩
theorem aF.bool_inv {G:Gh}{x:AV}{b:Bool}(h:aF G x (.bool b)):x=.bool b\/x=.unk:=by
 cases x<;>simp only[aF]at h
 case bool c=>cases h;exact .inl rfl
 case unk=>exact .inr rfl
 all_goals first
  |(cases h;done)
  |(simp[Go.undef]at h;done)
  |(obtain⟨_,h⟩:=h;cases h;done)
  |(obtain⟨_,h,_⟩:=h;cases h;done)
  |(obtain⟨_,_,h⟩:=h;cases h;done)
  |(obtain⟨_,_,h,_⟩:=h;cases h;done)
  |(obtain⟨_,_,_,h,_⟩:=h;cases h;done)
  |(obtain⟨_,_,_,_,_,h,_⟩:=h;cases h;done)
theorem dO {ops:Array Oper}{a:bE}{ca:Act}{o:Oper}(ht:aI G a.tmps ca.tmps.toList)(hk:cI ops a o=true) :
  Region.wanted o (yielded ops ca.tmps)=dY ops a o:=by
 unfold Region.wanted dY;unfold cI at hk;cases hg:o.guard with
 |none=>rfl
 |some q=>
  obtain⟨j,_⟩:=q;simp only[hg]at hk ⊢;unfold yielded xC;cases hd:(ops[j]?).bind (·.dst) with
  |none=>simp
  |some d=>
   simp only[hd]at hk;simp only[Option.bind_some];cases hx:a.tmps[d]? with
   |none=>
    have hn:ca.tmps[d]?=none:=by
     have h1:=ht.length;have h2:=List.getElem?_eq_none_iff.1 hx;exact Array.getElem?_eq_none (by simpa [h1]using h2)
    simp[hn]
   |some x=>
    obtain⟨v,Y,U⟩:=aI.get d ht hx;have M:ca.tmps[d]?=some v:=(by simpa using Y);rw[hx]at hk;simp only[M];by_cases hb:∃ b,v=.bool b
    .obtain⟨b,rfl⟩:=hb;rcases U.bool_inv with rfl | rfl
     .rfl
     .simp at hk
    .have O:∀ b,x≠.bool b:=fun b e=>hb ⟨b,by subst e;simpa only[aF]using U⟩;cases x<;>cases v<;>first | rfl | (exact absurd rfl (O _)) | (exact absurd ⟨_,rfl⟩ hb)
theorem BO {o:Oper}{ca:Act}{next:Act->World->Prop}{Q:Exit->Act->World->Prop}{ro:Option Nat}{f:FuncId}{cargs:Array Value}
  (h:CallsIn (Fw none) 0 P f cargs w fun
   |.returned v,w''=>next (ca.put o.dst v) w''
   |.panicked chain,w''=>Q (.panic chain) ca w''
   |.outgrown,_=>LetsOut Q):o.uponIn (Fw ro) 0 P ca next Q (.ok (.enter f cargs) w):=by
 rw[Oper.uponIn_enter];exact⟨fun h=>by simp[Fw,Fence.wide]at h,h⟩
theorem kS {a:bE}{ca:Act}{o:Oper}{ro:Option Nat}(hA:eT G ro a ca)(hd:∀ c,o.op=.defer c->a.rnd=none):o.semAt ro ca.eval=execOp ca.eval o:=by
 cases hr:a.rnd with
 |none=>
  have:=hA.rnd;rw[hr]at this;rw[this]
  rfl
 |some l=>exact Oper.semAt_eq ro _ o fun c M=>by have:=hd c M;rw[hr]at this;cases this
theorem NE (ih:pL P Gl w0 B Gm Kp fuel)(o:Oper)(a:bE)(n:Nat)(h:Hp)(out:Out rR)(e:jU P Gl Gm Kp (fuel+1) o a n h=some out)(hl:aE n h) :
  Jt P Gl w0 B o a n h out:=by
 unfold jU at e;obtain⟨m,p,e1,M,rfl⟩:=C.bind_some e;obtain⟨f1,a2,k1⟩:=jB e1 hl;have O:∀ c,o.op=.defer c->a.rnd=none:=by
  intro c hc;have hK:=k1 (fun t=>h.get t) (fun t _=>rfl);have Y:∃ d,m.val=.dfr d:=by
   unfold fF at hK;simp only[hc]at hK;split at hK
   .split at hK
    .simp only[AM.runK,Option.some.injEq,Prod.mk.injEq]at hK;exact⟨_,hK.1.symm⟩
    .simp[AM.runK]at hK
   .simp[AM.runK]at hK
  obtain⟨d,Y⟩:=Y;rw[Y]at M;simp only at M;cases hr:a.rnd with
  |none=>rfl
  |some l=>rw[hr]at M;cases M
 have a1:∀{K:cG}{G:Gh}{w:World}{ro:Option Nat}{ca:Act},St w0 B Gl K G w n (m.seq p).hi h ((m.seq p).rd|||(m.seq p).wr)->eT G ro a ca->
   fB P w0 B w n m.nx K (K.merge m) G (execOp ca.eval o) m.val:=fun st U=>
  nN st.rel (by have:=st.left.fresh;rw[a2]at this;exact this) st.gl U (k1 _ st.left.agree)
 have fin:∀(r:rR),p={val:=r,nx:=m.nx,hi:=m.nx,hp:=m.hp,rd:=0,wr:=0}->Fr n h (m.seq p)/\(∀ K:cG,K.merge (m.seq p)=K.merge m)/\(m.seq p).nx=m.nx/\(m.seq p).val=r:=by
  rintro r rfl;rw[qCh m r f1];exact⟨f1.val r,fun _=>rfl,rfl,rfl⟩
 cases Y:m.val with
 |val x=>
  rw[Y]at M;simp only[C.ret,Option.some.injEq]at M;obtain⟨g1,g2,g3,g4⟩:=fin (.put x) M.symm;refine⟨g1,fun K G w ro ca st U next Q hq=>?_⟩;rw[kS U O];have:=a1 st U;rw[Y]at this;obtain⟨G',v,w',r1,r2,r3,r4⟩:=this;rw[r1,Oper.uponIn_value];have:=hq G' w' (by rw[g3];exact r2) (by rw[g2];exact r3);rw[g4]at this;exact this v r4
 |skip=>
  rw[Y]at M;simp only[C.ret,Option.some.injEq]at M;obtain⟨g1,g2,g3,g4⟩:=fin (.put .undef) M.symm;refine⟨g1,fun K G w ro ca st U next Q hq=>?_⟩;rw[kS U O];have:=a1 st U;rw[Y]at this;obtain⟨G',w',r1,r2,r3⟩:=this;rw[r1,Oper.uponIn_skip];have:=hq G' w' (by rw[g3];exact r2) (by rw[g2];exact r3);rw[g4]at this;exact this _ (by simp only[aF])
 |dfr d=>
  rw[Y]at M;cases hr:a.rnd with
  |some l=>rw[hr]at M;cases M
  |none=>
   rw[hr]at M;simp only[C.ret,Option.some.injEq]at M;obtain⟨g1,g2,g3,g4⟩:=fin (.dfr d) M.symm;refine⟨g1,fun K G w ro ca st U next Q hq=>?_⟩;rw[kS U O];have:=a1 st U;rw[Y]at this;obtain⟨⟨hn,hK⟩,v,r1,r4⟩:=this;rw[r1,Oper.uponIn_defer];have:=hq G w (eU.refl _ _ _) (by rw[g2,hK];exact st.rel);rw[g4]at this;exact this v r4
 |pan x=>
  rw[Y]at M;simp only[C.ret,Option.some.injEq]at M;obtain⟨g1,g2,g3,g4⟩:=fin (.pan x) M.symm;refine⟨g1,fun K G w ro ca st U next Q hq=>?_⟩;rw[kS U O];have:=a1 st U;rw[Y]at this;obtain⟨⟨hn,hK⟩,v,r1,r4⟩:=this;rw[r1,Oper.uponIn_panic];have:=hq G w (eU.refl _ _ _) (by rw[g2,hK];exact st.rel);rw[g4]at this;exact this v r4
 |rcv=>rw[Y]at M;cases M
 |enter f args=>
  rw[Y]at M;simp only at M;obtain⟨q,r,e3,e4,rfl⟩:=C.bind_some M;obtain⟨fq,kq⟩:=ih.call _ _ _ _ _ e3 f1.lt;have hr:∃ y,r={val:=y,nx:=q.nx,hi:=q.nx,hp:=q.hp,rd:=0,wr:=0}/\y=(match q.val with | .returned v=>rR.put v | .panicked v=>rR.pan v):=by
   cases hqv:q.val with
   |returned v=>rw[hqv]at e4;cases e4;exact⟨_,rfl,rfl⟩
   |panicked v=>rw[hqv]at e4;cases e4;exact⟨_,rfl,rfl⟩
  obtain⟨y,rfl,hy⟩:=hr;rw[qCh q y fq];refine⟨f1.seq (fq.val y),fun K G w ro ca st U next Q hq=>?_⟩;rw[kS U O];have:=nN st.rel (by have:=st.left.fresh;rw[a2]at this;exact this) st.gl U (k1 _ st.left.agree);rw[Y]at this;obtain⟨⟨hn,hK⟩,cargs,r1,r4⟩:=this;rw[r1];have st2:=st.right f1 (eU.refl _ _ _) (by rw[hK];exact st.rel);refine BO (kq (K.merge m) G w cargs ⟨st2.agree,st2.rel,st2.fresh,st2.gl⟩ r4 _ fun G' e w' h1 h2 h3=>?_);have:=hq G' w' (eU.seq f1 (fq.val y) (eU.refl _ _ _) h1) (by rw[<- cO (fq.val y)];exact h2);simp only[Out.seq]at this;rw[hy]at this;cases hqv:q.val with
  |returned v=>
   rw[hqv]at this h3;obtain⟨v',rfl,h4⟩:=h3;exact this v' h4
  |panicked v=>
   rw[hqv]at this h3;obtain⟨v',rfl,h4⟩:=h3;exact this v' h4
 |round l args=>
  rw[Y]at M;simp only at M;obtain⟨q,r,e3,e4,rfl⟩:=C.bind_some M;obtain⟨fq,kq⟩:=ih.round _ _ _ _ _ e3 f1.lt;have hr:∃ y,r={val:=y,nx:=q.nx,hi:=q.nx,hp:=q.hp,rd:=0,wr:=0}/\y=(match q.val with | .returned v=>rR.put v | .panicked v=>rR.pan v):=by
   cases hqv:q.val with
   |returned v=>rw[hqv]at e4;cases e4;exact⟨_,rfl,rfl⟩
   |panicked v=>rw[hqv]at e4;cases e4;exact⟨_,rfl,rfl⟩
  obtain⟨y,rfl,hy⟩:=hr;rw[qCh q y fq];refine⟨f1.seq (fq.val y),fun K G w ro ca st U next Q hq=>?_⟩;rw[kS U O];have:=nN st.rel (by have:=st.left.fresh;rw[a2]at this;exact this) st.gl U (k1 _ st.left.agree);rw[Y]at this;obtain⟨⟨hn,hK⟩,I,cargs,r1,r2,r4⟩:=this;rw[r4];have st2:=st.right f1 (eU.refl _ _ _) (by rw[hK];exact st.rel);obtain⟨f,tmps,ag,b,s1,s2⟩:=kq (K.merge m) G w ro I cargs ⟨st2.agree,st2.rel,st2.fresh,st2.gl⟩ r1 r2 (fun
   |.returned v,w''=>next (ca.put o.dst v) w''
   |.panicked chain,w''=>Q (.panic chain) ca w''
   |.outgrown,_=>LetsOut Q) fun G' e w' h1 h2 h3=>by
    have:=hq G' w' (eU.seq f1 (fq.val y) (eU.refl _ _ _) h1) (by rw[<- cO (fq.val y)];exact h2);simp only[Out.seq]at this;rw[hy]at this;cases hqv:q.val with
    |returned v=>
     rw[hqv]at this h3;obtain⟨v',rfl,h4⟩:=h3;exact this v' h4
    |panicked v=>
     rw[hqv]at this h3;obtain⟨v',rfl,h4⟩:=h3;exact this v' h4
  rw[s1,Oper.uponIn_round];exact⟨fun h=>by simp[Fw,Fence.wide]at h,s2⟩
end
section
variable {P:Program}{Gl:qC6}
def bare (S:Nat->Nat->Option Value):Gh:={nm:=fun _=>none,S}
theorem eO.start (W:World){S:Nat->Nat->Option Value}(hS:∀ b i v,S b i=some v->W.cell? ⟨b,i,none⟩=some v) :
  eO {toWorld:=W,S0:=S} W.heap.size (fun _=>none) (bare S) W where
 os:=rfl
 out:=rfl
 tape:=rfl
 size:=Nat.le_refl _
 old:=fun _ _=>rfl
 S:=hS
 obj:=fun o x h=>by cases h
 inj:=fun o o' x x' I I' h=>by cases h
 sep:=fun o x I h=>by cases h
 low:=fun b i v _ h=>h
 stay:=fun b h=>h.elim
 apart:=fun o x I h=>by cases h
theorem Bn (G:Gh):oS G (bare G.S) (fun o=>o<0):=⟨fun o M=>absurd M (Nat.not_lt_zero _),rfl⟩
theorem aF.bare {G:Gh}{x:AV}{v:Value}(hf:jO 0 x=true)(h:aF G x v):aF (bare G.S) x v:=aF.keep (Bn G) _ _ (nY 0 x hf) h
theorem aI.bare {G:Gh}{xs:List AV}{l:List Value}(hf:lF 0 xs=true)(h:aI G xs l):aI (bare G.S) xs l:=aI.keep (Bn G) _ _ (iU 0 xs hf) h
theorem JE (G:Gh):(bare G.S).le G:=⟨fun _ _ h=>(by simp[bare]at h),fun _ _ _ h=>h⟩
def mR (Gl:qC6):Prop:=∀ g cs,Gl g=some cs->∀ x ∈ cs,jO 0 x=true
theorem DN {al:Bool}{f:FuncId}{args:List AV}{x:C aS}(hx:∀(w0:Base) (B:Nat) n h out,x n h=some out->aE n h->nR P Gl w0 B f args n h out)
  (w0:Base) (B:Nat) (n:Nat) (h:Hp) (out:Out aS) (e:alone al args x n h=some out) (hl:aE n h):nR P Gl w0 B f args n h out:=hx w0 B n h out e hl
end
end Go.Ez
