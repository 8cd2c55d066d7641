/- The executor on data: part 1 of 4. No condition. -/
import Derived.Calls
import Derived.Orders
import Derived.Laws.AppendOwn
import Derived.WalkKit
import Derived.Laws.CopyOwn
/- The executor on data: its definitions. No condition. -/
namespace Go.Proofs.YtlbppjmekiemiabGreatDoor
namespace bF

structure cp where
 words:List Int
 fuel:Int
structure Signed where
 key:Int
 name:Int
 deriving DecidableEq
structure jN where
 version:Int
 keys:List Int
 dV:Int
structure Target where
 unit:Int
 image:Int
 dr:Int
 deriving DecidableEq
structure Cv where
 version:Int
 cg:Int
 targets:List Target
structure kb where
 roots:List jN
 lM:List (List Int)
 r:Cv
 sigs:List Int
 cQ:List (List Int)
structure iT where
 r:jN
 version:Int
structure Message where
 kind:Int
 unit:Int
 n:Int
 at_:Int
 image:Int
 words:List Int
 yes:Bool
structure c1 where
 f:cp
 up:Bool
 n:Int
 eG:Int
structure Gate where
 f:cp
 up:Bool
 t:iT
 cH:List Bool
 did:List Bool
structure hr where
 n:Int
 r:Cv
 cQ:List (List Int)
structure m4 where
 kind:Int
 unit:Int
 k:Int
 o:kb
structure Change where
 at_:Int
 word:Option Int
structure cX where
 b:List (List UInt8)
 s:List Signed
 g:Gate
 units:List c1
 cr:List hr
 W:List Message
 now:Int

inductive z where
 |int|bool|str|k3|u64|err
 |list (t:z)
 |signed|target|root|message|aO|aP|gR|offer|change|tw
 deriving DecidableEq

abbrev z.den:z->Type
 |.int=>Int
 |.bool=>Bool
 |.str=>List UInt8
 |.k3=>Option Int
 |.u64=>Int
 |.err=>Bool
 |.list t=>List t.den
 |.signed=>Signed
 |.target=>Target
 |.root=>jN
 |.message=>Message
 |.aO=>c1
 |.aP=>hr
 |.gR=>m4
 |.offer=>kb
 |.change=>Change
 |.tw=>cp

inductive C where
 |E (t:z) (d:t.den)
 |nil (t:z)
 |ptr (r o:Nat)
 |mw (t:z) (l:List t.den) (i k:Nat)
 |kn (r i k:Nat)
 |own (r:Nat)
 |view (r off len:Nat)
 |fn (f:Nat) (iG:List Nat)
 |mp (r:Nat)
 |iv (r:Nat)
 |lc (r k:Nat)
 |cut (r n:Nat)
 |undef
 |any

inductive V where
 |one (c:C)
 |agg (cs:List C)
 |ao (vs:List V)

inductive bS where
 |box (cs:List C)
 |arr (t:z) (l:List t.den)
 |set (aF:List Int)
 |eE (t:z) (l:List t.den) (cs:List C)
 |dead

def z.H:(t:z)->t.den
 |.int=>(0:Int)
 |.bool=>false
 |.str=>[]
 |.k3=>none
 |.u64=>(0:Int)
 |.err=>true
 |.list _=>[]
 |.signed=>⟨0,0⟩
 |.target=>⟨0,0,0⟩
 |.root=>⟨0,[],0⟩
 |.message=>⟨0,0,0,0,0,[],false⟩
 |.aO=>⟨⟨[],0⟩,false,0,0⟩
 |.aP=>⟨0,⟨0,0,[]⟩,[]⟩
 |.gR=>⟨0,0,0,⟨[],[],⟨0,0,[]⟩,[],[]⟩⟩
 |.offer=>⟨[],[],⟨0,0,[]⟩,[],[]⟩
 |.change=>⟨0,none⟩
 |.tw=>⟨[],0⟩

def z.cells:(t:z)->t.den->List C
 |.int,d=>[.E .int d]
 |.bool,d=>[.E .bool d]
 |.str,d=>[.E .str d]
 |.k3,d=>[.E .k3 d]
 |.u64,d=>[.E .u64 d]
 |.err,d=>[.E .err d]
 |.list t,d=>[.E (.list t) d]
 |.signed,d=>[.E .int d.key,.E .int d.name]
 |.target,d=>[.E .int d.unit,.E .int d.image,.E .int d.dr]
 |.root,d=>[.E .int d.version,.E (.list .int) d.keys,.E .int d.dV]
 |.message,d=>[.E .int d.kind,.E .int d.unit,.E .int d.n,.E .int d.at_,.E .int d.image,.E (.list .int) d.words,.E .bool d.yes]
 |.aO,d=>[.E (.list .int) d.f.words,.E .int d.f.fuel,.E .bool d.up,.E .int d.n,.E .int d.eG]
 |.aP,d=>[.E .int d.n,.E .int d.r.version,.E .int d.r.cg,.E (.list .target) d.r.targets,.E (.list (.list .int)) d.cQ]
 |.gR,d=>[.E .int d.kind,.E .int d.unit,.E .int d.k,.E (.list .root) d.o.roots,.E (.list (.list .int)) d.o.lM,
   .E .int d.o.r.version,.E .int d.o.r.cg,.E (.list .target) d.o.r.targets,.E (.list .int) d.o.sigs,.E (.list (.list .int)) d.o.cQ]
 |.offer,d=>[.E (.list .root) d.roots,.E (.list (.list .int)) d.lM,
   .E .int d.r.version,.E .int d.r.cg,.E (.list .target) d.r.targets,.E (.list .int) d.sigs,.E (.list (.list .int)) d.cQ]
 |.change,d=>[.E .int d.at_,.E .k3 d.word]
 |.tw,d=>[.E (.list .int) d.words,.E .int d.fuel]

def z.width:z->Nat
 |.signed=>2
 |.target=>3
 |.root=>3
 |.message=>7
 |.aO=>5
 |.aP=>5
 |.gR=>10
 |.offer=>7
 |.change=>2
 |.tw=>2
 |_=>1

def z.Bt:(t:z)->List C->Option t.den
 |.int,[.E .int d]=>some d
 |.bool,[.E .bool d]=>some d
 |.str,[.E .str d]=>some d
 |.k3,[.E .k3 d]=>some d
 |.u64,[.E .u64 d]=>some d
 |.err,[.E .err d]=>some d
 |.list t,[.E (.list u) d]=>if h:u=t then some (h▸d)else none
 |.signed,[.E .int a,.E .int b]=>some ⟨a,b⟩
 |.target,[.E .int a,.E .int b,.E .int c]=>some ⟨a,b,c⟩
 |.root,[.E .int a,.E (.list .int) b,.E .int c]=>some ⟨a,b,c⟩
 |.message,[.E .int a,.E .int b,.E .int c,.E .int d,.E .int e,.E (.list .int) f,.E .bool g]=>some ⟨a,b,c,d,e,f,g⟩
 |.aO,[.E (.list .int) a,.E .int b,.E .bool c,.E .int d,.E .int e]=>some ⟨⟨a,b⟩,c,d,e⟩
 |.aP,[.E .int a,.E .int b,.E .int c,.E (.list .target) d,.E (.list (.list .int)) e]=>some ⟨a,⟨b,c,d⟩,e⟩
 |.gR,[.E .int a,.E .int b,.E .int c,.E (.list .root) d,.E (.list (.list .int)) e,.E .int f,.E .int g,.E (.list .target) h,.E (.list .int) i,.E (.list (.list .int)) j] =>
  some ⟨a,b,c,d,e,⟨f,g,h⟩,i,j⟩
 |.offer,[.E (.list .root) d,.E (.list (.list .int)) e,.E .int f,.E .int g,.E (.list .target) h,.E (.list .int) i,.E (.list (.list .int)) j] =>
  some ⟨d,e,⟨f,g,h⟩,i,j⟩
 |.change,[.E .int a,.E .k3 b]=>some ⟨a,b⟩
 |.tw,[.E (.list .int) a,.E .int b]=>some ⟨a,b⟩
 |_,_=>none

inductive Zx where
 |int|bool|str|other|u64|qH|iface
 |slice (t:z) (e:Nat)
 |struct
 |array (n size:Nat)

structure c9 where
 n:Nat
 hy:Zx
 zero:List C
 kM:List Nat
 jI:List Nat
 bytes:Nat

def c9.agg(aM:c9):Bool:=match aM.hy with | .struct=>true | .array _ _=>true|_=>false
def c9.elem(aM:c9):Option z:=match aM.hy with | .slice t _=>some t|_=>none
def c9.isInt(aM:c9):Bool:=match aM.hy with | .int=>true|_=>false
def c9.xL(aM:c9):Bool:=match aM.hy with | .u64=>true|_=>false
def c9.isBool(aM:c9):Bool:=match aM.hy with | .bool=>true|_=>false
def c9.isIface(aM:c9):Bool:=match aM.hy with | .iface=>true|_=>false
def c9.isStr(aM:c9):Bool:=match aM.hy with | .str=>true|_=>false
def c9.isSlice(aM:c9)(t:z):Bool:=match aM.hy with | .slice u _=>decide (u=t)|_=>false
def c9.Kt(aM:c9):Bool:=match aM.hy with | .struct=>true|_=>false

structure cm where
 types:List (Nat×c9)
 f0:Nat
 f1:Nat
 eqs:List Nat
 w:Bool
 pow:Option Nat
 ae7:Option Nat
 aaZ:List Nat
 due:Option Nat

abbrev Env:=List (Nat×V)
abbrev Mem:=List (Nat×bS)

def look{α:Type}:List (Nat×α)->Nat->Option α
 |[],_=>none
 |(k,v)::rest,n=>match Nat.beq k n with|true=>some v|false=>look rest n

def hg:List Nat->Nat->Bool
 |[],_=>false
 |k::rest,n=>match Nat.beq k n with|true=>true|false=>hg rest n

structure bO where
 env:Env
 mem:Mem
 base:Nat

def U(n:Int):Int:=IntKind.i64.wrap n
def pX(n:Int):Int:=IntKind.u64.wrap n
def aL(a b:Int):Bool:=decide (a<b)
def dh(a b:Int):Bool:=decide (a<=b)
def ar(a b:Int):Bool:=decide (a=b)
def h3(a b:Bool):Bool:=decide (a=b)
def eqs(a b:List UInt8):Bool:=decide (a=b)
def q4(a b:Int):Int:=U ((BitVec.ofInt 64 a &&& BitVec.ofInt 64 b).toNat)
def Bz(a b:Int):Int:=U ((BitVec.ofInt 64 a ||| BitVec.ofInt 64 b).toNat)
def hZ(a b:Int):Int:=U ((BitVec.ofInt 64 a ^^^ BitVec.ofInt 64 b).toNat)
def aW{α:Type}(l:List α)(lo hi:Nat):List α:=(l.take hi).drop lo
def put{α:Type}(l:List α)(at_:Nat)(m:List α):List α:=l.take at_++m++l.drop (at_+m.length)
def nth{α:Type}(l:List α)(i:Nat)(d:α):α:=l.getD i d
def setAt{α:Type}(l:List α)(i:Nat)(x:α):List α:=l.set i x
def len{α:Type}(l:List α):Nat:=l.length
def bZ{α:Type}(n:Nat)(x:α):List α:=List.replicate n x
def cat{α:Type}(a b:List α):List α:=a++b

def J(b:Bool)(p q:Prop):Prop:=match b with|true=>p|false=>q

def dQ(tab:cm)(t:Nat):Option c9:=look tab.types t

def Dn(tab:cm)(ty:Nat):Value->Option V
 |.int .i64 n=>some (.one (.E .int n))
 |.int .u64 n=>some (.one (.E .u64 n))
 |.bool b=>some (.one (.E .bool b))
 |.string s=>some (.one (.E .str s.data.toList))
 |.nilIface=>some (.one (.E .err true))
 |.slice none n m=>match Nat.beq n 0,Nat.beq m 0,dQ tab ty with
  |true,true,some aM=>match aM.elem with
   |some t=>some (.one (.nil t))
   |none=>none
  |_,_,_=>none
 |_=>none

def xo(tab:cm)(env:Env)(ty:Nat):Operand->Option V
 |.tmp t=>look env t
 |.const v=>Dn tab ty v
 |.func f=>some (.one (.fn f []))
 |.global _=>none

def lA(tab:cm)(env:Env):List (Nat×Operand)->Option (List V)
 |[]=>some []
 |(ty,o)::rest=>match xo tab env ty o with
  |some v=>match lA tab env rest with
   |some vs=>some (v::vs)
   |none=>none
  |none=>none

def pairUp:List Nat->List Operand->List (Nat×Operand)
 |t::ts,o::os=>(t,o)::pairUp ts os
 |[],o::os=>(0,o)::pairUp [] os
 |_,[]=>[]

def operands(o:Oper):List (Nat×Operand) :=
 match o.op with
 |.move x | .assign x=>[(o.type,x)]
 |.store t a x=>[(0,a),(t,x)]
 |.box t x=>[(t,x)]
 |.pick c a b=>[(0,c),(o.type,a),(o.type,b)]
 |.build _ ps=>ps.toList.map fun p=>(0,p.2)
 |.buildSlice _ _ ps=>ps.toList.map fun p=>(0,p.2)
 |.call c=>match c.callee with
  |.value f=>(0,f)::pairUp c.argTypes.toList c.args.toList
  |.builtin _=>pairUp c.argTypes.toList c.args.toList
  |.invoke r _=>(0,r)::pairUp c.argTypes.toList c.args.toList
 |op=>op.operands.toList.map fun x=>(0,x)

def C.names:C->List Nat
 |.ptr r _ | .kn r _ _ | .own r | .view r _ _ | .mp r | .iv r | .lc r _ | .cut r _=>[r]
 |.fn _ iG=>iG
 |_=>[]

def V.names:V->List Nat
 |.one c=>c.names
 |.agg cs=>cs.flatMap C.names
 |.ao _=>[]

def bS.names:bS->List Nat
 |.box cs=>cs.flatMap C.names
 |.eE _ _ cs=>cs.flatMap C.names
 |_=>[]

def q1(seen:List Nat):List Nat->List Nat
 |[]=>seen
 |r::rest=>match hg seen r with|true=>q1 seen rest|false=>q1 (seen++[r]) rest

def closure(mem:Mem):Nat->Nat->List Nat->List Nat
 |0,_,seen=>seen
 |fuel+1,i,seen =>
  match seen[i]? with
  |none=>seen
  |some r=>match look mem r with
   |some b=>closure mem fuel (i+1) (q1 seen b.names)
   |none=>closure mem fuel (i+1) seen

def reach(mem:Mem)(vs:List V):List Nat:=closure mem 200 0 (q1 [] (vs.flatMap V.names))

def Y0(o:Oper)(vs:List V)(mem:Mem):List Nat :=
 match o.op with
 |.load _ _ | .store _ _ _ | .indexAddr _ _ _ | .slice _ _ _ _ _ | .buildSlice _ _ _ | .nilCheck _ | .fieldAddr _ _ _ | .lookup _ _ _ _ | .mapUpdate _ _ _ _=>q1 [] (vs.flatMap V.names)
 |.call c=>match c.callee with
  |.builtin .append=>reach mem vs
  |.builtin _=>q1 [] (vs.flatMap V.names)
  |_=>reach mem vs
 |_=>[]

def fi(mem:Mem)(names:List Nat):Mem:=names.map fun r=>(r,(look mem r).getD .dead)

def qh(mem:Mem):C->Option (C×List Nat)
 |.E t d=>some (.E t d,[])
 |.nil t=>some (.E (.list t) [],[])
 |.own r=>match look mem r with
  |some (.arr t l)=>some (.E (.list t) l,[r])
  |_=>none
 |_=>none
def ti(mem:Mem):List C->Option (List C×List Nat)
 |[]=>some ([],[])
 |c::rest=>match qh mem c with
  |some (fN,ns)=>match ti mem rest with
   |some (cs,ms)=>some (fN::cs,ns++ms)
   |none=>none
  |none=>none
def vM(mem:Mem)(t:z)(cs:List C):Option (t.den×List Nat) :=
 match ti mem cs with
 |some (ds,ns)=>match t.Bt ds with
  |some d=>some (d,ns)
  |none=>none
 |none=>none

def ma(tab:cm)(mem:Mem):C->Option (C×List Nat)
 |.E t d=>some (.E t d,[])
 |.nil t=>some (.E (.list t) [],[])
 |.own r=>match look mem r with
  |some (.arr t l)=>some (.E (.list t) l,[r])
  |_=>none
 |.iv r=>match look mem r with
  |some (.eE t l cs)=>match vM mem t cs with
   |some (d,ns)=>some (.E (.list t) (cat l [d]),r::ns)
   |none=>none
  |_=>none
 |.fn f []=>match Nat.beq f tab.f0 with
  |true=>some (.E .k3 none,[])
  |false=>none
 |.fn f [r]=>match Nat.beq f tab.f1 with
  |true=>match look mem r with
   |some (.box [.E .int n])=>some (.E .k3 (some n),[r])
   |_=>none
  |false=>none
 |_=>none

def rU(tab:cm)(mem:Mem):List C->Option (List C×List Nat)
 |[]=>some ([],[])
 |c::rest=>match ma tab mem c with
  |some (fN,ns)=>match rU tab mem rest with
   |some (cs,ms)=>some (fN::cs,ns++ms)
   |none=>none
  |none=>none

def V.cells:V->Option (List C)
 |.one .undef=>none
 |.one c=>some [c]
 |.agg cs=>some cs
 |.ao _=>none

def xR(agg:Bool)(cs:List C):Option V :=
 match agg with
 |true=>some (.agg cs)
 |false=>match cs with
  |[c]=>some (.one c)
  |_=>none

def gY(ns:List Nat):Mem:=ns.map fun r=>(r,.dead)

abbrev Out:=Option (Option Prop×V×Mem)

def uc(aM:c9)(a:C)(mem:Mem):Out :=
 match a with
 |.ptr r o=>match look mem r with
  |some (.box cs) =>
   match xR aM.agg (aW cs o (o+aM.n))with
   |some v=>match Nat.ble (o+aM.n) cs.length with
    |true=>some (none,v,[])
    |false=>none
   |none=>none
  |_=>none
 |.mw t l i k =>
  match Nat.ble (k+aM.n) t.width with
  |true=>match xR aM.agg (aW (t.cells (nth l i t.H)) k (k+aM.n))with
   |some v=>some (none,v,[])
   |none=>none
  |false=>none
 |.kn r i k=>match look mem r with
  |some (.arr t l) =>
   match Nat.ble (k+aM.n) t.width with
   |true=>match xR aM.agg (aW (t.cells (nth l i t.H)) k (k+aM.n))with
    |some v=>some (some (i<len l),v,[])
    |none=>none
   |false=>none
  |_=>none
 |.lc r k=>match look mem r with
  |some (.eE _ _ cs) =>
   match xR aM.agg (aW cs k (k+aM.n))with
   |some v=>match Nat.ble (k+aM.n) cs.length with
    |true=>some (none,v,[])
    |false=>none
   |none=>none
  |_=>none
 |_=>none

def NN(tab:cm)(aM:c9)(a:C)(v:V)(mem:Mem):Out :=
 match v.cells with
 |none=>none
 |some cs =>
  match Nat.beq cs.length aM.n with
  |false=>none
  |true =>
   match a with
   |.ptr r o=>match look mem r with
    |some (.box old)=>match Nat.ble (o+aM.n) old.length with
     |true=>some (none,.one .undef,[(r,.box (put old o cs))])
     |false=>none
    |_=>none
   |.kn r i k=>match rU tab mem cs with
    |some (ds,ns)=>match hg ns r with
     |true=>none
     |false=>match look mem r with
      |some (.arr t l)=>match Nat.ble (k+aM.n) t.width with
       |true=>match t.Bt (put (t.cells (nth l i t.H)) k ds)with
        |some d=>some (some (i<len l),.one .undef,(r,.arr t (setAt l i d))::gY ns)
        |none=>none
       |false=>none
      |_=>none
    |none=>none
   |.lc r k=>match look mem r with
    |some (.eE t l old)=>match Nat.ble (k+aM.n) old.length with
     |true=>some (none,.one .undef,[(r,.eE t l (put old k cs))])
     |false=>none
    |_=>none
   |_=>none

structure Gj where
 pre:Option Prop
 t:z
 l:List t.den

def mS(mem:Mem):C->Option Gj
 |.E (.list t) l=>some ⟨none,t,l⟩
 |.nil t=>some ⟨none,t,[]⟩
 |.own r=>match look mem r with
  |some (.arr t l)=>some ⟨none,t,l⟩
  |_=>none
 |.view r off n=>match look mem r with
  |some (.arr t l)=>some ⟨some (off+n<=len l),t,aW l off (off+n)⟩
  |_=>none
 |_=>none

def both:Option Prop->Prop->Prop
 |none,q=>q
 |some p,q=>p/\q

def rK(aM:c9)(mem:Mem):C->Out
 |.E .str l=>match aM.isStr with
  |true=>some (none,.one (.E .int (len l:Nat)),[])
  |false=>none
 |.view r _ n=>match look mem r with
  |some (.arr t _)=>match aM.isSlice t with
   |true=>some (none,.one (.E .int (n:Nat)),[])
   |false=>none
  |_=>none
 |.iv r=>match look mem r with
  |some (.eE t l _)=>match aM.isSlice t with
   |true=>some (none,.one (.E .int ((len l+1:Nat):Int)),[])
   |false=>none
  |_=>none
 |c=>match mS mem c with
  |some ⟨_,t,l⟩=>match aM.isSlice t with
   |true=>some (none,.one (.E .int (len l:Nat)),[])
   |false=>none
  |none=>none

def rF(aM:c9)(mem:Mem)(x:C)(i:Int):Out :=
 match x with
 |.E (.list t) l=>match aM.isSlice t with
  |true=>some (some (0<=i/\i<(len l:Nat)),.one (.mw t l i.toNat 0),[])
  |false=>none
 |.own r=>match look mem r with
  |some (.arr t l)=>match aM.isSlice t with
   |true=>some (some (0<=i/\i<(len l:Nat)),.one (.kn r i.toNat 0),[])
   |false=>none
  |_=>none
 |.view r off n=>match look mem r with
  |some (.arr t l)=>match aM.isSlice t with
   |true=>some (some (0<=i/\i<(n:Nat)/\off+n<=len l),.one (.kn r (off+i.toNat) 0),[])
   |false=>none
  |_=>none
 |.nil _=>some (some False,.one .undef,[])
 |.iv r=>match look mem r with
  |some (.eE t l _)=>match aM.isSlice t with
   |true=>some (some (i=(len l:Nat)),.one (.lc r 0),[])
   |false=>none
  |_=>none
 |.ptr r o=>match aM.hy,look mem r with
  |.array n size,some (.box _)=>some (some (0<=i/\i<(n:Nat)),.one (.ptr r (o+i.toNat*size)),[])
  |_,_=>none
 |_=>none

def s0(aM:c9)(mem:Mem)(x:C)(lo hi rN:Option Int):Out :=
 match x with
 |.E (.list t) l=>match rN,aM.isSlice t with
  |none,true=>some (some (0<=lo.getD 0/\lo.getD 0<=hi.getD (len l:Nat)/\hi.getD (len l:Nat)<=(len l:Nat)),
    .one (.E (.list t) (aW l (lo.getD 0).toNat (hi.getD (len l:Nat)).toNat)),[])
  |_,_=>none
 |.nil t=>match rN,aM.isSlice t with
  |none,true=>some (some (lo.getD 0=0/\hi.getD 0=0),.one (.nil t),[])
  |_,_=>none
 |.own r=>match look mem r with
  |some (.arr t l)=>match aM.isSlice t with
   |true=>match rN with
    |none=>some (some (0<=lo.getD 0/\lo.getD 0<=hi.getD (len l:Nat)/\hi.getD (len l:Nat)<=(len l:Nat)),
      .one (.view r (lo.getD 0).toNat (hi.getD (len l:Nat)-lo.getD 0).toNat),[])
    |some m=>match lo,hi with
     |none,some h=>some (some (0<=h/\h=m/\m<=(len l:Nat)),.one (.cut r h.toNat),[])
     |some _,some h=>some (some (0<=lo.getD 0/\lo.getD 0<=h/\h<=m/\m=(len l:Nat)),.one (.view r (lo.getD 0).toNat (h-lo.getD 0).toNat),[])
     |_,none=>none
   |false=>none
  |_=>none
 |.view r 0 n=>match look mem r with
  |some (.arr t l)=>match rN,aM.isSlice t with
   |none,true=>some (some (0<=lo.getD 0/\lo.getD 0<=hi.getD (n:Nat)/\hi.getD (n:Nat)<=(len l:Nat)),
     .one (.view r (lo.getD 0).toNat (hi.getD (n:Nat)-lo.getD 0).toNat),[])
   |_,_=>none
  |_=>none
 |_=>none

def ajc(r:Nat):C->Bool
 |.view q _ _=>Nat.beq q r
 |_=>false

def zN(aM:c9)(base bytes:Nat)(mem:Mem)(s x:C):Out :=
 match mS mem x with
 |none=>none
 |some ⟨p,u,m⟩ =>
  match aM.isSlice u with
  |false=>none
  |true =>
  match s with
  |.nil t=>if h:u=t then some (some (both p ((len m)*bytes<=140737488355328)),.one (.own base),[(base,.arr t (h▸m))])else none
  |.own r=>match look mem r with
   |some (.arr t l)=>if h:u=t then some (some (both p ((len l+len m)*bytes<=140737488355328)),.one (.own base),[(r,.dead),(base,.arr t (cat l (h▸m)))])else none
   |_=>none
  |.cut r n=>match look mem r with
   |some (.arr t l)=>if h:u=t then some (some (both p (n<=len l/\(n+len m)*bytes<=140737488355328)),.one (.own base),[(r,.dead),(base,.arr t (cat (aW l 0 n) (h▸m)))])else none
   |_=>none
  |.view r 0 n=>match look mem r with
   |some (.arr t l)=>if h:u=t then(match ajc r x with
     |true=>some (some (both p (n+len m<=len l)),.one (.view r 0 (n+len m)),[(r,.arr t (put l n (h▸m))),(base,.arr t [])])
     |false=>some (some (both p (n<=len l/\(n+len m)*bytes<=140737488355328)),.one (.own base),[(r,.dead),(base,.arr t (cat (aW l 0 n) (h▸m)))]))else none
   |_=>none
  |_=>none

def zO(aM:c9)(base bytes:Nat)(mem:Mem)(s:C)(a:Nat):Out :=
 match look mem a with
 |some (.eE u [] cs) =>
  match aM.isSlice u with
  |false=>none
  |true=>match Nat.beq cs.length u.width with
  |false=>none
  |true =>
  match s with
  |.own r=>match look mem r with
   |some (.arr t l)=>if u=t then some (some ((len l+1)*bytes<=140737488355328),.one (.iv base),[(r,.dead),(a,.dead),(base,.eE t l cs)])else none
   |_=>none
  |.iv r=>match Nat.beq r a with
   |true=>none
   |false=>match look mem r with
    |some (.eE t l kz)=>if u=t then(match vM mem t kz with
     |some (d,ns)=>some (some ((len l+2)*bytes<=140737488355328),.one (.iv base),(r,.dead)::(a,.dead)::(base,.eE t (cat l [d]) cs)::gY ns)
     |none=>none)else none
    |_=>none
  |_=>none
 |_=>none

def IJ(aM:c9)(mem:Mem)(s x:C):Out :=
 match mS mem x with
 |none=>none
 |some ⟨p,u,m⟩ =>
  match aM.isSlice u with
  |false=>none
  |true =>
  match s with
  |.own r=>match look mem r with
   |some (.arr t l)=>if h:u=t then some (p,.one (.E .int (min (len l) (len m):Nat)),[(r,.arr t (put l 0 (aW (h▸m:List t.den) 0 (min (len l) (len m)))))])else none
   |_=>none
  |.view r off n=>match look mem r with
   |some (.arr t l)=>if h:u=t then some (some (both p (off+n<=len l)),.one (.E .int (min n (len m):Nat)),[(r,.arr t (put l off (aW (h▸m:List t.den) 0 (min n (len m)))))])else none
   |_=>none
  |_=>none

def z.qL:z->Bool
 |.k3=>false
 |.err=>false
 |.change=>false
 |_=>true

def xf(aM:c9)(mem:Mem):C->Out
 |.own r=>match look mem r with
  |some (.arr t l)=>match aM.isSlice t,t.qL with
   |true,true=>some (none,.ao [],[(r,.arr t (bZ (len l) t.H))])
   |_,_=>none
  |_=>none
 |.nil t=>match aM.isSlice t with
  |true=>some (none,.ao [],[])
  |false=>none
 |.view r off n=>match look mem r with
  |some (.arr t l)=>match aM.isSlice t,t.qL with
   |true,true=>some (some (off+n<=len l),.ao [],[(r,.arr t (put l off (bZ n t.H)))])
   |_,_=>none
  |_=>none
 |_=>none

def lU(k:Int)(aF:List Int):Bool:=decide (k∈aF)
def nX(k:Int)(aF:List Int):List Int:=match lU k aF with|true=>aF|false=>aF++[k]

def xQ(mem:Mem)(r:Nat):Option (List Int):=match look mem r with
 |some (.set aF)=>some aF
 |_=>none

def Ks(op:BinOp)(a b:Int):Option (Option Prop×C) :=
 match op with
 |.add=>some (none,.E .int (U (a+b)))
 |.sub=>some (none,.E .int (U (a-b)))
 |.mul=>some (none,.E .int (U (a*b)))
 |.quo=>some (some (b≠0),.E .int (U (a.tdiv b)))
 |.rem=>some (some (b≠0),.E .int (a.tmod b))
 |.and=>some (none,.E .int (q4 a b))
 |.or=>some (none,.E .int (Bz a b))
 |.xor=>some (none,.E .int (hZ a b))
 |.lss=>some (none,.E .bool (aL a b))
 |.leq=>some (none,.E .bool (dh a b))
 |.gtr=>some (none,.E .bool (aL b a))
 |.geq=>some (none,.E .bool (dh b a))
 |.eql=>some (none,.E .bool (ar a b))
 |.neq=>some (none,.E .bool (!ar a b))
 |_=>none

def tq:C->C->Option Bool
 |.E .int a,.E .int b=>some (ar a b)
 |.E .bool a,.E .bool b=>some (h3 a b)
 |.E .str a,.E .str b=>some (eqs a b)
 |_,_=>none

def hR:List C->List C->Option Bool
 |[],[]=>some true
 |a::as,b::au=>match tq a b with
  |some x=>match hR as au with
   |some y=>some (x&&y)
   |none=>none
  |none=>none
 |_,_=>none

def zW(tab:cm)(op:BinOp)(ty:Nat)(x y:V):Out :=
 match x,y with
 |.one (.E .int a),.one (.E .int b)=>match Ks op a b with
  |some (p,c)=>some (p,.one c,[])
  |none=>none
 |.one (.E .bool a),.one (.E .bool b)=>match (dQ tab ty).map c9.isBool with
  |some true=>match op with
   |.eql=>some (none,.one (.E .bool (h3 a b)),[])
   |.neq=>some (none,.one (.E .bool (!h3 a b)),[])
   |_=>none
  |_=>none
 |.one (.E .u64 a),.one (.E .u64 b)=>match op with
  |.gtr=>some (none,.one (.E .bool (aL b a)),[])
  |_=>none
 |.one (.E .str a),.one (.E .str b)=>match op with
  |.add=>some (some (len a+len b<=140737488355328),.one (.E .str (cat a b)),[])
  |.eql=>some (none,.one (.E .bool (eqs a b)),[])
  |.neq=>some (none,.one (.E .bool (!eqs a b)),[])
  |_=>none
 |.agg as,.agg au=>match hg tab.eqs ty,hR as au,dQ tab ty with
  |true,some r,some aM=>match hR aM.zero as with
   |some _=>match op with
    |.eql=>some (none,.one (.E .bool r),[])
    |.neq=>some (none,.one (.E .bool (!r)),[])
    |_=>none
   |none=>none
  |_,_,_=>none
 |_,_=>none

def np:List C->List (Nat×List C)->Option (List C)
 |bg,[]=>some bg
 |bg,(off,cs)::rest=>match Nat.ble (off+cs.length) bg.length with
  |true=>np (put bg off cs) rest
  |false=>none

def tv(kM jI:List Nat):List Nat->List V->Option (List (Nat×List C))
 |[],[]=>some []
 |f::c7,v::vs=>match kM[f]?,jI[f]?,v.cells,tv kM jI c7 vs with
  |some o,some n,some cs,some r=>match Nat.beq cs.length n with
   |true=>some ((o,cs)::r)
   |false=>none
  |_,_,_,_=>none
 |_,_=>none

def mv(tab:cm)(mem:Mem)(t:z):Nat->Nat->List Nat->List V->Option (List t.den×List Nat)
 |0,_,[],[]=>some ([],[])
 |0,_,_,_=>none
 |n+1,i,[],[]=>match mv tab mem t n (i+1) [] []with
  |some (l,ms)=>some (t.H::l,ms)
  |none=>none
 |n+1,i,j::A8,v::us=>match Nat.beq i j with
  |true=>match v.cells with
   |some cs=>match rU tab mem cs with
    |some (ds,ns)=>match t.Bt ds with
     |some d=>match mv tab mem t n (i+1) A8 us with
      |some (l,ms)=>some (d::l,ns++ms)
      |none=>none
     |none=>none
    |none=>none
   |none=>none
  |false=>match mv tab mem t n (i+1) (j::A8) (v::us)with
   |some (l,ms)=>some (t.H::l,ms)
   |none=>none
 |_+1,_,_,_=>none

abbrev a7:=List V->List bS->Option (Option Prop×V×List bS)
abbrev Ctx:=List (Nat×a7)

def idx(seen:List Nat)(r:Nat):Nat:=seen.idxOf r

def C.cA(f:Nat->Nat):C->C
 |.ptr r o=>.ptr (f r) o
 |.kn r i k=>.kn (f r) i k
 |.own r=>.own (f r)
 |.view r a b=>.view (f r) a b
 |.fn g iG=>.fn g (iG.map f)
 |.mp r=>.mp (f r)
 |.iv r=>.iv (f r)
 |.lc r k=>.lc (f r) k
 |.cut r n=>.cut (f r) n
 |c=>c

def V.cA(f:Nat->Nat):V->V
 |.one c=>.one (c.cA f)
 |.agg cs=>.agg (cs.map (C.cA f))
 |.ao vs=>.ao (vs.map fun v=>match v with
  |.one c=>.one (c.cA f)
  |.agg cs=>.agg (cs.map (C.cA f))
  |.ao us=>.ao us)

def bS.cA(f:Nat->Nat):bS->bS
 |.box cs=>.box (cs.map (C.cA f))
 |.eE t l cs=>.eE t l (cs.map (C.cA f))
 |b=>b

def pY:V->V
 |.one (.nil t)=>.one (.E (.list t) [])
 |.agg cs=>.agg (cs.map fun c=>match c with | .nil t=>.E (.list t) [] | c=>c)
 |v=>v

def gF(seen:List Nat)(base:Nat)(j:Nat):Nat :=
 match seen[j]? with
 |some r=>r
 |none=>base+(j-seen.length)

def ka{α:Type}(i:Nat):List α->List (Nat×α)
 |[]=>[]
 |a::as=>(i,a)::ka (i+1) as

def re(tab:cm)(mem:Mem):List V->Option (List V×List Nat)
 |[]=>some ([],[])
 |v::rest =>
  match (match v with
   |.one c=>(ma tab mem c).map fun p=>(V.one p.1,p.2)
   |.agg cs=>(rU tab mem cs).map fun p=>(V.agg p.1,p.2)
   |.ao _=>none),re tab mem rest with
  |some (e1,ns),some (vs,ms)=>some (e1::vs,ns++ms)
  |_,_=>none

def C.plain:C->Bool
 |.E .int _ | .E .bool _ | .E .str _ | .any=>true
 |_=>false

def V.Lg:V->Bool
 |.one c=>c.plain
 |.agg cs=>cs.all C.plain
 |.ao _=>false

def V.plain:V->Bool
 |.ao vs=>vs.all V.Lg
 |v=>v.Lg

def aja:bS->bS->Bool
 |_,.dead=>true
 |.box cs,.box ds=>Nat.beq cs.length ds.length
 |.arr t _,.arr u _=>decide (t=u)
 |.set _,.set _=>true
 |_,_=>false

def ua:List bS->List bS->Bool
 |[],more=>Nat.ble more.length 7
 |a::as,b::au=>match aja a b with|true=>ua as au|false=>false
 |_::_,[]=>false

def q2(seen:List Nat):List Nat->Bool
 |[]=>true
 |r::rest=>match hg seen r with|true=>q2 seen rest|false=>false

def distinct:List Nat->Bool
 |[]=>true
 |r::rest=>match hg rest r with|true=>false|false=>distinct rest

def u0(base:Nat):List Nat->Bool
 |[]=>true
 |r::rest=>match Nat.ble base r with|true=>false|false=>u0 base rest

def V.Eu:V->Bool
 |.ao _=>false
 |_=>true

def Bu(base:Nat)(seen:List Nat)(args:List V)(au:List bS):Bool :=
 match distinct seen with
 |true=>match u0 base seen with
  |true=>match q2 seen (args.flatMap V.names)with
   |true=>match args.all V.Eu with
    |true=>q2 seen (au.flatMap bS.names)
    |false=>false
   |false=>false
  |false=>false
 |false=>false

def ky(seen:List Nat)(base:Nat)(au:List bS):Mem :=
 (ka 0 au).map fun q=>(gF seen base q.1,q.2.cA (gF seen base))

def Lf(c:a7)(g:Nat->Nat)(ins:List bS)(args:List V):List V :=
 match c (args.map (V.cA g)) ins with
 |some _=>args
 |none=>args.map pY

def oR(tab:cm)(mem:Mem):List V->List V×List Nat
 |[]=>([],[])
 |v::rest =>
  match (match v with
   |.one c=>(ma tab mem c).map fun p=>(V.one p.1,p.2)
   |.agg cs=>(rU tab mem cs).map fun p=>(V.agg p.1,p.2)
   |.ao _=>none)with
  |some (e1,ns)=>(e1::(oR tab mem rest).1,ns++(oR tab mem rest).2)
  |none=>(v::(oR tab mem rest).1,(oR tab mem rest).2)

def vf(ns:List Nat):List Nat->List Nat
 |[]=>[]
 |r::rest=>match hg ns r with|true=>vf ns rest|false=>r::vf ns rest

def Ix(tab:cm)(base:Nat)(mem:Mem)(c:a7)(as:List V)(ns:List Nat):Out :=
 let seen:=vf ns (mem.map (·.1))
 let mm:=fi mem seen
 let ins:=mm.map fun p=>p.2.cA (idx seen)
 match c (as.map (V.cA (idx seen))) ins with
 |some (p,v,au)=>match ua ins au,Bu base seen as (mm.map (·.2)),u0 base ns with
  |true,true,true=>some (p,v.cA (gF seen base),ky seen base au++gY ns)
  |_,_,_=>none
 |none=>none

def Dg(Γ:Ctx)(tab:cm)(base:Nat)(mem:Mem)(f:Nat)(args:List V):Out :=
 match look Γ f with
 |none=>none
 |some c =>
  let seen:=mem.map (·.1)
  let ins:=mem.map fun p=>p.2.cA (idx seen)
  match c ((Lf c (idx seen) ins args).map (V.cA (idx seen))) ins with
  |some (p,v,au)=>match ua ins au,Bu base seen args (mem.map (·.2))with
   |true,true=>some (p,v.cA (gF seen base),ky seen base au)
   |_,_=>none
  |none=>match re tab mem (args.map pY)with
   |none=>Ix tab base mem c (oR tab mem (args.map pY)).1 (oR tab mem (args.map pY)).2
   |some (ds,ns)=>match c ds []with
    |some (p,v,au)=>match v.plain,au with
     |true,[]=>some (p,v,[])
     |_,_=>match ua [] au,u0 base ns with
      |true,true=>some (p,v.cA (gF [] base),ky [] base au++gY ns)
      |_,_=>none
    |none=>none

def pB(d:Option Int)(n:Int):Int:=match d with|none=>65535|some w=>q4 n w

def xW(x:Option Operand)(vs:List V):Option (Option Int×List V) :=
 match x with
 |none=>some (none,vs)
 |some _=>match vs with
  |.one (.E .int n)::rest=>some (some n,rest)
  |_=>none

def MW:Operand->Operand->Bool
 |.tmp a,.tmp b=>Nat.beq a b
 |_,_=>false

def BC:List V->Option (List Nat)
 |[]=>some []
 |.one (.ptr r 0)::rest=>match BC rest with
  |some rs=>some (r::rs)
  |none=>none
 |_=>none

def UF:a7:=fun vs _=>match vs with
 |[]=>some (some False,.ao [],[])
 |_=>none
def aeO(Γ:Ctx)(tab:cm):Bool:=match tab.due with
 |some f=>match look Γ f with
  |some c=>(c [] []).isSome
  |none=>false
 |none=>false

def Bx(Γ:Ctx)(tab:cm)(base:Nat)(o:Oper)(vs:List V)(mem:Mem):Out :=
 match o.op,vs with
 |.move _,[v]=>some (none,v,[])
 |.assign _,[v]=>some (none,v,[])
 |.pick _ _ _,[.one (.E .bool c),a,b]=>some (none,(match c with|true=>a|false=>b),[])
 |.alloc t,[]=>match dQ tab t with
  |some aM=>some (none,.one (.ptr base 0),[(base,.box aM.zero)])
  |none=>none
 |.box t _,[v]=>match dQ tab t,v.cells with
  |some aM,some cs=>match Nat.beq cs.length aM.n with
   |true=>some (none,.one (.ptr base 0),[(base,.box cs)])
   |false=>none
  |_,_=>none
 |.build t ps,vs=>match dQ tab t with
  |some aM=>match aM.agg with
   |false=>none
   |true=>match tv aM.kM aM.jI (ps.toList.map (·.1)) vs with
   |some c7=>match np aM.zero c7 with
    |some cs=>some (none,.agg cs,[])
    |none=>none
   |none=>none
  |none=>none
 |.buildSlice t n ps,vs=>match dQ tab t with
  |some aM=>match aM.elem with
   |some e=>match (match aeO Γ tab with|true=>Nat.ble 2 e.width|false=>false),n,ps.toList.map (·.1),vs with
    |true,1,[0],[v]=>match v.cells with
     |some cs=>match Nat.beq cs.length e.width,Nat.ble e.width 16777216 with
      |true,true=>some (none,.one (.iv base),[(base,.eE e [] cs)])
      |_,_=>none
     |none=>none
    |_,_,_,_=>match (match Nat.ble (n*e.width) 16777216 with|true=>(match Nat.beq n vs.length with|true=>true|false=>e.qL)|false=>false),mv tab mem e n 0 (ps.toList.map (·.1)) vs with
    |true,some (l,ns)=>match hg ns base with
     |true=>none
     |false=>some (none,.one (.own base),(base,.arr e l)::gY ns)
    |_,_=>none
   |none=>none
  |none=>none
 |.load t _,[.one a]=>match dQ tab t with
  |some aM=>uc aM a mem
  |none=>none
 |.store t _ _,[.one a,v]=>match dQ tab t with
  |some aM=>NN tab aM a v mem
  |none=>none
 |.nilCheck _,[.one (.ptr r o)]=>match look mem r with
  |some (.box _)=>some (none,.one (.ptr r o),[])
  |_=>none
 |.nilCheck _,[.one (.kn r i k)]=>match look mem r with
  |some (.arr _ _)=>some (none,.one (.kn r i k),[])
  |_=>none
 |.nilCheck _,[.one (.lc r k)]=>match look mem r with
  |some (.eE _ _ _)=>some (none,.one (.lc r k),[])
  |_=>none
 |.nilCheck _,[.one (.mw t l i k)]=>some (none,.one (.mw t l i k),[])
 |.nilCheck _,[.one (.fn f cs)]=>some (none,.one (.fn f cs),[])
 |.binOp op ty _ (.const _) _,[.one (.E .err a),.one (.E .err true)]=>match (dQ tab ty).map c9.isIface,op with
  |some true,.eql=>some (none,.one (.E .bool a),[])
  |some true,.neq=>some (none,.one (.E .bool (!a)),[])
  |_,_=>none
 |.binOp op ty _ _ _,[x,y]=>zW tab op ty x y
 |.unOp .not _ _,[.one (.E .bool b)]=>some (none,.one (.E .bool (!b)),[])
 |.unOp .neg _ _,[.one (.E .int n)]=>some (none,.one (.E .int (U (-n))),[])
 |.convert s d _,[.one (.E .int n)]=>match (dQ tab s).map c9.isInt,(dQ tab d).map c9.isInt with
  |some true,some true=>some (none,.one (.E .int (U n)),[])
  |some true,some false=>match (dQ tab d).map c9.xL with
   |some true=>some (none,.one (.E .u64 (pX n)),[])
   |_=>none
  |_,_=>none
 |.convert s d _,[.one (.E .u64 n)]=>match (dQ tab s).map c9.xL,(dQ tab d).map c9.isInt with
  |some true,some true=>some (none,.one (.E .int (U n)),[])
  |_,_=>none
 |.makeFunc (.func f) c7 _,vs=>match c7.toList,BC vs with
  |[],some rs=>some (none,.one (.fn f rs),[])
  |_,_=>none
 |.makeSlice t l c,[.one (.E .int n),.one (.E .int _)]=>match MW l c with
  |false=>none
  |true=>match dQ tab t with
  |some aM=>match aM.elem with
   |some e=>match e.qL with
    |true=>some (some (0<=n/\n*aM.bytes<=140737488355328/\n<=140737488355328),.one (.own base),[(base,.arr e (bZ n.toNat e.H))])
    |false=>none
   |none=>none
  |none=>none
 |.slice t _ lo hi rN,.one x::rest=>match dQ tab t,xW lo rest with
  |some aM,some (l,gm)=>match xW hi gm with
   |some (h,hH)=>match xW rN hH with
    |some (m,[])=>s0 aM mem x l h m
    |_=>none
   |none=>none
  |_,_=>none
 |.fieldAddr t _ f,[.one a]=>match dQ tab t with
  |some aM=>match (match aM.Kt with|true=>aM.kM[f]? | false=>none)with
   |some off=>match a with
    |.ptr r o=>match look mem r with
     |some (.box _)=>some (none,.one (.ptr r (o+off)),[])
     |_=>none
    |.kn r i k=>match look mem r with
     |some (.arr _ _)=>some (none,.one (.kn r i (k+off)),[])
     |_=>none
    |.lc r k=>match look mem r with
     |some (.eE _ _ _)=>some (none,.one (.lc r (k+off)),[])
     |_=>none
    |.mw e l i k=>some (none,.one (.mw e l i (k+off)),[])
    |_=>none
   |none=>none
  |none=>none
 |.indexAddr t _ _,[.one x,.one (.E .int i)]=>match dQ tab t with
  |some aM=>rF aM mem x i
  |none=>none
 |.index t _ _,[.agg cs,.one (.E .int i)]=>match dQ tab t with
  |some aM=>match aM.hy with
   |.array n size=>match Nat.ble 2 size,Nat.ble (i.toNat*size+size) cs.length with
    |true,true=>some (some (0<=i/\i<(n:Nat)),.agg (aW cs (i.toNat*size) (i.toNat*size+size)),[])
    |_,_=>none
   |_=>none
  |none=>none
 |.field t _ f,[.agg cs]=>match hg tab.eqs t,dQ tab t,cs[f]? with
  |true,some aM,some c=>match hR aM.zero cs with
   |some _=>some (none,.one c,[])
   |none=>none
  |_,_,_=>none
 |.makeMap t none,[]=>match (dQ tab t).map c9.hy with
  |some .qH=>some (none,.one (.mp base),[(base,.set [])])
  |_=>none
 |.mapUpdate t _ _ _,[.one (.mp r),.one (.E .int k),.one (.E .bool true)]=>match (dQ tab t).map c9.hy,xQ mem r with
  |some .qH,some aF=>some (none,.one .undef,[(r,.set (nX k aF))])
  |_,_=>none
 |.lookup t _ _ false,[.one (.mp r),.one (.E .int k)]=>match (dQ tab t).map c9.hy,xQ mem r with
  |some .qH,some aF=>some (none,.one (.E .bool (lU k aF)),[])
  |_,_=>none
 |.extract _ i,[.ao us]=>match us[i]? with
  |some v=>some (none,v,[])
  |none=>none
 |.call { callee:=.builtin .len,argTypes,.. },[.one x]=>match (argTypes.toList.head?).bind (dQ tab)with
  |some aM=>rK aM mem x
  |none=>none
 |.call { callee:=.builtin .append,argTypes,.. },[.one s,.one x]=>match argTypes.toList with
  |[t,u]=>match dQ tab t,dQ tab u with
   |some aM,some jJ=>match jJ.elem with
    |some _=>match x with
     |.iv a=>zO aM base aM.bytes mem s a
     |_=>zN aM base aM.bytes mem s x
    |none=>none
   |_,_=>none
  |_=>none
 |.call { callee:=.builtin .copy,argTypes,.. },[.one s,.one x]=>match argTypes.toList with
  |[t,_]=>match dQ tab t with
   |some aM=>IJ aM mem s x
   |none=>none
  |_=>none
 |.call { callee:=.builtin .clear,argTypes,.. },[.one s]=>match argTypes.toList with
  |[t]=>match dQ tab t with
   |some aM=>xf aM mem s
   |none=>none
  |_=>none
 |.call { callee:=.builtin .min,.. },[.one (.E .int a),.one (.E .int b)]=>some (none,.one (.E .int (min a b)),[])
 |.call { callee:=.builtin .max,.. },[.one (.E .int a),.one (.E .int b)]=>some (none,.one (.E .int (max a b)),[])
 |.call { callee:=.value _,.. },.one (.fn f iG)::args=>Dg Γ tab base mem f (args++iG.map fun r=>.one (.ptr r 0))
 |.call { callee:=.value _,.. },[.one (.E .k3 d),.one (.E .int n)]=>match tab.w with
  |true=>some (none,.one (.E .int (pB d n)),[])
  |false=>none
 |_,_=>none

def bO.put(st:bO)(d:Option Tmp)(v:V):bO :=
 match d with
 |some t=>{ st with env:=(t,v)::st.env }
 |none=>st

def bO.Zc(st:bO)(m:Mem):bO:={ st with mem:=m++st.mem }

abbrev oe:=bO->Prop

def under(p:Option Prop)(q:Prop):Prop :=
 match p with
 |none=>q
 |some p=>p/\q

def sN(m:Mem):List Nat:=m.map (·.1)

def sn(base:Nat)(mem:Mem)(names:List Nat):Mem->Bool
 |[]=>true
 |(r,_)::rest=>match Nat.ble base r with
  |true=>match Nat.ble (base+8) r,look mem r with
   |false,none=>sn base mem names rest
   |_,_=>false
  |false=>match hg names r with
   |true=>sn base mem names rest
   |false=>false

def IY:Option Tmp->V->Bool
 |some _,.one .undef=>false
 |_,_=>true

structure hM where
 i:Nat
 reads:List Nat
 writes:List Nat

def tZ(o:Oper):Bool :=
 match o.op with
 |.binOp .eql _ _ (.const (.slice none _ _)) _=>true
 |_=>false

def Bo(vs:List V)(K:V->Prop):Prop :=
 match vs with
 |[.one (.E (.list _) l),_]=>∀b:Bool,(b=true->len l=0)->K (.one (.E .bool b))
 |[.one (.nil _),_]=>K (.one (.E .bool true))
 |_=>False

def xV(o:Oper):List (Nat×Operand) :=
 match o.op with
 |.binOp .eql t x (.const (.slice none a b)) _=>[(t,x),(t,.const (.slice none a b))]
 |_=>operands o

def qi(Γ:Ctx)(tab:cm)(o:Oper)(i:Nat)(eJ:List hM)(st:bO)(K:List hM->oe):Prop :=
 match lA tab st.env (xV o)with
 |none=>False
 |some vs =>
  match tZ o with
  |true=>Bo vs fun v=>K eJ (st.put o.dst v)
  |false =>
   let names:=Y0 o vs st.mem
   match Bx Γ tab (st.base+8*i) o vs (fi st.mem names)with
   |none=>False
   |some (p,v,m)=>match sn (st.base+8*i) st.mem names m,IY o.dst v with
    |true,true=>under p (K (⟨i,names,sN m⟩::eJ) ((st.Zc m).put o.dst v))
    |_,_=>False

def meets:List Nat->List Nat->Bool
 |[],_=>false
 |r::rest,l=>match hg l r with|true=>true|false=>meets rest l

def forced{α:Type}(n:Nat)(k:Nat->α):α:=match n with|0=>k 0|m+1=>k (m+1)

def bitsOf(acc:Nat)(ms:List Nat):List Edge->Nat
 |[]=>acc
 |e::rest=>match Region.binds .any e with
  |true=>bitsOf (acc ||| 2 ^ e.on ||| (ms[e.on]?).getD 0) ms rest
  |false=>bitsOf acc ms rest

def jQ(ms:List Nat):List Oper->List Nat
 |[]=>ms
 |o::rest=>forced (bitsOf 0 ms o.after.toList) fun b=>jQ (ms++[b]) rest

def kl(ms:List Nat)(i j:Nat):Bool:=Nat.testBit ((ms[j]?).getD 0) i

def tmpsOf:List Operand->List Nat
 |[]=>[]
 |.tmp t::rest=>t::tmpsOf rest
 |_::rest=>tmpsOf rest

def uH(ops:List Oper)(o:Oper):List Nat :=
 tmpsOf ((xV o).map (·.2))++(match o.guard with|none=>[] | some (j,_)=>((ops[j]?).bind (·.dst)).toList)

def xe(ops:List Oper)(a b:Oper):Bool :=
 match meets a.dst.toList (uH ops b++b.dst.toList)with
 |true=>true
 |false=>meets b.dst.toList (uH ops a)

def wB(ops:List Oper)(ms:List Nat)(o:Oper)(j:Nat):Nat->List Oper->Bool
 |_,[]=>true
 |i,a::rest=>match Nat.ble j i with
  |true=>true
  |false=>match xe ops a o with
   |true=>match kl ms i j with|true=>wB ops ms o j (i+1) rest|false=>false
   |false=>wB ops ms o j (i+1) rest

def B6(ops:List Oper)(ms:List Nat):Nat->List Oper->Bool
 |_,[]=>true
 |j,o::rest=>match wB ops ms o j 0 ops with|true=>B6 ops ms (j+1) rest|false=>false

def zr(a b:hM):Bool :=
 match meets a.writes (b.reads++b.writes)with
 |true=>true
 |false=>meets b.writes a.reads

def zs(ms:List Nat)(b:hM):List hM->Bool
 |[]=>true
 |a::rest=>match zr a b with
  |true=>match kl ms a.i b.i with|true=>zs ms b rest|false=>false
  |false=>zs ms b rest

def uG(ms:List Nat):List hM->Bool
 |[]=>true
 |b::rest=>match zs ms b rest with|true=>uG ms rest|false=>false

def Bq:List Oper->Bool
 |[]=>true
 |o::rest=>match tZ o with|true=>false|false=>Bq rest

def zS(j:Nat):List Edge->Bool
 |[]=>true
 |e::rest=>match Region.binds .any e with
  |true=>match Nat.ble (e.on+1) j with|true=>zS j rest|false=>false
  |false=>zS j rest

def zU:Nat->List Oper->Bool
 |_,[]=>true
 |j,o::rest=>match zS j o.after.toList with|true=>zU (j+1) rest|false=>false

def xX(ops:List Oper)(eJ:List hM):Bool :=
 let ms:=jQ [] ops
 match B6 ops ms 0 ops with
 |true=>match Bq ops with
  |true=>match zU 0 ops with
   |true=>uG ms eJ
   |false=>false
  |false=>false
 |false=>false

def C.ik(r:Nat)(t:z)(l:List t.den):C->C
 |.own q=>match Nat.beq q r with|true=>.E (.list t) l|false=>.own q
 |c=>c

def V.ik(r:Nat)(t:z)(l:List t.den):V->V
 |.one c=>.one (c.ik r t l)
 |.agg cs=>.agg (cs.map (C.ik r t l))
 |.ao vs=>.ao (vs.map fun v=>match v with
  |.one c=>.one (c.ik r t l)
  |.agg cs=>.agg (cs.map (C.ik r t l))
  |.ao us=>.ao us)

def bS.ik(r:Nat)(t:z)(l:List t.den):bS->bS
 |.box cs=>.box (cs.map (C.ik r t l))
 |.eE u k cs=>.eE u k (cs.map (C.ik r t l))
 |b=>b

def vn(r:Nat)(st:bO):bO :=
 match look st.mem r with
 |some (.arr t l)=>{ env:=st.env.map fun p=>(p.1,p.2.ik r t l),mem:=(r,.dead)::st.mem.map fun p=>(p.1,p.2.ik r t l),base:=st.base }
 |_=>st

def tB:List Nat->bO->bO
 |[],st=>st
 |r::rs,st=>tB rs (vn r st)

def texts:Mem->List Nat
 |[]=>[]
 |(r,.arr .str _)::rest=>r::texts rest
 |(r,.arr .signed _)::rest=>r::texts rest
 |_::rest=>texts rest
def abu(Γ:Ctx)(tab:cm)(st:bO)(o:Oper):List Nat :=
 match o.op with
 |.call { callee:=.value _,.. }=>match lA tab st.env (operands o)with
  |some (.one (.fn f iG)::args)=>match look Γ f with
   |some c =>
    let as:=args++iG.map fun r=>V.one (.ptr r 0)
    let mem:=fi st.mem (reach st.mem (.one (.fn f iG)::args))
    let seen:=mem.map (·.1)
    match c ((as.map pY).map (V.cA (idx seen))) (mem.map fun p=>p.2.cA (idx seen))with
    |some _=>[]
    |none=>match re tab mem (as.map pY)with
     |some (ds,ns)=>match c ds []with
      |some (_,v,au)=>match v.plain,au with
       |true,[]=>[]
       |_,_=>ns
      |none=>texts mem
     |none=>texts mem
   |none=>[]
  |_=>[]
 |_=>[]

def Li(Γ:Ctx)(tab:cm)(draw:Bool)(o:Oper)(st:bO)(k:bO->Prop):Prop :=
 match draw with
 |true=>k st
 |false=>match abu Γ tab st o with
  |[]=>k st
  |r::rs=>k (tB (r::rs) st)

def jy(Γ:Ctx)(tab:cm)(draw:Bool)(ops:List Oper)(K:oe):List Oper->Nat->List hM->oe
 |[],_,eJ,st=>match draw with
  |false=>K { st with base:=st.base+8*ops.length }
  |true=>match xX ops eJ with
   |true=>K { st with base:=st.base+8*ops.length }
   |false=>False
 |o::rest,i,eJ,oc=>Li Γ tab draw o oc fun st =>
  match o.guard with
  |none=>qi Γ tab o i eJ st (jy Γ tab draw ops K rest (i+1))
  |some (j,want) =>
   match (ops[j]?).bind (·.dst)with
   |none=>False
   |some d=>match look st.env d with
    |some (.one (.E .bool b)) =>
     J b
      (let qU:=st.put (some d) (.one (.E .bool true))
       match want with
       |true=>qi Γ tab o i eJ qU (jy Γ tab draw ops K rest (i+1))
       |false=>jy Γ tab draw ops K rest (i+1) eJ (qU.put o.dst (.one .undef)))
      (let qU:=st.put (some d) (.one (.E .bool false))
       match want with
       |false=>qi Γ tab o i eJ qU (jy Γ tab draw ops K rest (i+1))
       |true=>jy Γ tab draw ops K rest (i+1) eJ (qU.put o.dst (.one .undef)))
    |some (.one .undef)=>jy Γ tab draw ops K rest (i+1) eJ (st.put o.dst (.one .undef))
    |_=>False

inductive cu where
 |code (c:Code)
 |inBlock (id:Nat)
 |inLoop (keys:List Nat) (body:Code)

def Cw(acc:List Nat):List (Nat×Operand)->List Nat
 |[]=>acc
 |(_,.tmp t)::rest=>Cw (match hg acc t with|true=>acc|false=>t::acc) rest
 |_::rest=>Cw acc rest

def U9(acc:List Nat):List Oper->List Nat
 |[]=>acc
 |o::rest=>U9 (Cw acc (operands o)) rest

def pZ(acc:List Nat):Code->List Nat
 |.region _ ops _=>U9 acc ops.toList
 |.seq a b=>pZ (pZ acc a) b
 |.cond c a b=>pZ (pZ (Cw acc [(0,c)]) a) b
 |.block _ b=>pZ acc b
 |.loop b=>pZ acc b
 |.scope b=>pZ acc b
 |_=>acc

def FI(acc:List Nat):List cu->List Nat
 |[]=>acc
 |.code c::k=>FI (pZ acc c) k
 |.inBlock _::k=>FI acc k
 |.inLoop _ b::k=>FI (pZ acc b) k

def Jo:List Nat->(List Nat->List Nat)->List Nat
 |[],k=>k []
 |n::l,k=>match n with
  |0=>Jo l fun l=>k (0::l)
  |m+1=>Jo l fun l=>k ((m+1)::l)

def Ek(acc:List Nat):List cu->List Nat
 |[]=>acc
 |.code c::k=>Ek (pZ acc c) k
 |.inBlock _::k=>Ek acc k
 |.inLoop aF _::k=>Ek (q1 acc aF) k

def abb(res:List Nat)(b:Code)(k:List cu)(keys:List Nat):List Nat :=
 match Nat.ble keys.length 44 with
 |true=>keys
 |false=>Jo (Ek (pZ res b) k) fun Er=>keys.filter (hg Er)

def MQ(acc:List Nat):List ResultVar->List Nat
 |[]=>acc
 |.tmp t::rest=>MQ (match hg acc t with|true=>acc|false=>t::acc) rest
 |.cell t _::rest=>MQ (match hg acc t with|true=>acc|false=>t::acc) rest

def vL(env:Env):List Nat->Env
 |[]=>[]
 |t::rest=>match look env t with
  |some v=>(t,v)::vL env rest
  |none=>vL env rest

def kO:Nat->Env->Env×Mem
 |_,[]=>([],[])
 |b,(t,.one (.nil e))::rest=>let r:=kO (b+1) rest;((t,.one (.own b))::r.1,(b,.arr e [])::r.2)
 |b,p::rest=>let r:=kO b rest;(p::r.1,r.2)

def hh:Nat->List C->List C×Mem
 |_,[]=>([],[])
 |b,.nil e::rest=>let r:=hh (b+1) rest;(.own b::r.1,(b,.arr e [])::r.2)
 |b,c::rest=>let r:=hh b rest;(c::r.1,r.2)

def jG:Nat->Mem->Mem
 |_,[]=>[]
 |b,(r,.box cs)::rest=>let q:=hh b cs;(r,.box q.1)::q.2++jG (b+q.2.length) rest
 |b,p::rest=>p::jG b rest

def E3(k:Nat)(mem:Mem)(vs:List V):List Nat:=closure mem 200 0 (q1 (List.range k) (vs.flatMap V.names))

def BB:Nat->Nat->List Nat->Bool
 |_,0,_=>true
 |i,k+1,r::rest=>match Nat.beq r i with|true=>BB (i+1) k rest|false=>false
 |_,_+1,[]=>false

def allKnown(mem:Mem):List Nat->Bool
 |[]=>true
 |r::rest=>match look mem r with|some _=>allKnown mem rest|none=>false

def Dh(k:Nat)(mem fc:Mem)(names seen:List Nat)(vs:List V)(au:List bS):Bool :=
 match distinct names,allKnown mem names,distinct seen,allKnown fc seen,BB 0 k seen with
 |true,true,true,true,true=>match vs.all V.Eu,q2 seen (vs.flatMap V.names),q2 seen (au.flatMap bS.names)with
  |true,true,true=>true
  |_,_,_=>false
 |_,_,_,_,_=>false

def rq{α:Type}:List Nat->(List Nat->α)->α
 |[],k=>k []
 |n::l,k=>match n with
  |0=>rq l fun l=>k (0::l)
  |m+1=>rq l fun l=>k ((m+1)::l)

def canon(k:Nat)(keys:List Nat)(st:bO):Option bO :=
 let q:=kO st.base (vL st.env keys)
 rq (E3 k (q.2++st.mem) (q.1.map (·.2))) fun names =>
 let fc:=jG (st.base+q.2.length) (fi (q.2++st.mem) names)
 rq (E3 k fc (q.1.map (·.2))) fun seen =>
 let au:=seen.map fun r=>(look fc r).getD .dead
 match Dh k (q.2++st.mem) fc names seen (q.1.map (·.2)) au with
 |true=>some { env:=q.1.map (fun p=>(p.1,p.2.cA (idx seen))),mem:=ka 0 (au.map (bS.cA (idx seen))),base:=seen.length }
 |false=>none

def un{α:Type}(o:Option α)(K:α->Prop):Prop:=match o with|some x=>K x|none=>False

inductive F9 where
 |normal|ret|exit (id:Nat)

def kr(Γ:Ctx)(tab:cm)(fy:Nat)(res:List Nat)(rec:List cu->bO->Prop)(fin:bO->Prop):Nat->List cu->F9->bO->Prop
 |0,_,_,_=>False
 |n+1,todo,.normal,st =>
  match todo with
  |[]=>fin st
  |.inBlock _::k=>kr Γ tab fy res rec fin n k .normal st
  |.inLoop keys b::k=>un (canon fy keys st) fun db=>rec (.inLoop keys b::k) db
  |.code c::k =>
   match c with
   |.skip=>kr Γ tab fy res rec fin n k .normal st
   |.seq a b=>kr Γ tab fy res rec fin n (.code a::.code b::k) .normal st
   |.region _ ops draw=>jy Γ tab draw ops.toList (fun db=>kr Γ tab fy res rec fin n k .normal db) ops.toList 0 [] st
   |.cond c a b =>
    match xo tab st.env 0 c with
    |some (.one (.E .bool t))=>J t (kr Γ tab fy res rec fin n (.code a::k) .normal st) (kr Γ tab fy res rec fin n (.code b::k) .normal st)
    |_=>False
   |.block id b=>kr Γ tab fy res rec fin n (.code b::.inBlock id::k) .normal st
   |.loop b =>
    rq (FI (pZ res b) k) fun alO =>
    rq (((st.env.filter (fun p=>p.2.Eu)).map (·.1)).foldr (fun t acc=>match hg acc t with|true=>acc|false=>match hg alO t with|true=>t::acc|false=>acc) []) fun aeM =>
    rq (abb res b k aeM) fun keys =>
    un (canon fy keys st) fun db=>rec (.inLoop keys b::k) db
   |.exit id=>kr Γ tab fy res rec fin n k (.exit id) st
   |.ret=>fin st
   |_=>False
 |n+1,todo,.exit id,st =>
  match todo with
  |[]=>False
  |.inBlock j::k=>match Nat.beq j id with
   |true=>kr Γ tab fy res rec fin n k .normal st
   |false=>kr Γ tab fy res rec fin n k (.exit id) st
  |_::k=>kr Γ tab fy res rec fin n k (.exit id) st
 |_+1,_,.ret,_=>False

def run(Γ:Ctx)(tab:cm)(fy:Nat)(res:List Nat)(fin:bO->Prop):Nat->List cu->bO->Prop
 |0,_,_=>False
 |m+1,todo,st =>
  match todo with
  |.inLoop keys b::k=>kr Γ tab fy res (run Γ tab fy res fin m) fin 4000 (.code b::.inLoop keys b::k) .normal st
  |todo=>kr Γ tab fy res (run Γ tab fy res fin m) fin 4000 todo .normal st

def uz(tab:cm)(st:bO):List ResultVar->Option (List V)
 |[]=>some []
 |.tmp t::rest=>match look st.env t,uz tab st rest with
  |some v,some vs=>some (v::vs)
  |_,_=>none
 |.cell a t::rest=>match look st.env a,dQ tab t,uz tab st rest with
  |some (.one (.ptr r o)),some aM,some vs=>match uc aM (.ptr r o) st.mem with
   |some (none,v,_)=>some (v::vs)
   |_=>none
  |_,_,_=>none

def Ld:List V->V
 |[v]=>v
 |vs=>.ao vs

def BV:List V->Bool
 |[]=>true
 |.one .undef::_=>false
 |.ao _::_=>false
 |_::rest=>BV rest

def DE(tab:cm)(res:List ResultVar)(k:Nat)(K:V->List bS->Prop)(st:bO):Prop :=
 match uz tab st res with
 |none=>False
 |some vs=>match re tab st.mem vs,BV vs with
  |some (ds,ns),true =>
   let au:=(List.range k).map fun r=>match hg ns r with|true=>.dead|false=>(look st.mem r).getD .dead
   match u0 k (au.flatMap bS.names)with
   |true=>K (Ld ds) au
   |false=>False
  |_,_=>False

def DF(tab:cm)(res:List ResultVar)(k:Nat)(K:V->List bS->Prop)(st:bO):Prop :=
 match uz tab st res with
 |none=>False
 |some vs =>
  let seen:=closure st.mem 200 0 (q1 (List.range k) (vs.flatMap V.names))
  let au:=seen.map fun r=>(look st.mem r).getD .dead
  match Dh k st.mem st.mem [] seen vs au,BV vs with
  |true,true=>K (Ld (vs.map (V.cA (idx seen)))) (au.map (bS.cA (idx seen)))
  |_,_=>False

def Code.sub:Code->List Nat->Code
 |c,[]=>c
 |.seq a b,i::p=>match i with|0=>Code.sub a p|_=>Code.sub b p
 |.cond _ a b,i::p=>match i with|0=>Code.sub a p|_=>Code.sub b p
 |.block _ b,_::p=>Code.sub b p
 |.loop b,_::p=>Code.sub b p
 |c,_=>c

def xK:Nat->List V->Env
 |_,[]=>[]
 |i,v::vs=>(i,v)::xK (i+1) vs

def df(args:List V)(au:List bS):bO:={ env:=xK 0 args,mem:=ka 0 au,base:=au.length }

end bF
end Go.Proofs.YtlbppjmekiemiabGreatDoor


/- The executor on data: what it means that a real world holds what the executor's state says; and that this lasts. No condition. -/
namespace Go.Proofs.YtlbppjmekiemiabGreatDoor
namespace bF

inductive Loc where
 |gB (b:Nat)
 |ez (x:Value)

def Loc.block:Loc->Option Nat
 |.gB b=>some b
 |.ez x=>x.ownBlock

def ca(b o:Nat):Addr:=⟨b,o,none⟩

inductive dE (tab:cm) (w:World) (S:Nat->Prop):C->Value->Prop
 |int (n:Int):dE tab w S (.E .int n) (.int .i64 n)
 |bool (b:Bool):dE tab w S (.E .bool b) (.bool b)
 |str (s:List UInt8):dE tab w S (.E .str s) (.string ⟨s.toArray⟩)
 |u64 (n:Int):dE tab w S (.E .u64 n) (.int .u64 n)
 |Dy:dE tab w S (.E .err true) .nilIface
 |I6 (t:TypeId) (v:Value):dE tab w S (.E .err false) (.iface t v)
 |DH:dE tab w S (.E .k3 none) (.func (.func tab.f0) #[] #[])
 |DI (n:Int) (b:Nat) (cur:Array Value) (e:TypeId) (tC:Nat×Nat) (dw:S b) (ay:w.heap[b]? = some (.cells cur e tC)) (aA:cur[0]? = some (.int .i64 n)) :
   dE tab w S (.E .k3 (some n)) (.func (.func tab.f1) #[] #[.pointer (some (ca b 0))])
 |empty (t:z) (a:Option Addr) (cap:Nat):dE tab w S (.E (.list t) []) (.slice a 0 cap)
 |list (t:z) (l:List t.den) (b off cap:Nat) (cs:Nat->Nat->Value) (dw:S b) (hcap:l.length<=cap)
   (aA:∀i j,i<l.length->j<t.width->w.cell? (ca b (off+i*t.width+j))=some (cs i j))
   (aw:∀i j c,i<l.length->(t.cells (nth l i t.H))[j]? = some c->dE tab w S c (cs i j)) :
   dE tab w S (.E (.list t) l) (.slice (some (ca b off)) l.length cap)

abbrev eb:=Nat->Option bS
abbrev dp:=Nat->Option Loc

def zI(tab:cm)(w:World)(S:Nat->Prop)(t:z)(d:t.den)(b off:Nat):Prop :=
 S b/\∃cs:Nat->Value,(∀j,j<t.width->w.cell? (ca b (off+j))=some (cs j))/\∀j c,(t.cells d)[j]? = some c->dE tab w S c (cs j)

def O2(wd off n:Nat)(y x:Value):Prop :=
 ∃a m cap ey xa,y=.slice a m cap/\x=.slice ey n xa/\(off=0->ey=a)/\(0<n->ey=a.map fun dT=>ca dT.block (dT.off+off*wd))/\n<=xa/\off+xa<=cap/\m<=off+xa

def fx(tab:cm)(O:dp)(mem:eb)(w:World)(S:Nat->Prop):C->Value->Prop
 |.E t d,x=>dE tab w S (.E t d) x
 |.nil _,x=>x=.slice none 0 0
 |.ptr r o,x=>mem r≠none/\∀cs,mem r=some (.box cs)->∃b,O r=some (.gB b)/\x=.pointer (some (ca b o))
 |.own r,x=>mem r≠none/\∀t l,mem r=some (.arr t l)->O r=some (.ez x)
 |.view r off n,x=>mem r≠none/\∀t l,mem r=some (.arr t l)->∃y,O r=some (.ez y)/\O2 t.width off n y x
 |.kn r i k,x=>mem r≠none/\∀t l,mem r=some (.arr t l)->∃b m cap,O r=some (.ez (.slice (some (ca b 0)) m cap))/\x=.pointer (some (ca b (i*t.width+k)))
 |.mw t l i k,x=>∃b off,zI tab w S t (nth l i t.H) b off/\x=.pointer (some (ca b (off+k)))
 |.fn f iG,x=>(∀r∈iG,mem r≠none)/\∃vs:Array Value,x=.func (.func f) #[] vs/\vs.size=iG.length /\
   ∀(i r:Nat),iG[i]? = some r->∃y,vs[i]? = some y/\y.oneCell'=true/\∀cs,mem r=some (.box cs)->∃b,O r=some (.gB b)/\y=.pointer (some (ca b 0))
 |.mp r,x=>mem r≠none/\∀aF,mem r=some (.set aF)->∃b,O r=some (.gB b)/\x=.map (some b)
 |.iv r,x=>mem r≠none/\∀t l cs,mem r=some (.eE t l cs)->O r=some (.ez x)
 |.lc r k,x=>mem r≠none/\∀t l cs,mem r=some (.eE t l cs)->∃b m cap,O r=some (.ez (.slice (some (ca b 0)) m cap))/\x=.pointer (some (ca b (l.length*t.width+k)))
 |.cut r n,x=>mem r≠none/\∀t l,mem r=some (.arr t l)->∃a m cap,O r=some (.ez (.slice a m cap))/\x=.slice a n n
 |.undef,_=>True
 |.any,_=>True

def kd(tab:cm)(O:dp)(mem:eb)(w:World)(S:Nat->Prop):V->Value->Prop
 |.one c,x=>x.oneCell'=true/\fx tab O mem w S c x
 |.agg cs,x=>∃xs:Array Value,x=.agg xs/\xs.size=cs.length/\∀(i:Nat) c,cs[i]? = some c->∃y,xs[i]? = some y/\y.oneCell'=true/\fx tab O mem w S c y
 |.ao _,_=>False

def cl(tab:cm)(O:dp)(mem:eb)(w:World)(S:Nat->Prop):V->Value->Prop
 |.one .undef,_=>True
 |.one c,x=>kd tab O mem w S (.one c) x
 |.agg cs,x=>kd tab O mem w S (.agg cs) x
 |.ao vs,x=>∃xs:Array Value,x=.tuple xs/\xs.size=vs.length/\∀(i:Nat) v,vs[i]? = some v->∃y,xs[i]? = some y/\kd tab O mem w S v y

def p3(tab:cm)(O:dp)(mem:eb)(w:World)(S:Nat->Prop):bS->Loc->Prop
 |.box cs,.gB b=>∃(vs:Array Value) (e:TypeId),w.heap[b]? = some (.cells vs e (0,0))/\vs.size=cs.length /\
   ∀(i:Nat) c,cs[i]? = some c->∃y,vs[i]? = some y/\y.oneCell'=true/\fx tab O mem w S c y
 |.arr t l,.ez x=>(x=.slice none 0 0/\l=[]) \/
   ∃(b cap:Nat) (cur:Array Value) (e:TypeId),x=.slice (some (ca b 0)) l.length cap/\w.heap[b]? = some (.cells cur e (0,0))/\l.length<=cap/\cap<=maxLen/\cap*t.width<=cur.size /\
    ∀i j c,i<l.length->(t.cells (nth l i t.H))[j]? = some c->∃y,cur[i*t.width+j]? = some y/\y.oneCell'=true/\dE tab w S c y
 |.set aF,.gB b=>∃(es:Array MapEntry) (clock:Nat),w.heap[b]? = some (.map es clock)/\es.size=aF.length/\∀(i:Nat) k,aF[i]? = some k->∃e,es[i]? = some e/\e.key=.int .i64 k/\e.val=.bool true
 |.eE t l cs,.ez x=>∃(b cap:Nat) (cur:Array Value) (e:TypeId),x=.slice (some (ca b 0)) (l.length+1) cap/\w.heap[b]? = some (.cells cur e (0,0))/\l.length+1<=cap/\cap<=maxLen/\cap*t.width<=cur.size /\
    (∀i j c,i<l.length->(t.cells (nth l i t.H))[j]? = some c->∃y,cur[i*t.width+j]? = some y/\y.oneCell'=true/\dE tab w S c y) /\
    ∀j c,cs[j]? = some c->j<t.width/\∃y,cur[l.length*t.width+j]? = some y/\y.oneCell'=true/\fx tab O mem w S c y
 |_,_=>False

def bS.alive:bS->Prop
 |.dead=>False
 |_=>True

def Live(mem:eb)(r:Nat):Prop:=∃B,mem r=some B/\B.alive

def Vh:List Int:=[1,10,100,1000,10000,100000,1000000,10000000,100000000,1000000000,10000000000,100000000000,1000000000000,10000000000000,100000000000000,1000000000000000,10000000000000000,100000000000000000,1000000000000000000,10000000000000000000]
def OY(tab:cm)(w:World)(S:Nat->Prop):Prop :=
 ∀g,tab.pow=some g->S g/\∃ty m,w.heap[g]? = some (.cells (Vh.map (Value.int .u64)).toArray ty m)
def Zz(tab:cm)(w:World)(S:Nat->Prop):Prop:=∀g,tab.ae7=some g->S g/\∃m,w.cell? (ca g 0)=some (.int .i64 m)
def Zv(tab:cm)(w:World)(S:Nat->Prop):Prop:=∀g,g∈tab.aaZ->S g/\∃Al,w.cell? (ca g 0)=some Al/\(Al=.nilIface\/∃t u,Al=.iface t u)
structure qZ(tab:cm)(w:World)(S:Nat->Prop):Prop where
 t:OY tab w S
 m:Zz tab w S
 e:Zv tab w S
structure Inv(tab:cm)(O:dp)(mem:eb)(w:World)(S:Nat->Prop):Prop where
 rel:∀r B,mem r=some B->B.alive->∃l,O r=some l/\p3 tab O mem w S B l
 inj:∀r fo,r≠fo->Live mem r->Live mem fo->∀l l' b,O r=some l->O fo=some l'->l.block=some b->l'.block≠some b
 sep:∀r,Live mem r->∀l b,O r=some l->l.block=some b->¬S b
 lt:∀b,S b->b<w.heap.size
 pow:qZ tab w S

def rY(O:dp)(mem:eb)(b:Nat):Prop:=∃r l,Live mem r/\O r=some l/\l.block=some b

def je:bS->bS->Prop
 |_,.dead=>True
 |.box _,.box _=>True
 |.arr t _,.arr u _=>t=u
 |.set _,.set _=>True
 |.eE t l _,.eE u k _=>t=u/\l.length=k.length
 |_,_=>False

structure Ext(O:dp)(mem:eb)(w:World)(S:Nat->Prop)(bU:dp)(fl:eb)(w':World)(S':Nat->Prop):Prop where
 names:∀r,mem r≠none->fl r≠none
 kinds:∀r B B',mem r=some B->fl r=some B'->je B B'/\(Live fl r->bU r=O r)
 sub:∀b,S b->S' b
 size:w.heap.size<=w'.heap.size
 heap:∀b,b<w.heap.size->¬rY O mem b->w'.heap[b]? = w.heap[b]?
 only:∀b,S' b->S b\/w.heap.size<=b\/rY O mem b
 own:∀b,rY bU fl b->rY O mem b\/w.heap.size<=b
 os:w'.os=w.os
 tape:w'.tape=w.tape
 output:w'.output=w.output

section
variable {tab:cm} {O bU:dp} {mem fl:eb} {w w':World} {S S':Nat->Prop}

theorem cell?_of_heap {b o:Nat} (h:w'.heap[b]? = w.heap[b]?):w'.cell? (ca b o)=w.cell? (ca b o):=by
 simp[World.cell?,ca,h]

theorem dE.mono{c:C}{x:Value}(h:dE tab w S c x)(av:∀b,S b->S' b)(dd:∀b,S b->w'.heap[b]? = w.heap[b]?):dE tab w' S' c x:=by
 induction h with
 |int n=>exact .int n
 |bool b=>exact .bool b
 |str s=>exact .str s
 |u64 n=>exact .u64 n
 |Dy=>exact .Dy
 |I6 t v=>exact .I6 t v
 |DH=>exact .DH
 |DI n b cur e tC dw ay aA=>exact .DI n b cur e tC (av _ dw) ((dd _ dw).trans ay) aA
 |empty t a cap=>exact .empty t a cap
 |list t l b off cap cs dw hcap aA _ de =>
  exact .list t l b off cap cs (av _ dw) hcap (fun i j hi aT=>(cell?_of_heap (dd _ dw)).trans (aA i j hi aT)) (fun i j c hi aT=>de i j c hi aT)

theorem zI.mono{t:z}{d:t.den}{b off:Nat}(h:zI tab w S t d b off)(av:∀b,S b->S' b)(dd:∀b,S b->w'.heap[b]? = w.heap[b]?):zI tab w' S' t d b off:=by
 obtain⟨dw,cs,I,G⟩:=h;exact⟨av _ dw,cs,fun j aT=>(cell?_of_heap (dd _ dw)).trans (I j aT),fun j c aT=>(G j c aT).mono av dd⟩

theorem Inv.afj(aD:Inv tab O mem w S){b:Nat}(h:S b):¬rY O mem b:=fun⟨r,l,az,aB,ay⟩=>aD.sep r az l b aB ay h

theorem Ext.keeps(a6:Ext O mem w S bU fl w' S')(aD:Inv tab O mem w S):∀b,S b->w'.heap[b]? = w.heap[b]? :=
 fun b ay=>a6.heap b (aD.lt b ay) (aD.afj ay)

theorem qZ.mono(h:qZ tab w S)(av:∀b,S b->S' b):qZ tab w S':=⟨fun g bt=>⟨av g (h.t g bt).1,(h.t g bt).2⟩,fun g bt=>⟨av g (h.m g bt).1,(h.m g bt).2⟩,fun g bt=>⟨av g (h.e g bt).1,(h.e g bt).2⟩⟩
theorem qZ.of_heap(h:qZ tab w S)(bv:w'.heap=w.heap):qZ tab w' S:=by
 have aA:∀g,w'.cell? (ca g 0)=w.cell? (ca g 0):=fun g=>cell?_of_heap (by rw[bv])
 exact⟨fun g bt=>by rw[bv];exact h.t g bt,fun g bt=>by rw[aA];exact h.m g bt,fun g bt=>by rw[aA];exact h.e g bt⟩
theorem Inv.xY(aD:Inv tab O mem w S)(a6:Ext O mem w S bU fl w' S'):qZ tab w' S':=by
 refine⟨fun g bt=>?_,fun g bt=>?_,fun g bt=>?_⟩
 ·obtain⟨I,ty,m,G⟩:=aD.pow.t g bt;exact⟨a6.sub g I,ty,m,(a6.keeps aD g I).trans G⟩
 ·obtain⟨I,m,G⟩:=aD.pow.m g bt;exact⟨a6.sub g I,m,(cell?_of_heap (a6.keeps aD g I)).trans G⟩
 ·obtain⟨I,Al,G,Y⟩:=aD.pow.e g bt;exact⟨a6.sub g I,Al,(cell?_of_heap (a6.keeps aD g I)).trans G,Y⟩

theorem nH{α:Type}{o:Option α}(h:o≠none):∃x,o=some x:=by
 cases o with
 |none=>exact absurd rfl h
 |some x=>exact⟨x,rfl⟩

theorem fx.ext(a6:Ext O mem w S bU fl w' S')(aD:Inv tab O mem w S){c:C}{x:Value}(h:fx tab O mem w S c x):fx tab bU fl w' S' c x:=by
 have ae:=a6.keeps aD;cases c with
 |E t d=>exact dE.mono h a6.sub ae
 |nil t=>exact h
 |undef=>trivial
 |any=>trivial
 |ptr r o =>
  obtain⟨a2,I⟩:=h;refine⟨a6.names r a2,fun cs en=>?_⟩;obtain⟨B,bA⟩:=nH a2;have ef:=a6.kinds r B _ bA en;cases B with
  |box kz=>obtain⟨b,aN,aX⟩:=I kz bA;exact⟨b,(ef.2 ⟨_,en,trivial⟩).trans aN,aX⟩
  |arr t l=>exact ef.1.elim
  |set aF=>exact ef.1.elim
  |eE eI l' eO=>exact ef.1.elim
  |dead=>exact ef.1.elim
 |mp r =>
  obtain⟨a2,I⟩:=h;refine⟨a6.names r a2,fun cs en=>?_⟩;obtain⟨B,bA⟩:=nH a2;have ef:=a6.kinds r B _ bA en;cases B with
  |set kz=>obtain⟨b,aN,aX⟩:=I kz bA;exact⟨b,(ef.2 ⟨_,en,trivial⟩).trans aN,aX⟩
  |arr t l=>exact ef.1.elim
  |box aF=>exact ef.1.elim
  |eE eI l' eO=>exact ef.1.elim
  |dead=>exact ef.1.elim
 |iv r =>
  obtain⟨a2,I⟩:=h;refine⟨a6.names r a2,fun t l cs en=>?_⟩;obtain⟨B,bA⟩:=nH a2;have ef:=a6.kinds r B _ bA en;cases B with
  |eE t0 l0 kz=>exact(ef.2 ⟨_,en,trivial⟩).trans (I t0 l0 kz bA)
  |_=>exact ef.1.elim
 |lc r k =>
  obtain⟨a2,I⟩:=h;refine⟨a6.names r a2,fun t l cs en=>?_⟩;obtain⟨B,bA⟩:=nH a2;have ef:=a6.kinds r B _ bA en;cases B with
  |eE t0 l0 kz =>
   obtain⟨bm,az⟩:=ef.1;subst bm;obtain⟨b,m,cap,aN,aX⟩:=I t0 l0 kz bA;exact⟨b,m,cap,(ef.2 ⟨_,en,trivial⟩).trans aN,by rw[<- az];exact aX⟩
  |_=>exact ef.1.elim
 |own r =>
  obtain⟨a2,I⟩:=h;refine⟨a6.names r a2,fun t l en=>?_⟩;obtain⟨B,bA⟩:=nH a2;have ef:=a6.kinds r B _ bA en;cases B with
  |box kz=>exact ef.1.elim
  |set aF=>exact ef.1.elim
  |eE eI l' eO=>exact ef.1.elim
  |arr t0 l0=>exact(ef.2 ⟨_,en,trivial⟩).trans (I t0 l0 bA)
  |dead=>exact ef.1.elim
 |view r off n =>
  obtain⟨a2,I⟩:=h;refine⟨a6.names r a2,fun t l en=>?_⟩;obtain⟨B,bA⟩:=nH a2;have ef:=a6.kinds r B _ bA en;cases B with
  |box kz=>exact ef.1.elim
  |set aF=>exact ef.1.elim
  |eE eI l' eO=>exact ef.1.elim
  |arr t0 l0 =>
   obtain⟨y,aN,aX⟩:=I t0 l0 bA;have bm:t0=t:=ef.1;subst bm;exact⟨y,(ef.2 ⟨_,en,trivial⟩).trans aN,aX⟩
  |dead=>exact ef.1.elim
 |cut r n =>
  obtain⟨a2,I⟩:=h;refine⟨a6.names r a2,fun t l en=>?_⟩;obtain⟨B,bA⟩:=nH a2;have ef:=a6.kinds r B _ bA en;cases B with
  |arr t0 l0 =>
   obtain⟨a,m,cap,aN,aX⟩:=I t0 l0 bA;exact⟨a,m,cap,(ef.2 ⟨_,en,trivial⟩).trans aN,aX⟩
  |_=>exact ef.1.elim
 |kn r i k =>
  obtain⟨a2,I⟩:=h;refine⟨a6.names r a2,fun t l en=>?_⟩;obtain⟨B,bA⟩:=nH a2;have ef:=a6.kinds r B _ bA en;cases B with
  |box kz=>exact ef.1.elim
  |set aF=>exact ef.1.elim
  |eE eI l' eO=>exact ef.1.elim
  |arr t0 l0 =>
   have bm:t0=t:=ef.1;subst bm;obtain⟨b,m,cap,aN,aX⟩:=I t0 l0 bA;exact⟨b,m,cap,(ef.2 ⟨_,en,trivial⟩).trans aN,aX⟩
  |dead=>exact ef.1.elim
 |mw t l i k =>
  obtain⟨b,off,I,G⟩:=h;exact⟨b,off,I.mono a6.sub ae,G⟩
 |fn f iG =>
  obtain⟨a2,vs,I,G,Y⟩:=h;refine⟨fun r aw=>a6.names r (a2 r aw),vs,I,G,fun i r aw=>?_⟩;obtain⟨y,cK,cN,dA⟩:=Y i r aw;refine⟨y,cK,cN,fun cs en=>?_⟩;obtain⟨B,bA⟩:=nH (a2 r (List.mem_of_getElem? aw));have ef:=a6.kinds r B _ bA en;cases B with
  |box kz=>obtain⟨b,aN,aX⟩:=dA kz bA;exact⟨b,(ef.2 ⟨_,en,trivial⟩).trans aN,aX⟩
  |set aF=>exact ef.1.elim
  |eE eI l' eO=>exact ef.1.elim
  |arr t l=>exact ef.1.elim
  |dead=>exact ef.1.elim
end
end bF
end Go.Proofs.YtlbppjmekiemiabGreatDoor


/- The executor on data: each operation of it is one of the machine. No condition. -/
namespace Go.Proofs.YtlbppjmekiemiabGreatDoor
namespace bF

def r3:List C->List Value->Prop
 |[],[]=>True
 |.E .int n::cs,x::xs=>(n:Int)=0/\x=.int .i64 0/\r3 cs xs
 |.E .bool b::cs,x::xs=>(b:Bool)=false/\x=.bool false/\r3 cs xs
 |.E .str s::cs,x::xs=>(s:List UInt8)=[]/\x=.string ⟨#[]⟩/\r3 cs xs
 |.nil _::cs,x::xs=>x=.slice none 0 0/\r3 cs xs
 |.undef::cs,x::xs=>x.oneCell'=true/\r3 cs xs
 |_,_=>False

def OQ(tab:cm)(t:z)(xs:List Value):Prop :=
 ∀(j:Nat) c,(t.cells t.H)[j]? = some c->∃y,xs[j]? = some y/\y.oneCell'=true/\∀w S,dE tab w S c y

structure Gk(P:Program)(tab:cm)(T:Nat)(aM:c9):Prop where
 info:∃i bg,P.info? T=some i/\i.size=aM.n/\i.zero=some bg/\r3 aM.zero bg.cells.toList/\(match aM.agg with|true=>∃cs,bg=.agg cs|false=>bg.cells=#[bg])
 aoq:aM.zero.length=aM.n
 isAgg:∀w,(isAgg T).run P w=.ok aM.agg w
 kind:match aM.hy with
  |.int=>P.underlying T=some (.int .i64)
  |.bool=>P.underlying T=some .bool
  |.str=>P.underlying T=some .string
  |.u64=>P.underlying T=some (.int .u64)
  |.slice t e=>P.underlying T=some (.slice e)/\∃i bg,P.info? e=some i/\i.size=t.width/\i.bytes=aM.bytes/\i.zero=some bg/\bg.cells.size=t.width/\0<t.width/\0<aM.bytes/\bg.cells.toList.all Value.oneCell'=true/\(t.qL=true->OQ tab t bg.cells.toList)
  |.struct=>∃c7,P.underlying T=some (.struct c7)/\c7.toList.mapM (fun f=>(P.info? f.type).map fun i=>(f.offset,i.size))=some (aM.kM.zip aM.jI)/\aM.jI.length=aM.kM.length/\aM.jI.all (fun n=>Nat.ble 1 n)=true
  |.array n nw=>∃e i,P.underlying T=some (.array n e)/\P.info? e=some i/\i.size=nw/\nw≠0/\aM.kM=(List.range n).map (·*nw)/\aM.jI=List.replicate n nw /\
    ∀w,(Go.isAgg e).run P w=.ok (Nat.ble 2 nw) w
  |.qH=>∃K a6 i,P.underlying T=some (.map K a6)/\P.underlying K=some (.int .i64)/\P.info? a6=some i/\i.zero=some (.bool false)
  |.iface=>∃ms,P.underlying T=some (.interface ms)
  |.other=>True

structure Gb(P:Program)(tab:cm):Prop where
 aft : ∃fn, P.funcs[tab.f0]? = some fn /\ fn.body.isSome = true /\ (fn.name == "runtime.NumGoroutine") = false
 afu : ∃fn, P.funcs[tab.f1]? = some fn /\ fn.body.isSome = true /\ (fn.name == "runtime.NumGoroutine") = false
 ait:∀(n:Int) (w:World),Calls P tab.f0 #[.int .i64 n] w fun e w'=>e=.returned (.int .i64 (pB none n))/\w'=w
 aiu:∀(n m:Int) (b:Nat) (w:World),w.cell? (ca b 0)=some (.int .i64 m)->Calls P tab.f1 #[.int .i64 n,.pointer (some (ca b 0))] w fun e w'=>e=.returned (.int .i64 (pB (some m) n))/\w'=w

structure fs(P:Program)(tab:cm):Prop where
 k3:tab.w=true->Gb P tab
 ok:∀T aM,dQ tab T=some aM->Gk P tab T aM
 abj:∀T aM,hg tab.eqs T=true->dQ tab T=some aM->∀(as:List C) (xs:Array Value) (q:Bool) (f:Nat) (c:C) (y:Value) w,hR aM.zero as=some q->as[f]? = some c->xs[f]? = some y->(Instr.field T (.agg xs) f).run P w=.ok y w
 eqs:∀T aM,hg tab.eqs T=true->dQ tab T=some aM->∀(as au:List C) (xs ys:Array Value) (q r:Bool) w,hR aM.zero as=some q->hR as au=some r->xs.size=as.length->ys.size=au.length ->
  (∀(i:Nat) c,as[i]? = some c->∃y,xs[i]? = some y/\dE tab w (fun _=>False) c y)->(∀(i:Nat) c,au[i]? = some c->∃y,ys[i]? = some y/\dE tab w (fun _=>False) c y) ->
  (∀op x y,(eqGuard op T x y (.agg xs) (.agg ys)).run P w=.ok () w)/\(Op.equal T (.agg xs) (.agg ys)).run P w=.ok r w

def ec(P:Program)(o:Oper)(a:Act)(w:World)(R:Value->World->Prop):Prop :=
 ∀(K:Act->World->Prop) (Q:Exit->Act->World->Prop),(∀x w',R x w'->K (a.put o.dst x) w')->o.wp P a w K Q

def cW(m:Mem)(mem:eb):eb:=fun r=>match look m r with|some B=>some B|none=>mem r

def eh(tab:cm)(O:dp)(mem:eb)(w:World)(S:Nat->Prop)(m:Mem)(v:V)(x:Value)(w':World):Prop :=
 ∃bU S',Ext O mem w S bU (cW m mem) w' S'/\Inv tab bU (cW m mem) w' S'/\cl tab bU (cW m mem) w' S' v x

section
variable {P:Program} {tab:cm} {O bU:dp} {mem fl:eb} {w w':World} {S S':Nat->Prop}

theorem g3{o:Oper}{a:Act}{x:Value}{R:Value->World->Prop}(h:(execOp a.eval o).run P w=.ok (.value x) w')(g7:R x w'):ec P o a w R :=
 fun K Q ae=>by
  unfold Oper.wp;rw[h];exact ae _ _ g7

theorem Fe{o:Oper}{a:Act}{R:Value->World->Prop}(h:(execOp a.eval o).run P w=.ok .skip w')(g7:R Go.undef w'):ec P o a w R :=
 fun K Q ae=>by
  unfold Oper.wp;rw[h];exact ae _ _ g7

theorem je.refl(B:bS):je B B:=by cases B<;>simp[je]

theorem Ext.refl:Ext O mem w S O mem w S where
 names:=fun _ h=>h
 kinds:=fun r B B' h eu=>by
  rw[h]at eu;cases eu;exact⟨je.refl B,fun _=>rfl⟩
 sub:=fun _ h=>h
 size:=Nat.le_refl _
 heap:=fun _ _ _=>rfl
 only:=fun _ h=>.inl h
 own:=fun _ h=>.inl h
 os:=rfl
 tape:=rfl
 output:=rfl

theorem KS:cW [] mem=mem:=rfl

theorem gA(aD:Inv tab O mem w S){v:V}{x:Value}(h:cl tab O mem w S v x):eh tab O mem w S [] v x w :=
 ⟨O,S,by rw[KS];exact Ext.refl,by rw[KS];exact aD,by rw[KS];exact h⟩

def fI(tab:cm)(O:dp)(mem:eb)(w:World)(S:Nat->Prop):List V->List Value->Prop
 |[],[]=>True
 |v::vs,x::xs=>cl tab O mem w S v x/\fI tab O mem w S vs xs
 |_,_=>False

def gj(m:Mem)(mem:eb):Prop:=∀r B,look m r=some B->B.alive->mem r=some B

theorem lL{x:Value}{n:Int}(h:cl tab O mem w S (.one (.E .int n)) x):x=.int .i64 n:=by
 obtain⟨_,h⟩:=h;cases h;rfl
theorem BM{x:Value}{n:Int}(h:cl tab O mem w S (.one (.E .u64 n)) x):x=.int .u64 n:=by
 obtain⟨_,h⟩:=h;cases h;rfl

theorem sU{x:Value}{n:Bool}(h:cl tab O mem w S (.one (.E .bool n)) x):x=.bool n:=by
 obtain⟨_,h⟩:=h;cases h;rfl
theorem E5{x:Value}{s:List UInt8}(h:cl tab O mem w S (.one (.E .str s)) x):x=.string ⟨s.toArray⟩:=by
 obtain⟨_,h⟩:=h;cases h;rfl
theorem pL(n:Int):cl tab O mem w S (.one (.E .int n)) (.int .i64 n):=⟨rfl,.int n⟩
theorem Et(n:Int):cl tab O mem w S (.one (.E .u64 n)) (.int .u64 n):=⟨rfl,.u64 n⟩
theorem n1(n:Bool):cl tab O mem w S (.one (.E .bool n)) (.bool n):=⟨rfl,.bool n⟩
theorem Bk(s:List UInt8):cl tab O mem w S (.one (.E .str s)) (.string ⟨s.toArray⟩):=⟨rfl,.str s⟩

theorem fI.len:∀{vs:List V} {xs:List Value},fI tab O mem w S vs xs->vs.length=xs.length
 |[],[],_=>rfl
 |_::_,_::_,h=>by simp[fI.len h.2]
 |[],_::_,h=>h.elim
 |_::_,[],h=>h.elim

theorem run_sizeOf{T:Nat}{i:TypeInfo}(h:P.info? T=some i)(w:World):(sizeOf T).run P w=.ok i.size w:=by
 simp[sizeOf,typeInfo,h]

theorem MT{T:Nat}{i:TypeInfo}{bg:Value}(h:P.info? T=some i)(dK:i.zero=some bg)(w:World):(zeroValue T).run P w=.ok bg w:=by
 simp[zeroValue,typeInfo,h,dK]

theorem hD{r q:Nat}(h:q≠r):Nat.beq r q=false:=by
 cases eu:Nat.beq r q with
 |true=>exact absurd (Nat.eq_of_beq_eq_true eu).symm h
 |false=>rfl

theorem ek{r q:Nat}{B:bS}(h:q≠r):cW [(r,B)] mem q=mem q:=by
 simp only[cW,look,hD h]

theorem fm{r:Nat}{B:bS}:cW [(r,B)] mem r=some B:=by
 simp only[cW,look,Nat.beq_refl]

theorem l3{r q:Nat}{B:bS}(h:q≠r):Live (cW [(r,B)] mem) q↔Live mem q:=by
 unfold Live;rw[ek h]

theorem n0(fc gJ:Mem)(r:Nat):look (fc++gJ) r=match look fc r with|some B=>some B|none=>look gJ r:=by
 induction fc with
 |nil=>rfl
 |cons p rest de =>
  obtain⟨k,v⟩:=p;simp only[List.cons_append,look];cases Nat.beq k r with
  |true=>rfl
  |false=>exact de

theorem vP(fc gJ:Mem):cW (fc++gJ) mem=cW fc (cW gJ mem):=by
 funext r;simp only[cW,n0];cases look fc r with
 |some B=>rfl
 |none=>rfl

theorem fz(p:Nat×bS)(m:Mem):cW (p::m) mem=cW [p] (cW m mem):=vP [p] m

theorem je.trans{hp B b7:bS}(h:je hp B)(eu:je B b7):je hp b7:=by
 cases hp<;>cases B<;>cases b7<;>simp_all[je]

theorem je.alive{hp B:bS}(h:je hp B)(ay:B.alive):hp.alive:=by
 cases hp<;>cases B<;>simp_all[je,bS.alive]

theorem Ext.trans{Zo:dp}{UG:eb}{Zd:World}{O0:Nat->Prop}(a6:Ext O mem w S bU fl w' S')(iS:Ext bU fl w' S' Zo UG Zd O0):Ext O mem w S Zo UG Zd O0 where
 names:=fun r h=>iS.names r (a6.names r h)
 kinds:=fun r B Zu h Jy=>by
  obtain⟨B',eu⟩:=nH (a6.names r (by rw[h];exact fun e=>nomatch e));have bL:=a6.kinds r B B' h eu;have b0:=iS.kinds r B' Zu eu Jy;refine⟨bL.1.trans b0.1,fun az=>?_⟩;obtain⟨amc,RL,bl⟩:=az;rw[Jy]at RL;cases RL;exact(b0.2 ⟨_,Jy,bl⟩).trans (bL.2 ⟨_,eu,b0.1.alive bl⟩)
 sub:=fun b h=>iS.sub b (a6.sub b h)
 size:=Nat.le_trans a6.size iS.size
 heap:=fun b ay aq=>by
  refine(iS.heap b (Nat.lt_of_lt_of_le ay a6.size) fun h=>?_).trans (a6.heap b ay aq);rcases a6.own b h with h|h
  ·exact aq h
  ·omega
 only:=fun b h=>by
  rcases iS.only b h with h|h|h
  ·exact a6.only b h
  ·exact .inr (.inl (Nat.le_trans a6.size h))
  ·rcases a6.own b h with h|h
   ·exact .inr (.inr h)
   ·exact .inr (.inl h)
 own:=fun b h=>by
  rcases iS.own b h with h|h
  ·exact a6.own b h
  ·exact .inr (Nat.le_trans a6.size h)
 os:=iS.os.trans a6.os
 tape:=iS.tape.trans a6.tape
 output:=iS.output.trans a6.output

theorem Inv.r5(aD:Inv tab O mem w S){q:Nat}{l:Loc}{b:Nat}(I:Live mem q)(G:O q=some l)(Y:l.block=some b):b<w.heap.size:=by
 obtain⟨B',fG,bl⟩:=I;obtain⟨anu,e,tU⟩:=aD.rel q B' fG bl;rw[G]at e;cases e;cases B' with
 |dead=>exact bl.elim
 |box cs =>
  cases l with
  |ez x=>exact tU.elim
  |gB ft =>
   obtain⟨vs,e,dd,_⟩:=tU;simp only[Loc.block]at Y;cases Y;exact(Array.getElem?_eq_some_iff.1 dd).1
 |set aF =>
  cases l with
  |ez x=>exact tU.elim
  |gB ft =>
   obtain⟨es,clock,dd,_⟩:=tU;simp only[Loc.block]at Y;cases Y;exact(Array.getElem?_eq_some_iff.1 dd).1
 |eE t iM cs =>
  cases l with
  |gB ft=>exact tU.elim
  |ez x =>
   obtain⟨ft,cap,cur,e,rfl,dd,_⟩:=tU;simp[Loc.block,Value.ownBlock,ca]at Y;subst Y;exact(Array.getElem?_eq_some_iff.1 dd).1
 |arr t iM =>
  cases l with
  |gB ft=>exact tU.elim
  |ez x =>
   rcases tU with⟨rfl,_⟩|⟨ft,cap,cur,e,rfl,dd,_⟩
   ·simp[Loc.block,Value.ownBlock]at Y
   ·simp[Loc.block,Value.ownBlock,ca]at Y;subst Y;exact(Array.getElem?_eq_some_iff.1 dd).1

theorem p3.ext(a6:Ext O mem w S bU fl w' S')(aD:Inv tab O mem w S){B:bS}{l:Loc}(h:p3 tab O mem w S B l)(dd:∀b,l.block=some b->w'.heap[b]? = w.heap[b]?) :
  p3 tab bU fl w' S' B l:=by
 cases B with
 |dead=>exact h.elim
 |box cs =>
  cases l with
  |ez x=>exact h.elim
  |gB ft =>
   obtain⟨vs,ty,ay,av,aA⟩:=h;refine⟨vs,ty,(dd ft rfl).trans ay,av,fun i c hi=>?_⟩;obtain⟨y,I,G,Y⟩:=aA i c hi;exact⟨y,I,G,Y.ext a6 aD⟩
 |set aF =>
  cases l with
  |ez x=>exact h.elim
  |gB ft =>
   obtain⟨es,clock,ay,av,aA⟩:=h;exact⟨es,clock,(dd ft rfl).trans ay,av,aA⟩
 |eE t iM cs =>
  cases l with
  |gB ft=>exact h.elim
  |ez x =>
   obtain⟨ft,cap,cur,ty,rfl,ay,Y,aS,bj,bK,c4⟩:=h;refine⟨ft,cap,cur,ty,rfl,(dd ft rfl).trans ay,Y,aS,bj,fun i j c hi aT=>?_,fun j c aT=>?_⟩
   ·obtain⟨y,a1,bf,ck⟩:=bK i j c hi aT;exact⟨y,a1,bf,ck.mono a6.sub (a6.keeps aD)⟩
   ·obtain⟨fe,y,a1,bf,ck⟩:=c4 j c aT;exact⟨fe,y,a1,bf,ck.ext a6 aD⟩
 |arr t iM =>
  cases l with
  |gB ft=>exact h.elim
  |ez x =>
   rcases h with h|⟨ft,cap,cur,ty,rfl,ay,Y,aS,bj,bK⟩
   ·exact .inl h
   ·refine .inr ⟨ft,cap,cur,ty,rfl,(dd ft rfl).trans ay,Y,aS,bj,fun i j c hi aT=>?_⟩;obtain⟨y,a1,bf,ck⟩:=bK i j c hi aT;exact⟨y,a1,bf,ck.mono a6.sub (a6.keeps aD)⟩

def mN(r:Nat)(l:Loc)(O:dp):dp:=fun q=>if q=r then some l else O q

theorem hA{r:Nat}{l:Loc}:mN r l O r=some l:=if_pos rfl
theorem km{r q:Nat}{l:Loc}(h:q≠r):mN r l O q=O q:=if_neg h

theorem q3{o:Obj}{r:Nat}{B:bS}{l:Loc}(aw:mem r=none)(az:l.block=some w.heap.size\/l.block=none) :
  Ext O mem w S (mN r l O) (cW [(r,B)] mem) (w.alloc o) S:=by
 refine⟨fun q aH=>?_,fun q gb iD I G=>?_,fun _ h=>h,by simp,fun b ay _=>heap_alloc_old w o ay,fun _ h=>.inl h,fun b ay=>?_,rfl,rfl,rfl⟩
 ·by_cases e:q=r
  ·subst e;exact absurd aw aH
  ·rw[ek e];exact aH
 ·by_cases e:q=r
  ·subst e;rw[aw]at I;cases I
  ·rw[ek e,I]at G;cases G;exact⟨je.refl _,fun _=>km e⟩
 ·obtain⟨q,l',I,G,Y⟩:=ay
  by_cases e:q=r
  ·subst e;rw[hA]at G;cases G;rcases az with az|az
   ·rw[az]at Y;cases Y;exact .inr (Nat.le_refl _)
   ·rw[az]at Y;cases Y
  ·rw[km e]at G;exact .inl ⟨q,l',(l3 e).1 I,G,Y⟩

theorem r4{o:Obj}{r:Nat}{B:bS}{l:Loc}(aw:mem r=none)(az:l.block=some w.heap.size\/l.block=none)(aD:Inv tab O mem w S)
  (dP:p3 tab (mN r l O) (cW [(r,B)] mem) (w.alloc o) S B l):Inv tab (mN r l O) (cW [(r,B)] mem) (w.alloc o) S:=by
 have a6:=q3 (O:=O) (S:=S) (o:=o) (B:=B) aw az;refine⟨fun q B' fG bl=>?_,fun q gT mH I G dY gI b aN aX ay gC=>?_,fun q I dY b aN ay dw=>?_,fun b ay=>?_,aD.xY a6⟩
 ·by_cases e:q=r
  ·subst e;rw[fm]at fG;cases fG;exact⟨l,hA,dP⟩
  ·rw[ek e]at fG;obtain⟨l',aN,aX⟩:=aD.rel q B' fG bl;refine⟨l',(km e).trans aN,aX.ext a6 aD fun b ay=>heap_alloc_old w o (aD.r5 ⟨B',fG,bl⟩ aN ay)⟩
 ·by_cases e:q=r
  ·subst e;rw[hA]at aN;cases aN;have oI:gT≠q:=fun h=>mH h.symm
   rw[km oI]at aX;have:=aD.r5 ((l3 oI).1 G) aX gC;rcases az with az|az<;>rw[az]at ay<;>cases ay;omega
  ·rw[km e]at aN
   by_cases cd:gT=r
   ·subst cd;rw[hA]at aX;cases aX;have:=aD.r5 ((l3 e).1 I) aN ay;rcases az with az|az<;>rw[az]at gC<;>cases gC;omega
   ·rw[km cd]at aX;exact aD.inj q gT mH ((l3 e).1 I) ((l3 cd).1 G) dY gI b aN aX ay gC
 ·by_cases e:q=r
  ·subst e;rw[hA]at aN;cases aN;rcases az with az|az<;>rw[az]at ay<;>cases ay;have:=aD.lt _ dw;omega
  ·rw[km e]at aN;exact aD.sep q ((l3 e).1 I) dY b aN ay dw
 ·have:=aD.lt b ay;simp;omega

theorem Ta{r:Nat}(aD:Inv tab O mem w S)(aw:mem r≠none)(Jr:Prop) :
  Ext O mem w S O (cW [(r,.dead)] mem) w (fun b=>S b\/Jr/\Live mem r/\∃l,O r=some l/\l.block=some b) /\
  Inv tab O (cW [(r,.dead)] mem) w (fun b=>S b\/Jr/\Live mem r/\∃l,O r=some l/\l.block=some b):=by
 have pO:¬Live (cW [(r,.dead)] mem) r:=fun⟨B,h,bl⟩=>by rw[fm]at h;cases h;exact bl
 have a6:Ext O mem w S O (cW [(r,.dead)] mem) w (fun b=>S b\/Jr/\Live mem r/\∃l,O r=some l/\l.block=some b):=by
  refine⟨fun q aH=>?_,fun q gb iD I G=>?_,fun _ h=>.inl h,Nat.le_refl _,fun _ _ _=>rfl,fun b h=>?_,fun b ay=>?_,rfl,rfl,rfl⟩
  ·by_cases e:q=r
   ·subst e;rw[fm];exact fun h=>nomatch h
   ·rw[ek e];exact aH
  ·by_cases e:q=r
   ·subst e;rw[fm]at G;cases G;exact⟨by cases gb<;>trivial,fun h=>absurd h pO⟩
   ·rw[ek e,I]at G;cases G;exact⟨je.refl _,fun _=>rfl⟩
  ·rcases h with h|⟨_,az,l,I,G⟩
   ·exact .inl h
   ·exact .inr (.inr ⟨r,l,az,I,G⟩)
  ·obtain⟨q,l',I,G,Y⟩:=ay
   by_cases e:q=r
   ·subst e;exact absurd I pO
   ·exact .inl ⟨q,l',(l3 e).1 I,G,Y⟩
 refine⟨a6,fun q B' fG bl=>?_,fun q gT mH I G dY gI b aN aX ay gC=>?_,fun q I dY b aN ay dw=>?_,fun b ay=>?_,aD.pow.mono a6.sub⟩
 ·by_cases e:q=r
  ·subst e;exact absurd ⟨B',fG,bl⟩ pO
  ·rw[ek e]at fG;obtain⟨l',aN,aX⟩:=aD.rel q B' fG bl;exact⟨l',aN,aX.ext a6 aD fun _ _=>rfl⟩
 ·by_cases e:q=r
  ·subst e;exact absurd I pO
  ·by_cases cd:gT=r
   ·subst cd;exact absurd G pO
   ·exact aD.inj q gT mH ((l3 e).1 I) ((l3 cd).1 G) dY gI b aN aX ay gC
 ·by_cases e:q=r
  ·subst e;exact absurd I pO
  ·rcases dw with dw|⟨_,az,l,a1,bf⟩
   ·exact aD.sep q ((l3 e).1 I) dY b aN ay dw
   ·exact aD.inj q r e ((l3 e).1 I) az dY l b aN a1 ay bf
 ·rcases ay with ay|⟨_,az,l,a1,bf⟩
  ·exact aD.lt b ay
  ·exact aD.r5 az a1 bf

theorem zy{r b:Nat}{B B':bS}{l:Loc}(aw:mem r=some B)(bl:B.alive)(dn:O r=some l)(ay:l.block=some b)(ae:je B B')(fw:w'.heap.size=w.heap.size)
  (b8:∀k,k≠b->w'.heap[k]? = w.heap[k]?) (I:w'.os=w.os) (G:w'.tape=w.tape) (Y:w'.output=w.output):Ext O mem w S O (cW [(r,B')] mem) w' S:=by
 refine⟨fun q aH=>?_,fun q gb iD I G=>?_,fun _ h=>h,Nat.le_of_eq fw.symm,fun k jC aq=>b8 k fun e=>aq ⟨r,l,⟨B,aw,bl⟩,dn,by rw[e];exact ay⟩,fun _ h=>.inl h,fun k jC=>?_,I,G,Y⟩
 ·by_cases e:q=r
  ·subst e;rw[fm];exact fun h=>nomatch h
  ·rw[ek e];exact aH
 ·by_cases e:q=r
  ·subst e;rw[fm]at G;cases G;rw[aw]at I;cases I;exact⟨ae,fun _=>rfl⟩
  ·rw[ek e,I]at G;cases G;exact⟨je.refl _,fun _=>rfl⟩
 ·obtain⟨q,l',I,G,Y⟩:=jC
  by_cases e:q=r
  ·subst e;exact .inl ⟨q,l',⟨B,aw,bl⟩,G,Y⟩
  ·exact .inl ⟨q,l',(l3 e).1 I,G,Y⟩

theorem zz{r b:Nat}{B B':bS}{l:Loc}(aw:mem r=some B)(bl:B.alive)(dn:O r=some l)(ay:l.block=some b)(fw:w'.heap.size=w.heap.size)
  (b8:∀k,k≠b->w'.heap[k]? = w.heap[k]?) (a6:Ext O mem w S O (cW [(r,B')] mem) w' S) (aD:Inv tab O mem w S) (dP:p3 tab O (cW [(r,B')] mem) w' S B' l) :
  Inv tab O (cW [(r,B')] mem) w' S:=by
 have az:∀q,Live (cW [(r,B')] mem) q->Live mem q:=fun q h=>by
  by_cases e:q=r
  ·subst e;exact⟨B,aw,bl⟩
  ·exact(l3 e).1 h
 refine⟨fun q gb qq AE=>?_,fun q gT mH I G dY gI k aN aX ae jC=>aD.inj q gT mH (az q I) (az gT G) dY gI k aN aX ae jC,
  fun q I dY k aN ae dw=>aD.sep q (az q I) dY k aN ae dw,fun k ae=>by rw[fw];exact aD.lt k ae,aD.xY a6⟩
 by_cases e:q=r
 ·subst e;rw[fm]at qq;cases qq;exact⟨l,dn,dP⟩
 ·rw[ek e]at qq;obtain⟨l',aN,aX⟩:=aD.rel q gb qq AE;exact⟨l',aN,aX.ext a6 aD fun k ae=>b8 k fun hF=>aD.inj q r e ⟨gb,qq,AE⟩ ⟨B,aw,bl⟩ l' l k aN dn ae (by rw[hF];exact ay)⟩

theorem EH{r fo:Nat}{B B':bS}{l l':Loc}(aw:mem r=some B)(bl:B.alive)(g9:mem fo=none)(dn:O r=some l)(az:l'.block=l.block)
  (fw:w'.heap.size=w.heap.size) (b8:∀k,l.block≠some k->w'.heap[k]? = w.heap[k]?) (I:w'.os=w.os) (G:w'.tape=w.tape) (Y:w'.output=w.output) (aD:Inv tab O mem w S) :
  Ext O mem w S (mN fo l' O) (cW [(r,.dead),(fo,B')] mem) w' S /\
  (p3 tab (mN fo l' O) (cW [(r,.dead),(fo,B')] mem) w' S B' l'->Inv tab (mN fo l' O) (cW [(r,.dead),(fo,B')] mem) w' S):=by
 have dj:fo≠r:=fun e=>by subst e;rw[aw]at g9;cases g9
 have fc:cW [(r,.dead),(fo,B')] mem r=some .dead:=by rw[fz,fm]
 have gJ:cW [(r,.dead),(fo,B')] mem fo=some B':=by rw[fz,ek dj,fm]
 have hz:∀q,q≠r->q≠fo->cW [(r,.dead),(fo,B')] mem q=mem q:=fun q h eu=>by rw[fz,ek h,ek eu]
 have pO:¬Live (cW [(r,.dead),(fo,B')] mem) r:=fun⟨B,h,bl⟩=>by rw[fc]at h;cases h;exact bl
 have lo:∀q,q≠fo->Live (cW [(r,.dead),(fo,B')] mem) q->q≠r/\Live mem q:=fun q h eu=>by
  have aH:q≠r:=fun e=>by subst e;exact pO eu
  exact⟨aH,by obtain⟨b7,iX,ab7⟩:=eu;rw[hz q aH h]at iX;exact⟨b7,iX,ab7⟩⟩
 have a6:Ext O mem w S (mN fo l' O) (cW [(r,.dead),(fo,B')] mem) w' S:=by
  refine⟨fun q aH=>?_,fun q gb iD I G=>?_,fun _ h=>h,Nat.le_of_eq fw.symm,fun k jC aq=>b8 k fun e=>aq ⟨r,l,⟨B,aw,bl⟩,dn,e⟩,fun _ h=>.inl h,fun k jC=>?_,I,G,Y⟩
  ·by_cases e:q=r
   ·subst e;rw[fc];exact fun h=>nomatch h
   ·by_cases cd:q=fo
    ·subst cd;exact absurd g9 aH
    ·rw[hz q e cd];exact aH
  ·by_cases e:q=r
   ·subst e;rw[fc]at G;cases G;exact⟨by cases gb<;>trivial,fun h=>absurd h pO⟩
   ·by_cases cd:q=fo
    ·subst cd;rw[g9]at I;cases I
    ·rw[hz q e cd,I]at G;cases G;exact⟨je.refl _,fun _=>km cd⟩
  ·obtain⟨q,dY,a1,bf,ck⟩:=jC
   by_cases cd:q=fo
   ·subst cd;rw[hA]at bf;cases bf;exact .inl ⟨r,l,⟨B,aw,bl⟩,dn,az▸ck⟩
   ·rw[km cd]at bf;exact .inl ⟨q,dY,(lo q cd a1).2,bf,ck⟩
 refine⟨a6,fun dP=>⟨fun q gb qq AE=>?_,fun q gT mH a1 bf dY gI k aN aX ae jC=>?_,fun q a1 dY k aN ae dw=>?_,fun k ae=>by rw[fw];exact aD.lt k ae,aD.xY a6⟩⟩
 ·by_cases cd:q=fo
  ·subst cd;rw[gJ]at qq;cases qq;exact⟨l',hA,dP⟩
  ·obtain⟨aH,sy⟩:=lo q cd ⟨gb,qq,AE⟩;rw[hz q aH cd]at qq;obtain⟨dY,aN,aX⟩:=aD.rel q gb qq AE;exact⟨dY,(km cd).trans aN,aX.ext a6 aD fun k ae=>b8 k fun hF=>aD.inj q r aH sy ⟨B,aw,bl⟩ dY l k aN dn ae hF⟩
 ·by_cases cd:q=fo
  ·subst cd;rw[hA]at aN;cases aN;have oI:gT≠q:=fun h=>mH h.symm
   rw[km oI]at aX;obtain⟨aH,sy⟩:=lo gT oI bf;exact aD.inj r gT (Ne.symm aH) ⟨B,aw,bl⟩ sy l gI k dn aX (az▸ae) jC
  ·rw[km cd]at aN;obtain⟨aH,sy⟩:=lo q cd a1
   by_cases I0:gT=fo
   ·subst I0;rw[hA]at aX;cases aX;exact aD.inj q r aH sy ⟨B,aw,bl⟩ dY l k aN dn ae (az▸jC)
   ·rw[km I0]at aX;exact aD.inj q gT mH sy (lo gT I0 bf).2 dY gI k aN aX ae jC
 ·by_cases cd:q=fo
  ·subst cd;rw[hA]at aN;cases aN;exact aD.sep r ⟨B,aw,bl⟩ l k dn (az▸ae) dw
  ·rw[km cd]at aN;exact aD.sep q (lo q cd a1).2 dY k aN ae dw
end
end bF
end Go.Proofs.YtlbppjmekiemiabGreatDoor


/- The executor on data: operations, one by one (first part). No condition. -/
namespace Go.Proofs.YtlbppjmekiemiabGreatDoor
namespace bF
section
variable {P:Program} {tab:cm} {O bU:dp} {mem fl:eb} {w w':World} {S S':Nat->Prop}

theorem Zh:∀{cs:List C} {xs:List Value},r3 cs xs->xs.length=cs.length/\∀(i:Nat) c,cs[i]? = some c->∃y,xs[i]? = some y/\y.oneCell'=true/\fx tab O mem w S c y:=by
 intro cs
 induction cs with
 |nil=>intro xs h;cases xs with
  |nil=>exact⟨rfl,fun i c h=>by simp at h⟩
  |cons x xs=>exact h.elim
 |cons c cs de =>
  intro xs h;cases xs with
  |nil=>cases c<;>(try exact h.elim) ; rename_i t d;cases t<;>exact h.elim
  |cons x xs =>
   have key:∃eu:r3 cs xs,x.oneCell'=true/\fx tab O mem w S c x:=by
    cases c with
    |E t d =>
     cases t with
     |int=>obtain⟨I,rfl,Y⟩:=h;dsimp only[z.den]at d;subst I;exact⟨Y,rfl,.int 0⟩
     |bool=>obtain⟨I,rfl,Y⟩:=h;dsimp only[z.den]at d;subst I;exact⟨Y,rfl,.bool false⟩
     |str=>obtain⟨I,rfl,Y⟩:=h;dsimp only[z.den]at d;subst I;exact⟨Y,rfl,.str []⟩
     |_=>exact h.elim
    |nil t=>obtain⟨rfl,Y⟩:=h;exact⟨Y,rfl,rfl⟩
    |undef=>obtain⟨I,Y⟩:=h;exact⟨Y,I,trivial⟩
    |_=>exact h.elim
   obtain⟨eu,I,G⟩:=key;obtain⟨e,aw⟩:=de eu;refine⟨by simp[e],fun i fN hi=>?_⟩;cases i with
   |zero=>simp at hi;subst hi;exact⟨x,by simp,I,G⟩
   |succ i=>simp at hi;simpa using aw i fN hi

theorem BL{v:V}{x:Value}{cs:List C}(h:cl tab O mem w S v x)(aA:v.cells=some cs) :
  x.cells.size=cs.length/\∀(i:Nat) c,cs[i]? = some c->∃y,x.cells[i]? = some y/\y.oneCell'=true/\fx tab O mem w S c y:=by
 cases v with
 |ao vs=>cases aA
 |agg eO =>
  cases aA;obtain⟨xs,rfl,I,G⟩:=h;exact⟨I,G⟩
 |one c =>
  have b8:cs=[c]/\kd tab O mem w S (.one c) x:=by
   cases c<;>first|(cases aA;done)|(cases aA;exact⟨rfl,h⟩)
  obtain⟨rfl,I,G⟩:=b8;have aG:x.cells=#[x]:=by cases x<;>first|rfl|cases I
  rw[aG];refine⟨rfl,fun i fN hi=>?_⟩;cases i with
  |zero=>simp at hi;subst hi;exact⟨x,rfl,I,G⟩
  |succ i=>simp at hi

theorem U7{o:Oper}{a:Act}{x:Operand}{v:V}(aY:o.op=.move x\/o.op=.assign x)(aD:Inv tab O mem w S)(aR:cl tab O mem w S v (a.eval x)) :
  ec P o a w (eh tab O mem w S [] v):=by
 refine g3 (x:=a.eval x) (w':=w) ?_ (gA aD aR);rcases aY with aY|aY<;>simp[execOp,aY]

theorem U8{o:Oper}{a:Act}{c x y:Operand}{b:Bool}{u v:V}(aY:o.op=.pick c x y)(aD:Inv tab O mem w S)(aA:cl tab O mem w S (.one (.E .bool b)) (a.eval c))
  (hu:cl tab O mem w S u (a.eval x)) (aR:cl tab O mem w S v (a.eval y)) :
  ec P o a w (eh tab O mem w S [] (match b with|true=>u|false=>v)):=by
 have ay:=sU aA;cases b with
 |true=>exact g3 (x:=a.eval x) (w':=w) (by simp[execOp,aY,ay,asBool]) (gA aD hu)
 |false=>exact g3 (x:=a.eval y) (w':=w) (by simp[execOp,aY,ay,asBool]) (gA aD aR)

theorem af6{o:Oper}{a:Act}{T base:Nat}{aM:c9}(bI:fs P tab)(aY:o.op=.alloc T)(bm:dQ tab T=some aM)(aD:Inv tab O mem w S)(ay:mem base=none) :
  ec P o a w (eh tab O mem w S [(base,.box aM.zero)] (.one (.ptr base 0))):=by
 obtain⟨i,bg,I,G,Y,aS,_⟩:=(bI.ok T aM bm).info;have az:(Loc.gB w.heap.size).block=some w.heap.size\/(Loc.gB w.heap.size).block=none:=.inl rfl;have a6:=q3 (O:=O) (S:=S) (w:=w) (o:=.cells bg.cells T) (B:=.box aM.zero) ay az;obtain⟨aN,aX⟩:=Zh (tab:=tab) (O:=mN base (.gB w.heap.size) O) (mem:=cW [(base,.box aM.zero)] mem) (w:=w.alloc (.cells bg.cells T)) (S:=S) aS;refine g3 (x:=.pointer (some (ca w.heap.size 0))) (w':=w.alloc (.cells bg.cells T)) ?_ ⟨_,S,a6,r4 ay az aD ⟨bg.cells,T,heap_alloc_new w _,by simpa using aN,fun i c hi=>?_⟩,?_⟩
 ·simp[execOp,aY,Instr.alloc,MT I Y,newVar,newRow,ca]
 ·obtain⟨y,a1,bf,ck⟩:=aX i c hi;exact⟨y,by simpa using a1,bf,ck⟩
 ·refine⟨rfl,?_,fun cs _=>⟨w.heap.size,hA,rfl⟩⟩;rw[fm];exact fun h=>nomatch h

theorem agd{o:Oper}{a:Act}{T base:Nat}{x:Operand}{v:V}{cs:List C}(aY:o.op=.box T x)(aR:cl tab O mem w S v (a.eval x))(aA:v.cells=some cs)(aD:Inv tab O mem w S)(ay:mem base=none) :
  ec P o a w (eh tab O mem w S [(base,.box cs)] (.one (.ptr base 0))):=by
 obtain⟨aN,aX⟩:=BL aR aA;have az:(Loc.gB w.heap.size).block=some w.heap.size\/(Loc.gB w.heap.size).block=none:=.inl rfl;have a6:=q3 (O:=O) (S:=S) (w:=w) (o:=.cells (a.eval x).cells T) (B:=.box cs) ay az;refine g3 (x:=.pointer (some (ca w.heap.size 0))) (w':=w.alloc (.cells (a.eval x).cells T)) ?_ ⟨_,S,a6,r4 ay az aD ⟨(a.eval x).cells,T,heap_alloc_new w _,aN,fun i c hi=>?_⟩,?_⟩
 ·simp[execOp,aY,Instr.box,newVar,newRow,ca]
 ·obtain⟨y,a1,bf,ck⟩:=aX i c hi;exact⟨y,a1,bf,ck.ext a6 aD⟩
 ·refine⟨rfl,?_,fun cs _=>⟨w.heap.size,hA,rfl⟩⟩;rw[fm];exact fun h=>nomatch h

theorem run_loadCells(b off n:Nat)(f:Nat->Value)(h:∀j,j<n->w.cell? (ca b (off+j))=some (f j)) :
  (loadCells (ca b off) n).run P w=.ok ((List.range n).map f).toArray w:=by
 have:=run_loadCells_list (P:=P) w (ca b off) ((List.range n).map f) (fun j v aT=>by
  rw[ca,Addr.add_lit];simp only[List.getElem?_map]at aT
  by_cases AV:j<n
  ·simp[List.getElem?_range AV]at aT;rw[<- aT];exact h j AV
  ·simp[List.getElem?_eq_none (l:=List.range n) (i:=j) (by simpa using AV)]at aT)
 simpa using this

theorem Xg{T:Nat}{aM:c9}(bI:fs P tab)(bm:dQ tab T=some aM)(b off:Nat)(f:Nat->Value)(cs:List C)(aq:cs.length=aM.n)
  (h:∀(j:Nat) c,cs[j]? = some c->w.cell? (ca b (off+j))=some (f j)/\(f j).oneCell'=true/\fx tab O mem w S c (f j)) (v:V) (aR:xR aM.agg cs=some v) :
  ∃x,(loadVar T (ca b off)).run P w=.ok x w/\cl tab O mem w S v x:=by
 have xx:=(bI.ok T aM bm).isAgg w;obtain⟨i,bg,I,G,Y,aS,_⟩:=(bI.ok T aM bm).info;have az:=run_loadCells (P:=P) (w:=w) b off aM.n f (fun j aT=>by
  obtain⟨c,aA⟩:∃c,cs[j]? = some c:=⟨_,List.getElem?_eq_getElem (aq▸aT)⟩
  exact(h j c aA).1)
 cases bt:aM.agg with
 |true =>
  rw[bt]at aR xx;cases aR;refine⟨.agg ((List.range aM.n).map f).toArray,?_,((List.range aM.n).map f).toArray,rfl,by simp[aq],fun j c aT=>?_⟩
  ·simp[loadVar,xx,run_sizeOf I,G,az]
  ·have AV:j<aM.n:=by rw[<- aq];exact(List.getElem?_eq_some_iff.1 aT).1
   refine⟨f j,by simp[AV],(h j c aT).2.1,(h j c aT).2.2⟩
 |false =>
  rw[bt]at aR xx
  match cs,aR with
  |[c],aR =>
   cases aR;have a2:=h 0 c rfl;refine⟨f 0,?_,?_⟩
   ·simp only[loadVar,Sem.run_bind,xx,Result.andThen_ok];simp;rw[show off=off+0 from rfl,a2.1]
   ·cases c<;>first|trivial|exact⟨a2.2.1,a2.2.2⟩
end
end bF
end Go.Proofs.YtlbppjmekiemiabGreatDoor


/- The executor on data: operations, one by one (second part: loads and stores). No condition. -/
namespace Go.Proofs.YtlbppjmekiemiabGreatDoor
namespace bF
section
variable {P:Program} {tab:cm} {O bU:dp} {mem fl:eb} {w w':World} {S S':Nat->Prop}

theorem zj{α:Type}(l:List α)(o n j:Nat)(c:α)(h:(aW l o (o+n))[j]? = some c):j<n/\l[o+j]? = some c:=by
 unfold aW at h;simp only[List.getElem?_drop,List.getElem?_take]at h;split at h
 ·exact⟨by omega,h⟩
 ·cases h

theorem ob{α:Type}(l:List α)(o n:Nat)(h:o+n<=l.length):(aW l o (o+n)).length=n:=by
 unfold aW;simp;omega

theorem jj(t:z)(d:t.den):(t.cells d).length=t.width:=by
 cases t<;>rfl

theorem Ff{lm:Mem}{r:Nat}{cs:List C}(av:gj lm mem)(h:look lm r=some (.box cs)):mem r=some (.box cs):=av r _ h trivial
theorem wv{lm:Mem}{r:Nat}{t:z}{l:List t.den}(av:gj lm mem)(h:look lm r=some (.arr t l)):mem r=some (.arr t l):=av r _ h trivial

theorem BT{lm:Mem}{r o:Nat}{cs:List C}{x:Value}(av:gj lm mem)(aD:Inv tab O mem w S)(h:look lm r=some (.box cs))(aG:cl tab O mem w S (.one (.ptr r o)) x) :
  ∃b vs e,x=.pointer (some (ca b o))/\O r=some (.gB b)/\w.heap[b]? = some (.cells vs e (0,0))/\vs.size=cs.length /\
   ∀(i:Nat) c,cs[i]? = some c->∃y,vs[i]? = some y/\y.oneCell'=true/\fx tab O mem w S c y:=by
 have aB:=Ff av h;obtain⟨_,_,ad⟩:=aG;obtain⟨b,aN,rfl⟩:=ad cs aB;obtain⟨l,aX,dP⟩:=aD.rel r _ aB trivial;rw[aN]at aX;cases aX;obtain⟨vs,e,I,G,Y⟩:=dP;exact⟨b,vs,e,rfl,aN,I,G,Y⟩

theorem MY{lm:Mem}{r i k:Nat}{t:z}{l:List t.den}{x:Value}(av:gj lm mem)(aD:Inv tab O mem w S)(h:look lm r=some (.arr t l))(aG:cl tab O mem w S (.one (.kn r i k)) x) :
  ∃b cap cur e,x=.pointer (some (ca b (i*t.width+k)))/\O r=some (.ez (.slice (some (ca b 0)) l.length cap))/\w.heap[b]? = some (.cells cur e (0,0))/\l.length<=cap/\cap<=maxLen /\
   cap*t.width<=cur.size/\∀i j c,i<l.length->(t.cells (nth l i t.H))[j]? = some c->∃y,cur[i*t.width+j]? = some y/\y.oneCell'=true/\dE tab w S c y:=by
 have aB:=wv av h;obtain⟨_,_,ad⟩:=aG;obtain⟨b,m,cap,aN,rfl⟩:=ad t l aB;obtain⟨l',aX,dP⟩:=aD.rel r _ aB trivial;rw[aN]at aX;cases aX;rcases dP with⟨I,_⟩|⟨ft,xa,cur,e,I,G,Y,aS,bj,bK⟩
 ·cases I
 ·cases I;exact⟨b,cap,cur,e,rfl,aN,G,Y,aS,bj,bK⟩

theorem Xu{lm:Mem}{r:Nat}{t:z}{l:List t.den}{cs:List C}(av:gj lm mem)(h:look lm r=some (.eE t l cs)):mem r=some (.eE t l cs):=av r _ h trivial

def Ct(tab:cm)(O:dp)(mem:eb)(w:World)(S:Nat->Prop)(t:z)(l:List t.den)(cs:List C)(b cap:Nat)(cur:Array Value)(e:TypeId):Prop :=
 w.heap[b]? = some (.cells cur e (0,0))/\l.length+1<=cap/\cap<=maxLen/\cap*t.width<=cur.size /\
  (∀i j c,i<l.length->(t.cells (nth l i t.H))[j]? = some c->∃y,cur[i*t.width+j]? = some y/\y.oneCell'=true/\dE tab w S c y) /\
  ∀j c,cs[j]? = some c->j<t.width/\∃y,cur[l.length*t.width+j]? = some y/\y.oneCell'=true/\fx tab O mem w S c y

theorem Pf{lm:Mem}{r:Nat}{t:z}{l:List t.den}{cs:List C}(av:gj lm mem)(aD:Inv tab O mem w S)(h:look lm r=some (.eE t l cs)) :
  mem r=some (.eE t l cs)/\∃b cap cur e,O r=some (.ez (.slice (some (ca b 0)) (l.length+1) cap))/\Ct tab O mem w S t l cs b cap cur e:=by
 have aB:=Xu av h;obtain⟨l',aX,dP⟩:=aD.rel r _ aB trivial;cases l' with
 |gB b=>exact dP.elim
 |ez x =>
  obtain⟨b,cap,cur,e,rfl,G⟩:=dP;exact⟨aB,b,cap,cur,e,aX,G⟩

theorem CD{lm:Mem}{r k:Nat}{t:z}{l:List t.den}{cs:List C}{x:Value}(av:gj lm mem)(aD:Inv tab O mem w S)(h:look lm r=some (.eE t l cs))(aG:cl tab O mem w S (.one (.lc r k)) x) :
  ∃b cap cur e,x=.pointer (some (ca b (l.length*t.width+k)))/\O r=some (.ez (.slice (some (ca b 0)) (l.length+1) cap))/\Ct tab O mem w S t l cs b cap cur e:=by
 obtain⟨aB,b,cap,cur,e,aN,G⟩:=Pf av aD h;obtain⟨_,_,ad⟩:=aG;obtain⟨ft,m,xa,cS,rfl⟩:=ad t l cs aB;rw[aN]at cS;cases cS;exact⟨b,cap,cur,e,rfl,aN,G⟩

theorem zQ{lm:Mem}{r:Nat}{t:z}{l:List t.den}{cs:List C}{x:Value}(av:gj lm mem)(aD:Inv tab O mem w S)(h:look lm r=some (.eE t l cs))(aG:cl tab O mem w S (.one (.iv r)) x) :
  mem r=some (.eE t l cs)/\∃b cap cur e,x=.slice (some (ca b 0)) (l.length+1) cap/\O r=some (.ez x)/\Ct tab O mem w S t l cs b cap cur e:=by
 obtain⟨aB,b,cap,cur,e,aN,G⟩:=Pf av aD h;obtain⟨_,_,ad⟩:=aG;have cS:=ad t l cs aB;rw[aN]at cS;cases cS;exact⟨aB,b,cap,cur,e,rfl,aN,G⟩

theorem cell?_at {b o:Nat} {vs:Array Value} {e:TypeId} {tC:Nat×Nat} {y:Value} (h:w.heap[b]? = some (.cells vs e tC)) (cv:vs[o]? = some y):w.cell? (ca b o)=some y:=by
 simp[World.cell?,ca,h,cv]

theorem dE.Bw{c:C}{x:Value}(h:dE tab w S c x):x.oneCell'=true:=by cases h<;>rfl

theorem dE.BK{c:C}{x:Value}(h:dE tab w S c x):fx tab O mem w S c x:=by
 have eu:=h;cases h<;>exact eu

theorem agx{o:Oper}{a:Act}{T:Nat}{aM:c9}{x:Operand}{c:C}{lm:Mem}{p:Option Prop}{v:V}{m:Mem}(bI:fs P tab)(aY:o.op=.load T x)(bm:dQ tab T=some aM)
  (aD:Inv tab O mem w S) (av:gj lm mem) (aG:cl tab O mem w S (.one c) (a.eval x)) (h:uc aM c lm=some (p,v,m)) (ad:under p True) :
  ec P o a w (eh tab O mem w S m v):=by
 have fin:∀(b off:Nat) (f:Nat->Value) (cs:List C),a.eval x=.pointer (some (ca b off))->cs.length=aM.n->(∀(j:Nat) c,cs[j]? = some c->w.cell? (ca b (off+j))=some (f j)/\(f j).oneCell'=true/\fx tab O mem w S c (f j)) ->
   xR aM.agg cs=some v->m=[]->ec P o a w (eh tab O mem w S m v):=fun b off f cs aN aX cS lz m8=>by
  obtain⟨y,cv,dP⟩:=Xg bI bm b off f cs aX cS v lz;subst m8;exact g3 (x:=y) (w':=w) (by simp[execOp,aY,Instr.loadAt,Instr.sureAddr,aN,cv]) (gA aD dP)
 cases c with
 |ptr r off =>
  simp only[uc]at h;split at h<;>try cases h
  rename_i cs az;split at h<;>try cases h
  rename_i e1 aR;split at h<;>try cases h
  rename_i hle;have mF:=Nat.le_of_ble_eq_true hle;obtain⟨b,vs,e,aN,aX,cS,lz,m8⟩:=BT av aD az aG;refine fin b off (fun j=>(vs[off+j]?).getD undef) (aW cs off (off+aM.n)) aN (ob _ _ _ mF) (fun j c aT=>?_) aR rfl;obtain⟨I,G⟩:=zj cs off aM.n j c aT;obtain⟨y,a1,bf,ck⟩:=m8 _ c G;simp only[a1,Option.getD_some];exact⟨cell?_at cS a1,bf,ck⟩
 |mw t l i k =>
  simp only[uc]at h;split at h<;>try cases h
  rename_i hle;split at h<;>try cases h
  rename_i e1 aR;have mF:=Nat.le_of_ble_eq_true hle;obtain⟨_,b,off,⟨dw,f,a1,bf⟩,aX⟩:=aG;refine fin b (off+k) (fun j=>f (k+j)) (aW (t.cells (nth l i t.H)) k (k+aM.n)) aX (ob _ _ _ (by rw[jj];exact mF)) (fun j c aT=>?_) aR rfl;obtain⟨I,G⟩:=zj _ k aM.n j c aT;have b8:=a1 (k+j) (by omega);have aw:=bf (k+j) c G;exact⟨by rw[Nat.add_assoc];exact b8,aw.Bw,aw.BK⟩
 |kn r i k =>
  simp only[uc]at h;split at h<;>try cases h
  rename_i t l az;split at h<;>try cases h
  rename_i hle;split at h<;>try cases h
  rename_i e1 aR;have mF:=Nat.le_of_ble_eq_true hle;obtain⟨b,cap,cur,e,aN,aX,cS,lz,m8,Aj,tn⟩:=MY av aD az aG;have hi:i<l.length:=ad.1;refine fin b (i*t.width+k) (fun j=>(cur[i*t.width+(k+j)]?).getD undef) (aW (t.cells (nth l i t.H)) k (k+aM.n)) aN (ob _ _ _ (by rw[jj];exact mF)) (fun j c aT=>?_) aR rfl;obtain⟨I,G⟩:=zj _ k aM.n j c aT;obtain⟨y,a1,bf,ck⟩:=tn i (k+j) c hi G;simp only[a1,Option.getD_some];exact⟨by rw[Nat.add_assoc];exact cell?_at cS a1,bf,ck.BK⟩
 |lc r k =>
  simp only[uc]at h;split at h<;>try cases h
  rename_i t l cs az;split at h<;>try cases h
  rename_i e1 aR;split at h<;>try cases h
  rename_i hle;have mF:=Nat.le_of_ble_eq_true hle;obtain⟨b,cap,cur,e,aN,aX,cS,_,_,_,_,tn⟩:=CD av aD az aG;refine fin b (l.length*t.width+k) (fun j=>(cur[l.length*t.width+(k+j)]?).getD undef) (aW cs k (k+aM.n)) aN (ob _ _ _ mF) (fun j c aT=>?_) aR rfl;obtain⟨I,G⟩:=zj _ k aM.n j c aT;obtain⟨_,y,a1,bf,ck⟩:=tn (k+j) c G;simp only[a1,Option.getD_some];exact⟨by rw[Nat.add_assoc];exact cell?_at cS a1,bf,ck⟩
 |_=>cases h
end
end bF
end Go.Proofs.YtlbppjmekiemiabGreatDoor


/- The executor on data: what is frozen; stores. No condition. -/
namespace Go.Proofs.YtlbppjmekiemiabGreatDoor
namespace bF
section
variable {P:Program} {tab:cm} {O bU:dp} {mem fl:eb} {w w':World} {S S':Nat->Prop}

theorem vQ:∀(ns:List Nat) (r:Nat),hg ns r=true↔r∈ns
 |[],r=>by simp[hg]
 |q::ns,r=>by
  simp only[hg,List.mem_cons]
  by_cases e:r=q
  ·subst e;simp[Nat.beq_refl]
  ·rw[hD e];simp[e,vQ ns r]

theorem Bj{ns:List Nat}{r:Nat}(h:hg ns r=false):r∉ns:=fun aw=>by
 rw[(vQ ns r).2 aw]at h;cases h

def ga(O:dp)(mem:eb)(S:Nat->Prop)(ns:List Nat):Nat->Prop:=fun b=>S b\/∃r∈ns,Live mem r/\∃l,O r=some l/\l.block=some b

theorem Tj(ns:List Nat)(q:Nat):(q∈ns/\look (gY ns) q=some .dead)\/(q∉ns/\look (gY ns) q=none):=by
 induction ns with
 |nil=>exact .inr ⟨by simp,rfl⟩
 |cons r ns de =>
  simp only[gY,List.map_cons,look]
  by_cases e:q=r
  ·subst e;exact .inl ⟨by simp,by simp[Nat.beq_refl]⟩
  ·rw[hD e];rcases de with⟨I,G⟩|⟨I,G⟩
   ·exact .inl ⟨by simp[I],G⟩
   ·exact .inr ⟨by simp[I,e],G⟩

theorem oQ(ns:List Nat)(q:Nat):(q∈ns/\cW (gY ns) mem q=some .dead)\/(q∉ns/\cW (gY ns) mem q=mem q):=by
 rcases Tj ns q with⟨I,G⟩|⟨I,G⟩
 ·exact .inl ⟨I,by simp[cW,G]⟩
 ·exact .inr ⟨I,by simp[cW,G]⟩

theorem rJ{ns:List Nat}(aD:Inv tab O mem w S) :
  Ext O mem w S O (cW (gY ns) mem) w (ga O mem S ns)/\Inv tab O (cW (gY ns) mem) w (ga O mem S ns):=by
 have pO:∀r∈ns,¬Live (cW (gY ns) mem) r:=fun r aw ⟨B,h,bl⟩=>by
  rcases oQ (mem:=mem) ns r with⟨_,G⟩|⟨I,_⟩
  ·rw[G]at h;cases h;exact bl
  ·exact I aw
 have ne:∀r,r∉ns->cW (gY ns) mem r=mem r:=fun r aw=>by
  rcases oQ (mem:=mem) ns r with⟨I,_⟩|⟨_,G⟩
  ·exact absurd I aw
  ·exact G
 have lo:∀q,Live (cW (gY ns) mem) q->q∉ns/\Live mem q:=fun q h=>by
  have aH:q∉ns:=fun e=>pO q e h
  exact⟨aH,by obtain⟨B,I,G⟩:=h;rw[ne q aH]at I;exact⟨B,I,G⟩⟩
 have a6:Ext O mem w S O (cW (gY ns) mem) w (ga O mem S ns):=by
  refine⟨fun q aH=>?_,fun q gb iD I G=>?_,fun _ h=>.inl h,Nat.le_refl _,fun _ _ _=>rfl,fun b h=>?_,fun b ay=>?_,rfl,rfl,rfl⟩
  ·rcases oQ (mem:=mem) ns q with⟨_,G⟩|⟨_,G⟩
   ·rw[G];exact fun h=>nomatch h
   ·rw[G];exact aH
  ·rcases oQ (mem:=mem) ns q with⟨aH,Y⟩|⟨_,Y⟩
   ·rw[Y]at G;cases G;exact⟨by cases gb<;>trivial,fun h=>absurd h (pO q aH)⟩
   ·rw[Y,I]at G;cases G;exact⟨je.refl _,fun _=>rfl⟩
  ·rcases h with h|⟨r,_,az,l,I,G⟩
   ·exact .inl h
   ·exact .inr (.inr ⟨r,l,az,I,G⟩)
  ·obtain⟨q,l',I,G,Y⟩:=ay;exact .inl ⟨q,l',(lo q I).2,G,Y⟩
 refine⟨a6,fun q B' fG bl=>?_,fun q gT mH I G dY gI b aN aX ay gC=>aD.inj q gT mH (lo q I).2 (lo gT G).2 dY gI b aN aX ay gC,fun q I dY b aN ay dw=>?_,fun b ay=>?_,aD.pow.mono a6.sub⟩
 ·have aH:=(lo q ⟨B',fG,bl⟩).1;rw[ne q aH]at fG;obtain⟨l',aN,aX⟩:=aD.rel q B' fG bl;exact⟨l',aN,aX.ext a6 aD fun _ _=>rfl⟩
 ·obtain⟨aH,sy⟩:=lo q I;rcases dw with dw|⟨r,nV,az,l,a1,bf⟩
  ·exact aD.sep q sy dY b aN ay dw
  ·exact aD.inj q r (fun e=>aH (e▸nV)) sy az dY l b aN a1 ay bf
 ·rcases ay with ay|⟨r,_,az,l,a1,bf⟩
  ·exact aD.lt b ay
  ·exact aD.r5 az a1 bf

theorem afm{α:Type}(l:List α)(i:Nat)(d:α)(h:i<l.length):nth l i d=l[i]:=by
 simp[nth,List.getD,h]

theorem MP{b base cap:Nat}{cur:Array Value}{e:TypeId}{tC:Nat×Nat}{t:z}{l:List t.den}(dw:S b)(ay:w.heap[b]? = some (.cells cur e tC))(hcap:l.length<=cap)
  (h:∀i j c,i<l.length->(t.cells (nth l i t.H))[j]? = some c->∃y,cur[base+i*t.width+j]? = some y/\dE tab w S c y) :
  dE tab w S (.E (.list t) l) (.slice (some (ca b base)) l.length cap):=by
 refine .list t l b base cap (fun i j=>(cur[base+i*t.width+j]?).getD undef) dw hcap (fun i j hi aT=>?_) (fun i j c hi aT=>?_)
 ·have AU:j<(t.cells (nth l i t.H)).length:=by rw[jj];exact aT
  obtain⟨y,I,_⟩:=h i j _ hi (List.getElem?_eq_getElem AU);simp only[I,Option.getD_some];exact cell?_at ay I
 ·obtain⟨y,I,G⟩:=h i j c hi aT;simp only[I,Option.getD_some];exact G

theorem sM{ns:List Nat}{c:C}{x:Value}(h:dE tab w S c x):dE tab w (ga O mem S ns) c x:=h.mono (fun _ h=>.inl h) (fun _ _=>rfl)

theorem RE{ns ms:List Nat}{c:C}{x:Value}(h:dE tab w (ga O mem S ns) c x):dE tab w (ga O mem S (ns++ms)) c x :=
 h.mono (fun _ h=>h.imp id fun⟨r,aw,h⟩=>⟨r,by simp[aw],h⟩) (fun _ _=>rfl)
theorem Js{ns ms:List Nat}{c:C}{x:Value}(h:dE tab w (ga O mem S ms) c x):dE tab w (ga O mem S (ns++ms)) c x :=
 h.mono (fun _ h=>h.imp id fun⟨r,aw,h⟩=>⟨r,by simp[aw],h⟩) (fun _ _=>rfl)

theorem abr{r:Nat}{ms:List Nat}{c:C}{x:Value}(h:dE tab w (ga O mem S ms) c x):dE tab w (ga O mem S (r::ms)) c x:=Js (ns:=[r]) h
theorem aaC{lm:Mem}{c d:C}{ns:List Nat}{x:Value}(aD:Inv tab O mem w S)(av:gj lm mem)(aG:x.oneCell'=true/\fx tab O mem w S c x)(h:qh lm c=some (d,ns)) :
  (∀r∈ns,mem r≠none)/\dE tab w (ga O mem S ns) d x:=by
 obtain⟨I,aG⟩:=aG;cases c with
 |E t ly =>
  simp only[qh]at h;cases h;exact⟨fun r aw=>by simp at aw,sM aG⟩
 |nil t =>
  simp only[qh]at h;cases h;subst aG;exact⟨fun r aw=>by simp at aw,.empty t none 0⟩
 |own r =>
  simp only[qh]at h;split at h<;>try cases h
  rename_i t l az;have aB:=wv av az;refine⟨fun q aH=>by simp at aH;subst aH;exact aG.1,?_⟩;have dn:=aG.2 t l aB;obtain⟨l',aN,dP⟩:=aD.rel r _ aB trivial;rw[dn]at aN;cases aN;rcases dP with⟨rfl,rfl⟩|⟨b,cap,cur,e,rfl,ay,Y,aS,bj,bK⟩
  ·exact .empty t none 0
  ·have dw:ga O mem S [r] b:=.inr ⟨r,by simp,⟨_,aB,trivial⟩,_,dn,rfl⟩;refine MP dw ay Y fun i j c hi aT=>?_
   obtain⟨y,a1,_,ck⟩:=bK i j c hi aT;exact⟨y,by simpa using a1,sM ck⟩
 |_=>simp only[qh]at h;cases h
theorem aaE{lm:Mem}(aD:Inv tab O mem w S)(av:gj lm mem):∀{cs ds:List C} {ns:List Nat} (ys:Nat->Option Value),
  (∀(i:Nat) c,cs[i]? = some c->∃y,ys i=some y/\y.oneCell'=true/\fx tab O mem w S c y)->ti lm cs=some (ds,ns) ->
  (∀r∈ns,mem r≠none)/\∀(i:Nat) d,ds[i]? = some d->∃y,ys i=some y/\y.oneCell'=true/\dE tab w (ga O mem S ns) d y:=by
 intro cs
 induction cs with
 |nil =>
  intro ds ns ys _ h;simp only[ti]at h;cases h;exact⟨fun r aw=>by simp at aw,fun i d hi=>by simp at hi⟩
 |cons c cs de =>
  intro ds ns ys cv h;simp only[ti]at h;split at h<;>try cases h
  rename_i d1 gD I;split at h<;>try cases h
  rename_i Ds ms G;obtain⟨y,aN,aX,cS⟩:=cv 0 c rfl;obtain⟨a1,bf⟩:=aaC aD av ⟨aX,cS⟩ I;obtain⟨bL,dm⟩:=de (fun i=>ys (i+1)) (fun i c hi=>cv (i+1) c hi) G;refine⟨fun r aw=>?_,fun i d hi=>?_⟩
  ·simp only[List.mem_append]at aw;exact aw.elim (a1 r) (bL r)
  ·cases i with
   |zero=>simp at hi;subst hi;exact⟨y,aN,aX,RE bf⟩
   |succ i =>
    simp at hi;obtain⟨s5,f1,f2,f3⟩:=dm i d hi;exact⟨s5,f1,f2,Js f3⟩
theorem Ew:∀{t:z} {cs:List C} {d:t.den},t.Bt cs=some d->t.cells d=cs:=by
 intro t cs d h;unfold z.Bt at h;split at h<;>(try cases h)<;>try rfl
 rename_i u eI ly ;split at h<;>try cases h
 rename_i e;subst e;rfl
theorem aeQ{lm:Mem}{t:z}{cs:List C}{d:t.den}{ns:List Nat}(aD:Inv tab O mem w S)(av:gj lm mem)(ys:Nat->Option Value)
  (cv:∀(i:Nat) c,cs[i]? = some c->∃y,ys i=some y/\y.oneCell'=true/\fx tab O mem w S c y) (h:vM lm t cs=some (d,ns)) :
  (∀r∈ns,mem r≠none)/\∀(j:Nat) c,(t.cells d)[j]? = some c->∃y,ys j=some y/\y.oneCell'=true/\dE tab w (ga O mem S ns) c y:=by
 unfold vM at h;split at h<;>try cases h
 rename_i ds ms I;split at h<;>try cases h
 rename_i ly G;obtain⟨bL,b0⟩:=aaE aD av ys cv I;rw[Ew G];exact⟨bL,b0⟩
theorem Pg{lm:Mem}{t:z}{l:List t.den}{cs:List C}{d:t.den}{ns:List Nat}{b cap:Nat}{cur:Array Value}{e:TypeId}(aD:Inv tab O mem w S)(av:gj lm mem)(k6:Ct tab O mem w S t l cs b cap cur e)(h:vM lm t cs=some (d,ns)) :
  (∀r∈ns,mem r≠none)/\∀i j c,i<(cat l [d]).length->(t.cells (nth (cat l [d]) i t.H))[j]? = some c->∃y,cur[i*t.width+j]? = some y/\y.oneCell'=true/\dE tab w (ga O mem S ns) c y:=by
 obtain⟨_,_,_,_,gg,g6⟩:=k6;obtain⟨bL,b0⟩:=aeQ aD av (fun j=>cur[l.length*t.width+j]?) (fun j c aT=>(g6 j c aT).2) h;refine⟨bL,fun i j c hi aT=>?_⟩
 by_cases bp:i<l.length
 ·have aN:nth (cat l [d]) i t.H=nth l i t.H:=by simp[nth,cat,List.getD,List.getElem?_append_left bp]
  rw[aN]at aT;obtain⟨y,cK,cN,dA⟩:=gg i j c bp aT;exact⟨y,cK,cN,sM dA⟩
 ·have dU:i=l.length:=by simp[cat]at hi;omega
  subst dU;have aN:nth (cat l [d]) l.length t.H=d:=by simp[nth,cat,List.getD]
  rw[aN]at aT;exact b0 j c aT

theorem FB{lm:Mem}{c d:C}{ns:List Nat}{x:Value}(aD:Inv tab O mem w S)(av:gj lm mem)(aG:x.oneCell'=true/\fx tab O mem w S c x)(h:ma tab lm c=some (d,ns)) :
  (∀r∈ns,mem r≠none)/\dE tab w (ga O mem S ns) d x:=by
 obtain⟨I,aG⟩:=aG;cases c with
 |E t ly =>
  simp only[ma]at h;cases h;exact⟨fun r aw=>by simp at aw,sM aG⟩
 |nil t =>
  simp only[ma]at h;cases h;subst aG;exact⟨fun r aw=>by simp at aw,.empty t none 0⟩
 |own r =>
  simp only[ma]at h;split at h<;>try cases h
  rename_i t l az;have aB:=wv av az;refine⟨fun q aH=>by simp at aH;subst aH;exact aG.1,?_⟩;have dn:=aG.2 t l aB;obtain⟨l',aN,dP⟩:=aD.rel r _ aB trivial;rw[dn]at aN;cases aN;rcases dP with⟨rfl,rfl⟩|⟨b,cap,cur,e,rfl,ay,Y,aS,bj,bK⟩
  ·exact .empty t none 0
  ·have dw:ga O mem S [r] b:=.inr ⟨r,by simp,⟨_,aB,trivial⟩,_,dn,rfl⟩;refine MP dw ay Y fun i j c hi aT=>?_
   obtain⟨y,a1,_,ck⟩:=bK i j c hi aT;exact⟨y,by simpa using a1,sM ck⟩
 |iv r =>
  simp only[ma]at h;split at h<;>try cases h
  rename_i t l cs az;split at h<;>try cases h
  rename_i ly ms bH;obtain⟨aB,b,cap,cur,e,rfl,dn,k6⟩:=zQ av aD az ⟨I,aG⟩;obtain⟨bL,b0⟩:=Pg aD av k6 bH;obtain⟨a1,bf,_⟩:=k6;refine⟨fun q aH=>?_,?_⟩
  ·rcases List.mem_cons.1 aH with rfl|aH
   ·exact aG.1
   ·exact bL q aH
  ·have dw:ga O mem S (r::ms) b:=.inr ⟨r,by simp,⟨_,aB,trivial⟩,_,dn,rfl⟩;have cS:l.length+1=(cat l [ly]).length:=by simp[cat]
   rw[cS]at bf |-;refine MP dw a1 bf fun i j c hi aT=>?_
   obtain⟨y,cK,_,dA⟩:=b0 i j c hi aT;exact⟨y,by simpa using cK,abr dA⟩
 |fn f iG =>
  obtain⟨a2,vs,rfl,G,Y⟩:=aG;rcases iG with _|⟨r,_|⟨hH,rest⟩⟩
  ·simp only[ma]at h;split at h<;>try cases h
   rename_i b6;have:=Nat.eq_of_beq_eq_true b6;subst this;have:vs=#[]:=Array.eq_empty_of_size_eq_zero (by simpa using G);subst this;exact⟨fun r aw=>by simp at aw,.DH⟩
  ·simp only[ma]at h;split at h<;>try cases h
   rename_i b6;have:=Nat.eq_of_beq_eq_true b6;subst this;split at h<;>try cases h
   rename_i n az;have aB:=Ff av az;obtain⟨mZ,cK,cN,dA⟩:=Y 0 r rfl;obtain⟨b,aN,rfl⟩:=dA _ aB;have aX:=cK;obtain⟨l',cS,dP⟩:=aD.rel r _ aB trivial;rw[aN]at cS;cases cS;obtain⟨cur,e,a1,bf,ck⟩:=dP;obtain⟨y,bL,_,b0⟩:=ck 0 _ rfl;cases b0;have aR:vs=#[.pointer (some (ca b 0))]:=by
    apply Array.ext
    ·simpa using G
    ·intro i hi _;have:i=0:=by simp at G;omega
     subst this;simpa[hi]using aX
   subst aR;exact⟨fun q aH=>by simp at aH;subst aH;rw[aB];exact(fun h=>by cases h),.DI n b cur e (0,0) (.inr ⟨r,by simp,⟨_,aB,trivial⟩,_,aN,rfl⟩) a1 bL⟩
  ·simp only[ma]at h;cases h
 |_=>simp only[ma]at h;cases h

theorem NS{lm:Mem}{c d:C}{ns:List Nat}(h:ma tab lm c=some (d,ns)):∃t e,d=.E t e:=by
 unfold ma at h;split at h<;>(try split at h)<;>(try split at h)<;>(try cases h)<;>exact⟨_,_,rfl⟩

theorem FC{lm:Mem}(aD:Inv tab O mem w S)(av:gj lm mem):∀{cs ds:List C} {ns:List Nat} (ys:Nat->Option Value),
  (∀(i:Nat) c,cs[i]? = some c->∃y,ys i=some y/\y.oneCell'=true/\fx tab O mem w S c y)->rU tab lm cs=some (ds,ns) ->
  (∀r∈ns,mem r≠none)/\ds.length=cs.length/\∀(i:Nat) d,ds[i]? = some d->∃y,ys i=some y/\y.oneCell'=true/\dE tab w (ga O mem S ns) d y:=by
 intro cs
 induction cs with
 |nil =>
  intro ds ns ys _ h;simp only[rU]at h;cases h;exact⟨fun r aw=>by simp at aw,rfl,fun i d hi=>by simp at hi⟩
 |cons c cs de =>
  intro ds ns ys cv h;simp only[rU]at h;split at h<;>try cases h
  rename_i d1 gD I;split at h<;>try cases h
  rename_i Ds ms G;obtain⟨y,aN,aX,cS⟩:=cv 0 c rfl;obtain⟨a1,bf⟩:=FB aD av ⟨aX,cS⟩ I;obtain⟨bL,b0,dm⟩:=de (fun i=>ys (i+1)) (fun i c hi=>cv (i+1) c hi) G;refine⟨fun r aw=>?_,by simp[b0],fun i d hi=>?_⟩
  ·simp only[List.mem_append]at aw;exact aw.elim (a1 r) (bL r)
  ·cases i with
   |zero=>simp at hi;subst hi;exact⟨y,aN,aX,RE bf⟩
   |succ i =>
    simp at hi;obtain⟨s5,f1,f2,f3⟩:=dm i d hi;exact⟨s5,f1,f2,Js f3⟩

theorem EK{R:C->Value->Prop}{old cs:List C}{cur ys:List Value}{o:Nat}(aY:o+cs.length<=old.length)(az:ys.length=cs.length)(aA:o+cs.length<=cur.length)
  (I:∀(i:Nat) c,old[i]? = some c->∃y,cur[i]? = some y/\R c y) (G:∀(i:Nat) c,cs[i]? = some c->∃y,ys[i]? = some y/\R c y) :
  ∀(i:Nat) c,(put old o cs)[i]? = some c->∃y,(cur.take o++ys++cur.drop (o+ys.length))[i]? = some y/\R c y:=by
 intro i c hi;unfold put at hi;rw[List.append_assoc]at hi |-;have t1:(old.take o).length=o:=by simp;omega
 have t2:(cur.take o).length=o:=by simp;omega
 by_cases h:i<o
 ·rw[List.getElem?_append_left (by omega),List.getElem?_take_of_lt h]at hi;rw[List.getElem?_append_left (by omega),List.getElem?_take_of_lt h];exact I i c hi
 ·rw[List.getElem?_append_right (by omega),t1]at hi;rw[List.getElem?_append_right (by omega),t2]
  by_cases eu:i-o<cs.length
  ·rw[List.getElem?_append_left eu]at hi;rw[List.getElem?_append_left (by omega)];exact G _ c hi
  ·rw[List.getElem?_append_right (by omega),List.getElem?_drop]at hi;rw[List.getElem?_append_right (by omega),List.getElem?_drop,az];exact I _ c hi

end
end bF
end Go.Proofs.YtlbppjmekiemiabGreatDoor

