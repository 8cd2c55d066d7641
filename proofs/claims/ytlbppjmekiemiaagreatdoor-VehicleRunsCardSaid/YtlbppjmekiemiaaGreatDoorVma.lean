/- The executor on data: part 1 of 4. No condition. -/
import Derived.Calls
import Derived.Orders
import Derived.Laws.AppendOwn
import Derived.WalkKit
import Derived.Laws.CopyOwn
/- The executor on data: its definitions. No condition. -/
namespace Go.Proofs.YtlbppjmekiemiaaGreatDoor
namespace bE

structure cm where
 words:List Int
 fuel:Int
structure Signed where
 key:Int
 name:Int
 deriving DecidableEq
structure kV where
 version:Int
 keys:List Int
 ej:Int
structure Target where
 unit:Int
 image:Int
 dp:Int
 deriving DecidableEq
structure Bx where
 version:Int
 ca:Int
 targets:List Target
structure jV where
 roots:List kV
 kM:List (List Int)
 r:Bx
 sigs:List Int
 cL:List (List Int)
structure iA where
 r:kV
 version:Int
structure Message where
 kind:Int
 unit:Int
 n:Int
 at_:Int
 image:Int
 words:List Int
 yes:Bool
structure cW where
 f:cm
 up:Bool
 n:Int
 eE:Int
structure Gate where
 f:cm
 up:Bool
 t:iA
 cF:List Bool
 did:List Bool
structure hf where
 n:Int
 r:Bx
 cL:List (List Int)
structure mQ where
 kind:Int
 unit:Int
 k:Int
 o:jV
structure Change where
 at_:Int
 word:Option Int
structure cT where
 b:List (List UInt8)
 s:List Signed
 g:Gate
 aL:List cW
 cp:List hf
 U:List Message
 now:Int

inductive z where
 |int|bool|str|kC|u64|err
 |list (t:z)
 |signed|target|root|message|aT|aU|fc|offer|change|sH
 deriving DecidableEq

abbrev z.den:z->Type
 |.int=>Int
 |.bool=>Bool
 |.str=>List UInt8
 |.kC=>Option Int
 |.u64=>Int
 |.err=>Bool
 |.list t=>List t.den
 |.signed=>Signed
 |.target=>Target
 |.root=>kV
 |.message=>Message
 |.aT=>cW
 |.aU=>hf
 |.fc=>mQ
 |.offer=>jV
 |.change=>Change
 |.sH=>cm

inductive C where
 |E (t:z) (d:t.den)
 |nil (t:z)
 |ptr (r o:Nat)
 |lS (t:z) (l:List t.den) (i k:Nat)
 |j6 (r i k:Nat)
 |own (r:Nat)
 |view (r off len:Nat)
 |fn (f:Nat) (il:List Nat)
 |mp (r:Nat)
 |ia (r:Nat)
 |kL (r k:Nat)
 |cut (r n:Nat)
 |undef
 |any

inductive V where
 |one (c:C)
 |agg (cs:List C)
 |an (vs:List V)

inductive bQ where
 |box (cs:List C)
 |arr (t:z) (l:List t.den)
 |set (aF:List Int)
 |ew (t:z) (l:List t.den) (cs:List C)
 |dead

def z.H:(t:z)->t.den
 |.int=>(0:Int)
 |.bool=>false
 |.str=>[]
 |.kC=>none
 |.u64=>(0:Int)
 |.err=>true
 |.list _=>[]
 |.signed=>⟨0,0⟩
 |.target=>⟨0,0,0⟩
 |.root=>⟨0,[],0⟩
 |.message=>⟨0,0,0,0,0,[],false⟩
 |.aT=>⟨⟨[],0⟩,false,0,0⟩
 |.aU=>⟨0,⟨0,0,[]⟩,[]⟩
 |.fc=>⟨0,0,0,⟨[],[],⟨0,0,[]⟩,[],[]⟩⟩
 |.offer=>⟨[],[],⟨0,0,[]⟩,[],[]⟩
 |.change=>⟨0,none⟩
 |.sH=>⟨[],0⟩

def z.cells:(t:z)->t.den->List C
 |.int,d=>[.E .int d]
 |.bool,d=>[.E .bool d]
 |.str,d=>[.E .str d]
 |.kC,d=>[.E .kC d]
 |.u64,d=>[.E .u64 d]
 |.err,d=>[.E .err d]
 |.list t,d=>[.E (.list t) d]
 |.signed,d=>[.E .int d.key,.E .int d.name]
 |.target,d=>[.E .int d.unit,.E .int d.image,.E .int d.dp]
 |.root,d=>[.E .int d.version,.E (.list .int) d.keys,.E .int d.ej]
 |.message,d=>[.E .int d.kind,.E .int d.unit,.E .int d.n,.E .int d.at_,.E .int d.image,.E (.list .int) d.words,.E .bool d.yes]
 |.aT,d=>[.E (.list .int) d.f.words,.E .int d.f.fuel,.E .bool d.up,.E .int d.n,.E .int d.eE]
 |.aU,d=>[.E .int d.n,.E .int d.r.version,.E .int d.r.ca,.E (.list .target) d.r.targets,.E (.list (.list .int)) d.cL]
 |.fc,d=>[.E .int d.kind,.E .int d.unit,.E .int d.k,.E (.list .root) d.o.roots,.E (.list (.list .int)) d.o.kM,
   .E .int d.o.r.version,.E .int d.o.r.ca,.E (.list .target) d.o.r.targets,.E (.list .int) d.o.sigs,.E (.list (.list .int)) d.o.cL]
 |.offer,d=>[.E (.list .root) d.roots,.E (.list (.list .int)) d.kM,
   .E .int d.r.version,.E .int d.r.ca,.E (.list .target) d.r.targets,.E (.list .int) d.sigs,.E (.list (.list .int)) d.cL]
 |.change,d=>[.E .int d.at_,.E .kC d.word]
 |.sH,d=>[.E (.list .int) d.words,.E .int d.fuel]

def z.width:z->Nat
 |.signed=>2
 |.target=>3
 |.root=>3
 |.message=>7
 |.aT=>5
 |.aU=>5
 |.fc=>10
 |.offer=>7
 |.change=>2
 |.sH=>2
 |_=>1

def z.As:(t:z)->List C->Option t.den
 |.int,[.E .int d]=>some d
 |.bool,[.E .bool d]=>some d
 |.str,[.E .str d]=>some d
 |.kC,[.E .kC d]=>some d
 |.u64,[.E .u64 d]=>some d
 |.err,[.E .err d]=>some d
 |.list t,[.E (.list u) d]=>if h:u=t then some (h▸d)else none
 |.signed,[.E .int a,.E .int b]=>some ⟨a,b⟩
 |.target,[.E .int a,.E .int b,.E .int c]=>some ⟨a,b,c⟩
 |.root,[.E .int a,.E (.list .int) b,.E .int c]=>some ⟨a,b,c⟩
 |.message,[.E .int a,.E .int b,.E .int c,.E .int d,.E .int e,.E (.list .int) f,.E .bool g]=>some ⟨a,b,c,d,e,f,g⟩
 |.aT,[.E (.list .int) a,.E .int b,.E .bool c,.E .int d,.E .int e]=>some ⟨⟨a,b⟩,c,d,e⟩
 |.aU,[.E .int a,.E .int b,.E .int c,.E (.list .target) d,.E (.list (.list .int)) e]=>some ⟨a,⟨b,c,d⟩,e⟩
 |.fc,[.E .int a,.E .int b,.E .int c,.E (.list .root) d,.E (.list (.list .int)) e,.E .int f,.E .int g,.E (.list .target) h,.E (.list .int) i,.E (.list (.list .int)) j] =>
  some ⟨a,b,c,d,e,⟨f,g,h⟩,i,j⟩
 |.offer,[.E (.list .root) d,.E (.list (.list .int)) e,.E .int f,.E .int g,.E (.list .target) h,.E (.list .int) i,.E (.list (.list .int)) j] =>
  some ⟨d,e,⟨f,g,h⟩,i,j⟩
 |.change,[.E .int a,.E .kC b]=>some ⟨a,b⟩
 |.sH,[.E (.list .int) a,.E .int b]=>some ⟨a,b⟩
 |_,_=>none

inductive XP where
 |int|bool|str|other|u64|pW|iface
 |slice (t:z) (e:Nat)
 |struct
 |array (n size:Nat)

structure c7 where
 n:Nat
 hl:XP
 zero:List C
 kq:List Nat
 jt:List Nat
 bytes:Nat

def c7.agg(aK:c7):Bool:=match aK.hl with | .struct=>true | .array _ _=>true|_=>false
def c7.elem(aK:c7):Option z:=match aK.hl with | .slice t _=>some t|_=>none
def c7.isInt(aK:c7):Bool:=match aK.hl with | .int=>true|_=>false
def c7.wV(aK:c7):Bool:=match aK.hl with | .u64=>true|_=>false
def c7.isBool(aK:c7):Bool:=match aK.hl with | .bool=>true|_=>false
def c7.isIface(aK:c7):Bool:=match aK.hl with | .iface=>true|_=>false
def c7.isStr(aK:c7):Bool:=match aK.hl with | .str=>true|_=>false
def c7.isSlice(aK:c7)(t:z):Bool:=match aK.hl with | .slice u _=>decide (u=t)|_=>false
def c7.Jk(aK:c7):Bool:=match aK.hl with | .struct=>true|_=>false

structure ci where
 types:List (Nat×c7)
 f0:Nat
 f1:Nat
 eqs:List Nat
 w:Bool
 pow:Option Nat
 acJ:Option Nat
 Zi:List Nat
 due:Option Nat

abbrev Env:=List (Nat×V)
abbrev Mem:=List (Nat×bQ)

def look{α:Type}:List (Nat×α)->Nat->Option α
 |[],_=>none
 |(k,v)::rest,n=>match Nat.beq k n with|true=>some v|false=>look rest n

def g6:List Nat->Nat->Bool
 |[],_=>false
 |k::rest,n=>match Nat.beq k n with|true=>true|false=>g6 rest n

structure bP where
 env:Env
 mem:Mem
 base:Nat

def W(n:Int):Int:=IntKind.i64.wrap n
def sg(n:Int):Int:=IntKind.u64.wrap n
def aN(a b:Int):Bool:=decide (a<b)
def dc(a b:Int):Bool:=decide (a<=b)
def au(a b:Int):Bool:=decide (a=b)
def jC(a b:Bool):Bool:=decide (a=b)
def eqs(a b:List UInt8):Bool:=decide (a=b)
def qm(a b:Int):Int:=W ((BitVec.ofInt 64 a &&& BitVec.ofInt 64 b).toNat)
def Aw(a b:Int):Int:=W ((BitVec.ofInt 64 a ||| BitVec.ofInt 64 b).toNat)
def hQ(a b:Int):Int:=W ((BitVec.ofInt 64 a ^^^ BitVec.ofInt 64 b).toNat)
def a2{α:Type}(l:List α)(lo hi:Nat):List α:=(l.take hi).drop lo
def put{α:Type}(l:List α)(at_:Nat)(m:List α):List α:=l.take at_++m++l.drop (at_+m.length)
def nth{α:Type}(l:List α)(i:Nat)(d:α):α:=l.getD i d
def setAt{α:Type}(l:List α)(i:Nat)(x:α):List α:=l.set i x
def len{α:Type}(l:List α):Nat:=l.length
def c6{α:Type}(n:Nat)(x:α):List α:=List.replicate n x
def cat{α:Type}(a b:List α):List α:=a++b

def J(b:Bool)(p q:Prop):Prop:=match b with|true=>p|false=>q

def dO(tab:ci)(t:Nat):Option c7:=look tab.types t

def Cr(tab:ci)(ty:Nat):Value->Option V
 |.int .i64 n=>some (.one (.E .int n))
 |.int .u64 n=>some (.one (.E .u64 n))
 |.bool b=>some (.one (.E .bool b))
 |.string s=>some (.one (.E .str s.data.toList))
 |.nilIface=>some (.one (.E .err true))
 |.slice none n m=>match Nat.beq n 0,Nat.beq m 0,dO tab ty with
  |true,true,some aK=>match aK.elem with
   |some t=>some (.one (.nil t))
   |none=>none
  |_,_,_=>none
 |_=>none

def wA(tab:ci)(env:Env)(ty:Nat):Operand->Option V
 |.tmp t=>look env t
 |.const v=>Cr tab ty v
 |.func f=>some (.one (.fn f []))
 |.global _=>none

def k1(tab:ci)(env:Env):List (Nat×Operand)->Option (List V)
 |[]=>some []
 |(ty,o)::rest=>match wA tab env ty o with
  |some v=>match k1 tab env rest with
   |some vs=>some (v::vs)
   |none=>none
  |none=>none

def pairUp:List Nat->List Operand->List (Nat×Operand)
 |t::ts,o::os=>(t,o)::pairUp ts os
 |[],o::os=>(0,o)::pairUp [] os
 |_,[]=>[]

def operands(o:Oper):List (Nat×Operand) :=
 match o.op with
 |.move x | .assign x=>[(o.type,x)]
 |.store t a x=>[(0,a),(t,x)]
 |.box t x=>[(t,x)]
 |.pick c a b=>[(0,c),(o.type,a),(o.type,b)]
 |.build _ ps=>ps.toList.map fun p=>(0,p.2)
 |.buildSlice _ _ ps=>ps.toList.map fun p=>(0,p.2)
 |.call c=>match c.callee with
  |.value f=>(0,f)::pairUp c.argTypes.toList c.args.toList
  |.builtin _=>pairUp c.argTypes.toList c.args.toList
  |.invoke r _=>(0,r)::pairUp c.argTypes.toList c.args.toList
 |op=>op.operands.toList.map fun x=>(0,x)

def C.names:C->List Nat
 |.ptr r _ | .j6 r _ _ | .own r | .view r _ _ | .mp r | .ia r | .kL r _ | .cut r _=>[r]
 |.fn _ il=>il
 |_=>[]

def V.names:V->List Nat
 |.one c=>c.names
 |.agg cs=>cs.flatMap C.names
 |.an _=>[]

def bQ.names:bQ->List Nat
 |.box cs=>cs.flatMap C.names
 |.ew _ _ cs=>cs.flatMap C.names
 |_=>[]

def qj(seen:List Nat):List Nat->List Nat
 |[]=>seen
 |r::rest=>match g6 seen r with|true=>qj seen rest|false=>qj (seen++[r]) rest

def closure(mem:Mem):Nat->Nat->List Nat->List Nat
 |0,_,seen=>seen
 |fuel+1,i,seen =>
  match seen[i]? with
  |none=>seen
  |some r=>match look mem r with
   |some b=>closure mem fuel (i+1) (qj seen b.names)
   |none=>closure mem fuel (i+1) seen

def reach(mem:Mem)(vs:List V):List Nat:=closure mem 200 0 (qj [] (vs.flatMap V.names))

def Xf(o:Oper)(vs:List V)(mem:Mem):List Nat :=
 match o.op with
 |.load _ _ | .store _ _ _ | .indexAddr _ _ _ | .slice _ _ _ _ _ | .buildSlice _ _ _ | .nilCheck _ | .fieldAddr _ _ _ | .lookup _ _ _ _ | .mapUpdate _ _ _ _=>qj [] (vs.flatMap V.names)
 |.call c=>match c.callee with
  |.builtin .append=>reach mem vs
  |.builtin _=>qj [] (vs.flatMap V.names)
  |_=>reach mem vs
 |_=>[]

def ff(mem:Mem)(names:List Nat):Mem:=names.map fun r=>(r,(look mem r).getD .dead)

def px(mem:Mem):C->Option (C×List Nat)
 |.E t d=>some (.E t d,[])
 |.nil t=>some (.E (.list t) [],[])
 |.own r=>match look mem r with
  |some (.arr t l)=>some (.E (.list t) l,[r])
  |_=>none
 |_=>none
def sx(mem:Mem):List C->Option (List C×List Nat)
 |[]=>some ([],[])
 |c::rest=>match px mem c with
  |some (fK,ns)=>match sx mem rest with
   |some (cs,ms)=>some (fK::cs,ns++ms)
   |none=>none
  |none=>none
def uY(mem:Mem)(t:z)(cs:List C):Option (t.den×List Nat) :=
 match sx mem cs with
 |some (ds,ns)=>match t.As ds with
  |some d=>some (d,ns)
  |none=>none
 |none=>none

def lE(tab:ci)(mem:Mem):C->Option (C×List Nat)
 |.E t d=>some (.E t d,[])
 |.nil t=>some (.E (.list t) [],[])
 |.own r=>match look mem r with
  |some (.arr t l)=>some (.E (.list t) l,[r])
  |_=>none
 |.ia r=>match look mem r with
  |some (.ew t l cs)=>match uY mem t cs with
   |some (d,ns)=>some (.E (.list t) (cat l [d]),r::ns)
   |none=>none
  |_=>none
 |.fn f []=>match Nat.beq f tab.f0 with
  |true=>some (.E .kC none,[])
  |false=>none
 |.fn f [r]=>match Nat.beq f tab.f1 with
  |true=>match look mem r with
   |some (.box [.E .int n])=>some (.E .kC (some n),[r])
   |_=>none
  |false=>none
 |_=>none

def q5(tab:ci)(mem:Mem):List C->Option (List C×List Nat)
 |[]=>some ([],[])
 |c::rest=>match lE tab mem c with
  |some (fK,ns)=>match q5 tab mem rest with
   |some (cs,ms)=>some (fK::cs,ns++ms)
   |none=>none
  |none=>none

def V.cells:V->Option (List C)
 |.one .undef=>none
 |.one c=>some [c]
 |.agg cs=>some cs
 |.an _=>none

def w2(agg:Bool)(cs:List C):Option V :=
 match agg with
 |true=>some (.agg cs)
 |false=>match cs with
  |[c]=>some (.one c)
  |_=>none

def gP(ns:List Nat):Mem:=ns.map fun r=>(r,.dead)

abbrev Out:=Option (Option Prop×V×Mem)

def te(aK:c7)(a:C)(mem:Mem):Out :=
 match a with
 |.ptr r o=>match look mem r with
  |some (.box cs) =>
   match w2 aK.agg (a2 cs o (o+aK.n))with
   |some v=>match Nat.ble (o+aK.n) cs.length with
    |true=>some (none,v,[])
    |false=>none
   |none=>none
  |_=>none
 |.lS t l i k =>
  match Nat.ble (k+aK.n) t.width with
  |true=>match w2 aK.agg (a2 (t.cells (nth l i t.H)) k (k+aK.n))with
   |some v=>some (none,v,[])
   |none=>none
  |false=>none
 |.j6 r i k=>match look mem r with
  |some (.arr t l) =>
   match Nat.ble (k+aK.n) t.width with
   |true=>match w2 aK.agg (a2 (t.cells (nth l i t.H)) k (k+aK.n))with
    |some v=>some (some (i<len l),v,[])
    |none=>none
   |false=>none
  |_=>none
 |.kL r k=>match look mem r with
  |some (.ew _ _ cs) =>
   match w2 aK.agg (a2 cs k (k+aK.n))with
   |some v=>match Nat.ble (k+aK.n) cs.length with
    |true=>some (none,v,[])
    |false=>none
   |none=>none
  |_=>none
 |_=>none

def MA(tab:ci)(aK:c7)(a:C)(v:V)(mem:Mem):Out :=
 match v.cells with
 |none=>none
 |some cs =>
  match Nat.beq cs.length aK.n with
  |false=>none
  |true =>
   match a with
   |.ptr r o=>match look mem r with
    |some (.box old)=>match Nat.ble (o+aK.n) old.length with
     |true=>some (none,.one .undef,[(r,.box (put old o cs))])
     |false=>none
    |_=>none
   |.j6 r i k=>match q5 tab mem cs with
    |some (ds,ns)=>match g6 ns r with
     |true=>none
     |false=>match look mem r with
      |some (.arr t l)=>match Nat.ble (k+aK.n) t.width with
       |true=>match t.As (put (t.cells (nth l i t.H)) k ds)with
        |some d=>some (some (i<len l),.one .undef,(r,.arr t (setAt l i d))::gP ns)
        |none=>none
       |false=>none
      |_=>none
    |none=>none
   |.kL r k=>match look mem r with
    |some (.ew t l old)=>match Nat.ble (k+aK.n) old.length with
     |true=>some (none,.one .undef,[(r,.ew t l (put old k cs))])
     |false=>none
    |_=>none
   |_=>none

structure Fa where
 pre:Option Prop
 t:z
 l:List t.den

def mb(mem:Mem):C->Option Fa
 |.E (.list t) l=>some ⟨none,t,l⟩
 |.nil t=>some ⟨none,t,[]⟩
 |.own r=>match look mem r with
  |some (.arr t l)=>some ⟨none,t,l⟩
  |_=>none
 |.view r off n=>match look mem r with
  |some (.arr t l)=>some ⟨some (off+n<=len l),t,a2 l off (off+n)⟩
  |_=>none
 |_=>none

def both:Option Prop->Prop->Prop
 |none,q=>q
 |some p,q=>p/\q

def qU(aK:c7)(mem:Mem):C->Out
 |.E .str l=>match aK.isStr with
  |true=>some (none,.one (.E .int (len l:Nat)),[])
  |false=>none
 |.view r _ n=>match look mem r with
  |some (.arr t _)=>match aK.isSlice t with
   |true=>some (none,.one (.E .int (n:Nat)),[])
   |false=>none
  |_=>none
 |.ia r=>match look mem r with
  |some (.ew t l _)=>match aK.isSlice t with
   |true=>some (none,.one (.E .int ((len l+1:Nat):Int)),[])
   |false=>none
  |_=>none
 |c=>match mb mem c with
  |some ⟨_,t,l⟩=>match aK.isSlice t with
   |true=>some (none,.one (.E .int (len l:Nat)),[])
   |false=>none
  |none=>none

def qP(aK:c7)(mem:Mem)(x:C)(i:Int):Out :=
 match x with
 |.E (.list t) l=>match aK.isSlice t with
  |true=>some (some (0<=i/\i<(len l:Nat)),.one (.lS t l i.toNat 0),[])
  |false=>none
 |.own r=>match look mem r with
  |some (.arr t l)=>match aK.isSlice t with
   |true=>some (some (0<=i/\i<(len l:Nat)),.one (.j6 r i.toNat 0),[])
   |false=>none
  |_=>none
 |.view r off n=>match look mem r with
  |some (.arr t l)=>match aK.isSlice t with
   |true=>some (some (0<=i/\i<(n:Nat)/\off+n<=len l),.one (.j6 r (off+i.toNat) 0),[])
   |false=>none
  |_=>none
 |.nil _=>some (some False,.one .undef,[])
 |.ia r=>match look mem r with
  |some (.ew t l _)=>match aK.isSlice t with
   |true=>some (some (i=(len l:Nat)),.one (.kL r 0),[])
   |false=>none
  |_=>none
 |.ptr r o=>match aK.hl,look mem r with
  |.array n size,some (.box _)=>some (some (0<=i/\i<(n:Nat)),.one (.ptr r (o+i.toNat*size)),[])
  |_,_=>none
 |_=>none

def sf(aK:c7)(mem:Mem)(x:C)(lo hi qX:Option Int):Out :=
 match x with
 |.E (.list t) l=>match qX,aK.isSlice t with
  |none,true=>some (some (0<=lo.getD 0/\lo.getD 0<=hi.getD (len l:Nat)/\hi.getD (len l:Nat)<=(len l:Nat)),
    .one (.E (.list t) (a2 l (lo.getD 0).toNat (hi.getD (len l:Nat)).toNat)),[])
  |_,_=>none
 |.nil t=>match qX,aK.isSlice t with
  |none,true=>some (some (lo.getD 0=0/\hi.getD 0=0),.one (.nil t),[])
  |_,_=>none
 |.own r=>match look mem r with
  |some (.arr t l)=>match aK.isSlice t with
   |true=>match qX with
    |none=>some (some (0<=lo.getD 0/\lo.getD 0<=hi.getD (len l:Nat)/\hi.getD (len l:Nat)<=(len l:Nat)),
      .one (.view r (lo.getD 0).toNat (hi.getD (len l:Nat)-lo.getD 0).toNat),[])
    |some m=>match lo,hi with
     |none,some h=>some (some (0<=h/\h=m/\m<=(len l:Nat)),.one (.cut r h.toNat),[])
     |some _,some h=>some (some (0<=lo.getD 0/\lo.getD 0<=h/\h<=m/\m=(len l:Nat)),.one (.view r (lo.getD 0).toNat (h-lo.getD 0).toNat),[])
     |_,none=>none
   |false=>none
  |_=>none
 |.view r 0 n=>match look mem r with
  |some (.arr t l)=>match qX,aK.isSlice t with
   |none,true=>some (some (0<=lo.getD 0/\lo.getD 0<=hi.getD (n:Nat)/\hi.getD (n:Nat)<=(len l:Nat)),
     .one (.view r (lo.getD 0).toNat (hi.getD (n:Nat)-lo.getD 0).toNat),[])
   |_,_=>none
  |_=>none
 |_=>none

def agC(r:Nat):C->Bool
 |.view q _ _=>Nat.beq q r
 |_=>false

def yS(aK:c7)(base bytes:Nat)(mem:Mem)(s x:C):Out :=
 match mb mem x with
 |none=>none
 |some ⟨p,u,m⟩ =>
  match aK.isSlice u with
  |false=>none
  |true =>
  match s with
  |.nil t=>if h:u=t then some (some (both p ((len m)*bytes<=140737488355328)),.one (.own base),[(base,.arr t (h▸m))])else none
  |.own r=>match look mem r with
   |some (.arr t l)=>if h:u=t then some (some (both p ((len l+len m)*bytes<=140737488355328)),.one (.own base),[(r,.dead),(base,.arr t (cat l (h▸m)))])else none
   |_=>none
  |.cut r n=>match look mem r with
   |some (.arr t l)=>if h:u=t then some (some (both p (n<=len l/\(n+len m)*bytes<=140737488355328)),.one (.own base),[(r,.dead),(base,.arr t (cat (a2 l 0 n) (h▸m)))])else none
   |_=>none
  |.view r 0 n=>match look mem r with
   |some (.arr t l)=>if h:u=t then(match agC r x with
     |true=>some (some (both p (n+len m<=len l)),.one (.view r 0 (n+len m)),[(r,.arr t (put l n (h▸m))),(base,.arr t [])])
     |false=>some (some (both p (n<=len l/\(n+len m)*bytes<=140737488355328)),.one (.own base),[(r,.dead),(base,.arr t (cat (a2 l 0 n) (h▸m)))]))else none
   |_=>none
  |_=>none

def yT(aK:c7)(base bytes:Nat)(mem:Mem)(s:C)(a:Nat):Out :=
 match look mem a with
 |some (.ew u [] cs) =>
  match aK.isSlice u with
  |false=>none
  |true=>match Nat.beq cs.length u.width with
  |false=>none
  |true =>
  match s with
  |.own r=>match look mem r with
   |some (.arr t l)=>if u=t then some (some ((len l+1)*bytes<=140737488355328),.one (.ia base),[(r,.dead),(a,.dead),(base,.ew t l cs)])else none
   |_=>none
  |.ia r=>match Nat.beq r a with
   |true=>none
   |false=>match look mem r with
    |some (.ew t l ke)=>if u=t then(match uY mem t ke with
     |some (d,ns)=>some (some ((len l+2)*bytes<=140737488355328),.one (.ia base),(r,.dead)::(a,.dead)::(base,.ew t (cat l [d]) cs)::gP ns)
     |none=>none)else none
    |_=>none
  |_=>none
 |_=>none

def Hx(aK:c7)(mem:Mem)(s x:C):Out :=
 match mb mem x with
 |none=>none
 |some ⟨p,u,m⟩ =>
  match aK.isSlice u with
  |false=>none
  |true =>
  match s with
  |.own r=>match look mem r with
   |some (.arr t l)=>if h:u=t then some (p,.one (.E .int (min (len l) (len m):Nat)),[(r,.arr t (put l 0 (a2 (h▸m:List t.den) 0 (min (len l) (len m)))))])else none
   |_=>none
  |.view r off n=>match look mem r with
   |some (.arr t l)=>if h:u=t then some (some (both p (off+n<=len l)),.one (.E .int (min n (len m):Nat)),[(r,.arr t (put l off (a2 (h▸m:List t.den) 0 (min n (len m)))))])else none
   |_=>none
  |_=>none

def z.pY:z->Bool
 |.kC=>false
 |.err=>false
 |.change=>false
 |_=>true

def wk(aK:c7)(mem:Mem):C->Out
 |.own r=>match look mem r with
  |some (.arr t l)=>match aK.isSlice t,t.pY with
   |true,true=>some (none,.an [],[(r,.arr t (c6 (len l) t.H))])
   |_,_=>none
  |_=>none
 |.nil t=>match aK.isSlice t with
  |true=>some (none,.an [],[])
  |false=>none
 |.view r off n=>match look mem r with
  |some (.arr t l)=>match aK.isSlice t,t.pY with
   |true,true=>some (some (off+n<=len l),.an [],[(r,.arr t (put l off (c6 n t.H)))])
   |_,_=>none
  |_=>none
 |_=>none

def ln(k:Int)(aF:List Int):Bool:=decide (k∈aF)
def nc(k:Int)(aF:List Int):List Int:=match ln k aF with|true=>aF|false=>aF++[k]

def w1(mem:Mem)(r:Nat):Option (List Int):=match look mem r with
 |some (.set aF)=>some aF
 |_=>none

def Jj(op:BinOp)(a b:Int):Option (Option Prop×C) :=
 match op with
 |.add=>some (none,.E .int (W (a+b)))
 |.sub=>some (none,.E .int (W (a-b)))
 |.mul=>some (none,.E .int (W (a*b)))
 |.quo=>some (some (b≠0),.E .int (W (a.tdiv b)))
 |.rem=>some (some (b≠0),.E .int (a.tmod b))
 |.and=>some (none,.E .int (qm a b))
 |.or=>some (none,.E .int (Aw a b))
 |.xor=>some (none,.E .int (hQ a b))
 |.lss=>some (none,.E .bool (aN a b))
 |.leq=>some (none,.E .bool (dc a b))
 |.gtr=>some (none,.E .bool (aN b a))
 |.geq=>some (none,.E .bool (dc b a))
 |.eql=>some (none,.E .bool (au a b))
 |.neq=>some (none,.E .bool (!au a b))
 |_=>none

def sE:C->C->Option Bool
 |.E .int a,.E .int b=>some (au a b)
 |.E .bool a,.E .bool b=>some (jC a b)
 |.E .str a,.E .str b=>some (eqs a b)
 |_,_=>none

def hJ:List C->List C->Option Bool
 |[],[]=>some true
 |a::as,b::ar=>match sE a b with
  |some x=>match hJ as ar with
   |some y=>some (x&&y)
   |none=>none
  |none=>none
 |_,_=>none

def y0(tab:ci)(op:BinOp)(ty:Nat)(x y:V):Out :=
 match x,y with
 |.one (.E .int a),.one (.E .int b)=>match Jj op a b with
  |some (p,c)=>some (p,.one c,[])
  |none=>none
 |.one (.E .bool a),.one (.E .bool b)=>match (dO tab ty).map c7.isBool with
  |some true=>match op with
   |.eql=>some (none,.one (.E .bool (jC a b)),[])
   |.neq=>some (none,.one (.E .bool (!jC a b)),[])
   |_=>none
  |_=>none
 |.one (.E .u64 a),.one (.E .u64 b)=>match op with
  |.gtr=>some (none,.one (.E .bool (aN b a)),[])
  |_=>none
 |.one (.E .str a),.one (.E .str b)=>match op with
  |.add=>some (some (len a+len b<=140737488355328),.one (.E .str (cat a b)),[])
  |.eql=>some (none,.one (.E .bool (eqs a b)),[])
  |.neq=>some (none,.one (.E .bool (!eqs a b)),[])
  |_=>none
 |.agg as,.agg ar=>match g6 tab.eqs ty,hJ as ar,dO tab ty with
  |true,some r,some aK=>match hJ aK.zero as with
   |some _=>match op with
    |.eql=>some (none,.one (.E .bool r),[])
    |.neq=>some (none,.one (.E .bool (!r)),[])
    |_=>none
   |none=>none
  |_,_,_=>none
 |_,_=>none

def mG:List C->List (Nat×List C)->Option (List C)
 |bg,[]=>some bg
 |bg,(off,cs)::rest=>match Nat.ble (off+cs.length) bg.length with
  |true=>mG (put bg off cs) rest
  |false=>none

def sG(kq jt:List Nat):List Nat->List V->Option (List (Nat×List C))
 |[],[]=>some []
 |f::c4,v::vs=>match kq[f]?,jt[f]?,v.cells,sG kq jt c4 vs with
  |some o,some n,some cs,some r=>match Nat.beq cs.length n with
   |true=>some ((o,cs)::r)
   |false=>none
  |_,_,_,_=>none
 |_,_=>none

def lR(tab:ci)(mem:Mem)(t:z):Nat->Nat->List Nat->List V->Option (List t.den×List Nat)
 |0,_,[],[]=>some ([],[])
 |0,_,_,_=>none
 |n+1,i,[],[]=>match lR tab mem t n (i+1) [] []with
  |some (l,ms)=>some (t.H::l,ms)
  |none=>none
 |n+1,i,j::z7,v::us=>match Nat.beq i j with
  |true=>match v.cells with
   |some cs=>match q5 tab mem cs with
    |some (ds,ns)=>match t.As ds with
     |some d=>match lR tab mem t n (i+1) z7 us with
      |some (l,ms)=>some (d::l,ns++ms)
      |none=>none
     |none=>none
    |none=>none
   |none=>none
  |false=>match lR tab mem t n (i+1) (j::z7) (v::us)with
   |some (l,ms)=>some (t.H::l,ms)
   |none=>none
 |_+1,_,_,_=>none

abbrev bd:=List V->List bQ->Option (Option Prop×V×List bQ)
abbrev Ctx:=List (Nat×bd)

def idx(seen:List Nat)(r:Nat):Nat:=seen.idxOf r

def C.cx(f:Nat->Nat):C->C
 |.ptr r o=>.ptr (f r) o
 |.j6 r i k=>.j6 (f r) i k
 |.own r=>.own (f r)
 |.view r a b=>.view (f r) a b
 |.fn g il=>.fn g (il.map f)
 |.mp r=>.mp (f r)
 |.ia r=>.ia (f r)
 |.kL r k=>.kL (f r) k
 |.cut r n=>.cut (f r) n
 |c=>c

def V.cx(f:Nat->Nat):V->V
 |.one c=>.one (c.cx f)
 |.agg cs=>.agg (cs.map (C.cx f))
 |.an vs=>.an (vs.map fun v=>match v with
  |.one c=>.one (c.cx f)
  |.agg cs=>.agg (cs.map (C.cx f))
  |.an us=>.an us)

def bQ.cx(f:Nat->Nat):bQ->bQ
 |.box cs=>.box (cs.map (C.cx f))
 |.ew t l cs=>.ew t l (cs.map (C.cx f))
 |b=>b

def o6:V->V
 |.one (.nil t)=>.one (.E (.list t) [])
 |.agg cs=>.agg (cs.map fun c=>match c with | .nil t=>.E (.list t) [] | c=>c)
 |v=>v

def gC(seen:List Nat)(base:Nat)(j:Nat):Nat :=
 match seen[j]? with
 |some r=>r
 |none=>base+(j-seen.length)

def jU{α:Type}(i:Nat):List α->List (Nat×α)
 |[]=>[]
 |a::as=>(i,a)::jU (i+1) as

def qu(tab:ci)(mem:Mem):List V->Option (List V×List Nat)
 |[]=>some ([],[])
 |v::rest =>
  match (match v with
   |.one c=>(lE tab mem c).map fun p=>(V.one p.1,p.2)
   |.agg cs=>(q5 tab mem cs).map fun p=>(V.agg p.1,p.2)
   |.an _=>none),qu tab mem rest with
  |some (eT,ns),some (vs,ms)=>some (eT::vs,ns++ms)
  |_,_=>none

def C.plain:C->Bool
 |.E .int _ | .E .bool _ | .E .str _ | .any=>true
 |_=>false

def V.J7:V->Bool
 |.one c=>c.plain
 |.agg cs=>cs.all C.plain
 |.an _=>false

def V.plain:V->Bool
 |.an vs=>vs.all V.J7
 |v=>v.J7

def agA:bQ->bQ->Bool
 |_,.dead=>true
 |.box cs,.box ds=>Nat.beq cs.length ds.length
 |.arr t _,.arr u _=>decide (t=u)
 |.set _,.set _=>true
 |_,_=>false

def tc:List bQ->List bQ->Bool
 |[],more=>Nat.ble more.length 7
 |a::as,b::ar=>match agA a b with|true=>tc as ar|false=>false
 |_::_,[]=>false

def qk(seen:List Nat):List Nat->Bool
 |[]=>true
 |r::rest=>match g6 seen r with|true=>qk seen rest|false=>false

def distinct:List Nat->Bool
 |[]=>true
 |r::rest=>match g6 rest r with|true=>false|false=>distinct rest

def ub(base:Nat):List Nat->Bool
 |[]=>true
 |r::rest=>match Nat.ble base r with|true=>false|false=>ub base rest

def V.Dv:V->Bool
 |.an _=>false
 |_=>true

def At(base:Nat)(seen:List Nat)(args:List V)(ar:List bQ):Bool :=
 match distinct seen with
 |true=>match ub base seen with
  |true=>match qk seen (args.flatMap V.names)with
   |true=>match args.all V.Dv with
    |true=>qk seen (ar.flatMap bQ.names)
    |false=>false
   |false=>false
  |false=>false
 |false=>false

def kd(seen:List Nat)(base:Nat)(ar:List bQ):Mem :=
 (jU 0 ar).map fun q=>(gC seen base q.1,q.2.cx (gC seen base))

def J6(c:bd)(g:Nat->Nat)(ins:List bQ)(args:List V):List V :=
 match c (args.map (V.cx g)) ins with
 |some _=>args
 |none=>args.map o6

def n1(tab:ci)(mem:Mem):List V->List V×List Nat
 |[]=>([],[])
 |v::rest =>
  match (match v with
   |.one c=>(lE tab mem c).map fun p=>(V.one p.1,p.2)
   |.agg cs=>(q5 tab mem cs).map fun p=>(V.agg p.1,p.2)
   |.an _=>none)with
  |some (eT,ns)=>(eT::(n1 tab mem rest).1,ns++(n1 tab mem rest).2)
  |none=>(v::(n1 tab mem rest).1,(n1 tab mem rest).2)

def un(ns:List Nat):List Nat->List Nat
 |[]=>[]
 |r::rest=>match g6 ns r with|true=>un ns rest|false=>r::un ns rest

def Hk(tab:ci)(base:Nat)(mem:Mem)(c:bd)(as:List V)(ns:List Nat):Out :=
 let seen:=un ns (mem.map (·.1))
 let mm:=ff mem seen
 let ins:=mm.map fun p=>p.2.cx (idx seen)
 match c (as.map (V.cx (idx seen))) ins with
 |some (p,v,ar)=>match tc ins ar,At base seen as (mm.map (·.2)),ub base ns with
  |true,true,true=>some (p,v.cx (gC seen base),kd seen base ar++gP ns)
  |_,_,_=>none
 |none=>none

def Cj(Γ:Ctx)(tab:ci)(base:Nat)(mem:Mem)(f:Nat)(args:List V):Out :=
 match look Γ f with
 |none=>none
 |some c =>
  let seen:=mem.map (·.1)
  let ins:=mem.map fun p=>p.2.cx (idx seen)
  match c ((J6 c (idx seen) ins args).map (V.cx (idx seen))) ins with
  |some (p,v,ar)=>match tc ins ar,At base seen args (mem.map (·.2))with
   |true,true=>some (p,v.cx (gC seen base),kd seen base ar)
   |_,_=>none
  |none=>match qu tab mem (args.map o6)with
   |none=>Hk tab base mem c (n1 tab mem (args.map o6)).1 (n1 tab mem (args.map o6)).2
   |some (ds,ns)=>match c ds []with
    |some (p,v,ar)=>match v.plain,ar with
     |true,[]=>some (p,v,[])
     |_,_=>match tc [] ar,ub base ns with
      |true,true=>some (p,v.cx (gC [] base),kd [] base ar++gP ns)
      |_,_=>none
    |none=>none

def oI(d:Option Int)(n:Int):Int:=match d with|none=>65535|some w=>qm n w

def w7(x:Option Operand)(vs:List V):Option (Option Int×List V) :=
 match x with
 |none=>some (none,vs)
 |some _=>match vs with
  |.one (.E .int n)::rest=>some (some n,rest)
  |_=>none

def LO:Operand->Operand->Bool
 |.tmp a,.tmp b=>Nat.beq a b
 |_,_=>false

def Az:List V->Option (List Nat)
 |[]=>some []
 |.one (.ptr r 0)::rest=>match Az rest with
  |some rs=>some (r::rs)
  |none=>none
 |_=>none

def Td:bd:=fun vs _=>match vs with
 |[]=>some (some False,.an [],[])
 |_=>none
def acp(Γ:Ctx)(tab:ci):Bool:=match tab.due with
 |some f=>match look Γ f with
  |some c=>(c [] []).isSome
  |none=>false
 |none=>false

def Av(Γ:Ctx)(tab:ci)(base:Nat)(o:Oper)(vs:List V)(mem:Mem):Out :=
 match o.op,vs with
 |.move _,[v]=>some (none,v,[])
 |.assign _,[v]=>some (none,v,[])
 |.pick _ _ _,[.one (.E .bool c),a,b]=>some (none,(match c with|true=>a|false=>b),[])
 |.alloc t,[]=>match dO tab t with
  |some aK=>some (none,.one (.ptr base 0),[(base,.box aK.zero)])
  |none=>none
 |.box t _,[v]=>match dO tab t,v.cells with
  |some aK,some cs=>match Nat.beq cs.length aK.n with
   |true=>some (none,.one (.ptr base 0),[(base,.box cs)])
   |false=>none
  |_,_=>none
 |.build t ps,vs=>match dO tab t with
  |some aK=>match aK.agg with
   |false=>none
   |true=>match sG aK.kq aK.jt (ps.toList.map (·.1)) vs with
   |some c4=>match mG aK.zero c4 with
    |some cs=>some (none,.agg cs,[])
    |none=>none
   |none=>none
  |none=>none
 |.buildSlice t n ps,vs=>match dO tab t with
  |some aK=>match aK.elem with
   |some e=>match (match acp Γ tab with|true=>Nat.ble 2 e.width|false=>false),n,ps.toList.map (·.1),vs with
    |true,1,[0],[v]=>match v.cells with
     |some cs=>match Nat.beq cs.length e.width,Nat.ble e.width 16777216 with
      |true,true=>some (none,.one (.ia base),[(base,.ew e [] cs)])
      |_,_=>none
     |none=>none
    |_,_,_,_=>match (match Nat.ble (n*e.width) 16777216 with|true=>(match Nat.beq n vs.length with|true=>true|false=>e.pY)|false=>false),lR tab mem e n 0 (ps.toList.map (·.1)) vs with
    |true,some (l,ns)=>match g6 ns base with
     |true=>none
     |false=>some (none,.one (.own base),(base,.arr e l)::gP ns)
    |_,_=>none
   |none=>none
  |none=>none
 |.load t _,[.one a]=>match dO tab t with
  |some aK=>te aK a mem
  |none=>none
 |.store t _ _,[.one a,v]=>match dO tab t with
  |some aK=>MA tab aK a v mem
  |none=>none
 |.nilCheck _,[.one (.ptr r o)]=>match look mem r with
  |some (.box _)=>some (none,.one (.ptr r o),[])
  |_=>none
 |.nilCheck _,[.one (.j6 r i k)]=>match look mem r with
  |some (.arr _ _)=>some (none,.one (.j6 r i k),[])
  |_=>none
 |.nilCheck _,[.one (.kL r k)]=>match look mem r with
  |some (.ew _ _ _)=>some (none,.one (.kL r k),[])
  |_=>none
 |.nilCheck _,[.one (.lS t l i k)]=>some (none,.one (.lS t l i k),[])
 |.nilCheck _,[.one (.fn f cs)]=>some (none,.one (.fn f cs),[])
 |.binOp op ty _ (.const _) _,[.one (.E .err a),.one (.E .err true)]=>match (dO tab ty).map c7.isIface,op with
  |some true,.eql=>some (none,.one (.E .bool a),[])
  |some true,.neq=>some (none,.one (.E .bool (!a)),[])
  |_,_=>none
 |.binOp op ty _ _ _,[x,y]=>y0 tab op ty x y
 |.unOp .not _ _,[.one (.E .bool b)]=>some (none,.one (.E .bool (!b)),[])
 |.unOp .neg _ _,[.one (.E .int n)]=>some (none,.one (.E .int (W (-n))),[])
 |.convert s d _,[.one (.E .int n)]=>match (dO tab s).map c7.isInt,(dO tab d).map c7.isInt with
  |some true,some true=>some (none,.one (.E .int (W n)),[])
  |some true,some false=>match (dO tab d).map c7.wV with
   |some true=>some (none,.one (.E .u64 (sg n)),[])
   |_=>none
  |_,_=>none
 |.convert s d _,[.one (.E .u64 n)]=>match (dO tab s).map c7.wV,(dO tab d).map c7.isInt with
  |some true,some true=>some (none,.one (.E .int (W n)),[])
  |_,_=>none
 |.makeFunc (.func f) c4 _,vs=>match c4.toList,Az vs with
  |[],some rs=>some (none,.one (.fn f rs),[])
  |_,_=>none
 |.makeSlice t l c,[.one (.E .int n),.one (.E .int _)]=>match LO l c with
  |false=>none
  |true=>match dO tab t with
  |some aK=>match aK.elem with
   |some e=>match e.pY with
    |true=>some (some (0<=n/\n*aK.bytes<=140737488355328/\n<=140737488355328),.one (.own base),[(base,.arr e (c6 n.toNat e.H))])
    |false=>none
   |none=>none
  |none=>none
 |.slice t _ lo hi qX,.one x::rest=>match dO tab t,w7 lo rest with
  |some aK,some (l,gm)=>match w7 hi gm with
   |some (h,hy)=>match w7 qX hy with
    |some (m,[])=>sf aK mem x l h m
    |_=>none
   |none=>none
  |_,_=>none
 |.fieldAddr t _ f,[.one a]=>match dO tab t with
  |some aK=>match (match aK.Jk with|true=>aK.kq[f]? | false=>none)with
   |some off=>match a with
    |.ptr r o=>match look mem r with
     |some (.box _)=>some (none,.one (.ptr r (o+off)),[])
     |_=>none
    |.j6 r i k=>match look mem r with
     |some (.arr _ _)=>some (none,.one (.j6 r i (k+off)),[])
     |_=>none
    |.kL r k=>match look mem r with
     |some (.ew _ _ _)=>some (none,.one (.kL r (k+off)),[])
     |_=>none
    |.lS e l i k=>some (none,.one (.lS e l i (k+off)),[])
    |_=>none
   |none=>none
  |none=>none
 |.indexAddr t _ _,[.one x,.one (.E .int i)]=>match dO tab t with
  |some aK=>qP aK mem x i
  |none=>none
 |.index t _ _,[.agg cs,.one (.E .int i)]=>match dO tab t with
  |some aK=>match aK.hl with
   |.array n size=>match Nat.ble 2 size,Nat.ble (i.toNat*size+size) cs.length with
    |true,true=>some (some (0<=i/\i<(n:Nat)),.agg (a2 cs (i.toNat*size) (i.toNat*size+size)),[])
    |_,_=>none
   |_=>none
  |none=>none
 |.field t _ f,[.agg cs]=>match g6 tab.eqs t,dO tab t,cs[f]? with
  |true,some aK,some c=>match hJ aK.zero cs with
   |some _=>some (none,.one c,[])
   |none=>none
  |_,_,_=>none
 |.makeMap t none,[]=>match (dO tab t).map c7.hl with
  |some .pW=>some (none,.one (.mp base),[(base,.set [])])
  |_=>none
 |.mapUpdate t _ _ _,[.one (.mp r),.one (.E .int k),.one (.E .bool true)]=>match (dO tab t).map c7.hl,w1 mem r with
  |some .pW,some aF=>some (none,.one .undef,[(r,.set (nc k aF))])
  |_,_=>none
 |.lookup t _ _ false,[.one (.mp r),.one (.E .int k)]=>match (dO tab t).map c7.hl,w1 mem r with
  |some .pW,some aF=>some (none,.one (.E .bool (ln k aF)),[])
  |_,_=>none
 |.extract _ i,[.an us]=>match us[i]? with
  |some v=>some (none,v,[])
  |none=>none
 |.call { callee:=.builtin .len,argTypes,.. },[.one x]=>match (argTypes.toList.head?).bind (dO tab)with
  |some aK=>qU aK mem x
  |none=>none
 |.call { callee:=.builtin .append,argTypes,.. },[.one s,.one x]=>match argTypes.toList with
  |[t,u]=>match dO tab t,dO tab u with
   |some aK,some ju=>match ju.elem with
    |some _=>match x with
     |.ia a=>yT aK base aK.bytes mem s a
     |_=>yS aK base aK.bytes mem s x
    |none=>none
   |_,_=>none
  |_=>none
 |.call { callee:=.builtin .copy,argTypes,.. },[.one s,.one x]=>match argTypes.toList with
  |[t,_]=>match dO tab t with
   |some aK=>Hx aK mem s x
   |none=>none
  |_=>none
 |.call { callee:=.builtin .clear,argTypes,.. },[.one s]=>match argTypes.toList with
  |[t]=>match dO tab t with
   |some aK=>wk aK mem s
   |none=>none
  |_=>none
 |.call { callee:=.builtin .min,.. },[.one (.E .int a),.one (.E .int b)]=>some (none,.one (.E .int (min a b)),[])
 |.call { callee:=.builtin .max,.. },[.one (.E .int a),.one (.E .int b)]=>some (none,.one (.E .int (max a b)),[])
 |.call { callee:=.value _,.. },.one (.fn f il)::args=>Cj Γ tab base mem f (args++il.map fun r=>.one (.ptr r 0))
 |.call { callee:=.value _,.. },[.one (.E .kC d),.one (.E .int n)]=>match tab.w with
  |true=>some (none,.one (.E .int (oI d n)),[])
  |false=>none
 |_,_=>none

def bP.put(st:bP)(d:Option Tmp)(v:V):bP :=
 match d with
 |some t=>{ st with env:=(t,v)::st.env }
 |none=>st

def bP.Xt(st:bP)(m:Mem):bP:={ st with mem:=m++st.mem }

abbrev nw:=bP->Prop

def under(p:Option Prop)(q:Prop):Prop :=
 match p with
 |none=>q
 |some p=>p/\q

def r1(m:Mem):List Nat:=m.map (·.1)

def rE(base:Nat)(mem:Mem)(names:List Nat):Mem->Bool
 |[]=>true
 |(r,_)::rest=>match Nat.ble base r with
  |true=>match Nat.ble (base+8) r,look mem r with
   |false,none=>rE base mem names rest
   |_,_=>false
  |false=>match g6 names r with
   |true=>rE base mem names rest
   |false=>false

def HJ:Option Tmp->V->Bool
 |some _,.one .undef=>false
 |_,_=>true

structure hF where
 i:Nat
 reads:List Nat
 writes:List Nat

def ta(o:Oper):Bool :=
 match o.op with
 |.binOp .eql _ _ (.const (.slice none _ _)) _=>true
 |_=>false

def An(vs:List V)(K:V->Prop):Prop :=
 match vs with
 |[.one (.E (.list _) l),_]=>∀b:Bool,(b=true->len l=0)->K (.one (.E .bool b))
 |[.one (.nil _),_]=>K (.one (.E .bool true))
 |_=>False

def w6(o:Oper):List (Nat×Operand) :=
 match o.op with
 |.binOp .eql t x (.const (.slice none a b)) _=>[(t,x),(t,.const (.slice none a b))]
 |_=>operands o

def py(Γ:Ctx)(tab:ci)(o:Oper)(i:Nat)(eA:List hF)(st:bP)(K:List hF->nw):Prop :=
 match k1 tab st.env (w6 o)with
 |none=>False
 |some vs =>
  match ta o with
  |true=>An vs fun v=>K eA (st.put o.dst v)
  |false =>
   let names:=Xf o vs st.mem
   match Av Γ tab (st.base+8*i) o vs (ff st.mem names)with
   |none=>False
   |some (p,v,m)=>match rE (st.base+8*i) st.mem names m,HJ o.dst v with
    |true,true=>under p (K (⟨i,names,r1 m⟩::eA) ((st.Xt m).put o.dst v))
    |_,_=>False

def meets:List Nat->List Nat->Bool
 |[],_=>false
 |r::rest,l=>match g6 l r with|true=>true|false=>meets rest l

def forced{α:Type}(n:Nat)(k:Nat->α):α:=match n with|0=>k 0|m+1=>k (m+1)

def bitsOf(acc:Nat)(ms:List Nat):List Edge->Nat
 |[]=>acc
 |e::rest=>match Region.binds .any e with
  |true=>bitsOf (acc ||| 2 ^ e.on ||| (ms[e.on]?).getD 0) ms rest
  |false=>bitsOf acc ms rest

def jA(ms:List Nat):List Oper->List Nat
 |[]=>ms
 |o::rest=>forced (bitsOf 0 ms o.after.toList) fun b=>jA (ms++[b]) rest

def j4(ms:List Nat)(i j:Nat):Bool:=Nat.testBit ((ms[j]?).getD 0) i

def tmpsOf:List Operand->List Nat
 |[]=>[]
 |.tmp t::rest=>t::tmpsOf rest
 |_::rest=>tmpsOf rest

def tI(ops:List Oper)(o:Oper):List Nat :=
 tmpsOf ((w6 o).map (·.2))++(match o.guard with|none=>[] | some (j,_)=>((ops[j]?).bind (·.dst)).toList)

def wj(ops:List Oper)(a b:Oper):Bool :=
 match meets a.dst.toList (tI ops b++b.dst.toList)with
 |true=>true
 |false=>meets b.dst.toList (tI ops a)

def vz(ops:List Oper)(ms:List Nat)(o:Oper)(j:Nat):Nat->List Oper->Bool
 |_,[]=>true
 |i,a::rest=>match Nat.ble j i with
  |true=>true
  |false=>match wj ops a o with
   |true=>match j4 ms i j with|true=>vz ops ms o j (i+1) rest|false=>false
   |false=>vz ops ms o j (i+1) rest

def A3(ops:List Oper)(ms:List Nat):Nat->List Oper->Bool
 |_,[]=>true
 |j,o::rest=>match vz ops ms o j 0 ops with|true=>A3 ops ms (j+1) rest|false=>false

def yw(a b:hF):Bool :=
 match meets a.writes (b.reads++b.writes)with
 |true=>true
 |false=>meets b.writes a.reads

def yx(ms:List Nat)(b:hF):List hF->Bool
 |[]=>true
 |a::rest=>match yw a b with
  |true=>match j4 ms a.i b.i with|true=>yx ms b rest|false=>false
  |false=>yx ms b rest

def tH(ms:List Nat):List hF->Bool
 |[]=>true
 |b::rest=>match yx ms b rest with|true=>tH ms rest|false=>false

def Ap:List Oper->Bool
 |[]=>true
 |o::rest=>match ta o with|true=>false|false=>Ap rest

def yW(j:Nat):List Edge->Bool
 |[]=>true
 |e::rest=>match Region.binds .any e with
  |true=>match Nat.ble (e.on+1) j with|true=>yW j rest|false=>false
  |false=>yW j rest

def yY:Nat->List Oper->Bool
 |_,[]=>true
 |j,o::rest=>match yW j o.after.toList with|true=>yY (j+1) rest|false=>false

def w8(ops:List Oper)(eA:List hF):Bool :=
 let ms:=jA [] ops
 match A3 ops ms 0 ops with
 |true=>match Ap ops with
  |true=>match yY 0 ops with
   |true=>tH ms eA
   |false=>false
  |false=>false
 |false=>false

def C.h4(r:Nat)(t:z)(l:List t.den):C->C
 |.own q=>match Nat.beq q r with|true=>.E (.list t) l|false=>.own q
 |c=>c

def V.h4(r:Nat)(t:z)(l:List t.den):V->V
 |.one c=>.one (c.h4 r t l)
 |.agg cs=>.agg (cs.map (C.h4 r t l))
 |.an vs=>.an (vs.map fun v=>match v with
  |.one c=>.one (c.h4 r t l)
  |.agg cs=>.agg (cs.map (C.h4 r t l))
  |.an us=>.an us)

def bQ.h4(r:Nat)(t:z)(l:List t.den):bQ->bQ
 |.box cs=>.box (cs.map (C.h4 r t l))
 |.ew u k cs=>.ew u k (cs.map (C.h4 r t l))
 |b=>b

def ux(r:Nat)(st:bP):bP :=
 match look st.mem r with
 |some (.arr t l)=>{ env:=st.env.map fun p=>(p.1,p.2.h4 r t l),mem:=(r,.dead)::st.mem.map fun p=>(p.1,p.2.h4 r t l),base:=st.base }
 |_=>st

def sL:List Nat->bP->bP
 |[],st=>st
 |r::rs,st=>sL rs (ux r st)

def texts:Mem->List Nat
 |[]=>[]
 |(r,.arr .str _)::rest=>r::texts rest
 |(r,.arr .signed _)::rest=>r::texts rest
 |_::rest=>texts rest
def ZG(Γ:Ctx)(tab:ci)(st:bP)(o:Oper):List Nat :=
 match o.op with
 |.call { callee:=.value _,.. }=>match k1 tab st.env (operands o)with
  |some (.one (.fn f il)::args)=>match look Γ f with
   |some c =>
    let as:=args++il.map fun r=>V.one (.ptr r 0)
    let mem:=ff st.mem (reach st.mem (.one (.fn f il)::args))
    let seen:=mem.map (·.1)
    match c ((as.map o6).map (V.cx (idx seen))) (mem.map fun p=>p.2.cx (idx seen))with
    |some _=>[]
    |none=>match qu tab mem (as.map o6)with
     |some (ds,ns)=>match c ds []with
      |some (_,v,ar)=>match v.plain,ar with
       |true,[]=>[]
       |_,_=>ns
      |none=>texts mem
     |none=>texts mem
   |none=>[]
  |_=>[]
 |_=>[]

def J9(Γ:Ctx)(tab:ci)(draw:Bool)(o:Oper)(st:bP)(k:bP->Prop):Prop :=
 match draw with
 |true=>k st
 |false=>match ZG Γ tab st o with
  |[]=>k st
  |r::rs=>k (sL (r::rs) st)

def jj(Γ:Ctx)(tab:ci)(draw:Bool)(ops:List Oper)(K:nw):List Oper->Nat->List hF->nw
 |[],_,eA,st=>match draw with
  |false=>K { st with base:=st.base+8*ops.length }
  |true=>match w8 ops eA with
   |true=>K { st with base:=st.base+8*ops.length }
   |false=>False
 |o::rest,i,eA,nt=>J9 Γ tab draw o nt fun st =>
  match o.guard with
  |none=>py Γ tab o i eA st (jj Γ tab draw ops K rest (i+1))
  |some (j,want) =>
   match (ops[j]?).bind (·.dst)with
   |none=>False
   |some d=>match look st.env d with
    |some (.one (.E .bool b)) =>
     J b
      (let p9:=st.put (some d) (.one (.E .bool true))
       match want with
       |true=>py Γ tab o i eA p9 (jj Γ tab draw ops K rest (i+1))
       |false=>jj Γ tab draw ops K rest (i+1) eA (p9.put o.dst (.one .undef)))
      (let p9:=st.put (some d) (.one (.E .bool false))
       match want with
       |false=>py Γ tab o i eA p9 (jj Γ tab draw ops K rest (i+1))
       |true=>jj Γ tab draw ops K rest (i+1) eA (p9.put o.dst (.one .undef)))
    |some (.one .undef)=>jj Γ tab draw ops K rest (i+1) eA (st.put o.dst (.one .undef))
    |_=>False

inductive cw where
 |code (c:Code)
 |inBlock (id:Nat)
 |inLoop (keys:List Nat) (body:Code)

def Bz(acc:List Nat):List (Nat×Operand)->List Nat
 |[]=>acc
 |(_,.tmp t)::rest=>Bz (match g6 acc t with|true=>acc|false=>t::acc) rest
 |_::rest=>Bz acc rest

def TC(acc:List Nat):List Oper->List Nat
 |[]=>acc
 |o::rest=>TC (Bz acc (operands o)) rest

def o7(acc:List Nat):Code->List Nat
 |.region _ ops _=>TC acc ops.toList
 |.seq a b=>o7 (o7 acc a) b
 |.cond c a b=>o7 (o7 (Bz acc [(0,c)]) a) b
 |.block _ b=>o7 acc b
 |.loop b=>o7 acc b
 |.scope b=>o7 acc b
 |_=>acc

def Ez(acc:List Nat):List cw->List Nat
 |[]=>acc
 |.code c::k=>Ez (o7 acc c) k
 |.inBlock _::k=>Ez acc k
 |.inLoop _ b::k=>Ez (o7 acc b) k

def H9:List Nat->(List Nat->List Nat)->List Nat
 |[],k=>k []
 |n::l,k=>match n with
  |0=>H9 l fun l=>k (0::l)
  |m+1=>H9 l fun l=>k ((m+1)::l)

def Dm(acc:List Nat):List cw->List Nat
 |[]=>acc
 |.code c::k=>Dm (o7 acc c) k
 |.inBlock _::k=>Dm acc k
 |.inLoop aF _::k=>Dm (qj acc aF) k

def Zt(res:List Nat)(b:Code)(k:List cw)(keys:List Nat):List Nat :=
 match Nat.ble keys.length 44 with
 |true=>keys
 |false=>H9 (Dm (o7 res b) k) fun acG=>keys.filter (g6 acG)

def LJ(acc:List Nat):List ResultVar->List Nat
 |[]=>acc
 |.tmp t::rest=>LJ (match g6 acc t with|true=>acc|false=>t::acc) rest
 |.cell t _::rest=>LJ (match g6 acc t with|true=>acc|false=>t::acc) rest

def uX(env:Env):List Nat->Env
 |[]=>[]
 |t::rest=>match look env t with
  |some v=>(t,v)::uX env rest
  |none=>uX env rest

def kr:Nat->Env->Env×Mem
 |_,[]=>([],[])
 |b,(t,.one (.nil e))::rest=>let r:=kr (b+1) rest;((t,.one (.own b))::r.1,(b,.arr e [])::r.2)
 |b,p::rest=>let r:=kr b rest;(p::r.1,r.2)

def g7:Nat->List C->List C×Mem
 |_,[]=>([],[])
 |b,.nil e::rest=>let r:=g7 (b+1) rest;(.own b::r.1,(b,.arr e [])::r.2)
 |b,c::rest=>let r:=g7 b rest;(c::r.1,r.2)

def js:Nat->Mem->Mem
 |_,[]=>[]
 |b,(r,.box cs)::rest=>let q:=g7 b cs;(r,.box q.1)::q.2++js (b+q.2.length) rest
 |b,p::rest=>p::js b rest

def D1(k:Nat)(mem:Mem)(vs:List V):List Nat:=closure mem 200 0 (qj (List.range k) (vs.flatMap V.names))

def Ay:Nat->Nat->List Nat->Bool
 |_,0,_=>true
 |i,k+1,r::rest=>match Nat.beq r i with|true=>Ay (i+1) k rest|false=>false
 |_,_+1,[]=>false

def allKnown(mem:Mem):List Nat->Bool
 |[]=>true
 |r::rest=>match look mem r with|some _=>allKnown mem rest|none=>false

def Ck(k:Nat)(mem e8:Mem)(names seen:List Nat)(vs:List V)(ar:List bQ):Bool :=
 match distinct names,allKnown mem names,distinct seen,allKnown e8 seen,Ay 0 k seen with
 |true,true,true,true,true=>match vs.all V.Dv,qk seen (vs.flatMap V.names),qk seen (ar.flatMap bQ.names)with
  |true,true,true=>true
  |_,_,_=>false
 |_,_,_,_,_=>false

def qD{α:Type}:List Nat->(List Nat->α)->α
 |[],k=>k []
 |n::l,k=>match n with
  |0=>qD l fun l=>k (0::l)
  |m+1=>qD l fun l=>k ((m+1)::l)

def canon(k:Nat)(keys:List Nat)(st:bP):Option bP :=
 let q:=kr st.base (uX st.env keys)
 qD (D1 k (q.2++st.mem) (q.1.map (·.2))) fun names =>
 let e8:=js (st.base+q.2.length) (ff (q.2++st.mem) names)
 qD (D1 k e8 (q.1.map (·.2))) fun seen =>
 let ar:=seen.map fun r=>(look e8 r).getD .dead
 match Ck k (q.2++st.mem) e8 names seen (q.1.map (·.2)) ar with
 |true=>some { env:=q.1.map (fun p=>(p.1,p.2.cx (idx seen))),mem:=jU 0 (ar.map (bQ.cx (idx seen))),base:=seen.length }
 |false=>none

def tn{α:Type}(o:Option α)(K:α->Prop):Prop:=match o with|some x=>K x|none=>False

inductive E0 where
 |normal|ret|exit (id:Nat)

def ka(Γ:Ctx)(tab:ci)(fw:Nat)(res:List Nat)(rec:List cw->bP->Prop)(fin:bP->Prop):Nat->List cw->E0->bP->Prop
 |0,_,_,_=>False
 |n+1,todo,.normal,st =>
  match todo with
  |[]=>fin st
  |.inBlock _::k=>ka Γ tab fw res rec fin n k .normal st
  |.inLoop keys b::k=>tn (canon fw keys st) fun da=>rec (.inLoop keys b::k) da
  |.code c::k =>
   match c with
   |.skip=>ka Γ tab fw res rec fin n k .normal st
   |.seq a b=>ka Γ tab fw res rec fin n (.code a::.code b::k) .normal st
   |.region _ ops draw=>jj Γ tab draw ops.toList (fun da=>ka Γ tab fw res rec fin n k .normal da) ops.toList 0 [] st
   |.cond c a b =>
    match wA tab st.env 0 c with
    |some (.one (.E .bool t))=>J t (ka Γ tab fw res rec fin n (.code a::k) .normal st) (ka Γ tab fw res rec fin n (.code b::k) .normal st)
    |_=>False
   |.block id b=>ka Γ tab fw res rec fin n (.code b::.inBlock id::k) .normal st
   |.loop b =>
    qD (Ez (o7 res b) k) fun ajh =>
    qD (((st.env.filter (fun p=>p.2.Dv)).map (·.1)).foldr (fun t acc=>match g6 acc t with|true=>acc|false=>match g6 ajh t with|true=>t::acc|false=>acc) []) fun acn =>
    qD (Zt res b k acn) fun keys =>
    tn (canon fw keys st) fun da=>rec (.inLoop keys b::k) da
   |.exit id=>ka Γ tab fw res rec fin n k (.exit id) st
   |.ret=>fin st
   |_=>False
 |n+1,todo,.exit id,st =>
  match todo with
  |[]=>False
  |.inBlock j::k=>match Nat.beq j id with
   |true=>ka Γ tab fw res rec fin n k .normal st
   |false=>ka Γ tab fw res rec fin n k (.exit id) st
  |_::k=>ka Γ tab fw res rec fin n k (.exit id) st
 |_+1,_,.ret,_=>False

def run(Γ:Ctx)(tab:ci)(fw:Nat)(res:List Nat)(fin:bP->Prop):Nat->List cw->bP->Prop
 |0,_,_=>False
 |m+1,todo,st =>
  match todo with
  |.inLoop keys b::k=>ka Γ tab fw res (run Γ tab fw res fin m) fin 4000 (.code b::.inLoop keys b::k) .normal st
  |todo=>ka Γ tab fw res (run Γ tab fw res fin m) fin 4000 todo .normal st

def tz(tab:ci)(st:bP):List ResultVar->Option (List V)
 |[]=>some []
 |.tmp t::rest=>match look st.env t,tz tab st rest with
  |some v,some vs=>some (v::vs)
  |_,_=>none
 |.cell a t::rest=>match look st.env a,dO tab t,tz tab st rest with
  |some (.one (.ptr r o)),some aK,some vs=>match te aK (.ptr r o) st.mem with
   |some (none,v,_)=>some (v::vs)
   |_=>none
  |_,_,_=>none

def J4:List V->V
 |[v]=>v
 |vs=>.an vs

def AU:List V->Bool
 |[]=>true
 |.one .undef::_=>false
 |.an _::_=>false
 |_::rest=>AU rest

def CJ(tab:ci)(res:List ResultVar)(k:Nat)(K:V->List bQ->Prop)(st:bP):Prop :=
 match tz tab st res with
 |none=>False
 |some vs=>match qu tab st.mem vs,AU vs with
  |some (ds,ns),true =>
   let ar:=(List.range k).map fun r=>match g6 ns r with|true=>.dead|false=>(look st.mem r).getD .dead
   match ub k (ar.flatMap bQ.names)with
   |true=>K (J4 ds) ar
   |false=>False
  |_,_=>False

def CK(tab:ci)(res:List ResultVar)(k:Nat)(K:V->List bQ->Prop)(st:bP):Prop :=
 match tz tab st res with
 |none=>False
 |some vs =>
  let seen:=closure st.mem 200 0 (qj (List.range k) (vs.flatMap V.names))
  let ar:=seen.map fun r=>(look st.mem r).getD .dead
  match Ck k st.mem st.mem [] seen vs ar,AU vs with
  |true,true=>K (J4 (vs.map (V.cx (idx seen)))) (ar.map (bQ.cx (idx seen)))
  |_,_=>False

def Code.sub:Code->List Nat->Code
 |c,[]=>c
 |.seq a b,i::p=>match i with|0=>Code.sub a p|_=>Code.sub b p
 |.cond _ a b,i::p=>match i with|0=>Code.sub a p|_=>Code.sub b p
 |.block _ b,_::p=>Code.sub b p
 |.loop b,_::p=>Code.sub b p
 |c,_=>c

def wU:Nat->List V->Env
 |_,[]=>[]
 |i,v::vs=>(i,v)::wU (i+1) vs

def df(args:List V)(ar:List bQ):bP:={ env:=wU 0 args,mem:=jU 0 ar,base:=ar.length }

end bE
end Go.Proofs.YtlbppjmekiemiaaGreatDoor


/- The executor on data: what it means that a real world holds what the executor's state says; and that this lasts. No condition. -/
namespace Go.Proofs.YtlbppjmekiemiaaGreatDoor
namespace bE

inductive Loc where
 |gz (b:Nat)
 |eu (x:Value)

def Loc.block:Loc->Option Nat
 |.gz b=>some b
 |.eu x=>x.ownBlock

def b6(b o:Nat):Addr:=⟨b,o,none⟩

inductive dC (tab:ci) (w:World) (S:Nat->Prop):C->Value->Prop
 |int (n:Int):dC tab w S (.E .int n) (.int .i64 n)
 |bool (b:Bool):dC tab w S (.E .bool b) (.bool b)
 |str (s:List UInt8):dC tab w S (.E .str s) (.string ⟨s.toArray⟩)
 |u64 (n:Int):dC tab w S (.E .u64 n) (.int .u64 n)
 |CB:dC tab w S (.E .err true) .nilIface
 |HR (t:TypeId) (v:Value):dC tab w S (.E .err false) (.iface t v)
 |CM:dC tab w S (.E .kC none) (.func (.func tab.f0) #[] #[])
 |CN (n:Int) (b:Nat) (cur:Array Value) (e:TypeId) (sM:Nat×Nat) (dw:S b) (aA:w.heap[b]? = some (.cells cur e sM)) (az:cur[0]? = some (.int .i64 n)) :
   dC tab w S (.E .kC (some n)) (.func (.func tab.f1) #[] #[.pointer (some (b6 b 0))])
 |empty (t:z) (a:Option Addr) (cap:Nat):dC tab w S (.E (.list t) []) (.slice a 0 cap)
 |list (t:z) (l:List t.den) (b off cap:Nat) (cs:Nat->Nat->Value) (dw:S b) (hcap:l.length<=cap)
   (az:∀i j,i<l.length->j<t.width->w.cell? (b6 b (off+i*t.width+j))=some (cs i j))
   (aw:∀i j c,i<l.length->(t.cells (nth l i t.H))[j]? = some c->dC tab w S c (cs i j)) :
   dC tab w S (.E (.list t) l) (.slice (some (b6 b off)) l.length cap)

abbrev dS:=Nat->Option bQ
abbrev dk:=Nat->Option Loc

def yN(tab:ci)(w:World)(S:Nat->Prop)(t:z)(d:t.den)(b off:Nat):Prop :=
 S b/\∃cs:Nat->Value,(∀j,j<t.width->w.cell? (b6 b (off+j))=some (cs j))/\∀j c,(t.cells d)[j]? = some c->dC tab w S c (cs j)

def NM(wd off n:Nat)(y x:Value):Prop :=
 ∃a m cap et we,y=.slice a m cap/\x=.slice et n we/\(off=0->et=a)/\(0<n->et=a.map fun dP=>b6 dP.block (dP.off+off*wd))/\n<=we/\off+we<=cap/\m<=off+we

def fv(tab:ci)(O:dk)(mem:dS)(w:World)(S:Nat->Prop):C->Value->Prop
 |.E t d,x=>dC tab w S (.E t d) x
 |.nil _,x=>x=.slice none 0 0
 |.ptr r o,x=>mem r≠none/\∀cs,mem r=some (.box cs)->∃b,O r=some (.gz b)/\x=.pointer (some (b6 b o))
 |.own r,x=>mem r≠none/\∀t l,mem r=some (.arr t l)->O r=some (.eu x)
 |.view r off n,x=>mem r≠none/\∀t l,mem r=some (.arr t l)->∃y,O r=some (.eu y)/\NM t.width off n y x
 |.j6 r i k,x=>mem r≠none/\∀t l,mem r=some (.arr t l)->∃b m cap,O r=some (.eu (.slice (some (b6 b 0)) m cap))/\x=.pointer (some (b6 b (i*t.width+k)))
 |.lS t l i k,x=>∃b off,yN tab w S t (nth l i t.H) b off/\x=.pointer (some (b6 b (off+k)))
 |.fn f il,x=>(∀r∈il,mem r≠none)/\∃vs:Array Value,x=.func (.func f) #[] vs/\vs.size=il.length /\
   ∀(i r:Nat),il[i]? = some r->∃y,vs[i]? = some y/\y.oneCell'=true/\∀cs,mem r=some (.box cs)->∃b,O r=some (.gz b)/\y=.pointer (some (b6 b 0))
 |.mp r,x=>mem r≠none/\∀aF,mem r=some (.set aF)->∃b,O r=some (.gz b)/\x=.map (some b)
 |.ia r,x=>mem r≠none/\∀t l cs,mem r=some (.ew t l cs)->O r=some (.eu x)
 |.kL r k,x=>mem r≠none/\∀t l cs,mem r=some (.ew t l cs)->∃b m cap,O r=some (.eu (.slice (some (b6 b 0)) m cap))/\x=.pointer (some (b6 b (l.length*t.width+k)))
 |.cut r n,x=>mem r≠none/\∀t l,mem r=some (.arr t l)->∃a m cap,O r=some (.eu (.slice a m cap))/\x=.slice a n n
 |.undef,_=>True
 |.any,_=>True

def jX(tab:ci)(O:dk)(mem:dS)(w:World)(S:Nat->Prop):V->Value->Prop
 |.one c,x=>x.oneCell'=true/\fv tab O mem w S c x
 |.agg cs,x=>∃xs:Array Value,x=.agg xs/\xs.size=cs.length/\∀(i:Nat) c,cs[i]? = some c->∃y,xs[i]? = some y/\y.oneCell'=true/\fv tab O mem w S c y
 |.an _,_=>False

def ch(tab:ci)(O:dk)(mem:dS)(w:World)(S:Nat->Prop):V->Value->Prop
 |.one .undef,_=>True
 |.one c,x=>jX tab O mem w S (.one c) x
 |.agg cs,x=>jX tab O mem w S (.agg cs) x
 |.an vs,x=>∃xs:Array Value,x=.tuple xs/\xs.size=vs.length/\∀(i:Nat) v,vs[i]? = some v->∃y,xs[i]? = some y/\jX tab O mem w S v y

def pc(tab:ci)(O:dk)(mem:dS)(w:World)(S:Nat->Prop):bQ->Loc->Prop
 |.box cs,.gz b=>∃(vs:Array Value) (e:TypeId),w.heap[b]? = some (.cells vs e (0,0))/\vs.size=cs.length /\
   ∀(i:Nat) c,cs[i]? = some c->∃y,vs[i]? = some y/\y.oneCell'=true/\fv tab O mem w S c y
 |.arr t l,.eu x=>(x=.slice none 0 0/\l=[]) \/
   ∃(b cap:Nat) (cur:Array Value) (e:TypeId),x=.slice (some (b6 b 0)) l.length cap/\w.heap[b]? = some (.cells cur e (0,0))/\l.length<=cap/\cap<=maxLen/\cap*t.width<=cur.size /\
    ∀i j c,i<l.length->(t.cells (nth l i t.H))[j]? = some c->∃y,cur[i*t.width+j]? = some y/\y.oneCell'=true/\dC tab w S c y
 |.set aF,.gz b=>∃(es:Array MapEntry) (clock:Nat),w.heap[b]? = some (.map es clock)/\es.size=aF.length/\∀(i:Nat) k,aF[i]? = some k->∃e,es[i]? = some e/\e.key=.int .i64 k/\e.val=.bool true
 |.ew t l cs,.eu x=>∃(b cap:Nat) (cur:Array Value) (e:TypeId),x=.slice (some (b6 b 0)) (l.length+1) cap/\w.heap[b]? = some (.cells cur e (0,0))/\l.length+1<=cap/\cap<=maxLen/\cap*t.width<=cur.size /\
    (∀i j c,i<l.length->(t.cells (nth l i t.H))[j]? = some c->∃y,cur[i*t.width+j]? = some y/\y.oneCell'=true/\dC tab w S c y) /\
    ∀j c,cs[j]? = some c->j<t.width/\∃y,cur[l.length*t.width+j]? = some y/\y.oneCell'=true/\fv tab O mem w S c y
 |_,_=>False

def bQ.alive:bQ->Prop
 |.dead=>False
 |_=>True

def Live(mem:dS)(r:Nat):Prop:=∃B,mem r=some B/\B.alive

def TK:List Int:=[1,10,100,1000,10000,100000,1000000,10000000,100000000,1000000000,10000000000,100000000000,1000000000000,10000000000000,100000000000000,1000000000000000,10000000000000000,100000000000000000,1000000000000000000,10000000000000000000]
def NJ(tab:ci)(w:World)(S:Nat->Prop):Prop :=
 ∀g,tab.pow=some g->S g/\∃ty m,w.heap[g]? = some (.cells (TK.map (Value.int .u64)).toArray ty m)
def XR(tab:ci)(w:World)(S:Nat->Prop):Prop:=∀g,tab.acJ=some g->S g/\∃m,w.cell? (b6 g 0)=some (.int .i64 m)
def XM(tab:ci)(w:World)(S:Nat->Prop):Prop:=∀g,g∈tab.Zi->S g/\∃zk,w.cell? (b6 g 0)=some zk/\(zk=.nilIface\/∃t u,zk=.iface t u)
structure qh(tab:ci)(w:World)(S:Nat->Prop):Prop where
 t:NJ tab w S
 m:XR tab w S
 e:XM tab w S
structure Inv(tab:ci)(O:dk)(mem:dS)(w:World)(S:Nat->Prop):Prop where
 rel:∀r B,mem r=some B->B.alive->∃l,O r=some l/\pc tab O mem w S B l
 inj:∀r fo,r≠fo->Live mem r->Live mem fo->∀l l' b,O r=some l->O fo=some l'->l.block=some b->l'.block≠some b
 sep:∀r,Live mem r->∀l b,O r=some l->l.block=some b->¬S b
 lt:∀b,S b->b<w.heap.size
 pow:qh tab w S

def q9(O:dk)(mem:dS)(b:Nat):Prop:=∃r l,Live mem r/\O r=some l/\l.block=some b

def iP:bQ->bQ->Prop
 |_,.dead=>True
 |.box _,.box _=>True
 |.arr t _,.arr u _=>t=u
 |.set _,.set _=>True
 |.ew t l _,.ew u k _=>t=u/\l.length=k.length
 |_,_=>False

structure Ext(O:dk)(mem:dS)(w:World)(S:Nat->Prop)(bU:dk)(fl:dS)(w':World)(S':Nat->Prop):Prop where
 names:∀r,mem r≠none->fl r≠none
 kinds:∀r B B',mem r=some B->fl r=some B'->iP B B'/\(Live fl r->bU r=O r)
 sub:∀b,S b->S' b
 size:w.heap.size<=w'.heap.size
 heap:∀b,b<w.heap.size->¬q9 O mem b->w'.heap[b]? = w.heap[b]?
 only:∀b,S' b->S b\/w.heap.size<=b\/q9 O mem b
 own:∀b,q9 bU fl b->q9 O mem b\/w.heap.size<=b
 os:w'.os=w.os
 tape:w'.tape=w.tape
 output:w'.output=w.output

section
variable {tab:ci} {O bU:dk} {mem fl:dS} {w w':World} {S S':Nat->Prop}

theorem cell?_of_heap {b o:Nat} (h:w'.heap[b]? = w.heap[b]?):w'.cell? (b6 b o)=w.cell? (b6 b o):=by
 simp[World.cell?,b6,h]

theorem dC.mono{c:C}{x:Value}(h:dC tab w S c x)(av:∀b,S b->S' b)(dn:∀b,S b->w'.heap[b]? = w.heap[b]?):dC tab w' S' c x:=by
 induction h with
 |int n=>exact .int n
 |bool b=>exact .bool b
 |str s=>exact .str s
 |u64 n=>exact .u64 n
 |CB=>exact .CB
 |HR t v=>exact .HR t v
 |CM=>exact .CM
 |CN n b cur e sM dw aA az=>exact .CN n b cur e sM (av _ dw) ((dn _ dw).trans aA) az
 |empty t a cap=>exact .empty t a cap
 |list t l b off cap cs dw hcap az _ dd =>
  exact .list t l b off cap cs (av _ dw) hcap (fun i j hi aR=>(cell?_of_heap (dn _ dw)).trans (az i j hi aR)) (fun i j c hi aR=>dd i j c hi aR)

theorem yN.mono{t:z}{d:t.den}{b off:Nat}(h:yN tab w S t d b off)(av:∀b,S b->S' b)(dn:∀b,S b->w'.heap[b]? = w.heap[b]?):yN tab w' S' t d b off:=by
 obtain⟨dw,cs,I,G⟩:=h;exact⟨av _ dw,cs,fun j aR=>(cell?_of_heap (dn _ dw)).trans (I j aR),fun j c aR=>(G j c aR).mono av dn⟩

theorem Inv.acW(aD:Inv tab O mem w S){b:Nat}(h:S b):¬q9 O mem b:=fun⟨r,l,ax,aB,aA⟩=>aD.sep r ax l b aB aA h

theorem Ext.keeps(a5:Ext O mem w S bU fl w' S')(aD:Inv tab O mem w S):∀b,S b->w'.heap[b]? = w.heap[b]? :=
 fun b aA=>a5.heap b (aD.lt b aA) (aD.acW aA)

theorem qh.mono(h:qh tab w S)(av:∀b,S b->S' b):qh tab w S':=⟨fun g bs=>⟨av g (h.t g bs).1,(h.t g bs).2⟩,fun g bs=>⟨av g (h.m g bs).1,(h.m g bs).2⟩,fun g bs=>⟨av g (h.e g bs).1,(h.e g bs).2⟩⟩
theorem qh.of_heap(h:qh tab w S)(bp:w'.heap=w.heap):qh tab w' S:=by
 have az:∀g,w'.cell? (b6 g 0)=w.cell? (b6 g 0):=fun g=>cell?_of_heap (by rw[bp])
 exact⟨fun g bs=>by rw[bp];exact h.t g bs,fun g bs=>by rw[az];exact h.m g bs,fun g bs=>by rw[az];exact h.e g bs⟩
theorem Inv.w9(aD:Inv tab O mem w S)(a5:Ext O mem w S bU fl w' S'):qh tab w' S':=by
 refine⟨fun g bs=>?_,fun g bs=>?_,fun g bs=>?_⟩
 ·obtain⟨I,ty,m,G⟩:=aD.pow.t g bs;exact⟨a5.sub g I,ty,m,(a5.keeps aD g I).trans G⟩
 ·obtain⟨I,m,G⟩:=aD.pow.m g bs;exact⟨a5.sub g I,m,(cell?_of_heap (a5.keeps aD g I)).trans G⟩
 ·obtain⟨I,zk,G,ab⟩:=aD.pow.e g bs;exact⟨a5.sub g I,zk,(cell?_of_heap (a5.keeps aD g I)).trans G,ab⟩

theorem mZ{α:Type}{o:Option α}(h:o≠none):∃x,o=some x:=by
 cases o with
 |none=>exact absurd rfl h
 |some x=>exact⟨x,rfl⟩

theorem fv.ext(a5:Ext O mem w S bU fl w' S')(aD:Inv tab O mem w S){c:C}{x:Value}(h:fv tab O mem w S c x):fv tab bU fl w' S' c x:=by
 have ad:=a5.keeps aD;cases c with
 |E t d=>exact dC.mono h a5.sub ad
 |nil t=>exact h
 |undef=>trivial
 |any=>trivial
 |ptr r o =>
  obtain⟨a6,I⟩:=h;refine⟨a5.names r a6,fun cs el=>?_⟩;obtain⟨B,bt⟩:=mZ a6;have dX:=a5.kinds r B _ bt el;cases B with
  |box ke=>obtain⟨b,aO,aX⟩:=I ke bt;exact⟨b,(dX.2 ⟨_,el,trivial⟩).trans aO,aX⟩
  |arr t l=>exact dX.1.elim
  |set aF=>exact dX.1.elim
  |ew ez l' eK=>exact dX.1.elim
  |dead=>exact dX.1.elim
 |mp r =>
  obtain⟨a6,I⟩:=h;refine⟨a5.names r a6,fun cs el=>?_⟩;obtain⟨B,bt⟩:=mZ a6;have dX:=a5.kinds r B _ bt el;cases B with
  |set ke=>obtain⟨b,aO,aX⟩:=I ke bt;exact⟨b,(dX.2 ⟨_,el,trivial⟩).trans aO,aX⟩
  |arr t l=>exact dX.1.elim
  |box aF=>exact dX.1.elim
  |ew ez l' eK=>exact dX.1.elim
  |dead=>exact dX.1.elim
 |ia r =>
  obtain⟨a6,I⟩:=h;refine⟨a5.names r a6,fun t l cs el=>?_⟩;obtain⟨B,bt⟩:=mZ a6;have dX:=a5.kinds r B _ bt el;cases B with
  |ew t0 l0 ke=>exact(dX.2 ⟨_,el,trivial⟩).trans (I t0 l0 ke bt)
  |_=>exact dX.1.elim
 |kL r k =>
  obtain⟨a6,I⟩:=h;refine⟨a5.names r a6,fun t l cs el=>?_⟩;obtain⟨B,bt⟩:=mZ a6;have dX:=a5.kinds r B _ bt el;cases B with
  |ew t0 l0 ke =>
   obtain⟨bl,ax⟩:=dX.1;subst bl;obtain⟨b,m,cap,aO,aX⟩:=I t0 l0 ke bt;exact⟨b,m,cap,(dX.2 ⟨_,el,trivial⟩).trans aO,by rw[<- ax];exact aX⟩
  |_=>exact dX.1.elim
 |own r =>
  obtain⟨a6,I⟩:=h;refine⟨a5.names r a6,fun t l el=>?_⟩;obtain⟨B,bt⟩:=mZ a6;have dX:=a5.kinds r B _ bt el;cases B with
  |box ke=>exact dX.1.elim
  |set aF=>exact dX.1.elim
  |ew ez l' eK=>exact dX.1.elim
  |arr t0 l0=>exact(dX.2 ⟨_,el,trivial⟩).trans (I t0 l0 bt)
  |dead=>exact dX.1.elim
 |view r off n =>
  obtain⟨a6,I⟩:=h;refine⟨a5.names r a6,fun t l el=>?_⟩;obtain⟨B,bt⟩:=mZ a6;have dX:=a5.kinds r B _ bt el;cases B with
  |box ke=>exact dX.1.elim
  |set aF=>exact dX.1.elim
  |ew ez l' eK=>exact dX.1.elim
  |arr t0 l0 =>
   obtain⟨y,aO,aX⟩:=I t0 l0 bt;have bl:t0=t:=dX.1;subst bl;exact⟨y,(dX.2 ⟨_,el,trivial⟩).trans aO,aX⟩
  |dead=>exact dX.1.elim
 |cut r n =>
  obtain⟨a6,I⟩:=h;refine⟨a5.names r a6,fun t l el=>?_⟩;obtain⟨B,bt⟩:=mZ a6;have dX:=a5.kinds r B _ bt el;cases B with
  |arr t0 l0 =>
   obtain⟨a,m,cap,aO,aX⟩:=I t0 l0 bt;exact⟨a,m,cap,(dX.2 ⟨_,el,trivial⟩).trans aO,aX⟩
  |_=>exact dX.1.elim
 |j6 r i k =>
  obtain⟨a6,I⟩:=h;refine⟨a5.names r a6,fun t l el=>?_⟩;obtain⟨B,bt⟩:=mZ a6;have dX:=a5.kinds r B _ bt el;cases B with
  |box ke=>exact dX.1.elim
  |set aF=>exact dX.1.elim
  |ew ez l' eK=>exact dX.1.elim
  |arr t0 l0 =>
   have bl:t0=t:=dX.1;subst bl;obtain⟨b,m,cap,aO,aX⟩:=I t0 l0 bt;exact⟨b,m,cap,(dX.2 ⟨_,el,trivial⟩).trans aO,aX⟩
  |dead=>exact dX.1.elim
 |lS t l i k =>
  obtain⟨b,off,I,G⟩:=h;exact⟨b,off,I.mono a5.sub ad,G⟩
 |fn f il =>
  obtain⟨a6,vs,I,G,ab⟩:=h;refine⟨fun r aw=>a5.names r (a6 r aw),vs,I,G,fun i r aw=>?_⟩;obtain⟨y,cC,cI,dA⟩:=ab i r aw;refine⟨y,cC,cI,fun cs el=>?_⟩;obtain⟨B,bt⟩:=mZ (a6 r (List.mem_of_getElem? aw));have dX:=a5.kinds r B _ bt el;cases B with
  |box ke=>obtain⟨b,aO,aX⟩:=dA ke bt;exact⟨b,(dX.2 ⟨_,el,trivial⟩).trans aO,aX⟩
  |set aF=>exact dX.1.elim
  |ew ez l' eK=>exact dX.1.elim
  |arr t l=>exact dX.1.elim
  |dead=>exact dX.1.elim
end
end bE
end Go.Proofs.YtlbppjmekiemiaaGreatDoor


/- The executor on data: each operation of it is one of the machine. No condition. -/
namespace Go.Proofs.YtlbppjmekiemiaaGreatDoor
namespace bE

def ri:List C->List Value->Prop
 |[],[]=>True
 |.E .int n::cs,x::xs=>(n:Int)=0/\x=.int .i64 0/\ri cs xs
 |.E .bool b::cs,x::xs=>(b:Bool)=false/\x=.bool false/\ri cs xs
 |.E .str s::cs,x::xs=>(s:List UInt8)=[]/\x=.string ⟨#[]⟩/\ri cs xs
 |.nil _::cs,x::xs=>x=.slice none 0 0/\ri cs xs
 |.undef::cs,x::xs=>x.oneCell'=true/\ri cs xs
 |_,_=>False

def NC(tab:ci)(t:z)(xs:List Value):Prop :=
 ∀(j:Nat) c,(t.cells t.H)[j]? = some c->∃y,xs[j]? = some y/\y.oneCell'=true/\∀w S,dC tab w S c y

structure Fb(P:Program)(tab:ci)(T:Nat)(aK:c7):Prop where
 info:∃i bg,P.info? T=some i/\i.size=aK.n/\i.zero=some bg/\ri aK.zero bg.cells.toList/\(match aK.agg with|true=>∃cs,bg=.agg cs|false=>bg.cells=#[bg])
 akL:aK.zero.length=aK.n
 isAgg:∀w,(isAgg T).run P w=.ok aK.agg w
 kind:match aK.hl with
  |.int=>P.underlying T=some (.int .i64)
  |.bool=>P.underlying T=some .bool
  |.str=>P.underlying T=some .string
  |.u64=>P.underlying T=some (.int .u64)
  |.slice t e=>P.underlying T=some (.slice e)/\∃i bg,P.info? e=some i/\i.size=t.width/\i.bytes=aK.bytes/\i.zero=some bg/\bg.cells.size=t.width/\0<t.width/\0<aK.bytes/\bg.cells.toList.all Value.oneCell'=true/\(t.pY=true->NC tab t bg.cells.toList)
  |.struct=>∃c4,P.underlying T=some (.struct c4)/\c4.toList.mapM (fun f=>(P.info? f.type).map fun i=>(f.offset,i.size))=some (aK.kq.zip aK.jt)/\aK.jt.length=aK.kq.length/\aK.jt.all (fun n=>Nat.ble 1 n)=true
  |.array n mN=>∃e i,P.underlying T=some (.array n e)/\P.info? e=some i/\i.size=mN/\mN≠0/\aK.kq=(List.range n).map (·*mN)/\aK.jt=List.replicate n mN /\
    ∀w,(Go.isAgg e).run P w=.ok (Nat.ble 2 mN) w
  |.pW=>∃K a5 i,P.underlying T=some (.map K a5)/\P.underlying K=some (.int .i64)/\P.info? a5=some i/\i.zero=some (.bool false)
  |.iface=>∃ms,P.underlying T=some (.interface ms)
  |.other=>True

structure E2(P:Program)(tab:ci):Prop where
 ac6 : ∃fn, P.funcs[tab.f0]? = some fn /\ fn.body.isSome = true /\ (fn.name == "runtime.NumGoroutine") = false
 ac7 : ∃fn, P.funcs[tab.f1]? = some fn /\ fn.body.isSome = true /\ (fn.name == "runtime.NumGoroutine") = false
 afZ:∀(n:Int) (w:World),Calls P tab.f0 #[.int .i64 n] w fun e w'=>e=.returned (.int .i64 (oI none n))/\w'=w
 af0:∀(n m:Int) (b:Nat) (w:World),w.cell? (b6 b 0)=some (.int .i64 m)->Calls P tab.f1 #[.int .i64 n,.pointer (some (b6 b 0))] w fun e w'=>e=.returned (.int .i64 (oI (some m) n))/\w'=w

structure fp(P:Program)(tab:ci):Prop where
 kC:tab.w=true->E2 P tab
 ok:∀T aK,dO tab T=some aK->Fb P tab T aK
 ZA:∀T aK,g6 tab.eqs T=true->dO tab T=some aK->∀(as:List C) (xs:Array Value) (q:Bool) (f:Nat) (c:C) (y:Value) w,hJ aK.zero as=some q->as[f]? = some c->xs[f]? = some y->(Instr.field T (.agg xs) f).run P w=.ok y w
 eqs:∀T aK,g6 tab.eqs T=true->dO tab T=some aK->∀(as ar:List C) (xs ys:Array Value) (q r:Bool) w,hJ aK.zero as=some q->hJ as ar=some r->xs.size=as.length->ys.size=ar.length ->
  (∀(i:Nat) c,as[i]? = some c->∃y,xs[i]? = some y/\dC tab w (fun _=>False) c y)->(∀(i:Nat) c,ar[i]? = some c->∃y,ys[i]? = some y/\dC tab w (fun _=>False) c y) ->
  (∀op x y,(eqGuard op T x y (.agg xs) (.agg ys)).run P w=.ok () w)/\(Op.equal T (.agg xs) (.agg ys)).run P w=.ok r w

def dU(P:Program)(o:Oper)(a:Act)(w:World)(R:Value->World->Prop):Prop :=
 ∀(K:Act->World->Prop) (Q:Exit->Act->World->Prop),(∀x w',R x w'->K (a.put o.dst x) w')->o.wp P a w K Q

def cO(m:Mem)(mem:dS):dS:=fun r=>match look m r with|some B=>some B|none=>mem r

def ec(tab:ci)(O:dk)(mem:dS)(w:World)(S:Nat->Prop)(m:Mem)(v:V)(x:Value)(w':World):Prop :=
 ∃bU S',Ext O mem w S bU (cO m mem) w' S'/\Inv tab bU (cO m mem) w' S'/\ch tab bU (cO m mem) w' S' v x

section
variable {P:Program} {tab:ci} {O bU:dk} {mem fl:dS} {w w':World} {S S':Nat->Prop}

theorem gV{o:Oper}{a:Act}{x:Value}{R:Value->World->Prop}(h:(execOp a.eval o).run P w=.ok (.value x) w')(gY:R x w'):dU P o a w R :=
 fun K Q ad=>by
  unfold Oper.wp;rw[h];exact ad _ _ gY

theorem Ea{o:Oper}{a:Act}{R:Value->World->Prop}(h:(execOp a.eval o).run P w=.ok .skip w')(gY:R Go.undef w'):dU P o a w R :=
 fun K Q ad=>by
  unfold Oper.wp;rw[h];exact ad _ _ gY

theorem iP.refl(B:bQ):iP B B:=by cases B<;>simp[iP]

theorem Ext.refl:Ext O mem w S O mem w S where
 names:=fun _ h=>h
 kinds:=fun r B B' h er=>by
  rw[h]at er;cases er;exact⟨iP.refl B,fun _=>rfl⟩
 sub:=fun _ h=>h
 size:=Nat.le_refl _
 heap:=fun _ _ _=>rfl
 only:=fun _ h=>.inl h
 own:=fun _ h=>.inl h
 os:=rfl
 tape:=rfl
 output:=rfl

theorem JJ:cO [] mem=mem:=rfl

theorem gy(aD:Inv tab O mem w S){v:V}{x:Value}(h:ch tab O mem w S v x):ec tab O mem w S [] v x w :=
 ⟨O,S,by rw[JJ];exact Ext.refl,by rw[JJ];exact aD,by rw[JJ];exact h⟩

def fG(tab:ci)(O:dk)(mem:dS)(w:World)(S:Nat->Prop):List V->List Value->Prop
 |[],[]=>True
 |v::vs,x::xs=>ch tab O mem w S v x/\fG tab O mem w S vs xs
 |_,_=>False

def gi(m:Mem)(mem:dS):Prop:=∀r B,look m r=some B->B.alive->mem r=some B

theorem k9{x:Value}{n:Int}(h:ch tab O mem w S (.one (.E .int n)) x):x=.int .i64 n:=by
 obtain⟨_,h⟩:=h;cases h;rfl
theorem AL{x:Value}{n:Int}(h:ch tab O mem w S (.one (.E .u64 n)) x):x=.int .u64 n:=by
 obtain⟨_,h⟩:=h;cases h;rfl

theorem r8{x:Value}{n:Bool}(h:ch tab O mem w S (.one (.E .bool n)) x):x=.bool n:=by
 obtain⟨_,h⟩:=h;cases h;rfl
theorem D3{x:Value}{s:List UInt8}(h:ch tab O mem w S (.one (.E .str s)) x):x=.string ⟨s.toArray⟩:=by
 obtain⟨_,h⟩:=h;cases h;rfl
theorem oT(n:Int):ch tab O mem w S (.one (.E .int n)) (.int .i64 n):=⟨rfl,.int n⟩
theorem Du(n:Int):ch tab O mem w S (.one (.E .u64 n)) (.int .u64 n):=⟨rfl,.u64 n⟩
theorem nh(n:Bool):ch tab O mem w S (.one (.E .bool n)) (.bool n):=⟨rfl,.bool n⟩
theorem Aj(s:List UInt8):ch tab O mem w S (.one (.E .str s)) (.string ⟨s.toArray⟩):=⟨rfl,.str s⟩

theorem fG.len:∀{vs:List V} {xs:List Value},fG tab O mem w S vs xs->vs.length=xs.length
 |[],[],_=>rfl
 |_::_,_::_,h=>by simp[fG.len h.2]
 |[],_::_,h=>h.elim
 |_::_,[],h=>h.elim

theorem run_sizeOf{T:Nat}{i:TypeInfo}(h:P.info? T=some i)(w:World):(sizeOf T).run P w=.ok i.size w:=by
 simp[sizeOf,typeInfo,h]

theorem LM{T:Nat}{i:TypeInfo}{bg:Value}(h:P.info? T=some i)(dR:i.zero=some bg)(w:World):(zeroValue T).run P w=.ok bg w:=by
 simp[zeroValue,typeInfo,h,dR]

theorem hr{r q:Nat}(h:q≠r):Nat.beq r q=false:=by
 cases er:Nat.beq r q with
 |true=>exact absurd (Nat.eq_of_beq_eq_true er).symm h
 |false=>rfl

theorem eg{r q:Nat}{B:bQ}(h:q≠r):cO [(r,B)] mem q=mem q:=by
 simp only[cO,look,hr h]

theorem fm{r:Nat}{B:bQ}:cO [(r,B)] mem r=some B:=by
 simp only[cO,look,Nat.beq_refl]

theorem lx{r q:Nat}{B:bQ}(h:q≠r):Live (cO [(r,B)] mem) q↔Live mem q:=by
 unfold Live;rw[eg h]

theorem ng(e8 gU:Mem)(r:Nat):look (e8++gU) r=match look e8 r with|some B=>some B|none=>look gU r:=by
 induction e8 with
 |nil=>rfl
 |cons p rest dd =>
  obtain⟨k,v⟩:=p;simp only[List.cons_append,look];cases Nat.beq k r with
  |true=>rfl
  |false=>exact dd

theorem u1(e8 gU:Mem):cO (e8++gU) mem=cO e8 (cO gU mem):=by
 funext r;simp only[cO,ng];cases look e8 r with
 |some B=>rfl
 |none=>rfl

theorem fx(p:Nat×bQ)(m:Mem):cO (p::m) mem=cO [p] (cO m mem):=u1 [p] m

theorem iP.trans{hd B b5:bQ}(h:iP hd B)(er:iP B b5):iP hd b5:=by
 cases hd<;>cases B<;>cases b5<;>simp_all[iP]

theorem iP.alive{hd B:bQ}(h:iP hd B)(aA:B.alive):hd.alive:=by
 cases hd<;>cases B<;>simp_all[iP,bQ.alive]

theorem Ext.trans{XF:dk}{Te:dS}{Xu:World}{NL:Nat->Prop}(a5:Ext O mem w S bU fl w' S')(iz:Ext bU fl w' S' XF Te Xu NL):Ext O mem w S XF Te Xu NL where
 names:=fun r h=>iz.names r (a5.names r h)
 kinds:=fun r B XL h Ik=>by
  obtain⟨B',er⟩:=mZ (a5.names r (by rw[h];exact fun e=>nomatch e));have bK:=a5.kinds r B B' h er;have bX:=iz.kinds r B' XL er Ik;refine⟨bK.1.trans bX.1,fun ax=>?_⟩;obtain⟨ajE,Qs,bh⟩:=ax;rw[Ik]at Qs;cases Qs;exact(bX.2 ⟨_,Ik,bh⟩).trans (bK.2 ⟨_,er,bX.1.alive bh⟩)
 sub:=fun b h=>iz.sub b (a5.sub b h)
 size:=Nat.le_trans a5.size iz.size
 heap:=fun b aA aq=>by
  refine(iz.heap b (Nat.lt_of_lt_of_le aA a5.size) fun h=>?_).trans (a5.heap b aA aq);rcases a5.own b h with h|h
  ·exact aq h
  ·omega
 only:=fun b h=>by
  rcases iz.only b h with h|h|h
  ·exact a5.only b h
  ·exact .inr (.inl (Nat.le_trans a5.size h))
  ·rcases a5.own b h with h|h
   ·exact .inr (.inr h)
   ·exact .inr (.inl h)
 own:=fun b h=>by
  rcases iz.own b h with h|h
  ·exact a5.own b h
  ·exact .inr (Nat.le_trans a5.size h)
 os:=iz.os.trans a5.os
 tape:=iz.tape.trans a5.tape
 output:=iz.output.trans a5.output

theorem Inv.rk(aD:Inv tab O mem w S){q:Nat}{l:Loc}{b:Nat}(I:Live mem q)(G:O q=some l)(ab:l.block=some b):b<w.heap.size:=by
 obtain⟨B',fE,bh⟩:=I;obtain⟨akq,e,s4⟩:=aD.rel q B' fE bh;rw[G]at e;cases e;cases B' with
 |dead=>exact bh.elim
 |box cs =>
  cases l with
  |eu x=>exact s4.elim
  |gz fq =>
   obtain⟨vs,e,dn,_⟩:=s4;simp only[Loc.block]at ab;cases ab;exact(Array.getElem?_eq_some_iff.1 dn).1
 |set aF =>
  cases l with
  |eu x=>exact s4.elim
  |gz fq =>
   obtain⟨es,clock,dn,_⟩:=s4;simp only[Loc.block]at ab;cases ab;exact(Array.getElem?_eq_some_iff.1 dn).1
 |ew t iw cs =>
  cases l with
  |gz fq=>exact s4.elim
  |eu x =>
   obtain⟨fq,cap,cur,e,rfl,dn,_⟩:=s4;simp[Loc.block,Value.ownBlock,b6]at ab;subst ab;exact(Array.getElem?_eq_some_iff.1 dn).1
 |arr t iw =>
  cases l with
  |gz fq=>exact s4.elim
  |eu x =>
   rcases s4 with⟨rfl,_⟩|⟨fq,cap,cur,e,rfl,dn,_⟩
   ·simp[Loc.block,Value.ownBlock]at ab
   ·simp[Loc.block,Value.ownBlock,b6]at ab;subst ab;exact(Array.getElem?_eq_some_iff.1 dn).1

theorem pc.ext(a5:Ext O mem w S bU fl w' S')(aD:Inv tab O mem w S){B:bQ}{l:Loc}(h:pc tab O mem w S B l)(dn:∀b,l.block=some b->w'.heap[b]? = w.heap[b]?) :
  pc tab bU fl w' S' B l:=by
 cases B with
 |dead=>exact h.elim
 |box cs =>
  cases l with
  |eu x=>exact h.elim
  |gz fq =>
   obtain⟨vs,ty,aA,av,az⟩:=h;refine⟨vs,ty,(dn fq rfl).trans aA,av,fun i c hi=>?_⟩;obtain⟨y,I,G,ab⟩:=az i c hi;exact⟨y,I,G,ab.ext a5 aD⟩
 |set aF =>
  cases l with
  |eu x=>exact h.elim
  |gz fq =>
   obtain⟨es,clock,aA,av,az⟩:=h;exact⟨es,clock,(dn fq rfl).trans aA,av,az⟩
 |ew t iw cs =>
  cases l with
  |gz fq=>exact h.elim
  |eu x =>
   obtain⟨fq,cap,cur,ty,rfl,aA,ab,aV,br,bV,dm⟩:=h;refine⟨fq,cap,cur,ty,rfl,(dn fq rfl).trans aA,ab,aV,br,fun i j c hi aR=>?_,fun j c aR=>?_⟩
   ·obtain⟨y,a1,bf,cj⟩:=bV i j c hi aR;exact⟨y,a1,bf,cj.mono a5.sub (a5.keeps aD)⟩
   ·obtain⟨e7,y,a1,bf,cj⟩:=dm j c aR;exact⟨e7,y,a1,bf,cj.ext a5 aD⟩
 |arr t iw =>
  cases l with
  |gz fq=>exact h.elim
  |eu x =>
   rcases h with h|⟨fq,cap,cur,ty,rfl,aA,ab,aV,br,bV⟩
   ·exact .inl h
   ·refine .inr ⟨fq,cap,cur,ty,rfl,(dn fq rfl).trans aA,ab,aV,br,fun i j c hi aR=>?_⟩;obtain⟨y,a1,bf,cj⟩:=bV i j c hi aR;exact⟨y,a1,bf,cj.mono a5.sub (a5.keeps aD)⟩

def l6(r:Nat)(l:Loc)(O:dk):dk:=fun q=>if q=r then some l else O q

theorem hn{r:Nat}{l:Loc}:l6 r l O r=some l:=if_pos rfl
theorem j5{r q:Nat}{l:Loc}(h:q≠r):l6 r l O q=O q:=if_neg h

theorem ql{o:Obj}{r:Nat}{B:bQ}{l:Loc}(aw:mem r=none)(ax:l.block=some w.heap.size\/l.block=none) :
  Ext O mem w S (l6 r l O) (cO [(r,B)] mem) (w.alloc o) S:=by
 refine⟨fun q aI=>?_,fun q ga ih I G=>?_,fun _ h=>h,by simp,fun b aA _=>heap_alloc_old w o aA,fun _ h=>.inl h,fun b aA=>?_,rfl,rfl,rfl⟩
 ·by_cases e:q=r
  ·subst e;exact absurd aw aI
  ·rw[eg e];exact aI
 ·by_cases e:q=r
  ·subst e;rw[aw]at I;cases I
  ·rw[eg e,I]at G;cases G;exact⟨iP.refl _,fun _=>j5 e⟩
 ·obtain⟨q,l',I,G,ab⟩:=aA
  by_cases e:q=r
  ·subst e;rw[hn]at G;cases G;rcases ax with ax|ax
   ·rw[ax]at ab;cases ab;exact .inr (Nat.le_refl _)
   ·rw[ax]at ab;cases ab
  ·rw[j5 e]at G;exact .inl ⟨q,l',(lx e).1 I,G,ab⟩

theorem rj{o:Obj}{r:Nat}{B:bQ}{l:Loc}(aw:mem r=none)(ax:l.block=some w.heap.size\/l.block=none)(aD:Inv tab O mem w S)
  (dN:pc tab (l6 r l O) (cO [(r,B)] mem) (w.alloc o) S B l):Inv tab (l6 r l O) (cO [(r,B)] mem) (w.alloc o) S:=by
 have a5:=ql (O:=O) (S:=S) (o:=o) (B:=B) aw ax;refine⟨fun q B' fE bh=>?_,fun q fZ l1 I G dV gT b aO aX aA gA=>?_,fun q I dV b aO aA dw=>?_,fun b aA=>?_,aD.w9 a5⟩
 ·by_cases e:q=r
  ·subst e;rw[fm]at fE;cases fE;exact⟨l,hn,dN⟩
  ·rw[eg e]at fE;obtain⟨l',aO,aX⟩:=aD.rel q B' fE bh;refine⟨l',(j5 e).trans aO,aX.ext a5 aD fun b aA=>heap_alloc_old w o (aD.rk ⟨B',fE,bh⟩ aO aA)⟩
 ·by_cases e:q=r
  ·subst e;rw[hn]at aO;cases aO;have nT:fZ≠q:=fun h=>l1 h.symm
   rw[j5 nT]at aX;have:=aD.rk ((lx nT).1 G) aX gA;rcases ax with ax|ax<;>rw[ax]at aA<;>cases aA;omega
  ·rw[j5 e]at aO
   by_cases b8:fZ=r
   ·subst b8;rw[hn]at aX;cases aX;have:=aD.rk ((lx e).1 I) aO aA;rcases ax with ax|ax<;>rw[ax]at gA<;>cases gA;omega
   ·rw[j5 b8]at aX;exact aD.inj q fZ l1 ((lx e).1 I) ((lx b8).1 G) dV gT b aO aX aA gA
 ·by_cases e:q=r
  ·subst e;rw[hn]at aO;cases aO;rcases ax with ax|ax<;>rw[ax]at aA<;>cases aA;have:=aD.lt _ dw;omega
  ·rw[j5 e]at aO;exact aD.sep q ((lx e).1 I) dV b aO aA dw
 ·have:=aD.lt b aA;simp;omega

theorem RN{r:Nat}(aD:Inv tab O mem w S)(aw:mem r≠none)(Ic:Prop) :
  Ext O mem w S O (cO [(r,.dead)] mem) w (fun b=>S b\/Ic/\Live mem r/\∃l,O r=some l/\l.block=some b) /\
  Inv tab O (cO [(r,.dead)] mem) w (fun b=>S b\/Ic/\Live mem r/\∃l,O r=some l/\l.block=some b):=by
 have oX:¬Live (cO [(r,.dead)] mem) r:=fun⟨B,h,bh⟩=>by rw[fm]at h;cases h;exact bh
 have a5:Ext O mem w S O (cO [(r,.dead)] mem) w (fun b=>S b\/Ic/\Live mem r/\∃l,O r=some l/\l.block=some b):=by
  refine⟨fun q aI=>?_,fun q ga ih I G=>?_,fun _ h=>.inl h,Nat.le_refl _,fun _ _ _=>rfl,fun b h=>?_,fun b aA=>?_,rfl,rfl,rfl⟩
  ·by_cases e:q=r
   ·subst e;rw[fm];exact fun h=>nomatch h
   ·rw[eg e];exact aI
  ·by_cases e:q=r
   ·subst e;rw[fm]at G;cases G;exact⟨by cases ga<;>trivial,fun h=>absurd h oX⟩
   ·rw[eg e,I]at G;cases G;exact⟨iP.refl _,fun _=>rfl⟩
  ·rcases h with h|⟨_,ax,l,I,G⟩
   ·exact .inl h
   ·exact .inr (.inr ⟨r,l,ax,I,G⟩)
  ·obtain⟨q,l',I,G,ab⟩:=aA
   by_cases e:q=r
   ·subst e;exact absurd I oX
   ·exact .inl ⟨q,l',(lx e).1 I,G,ab⟩
 refine⟨a5,fun q B' fE bh=>?_,fun q fZ l1 I G dV gT b aO aX aA gA=>?_,fun q I dV b aO aA dw=>?_,fun b aA=>?_,aD.pow.mono a5.sub⟩
 ·by_cases e:q=r
  ·subst e;exact absurd ⟨B',fE,bh⟩ oX
  ·rw[eg e]at fE;obtain⟨l',aO,aX⟩:=aD.rel q B' fE bh;exact⟨l',aO,aX.ext a5 aD fun _ _=>rfl⟩
 ·by_cases e:q=r
  ·subst e;exact absurd I oX
  ·by_cases b8:fZ=r
   ·subst b8;exact absurd G oX
   ·exact aD.inj q fZ l1 ((lx e).1 I) ((lx b8).1 G) dV gT b aO aX aA gA
 ·by_cases e:q=r
  ·subst e;exact absurd I oX
  ·rcases dw with dw|⟨_,ax,l,a1,bf⟩
   ·exact aD.sep q ((lx e).1 I) dV b aO aA dw
   ·exact aD.inj q r e ((lx e).1 I) ax dV l b aO a1 aA bf
 ·rcases aA with aA|⟨_,ax,l,a1,bf⟩
  ·exact aD.lt b aA
  ·exact aD.rk ax a1 bf

theorem yD{r b:Nat}{B B':bQ}{l:Loc}(aw:mem r=some B)(bh:B.alive)(dj:O r=some l)(aA:l.block=some b)(ad:iP B B')(fs:w'.heap.size=w.heap.size)
  (cb:∀k,k≠b->w'.heap[k]? = w.heap[k]?) (I:w'.os=w.os) (G:w'.tape=w.tape) (ab:w'.output=w.output):Ext O mem w S O (cO [(r,B')] mem) w' S:=by
 refine⟨fun q aI=>?_,fun q ga ih I G=>?_,fun _ h=>h,Nat.le_of_eq fs.symm,fun k jn aq=>cb k fun e=>aq ⟨r,l,⟨B,aw,bh⟩,dj,by rw[e];exact aA⟩,fun _ h=>.inl h,fun k jn=>?_,I,G,ab⟩
 ·by_cases e:q=r
  ·subst e;rw[fm];exact fun h=>nomatch h
  ·rw[eg e];exact aI
 ·by_cases e:q=r
  ·subst e;rw[fm]at G;cases G;rw[aw]at I;cases I;exact⟨ad,fun _=>rfl⟩
  ·rw[eg e,I]at G;cases G;exact⟨iP.refl _,fun _=>rfl⟩
 ·obtain⟨q,l',I,G,ab⟩:=jn
  by_cases e:q=r
  ·subst e;exact .inl ⟨q,l',⟨B,aw,bh⟩,G,ab⟩
  ·exact .inl ⟨q,l',(lx e).1 I,G,ab⟩

theorem yE{r b:Nat}{B B':bQ}{l:Loc}(aw:mem r=some B)(bh:B.alive)(dj:O r=some l)(aA:l.block=some b)(fs:w'.heap.size=w.heap.size)
  (cb:∀k,k≠b->w'.heap[k]? = w.heap[k]?) (a5:Ext O mem w S O (cO [(r,B')] mem) w' S) (aD:Inv tab O mem w S) (dN:pc tab O (cO [(r,B')] mem) w' S B' l) :
  Inv tab O (cO [(r,B')] mem) w' S:=by
 have ax:∀q,Live (cO [(r,B')] mem) q->Live mem q:=fun q h=>by
  by_cases e:q=r
  ·subst e;exact⟨B,aw,bh⟩
  ·exact(lx e).1 h
 refine⟨fun q ga pG zA=>?_,fun q fZ l1 I G dV gT k aO aX ad jn=>aD.inj q fZ l1 (ax q I) (ax fZ G) dV gT k aO aX ad jn,
  fun q I dV k aO ad dw=>aD.sep q (ax q I) dV k aO ad dw,fun k ad=>by rw[fs];exact aD.lt k ad,aD.w9 a5⟩
 by_cases e:q=r
 ·subst e;rw[fm]at pG;cases pG;exact⟨l,dj,dN⟩
 ·rw[eg e]at pG;obtain⟨l',aO,aX⟩:=aD.rel q ga pG zA;exact⟨l',aO,aX.ext a5 aD fun k ad=>cb k fun hv=>aD.inj q r e ⟨ga,pG,zA⟩ ⟨B,aw,bh⟩ l' l k aO dj ad (by rw[hv];exact aA)⟩

theorem DI{r fo:Nat}{B B':bQ}{l l':Loc}(aw:mem r=some B)(bh:B.alive)(g0:mem fo=none)(dj:O r=some l)(ax:l'.block=l.block)
  (fs:w'.heap.size=w.heap.size) (cb:∀k,l.block≠some k->w'.heap[k]? = w.heap[k]?) (I:w'.os=w.os) (G:w'.tape=w.tape) (ab:w'.output=w.output) (aD:Inv tab O mem w S) :
  Ext O mem w S (l6 fo l' O) (cO [(r,.dead),(fo,B')] mem) w' S /\
  (pc tab (l6 fo l' O) (cO [(r,.dead),(fo,B')] mem) w' S B' l'->Inv tab (l6 fo l' O) (cO [(r,.dead),(fo,B')] mem) w' S):=by
 have dz:fo≠r:=fun e=>by subst e;rw[aw]at g0;cases g0
 have e8:cO [(r,.dead),(fo,B')] mem r=some .dead:=by rw[fx,fm]
 have gU:cO [(r,.dead),(fo,B')] mem fo=some B':=by rw[fx,eg dz,fm]
 have hm:∀q,q≠r->q≠fo->cO [(r,.dead),(fo,B')] mem q=mem q:=fun q h er=>by rw[fx,eg h,eg er]
 have oX:¬Live (cO [(r,.dead),(fo,B')] mem) r:=fun⟨B,h,bh⟩=>by rw[e8]at h;cases h;exact bh
 have lo:∀q,q≠fo->Live (cO [(r,.dead),(fo,B')] mem) q->q≠r/\Live mem q:=fun q h er=>by
  have aI:q≠r:=fun e=>by subst e;exact oX er
  exact⟨aI,by obtain⟨b5,iF,aak⟩:=er;rw[hm q aI h]at iF;exact⟨b5,iF,aak⟩⟩
 have a5:Ext O mem w S (l6 fo l' O) (cO [(r,.dead),(fo,B')] mem) w' S:=by
  refine⟨fun q aI=>?_,fun q ga ih I G=>?_,fun _ h=>h,Nat.le_of_eq fs.symm,fun k jn aq=>cb k fun e=>aq ⟨r,l,⟨B,aw,bh⟩,dj,e⟩,fun _ h=>.inl h,fun k jn=>?_,I,G,ab⟩
  ·by_cases e:q=r
   ·subst e;rw[e8];exact fun h=>nomatch h
   ·by_cases b8:q=fo
    ·subst b8;exact absurd g0 aI
    ·rw[hm q e b8];exact aI
  ·by_cases e:q=r
   ·subst e;rw[e8]at G;cases G;exact⟨by cases ga<;>trivial,fun h=>absurd h oX⟩
   ·by_cases b8:q=fo
    ·subst b8;rw[g0]at I;cases I
    ·rw[hm q e b8,I]at G;cases G;exact⟨iP.refl _,fun _=>j5 b8⟩
  ·obtain⟨q,dV,a1,bf,cj⟩:=jn
   by_cases b8:q=fo
   ·subst b8;rw[hn]at bf;cases bf;exact .inl ⟨r,l,⟨B,aw,bh⟩,dj,ax▸cj⟩
   ·rw[j5 b8]at bf;exact .inl ⟨q,dV,(lo q b8 a1).2,bf,cj⟩
 refine⟨a5,fun dN=>⟨fun q ga pG zA=>?_,fun q fZ l1 a1 bf dV gT k aO aX ad jn=>?_,fun q a1 dV k aO ad dw=>?_,fun k ad=>by rw[fs];exact aD.lt k ad,aD.w9 a5⟩⟩
 ·by_cases b8:q=fo
  ·subst b8;rw[gU]at pG;cases pG;exact⟨l',hn,dN⟩
  ·obtain⟨aI,rO⟩:=lo q b8 ⟨ga,pG,zA⟩;rw[hm q aI b8]at pG;obtain⟨dV,aO,aX⟩:=aD.rel q ga pG zA;exact⟨dV,(j5 b8).trans aO,aX.ext a5 aD fun k ad=>cb k fun hv=>aD.inj q r aI rO ⟨B,aw,bh⟩ dV l k aO dj ad hv⟩
 ·by_cases b8:q=fo
  ·subst b8;rw[hn]at aO;cases aO;have nT:fZ≠q:=fun h=>l1 h.symm
   rw[j5 nT]at aX;obtain⟨aI,rO⟩:=lo fZ nT bf;exact aD.inj r fZ (Ne.symm aI) ⟨B,aw,bh⟩ rO l gT k dj aX (ax▸ad) jn
  ·rw[j5 b8]at aO;obtain⟨aI,rO⟩:=lo q b8 a1
   by_cases HL:fZ=fo
   ·subst HL;rw[hn]at aX;cases aX;exact aD.inj q r aI rO ⟨B,aw,bh⟩ dV l k aO dj ad (ax▸jn)
   ·rw[j5 HL]at aX;exact aD.inj q fZ l1 rO (lo fZ HL bf).2 dV gT k aO aX ad jn
 ·by_cases b8:q=fo
  ·subst b8;rw[hn]at aO;cases aO;exact aD.sep r ⟨B,aw,bh⟩ l k dj (ax▸ad) dw
  ·rw[j5 b8]at aO;exact aD.sep q (lo q b8 a1).2 dV k aO ad dw
end
end bE
end Go.Proofs.YtlbppjmekiemiaaGreatDoor


/- The executor on data: operations, one by one (first part). No condition. -/
namespace Go.Proofs.YtlbppjmekiemiaaGreatDoor
namespace bE
section
variable {P:Program} {tab:ci} {O bU:dk} {mem fl:dS} {w w':World} {S S':Nat->Prop}

theorem Xy:∀{cs:List C} {xs:List Value},ri cs xs->xs.length=cs.length/\∀(i:Nat) c,cs[i]? = some c->∃y,xs[i]? = some y/\y.oneCell'=true/\fv tab O mem w S c y:=by
 intro cs
 induction cs with
 |nil=>intro xs h;cases xs with
  |nil=>exact⟨rfl,fun i c h=>by simp at h⟩
  |cons x xs=>exact h.elim
 |cons c cs dd =>
  intro xs h;cases xs with
  |nil=>cases c<;>(try exact h.elim) ; rename_i t d;cases t<;>exact h.elim
  |cons x xs =>
   have key:∃er:ri cs xs,x.oneCell'=true/\fv tab O mem w S c x:=by
    cases c with
    |E t d =>
     cases t with
     |int=>obtain⟨I,rfl,ab⟩:=h;dsimp only[z.den]at d;subst I;exact⟨ab,rfl,.int 0⟩
     |bool=>obtain⟨I,rfl,ab⟩:=h;dsimp only[z.den]at d;subst I;exact⟨ab,rfl,.bool false⟩
     |str=>obtain⟨I,rfl,ab⟩:=h;dsimp only[z.den]at d;subst I;exact⟨ab,rfl,.str []⟩
     |_=>exact h.elim
    |nil t=>obtain⟨rfl,ab⟩:=h;exact⟨ab,rfl,rfl⟩
    |undef=>obtain⟨I,ab⟩:=h;exact⟨ab,I,trivial⟩
    |_=>exact h.elim
   obtain⟨er,I,G⟩:=key;obtain⟨e,aw⟩:=dd er;refine⟨by simp[e],fun i fK hi=>?_⟩;cases i with
   |zero=>simp at hi;subst hi;exact⟨x,by simp,I,G⟩
   |succ i=>simp at hi;simpa using aw i fK hi

theorem AK{v:V}{x:Value}{cs:List C}(h:ch tab O mem w S v x)(az:v.cells=some cs) :
  x.cells.size=cs.length/\∀(i:Nat) c,cs[i]? = some c->∃y,x.cells[i]? = some y/\y.oneCell'=true/\fv tab O mem w S c y:=by
 cases v with
 |an vs=>cases az
 |agg eK =>
  cases az;obtain⟨xs,rfl,I,G⟩:=h;exact⟨I,G⟩
 |one c =>
  have cb:cs=[c]/\jX tab O mem w S (.one c) x:=by
   cases c<;>first|(cases az;done)|(cases az;exact⟨rfl,h⟩)
  obtain⟨rfl,I,G⟩:=cb;have aG:x.cells=#[x]:=by cases x<;>first|rfl|cases I
  rw[aG];refine⟨rfl,fun i fK hi=>?_⟩;cases i with
  |zero=>simp at hi;subst hi;exact⟨x,rfl,I,G⟩
  |succ i=>simp at hi

theorem TA{o:Oper}{a:Act}{x:Operand}{v:V}(aY:o.op=.move x\/o.op=.assign x)(aD:Inv tab O mem w S)(aQ:ch tab O mem w S v (a.eval x)) :
  dU P o a w (ec tab O mem w S [] v):=by
 refine gV (x:=a.eval x) (w':=w) ?_ (gy aD aQ);rcases aY with aY|aY<;>simp[execOp,aY]

theorem TB{o:Oper}{a:Act}{c x y:Operand}{b:Bool}{u v:V}(aY:o.op=.pick c x y)(aD:Inv tab O mem w S)(az:ch tab O mem w S (.one (.E .bool b)) (a.eval c))
  (hu:ch tab O mem w S u (a.eval x)) (aQ:ch tab O mem w S v (a.eval y)) :
  dU P o a w (ec tab O mem w S [] (match b with|true=>u|false=>v)):=by
 have aA:=r8 az;cases b with
 |true=>exact gV (x:=a.eval x) (w':=w) (by simp[execOp,aY,aA,asBool]) (gy aD hu)
 |false=>exact gV (x:=a.eval y) (w':=w) (by simp[execOp,aY,aA,asBool]) (gy aD aQ)

theorem adK{o:Oper}{a:Act}{T base:Nat}{aK:c7}(bH:fp P tab)(aY:o.op=.alloc T)(bl:dO tab T=some aK)(aD:Inv tab O mem w S)(aA:mem base=none) :
  dU P o a w (ec tab O mem w S [(base,.box aK.zero)] (.one (.ptr base 0))):=by
 obtain⟨i,bg,I,G,ab,aV,_⟩:=(bH.ok T aK bl).info;have ax:(Loc.gz w.heap.size).block=some w.heap.size\/(Loc.gz w.heap.size).block=none:=.inl rfl;have a5:=ql (O:=O) (S:=S) (w:=w) (o:=.cells bg.cells T) (B:=.box aK.zero) aA ax;obtain⟨aO,aX⟩:=Xy (tab:=tab) (O:=l6 base (.gz w.heap.size) O) (mem:=cO [(base,.box aK.zero)] mem) (w:=w.alloc (.cells bg.cells T)) (S:=S) aV;refine gV (x:=.pointer (some (b6 w.heap.size 0))) (w':=w.alloc (.cells bg.cells T)) ?_ ⟨_,S,a5,rj aA ax aD ⟨bg.cells,T,heap_alloc_new w _,by simpa using aO,fun i c hi=>?_⟩,?_⟩
 ·simp[execOp,aY,Instr.alloc,LM I ab,newVar,newRow,b6]
 ·obtain⟨y,a1,bf,cj⟩:=aX i c hi;exact⟨y,by simpa using a1,bf,cj⟩
 ·refine⟨rfl,?_,fun cs _=>⟨w.heap.size,hn,rfl⟩⟩;rw[fm];exact fun h=>nomatch h

theorem adR{o:Oper}{a:Act}{T base:Nat}{x:Operand}{v:V}{cs:List C}(aY:o.op=.box T x)(aQ:ch tab O mem w S v (a.eval x))(az:v.cells=some cs)(aD:Inv tab O mem w S)(aA:mem base=none) :
  dU P o a w (ec tab O mem w S [(base,.box cs)] (.one (.ptr base 0))):=by
 obtain⟨aO,aX⟩:=AK aQ az;have ax:(Loc.gz w.heap.size).block=some w.heap.size\/(Loc.gz w.heap.size).block=none:=.inl rfl;have a5:=ql (O:=O) (S:=S) (w:=w) (o:=.cells (a.eval x).cells T) (B:=.box cs) aA ax;refine gV (x:=.pointer (some (b6 w.heap.size 0))) (w':=w.alloc (.cells (a.eval x).cells T)) ?_ ⟨_,S,a5,rj aA ax aD ⟨(a.eval x).cells,T,heap_alloc_new w _,aO,fun i c hi=>?_⟩,?_⟩
 ·simp[execOp,aY,Instr.box,newVar,newRow,b6]
 ·obtain⟨y,a1,bf,cj⟩:=aX i c hi;exact⟨y,a1,bf,cj.ext a5 aD⟩
 ·refine⟨rfl,?_,fun cs _=>⟨w.heap.size,hn,rfl⟩⟩;rw[fm];exact fun h=>nomatch h

theorem run_loadCells(b off n:Nat)(f:Nat->Value)(h:∀j,j<n->w.cell? (b6 b (off+j))=some (f j)) :
  (loadCells (b6 b off) n).run P w=.ok ((List.range n).map f).toArray w:=by
 have:=run_loadCells_list (P:=P) w (b6 b off) ((List.range n).map f) (fun j v aR=>by
  rw[b6,Addr.add_lit];simp only[List.getElem?_map]at aR
  by_cases zN:j<n
  ·simp[List.getElem?_range zN]at aR;rw[<- aR];exact h j zN
  ·simp[List.getElem?_eq_none (l:=List.range n) (i:=j) (by simpa using zN)]at aR)
 simpa using this

theorem VE{T:Nat}{aK:c7}(bH:fp P tab)(bl:dO tab T=some aK)(b off:Nat)(f:Nat->Value)(cs:List C)(aq:cs.length=aK.n)
  (h:∀(j:Nat) c,cs[j]? = some c->w.cell? (b6 b (off+j))=some (f j)/\(f j).oneCell'=true/\fv tab O mem w S c (f j)) (v:V) (aQ:w2 aK.agg cs=some v) :
  ∃x,(loadVar T (b6 b off)).run P w=.ok x w/\ch tab O mem w S v x:=by
 have wI:=(bH.ok T aK bl).isAgg w;obtain⟨i,bg,I,G,ab,aV,_⟩:=(bH.ok T aK bl).info;have ax:=run_loadCells (P:=P) (w:=w) b off aK.n f (fun j aR=>by
  obtain⟨c,az⟩:∃c,cs[j]? = some c:=⟨_,List.getElem?_eq_getElem (aq▸aR)⟩
  exact(h j c az).1)
 cases bs:aK.agg with
 |true =>
  rw[bs]at aQ wI;cases aQ;refine⟨.agg ((List.range aK.n).map f).toArray,?_,((List.range aK.n).map f).toArray,rfl,by simp[aq],fun j c aR=>?_⟩
  ·simp[loadVar,wI,run_sizeOf I,G,ax]
  ·have zN:j<aK.n:=by rw[<- aq];exact(List.getElem?_eq_some_iff.1 aR).1
   refine⟨f j,by simp[zN],(h j c aR).2.1,(h j c aR).2.2⟩
 |false =>
  rw[bs]at aQ wI
  match cs,aQ with
  |[c],aQ =>
   cases aQ;have a6:=h 0 c rfl;refine⟨f 0,?_,?_⟩
   ·simp only[loadVar,Sem.run_bind,wI,Result.andThen_ok];simp;rw[show off=off+0 from rfl,a6.1]
   ·cases c<;>first|trivial|exact⟨a6.2.1,a6.2.2⟩
end
end bE
end Go.Proofs.YtlbppjmekiemiaaGreatDoor


/- The executor on data: operations, one by one (second part: loads and stores). No condition. -/
namespace Go.Proofs.YtlbppjmekiemiaaGreatDoor
namespace bE
section
variable {P:Program} {tab:ci} {O bU:dk} {mem fl:dS} {w w':World} {S S':Nat->Prop}

theorem yo{α:Type}(l:List α)(o n j:Nat)(c:α)(h:(a2 l o (o+n))[j]? = some c):j<n/\l[o+j]? = some c:=by
 unfold a2 at h;simp only[List.getElem?_drop,List.getElem?_take]at h;split at h
 ·exact⟨by omega,h⟩
 ·cases h

theorem o5{α:Type}(l:List α)(o n:Nat)(h:o+n<=l.length):(a2 l o (o+n)).length=n:=by
 unfold a2;simp;omega

theorem iT(t:z)(d:t.den):(t.cells d).length=t.width:=by
 cases t<;>rfl

theorem Ec{lm:Mem}{r:Nat}{cs:List C}(av:gi lm mem)(h:look lm r=some (.box cs)):mem r=some (.box cs):=av r _ h trivial
theorem vq{lm:Mem}{r:Nat}{t:z}{l:List t.den}(av:gi lm mem)(h:look lm r=some (.arr t l)):mem r=some (.arr t l):=av r _ h trivial

theorem AQ{lm:Mem}{r o:Nat}{cs:List C}{x:Value}(av:gi lm mem)(aD:Inv tab O mem w S)(h:look lm r=some (.box cs))(aG:ch tab O mem w S (.one (.ptr r o)) x) :
  ∃b vs e,x=.pointer (some (b6 b o))/\O r=some (.gz b)/\w.heap[b]? = some (.cells vs e (0,0))/\vs.size=cs.length /\
   ∀(i:Nat) c,cs[i]? = some c->∃y,vs[i]? = some y/\y.oneCell'=true/\fv tab O mem w S c y:=by
 have aB:=Ec av h;obtain⟨_,_,ag⟩:=aG;obtain⟨b,aO,rfl⟩:=ag cs aB;obtain⟨l,aX,dN⟩:=aD.rel r _ aB trivial;rw[aO]at aX;cases aX;obtain⟨vs,e,I,G,ab⟩:=dN;exact⟨b,vs,e,rfl,aO,I,G,ab⟩

theorem LQ{lm:Mem}{r i k:Nat}{t:z}{l:List t.den}{x:Value}(av:gi lm mem)(aD:Inv tab O mem w S)(h:look lm r=some (.arr t l))(aG:ch tab O mem w S (.one (.j6 r i k)) x) :
  ∃b cap cur e,x=.pointer (some (b6 b (i*t.width+k)))/\O r=some (.eu (.slice (some (b6 b 0)) l.length cap))/\w.heap[b]? = some (.cells cur e (0,0))/\l.length<=cap/\cap<=maxLen /\
   cap*t.width<=cur.size/\∀i j c,i<l.length->(t.cells (nth l i t.H))[j]? = some c->∃y,cur[i*t.width+j]? = some y/\y.oneCell'=true/\dC tab w S c y:=by
 have aB:=vq av h;obtain⟨_,_,ag⟩:=aG;obtain⟨b,m,cap,aO,rfl⟩:=ag t l aB;obtain⟨l',aX,dN⟩:=aD.rel r _ aB trivial;rw[aO]at aX;cases aX;rcases dN with⟨I,_⟩|⟨fq,we,cur,e,I,G,ab,aV,br,bV⟩
 ·cases I
 ·cases I;exact⟨b,cap,cur,e,rfl,aO,G,ab,aV,br,bV⟩

theorem VU{lm:Mem}{r:Nat}{t:z}{l:List t.den}{cs:List C}(av:gi lm mem)(h:look lm r=some (.ew t l cs)):mem r=some (.ew t l cs):=av r _ h trivial

def Bv(tab:ci)(O:dk)(mem:dS)(w:World)(S:Nat->Prop)(t:z)(l:List t.den)(cs:List C)(b cap:Nat)(cur:Array Value)(e:TypeId):Prop :=
 w.heap[b]? = some (.cells cur e (0,0))/\l.length+1<=cap/\cap<=maxLen/\cap*t.width<=cur.size /\
  (∀i j c,i<l.length->(t.cells (nth l i t.H))[j]? = some c->∃y,cur[i*t.width+j]? = some y/\y.oneCell'=true/\dC tab w S c y) /\
  ∀j c,cs[j]? = some c->j<t.width/\∃y,cur[l.length*t.width+j]? = some y/\y.oneCell'=true/\fv tab O mem w S c y

theorem NZ{lm:Mem}{r:Nat}{t:z}{l:List t.den}{cs:List C}(av:gi lm mem)(aD:Inv tab O mem w S)(h:look lm r=some (.ew t l cs)) :
  mem r=some (.ew t l cs)/\∃b cap cur e,O r=some (.eu (.slice (some (b6 b 0)) (l.length+1) cap))/\Bv tab O mem w S t l cs b cap cur e:=by
 have aB:=VU av h;obtain⟨l',aX,dN⟩:=aD.rel r _ aB trivial;cases l' with
 |gz b=>exact dN.elim
 |eu x =>
  obtain⟨b,cap,cur,e,rfl,G⟩:=dN;exact⟨aB,b,cap,cur,e,aX,G⟩

theorem BH{lm:Mem}{r k:Nat}{t:z}{l:List t.den}{cs:List C}{x:Value}(av:gi lm mem)(aD:Inv tab O mem w S)(h:look lm r=some (.ew t l cs))(aG:ch tab O mem w S (.one (.kL r k)) x) :
  ∃b cap cur e,x=.pointer (some (b6 b (l.length*t.width+k)))/\O r=some (.eu (.slice (some (b6 b 0)) (l.length+1) cap))/\Bv tab O mem w S t l cs b cap cur e:=by
 obtain⟨aB,b,cap,cur,e,aO,G⟩:=NZ av aD h;obtain⟨_,_,ag⟩:=aG;obtain⟨fq,m,we,cY,rfl⟩:=ag t l cs aB;rw[aO]at cY;cases cY;exact⟨b,cap,cur,e,rfl,aO,G⟩

theorem yU{lm:Mem}{r:Nat}{t:z}{l:List t.den}{cs:List C}{x:Value}(av:gi lm mem)(aD:Inv tab O mem w S)(h:look lm r=some (.ew t l cs))(aG:ch tab O mem w S (.one (.ia r)) x) :
  mem r=some (.ew t l cs)/\∃b cap cur e,x=.slice (some (b6 b 0)) (l.length+1) cap/\O r=some (.eu x)/\Bv tab O mem w S t l cs b cap cur e:=by
 obtain⟨aB,b,cap,cur,e,aO,G⟩:=NZ av aD h;obtain⟨_,_,ag⟩:=aG;have cY:=ag t l cs aB;rw[aO]at cY;cases cY;exact⟨aB,b,cap,cur,e,rfl,aO,G⟩

theorem cell?_at {b o:Nat} {vs:Array Value} {e:TypeId} {sM:Nat×Nat} {y:Value} (h:w.heap[b]? = some (.cells vs e sM)) (ct:vs[o]? = some y):w.cell? (b6 b o)=some y:=by
 simp[World.cell?,b6,h,ct]

theorem dC.Au{c:C}{x:Value}(h:dC tab w S c x):x.oneCell'=true:=by cases h<;>rfl

theorem dC.AJ{c:C}{x:Value}(h:dC tab w S c x):fv tab O mem w S c x:=by
 have er:=h;cases h<;>exact er

theorem aea{o:Oper}{a:Act}{T:Nat}{aK:c7}{x:Operand}{c:C}{lm:Mem}{p:Option Prop}{v:V}{m:Mem}(bH:fp P tab)(aY:o.op=.load T x)(bl:dO tab T=some aK)
  (aD:Inv tab O mem w S) (av:gi lm mem) (aG:ch tab O mem w S (.one c) (a.eval x)) (h:te aK c lm=some (p,v,m)) (ag:under p True) :
  dU P o a w (ec tab O mem w S m v):=by
 have fin:∀(b off:Nat) (f:Nat->Value) (cs:List C),a.eval x=.pointer (some (b6 b off))->cs.length=aK.n->(∀(j:Nat) c,cs[j]? = some c->w.cell? (b6 b (off+j))=some (f j)/\(f j).oneCell'=true/\fv tab O mem w S c (f j)) ->
   w2 aK.agg cs=some v->m=[]->dU P o a w (ec tab O mem w S m v):=fun b off f cs aO aX cY lQ nJ=>by
  obtain⟨y,ct,dN⟩:=VE bH bl b off f cs aX cY v lQ;subst nJ;exact gV (x:=y) (w':=w) (by simp[execOp,aY,Instr.loadAt,Instr.sureAddr,aO,ct]) (gy aD dN)
 cases c with
 |ptr r off =>
  simp only[te]at h;split at h<;>try cases h
  rename_i cs ax;split at h<;>try cases h
  rename_i eT aQ;split at h<;>try cases h
  rename_i hle;have lY:=Nat.le_of_ble_eq_true hle;obtain⟨b,vs,e,aO,aX,cY,lQ,nJ⟩:=AQ av aD ax aG;refine fin b off (fun j=>(vs[off+j]?).getD undef) (a2 cs off (off+aK.n)) aO (o5 _ _ _ lY) (fun j c aR=>?_) aQ rfl;obtain⟨I,G⟩:=yo cs off aK.n j c aR;obtain⟨y,a1,bf,cj⟩:=nJ _ c G;simp only[a1,Option.getD_some];exact⟨cell?_at cY a1,bf,cj⟩
 |lS t l i k =>
  simp only[te]at h;split at h<;>try cases h
  rename_i hle;split at h<;>try cases h
  rename_i eT aQ;have lY:=Nat.le_of_ble_eq_true hle;obtain⟨_,b,off,⟨dw,f,a1,bf⟩,aX⟩:=aG;refine fin b (off+k) (fun j=>f (k+j)) (a2 (t.cells (nth l i t.H)) k (k+aK.n)) aX (o5 _ _ _ (by rw[iT];exact lY)) (fun j c aR=>?_) aQ rfl;obtain⟨I,G⟩:=yo _ k aK.n j c aR;have cb:=a1 (k+j) (by omega);have aw:=bf (k+j) c G;exact⟨by rw[Nat.add_assoc];exact cb,aw.Au,aw.AJ⟩
 |j6 r i k =>
  simp only[te]at h;split at h<;>try cases h
  rename_i t l ax;split at h<;>try cases h
  rename_i hle;split at h<;>try cases h
  rename_i eT aQ;have lY:=Nat.le_of_ble_eq_true hle;obtain⟨b,cap,cur,e,aO,aX,cY,lQ,nJ,zi,sC⟩:=LQ av aD ax aG;have hi:i<l.length:=ag.1;refine fin b (i*t.width+k) (fun j=>(cur[i*t.width+(k+j)]?).getD undef) (a2 (t.cells (nth l i t.H)) k (k+aK.n)) aO (o5 _ _ _ (by rw[iT];exact lY)) (fun j c aR=>?_) aQ rfl;obtain⟨I,G⟩:=yo _ k aK.n j c aR;obtain⟨y,a1,bf,cj⟩:=sC i (k+j) c hi G;simp only[a1,Option.getD_some];exact⟨by rw[Nat.add_assoc];exact cell?_at cY a1,bf,cj.AJ⟩
 |kL r k =>
  simp only[te]at h;split at h<;>try cases h
  rename_i t l cs ax;split at h<;>try cases h
  rename_i eT aQ;split at h<;>try cases h
  rename_i hle;have lY:=Nat.le_of_ble_eq_true hle;obtain⟨b,cap,cur,e,aO,aX,cY,_,_,_,_,sC⟩:=BH av aD ax aG;refine fin b (l.length*t.width+k) (fun j=>(cur[l.length*t.width+(k+j)]?).getD undef) (a2 cs k (k+aK.n)) aO (o5 _ _ _ lY) (fun j c aR=>?_) aQ rfl;obtain⟨I,G⟩:=yo _ k aK.n j c aR;obtain⟨_,y,a1,bf,cj⟩:=sC (k+j) c G;simp only[a1,Option.getD_some];exact⟨by rw[Nat.add_assoc];exact cell?_at cY a1,bf,cj⟩
 |_=>cases h
end
end bE
end Go.Proofs.YtlbppjmekiemiaaGreatDoor


/- The executor on data: what is frozen; stores. No condition. -/
namespace Go.Proofs.YtlbppjmekiemiaaGreatDoor
namespace bE
section
variable {P:Program} {tab:ci} {O bU:dk} {mem fl:dS} {w w':World} {S S':Nat->Prop}

theorem u2:∀(ns:List Nat) (r:Nat),g6 ns r=true↔r∈ns
 |[],r=>by simp[g6]
 |q::ns,r=>by
  simp only[g6,List.mem_cons]
  by_cases e:r=q
  ·subst e;simp[Nat.beq_refl]
  ·rw[hr e];simp[e,u2 ns r]

theorem Ai{ns:List Nat}{r:Nat}(h:g6 ns r=false):r∉ns:=fun aw=>by
 rw[(u2 ns r).2 aw]at h;cases h

def fX(O:dk)(mem:dS)(S:Nat->Prop)(ns:List Nat):Nat->Prop:=fun b=>S b\/∃r∈ns,Live mem r/\∃l,O r=some l/\l.block=some b

theorem RW(ns:List Nat)(q:Nat):(q∈ns/\look (gP ns) q=some .dead)\/(q∉ns/\look (gP ns) q=none):=by
 induction ns with
 |nil=>exact .inr ⟨by simp,rfl⟩
 |cons r ns dd =>
  simp only[gP,List.map_cons,look]
  by_cases e:q=r
  ·subst e;exact .inl ⟨by simp,by simp[Nat.beq_refl]⟩
  ·rw[hr e];rcases dd with⟨I,G⟩|⟨I,G⟩
   ·exact .inl ⟨by simp[I],G⟩
   ·exact .inr ⟨by simp[I,e],G⟩

theorem n0(ns:List Nat)(q:Nat):(q∈ns/\cO (gP ns) mem q=some .dead)\/(q∉ns/\cO (gP ns) mem q=mem q):=by
 rcases RW ns q with⟨I,G⟩|⟨I,G⟩
 ·exact .inl ⟨I,by simp[cO,G]⟩
 ·exact .inr ⟨I,by simp[cO,G]⟩

theorem qT{ns:List Nat}(aD:Inv tab O mem w S) :
  Ext O mem w S O (cO (gP ns) mem) w (fX O mem S ns)/\Inv tab O (cO (gP ns) mem) w (fX O mem S ns):=by
 have oX:∀r∈ns,¬Live (cO (gP ns) mem) r:=fun r aw ⟨B,h,bh⟩=>by
  rcases n0 (mem:=mem) ns r with⟨_,G⟩|⟨I,_⟩
  ·rw[G]at h;cases h;exact bh
  ·exact I aw
 have ne:∀r,r∉ns->cO (gP ns) mem r=mem r:=fun r aw=>by
  rcases n0 (mem:=mem) ns r with⟨I,_⟩|⟨_,G⟩
  ·exact absurd I aw
  ·exact G
 have lo:∀q,Live (cO (gP ns) mem) q->q∉ns/\Live mem q:=fun q h=>by
  have aI:q∉ns:=fun e=>oX q e h
  exact⟨aI,by obtain⟨B,I,G⟩:=h;rw[ne q aI]at I;exact⟨B,I,G⟩⟩
 have a5:Ext O mem w S O (cO (gP ns) mem) w (fX O mem S ns):=by
  refine⟨fun q aI=>?_,fun q ga ih I G=>?_,fun _ h=>.inl h,Nat.le_refl _,fun _ _ _=>rfl,fun b h=>?_,fun b aA=>?_,rfl,rfl,rfl⟩
  ·rcases n0 (mem:=mem) ns q with⟨_,G⟩|⟨_,G⟩
   ·rw[G];exact fun h=>nomatch h
   ·rw[G];exact aI
  ·rcases n0 (mem:=mem) ns q with⟨aI,ab⟩|⟨_,ab⟩
   ·rw[ab]at G;cases G;exact⟨by cases ga<;>trivial,fun h=>absurd h (oX q aI)⟩
   ·rw[ab,I]at G;cases G;exact⟨iP.refl _,fun _=>rfl⟩
  ·rcases h with h|⟨r,_,ax,l,I,G⟩
   ·exact .inl h
   ·exact .inr (.inr ⟨r,l,ax,I,G⟩)
  ·obtain⟨q,l',I,G,ab⟩:=aA;exact .inl ⟨q,l',(lo q I).2,G,ab⟩
 refine⟨a5,fun q B' fE bh=>?_,fun q fZ l1 I G dV gT b aO aX aA gA=>aD.inj q fZ l1 (lo q I).2 (lo fZ G).2 dV gT b aO aX aA gA,fun q I dV b aO aA dw=>?_,fun b aA=>?_,aD.pow.mono a5.sub⟩
 ·have aI:=(lo q ⟨B',fE,bh⟩).1;rw[ne q aI]at fE;obtain⟨l',aO,aX⟩:=aD.rel q B' fE bh;exact⟨l',aO,aX.ext a5 aD fun _ _=>rfl⟩
 ·obtain⟨aI,rO⟩:=lo q I;rcases dw with dw|⟨r,m8,ax,l,a1,bf⟩
  ·exact aD.sep q rO dV b aO aA dw
  ·exact aD.inj q r (fun e=>aI (e▸m8)) rO ax dV l b aO a1 aA bf
 ·rcases aA with aA|⟨r,_,ax,l,a1,bf⟩
  ·exact aD.lt b aA
  ·exact aD.rk ax a1 bf

theorem acZ{α:Type}(l:List α)(i:Nat)(d:α)(h:i<l.length):nth l i d=l[i]:=by
 simp[nth,List.getD,h]

theorem LI{b base cap:Nat}{cur:Array Value}{e:TypeId}{sM:Nat×Nat}{t:z}{l:List t.den}(dw:S b)(aA:w.heap[b]? = some (.cells cur e sM))(hcap:l.length<=cap)
  (h:∀i j c,i<l.length->(t.cells (nth l i t.H))[j]? = some c->∃y,cur[base+i*t.width+j]? = some y/\dC tab w S c y) :
  dC tab w S (.E (.list t) l) (.slice (some (b6 b base)) l.length cap):=by
 refine .list t l b base cap (fun i j=>(cur[base+i*t.width+j]?).getD undef) dw hcap (fun i j hi aR=>?_) (fun i j c hi aR=>?_)
 ·have CZ:j<(t.cells (nth l i t.H)).length:=by rw[iT];exact aR
  obtain⟨y,I,_⟩:=h i j _ hi (List.getElem?_eq_getElem CZ);simp only[I,Option.getD_some];exact cell?_at aA I
 ·obtain⟨y,I,G⟩:=h i j c hi aR;simp only[I,Option.getD_some];exact G

theorem r0{ns:List Nat}{c:C}{x:Value}(h:dC tab w S c x):dC tab w (fX O mem S ns) c x:=h.mono (fun _ h=>.inl h) (fun _ _=>rfl)

theorem Ql{ns ms:List Nat}{c:C}{x:Value}(h:dC tab w (fX O mem S ns) c x):dC tab w (fX O mem S (ns++ms)) c x :=
 h.mono (fun _ h=>h.imp id fun⟨r,aw,h⟩=>⟨r,by simp[aw],h⟩) (fun _ _=>rfl)
theorem Ie{ns ms:List Nat}{c:C}{x:Value}(h:dC tab w (fX O mem S ms) c x):dC tab w (fX O mem S (ns++ms)) c x :=
 h.mono (fun _ h=>h.imp id fun⟨r,aw,h⟩=>⟨r,by simp[aw],h⟩) (fun _ _=>rfl)

theorem ZE{r:Nat}{ms:List Nat}{c:C}{x:Value}(h:dC tab w (fX O mem S ms) c x):dC tab w (fX O mem S (r::ms)) c x:=Ie (ns:=[r]) h
theorem YV{lm:Mem}{c d:C}{ns:List Nat}{x:Value}(aD:Inv tab O mem w S)(av:gi lm mem)(aG:x.oneCell'=true/\fv tab O mem w S c x)(h:px lm c=some (d,ns)) :
  (∀r∈ns,mem r≠none)/\dC tab w (fX O mem S ns) d x:=by
 obtain⟨I,aG⟩:=aG;cases c with
 |E t k0 =>
  simp only[px]at h;cases h;exact⟨fun r aw=>by simp at aw,r0 aG⟩
 |nil t =>
  simp only[px]at h;cases h;subst aG;exact⟨fun r aw=>by simp at aw,.empty t none 0⟩
 |own r =>
  simp only[px]at h;split at h<;>try cases h
  rename_i t l ax;have aB:=vq av ax;refine⟨fun q aI=>by simp at aI;subst aI;exact aG.1,?_⟩;have dj:=aG.2 t l aB;obtain⟨l',aO,dN⟩:=aD.rel r _ aB trivial;rw[dj]at aO;cases aO;rcases dN with⟨rfl,rfl⟩|⟨b,cap,cur,e,rfl,aA,ab,aV,br,bV⟩
  ·exact .empty t none 0
  ·have dw:fX O mem S [r] b:=.inr ⟨r,by simp,⟨_,aB,trivial⟩,_,dj,rfl⟩;refine LI dw aA ab fun i j c hi aR=>?_
   obtain⟨y,a1,_,cj⟩:=bV i j c hi aR;exact⟨y,by simpa using a1,r0 cj⟩
 |_=>simp only[px]at h;cases h
theorem YX{lm:Mem}(aD:Inv tab O mem w S)(av:gi lm mem):∀{cs ds:List C} {ns:List Nat} (ys:Nat->Option Value),
  (∀(i:Nat) c,cs[i]? = some c->∃y,ys i=some y/\y.oneCell'=true/\fv tab O mem w S c y)->sx lm cs=some (ds,ns) ->
  (∀r∈ns,mem r≠none)/\∀(i:Nat) d,ds[i]? = some d->∃y,ys i=some y/\y.oneCell'=true/\dC tab w (fX O mem S ns) d y:=by
 intro cs
 induction cs with
 |nil =>
  intro ds ns ys _ h;simp only[sx]at h;cases h;exact⟨fun r aw=>by simp at aw,fun i d hi=>by simp at hi⟩
 |cons c cs dd =>
  intro ds ns ys ct h;simp only[sx]at h;split at h<;>try cases h
  rename_i d1 ho I;split at h<;>try cases h
  rename_i Cv ms G;obtain⟨y,aO,aX,cY⟩:=ct 0 c rfl;obtain⟨a1,bf⟩:=YV aD av ⟨aX,cY⟩ I;obtain⟨bK,dh⟩:=dd (fun i=>ys (i+1)) (fun i c hi=>ct (i+1) c hi) G;refine⟨fun r aw=>?_,fun i d hi=>?_⟩
  ·simp only[List.mem_append]at aw;exact aw.elim (a1 r) (bK r)
  ·cases i with
   |zero=>simp at hi;subst hi;exact⟨y,aO,aX,Ql bf⟩
   |succ i =>
    simp at hi;obtain⟨sn,f1,f2,f3⟩:=dh i d hi;exact⟨sn,f1,f2,Ie f3⟩
theorem Dx:∀{t:z} {cs:List C} {d:t.den},t.As cs=some d->t.cells d=cs:=by
 intro t cs d h;unfold z.As at h;split at h<;>(try cases h)<;>try rfl
 rename_i u ez k0 ;split at h<;>try cases h
 rename_i e;subst e;rfl
theorem acr{lm:Mem}{t:z}{cs:List C}{d:t.den}{ns:List Nat}(aD:Inv tab O mem w S)(av:gi lm mem)(ys:Nat->Option Value)
  (ct:∀(i:Nat) c,cs[i]? = some c->∃y,ys i=some y/\y.oneCell'=true/\fv tab O mem w S c y) (h:uY lm t cs=some (d,ns)) :
  (∀r∈ns,mem r≠none)/\∀(j:Nat) c,(t.cells d)[j]? = some c->∃y,ys j=some y/\y.oneCell'=true/\dC tab w (fX O mem S ns) c y:=by
 unfold uY at h;split at h<;>try cases h
 rename_i ds ms I;split at h<;>try cases h
 rename_i k0 G;obtain⟨bK,bX⟩:=YX aD av ys ct I;rw[Dx G];exact⟨bK,bX⟩
theorem N0{lm:Mem}{t:z}{l:List t.den}{cs:List C}{d:t.den}{ns:List Nat}{b cap:Nat}{cur:Array Value}{e:TypeId}(aD:Inv tab O mem w S)(av:gi lm mem)(kE:Bv tab O mem w S t l cs b cap cur e)(h:uY lm t cs=some (d,ns)) :
  (∀r∈ns,mem r≠none)/\∀i j c,i<(cat l [d]).length->(t.cells (nth (cat l [d]) i t.H))[j]? = some c->∃y,cur[i*t.width+j]? = some y/\y.oneCell'=true/\dC tab w (fX O mem S ns) c y:=by
 obtain⟨_,_,_,_,gf,gX⟩:=kE;obtain⟨bK,bX⟩:=acr aD av (fun j=>cur[l.length*t.width+j]?) (fun j c aR=>(gX j c aR).2) h;refine⟨bK,fun i j c hi aR=>?_⟩
 by_cases bA:i<l.length
 ·have aO:nth (cat l [d]) i t.H=nth l i t.H:=by simp[nth,cat,List.getD,List.getElem?_append_left bA]
  rw[aO]at aR;obtain⟨y,cC,cI,dA⟩:=gf i j c bA aR;exact⟨y,cC,cI,r0 dA⟩
 ·have dY:i=l.length:=by simp[cat]at hi;omega
  subst dY;have aO:nth (cat l [d]) l.length t.H=d:=by simp[nth,cat,List.getD]
  rw[aO]at aR;exact bX j c aR

theorem Et{lm:Mem}{c d:C}{ns:List Nat}{x:Value}(aD:Inv tab O mem w S)(av:gi lm mem)(aG:x.oneCell'=true/\fv tab O mem w S c x)(h:lE tab lm c=some (d,ns)) :
  (∀r∈ns,mem r≠none)/\dC tab w (fX O mem S ns) d x:=by
 obtain⟨I,aG⟩:=aG;cases c with
 |E t k0 =>
  simp only[lE]at h;cases h;exact⟨fun r aw=>by simp at aw,r0 aG⟩
 |nil t =>
  simp only[lE]at h;cases h;subst aG;exact⟨fun r aw=>by simp at aw,.empty t none 0⟩
 |own r =>
  simp only[lE]at h;split at h<;>try cases h
  rename_i t l ax;have aB:=vq av ax;refine⟨fun q aI=>by simp at aI;subst aI;exact aG.1,?_⟩;have dj:=aG.2 t l aB;obtain⟨l',aO,dN⟩:=aD.rel r _ aB trivial;rw[dj]at aO;cases aO;rcases dN with⟨rfl,rfl⟩|⟨b,cap,cur,e,rfl,aA,ab,aV,br,bV⟩
  ·exact .empty t none 0
  ·have dw:fX O mem S [r] b:=.inr ⟨r,by simp,⟨_,aB,trivial⟩,_,dj,rfl⟩;refine LI dw aA ab fun i j c hi aR=>?_
   obtain⟨y,a1,_,cj⟩:=bV i j c hi aR;exact⟨y,by simpa using a1,r0 cj⟩
 |ia r =>
  simp only[lE]at h;split at h<;>try cases h
  rename_i t l cs ax;split at h<;>try cases h
  rename_i k0 ms bO;obtain⟨aB,b,cap,cur,e,rfl,dj,kE⟩:=yU av aD ax ⟨I,aG⟩;obtain⟨bK,bX⟩:=N0 aD av kE bO;obtain⟨a1,bf,_⟩:=kE;refine⟨fun q aI=>?_,?_⟩
  ·rcases List.mem_cons.1 aI with rfl|aI
   ·exact aG.1
   ·exact bK q aI
  ·have dw:fX O mem S (r::ms) b:=.inr ⟨r,by simp,⟨_,aB,trivial⟩,_,dj,rfl⟩;have cY:l.length+1=(cat l [k0]).length:=by simp[cat]
   rw[cY]at bf |-;refine LI dw a1 bf fun i j c hi aR=>?_
   obtain⟨y,cC,_,dA⟩:=bX i j c hi aR;exact⟨y,by simpa using cC,ZE dA⟩
 |fn f il =>
  obtain⟨a6,vs,rfl,G,ab⟩:=aG;rcases il with _|⟨r,_|⟨hy,rest⟩⟩
  ·simp only[lE]at h;split at h<;>try cases h
   rename_i b1;have:=Nat.eq_of_beq_eq_true b1;subst this;have:vs=#[]:=Array.eq_empty_of_size_eq_zero (by simpa using G);subst this;exact⟨fun r aw=>by simp at aw,.CM⟩
  ·simp only[lE]at h;split at h<;>try cases h
   rename_i b1;have:=Nat.eq_of_beq_eq_true b1;subst this;split at h<;>try cases h
   rename_i n ax;have aB:=Ec av ax;obtain⟨mn,cC,cI,dA⟩:=ab 0 r rfl;obtain⟨b,aO,rfl⟩:=dA _ aB;have aX:=cC;obtain⟨l',cY,dN⟩:=aD.rel r _ aB trivial;rw[aO]at cY;cases cY;obtain⟨cur,e,a1,bf,cj⟩:=dN;obtain⟨y,bK,_,bX⟩:=cj 0 _ rfl;cases bX;have aQ:vs=#[.pointer (some (b6 b 0))]:=by
    apply Array.ext
    ·simpa using G
    ·intro i hi _;have:i=0:=by simp at G;omega
     subst this;simpa[hi]using aX
   subst aQ;exact⟨fun q aI=>by simp at aI;subst aI;rw[aB];exact(fun h=>by cases h),.CN n b cur e (0,0) (.inr ⟨r,by simp,⟨_,aB,trivial⟩,_,aO,rfl⟩) a1 bK⟩
  ·simp only[lE]at h;cases h
 |_=>simp only[lE]at h;cases h

theorem MF{lm:Mem}{c d:C}{ns:List Nat}(h:lE tab lm c=some (d,ns)):∃t e,d=.E t e:=by
 unfold lE at h;split at h<;>(try split at h)<;>(try split at h)<;>(try cases h)<;>exact⟨_,_,rfl⟩

theorem Eu{lm:Mem}(aD:Inv tab O mem w S)(av:gi lm mem):∀{cs ds:List C} {ns:List Nat} (ys:Nat->Option Value),
  (∀(i:Nat) c,cs[i]? = some c->∃y,ys i=some y/\y.oneCell'=true/\fv tab O mem w S c y)->q5 tab lm cs=some (ds,ns) ->
  (∀r∈ns,mem r≠none)/\ds.length=cs.length/\∀(i:Nat) d,ds[i]? = some d->∃y,ys i=some y/\y.oneCell'=true/\dC tab w (fX O mem S ns) d y:=by
 intro cs
 induction cs with
 |nil =>
  intro ds ns ys _ h;simp only[q5]at h;cases h;exact⟨fun r aw=>by simp at aw,rfl,fun i d hi=>by simp at hi⟩
 |cons c cs dd =>
  intro ds ns ys ct h;simp only[q5]at h;split at h<;>try cases h
  rename_i d1 ho I;split at h<;>try cases h
  rename_i Cv ms G;obtain⟨y,aO,aX,cY⟩:=ct 0 c rfl;obtain⟨a1,bf⟩:=Et aD av ⟨aX,cY⟩ I;obtain⟨bK,bX,dh⟩:=dd (fun i=>ys (i+1)) (fun i c hi=>ct (i+1) c hi) G;refine⟨fun r aw=>?_,by simp[bX],fun i d hi=>?_⟩
  ·simp only[List.mem_append]at aw;exact aw.elim (a1 r) (bK r)
  ·cases i with
   |zero=>simp at hi;subst hi;exact⟨y,aO,aX,Ql bf⟩
   |succ i =>
    simp at hi;obtain⟨sn,f1,f2,f3⟩:=dh i d hi;exact⟨sn,f1,f2,Ie f3⟩

theorem DL{R:C->Value->Prop}{old cs:List C}{cur ys:List Value}{o:Nat}(aY:o+cs.length<=old.length)(ax:ys.length=cs.length)(az:o+cs.length<=cur.length)
  (I:∀(i:Nat) c,old[i]? = some c->∃y,cur[i]? = some y/\R c y) (G:∀(i:Nat) c,cs[i]? = some c->∃y,ys[i]? = some y/\R c y) :
  ∀(i:Nat) c,(put old o cs)[i]? = some c->∃y,(cur.take o++ys++cur.drop (o+ys.length))[i]? = some y/\R c y:=by
 intro i c hi;unfold put at hi;rw[List.append_assoc]at hi |-;have t1:(old.take o).length=o:=by simp;omega
 have t2:(cur.take o).length=o:=by simp;omega
 by_cases h:i<o
 ·rw[List.getElem?_append_left (by omega),List.getElem?_take_of_lt h]at hi;rw[List.getElem?_append_left (by omega),List.getElem?_take_of_lt h];exact I i c hi
 ·rw[List.getElem?_append_right (by omega),t1]at hi;rw[List.getElem?_append_right (by omega),t2]
  by_cases er:i-o<cs.length
  ·rw[List.getElem?_append_left er]at hi;rw[List.getElem?_append_left (by omega)];exact G _ c hi
  ·rw[List.getElem?_append_right (by omega),List.getElem?_drop]at hi;rw[List.getElem?_append_right (by omega),List.getElem?_drop,ax];exact I _ c hi

end
end bE
end Go.Proofs.YtlbppjmekiemiaaGreatDoor

