/- The executor on data: part 1 of 4. No condition. -/
import Derived.Calls
import Derived.Orders
import Derived.Laws.AppendOwn
import Derived.WalkKit
import Derived.Laws.CopyOwn
/- The executor on data: its definitions. No condition. -/
namespace Go.Proofs.YtlbppjmekiemiacGreatDoor
namespace Vm

structure Flash where
 words:List Int
 fuel:Int
structure Signed where
 key:Int
 name:Int
 deriving DecidableEq
structure Root where
 version:Int
 keys:List Int
 thr:Int
structure Target where
 unit:Int
 image:Int
 long:Int
 deriving DecidableEq
structure Release where
 version:Int
 til:Int
 targets:List Target
structure Offer where
 roots:List Root
 rootSigs:List (List Int)
 r:Release
 sigs:List Int
 images:List (List Int)
structure Trust where
 r:Root
 version:Int
structure Message where
 kind:Int
 unit:Int
 n:Int
 at_:Int
 image:Int
 words:List Int
 yes:Bool
structure UnitD where
 f:Flash
 up:Bool
 n:Int
 got:Int
structure Gate where
 f:Flash
 up:Bool
 t:Trust
 voted:List Bool
 did:List Bool
structure Campaign where
 n:Int
 r:Release
 images:List (List Int)
structure Happening where
 kind:Int
 unit:Int
 k:Int
 o:Offer
structure Change where
 at_:Int
 word:Option Int
structure Vehicle where
 b:List (List UInt8)
 s:List Signed
 g:Gate
 units:List UnitD
 campaigns:List Campaign
 net:List Message
 now:Int

inductive Ty where
 | int | bool | str | fnw | u64 | err
 | list (t:Ty)
 | signed | target | root | message | unitd | campaign | happening | offer | change | flash
 deriving DecidableEq

abbrev Ty.den:Ty→Type
 | .int=>Int
 | .bool=>Bool
 | .str=>List UInt8
 | .fnw=>Option Int
 | .u64=>Int
 | .err=>Bool
 | .list t=>List t.den
 | .signed=>Signed
 | .target=>Target
 | .root=>Root
 | .message=>Message
 | .unitd=>UnitD
 | .campaign=>Campaign
 | .happening=>Happening
 | .offer=>Offer
 | .change=>Change
 | .flash=>Flash

inductive C where
 | dat (t:Ty) (d:t.den)
 | nil (t:Ty)
 | ptr (r o:Nat)
 | eptr (t:Ty) (l:List t.den) (i k:Nat)
 | optr (r i k:Nat)
 | own (r:Nat)
 | view (r off len:Nat)
 | fn (f:Nat) (caps:List Nat)
 | mp (r:Nat)
 | ownx (r:Nat)
 | optx (r k:Nat)
 | cut (r n:Nat)
 | undef
 | any

inductive V where
 | one (c:C)
 | agg (cs:List C)
 | tup (vs:List V)

inductive Blk where
 | box (cs:List C)
 | arr (t:Ty) (l:List t.den)
 | set (ks:List Int)
 | arx (t:Ty) (l:List t.den) (cs:List C)
 | dead

def Ty.dflt:(t:Ty)→t.den
 | .int=>(0:Int)
 | .bool=>false
 | .str=>[]
 | .fnw=>none
 | .u64=>(0:Int)
 | .err=>true
 | .list _=>[]
 | .signed=>⟨0,0⟩
 | .target=>⟨0,0,0⟩
 | .root=>⟨0,[],0⟩
 | .message=>⟨0,0,0,0,0,[],false⟩
 | .unitd=>⟨⟨[],0⟩,false,0,0⟩
 | .campaign=>⟨0,⟨0,0,[]⟩,[]⟩
 | .happening=>⟨0,0,0,⟨[],[],⟨0,0,[]⟩,[],[]⟩⟩
 | .offer=>⟨[],[],⟨0,0,[]⟩,[],[]⟩
 | .change=>⟨0,none⟩
 | .flash=>⟨[],0⟩

def Ty.cells:(t:Ty)→t.den→List C
 | .int,d=>[.dat .int d]
 | .bool,d=>[.dat .bool d]
 | .str,d=>[.dat .str d]
 | .fnw,d=>[.dat .fnw d]
 | .u64,d=>[.dat .u64 d]
 | .err,d=>[.dat .err d]
 | .list t,d=>[.dat (.list t) d]
 | .signed,d=>[.dat .int d.key,.dat .int d.name]
 | .target,d=>[.dat .int d.unit,.dat .int d.image,.dat .int d.long]
 | .root,d=>[.dat .int d.version,.dat (.list .int) d.keys,.dat .int d.thr]
 | .message,d=>[.dat .int d.kind,.dat .int d.unit,.dat .int d.n,.dat .int d.at_,.dat .int d.image,.dat (.list .int) d.words,.dat .bool d.yes]
 | .unitd,d=>[.dat (.list .int) d.f.words,.dat .int d.f.fuel,.dat .bool d.up,.dat .int d.n,.dat .int d.got]
 | .campaign,d=>[.dat .int d.n,.dat .int d.r.version,.dat .int d.r.til,.dat (.list .target) d.r.targets,.dat (.list (.list .int)) d.images]
 | .happening,d=>[.dat .int d.kind,.dat .int d.unit,.dat .int d.k,.dat (.list .root) d.o.roots,.dat (.list (.list .int)) d.o.rootSigs,
   .dat .int d.o.r.version,.dat .int d.o.r.til,.dat (.list .target) d.o.r.targets,.dat (.list .int) d.o.sigs,.dat (.list (.list .int)) d.o.images]
 | .offer,d=>[.dat (.list .root) d.roots,.dat (.list (.list .int)) d.rootSigs,
   .dat .int d.r.version,.dat .int d.r.til,.dat (.list .target) d.r.targets,.dat (.list .int) d.sigs,.dat (.list (.list .int)) d.images]
 | .change,d=>[.dat .int d.at_,.dat .fnw d.word]
 | .flash,d=>[.dat (.list .int) d.words,.dat .int d.fuel]

def Ty.width:Ty→Nat
 | .signed=>2
 | .target=>3
 | .root=>3
 | .message=>7
 | .unitd=>5
 | .campaign=>5
 | .happening=>10
 | .offer=>7
 | .change=>2
 | .flash=>2
 | _=>1

def Ty.ofCells:(t:Ty)→List C→Option t.den
 | .int,[.dat .int d]=>some d
 | .bool,[.dat .bool d]=>some d
 | .str,[.dat .str d]=>some d
 | .fnw,[.dat .fnw d]=>some d
 | .u64,[.dat .u64 d]=>some d
 | .err,[.dat .err d]=>some d
 | .list t,[.dat (.list u) d]=>if h:u=t then some (h ▸ d) else none
 | .signed,[.dat .int a,.dat .int b]=>some ⟨a,b⟩
 | .target,[.dat .int a,.dat .int b,.dat .int c]=>some ⟨a,b,c⟩
 | .root,[.dat .int a,.dat (.list .int) b,.dat .int c]=>some ⟨a,b,c⟩
 | .message,[.dat .int a,.dat .int b,.dat .int c,.dat .int d,.dat .int e,.dat (.list .int) f,.dat .bool g]=>some ⟨a,b,c,d,e,f,g⟩
 | .unitd,[.dat (.list .int) a,.dat .int b,.dat .bool c,.dat .int d,.dat .int e]=>some ⟨⟨a,b⟩,c,d,e⟩
 | .campaign,[.dat .int a,.dat .int b,.dat .int c,.dat (.list .target) d,.dat (.list (.list .int)) e]=>some ⟨a,⟨b,c,d⟩,e⟩
 | .happening,[.dat .int a,.dat .int b,.dat .int c,.dat (.list .root) d,.dat (.list (.list .int)) e,.dat .int f,.dat .int g,.dat (.list .target) h,.dat (.list .int) i,.dat (.list (.list .int)) j] =>
  some ⟨a,b,c,d,e,⟨f,g,h⟩,i,j⟩
 | .offer,[.dat (.list .root) d,.dat (.list (.list .int)) e,.dat .int f,.dat .int g,.dat (.list .target) h,.dat (.list .int) i,.dat (.list (.list .int)) j] =>
  some ⟨d,e,⟨f,g,h⟩,i,j⟩
 | .change,[.dat .int a,.dat .fnw b]=>some ⟨a,b⟩
 | .flash,[.dat (.list .int) a,.dat .int b]=>some ⟨a,b⟩
 | _,_=>none

inductive Kd where
 | int | bool | str | other | u64 | mapib | iface
 | slice (t:Ty) (e:Nat)
 | struct
 | array (n size:Nat)

structure TI where
 n:Nat
 kd:Kd
 zero:List C
 offs:List Nat
 sizes:List Nat
 bytes:Nat

def TI.agg (ti:TI):Bool:=match ti.kd with | .struct=>true | .array _ _=>true | _=>false
def TI.elem (ti:TI):Option Ty:=match ti.kd with | .slice t _=>some t | _=>none
def TI.isInt (ti:TI):Bool:=match ti.kd with | .int=>true | _=>false
def TI.isU64 (ti:TI):Bool:=match ti.kd with | .u64=>true | _=>false
def TI.isBool (ti:TI):Bool:=match ti.kd with | .bool=>true | _=>false
def TI.isIface (ti:TI):Bool:=match ti.kd with | .iface=>true | _=>false
def TI.isStr (ti:TI):Bool:=match ti.kd with | .str=>true | _=>false
def TI.isSlice (ti:TI) (t:Ty):Bool:=match ti.kd with | .slice u _=>decide (u=t) | _=>false
def TI.isStruct (ti:TI):Bool:=match ti.kd with | .struct=>true | _=>false

structure Tab where
 types:List (Nat × TI)
 f0:Nat
 f1:Nat
 eqs:List Nat
 w:Bool
 pow:Option Nat
 maxl:Option Nat
 errs:List Nat
 due:Option Nat

abbrev Env:=List (Nat × V)
abbrev Mem:=List (Nat × Blk)

def look {α:Type}:List (Nat × α)→Nat→Option α
 | [],_=>none
 | (k,v)::rest,n=>match Nat.beq k n with | true=>some v | false=>look rest n

def memb:List Nat→Nat→Bool
 | [],_=>false
 | k::rest,n=>match Nat.beq k n with | true=>true | false=>memb rest n

structure St where
 env:Env
 mem:Mem
 base:Nat

def w64 (n:Int):Int:=IntKind.i64.wrap n
def u64w (n:Int):Int:=IntKind.u64.wrap n
def lti (a b:Int):Bool:=decide (a<b)
def lei (a b:Int):Bool:=decide (a≤b)
def eqi (a b:Int):Bool:=decide (a=b)
def eqb (a b:Bool):Bool:=decide (a=b)
def eqs (a b:List UInt8):Bool:=decide (a=b)
def andi (a b:Int):Int:=w64 ((BitVec.ofInt 64 a &&& BitVec.ofInt 64 b).toNat)
def ori (a b:Int):Int:=w64 ((BitVec.ofInt 64 a ||| BitVec.ofInt 64 b).toNat)
def xori (a b:Int):Int:=w64 ((BitVec.ofInt 64 a ^^^ BitVec.ofInt 64 b).toNat)
def slc {α:Type} (l:List α) (lo hi:Nat):List α:=(l.take hi).drop lo
def put {α:Type} (l:List α) (at_:Nat) (m:List α):List α:=l.take at_++m++l.drop (at_+m.length)
def nth {α:Type} (l:List α) (i:Nat) (d:α):α:=l.getD i d
def setAt {α:Type} (l:List α) (i:Nat) (x:α):List α:=l.set i x
def len {α:Type} (l:List α):Nat:=l.length
def zeros {α:Type} (n:Nat) (x:α):List α:=List.replicate n x
def cat {α:Type} (a b:List α):List α:=a++b

def br (b:Bool) (p q:Prop):Prop:=match b with | true=>p | false=>q

def tyAt (tab:Tab) (t:Nat):Option TI:=look tab.types t

def constC (tab:Tab) (ty:Nat):Value→Option V
 | .int .i64 n=>some (.one (.dat .int n))
 | .int .u64 n=>some (.one (.dat .u64 n))
 | .bool b=>some (.one (.dat .bool b))
 | .string s=>some (.one (.dat .str s.data.toList))
 | .nilIface=>some (.one (.dat .err true))
 | .slice none n m=>match Nat.beq n 0,Nat.beq m 0,tyAt tab ty with
  | true,true,some ti=>match ti.elem with
   | some t=>some (.one (.nil t))
   | none=>none
  | _,_,_=>none
 | _=>none

def evalO (tab:Tab) (env:Env) (ty:Nat):Operand→Option V
 | .tmp t=>look env t
 | .const v=>constC tab ty v
 | .func f=>some (.one (.fn f []))
 | .global _=>none

def evalAll (tab:Tab) (env:Env):List (Nat × Operand)→Option (List V)
 | []=>some []
 | (ty,o)::rest=>match evalO tab env ty o with
  | some v=>match evalAll tab env rest with
   | some vs=>some (v::vs)
   | none=>none
  | none=>none

def pairUp:List Nat→List Operand→List (Nat × Operand)
 | t::ts,o::os=>(t,o)::pairUp ts os
 | [],o::os=>(0,o)::pairUp [] os
 | _,[]=>[]

def operands (o:Oper):List (Nat × Operand) :=
 match o.op with
 | .move x | .assign x=>[(o.type,x)]
 | .store t a x=>[(0,a),(t,x)]
 | .box t x=>[(t,x)]
 | .pick c a b=>[(0,c),(o.type,a),(o.type,b)]
 | .build _ ps=>ps.toList.map fun p=>(0,p.2)
 | .buildSlice _ _ ps=>ps.toList.map fun p=>(0,p.2)
 | .call c=>match c.callee with
  | .value f=>(0,f)::pairUp c.argTypes.toList c.args.toList
  | .builtin _=>pairUp c.argTypes.toList c.args.toList
  | .invoke r _=>(0,r)::pairUp c.argTypes.toList c.args.toList
 | op=>op.operands.toList.map fun x=>(0,x)

def C.names:C→List Nat
 | .ptr r _ | .optr r _ _ | .own r | .view r _ _ | .mp r | .ownx r | .optx r _ | .cut r _=>[r]
 | .fn _ caps=>caps
 | _=>[]

def V.names:V→List Nat
 | .one c=>c.names
 | .agg cs=>cs.flatMap C.names
 | .tup _=>[]

def Blk.names:Blk→List Nat
 | .box cs=>cs.flatMap C.names
 | .arx _ _ cs=>cs.flatMap C.names
 | _=>[]

def addNew (seen:List Nat):List Nat→List Nat
 | []=>seen
 | r::rest=>match memb seen r with | true=>addNew seen rest | false=>addNew (seen++[r]) rest

def closure (mem:Mem):Nat→Nat→List Nat→List Nat
 | 0,_,seen=>seen
 | fuel+1,i,seen =>
  match seen[i]? with
  | none=>seen
  | some r=>match look mem r with
   | some b=>closure mem fuel (i+1) (addNew seen b.names)
   | none=>closure mem fuel (i+1) seen

def reach (mem:Mem) (vs:List V):List Nat:=closure mem 200 0 (addNew [] (vs.flatMap V.names))

def touch (o:Oper) (vs:List V) (mem:Mem):List Nat :=
 match o.op with
 | .load _ _ | .store _ _ _ | .indexAddr _ _ _ | .slice _ _ _ _ _ | .buildSlice _ _ _ | .nilCheck _ | .fieldAddr _ _ _ | .lookup _ _ _ _ | .mapUpdate _ _ _ _=>addNew [] (vs.flatMap V.names)
 | .call c=>match c.callee with
  | .builtin .append=>reach mem vs
  | .builtin _=>addNew [] (vs.flatMap V.names)
  | _=>reach mem vs
 | _=>[]

def memAt (mem:Mem) (names:List Nat):Mem:=names.map fun r=>(r,(look mem r).getD .dead)

def dat0 (mem:Mem):C→Option (C × List Nat)
 | .dat t d=>some (.dat t d,[])
 | .nil t=>some (.dat (.list t) [],[])
 | .own r=>match look mem r with
  | some (.arr t l)=>some (.dat (.list t) l,[r])
  | _=>none
 | _=>none
def dats0 (mem:Mem):List C→Option (List C × List Nat)
 | []=>some ([],[])
 | c::rest=>match dat0 mem c with
  | some (c',ns)=>match dats0 mem rest with
   | some (cs,ms)=>some (c'::cs,ns++ms)
   | none=>none
  | none=>none
def lastX (mem:Mem) (t:Ty) (cs:List C):Option (t.den × List Nat) :=
 match dats0 mem cs with
 | some (ds,ns)=>match t.ofCells ds with
  | some d=>some (d,ns)
  | none=>none
 | none=>none

def toDat (tab:Tab) (mem:Mem):C→Option (C × List Nat)
 | .dat t d=>some (.dat t d,[])
 | .nil t=>some (.dat (.list t) [],[])
 | .own r=>match look mem r with
  | some (.arr t l)=>some (.dat (.list t) l,[r])
  | _=>none
 | .ownx r=>match look mem r with
  | some (.arx t l cs)=>match lastX mem t cs with
   | some (d,ns)=>some (.dat (.list t) (cat l [d]),r::ns)
   | none=>none
  | _=>none
 | .fn f []=>match Nat.beq f tab.f0 with
  | true=>some (.dat .fnw none,[])
  | false=>none
 | .fn f [r]=>match Nat.beq f tab.f1 with
  | true=>match look mem r with
   | some (.box [.dat .int n])=>some (.dat .fnw (some n),[r])
   | _=>none
  | false=>none
 | _=>none

def toDats (tab:Tab) (mem:Mem):List C→Option (List C × List Nat)
 | []=>some ([],[])
 | c::rest=>match toDat tab mem c with
  | some (c',ns)=>match toDats tab mem rest with
   | some (cs,ms)=>some (c'::cs,ns++ms)
   | none=>none
  | none=>none

def V.cells:V→Option (List C)
 | .one .undef=>none
 | .one c=>some [c]
 | .agg cs=>some cs
 | .tup _=>none

def mkV (agg:Bool) (cs:List C):Option V :=
 match agg with
 | true=>some (.agg cs)
 | false=>match cs with
  | [c]=>some (.one c)
  | _=>none

def deads (ns:List Nat):Mem:=ns.map fun r=>(r,.dead)

abbrev Out:=Option (Option Prop × V × Mem)

def loadX (ti:TI) (a:C) (mem:Mem):Out :=
 match a with
 | .ptr r o=>match look mem r with
  | some (.box cs) =>
   match mkV ti.agg (slc cs o (o+ti.n)) with
   | some v=>match Nat.ble (o+ti.n) cs.length with
    | true=>some (none,v,[])
    | false=>none
   | none=>none
  | _=>none
 | .eptr t l i k =>
  match Nat.ble (k+ti.n) t.width with
  | true=>match mkV ti.agg (slc (t.cells (nth l i t.dflt)) k (k+ti.n)) with
   | some v=>some (none,v,[])
   | none=>none
  | false=>none
 | .optr r i k=>match look mem r with
  | some (.arr t l) =>
   match Nat.ble (k+ti.n) t.width with
   | true=>match mkV ti.agg (slc (t.cells (nth l i t.dflt)) k (k+ti.n)) with
    | some v=>some (some (i<len l),v,[])
    | none=>none
   | false=>none
  | _=>none
 | .optx r k=>match look mem r with
  | some (.arx _ _ cs) =>
   match mkV ti.agg (slc cs k (k+ti.n)) with
   | some v=>match Nat.ble (k+ti.n) cs.length with
    | true=>some (none,v,[])
    | false=>none
   | none=>none
  | _=>none
 | _=>none

def storeX (tab:Tab) (ti:TI) (a:C) (v:V) (mem:Mem):Out :=
 match v.cells with
 | none=>none
 | some cs =>
  match Nat.beq cs.length ti.n with
  | false=>none
  | true =>
   match a with
   | .ptr r o=>match look mem r with
    | some (.box old)=>match Nat.ble (o+ti.n) old.length with
     | true=>some (none,.one .undef,[(r,.box (put old o cs))])
     | false=>none
    | _=>none
   | .optr r i k=>match toDats tab mem cs with
    | some (ds,ns)=>match memb ns r with
     | true=>none
     | false=>match look mem r with
      | some (.arr t l)=>match Nat.ble (k+ti.n) t.width with
       | true=>match t.ofCells (put (t.cells (nth l i t.dflt)) k ds) with
        | some d=>some (some (i<len l),.one .undef,(r,.arr t (setAt l i d))::deads ns)
        | none=>none
       | false=>none
      | _=>none
    | none=>none
   | .optx r k=>match look mem r with
    | some (.arx t l old)=>match Nat.ble (k+ti.n) old.length with
     | true=>some (none,.one .undef,[(r,.arx t l (put old k cs))])
     | false=>none
    | _=>none
   | _=>none

structure RdL where
 pre:Option Prop
 t:Ty
 l:List t.den

def readL (mem:Mem):C→Option RdL
 | .dat (.list t) l=>some ⟨none,t,l⟩
 | .nil t=>some ⟨none,t,[]⟩
 | .own r=>match look mem r with
  | some (.arr t l)=>some ⟨none,t,l⟩
  | _=>none
 | .view r off n=>match look mem r with
  | some (.arr t l)=>some ⟨some (off+n≤len l),t,slc l off (off+n)⟩
  | _=>none
 | _=>none

def both:Option Prop→Prop→Prop
 | none,q=>q
 | some p,q=>p∧q

def lenX (ti:TI) (mem:Mem):C→Out
 | .dat .str l=>match ti.isStr with
  | true=>some (none,.one (.dat .int (len l:Nat)),[])
  | false=>none
 | .view r _ n=>match look mem r with
  | some (.arr t _)=>match ti.isSlice t with
   | true=>some (none,.one (.dat .int (n:Nat)),[])
   | false=>none
  | _=>none
 | .ownx r=>match look mem r with
  | some (.arx t l _)=>match ti.isSlice t with
   | true=>some (none,.one (.dat .int ((len l+1:Nat):Int)),[])
   | false=>none
  | _=>none
 | c=>match readL mem c with
  | some ⟨_,t,l⟩=>match ti.isSlice t with
   | true=>some (none,.one (.dat .int (len l:Nat)),[])
   | false=>none
  | none=>none

def indexX (ti:TI) (mem:Mem) (x:C) (i:Int):Out :=
 match x with
 | .dat (.list t) l=>match ti.isSlice t with
  | true=>some (some (0≤i∧i<(len l:Nat)),.one (.eptr t l i.toNat 0),[])
  | false=>none
 | .own r=>match look mem r with
  | some (.arr t l)=>match ti.isSlice t with
   | true=>some (some (0≤i∧i<(len l:Nat)),.one (.optr r i.toNat 0),[])
   | false=>none
  | _=>none
 | .view r off n=>match look mem r with
  | some (.arr t l)=>match ti.isSlice t with
   | true=>some (some (0≤i∧i<(n:Nat)∧off+n≤len l),.one (.optr r (off+i.toNat) 0),[])
   | false=>none
  | _=>none
 | .nil _=>some (some False,.one .undef,[])
 | .ownx r=>match look mem r with
  | some (.arx t l _)=>match ti.isSlice t with
   | true=>some (some (i=(len l:Nat)),.one (.optx r 0),[])
   | false=>none
  | _=>none
 | .ptr r o=>match ti.kd,look mem r with
  | .array n size,some (.box _)=>some (some (0≤i∧i<(n:Nat)),.one (.ptr r (o+i.toNat*size)),[])
  | _,_=>none
 | _=>none

def sliceX (ti:TI) (mem:Mem) (x:C) (lo hi mx:Option Int):Out :=
 match x with
 | .dat (.list t) l=>match mx,ti.isSlice t with
  | none,true=>some (some (0≤lo.getD 0∧lo.getD 0≤hi.getD (len l:Nat)∧hi.getD (len l:Nat)≤(len l:Nat)),
    .one (.dat (.list t) (slc l (lo.getD 0).toNat (hi.getD (len l:Nat)).toNat)),[])
  | _,_=>none
 | .nil t=>match mx,ti.isSlice t with
  | none,true=>some (some (lo.getD 0=0∧hi.getD 0=0),.one (.nil t),[])
  | _,_=>none
 | .own r=>match look mem r with
  | some (.arr t l)=>match ti.isSlice t with
   | true=>match mx with
    | none=>some (some (0≤lo.getD 0∧lo.getD 0≤hi.getD (len l:Nat)∧hi.getD (len l:Nat)≤(len l:Nat)),
      .one (.view r (lo.getD 0).toNat (hi.getD (len l:Nat)-lo.getD 0).toNat),[])
    | some m=>match lo,hi with
     | none,some h=>some (some (0≤h∧h=m∧m≤(len l:Nat)),.one (.cut r h.toNat),[])
     | some _,some h=>some (some (0≤lo.getD 0∧lo.getD 0≤h∧h≤m∧m=(len l:Nat)),.one (.view r (lo.getD 0).toNat (h-lo.getD 0).toNat),[])
     | _,none=>none
   | false=>none
  | _=>none
 | .view r 0 n=>match look mem r with
  | some (.arr t l)=>match mx,ti.isSlice t with
   | none,true=>some (some (0≤lo.getD 0∧lo.getD 0≤hi.getD (n:Nat)∧hi.getD (n:Nat)≤(len l:Nat)),
     .one (.view r (lo.getD 0).toNat (hi.getD (n:Nat)-lo.getD 0).toNat),[])
   | _,_=>none
  | _=>none
 | _=>none

def sameView (r:Nat):C→Bool
 | .view q _ _=>Nat.beq q r
 | _=>false

def appendX (ti:TI) (base bytes:Nat) (mem:Mem) (s x:C):Out :=
 match readL mem x with
 | none=>none
 | some ⟨p,u,m⟩ =>
  match ti.isSlice u with
  | false=>none
  | true =>
  match s with
  | .nil t=>if h:u=t then some (some (both p ((len m)*bytes≤140737488355328)),.one (.own base),[(base,.arr t (h ▸ m))]) else none
  | .own r=>match look mem r with
   | some (.arr t l)=>if h:u=t then some (some (both p ((len l+len m)*bytes≤140737488355328)),.one (.own base),[(r,.dead),(base,.arr t (cat l (h ▸ m)))]) else none
   | _=>none
  | .cut r n=>match look mem r with
   | some (.arr t l)=>if h:u=t then some (some (both p (n≤len l∧(n+len m)*bytes≤140737488355328)),.one (.own base),[(r,.dead),(base,.arr t (cat (slc l 0 n) (h ▸ m)))]) else none
   | _=>none
  | .view r 0 n=>match look mem r with
   | some (.arr t l)=>if h:u=t then (match sameView r x with
     | true=>some (some (both p (n+len m≤len l)),.one (.view r 0 (n+len m)),[(r,.arr t (put l n (h ▸ m))),(base,.arr t [])])
     | false=>some (some (both p (n≤len l∧(n+len m)*bytes≤140737488355328)),.one (.own base),[(r,.dead),(base,.arr t (cat (slc l 0 n) (h ▸ m)))])) else none
   | _=>none
  | _=>none

def appendY (ti:TI) (base bytes:Nat) (mem:Mem) (s:C) (a:Nat):Out :=
 match look mem a with
 | some (.arx u [] cs) =>
  match ti.isSlice u with
  | false=>none
  | true=>match Nat.beq cs.length u.width with
  | false=>none
  | true =>
  match s with
  | .own r=>match look mem r with
   | some (.arr t l)=>if u=t then some (some ((len l+1)*bytes≤140737488355328),.one (.ownx base),[(r,.dead),(a,.dead),(base,.arx t l cs)]) else none
   | _=>none
  | .ownx r=>match Nat.beq r a with
   | true=>none
   | false=>match look mem r with
    | some (.arx t l cs0)=>if u=t then (match lastX mem t cs0 with
     | some (d,ns)=>some (some ((len l+2)*bytes≤140737488355328),.one (.ownx base),(r,.dead)::(a,.dead)::(base,.arx t (cat l [d]) cs)::deads ns)
     | none=>none) else none
    | _=>none
  | _=>none
 | _=>none

def copyX (ti:TI) (mem:Mem) (s x:C):Out :=
 match readL mem x with
 | none=>none
 | some ⟨p,u,m⟩ =>
  match ti.isSlice u with
  | false=>none
  | true =>
  match s with
  | .own r=>match look mem r with
   | some (.arr t l)=>if h:u=t then some (p,.one (.dat .int (min (len l) (len m):Nat)),[(r,.arr t (put l 0 (slc (h ▸ m:List t.den) 0 (min (len l) (len m)))))]) else none
   | _=>none
  | .view r off n=>match look mem r with
   | some (.arr t l)=>if h:u=t then some (some (both p (off+n≤len l)),.one (.dat .int (min n (len m):Nat)),[(r,.arr t (put l off (slc (h ▸ m:List t.den) 0 (min n (len m)))))]) else none
   | _=>none
  | _=>none

def Ty.noFn:Ty→Bool
 | .fnw=>false
 | .err=>false
 | .change=>false
 | _=>true

def clearX (ti:TI) (mem:Mem):C→Out
 | .own r=>match look mem r with
  | some (.arr t l)=>match ti.isSlice t,t.noFn with
   | true,true=>some (none,.tup [],[(r,.arr t (zeros (len l) t.dflt))])
   | _,_=>none
  | _=>none
 | .nil t=>match ti.isSlice t with
  | true=>some (none,.tup [],[])
  | false=>none
 | .view r off n=>match look mem r with
  | some (.arr t l)=>match ti.isSlice t,t.noFn with
   | true,true=>some (some (off+n≤len l),.tup [],[(r,.arr t (put l off (zeros n t.dflt)))])
   | _,_=>none
  | _=>none
 | _=>none

def hasK (k:Int) (ks:List Int):Bool:=decide (k∈ks)
def insK (k:Int) (ks:List Int):List Int:=match hasK k ks with | true=>ks | false=>ks++[k]

def mapX (mem:Mem) (r:Nat):Option (List Int):=match look mem r with
 | some (.set ks)=>some ks
 | _=>none

def intOp (op:BinOp) (a b:Int):Option (Option Prop × C) :=
 match op with
 | .add=>some (none,.dat .int (w64 (a+b)))
 | .sub=>some (none,.dat .int (w64 (a-b)))
 | .mul=>some (none,.dat .int (w64 (a*b)))
 | .quo=>some (some (b≠0),.dat .int (w64 (a.tdiv b)))
 | .rem=>some (some (b≠0),.dat .int (a.tmod b))
 | .and=>some (none,.dat .int (andi a b))
 | .or=>some (none,.dat .int (ori a b))
 | .xor=>some (none,.dat .int (xori a b))
 | .lss=>some (none,.dat .bool (lti a b))
 | .leq=>some (none,.dat .bool (lei a b))
 | .gtr=>some (none,.dat .bool (lti b a))
 | .geq=>some (none,.dat .bool (lei b a))
 | .eql=>some (none,.dat .bool (eqi a b))
 | .neq=>some (none,.dat .bool (!eqi a b))
 | _=>none

def eqC:C→C→Option Bool
 | .dat .int a,.dat .int b=>some (eqi a b)
 | .dat .bool a,.dat .bool b=>some (eqb a b)
 | .dat .str a,.dat .str b=>some (eqs a b)
 | _,_=>none

def eqCs:List C→List C→Option Bool
 | [],[]=>some true
 | a::as,b::bs=>match eqC a b with
  | some x=>match eqCs as bs with
   | some y=>some (x && y)
   | none=>none
  | none=>none
 | _,_=>none

def binX (tab:Tab) (op:BinOp) (ty:Nat) (x y:V):Out :=
 match x,y with
 | .one (.dat .int a),.one (.dat .int b)=>match intOp op a b with
  | some (p,c)=>some (p,.one c,[])
  | none=>none
 | .one (.dat .bool a),.one (.dat .bool b)=>match (tyAt tab ty).map TI.isBool with
  | some true=>match op with
   | .eql=>some (none,.one (.dat .bool (eqb a b)),[])
   | .neq=>some (none,.one (.dat .bool (!eqb a b)),[])
   | _=>none
  | _=>none
 | .one (.dat .u64 a),.one (.dat .u64 b)=>match op with
  | .gtr=>some (none,.one (.dat .bool (lti b a)),[])
  | _=>none
 | .one (.dat .str a),.one (.dat .str b)=>match op with
  | .add=>some (some (len a+len b≤140737488355328),.one (.dat .str (cat a b)),[])
  | .eql=>some (none,.one (.dat .bool (eqs a b)),[])
  | .neq=>some (none,.one (.dat .bool (!eqs a b)),[])
  | _=>none
 | .agg as,.agg bs=>match memb tab.eqs ty,eqCs as bs,tyAt tab ty with
  | true,some r,some ti=>match eqCs ti.zero as with
   | some _=>match op with
    | .eql=>some (none,.one (.dat .bool r),[])
    | .neq=>some (none,.one (.dat .bool (!r)),[])
    | _=>none
   | none=>none
  | _,_,_=>none
 | _,_=>none

def placeAll:List C→List (Nat × List C)→Option (List C)
 | z,[]=>some z
 | z,(off,cs)::rest=>match Nat.ble (off+cs.length) z.length with
  | true=>placeAll (put z off cs) rest
  | false=>none

def fieldsAt (offs sizes:List Nat):List Nat→List V→Option (List (Nat × List C))
 | [],[]=>some []
 | f::fs,v::vs=>match offs[f]?,sizes[f]?,v.cells,fieldsAt offs sizes fs vs with
  | some o,some n,some cs,some r=>match Nat.beq cs.length n with
   | true=>some ((o,cs)::r)
   | false=>none
  | _,_,_,_=>none
 | _,_=>none

def elemsAt (tab:Tab) (mem:Mem) (t:Ty):Nat→Nat→List Nat→List V→Option (List t.den × List Nat)
 | 0,_,[],[]=>some ([],[])
 | 0,_,_,_=>none
 | n+1,i,[],[]=>match elemsAt tab mem t n (i+1) [] [] with
  | some (l,ms)=>some (t.dflt::l,ms)
  | none=>none
 | n+1,i,j::js,v::us=>match Nat.beq i j with
  | true=>match v.cells with
   | some cs=>match toDats tab mem cs with
    | some (ds,ns)=>match t.ofCells ds with
     | some d=>match elemsAt tab mem t n (i+1) js us with
      | some (l,ms)=>some (d::l,ns++ms)
      | none=>none
     | none=>none
    | none=>none
   | none=>none
  | false=>match elemsAt tab mem t n (i+1) (j::js) (v::us) with
   | some (l,ms)=>some (t.dflt::l,ms)
   | none=>none
 | _+1,_,_,_=>none

abbrev Contract:=List V→List Blk→Option (Option Prop × V × List Blk)
abbrev Ctx:=List (Nat × Contract)

def idx (seen:List Nat) (r:Nat):Nat:=seen.idxOf r

def C.ren (f:Nat→Nat):C→C
 | .ptr r o=>.ptr (f r) o
 | .optr r i k=>.optr (f r) i k
 | .own r=>.own (f r)
 | .view r a b=>.view (f r) a b
 | .fn g caps=>.fn g (caps.map f)
 | .mp r=>.mp (f r)
 | .ownx r=>.ownx (f r)
 | .optx r k=>.optx (f r) k
 | .cut r n=>.cut (f r) n
 | c=>c

def V.ren (f:Nat→Nat):V→V
 | .one c=>.one (c.ren f)
 | .agg cs=>.agg (cs.map (C.ren f))
 | .tup vs=>.tup (vs.map fun v=>match v with
  | .one c=>.one (c.ren f)
  | .agg cs=>.agg (cs.map (C.ren f))
  | .tup us=>.tup us)

def Blk.ren (f:Nat→Nat):Blk→Blk
 | .box cs=>.box (cs.map (C.ren f))
 | .arx t l cs=>.arx t l (cs.map (C.ren f))
 | b=>b

def unNil:V→V
 | .one (.nil t)=>.one (.dat (.list t) [])
 | .agg cs=>.agg (cs.map fun c=>match c with | .nil t=>.dat (.list t) [] | c=>c)
 | v=>v

def backName (seen:List Nat) (base:Nat) (j:Nat):Nat :=
 match seen[j]? with
 | some r=>r
 | none=>base+(j-seen.length)

def zipFrom {α:Type} (i:Nat):List α→List (Nat × α)
 | []=>[]
 | a::as=>(i,a)::zipFrom (i+1) as

def datsOf (tab:Tab) (mem:Mem):List V→Option (List V × List Nat)
 | []=>some ([],[])
 | v::rest =>
  match (match v with
   | .one c=>(toDat tab mem c).map fun p=>(V.one p.1,p.2)
   | .agg cs=>(toDats tab mem cs).map fun p=>(V.agg p.1,p.2)
   | .tup _=>none),datsOf tab mem rest with
  | some (v',ns),some (vs,ms)=>some (v'::vs,ns++ms)
  | _,_=>none

def C.plain:C→Bool
 | .dat .int _ | .dat .bool _ | .dat .str _ | .any=>true
 | _=>false

def V.plain1:V→Bool
 | .one c=>c.plain
 | .agg cs=>cs.all C.plain
 | .tup _=>false

def V.plain:V→Bool
 | .tup vs=>vs.all V.plain1
 | v=>v.plain1

def sameTy:Blk→Blk→Bool
 | _,.dead=>true
 | .box cs,.box ds=>Nat.beq cs.length ds.length
 | .arr t _,.arr u _=>decide (t=u)
 | .set _,.set _=>true
 | _,_=>false

def kindsOk:List Blk→List Blk→Bool
 | [],more=>Nat.ble more.length 7
 | a::as,b::bs=>match sameTy a b with | true=>kindsOk as bs | false=>false
 | _::_,[]=>false

def allIn (seen:List Nat):List Nat→Bool
 | []=>true
 | r::rest=>match memb seen r with | true=>allIn seen rest | false=>false

def distinct:List Nat→Bool
 | []=>true
 | r::rest=>match memb rest r with | true=>false | false=>distinct rest

def allBelow (base:Nat):List Nat→Bool
 | []=>true
 | r::rest=>match Nat.ble base r with | true=>false | false=>allBelow base rest

def V.noTup:V→Bool
 | .tup _=>false
 | _=>true

def okSeen (base:Nat) (seen:List Nat) (args:List V) (bs:List Blk):Bool :=
 match distinct seen with
 | true=>match allBelow base seen with
  | true=>match allIn seen (args.flatMap V.names) with
   | true=>match args.all V.noTup with
    | true=>allIn seen (bs.flatMap Blk.names)
    | false=>false
   | false=>false
  | false=>false
 | false=>false

def backs (seen:List Nat) (base:Nat) (bs:List Blk):Mem :=
 (zipFrom 0 bs).map fun q=>(backName seen base q.1,q.2.ren (backName seen base))

def pickArgs (c:Contract) (g:Nat→Nat) (ins:List Blk) (args:List V):List V :=
 match c (args.map (V.ren g)) ins with
 | some _=>args
 | none=>args.map unNil

def mixOf (tab:Tab) (mem:Mem):List V→List V × List Nat
 | []=>([],[])
 | v::rest =>
  match (match v with
   | .one c=>(toDat tab mem c).map fun p=>(V.one p.1,p.2)
   | .agg cs=>(toDats tab mem cs).map fun p=>(V.agg p.1,p.2)
   | .tup _=>none) with
  | some (v',ns)=>(v'::(mixOf tab mem rest).1,ns++(mixOf tab mem rest).2)
  | none=>(v::(mixOf tab mem rest).1,(mixOf tab mem rest).2)

def dropN (ns:List Nat):List Nat→List Nat
 | []=>[]
 | r::rest=>match memb ns r with | true=>dropN ns rest | false=>r::dropN ns rest

def callM (tab:Tab) (base:Nat) (mem:Mem) (c:Contract) (as:List V) (ns:List Nat):Out :=
 let seen:=dropN ns (mem.map (·.1))
 let mm:=memAt mem seen
 let ins:=mm.map fun p=>p.2.ren (idx seen)
 match c (as.map (V.ren (idx seen))) ins with
 | some (p,v,bs)=>match kindsOk ins bs,okSeen base seen as (mm.map (·.2)),allBelow base ns with
  | true,true,true=>some (p,v.ren (backName seen base),backs seen base bs++deads ns)
  | _,_,_=>none
 | none=>none

def callX (Γ:Ctx) (tab:Tab) (base:Nat) (mem:Mem) (f:Nat) (args:List V):Out :=
 match look Γ f with
 | none=>none
 | some c =>
  let seen:=mem.map (·.1)
  let ins:=mem.map fun p=>p.2.ren (idx seen)
  match c ((pickArgs c (idx seen) ins args).map (V.ren (idx seen))) ins with
  | some (p,v,bs)=>match kindsOk ins bs,okSeen base seen args (mem.map (·.2)) with
   | true,true=>some (p,v.ren (backName seen base),backs seen base bs)
   | _,_=>none
  | none=>match datsOf tab mem (args.map unNil) with
   | none=>callM tab base mem c (mixOf tab mem (args.map unNil)).1 (mixOf tab mem (args.map unNil)).2
   | some (ds,ns)=>match c ds [] with
    | some (p,v,bs)=>match v.plain,bs with
     | true,[]=>some (p,v,[])
     | _,_=>match kindsOk [] bs,allBelow base ns with
      | true,true=>some (p,v.ren (backName [] base),backs [] base bs++deads ns)
      | _,_=>none
    | none=>none

def fnwApp (d:Option Int) (n:Int):Int:=match d with | none=>65535 | some w=>andi n w

def optAt (x:Option Operand) (vs:List V):Option (Option Int × List V) :=
 match x with
 | none=>some (none,vs)
 | some _=>match vs with
  | .one (.dat .int n)::rest=>some (some n,rest)
  | _=>none

def sameOp:Operand→Operand→Bool
 | .tmp a,.tmp b=>Nat.beq a b
 | _,_=>false

def ptrsOf:List V→Option (List Nat)
 | []=>some []
 | .one (.ptr r 0)::rest=>match ptrsOf rest with
  | some rs=>some (r::rs)
  | none=>none
 | _=>none

def markC:Contract:=fun vs _=>match vs with
 | []=>some (some False,.tup [],[])
 | _=>none
def lastF (Γ:Ctx) (tab:Tab):Bool:=match tab.due with
 | some f=>match look Γ f with
  | some c=>(c [] []).isSome
  | none=>false
 | none=>false

def opX (Γ:Ctx) (tab:Tab) (base:Nat) (o:Oper) (vs:List V) (mem:Mem):Out :=
 match o.op,vs with
 | .move _,[v]=>some (none,v,[])
 | .assign _,[v]=>some (none,v,[])
 | .pick _ _ _,[.one (.dat .bool c),a,b]=>some (none,(match c with | true=>a | false=>b),[])
 | .alloc t,[]=>match tyAt tab t with
  | some ti=>some (none,.one (.ptr base 0),[(base,.box ti.zero)])
  | none=>none
 | .box t _,[v]=>match tyAt tab t,v.cells with
  | some ti,some cs=>match Nat.beq cs.length ti.n with
   | true=>some (none,.one (.ptr base 0),[(base,.box cs)])
   | false=>none
  | _,_=>none
 | .build t ps,vs=>match tyAt tab t with
  | some ti=>match ti.agg with
   | false=>none
   | true=>match fieldsAt ti.offs ti.sizes (ps.toList.map (·.1)) vs with
   | some fs=>match placeAll ti.zero fs with
    | some cs=>some (none,.agg cs,[])
    | none=>none
   | none=>none
  | none=>none
 | .buildSlice t n ps,vs=>match tyAt tab t with
  | some ti=>match ti.elem with
   | some e=>match (match lastF Γ tab with | true=>Nat.ble 2 e.width | false=>false),n,ps.toList.map (·.1),vs with
    | true,1,[0],[v]=>match v.cells with
     | some cs=>match Nat.beq cs.length e.width,Nat.ble e.width 16777216 with
      | true,true=>some (none,.one (.ownx base),[(base,.arx e [] cs)])
      | _,_=>none
     | none=>none
    | _,_,_,_=>match (match Nat.ble (n*e.width) 16777216 with | true=>(match Nat.beq n vs.length with | true=>true | false=>e.noFn) | false=>false),elemsAt tab mem e n 0 (ps.toList.map (·.1)) vs with
    | true,some (l,ns)=>match memb ns base with
     | true=>none
     | false=>some (none,.one (.own base),(base,.arr e l)::deads ns)
    | _,_=>none
   | none=>none
  | none=>none
 | .load t _,[.one a]=>match tyAt tab t with
  | some ti=>loadX ti a mem
  | none=>none
 | .store t _ _,[.one a,v]=>match tyAt tab t with
  | some ti=>storeX tab ti a v mem
  | none=>none
 | .nilCheck _,[.one (.ptr r o)]=>match look mem r with
  | some (.box _)=>some (none,.one (.ptr r o),[])
  | _=>none
 | .nilCheck _,[.one (.optr r i k)]=>match look mem r with
  | some (.arr _ _)=>some (none,.one (.optr r i k),[])
  | _=>none
 | .nilCheck _,[.one (.optx r k)]=>match look mem r with
  | some (.arx _ _ _)=>some (none,.one (.optx r k),[])
  | _=>none
 | .nilCheck _,[.one (.eptr t l i k)]=>some (none,.one (.eptr t l i k),[])
 | .nilCheck _,[.one (.fn f cs)]=>some (none,.one (.fn f cs),[])
 | .binOp op ty _ (.const _) _,[.one (.dat .err a),.one (.dat .err true)]=>match (tyAt tab ty).map TI.isIface,op with
  | some true,.eql=>some (none,.one (.dat .bool a),[])
  | some true,.neq=>some (none,.one (.dat .bool (!a)),[])
  | _,_=>none
 | .binOp op ty _ _ _,[x,y]=>binX tab op ty x y
 | .unOp .not _ _,[.one (.dat .bool b)]=>some (none,.one (.dat .bool (!b)),[])
 | .unOp .neg _ _,[.one (.dat .int n)]=>some (none,.one (.dat .int (w64 (-n))),[])
 | .convert s d _,[.one (.dat .int n)]=>match (tyAt tab s).map TI.isInt,(tyAt tab d).map TI.isInt with
  | some true,some true=>some (none,.one (.dat .int (w64 n)),[])
  | some true,some false=>match (tyAt tab d).map TI.isU64 with
   | some true=>some (none,.one (.dat .u64 (u64w n)),[])
   | _=>none
  | _,_=>none
 | .convert s d _,[.one (.dat .u64 n)]=>match (tyAt tab s).map TI.isU64,(tyAt tab d).map TI.isInt with
  | some true,some true=>some (none,.one (.dat .int (w64 n)),[])
  | _,_=>none
 | .makeFunc (.func f) fs _,vs=>match fs.toList,ptrsOf vs with
  | [],some rs=>some (none,.one (.fn f rs),[])
  | _,_=>none
 | .makeSlice t l c,[.one (.dat .int n),.one (.dat .int _)]=>match sameOp l c with
  | false=>none
  | true=>match tyAt tab t with
  | some ti=>match ti.elem with
   | some e=>match e.noFn with
    | true=>some (some (0≤n∧n*ti.bytes≤140737488355328∧n≤140737488355328),.one (.own base),[(base,.arr e (zeros n.toNat e.dflt))])
    | false=>none
   | none=>none
  | none=>none
 | .slice t _ lo hi mx,.one x::rest=>match tyAt tab t,optAt lo rest with
  | some ti,some (l,r1)=>match optAt hi r1 with
   | some (h,r2)=>match optAt mx r2 with
    | some (m,[])=>sliceX ti mem x l h m
    | _=>none
   | none=>none
  | _,_=>none
 | .fieldAddr t _ f,[.one a]=>match tyAt tab t with
  | some ti=>match (match ti.isStruct with | true=>ti.offs[f]? | false=>none) with
   | some off=>match a with
    | .ptr r o=>match look mem r with
     | some (.box _)=>some (none,.one (.ptr r (o+off)),[])
     | _=>none
    | .optr r i k=>match look mem r with
     | some (.arr _ _)=>some (none,.one (.optr r i (k+off)),[])
     | _=>none
    | .optx r k=>match look mem r with
     | some (.arx _ _ _)=>some (none,.one (.optx r (k+off)),[])
     | _=>none
    | .eptr e l i k=>some (none,.one (.eptr e l i (k+off)),[])
    | _=>none
   | none=>none
  | none=>none
 | .indexAddr t _ _,[.one x,.one (.dat .int i)]=>match tyAt tab t with
  | some ti=>indexX ti mem x i
  | none=>none
 | .index t _ _,[.agg cs,.one (.dat .int i)]=>match tyAt tab t with
  | some ti=>match ti.kd with
   | .array n size=>match Nat.ble 2 size,Nat.ble (i.toNat*size+size) cs.length with
    | true,true=>some (some (0≤i∧i<(n:Nat)),.agg (slc cs (i.toNat*size) (i.toNat*size+size)),[])
    | _,_=>none
   | _=>none
  | none=>none
 | .field t _ f,[.agg cs]=>match memb tab.eqs t,tyAt tab t,cs[f]? with
  | true,some ti,some c=>match eqCs ti.zero cs with
   | some _=>some (none,.one c,[])
   | none=>none
  | _,_,_=>none
 | .makeMap t none,[]=>match (tyAt tab t).map TI.kd with
  | some .mapib=>some (none,.one (.mp base),[(base,.set [])])
  | _=>none
 | .mapUpdate t _ _ _,[.one (.mp r),.one (.dat .int k),.one (.dat .bool true)]=>match (tyAt tab t).map TI.kd,mapX mem r with
  | some .mapib,some ks=>some (none,.one .undef,[(r,.set (insK k ks))])
  | _,_=>none
 | .lookup t _ _ false,[.one (.mp r),.one (.dat .int k)]=>match (tyAt tab t).map TI.kd,mapX mem r with
  | some .mapib,some ks=>some (none,.one (.dat .bool (hasK k ks)),[])
  | _,_=>none
 | .extract _ i,[.tup us]=>match us[i]? with
  | some v=>some (none,v,[])
  | none=>none
 | .call { callee:=.builtin .len,argTypes,.. },[.one x]=>match (argTypes.toList.head?).bind (tyAt tab) with
  | some ti=>lenX ti mem x
  | none=>none
 | .call { callee:=.builtin .append,argTypes,.. },[.one s,.one x]=>match argTypes.toList with
  | [t,u]=>match tyAt tab t,tyAt tab u with
   | some ti,some tj=>match tj.elem with
    | some _=>match x with
     | .ownx a=>appendY ti base ti.bytes mem s a
     | _=>appendX ti base ti.bytes mem s x
    | none=>none
   | _,_=>none
  | _=>none
 | .call { callee:=.builtin .copy,argTypes,.. },[.one s,.one x]=>match argTypes.toList with
  | [t,_]=>match tyAt tab t with
   | some ti=>copyX ti mem s x
   | none=>none
  | _=>none
 | .call { callee:=.builtin .clear,argTypes,.. },[.one s]=>match argTypes.toList with
  | [t]=>match tyAt tab t with
   | some ti=>clearX ti mem s
   | none=>none
  | _=>none
 | .call { callee:=.builtin .min,.. },[.one (.dat .int a),.one (.dat .int b)]=>some (none,.one (.dat .int (min a b)),[])
 | .call { callee:=.builtin .max,.. },[.one (.dat .int a),.one (.dat .int b)]=>some (none,.one (.dat .int (max a b)),[])
 | .call { callee:=.value _,.. },.one (.fn f caps)::args=>callX Γ tab base mem f (args++caps.map fun r=>.one (.ptr r 0))
 | .call { callee:=.value _,.. },[.one (.dat .fnw d),.one (.dat .int n)]=>match tab.w with
  | true=>some (none,.one (.dat .int (fnwApp d n)),[])
  | false=>none
 | _,_=>none

def St.put (st:St) (d:Option Tmp) (v:V):St :=
 match d with
 | some t=>{ st with env:=(t,v)::st.env }
 | none=>st

def St.upd (st:St) (m:Mem):St:={ st with mem:=m++st.mem }

abbrev Kont:=St→Prop

def under (p:Option Prop) (q:Prop):Prop :=
 match p with
 | none=>q
 | some p=>p∧q

def namesOf (m:Mem):List Nat:=m.map (·.1)

def freshIn (base:Nat) (mem:Mem) (names:List Nat):Mem→Bool
 | []=>true
 | (r,_)::rest=>match Nat.ble base r with
  | true=>match Nat.ble (base+8) r,look mem r with
   | false,none=>freshIn base mem names rest
   | _,_=>false
  | false=>match memb names r with
   | true=>freshIn base mem names rest
   | false=>false

def dstOk:Option Tmp→V→Bool
 | some _,.one .undef=>false
 | _,_=>true

structure Tr where
 i:Nat
 reads:List Nat
 writes:List Nat

def isNilTest (o:Oper):Bool :=
 match o.op with
 | .binOp .eql _ _ (.const (.slice none _ _)) _=>true
 | _=>false

def nilTest (vs:List V) (K:V→Prop):Prop :=
 match vs with
 | [.one (.dat (.list _) l),_]=>∀ b:Bool,(b=true→len l=0)→K (.one (.dat .bool b))
 | [.one (.nil _),_]=>K (.one (.dat .bool true))
 | _=>False

def operandsOf (o:Oper):List (Nat × Operand) :=
 match o.op with
 | .binOp .eql t x (.const (.slice none a b)) _=>[(t,x),(t,.const (.slice none a b))]
 | _=>operands o

def doOp (Γ:Ctx) (tab:Tab) (o:Oper) (i:Nat) (tr:List Tr) (st:St) (K:List Tr→Kont):Prop :=
 match evalAll tab st.env (operandsOf o) with
 | none=>False
 | some vs =>
  match isNilTest o with
  | true=>nilTest vs fun v=>K tr (st.put o.dst v)
  | false =>
   let names:=touch o vs st.mem
   match opX Γ tab (st.base+8*i) o vs (memAt st.mem names) with
   | none=>False
   | some (p,v,m)=>match freshIn (st.base+8*i) st.mem names m,dstOk o.dst v with
    | true,true=>under p (K (⟨i,names,namesOf m⟩::tr) ((st.upd m).put o.dst v))
    | _,_=>False

def meets:List Nat→List Nat→Bool
 | [],_=>false
 | r::rest,l=>match memb l r with | true=>true | false=>meets rest l

def forced {α:Type} (n:Nat) (k:Nat→α):α:=match n with | 0=>k 0 | m+1=>k (m+1)

def bitsOf (acc:Nat) (ms:List Nat):List Edge→Nat
 | []=>acc
 | e::rest=>match Region.binds .any e with
  | true=>bitsOf (acc ||| 2 ^ e.on ||| (ms[e.on]?).getD 0) ms rest
  | false=>bitsOf acc ms rest

def befores (ms:List Nat):List Oper→List Nat
 | []=>ms
 | o::rest=>forced (bitsOf 0 ms o.after.toList) fun b=>befores (ms++[b]) rest

def isBefore (ms:List Nat) (i j:Nat):Bool:=Nat.testBit ((ms[j]?).getD 0) i

def tmpsOf:List Operand→List Nat
 | []=>[]
 | .tmp t::rest=>t::tmpsOf rest
 | _::rest=>tmpsOf rest

def usedBy (ops:List Oper) (o:Oper):List Nat :=
 tmpsOf ((operandsOf o).map (·.2))++(match o.guard with | none=>[] | some (j,_)=>((ops[j]?).bind (·.dst)).toList)

def clash (ops:List Oper) (a b:Oper):Bool :=
 match meets a.dst.toList (usedBy ops b++b.dst.toList) with
 | true=>true
 | false=>meets b.dst.toList (usedBy ops a)

def tmpsOkAt (ops:List Oper) (ms:List Nat) (o:Oper) (j:Nat):Nat→List Oper→Bool
 | _,[]=>true
 | i,a::rest=>match Nat.ble j i with
  | true=>true
  | false=>match clash ops a o with
   | true=>match isBefore ms i j with | true=>tmpsOkAt ops ms o j (i+1) rest | false=>false
   | false=>tmpsOkAt ops ms o j (i+1) rest

def tmpsOk (ops:List Oper) (ms:List Nat):Nat→List Oper→Bool
 | _,[]=>true
 | j,o::rest=>match tmpsOkAt ops ms o j 0 ops with | true=>tmpsOk ops ms (j+1) rest | false=>false

def trClash (a b:Tr):Bool :=
 match meets a.writes (b.reads++b.writes) with
 | true=>true
 | false=>meets b.writes a.reads

def trOkAt (ms:List Nat) (b:Tr):List Tr→Bool
 | []=>true
 | a::rest=>match trClash a b with
  | true=>match isBefore ms a.i b.i with | true=>trOkAt ms b rest | false=>false
  | false=>trOkAt ms b rest

def trOk (ms:List Nat):List Tr→Bool
 | []=>true
 | b::rest=>match trOkAt ms b rest with | true=>trOk ms rest | false=>false

def noNilTest:List Oper→Bool
 | []=>true
 | o::rest=>match isNilTest o with | true=>false | false=>noNilTest rest

def backE (j:Nat):List Edge→Bool
 | []=>true
 | e::rest=>match Region.binds .any e with
  | true=>match Nat.ble (e.on+1) j with | true=>backE j rest | false=>false
  | false=>backE j rest

def backOk:Nat→List Oper→Bool
 | _,[]=>true
 | j,o::rest=>match backE j o.after.toList with | true=>backOk (j+1) rest | false=>false

def orderOk (ops:List Oper) (tr:List Tr):Bool :=
 let ms:=befores [] ops
 match tmpsOk ops ms 0 ops with
 | true=>match noNilTest ops with
  | true=>match backOk 0 ops with
   | true=>trOk ms tr
   | false=>false
  | false=>false
 | false=>false

def C.frz (r:Nat) (t:Ty) (l:List t.den):C→C
 | .own q=>match Nat.beq q r with | true=>.dat (.list t) l | false=>.own q
 | c=>c

def V.frz (r:Nat) (t:Ty) (l:List t.den):V→V
 | .one c=>.one (c.frz r t l)
 | .agg cs=>.agg (cs.map (C.frz r t l))
 | .tup vs=>.tup (vs.map fun v=>match v with
  | .one c=>.one (c.frz r t l)
  | .agg cs=>.agg (cs.map (C.frz r t l))
  | .tup us=>.tup us)

def Blk.frz (r:Nat) (t:Ty) (l:List t.den):Blk→Blk
 | .box cs=>.box (cs.map (C.frz r t l))
 | .arx u k cs=>.arx u k (cs.map (C.frz r t l))
 | b=>b

def frz1 (r:Nat) (st:St):St :=
 match look st.mem r with
 | some (.arr t l)=>{ env:=st.env.map fun p=>(p.1,p.2.frz r t l),mem:=(r,.dead)::st.mem.map fun p=>(p.1,p.2.frz r t l),base:=st.base }
 | _=>st

def frzAll:List Nat→St→St
 | [],st=>st
 | r::rs,st=>frzAll rs (frz1 r st)

def texts:Mem→List Nat
 | []=>[]
 | (r,.arr .str _)::rest=>r::texts rest
 | (r,.arr .signed _)::rest=>r::texts rest
 | _::rest=>texts rest
def frzNames (Γ:Ctx) (tab:Tab) (st:St) (o:Oper):List Nat :=
 match o.op with
 | .call { callee:=.value _,.. }=>match evalAll tab st.env (operands o) with
  | some (.one (.fn f caps)::args)=>match look Γ f with
   | some c =>
    let as:=args++caps.map fun r=>V.one (.ptr r 0)
    let mem:=memAt st.mem (reach st.mem (.one (.fn f caps)::args))
    let seen:=mem.map (·.1)
    match c ((as.map unNil).map (V.ren (idx seen))) (mem.map fun p=>p.2.ren (idx seen)) with
    | some _=>[]
    | none=>match datsOf tab mem (as.map unNil) with
     | some (ds,ns)=>match c ds [] with
      | some (_,v,bs)=>match v.plain,bs with
       | true,[]=>[]
       | _,_=>ns
      | none=>texts mem
     | none=>texts mem
   | none=>[]
  | _=>[]
 | _=>[]

def prepK (Γ:Ctx) (tab:Tab) (draw:Bool) (o:Oper) (st:St) (k:St→Prop):Prop :=
 match draw with
 | true=>k st
 | false=>match frzNames Γ tab st o with
  | []=>k st
  | r::rs=>k (frzAll (r::rs) st)

def execOps (Γ:Ctx) (tab:Tab) (draw:Bool) (ops:List Oper) (K:Kont):List Oper→Nat→List Tr→Kont
 | [],_,tr,st=>match draw with
  | false=>K { st with base:=st.base+8*ops.length }
  | true=>match orderOk ops tr with
   | true=>K { st with base:=st.base+8*ops.length }
   | false=>False
 | o::rest,i,tr,st0=>prepK Γ tab draw o st0 fun st =>
  match o.guard with
  | none=>doOp Γ tab o i tr st (execOps Γ tab draw ops K rest (i+1))
  | some (j,want) =>
   match (ops[j]?).bind (·.dst) with
   | none=>False
   | some d=>match look st.env d with
    | some (.one (.dat .bool b)) =>
     br b
      (let st1:=st.put (some d) (.one (.dat .bool true))
       match want with
       | true=>doOp Γ tab o i tr st1 (execOps Γ tab draw ops K rest (i+1))
       | false=>execOps Γ tab draw ops K rest (i+1) tr (st1.put o.dst (.one .undef)))
      (let st1:=st.put (some d) (.one (.dat .bool false))
       match want with
       | false=>doOp Γ tab o i tr st1 (execOps Γ tab draw ops K rest (i+1))
       | true=>execOps Γ tab draw ops K rest (i+1) tr (st1.put o.dst (.one .undef)))
    | some (.one .undef)=>execOps Γ tab draw ops K rest (i+1) tr (st.put o.dst (.one .undef))
    | _=>False

inductive It where
 | code (c:Code)
 | inBlock (id:Nat)
 | inLoop (keys:List Nat) (body:Code)

def addUses (acc:List Nat):List (Nat × Operand)→List Nat
 | []=>acc
 | (_,.tmp t)::rest=>addUses (match memb acc t with | true=>acc | false=>t::acc) rest
 | _::rest=>addUses acc rest

def opsUses (acc:List Nat):List Oper→List Nat
 | []=>acc
 | o::rest=>opsUses (addUses acc (operands o)) rest

def usesOf (acc:List Nat):Code→List Nat
 | .region _ ops _=>opsUses acc ops.toList
 | .seq a b=>usesOf (usesOf acc a) b
 | .cond c a b=>usesOf (usesOf (addUses acc [(0,c)]) a) b
 | .block _ b=>usesOf acc b
 | .loop b=>usesOf acc b
 | .scope b=>usesOf acc b
 | _=>acc

def usesItems (acc:List Nat):List It→List Nat
 | []=>acc
 | .code c::k=>usesItems (usesOf acc c) k
 | .inBlock _::k=>usesItems acc k
 | .inLoop _ b::k=>usesItems (usesOf acc b) k

def forceL0:List Nat→(List Nat→List Nat)→List Nat
 | [],k=>k []
 | n::l,k=>match n with
  | 0=>forceL0 l fun l=>k (0::l)
  | m+1=>forceL0 l fun l=>k ((m+1)::l)

def livesItems (acc:List Nat):List It→List Nat
 | []=>acc
 | .code c::k=>livesItems (usesOf acc c) k
 | .inBlock _::k=>livesItems acc k
 | .inLoop ks _::k=>livesItems (addNew acc ks) k

def fewKeys (res:List Nat) (b:Code) (k:List It) (keys:List Nat):List Nat :=
 match Nat.ble keys.length 44 with
 | true=>keys
 | false=>forceL0 (livesItems (usesOf res b) k) fun ls=>keys.filter (memb ls)

def resUses (acc:List Nat):List ResultVar→List Nat
 | []=>acc
 | .tmp t::rest=>resUses (match memb acc t with | true=>acc | false=>t::acc) rest
 | .cell t _::rest=>resUses (match memb acc t with | true=>acc | false=>t::acc) rest

def keepEnv (env:Env):List Nat→Env
 | []=>[]
 | t::rest=>match look env t with
  | some v=>(t,v)::keepEnv env rest
  | none=>keepEnv env rest

def ownNils:Nat→Env→Env × Mem
 | _,[]=>([],[])
 | b,(t,.one (.nil e))::rest=>let r:=ownNils (b+1) rest; ((t,.one (.own b))::r.1,(b,.arr e [])::r.2)
 | b,p::rest=>let r:=ownNils b rest; (p::r.1,r.2)

def ownNilC:Nat→List C→List C × Mem
 | _,[]=>([],[])
 | b,.nil e::rest=>let r:=ownNilC (b+1) rest; (.own b::r.1,(b,.arr e [])::r.2)
 | b,c::rest=>let r:=ownNilC b rest; (c::r.1,r.2)

def ownNilM:Nat→Mem→Mem
 | _,[]=>[]
 | b,(r,.box cs)::rest=>let q:=ownNilC b cs; (r,.box q.1)::q.2++ownNilM (b+q.2.length) rest
 | b,p::rest=>p::ownNilM b rest

def reachK (k:Nat) (mem:Mem) (vs:List V):List Nat:=closure mem 200 0 (addNew (List.range k) (vs.flatMap V.names))

def prefixOk:Nat→Nat→List Nat→Bool
 | _,0,_=>true
 | i,k+1,r::rest=>match Nat.beq r i with | true=>prefixOk (i+1) k rest | false=>false
 | _,_+1,[]=>false

def allKnown (mem:Mem):List Nat→Bool
 | []=>true
 | r::rest=>match look mem r with | some _=>allKnown mem rest | none=>false

def canonOk (k:Nat) (mem m1:Mem) (names seen:List Nat) (vs:List V) (bs:List Blk):Bool :=
 match distinct names,allKnown mem names,distinct seen,allKnown m1 seen,prefixOk 0 k seen with
 | true,true,true,true,true=>match vs.all V.noTup,allIn seen (vs.flatMap V.names),allIn seen (bs.flatMap Blk.names) with
  | true,true,true=>true
  | _,_,_=>false
 | _,_,_,_,_=>false

def forceL {α:Type}:List Nat→(List Nat→α)→α
 | [],k=>k []
 | n::l,k=>match n with
  | 0=>forceL l fun l=>k (0::l)
  | m+1=>forceL l fun l=>k ((m+1)::l)

def canon (k:Nat) (keys:List Nat) (st:St):Option St :=
 let q:=ownNils st.base (keepEnv st.env keys)
 forceL (reachK k (q.2++st.mem) (q.1.map (·.2))) fun names =>
 let m1:=ownNilM (st.base+q.2.length) (memAt (q.2++st.mem) names)
 forceL (reachK k m1 (q.1.map (·.2))) fun seen =>
 let bs:=seen.map fun r=>(look m1 r).getD .dead
 match canonOk k (q.2++st.mem) m1 names seen (q.1.map (·.2)) bs with
 | true=>some { env:=q.1.map (fun p=>(p.1,p.2.ren (idx seen))),mem:=zipFrom 0 (bs.map (Blk.ren (idx seen))),base:=seen.length }
 | false=>none

def onSome {α:Type} (o:Option α) (K:α→Prop):Prop:=match o with | some x=>K x | none=>False

inductive Ex where
 | normal | ret | exit (id:Nat)

def seg (Γ:Ctx) (tab:Tab) (k0:Nat) (res:List Nat) (rec:List It→St→Prop) (fin:St→Prop):Nat→List It→Ex→St→Prop
 | 0,_,_,_=>False
 | n+1,todo,.normal,st =>
  match todo with
  | []=>fin st
  | .inBlock _::k=>seg Γ tab k0 res rec fin n k .normal st
  | .inLoop keys b::k=>onSome (canon k0 keys st) fun st'=>rec (.inLoop keys b::k) st'
  | .code c::k =>
   match c with
   | .skip=>seg Γ tab k0 res rec fin n k .normal st
   | .seq a b=>seg Γ tab k0 res rec fin n (.code a::.code b::k) .normal st
   | .region _ ops draw=>execOps Γ tab draw ops.toList (fun st'=>seg Γ tab k0 res rec fin n k .normal st') ops.toList 0 [] st
   | .cond c a b =>
    match evalO tab st.env 0 c with
    | some (.one (.dat .bool t))=>br t (seg Γ tab k0 res rec fin n (.code a::k) .normal st) (seg Γ tab k0 res rec fin n (.code b::k) .normal st)
    | _=>False
   | .block id b=>seg Γ tab k0 res rec fin n (.code b::.inBlock id::k) .normal st
   | .loop b =>
    forceL (usesItems (usesOf res b) k) fun uses =>
    forceL (((st.env.filter (fun p=>p.2.noTup)).map (·.1)).foldr (fun t acc=>match memb acc t with | true=>acc | false=>match memb uses t with | true=>t::acc | false=>acc) []) fun keys0 =>
    forceL (fewKeys res b k keys0) fun keys =>
    onSome (canon k0 keys st) fun st'=>rec (.inLoop keys b::k) st'
   | .exit id=>seg Γ tab k0 res rec fin n k (.exit id) st
   | .ret=>fin st
   | _=>False
 | n+1,todo,.exit id,st =>
  match todo with
  | []=>False
  | .inBlock j::k=>match Nat.beq j id with
   | true=>seg Γ tab k0 res rec fin n k .normal st
   | false=>seg Γ tab k0 res rec fin n k (.exit id) st
  | _::k=>seg Γ tab k0 res rec fin n k (.exit id) st
 | _+1,_,.ret,_=>False

def run (Γ:Ctx) (tab:Tab) (k0:Nat) (res:List Nat) (fin:St→Prop):Nat→List It→St→Prop
 | 0,_,_=>False
 | m+1,todo,st =>
  match todo with
  | .inLoop keys b::k=>seg Γ tab k0 res (run Γ tab k0 res fin m) fin 4000 (.code b::.inLoop keys b::k) .normal st
  | todo=>seg Γ tab k0 res (run Γ tab k0 res fin m) fin 4000 todo .normal st

def retV (tab:Tab) (st:St):List ResultVar→Option (List V)
 | []=>some []
 | .tmp t::rest=>match look st.env t,retV tab st rest with
  | some v,some vs=>some (v::vs)
  | _,_=>none
 | .cell a t::rest=>match look st.env a,tyAt tab t,retV tab st rest with
  | some (.one (.ptr r o)),some ti,some vs=>match loadX ti (.ptr r o) st.mem with
   | some (none,v,_)=>some (v::vs)
   | _=>none
  | _,_,_=>none

def packV:List V→V
 | [v]=>v
 | vs=>.tup vs

def solid:List V→Bool
 | []=>true
 | .one .undef::_=>false
 | .tup _::_=>false
 | _::rest=>solid rest

def finD (tab:Tab) (res:List ResultVar) (k:Nat) (K:V→List Blk→Prop) (st:St):Prop :=
 match retV tab st res with
 | none=>False
 | some vs=>match datsOf tab st.mem vs,solid vs with
  | some (ds,ns),true =>
   let bs:=(List.range k).map fun r=>match memb ns r with | true=>.dead | false=>(look st.mem r).getD .dead
   match allBelow k (bs.flatMap Blk.names) with
   | true=>K (packV ds) bs
   | false=>False
  | _,_=>False

def finO (tab:Tab) (res:List ResultVar) (k:Nat) (K:V→List Blk→Prop) (st:St):Prop :=
 match retV tab st res with
 | none=>False
 | some vs =>
  let seen:=closure st.mem 200 0 (addNew (List.range k) (vs.flatMap V.names))
  let bs:=seen.map fun r=>(look st.mem r).getD .dead
  match canonOk k st.mem st.mem [] seen vs bs,solid vs with
  | true,true=>K (packV (vs.map (V.ren (idx seen)))) (bs.map (Blk.ren (idx seen)))
  | _,_=>False

def Code.sub:Code→List Nat→Code
 | c,[]=>c
 | .seq a b,i::p=>match i with | 0=>Code.sub a p | _=>Code.sub b p
 | .cond _ a b,i::p=>match i with | 0=>Code.sub a p | _=>Code.sub b p
 | .block _ b,_::p=>Code.sub b p
 | .loop b,_::p=>Code.sub b p
 | c,_=>c

def initEnv:Nat→List V→Env
 | _,[]=>[]
 | i,v::vs=>(i,v)::initEnv (i+1) vs

def initSt (args:List V) (bs:List Blk):St:={ env:=initEnv 0 args,mem:=zipFrom 0 bs,base:=bs.length }

end Vm
end Go.Proofs.YtlbppjmekiemiacGreatDoor


/- The executor on data: what it means that a real world holds what the executor's state says; and that this lasts. No condition. -/
namespace Go.Proofs.YtlbppjmekiemiacGreatDoor
namespace Vm

inductive Loc where
 | bx (b:Nat)
 | ar (x:Value)

def Loc.block:Loc→Option Nat
 | .bx b=>some b
 | .ar x=>x.ownBlock

def at0 (b o:Nat):Addr:=⟨b,o,none⟩

inductive RepC (tab:Tab) (w:World) (S:Nat→Prop):C→Value→Prop
 | int (n:Int):RepC tab w S (.dat .int n) (.int .i64 n)
 | bool (b:Bool):RepC tab w S (.dat .bool b) (.bool b)
 | str (s:List UInt8):RepC tab w S (.dat .str s) (.string ⟨s.toArray⟩)
 | u64 (n:Int):RepC tab w S (.dat .u64 n) (.int .u64 n)
 | err0:RepC tab w S (.dat .err true) .nilIface
 | err1 (t:TypeId) (v:Value):RepC tab w S (.dat .err false) (.iface t v)
 | fnw0:RepC tab w S (.dat .fnw none) (.func (.func tab.f0) #[] #[])
 | fnw1 (n:Int) (b:Nat) (cur:Array Value) (e:TypeId) (fz:Nat × Nat) (hS:S b) (hb:w.heap[b]? = some (.cells cur e fz)) (hc:cur[0]? = some (.int .i64 n)) :
   RepC tab w S (.dat .fnw (some n)) (.func (.func tab.f1) #[] #[.pointer (some (at0 b 0))])
 | empty (t:Ty) (a:Option Addr) (cap:Nat):RepC tab w S (.dat (.list t) []) (.slice a 0 cap)
 | list (t:Ty) (l:List t.den) (b off cap:Nat) (cs:Nat→Nat→Value) (hS:S b) (hcap:l.length≤cap)
   (hc:∀ i j,i<l.length→j<t.width→w.cell? (at0 b (off+i*t.width+j))=some (cs i j))
   (hr:∀ i j c,i<l.length→(t.cells (nth l i t.dflt))[j]? = some c→RepC tab w S c (cs i j)) :
   RepC tab w S (.dat (.list t) l) (.slice (some (at0 b off)) l.length cap)

abbrev MemF:=Nat→Option Blk
abbrev Mu:=Nat→Option Loc

def ElemAt (tab:Tab) (w:World) (S:Nat→Prop) (t:Ty) (d:t.den) (b off:Nat):Prop :=
 S b∧∃ cs:Nat→Value,(∀ j,j<t.width→w.cell? (at0 b (off+j))=some (cs j))∧∀ j c,(t.cells d)[j]? = some c→RepC tab w S c (cs j)

def ViewOf (wd off n:Nat) (y x:Value):Prop :=
 ∃ a m cap a' cap',y=.slice a m cap∧x=.slice a' n cap'∧(off=0→a'=a)∧(0<n→a'=a.map fun ad=>at0 ad.block (ad.off+off*wd))∧n≤cap'∧off+cap'≤cap∧m≤off+cap'

def RelC (tab:Tab) (μ:Mu) (mem:MemF) (w:World) (S:Nat→Prop):C→Value→Prop
 | .dat t d,x=>RepC tab w S (.dat t d) x
 | .nil _,x=>x=.slice none 0 0
 | .ptr r o,x=>mem r≠none∧∀ cs,mem r=some (.box cs)→∃ b,μ r=some (.bx b)∧x=.pointer (some (at0 b o))
 | .own r,x=>mem r≠none∧∀ t l,mem r=some (.arr t l)→μ r=some (.ar x)
 | .view r off n,x=>mem r≠none∧∀ t l,mem r=some (.arr t l)→∃ y,μ r=some (.ar y)∧ViewOf t.width off n y x
 | .optr r i k,x=>mem r≠none∧∀ t l,mem r=some (.arr t l)→∃ b m cap,μ r=some (.ar (.slice (some (at0 b 0)) m cap))∧x=.pointer (some (at0 b (i*t.width+k)))
 | .eptr t l i k,x=>∃ b off,ElemAt tab w S t (nth l i t.dflt) b off∧x=.pointer (some (at0 b (off+k)))
 | .fn f caps,x=>(∀ r∈caps,mem r≠none)∧∃ vs:Array Value,x=.func (.func f) #[] vs∧vs.size=caps.length ∧
   ∀ (i r:Nat),caps[i]? = some r→∃ y,vs[i]? = some y∧y.oneCell'=true∧∀ cs,mem r=some (.box cs)→∃ b,μ r=some (.bx b)∧y=.pointer (some (at0 b 0))
 | .mp r,x=>mem r≠none∧∀ ks,mem r=some (.set ks)→∃ b,μ r=some (.bx b)∧x=.map (some b)
 | .ownx r,x=>mem r≠none∧∀ t l cs,mem r=some (.arx t l cs)→μ r=some (.ar x)
 | .optx r k,x=>mem r≠none∧∀ t l cs,mem r=some (.arx t l cs)→∃ b m cap,μ r=some (.ar (.slice (some (at0 b 0)) m cap))∧x=.pointer (some (at0 b (l.length*t.width+k)))
 | .cut r n,x=>mem r≠none∧∀ t l,mem r=some (.arr t l)→∃ a m cap,μ r=some (.ar (.slice a m cap))∧x=.slice a n n
 | .undef,_=>True
 | .any,_=>True

def RelW (tab:Tab) (μ:Mu) (mem:MemF) (w:World) (S:Nat→Prop):V→Value→Prop
 | .one c,x=>x.oneCell'=true∧RelC tab μ mem w S c x
 | .agg cs,x=>∃ xs:Array Value,x=.agg xs∧xs.size=cs.length∧∀ (i:Nat) c,cs[i]? = some c→∃ y,xs[i]? = some y∧y.oneCell'=true∧RelC tab μ mem w S c y
 | .tup _,_=>False

def RelV (tab:Tab) (μ:Mu) (mem:MemF) (w:World) (S:Nat→Prop):V→Value→Prop
 | .one .undef,_=>True
 | .one c,x=>RelW tab μ mem w S (.one c) x
 | .agg cs,x=>RelW tab μ mem w S (.agg cs) x
 | .tup vs,x=>∃ xs:Array Value,x=.tuple xs∧xs.size=vs.length∧∀ (i:Nat) v,vs[i]? = some v→∃ y,xs[i]? = some y∧RelW tab μ mem w S v y

def BlkRel (tab:Tab) (μ:Mu) (mem:MemF) (w:World) (S:Nat→Prop):Blk→Loc→Prop
 | .box cs,.bx b=>∃ (vs:Array Value) (e:TypeId),w.heap[b]? = some (.cells vs e (0,0))∧vs.size=cs.length ∧
   ∀ (i:Nat) c,cs[i]? = some c→∃ y,vs[i]? = some y∧y.oneCell'=true∧RelC tab μ mem w S c y
 | .arr t l,.ar x=>(x=.slice none 0 0∧l=[]) ∨
   ∃ (b cap:Nat) (cur:Array Value) (e:TypeId),x=.slice (some (at0 b 0)) l.length cap∧w.heap[b]? = some (.cells cur e (0,0))∧l.length≤cap∧cap≤maxLen∧cap*t.width≤cur.size ∧
    ∀ i j c,i<l.length→(t.cells (nth l i t.dflt))[j]? = some c→∃ y,cur[i*t.width+j]? = some y∧y.oneCell'=true∧RepC tab w S c y
 | .set ks,.bx b=>∃ (es:Array MapEntry) (clock:Nat),w.heap[b]? = some (.map es clock)∧es.size=ks.length∧∀ (i:Nat) k,ks[i]? = some k→∃ e,es[i]? = some e∧e.key=.int .i64 k∧e.val=.bool true
 | .arx t l cs,.ar x=>∃ (b cap:Nat) (cur:Array Value) (e:TypeId),x=.slice (some (at0 b 0)) (l.length+1) cap∧w.heap[b]? = some (.cells cur e (0,0))∧l.length+1≤cap∧cap≤maxLen∧cap*t.width≤cur.size ∧
    (∀ i j c,i<l.length→(t.cells (nth l i t.dflt))[j]? = some c→∃ y,cur[i*t.width+j]? = some y∧y.oneCell'=true∧RepC tab w S c y) ∧
    ∀ j c,cs[j]? = some c→j<t.width∧∃ y,cur[l.length*t.width+j]? = some y∧y.oneCell'=true∧RelC tab μ mem w S c y
 | _,_=>False

def Blk.alive:Blk→Prop
 | .dead=>False
 | _=>True

def Live (mem:MemF) (r:Nat):Prop:=∃ B,mem r=some B∧B.alive

def powTen:List Int:=[1,10,100,1000,10000,100000,1000000,10000000,100000000,1000000000,10000000000,100000000000,1000000000000,10000000000000,100000000000000,1000000000000000,10000000000000000,100000000000000000,1000000000000000000,10000000000000000000]
def PowT (tab:Tab) (w:World) (S:Nat→Prop):Prop :=
 ∀ g,tab.pow=some g→S g∧∃ ty m,w.heap[g]? = some (.cells (powTen.map (Value.int .u64)).toArray ty m)
def MaxT (tab:Tab) (w:World) (S:Nat→Prop):Prop:=∀ g,tab.maxl=some g→S g∧∃ m,w.cell? (at0 g 0)=some (.int .i64 m)
def ErrT (tab:Tab) (w:World) (S:Nat→Prop):Prop:=∀ g,g∈tab.errs→S g∧∃ ev,w.cell? (at0 g 0)=some ev∧(ev=.nilIface∨∃ t u,ev=.iface t u)
structure PowIs (tab:Tab) (w:World) (S:Nat→Prop):Prop where
 t:PowT tab w S
 m:MaxT tab w S
 e:ErrT tab w S
structure Inv (tab:Tab) (μ:Mu) (mem:MemF) (w:World) (S:Nat→Prop):Prop where
 rel:∀ r B,mem r=some B→B.alive→∃ l,μ r=some l∧BlkRel tab μ mem w S B l
 inj:∀ r r',r≠r'→Live mem r→Live mem r'→∀ l l' b,μ r=some l→μ r'=some l'→l.block=some b→l'.block≠some b
 sep:∀ r,Live mem r→∀ l b,μ r=some l→l.block=some b→¬ S b
 lt:∀ b,S b→b<w.heap.size
 pow:PowIs tab w S

def OwnB (μ:Mu) (mem:MemF) (b:Nat):Prop:=∃ r l,Live mem r∧μ r=some l∧l.block=some b

def SameKind:Blk→Blk→Prop
 | _,.dead=>True
 | .box _,.box _=>True
 | .arr t _,.arr u _=>t=u
 | .set _,.set _=>True
 | .arx t l _,.arx u k _=>t=u∧l.length=k.length
 | _,_=>False

structure Ext (μ:Mu) (mem:MemF) (w:World) (S:Nat→Prop) (μ':Mu) (mem':MemF) (w':World) (S':Nat→Prop):Prop where
 names:∀ r,mem r≠none→mem' r≠none
 kinds:∀ r B B',mem r=some B→mem' r=some B'→SameKind B B'∧(Live mem' r→μ' r=μ r)
 sub:∀ b,S b→S' b
 size:w.heap.size≤w'.heap.size
 heap:∀ b,b<w.heap.size→¬ OwnB μ mem b→w'.heap[b]? = w.heap[b]?
 only:∀ b,S' b→S b∨w.heap.size≤b∨OwnB μ mem b
 own:∀ b,OwnB μ' mem' b→OwnB μ mem b∨w.heap.size≤b
 os:w'.os=w.os
 tape:w'.tape=w.tape
 output:w'.output=w.output

section
variable {tab:Tab} {μ μ':Mu} {mem mem':MemF} {w w':World} {S S':Nat→Prop}

theorem cell?_of_heap {b o:Nat} (h:w'.heap[b]? = w.heap[b]?):w'.cell? (at0 b o)=w.cell? (at0 b o):=by
 simp [World.cell?,at0,h]

theorem RepC.mono {c:C} {x:Value} (h:RepC tab w S c x) (hs:∀ b,S b→S' b) (hh:∀ b,S b→w'.heap[b]? = w.heap[b]?):RepC tab w' S' c x:=by
 induction h with
 | int n=>exact .int n
 | bool b=>exact .bool b
 | str s=>exact .str s
 | u64 n=>exact .u64 n
 | err0=>exact .err0
 | err1 t v=>exact .err1 t v
 | fnw0=>exact .fnw0
 | fnw1 n b cur e fz hS hb hc=>exact .fnw1 n b cur e fz (hs _ hS) ((hh _ hS).trans hb) hc
 | empty t a cap=>exact .empty t a cap
 | list t l b off cap cs hS hcap hc _ ih =>
  exact .list t l b off cap cs (hs _ hS) hcap (fun i j hi hj=>(cell?_of_heap (hh _ hS)).trans (hc i j hi hj)) (fun i j c hi hj=>ih i j c hi hj)

theorem ElemAt.mono {t:Ty} {d:t.den} {b off:Nat} (h:ElemAt tab w S t d b off) (hs:∀ b,S b→S' b) (hh:∀ b,S b→w'.heap[b]? = w.heap[b]?):ElemAt tab w' S' t d b off:=by
 obtain ⟨hS,cs,h1,h2⟩:=h
 exact ⟨hs _ hS,cs,fun j hj=>(cell?_of_heap (hh _ hS)).trans (h1 j hj),fun j c hj=>(h2 j c hj).mono hs hh⟩

theorem Inv.notOwn (I:Inv tab μ mem w S) {b:Nat} (h:S b):¬ OwnB μ mem b:=fun ⟨r,l,hl,hm,hb⟩=>I.sep r hl l b hm hb h

theorem Ext.keeps (E:Ext μ mem w S μ' mem' w' S') (I:Inv tab μ mem w S):∀ b,S b→w'.heap[b]? = w.heap[b]? :=
 fun b hb=>E.heap b (I.lt b hb) (I.notOwn hb)

theorem PowIs.mono (h:PowIs tab w S) (hs:∀ b,S b→S' b):PowIs tab w S':=⟨fun g hg=>⟨hs g (h.t g hg).1,(h.t g hg).2⟩,fun g hg=>⟨hs g (h.m g hg).1,(h.m g hg).2⟩,fun g hg=>⟨hs g (h.e g hg).1,(h.e g hg).2⟩⟩
theorem PowIs.of_heap (h:PowIs tab w S) (he:w'.heap=w.heap):PowIs tab w' S:=by
 have hc:∀ g,w'.cell? (at0 g 0)=w.cell? (at0 g 0):=fun g=>cell?_of_heap (by rw [he])
 exact ⟨fun g hg=>by rw [he]; exact h.t g hg,fun g hg=>by rw [hc]; exact h.m g hg,fun g hg=>by rw [hc]; exact h.e g hg⟩
theorem Inv.powExt (I:Inv tab μ mem w S) (E:Ext μ mem w S μ' mem' w' S'):PowIs tab w' S':=by
 refine ⟨fun g hg=>?_,fun g hg=>?_,fun g hg=>?_⟩
 ·obtain ⟨h1,ty,m,h2⟩:=I.pow.t g hg
  exact ⟨E.sub g h1,ty,m,(E.keeps I g h1).trans h2⟩
 ·obtain ⟨h1,m,h2⟩:=I.pow.m g hg
  exact ⟨E.sub g h1,m,(cell?_of_heap (E.keeps I g h1)).trans h2⟩
 ·obtain ⟨h1,ev,h2,h3⟩:=I.pow.e g hg
  exact ⟨E.sub g h1,ev,(cell?_of_heap (E.keeps I g h1)).trans h2,h3⟩

theorem exists_of_ne {α:Type} {o:Option α} (h:o≠none):∃ x,o=some x:=by
 cases o with
 | none=>exact absurd rfl h
 | some x=>exact ⟨x,rfl⟩

theorem RelC.ext (E:Ext μ mem w S μ' mem' w' S') (I:Inv tab μ mem w S) {c:C} {x:Value} (h:RelC tab μ mem w S c x):RelC tab μ' mem' w' S' c x:=by
 have hk:=E.keeps I
 cases c with
 | dat t d=>exact RepC.mono h E.sub hk
 | nil t=>exact h
 | undef=>trivial
 | any=>trivial
 | ptr r o =>
  obtain ⟨h0,h1⟩:=h
  refine ⟨E.names r h0,fun cs hcs=>?_⟩
  obtain ⟨B,hB⟩:=exists_of_ne h0
  have hkind:=E.kinds r B _ hB hcs
  cases B with
  | box cs0=>obtain ⟨b,e1,e2⟩:=h1 cs0 hB; exact ⟨b,(hkind.2 ⟨_,hcs,trivial⟩).trans e1,e2⟩
  | arr t l=>exact hkind.1.elim
  | set ks=>exact hkind.1.elim
  | arx t' l' cs'=>exact hkind.1.elim
  | dead=>exact hkind.1.elim
 | mp r =>
  obtain ⟨h0,h1⟩:=h
  refine ⟨E.names r h0,fun cs hcs=>?_⟩
  obtain ⟨B,hB⟩:=exists_of_ne h0
  have hkind:=E.kinds r B _ hB hcs
  cases B with
  | set cs0=>obtain ⟨b,e1,e2⟩:=h1 cs0 hB; exact ⟨b,(hkind.2 ⟨_,hcs,trivial⟩).trans e1,e2⟩
  | arr t l=>exact hkind.1.elim
  | box ks=>exact hkind.1.elim
  | arx t' l' cs'=>exact hkind.1.elim
  | dead=>exact hkind.1.elim
 | ownx r =>
  obtain ⟨h0,h1⟩:=h
  refine ⟨E.names r h0,fun t l cs hcs=>?_⟩
  obtain ⟨B,hB⟩:=exists_of_ne h0
  have hkind:=E.kinds r B _ hB hcs
  cases B with
  | arx t0 l0 cs0=>exact (hkind.2 ⟨_,hcs,trivial⟩).trans (h1 t0 l0 cs0 hB)
  | _=>exact hkind.1.elim
 | optx r k =>
  obtain ⟨h0,h1⟩:=h
  refine ⟨E.names r h0,fun t l cs hcs=>?_⟩
  obtain ⟨B,hB⟩:=exists_of_ne h0
  have hkind:=E.kinds r B _ hB hcs
  cases B with
  | arx t0 l0 cs0 =>
   obtain ⟨ht,hl⟩:=hkind.1
   subst ht
   obtain ⟨b,m,cap,e1,e2⟩:=h1 t0 l0 cs0 hB
   exact ⟨b,m,cap,(hkind.2 ⟨_,hcs,trivial⟩).trans e1,by rw [← hl]; exact e2⟩
  | _=>exact hkind.1.elim
 | own r =>
  obtain ⟨h0,h1⟩:=h
  refine ⟨E.names r h0,fun t l hcs=>?_⟩
  obtain ⟨B,hB⟩:=exists_of_ne h0
  have hkind:=E.kinds r B _ hB hcs
  cases B with
  | box cs0=>exact hkind.1.elim
  | set ks=>exact hkind.1.elim
  | arx t' l' cs'=>exact hkind.1.elim
  | arr t0 l0=>exact (hkind.2 ⟨_,hcs,trivial⟩).trans (h1 t0 l0 hB)
  | dead=>exact hkind.1.elim
 | view r off n =>
  obtain ⟨h0,h1⟩:=h
  refine ⟨E.names r h0,fun t l hcs=>?_⟩
  obtain ⟨B,hB⟩:=exists_of_ne h0
  have hkind:=E.kinds r B _ hB hcs
  cases B with
  | box cs0=>exact hkind.1.elim
  | set ks=>exact hkind.1.elim
  | arx t' l' cs'=>exact hkind.1.elim
  | arr t0 l0 =>
   obtain ⟨y,e1,e2⟩:=h1 t0 l0 hB
   have ht:t0=t:=hkind.1
   subst ht
   exact ⟨y,(hkind.2 ⟨_,hcs,trivial⟩).trans e1,e2⟩
  | dead=>exact hkind.1.elim
 | cut r n =>
  obtain ⟨h0,h1⟩:=h
  refine ⟨E.names r h0,fun t l hcs=>?_⟩
  obtain ⟨B,hB⟩:=exists_of_ne h0
  have hkind:=E.kinds r B _ hB hcs
  cases B with
  | arr t0 l0 =>
   obtain ⟨a,m,cap,e1,e2⟩:=h1 t0 l0 hB
   exact ⟨a,m,cap,(hkind.2 ⟨_,hcs,trivial⟩).trans e1,e2⟩
  | _=>exact hkind.1.elim
 | optr r i k =>
  obtain ⟨h0,h1⟩:=h
  refine ⟨E.names r h0,fun t l hcs=>?_⟩
  obtain ⟨B,hB⟩:=exists_of_ne h0
  have hkind:=E.kinds r B _ hB hcs
  cases B with
  | box cs0=>exact hkind.1.elim
  | set ks=>exact hkind.1.elim
  | arx t' l' cs'=>exact hkind.1.elim
  | arr t0 l0 =>
   have ht:t0=t:=hkind.1
   subst ht
   obtain ⟨b,m,cap,e1,e2⟩:=h1 t0 l0 hB
   exact ⟨b,m,cap,(hkind.2 ⟨_,hcs,trivial⟩).trans e1,e2⟩
  | dead=>exact hkind.1.elim
 | eptr t l i k =>
  obtain ⟨b,off,h1,h2⟩:=h
  exact ⟨b,off,h1.mono E.sub hk,h2⟩
 | fn f caps =>
  obtain ⟨h0,vs,h1,h2,h3⟩:=h
  refine ⟨fun r hr=>E.names r (h0 r hr),vs,h1,h2,fun i r hr=>?_⟩
  obtain ⟨y,y1,y2,y3⟩:=h3 i r hr
  refine ⟨y,y1,y2,fun cs hcs=>?_⟩
  obtain ⟨B,hB⟩:=exists_of_ne (h0 r (List.mem_of_getElem? hr))
  have hkind:=E.kinds r B _ hB hcs
  cases B with
  | box cs0=>obtain ⟨b,e1,e2⟩:=y3 cs0 hB; exact ⟨b,(hkind.2 ⟨_,hcs,trivial⟩).trans e1,e2⟩
  | set ks=>exact hkind.1.elim
  | arx t' l' cs'=>exact hkind.1.elim
  | arr t l=>exact hkind.1.elim
  | dead=>exact hkind.1.elim
end
end Vm
end Go.Proofs.YtlbppjmekiemiacGreatDoor


/- The executor on data: each operation of it is one of the machine. No condition. -/
namespace Go.Proofs.YtlbppjmekiemiacGreatDoor
namespace Vm

def ZeroOk:List C→List Value→Prop
 | [],[]=>True
 | .dat .int n::cs,x::xs=>(n:Int)=0∧x=.int .i64 0∧ZeroOk cs xs
 | .dat .bool b::cs,x::xs=>(b:Bool)=false∧x=.bool false∧ZeroOk cs xs
 | .dat .str s::cs,x::xs=>(s:List UInt8)=[]∧x=.string ⟨#[]⟩∧ZeroOk cs xs
 | .nil _::cs,x::xs=>x=.slice none 0 0∧ZeroOk cs xs
 | .undef::cs,x::xs=>x.oneCell'=true∧ZeroOk cs xs
 | _,_=>False

def ElemZero (tab:Tab) (t:Ty) (xs:List Value):Prop :=
 ∀ (j:Nat) c,(t.cells t.dflt)[j]? = some c→∃ y,xs[j]? = some y∧y.oneCell'=true∧∀ w S,RepC tab w S c y

structure TIok (P:Program) (tab:Tab) (T:Nat) (ti:TI):Prop where
 info:∃ i z,P.info? T=some i∧i.size=ti.n∧i.zero=some z∧ZeroOk ti.zero z.cells.toList∧(match ti.agg with | true=>∃ cs,z=.agg cs | false=>z.cells=#[z])
 zlen:ti.zero.length=ti.n
 isAgg:∀ w,(isAgg T).run P w=.ok ti.agg w
 kind:match ti.kd with
  | .int=>P.underlying T=some (.int .i64)
  | .bool=>P.underlying T=some .bool
  | .str=>P.underlying T=some .string
  | .u64=>P.underlying T=some (.int .u64)
  | .slice t e=>P.underlying T=some (.slice e)∧∃ i z,P.info? e=some i∧i.size=t.width∧i.bytes=ti.bytes∧i.zero=some z∧z.cells.size=t.width∧0<t.width∧0<ti.bytes∧z.cells.toList.all Value.oneCell'=true∧(t.noFn=true→ElemZero tab t z.cells.toList)
  | .struct=>∃ fs,P.underlying T=some (.struct fs)∧fs.toList.mapM (fun f=>(P.info? f.type).map fun i=>(f.offset,i.size))=some (ti.offs.zip ti.sizes)∧ti.sizes.length=ti.offs.length∧ti.sizes.all (fun n=>Nat.ble 1 n)=true
  | .array n sz=>∃ e i,P.underlying T=some (.array n e)∧P.info? e=some i∧i.size=sz∧sz≠0∧ti.offs=(List.range n).map (·*sz)∧ti.sizes=List.replicate n sz ∧
    ∀ w,(Go.isAgg e).run P w=.ok (Nat.ble 2 sz) w
  | .mapib=>∃ K E i,P.underlying T=some (.map K E)∧P.underlying K=some (.int .i64)∧P.info? E=some i∧i.zero=some (.bool false)
  | .iface=>∃ ms,P.underlying T=some (.interface ms)
  | .other=>True

structure FnwOk (P:Program) (tab:Tab):Prop where
 ok0 : ∃ fn, P.funcs[tab.f0]? = some fn ∧ fn.body.isSome = true ∧ (fn.name == "runtime.NumGoroutine") = false
 ok1 : ∃ fn, P.funcs[tab.f1]? = some fn ∧ fn.body.isSome = true ∧ (fn.name == "runtime.NumGoroutine") = false
 run0:∀ (n:Int) (w:World),Calls P tab.f0 #[.int .i64 n] w fun e w'=>e=.returned (.int .i64 (fnwApp none n))∧w'=w
 run1:∀ (n m:Int) (b:Nat) (w:World),w.cell? (at0 b 0)=some (.int .i64 m)→Calls P tab.f1 #[.int .i64 n,.pointer (some (at0 b 0))] w fun e w'=>e=.returned (.int .i64 (fnwApp (some m) n))∧w'=w

structure TabOk (P:Program) (tab:Tab):Prop where
 fnw:tab.w=true→FnwOk P tab
 ok:∀ T ti,tyAt tab T=some ti→TIok P tab T ti
 flds:∀ T ti,memb tab.eqs T=true→tyAt tab T=some ti→∀ (as:List C) (xs:Array Value) (q:Bool) (f:Nat) (c:C) (y:Value) w,eqCs ti.zero as=some q→as[f]? = some c→xs[f]? = some y→(Instr.field T (.agg xs) f).run P w=.ok y w
 eqs:∀ T ti,memb tab.eqs T=true→tyAt tab T=some ti→∀ (as bs:List C) (xs ys:Array Value) (q r:Bool) w,eqCs ti.zero as=some q→eqCs as bs=some r→xs.size=as.length→ys.size=bs.length →
  (∀ (i:Nat) c,as[i]? = some c→∃ y,xs[i]? = some y∧RepC tab w (fun _=>False) c y)→(∀ (i:Nat) c,bs[i]? = some c→∃ y,ys[i]? = some y∧RepC tab w (fun _=>False) c y) →
  (∀ op x y,(eqGuard op T x y (.agg xs) (.agg ys)).run P w=.ok () w)∧(Op.equal T (.agg xs) (.agg ys)).run P w=.ok r w

def Runs (P:Program) (o:Oper) (a:Act) (w:World) (R:Value→World→Prop):Prop :=
 ∀ (K:Act→World→Prop) (Q:Exit→Act→World→Prop),(∀ x w',R x w'→K (a.put o.dst x) w')→o.wp P a w K Q

def memU (m:Mem) (mem:MemF):MemF:=fun r=>match look m r with | some B=>some B | none=>mem r

def After (tab:Tab) (μ:Mu) (mem:MemF) (w:World) (S:Nat→Prop) (m:Mem) (v:V) (x:Value) (w':World):Prop :=
 ∃ μ' S',Ext μ mem w S μ' (memU m mem) w' S'∧Inv tab μ' (memU m mem) w' S'∧RelV tab μ' (memU m mem) w' S' v x

section
variable {P:Program} {tab:Tab} {μ μ':Mu} {mem mem':MemF} {w w':World} {S S':Nat→Prop}

theorem runs_val {o:Oper} {a:Act} {x:Value} {R:Value→World→Prop} (h:(execOp a.eval o).run P w=.ok (.value x) w') (hR:R x w'):Runs P o a w R :=
 fun K Q hk=>by
  unfold Oper.wp
  rw [h]
  exact hk _ _ hR

theorem runs_skip {o:Oper} {a:Act} {R:Value→World→Prop} (h:(execOp a.eval o).run P w=.ok .skip w') (hR:R Go.undef w'):Runs P o a w R :=
 fun K Q hk=>by
  unfold Oper.wp
  rw [h]
  exact hk _ _ hR

theorem SameKind.refl (B:Blk):SameKind B B:=by cases B<;>simp [SameKind]

theorem Ext.refl:Ext μ mem w S μ mem w S where
 names:=fun _ h=>h
 kinds:=fun r B B' h h'=>by
  rw [h] at h'; cases h'
  exact ⟨SameKind.refl B,fun _=>rfl⟩
 sub:=fun _ h=>h
 size:=Nat.le_refl _
 heap:=fun _ _ _=>rfl
 only:=fun _ h=>.inl h
 own:=fun _ h=>.inl h
 os:=rfl
 tape:=rfl
 output:=rfl

theorem memU_nil:memU [] mem=mem:=rfl

theorem after_same (I:Inv tab μ mem w S) {v:V} {x:Value} (h:RelV tab μ mem w S v x):After tab μ mem w S [] v x w :=
 ⟨μ,S,by rw [memU_nil]; exact Ext.refl,by rw [memU_nil]; exact I,by rw [memU_nil]; exact h⟩

def RelVs (tab:Tab) (μ:Mu) (mem:MemF) (w:World) (S:Nat→Prop):List V→List Value→Prop
 | [],[]=>True
 | v::vs,x::xs=>RelV tab μ mem w S v x∧RelVs tab μ mem w S vs xs
 | _,_=>False

def Sees (m:Mem) (mem:MemF):Prop:=∀ r B,look m r=some B→B.alive→mem r=some B

theorem rel_int {x:Value} {n:Int} (h:RelV tab μ mem w S (.one (.dat .int n)) x):x=.int .i64 n:=by
 obtain ⟨_,h⟩:=h
 cases h
 rfl
theorem rel_u64 {x:Value} {n:Int} (h:RelV tab μ mem w S (.one (.dat .u64 n)) x):x=.int .u64 n:=by
 obtain ⟨_,h⟩:=h
 cases h; rfl

theorem rel_bool {x:Value} {n:Bool} (h:RelV tab μ mem w S (.one (.dat .bool n)) x):x=.bool n:=by
 obtain ⟨_,h⟩:=h
 cases h
 rfl
theorem rel_str {x:Value} {s:List UInt8} (h:RelV tab μ mem w S (.one (.dat .str s)) x):x=.string ⟨s.toArray⟩:=by
 obtain ⟨_,h⟩:=h
 cases h
 rfl
theorem mk_int (n:Int):RelV tab μ mem w S (.one (.dat .int n)) (.int .i64 n):=⟨rfl,.int n⟩
theorem mk_u64 (n:Int):RelV tab μ mem w S (.one (.dat .u64 n)) (.int .u64 n):=⟨rfl,.u64 n⟩
theorem mk_bool (n:Bool):RelV tab μ mem w S (.one (.dat .bool n)) (.bool n):=⟨rfl,.bool n⟩
theorem mk_str (s:List UInt8):RelV tab μ mem w S (.one (.dat .str s)) (.string ⟨s.toArray⟩):=⟨rfl,.str s⟩

theorem RelVs.len:∀ {vs:List V} {xs:List Value},RelVs tab μ mem w S vs xs→vs.length=xs.length
 | [],[],_=>rfl
 | _::_,_::_,h=>by simp [RelVs.len h.2]
 | [],_::_,h=>h.elim
 | _::_,[],h=>h.elim

theorem run_sizeOf {T:Nat} {i:TypeInfo} (h:P.info? T=some i) (w:World):(sizeOf T).run P w=.ok i.size w:=by
 simp [sizeOf,typeInfo,h]

theorem run_zero {T:Nat} {i:TypeInfo} {z:Value} (h:P.info? T=some i) (hz:i.zero=some z) (w:World):(zeroValue T).run P w=.ok z w:=by
 simp [zeroValue,typeInfo,h,hz]

theorem beq_ne {r q:Nat} (h:q≠r):Nat.beq r q=false:=by
 cases h':Nat.beq r q with
 | true=>exact absurd (Nat.eq_of_beq_eq_true h').symm h
 | false=>rfl

theorem memU_ne {r q:Nat} {B:Blk} (h:q≠r):memU [(r,B)] mem q=mem q:=by
 simp only [memU,look,beq_ne h]

theorem memU_eq {r:Nat} {B:Blk}:memU [(r,B)] mem r=some B:=by
 simp only [memU,look,Nat.beq_refl]

theorem live_ne {r q:Nat} {B:Blk} (h:q≠r):Live (memU [(r,B)] mem) q↔Live mem q:=by
 unfold Live; rw [memU_ne h]

theorem look_append (m1 m2:Mem) (r:Nat):look (m1++m2) r=match look m1 r with | some B=>some B | none=>look m2 r:=by
 induction m1 with
 | nil=>rfl
 | cons p rest ih =>
  obtain ⟨k,v⟩:=p
  simp only [List.cons_append,look]
  cases Nat.beq k r with
  | true=>rfl
  | false=>exact ih

theorem memU_append (m1 m2:Mem):memU (m1++m2) mem=memU m1 (memU m2 mem):=by
 funext r
 simp only [memU,look_append]
 cases look m1 r with
 | some B=>rfl
 | none=>rfl

theorem memU_cons (p:Nat × Blk) (m:Mem):memU (p::m) mem=memU [p] (memU m mem):=memU_append [p] m

theorem SameKind.trans {A B D:Blk} (h:SameKind A B) (h':SameKind B D):SameKind A D:=by
 cases A<;>cases B<;>cases D<;>simp_all [SameKind]

theorem SameKind.alive {A B:Blk} (h:SameKind A B) (hb:B.alive):A.alive:=by
 cases A<;>cases B<;>simp_all [SameKind,Blk.alive]

theorem Ext.trans {μ'':Mu} {mem'':MemF} {w'':World} {S'':Nat→Prop} (E:Ext μ mem w S μ' mem' w' S') (E':Ext μ' mem' w' S' μ'' mem'' w'' S''):Ext μ mem w S μ'' mem'' w'' S'' where
 names:=fun r h=>E'.names r (E.names r h)
 kinds:=fun r B B'' h h''=>by
  obtain ⟨B',h'⟩:=exists_of_ne (E.names r (by rw [h]; exact fun e=>nomatch e))
  have k1:=E.kinds r B B' h h'
  have k2:=E'.kinds r B' B'' h' h''
  refine ⟨k1.1.trans k2.1,fun hl=>?_⟩
  obtain ⟨B3,hB3,ha⟩:=hl
  rw [h''] at hB3; cases hB3
  exact (k2.2 ⟨_,h'',ha⟩).trans (k1.2 ⟨_,h',k2.1.alive ha⟩)
 sub:=fun b h=>E'.sub b (E.sub b h)
 size:=Nat.le_trans E.size E'.size
 heap:=fun b hb hn=>by
  refine (E'.heap b (Nat.lt_of_lt_of_le hb E.size) fun h=>?_).trans (E.heap b hb hn)
  rcases E.own b h with h | h
  ·exact hn h
  ·omega
 only:=fun b h=>by
  rcases E'.only b h with h | h | h
  ·exact E.only b h
  ·exact .inr (.inl (Nat.le_trans E.size h))
  ·rcases E.own b h with h | h
   ·exact .inr (.inr h)
   ·exact .inr (.inl h)
 own:=fun b h=>by
  rcases E'.own b h with h | h
  ·exact E.own b h
  ·exact .inr (Nat.le_trans E.size h)
 os:=E'.os.trans E.os
 tape:=E'.tape.trans E.tape
 output:=E'.output.trans E.output

theorem Inv.blockLt (I:Inv tab μ mem w S) {q:Nat} {l:Loc} {b:Nat} (h1:Live mem q) (h2:μ q=some l) (h3:l.block=some b):b<w.heap.size:=by
 obtain ⟨B',hB',ha⟩:=h1
 obtain ⟨l'',e,hrel'⟩:=I.rel q B' hB' ha
 rw [h2] at e; cases e
 cases B' with
 | dead=>exact ha.elim
 | box cs =>
  cases l with
  | ar x=>exact hrel'.elim
  | bx b' =>
   obtain ⟨vs,e,hh,_⟩:=hrel'
   simp only [Loc.block] at h3; cases h3
   exact (Array.getElem?_eq_some_iff.1 hh).1
 | set ks =>
  cases l with
  | ar x=>exact hrel'.elim
  | bx b' =>
   obtain ⟨es,clock,hh,_⟩:=hrel'
   simp only [Loc.block] at h3; cases h3
   exact (Array.getElem?_eq_some_iff.1 hh).1
 | arx t ll cs =>
  cases l with
  | bx b'=>exact hrel'.elim
  | ar x =>
   obtain ⟨b',cap,cur,e,rfl,hh,_⟩:=hrel'
   simp [Loc.block,Value.ownBlock,at0] at h3
   subst h3
   exact (Array.getElem?_eq_some_iff.1 hh).1
 | arr t ll =>
  cases l with
  | bx b'=>exact hrel'.elim
  | ar x =>
   rcases hrel' with ⟨rfl,_⟩ | ⟨b',cap,cur,e,rfl,hh,_⟩
   ·simp [Loc.block,Value.ownBlock] at h3
   ·simp [Loc.block,Value.ownBlock,at0] at h3
    subst h3
    exact (Array.getElem?_eq_some_iff.1 hh).1

theorem BlkRel.ext (E:Ext μ mem w S μ' mem' w' S') (I:Inv tab μ mem w S) {B:Blk} {l:Loc} (h:BlkRel tab μ mem w S B l) (hh:∀ b,l.block=some b→w'.heap[b]? = w.heap[b]?) :
  BlkRel tab μ' mem' w' S' B l:=by
 cases B with
 | dead=>exact h.elim
 | box cs =>
  cases l with
  | ar x=>exact h.elim
  | bx b' =>
   obtain ⟨vs,ty,hb,hs,hc⟩:=h
   refine ⟨vs,ty,(hh b' rfl).trans hb,hs,fun i c hi=>?_⟩
   obtain ⟨y,h1,h2,h3⟩:=hc i c hi
   exact ⟨y,h1,h2,h3.ext E I⟩
 | set ks =>
  cases l with
  | ar x=>exact h.elim
  | bx b' =>
   obtain ⟨es,clock,hb,hs,hc⟩:=h
   exact ⟨es,clock,(hh b' rfl).trans hb,hs,hc⟩
 | arx t ll cs =>
  cases l with
  | bx b'=>exact h.elim
  | ar x =>
   obtain ⟨b',cap,cur,ty,rfl,hb,h3,h4,h5,h6,h7⟩:=h
   refine ⟨b',cap,cur,ty,rfl,(hh b' rfl).trans hb,h3,h4,h5,fun i j c hi hj=>?_,fun j c hj=>?_⟩
   ·obtain ⟨y,g1,g2,g3⟩:=h6 i j c hi hj
    exact ⟨y,g1,g2,g3.mono E.sub (E.keeps I)⟩
   ·obtain ⟨g0,y,g1,g2,g3⟩:=h7 j c hj
    exact ⟨g0,y,g1,g2,g3.ext E I⟩
 | arr t ll =>
  cases l with
  | bx b'=>exact h.elim
  | ar x =>
   rcases h with h | ⟨b',cap,cur,ty,rfl,hb,h3,h4,h5,h6⟩
   ·exact .inl h
   ·refine .inr ⟨b',cap,cur,ty,rfl,(hh b' rfl).trans hb,h3,h4,h5,fun i j c hi hj=>?_⟩
    obtain ⟨y,g1,g2,g3⟩:=h6 i j c hi hj
    exact ⟨y,g1,g2,g3.mono E.sub (E.keeps I)⟩

def muU (r:Nat) (l:Loc) (μ:Mu):Mu:=fun q=>if q=r then some l else μ q

theorem muU_eq {r:Nat} {l:Loc}:muU r l μ r=some l:=if_pos rfl
theorem muU_ne {r q:Nat} {l:Loc} (h:q≠r):muU r l μ q=μ q:=if_neg h

theorem alloc_E {o:Obj} {r:Nat} {B:Blk} {l:Loc} (hr:mem r=none) (hl:l.block=some w.heap.size∨l.block=none) :
  Ext μ mem w S (muU r l μ) (memU [(r,B)] mem) (w.alloc o) S:=by
 refine ⟨fun q hq=>?_,fun q B1 B2 h1 h2=>?_,fun _ h=>h,by simp,fun b hb _=>heap_alloc_old w o hb,fun _ h=>.inl h,fun b hb=>?_,rfl,rfl,rfl⟩
 ·by_cases e:q=r
  ·subst e; exact absurd hr hq
  ·rw [memU_ne e]; exact hq
 ·by_cases e:q=r
  ·subst e; rw [hr] at h1; cases h1
  ·rw [memU_ne e,h1] at h2; cases h2
   exact ⟨SameKind.refl _,fun _=>muU_ne e⟩
 ·obtain ⟨q,l',h1,h2,h3⟩:=hb
  by_cases e:q=r
  ·subst e
   rw [muU_eq] at h2
   cases h2
   rcases hl with hl | hl
   ·rw [hl] at h3; cases h3; exact .inr (Nat.le_refl _)
   ·rw [hl] at h3; cases h3
  ·rw [muU_ne e] at h2
   exact .inl ⟨q,l',(live_ne e).1 h1,h2,h3⟩

theorem alloc_I {o:Obj} {r:Nat} {B:Blk} {l:Loc} (hr:mem r=none) (hl:l.block=some w.heap.size∨l.block=none) (I:Inv tab μ mem w S)
  (hrel:BlkRel tab (muU r l μ) (memU [(r,B)] mem) (w.alloc o) S B l):Inv tab (muU r l μ) (memU [(r,B)] mem) (w.alloc o) S:=by
 have E:=alloc_E (μ:=μ) (S:=S) (o:=o) (B:=B) hr hl
 refine ⟨fun q B' hB' ha=>?_,fun q q' hqq h1 h2 l1 l2 b e1 e2 hb hb'=>?_,fun q h1 l1 b e1 hb hS=>?_,fun b hb=>?_,I.powExt E⟩
 ·by_cases e:q=r
  ·subst e
   rw [memU_eq] at hB'; cases hB'
   exact ⟨l,muU_eq,hrel⟩
  ·rw [memU_ne e] at hB'
   obtain ⟨l',e1,e2⟩:=I.rel q B' hB' ha
   refine ⟨l',(muU_ne e).trans e1,e2.ext E I fun b hb=>heap_alloc_old w o (I.blockLt ⟨B',hB',ha⟩ e1 hb)⟩
 ·by_cases e:q=r
  ·subst e
   rw [muU_eq] at e1; cases e1
   have hq':q'≠q:=fun h=>hqq h.symm
   rw [muU_ne hq'] at e2
   have:=I.blockLt ((live_ne hq').1 h2) e2 hb'
   rcases hl with hl | hl<;>rw [hl] at hb<;>cases hb
   omega
  ·rw [muU_ne e] at e1
   by_cases e':q'=r
   ·subst e'
    rw [muU_eq] at e2; cases e2
    have:=I.blockLt ((live_ne e).1 h1) e1 hb
    rcases hl with hl | hl<;>rw [hl] at hb'<;>cases hb'
    omega
   ·rw [muU_ne e'] at e2
    exact I.inj q q' hqq ((live_ne e).1 h1) ((live_ne e').1 h2) l1 l2 b e1 e2 hb hb'
 ·by_cases e:q=r
  ·subst e
   rw [muU_eq] at e1; cases e1
   rcases hl with hl | hl<;>rw [hl] at hb<;>cases hb
   have:=I.lt _ hS
   omega
  ·rw [muU_ne e] at e1
   exact I.sep q ((live_ne e).1 h1) l1 b e1 hb hS
 ·have:=I.lt b hb
  simp; omega

theorem kill_EI {r:Nat} (I:Inv tab μ mem w S) (hr:mem r≠none) (froz:Prop) :
  Ext μ mem w S μ (memU [(r,.dead)] mem) w (fun b=>S b∨froz∧Live mem r∧∃ l,μ r=some l∧l.block=some b) ∧
  Inv tab μ (memU [(r,.dead)] mem) w (fun b=>S b∨froz∧Live mem r∧∃ l,μ r=some l∧l.block=some b):=by
 have nl:¬ Live (memU [(r,.dead)] mem) r:=fun ⟨B,h,ha⟩=>by rw [memU_eq] at h; cases h; exact ha
 have E:Ext μ mem w S μ (memU [(r,.dead)] mem) w (fun b=>S b∨froz∧Live mem r∧∃ l,μ r=some l∧l.block=some b):=by
  refine ⟨fun q hq=>?_,fun q B1 B2 h1 h2=>?_,fun _ h=>.inl h,Nat.le_refl _,fun _ _ _=>rfl,fun b h=>?_,fun b hb=>?_,rfl,rfl,rfl⟩
  ·by_cases e:q=r
   ·subst e; rw [memU_eq]; exact fun h=>nomatch h
   ·rw [memU_ne e]; exact hq
  ·by_cases e:q=r
   ·subst e; rw [memU_eq] at h2; cases h2
    exact ⟨by cases B1<;>trivial,fun h=>absurd h nl⟩
   ·rw [memU_ne e,h1] at h2; cases h2
    exact ⟨SameKind.refl _,fun _=>rfl⟩
  ·rcases h with h | ⟨_,hl,l,h1,h2⟩
   ·exact .inl h
   ·exact .inr (.inr ⟨r,l,hl,h1,h2⟩)
  ·obtain ⟨q,l',h1,h2,h3⟩:=hb
   by_cases e:q=r
   ·subst e; exact absurd h1 nl
   ·exact .inl ⟨q,l',(live_ne e).1 h1,h2,h3⟩
 refine ⟨E,fun q B' hB' ha=>?_,fun q q' hqq h1 h2 l1 l2 b e1 e2 hb hb'=>?_,fun q h1 l1 b e1 hb hS=>?_,fun b hb=>?_,I.pow.mono E.sub⟩
 ·by_cases e:q=r
  ·subst e; exact absurd ⟨B',hB',ha⟩ nl
  ·rw [memU_ne e] at hB'
   obtain ⟨l',e1,e2⟩:=I.rel q B' hB' ha
   exact ⟨l',e1,e2.ext E I fun _ _=>rfl⟩
 ·by_cases e:q=r
  ·subst e; exact absurd h1 nl
  ·by_cases e':q'=r
   ·subst e'; exact absurd h2 nl
   ·exact I.inj q q' hqq ((live_ne e).1 h1) ((live_ne e').1 h2) l1 l2 b e1 e2 hb hb'
 ·by_cases e:q=r
  ·subst e; exact absurd h1 nl
  ·rcases hS with hS | ⟨_,hl,l,g1,g2⟩
   ·exact I.sep q ((live_ne e).1 h1) l1 b e1 hb hS
   ·exact I.inj q r e ((live_ne e).1 h1) hl l1 l b e1 g1 hb g2
 ·rcases hb with hb | ⟨_,hl,l,g1,g2⟩
  ·exact I.lt b hb
  ·exact I.blockLt hl g1 g2

theorem write_E {r b:Nat} {B B':Blk} {l:Loc} (hr:mem r=some B) (ha:B.alive) (hμ:μ r=some l) (hb:l.block=some b) (hk:SameKind B B') (hsz:w'.heap.size=w.heap.size)
  (hw:∀ k,k≠b→w'.heap[k]? = w.heap[k]?) (h1:w'.os=w.os) (h2:w'.tape=w.tape) (h3:w'.output=w.output):Ext μ mem w S μ (memU [(r,B')] mem) w' S:=by
 refine ⟨fun q hq=>?_,fun q B1 B2 h1 h2=>?_,fun _ h=>h,Nat.le_of_eq hsz.symm,fun k hk' hn=>hw k fun e=>hn ⟨r,l,⟨B,hr,ha⟩,hμ,by rw [e]; exact hb⟩,fun _ h=>.inl h,fun k hk'=>?_,h1,h2,h3⟩
 ·by_cases e:q=r
  ·subst e; rw [memU_eq]; exact fun h=>nomatch h
  ·rw [memU_ne e]; exact hq
 ·by_cases e:q=r
  ·subst e; rw [memU_eq] at h2; cases h2; rw [hr] at h1; cases h1
   exact ⟨hk,fun _=>rfl⟩
  ·rw [memU_ne e,h1] at h2; cases h2
   exact ⟨SameKind.refl _,fun _=>rfl⟩
 ·obtain ⟨q,l',h1,h2,h3⟩:=hk'
  by_cases e:q=r
  ·subst e; exact .inl ⟨q,l',⟨B,hr,ha⟩,h2,h3⟩
  ·exact .inl ⟨q,l',(live_ne e).1 h1,h2,h3⟩

theorem write_I {r b:Nat} {B B':Blk} {l:Loc} (hr:mem r=some B) (ha:B.alive) (hμ:μ r=some l) (hb:l.block=some b) (hsz:w'.heap.size=w.heap.size)
  (hw:∀ k,k≠b→w'.heap[k]? = w.heap[k]?) (E:Ext μ mem w S μ (memU [(r,B')] mem) w' S) (I:Inv tab μ mem w S) (hrel:BlkRel tab μ (memU [(r,B')] mem) w' S B' l) :
  Inv tab μ (memU [(r,B')] mem) w' S:=by
 have hl:∀ q,Live (memU [(r,B')] mem) q→Live mem q:=fun q h=>by
  by_cases e:q=r
  ·subst e; exact ⟨B,hr,ha⟩
  ·exact (live_ne e).1 h
 refine ⟨fun q B1 hB1 ha1=>?_,fun q q' hqq h1 h2 l1 l2 k e1 e2 hk hk'=>I.inj q q' hqq (hl q h1) (hl q' h2) l1 l2 k e1 e2 hk hk',
  fun q h1 l1 k e1 hk hS=>I.sep q (hl q h1) l1 k e1 hk hS,fun k hk=>by rw [hsz]; exact I.lt k hk,I.powExt E⟩
 by_cases e:q=r
 ·subst e
  rw [memU_eq] at hB1; cases hB1
  exact ⟨l,hμ,hrel⟩
 ·rw [memU_ne e] at hB1
  obtain ⟨l',e1,e2⟩:=I.rel q B1 hB1 ha1
  exact ⟨l',e1,e2.ext E I fun k hk=>hw k fun ek=>I.inj q r e ⟨B1,hB1,ha1⟩ ⟨B,hr,ha⟩ l' l k e1 hμ hk (by rw [ek]; exact hb)⟩

theorem pass_EI {r r':Nat} {B B':Blk} {l l':Loc} (hr:mem r=some B) (ha:B.alive) (hr':mem r'=none) (hμ:μ r=some l) (hl:l'.block=l.block)
  (hsz:w'.heap.size=w.heap.size) (hw:∀ k,l.block≠some k→w'.heap[k]? = w.heap[k]?) (h1:w'.os=w.os) (h2:w'.tape=w.tape) (h3:w'.output=w.output) (I:Inv tab μ mem w S) :
  Ext μ mem w S (muU r' l' μ) (memU [(r,.dead),(r',B')] mem) w' S ∧
  (BlkRel tab (muU r' l' μ) (memU [(r,.dead),(r',B')] mem) w' S B' l'→Inv tab (muU r' l' μ) (memU [(r,.dead),(r',B')] mem) w' S):=by
 have hne:r'≠r:=fun e=>by subst e; rw [hr] at hr'; cases hr'
 have m1:memU [(r,.dead),(r',B')] mem r=some .dead:=by rw [memU_cons,memU_eq]
 have m2:memU [(r,.dead),(r',B')] mem r'=some B':=by rw [memU_cons,memU_ne hne,memU_eq]
 have m3:∀ q,q≠r→q≠r'→memU [(r,.dead),(r',B')] mem q=mem q:=fun q h h'=>by rw [memU_cons,memU_ne h,memU_ne h']
 have nl:¬ Live (memU [(r,.dead),(r',B')] mem) r:=fun ⟨B,h,ha⟩=>by rw [m1] at h; cases h; exact ha
 have lo:∀ q,q≠r'→Live (memU [(r,.dead),(r',B')] mem) q→q≠r∧Live mem q:=fun q h h'=>by
  have hq:q≠r:=fun e=>by subst e; exact nl h'
  exact ⟨hq,by obtain ⟨D,hD,hda⟩:=h'; rw [m3 q hq h] at hD; exact ⟨D,hD,hda⟩⟩
 have E:Ext μ mem w S (muU r' l' μ) (memU [(r,.dead),(r',B')] mem) w' S:=by
  refine ⟨fun q hq=>?_,fun q B1 B2 h1 h2=>?_,fun _ h=>h,Nat.le_of_eq hsz.symm,fun k hk' hn=>hw k fun e=>hn ⟨r,l,⟨B,hr,ha⟩,hμ,e⟩,fun _ h=>.inl h,fun k hk'=>?_,h1,h2,h3⟩
  ·by_cases e:q=r
   ·subst e; rw [m1]; exact fun h=>nomatch h
   ·by_cases e':q=r'
    ·subst e'; exact absurd hr' hq
    ·rw [m3 q e e']; exact hq
  ·by_cases e:q=r
   ·subst e; rw [m1] at h2; cases h2
    exact ⟨by cases B1<;>trivial,fun h=>absurd h nl⟩
   ·by_cases e':q=r'
    ·subst e'; rw [hr'] at h1; cases h1
    ·rw [m3 q e e',h1] at h2; cases h2
     exact ⟨SameKind.refl _,fun _=>muU_ne e'⟩
  ·obtain ⟨q,l1,g1,g2,g3⟩:=hk'
   by_cases e':q=r'
   ·subst e'
    rw [muU_eq] at g2; cases g2
    exact .inl ⟨r,l,⟨B,hr,ha⟩,hμ,hl ▸ g3⟩
   ·rw [muU_ne e'] at g2
    exact .inl ⟨q,l1,(lo q e' g1).2,g2,g3⟩
 refine ⟨E,fun hrel=>⟨fun q B1 hB1 ha1=>?_,fun q q' hqq g1 g2 l1 l2 k e1 e2 hk hk'=>?_,fun q g1 l1 k e1 hk hS=>?_,fun k hk=>by rw [hsz]; exact I.lt k hk,I.powExt E⟩⟩
 ·by_cases e':q=r'
  ·subst e'
   rw [m2] at hB1; cases hB1
   exact ⟨l',muU_eq,hrel⟩
  ·obtain ⟨hq,hlq⟩:=lo q e' ⟨B1,hB1,ha1⟩
   rw [m3 q hq e'] at hB1
   obtain ⟨l1,e1,e2⟩:=I.rel q B1 hB1 ha1
   exact ⟨l1,(muU_ne e').trans e1,e2.ext E I fun k hk=>hw k fun ek=>I.inj q r hq hlq ⟨B,hr,ha⟩ l1 l k e1 hμ hk ek⟩
 ·by_cases e':q=r'
  ·subst e'
   rw [muU_eq] at e1; cases e1
   have hq':q'≠q:=fun h=>hqq h.symm
   rw [muU_ne hq'] at e2
   obtain ⟨hq,hlq⟩:=lo q' hq' g2
   exact I.inj r q' (Ne.symm hq) ⟨B,hr,ha⟩ hlq l l2 k hμ e2 (hl ▸ hk) hk'
  ·rw [muU_ne e'] at e1
   obtain ⟨hq,hlq⟩:=lo q e' g1
   by_cases e2':q'=r'
   ·subst e2'
    rw [muU_eq] at e2; cases e2
    exact I.inj q r hq hlq ⟨B,hr,ha⟩ l1 l k e1 hμ hk (hl ▸ hk')
   ·rw [muU_ne e2'] at e2
    exact I.inj q q' hqq hlq (lo q' e2' g2).2 l1 l2 k e1 e2 hk hk'
 ·by_cases e':q=r'
  ·subst e'
   rw [muU_eq] at e1; cases e1
   exact I.sep r ⟨B,hr,ha⟩ l k hμ (hl ▸ hk) hS
  ·rw [muU_ne e'] at e1
   exact I.sep q (lo q e' g1).2 l1 k e1 hk hS
end
end Vm
end Go.Proofs.YtlbppjmekiemiacGreatDoor


/- The executor on data: operations, one by one (first part). No condition. -/
namespace Go.Proofs.YtlbppjmekiemiacGreatDoor
namespace Vm
section
variable {P:Program} {tab:Tab} {μ μ':Mu} {mem mem':MemF} {w w':World} {S S':Nat→Prop}

theorem zero_rel:∀ {cs:List C} {xs:List Value},ZeroOk cs xs→xs.length=cs.length∧∀ (i:Nat) c,cs[i]? = some c→∃ y,xs[i]? = some y∧y.oneCell'=true∧RelC tab μ mem w S c y:=by
 intro cs
 induction cs with
 | nil=>intro xs h; cases xs with
  | nil=>exact ⟨rfl,fun i c h=>by simp at h⟩
  | cons x xs=>exact h.elim
 | cons c cs ih =>
  intro xs h
  cases xs with
  | nil=>cases c<;>(try exact h.elim) ; rename_i t d; cases t<;>exact h.elim
  | cons x xs =>
   have key:∃ h':ZeroOk cs xs,x.oneCell'=true∧RelC tab μ mem w S c x:=by
    cases c with
    | dat t d =>
     cases t with
     | int=>obtain ⟨h1,rfl,h3⟩:=h; dsimp only [Ty.den] at d; subst h1; exact ⟨h3,rfl,.int 0⟩
     | bool=>obtain ⟨h1,rfl,h3⟩:=h; dsimp only [Ty.den] at d; subst h1; exact ⟨h3,rfl,.bool false⟩
     | str=>obtain ⟨h1,rfl,h3⟩:=h; dsimp only [Ty.den] at d; subst h1; exact ⟨h3,rfl,.str []⟩
     | _=>exact h.elim
    | nil t=>obtain ⟨rfl,h3⟩:=h; exact ⟨h3,rfl,rfl⟩
    | undef=>obtain ⟨h1,h3⟩:=h; exact ⟨h3,h1,trivial⟩
    | _=>exact h.elim
   obtain ⟨h',h1,h2⟩:=key
   obtain ⟨e,hr⟩:=ih h'
   refine ⟨by simp [e],fun i c' hi=>?_⟩
   cases i with
   | zero=>simp at hi; subst hi; exact ⟨x,by simp,h1,h2⟩
   | succ i=>simp at hi; simpa using hr i c' hi

theorem relV_cells {v:V} {x:Value} {cs:List C} (h:RelV tab μ mem w S v x) (hc:v.cells=some cs) :
  x.cells.size=cs.length∧∀ (i:Nat) c,cs[i]? = some c→∃ y,x.cells[i]? = some y∧y.oneCell'=true∧RelC tab μ mem w S c y:=by
 cases v with
 | tup vs=>cases hc
 | agg cs' =>
  cases hc
  obtain ⟨xs,rfl,h1,h2⟩:=h
  exact ⟨h1,h2⟩
 | one c =>
  have hw:cs=[c]∧RelW tab μ mem w S (.one c) x:=by
   cases c<;>first | (cases hc; done) | (cases hc; exact ⟨rfl,h⟩)
  obtain ⟨rfl,h1,h2⟩:=hw
  have hx:x.cells=#[x]:=by cases x<;>first | rfl | cases h1
  rw [hx]
  refine ⟨rfl,fun i c' hi=>?_⟩
  cases i with
  | zero=>simp at hi; subst hi; exact ⟨x,rfl,h1,h2⟩
  | succ i=>simp at hi

theorem op_move {o:Oper} {a:Act} {x:Operand} {v:V} (ho:o.op=.move x∨o.op=.assign x) (I:Inv tab μ mem w S) (hv:RelV tab μ mem w S v (a.eval x)) :
  Runs P o a w (After tab μ mem w S [] v):=by
 refine runs_val (x:=a.eval x) (w':=w) ?_ (after_same I hv)
 rcases ho with ho | ho<;>simp [execOp,ho]

theorem op_pick {o:Oper} {a:Act} {c x y:Operand} {b:Bool} {u v:V} (ho:o.op=.pick c x y) (I:Inv tab μ mem w S) (hc:RelV tab μ mem w S (.one (.dat .bool b)) (a.eval c))
  (hu:RelV tab μ mem w S u (a.eval x)) (hv:RelV tab μ mem w S v (a.eval y)) :
  Runs P o a w (After tab μ mem w S [] (match b with | true=>u | false=>v)):=by
 have hb:=rel_bool hc
 cases b with
 | true=>exact runs_val (x:=a.eval x) (w':=w) (by simp [execOp,ho,hb,asBool]) (after_same I hu)
 | false=>exact runs_val (x:=a.eval y) (w':=w) (by simp [execOp,ho,hb,asBool]) (after_same I hv)

theorem op_alloc {o:Oper} {a:Act} {T base:Nat} {ti:TI} (hT:TabOk P tab) (ho:o.op=.alloc T) (ht:tyAt tab T=some ti) (I:Inv tab μ mem w S) (hb:mem base=none) :
  Runs P o a w (After tab μ mem w S [(base,.box ti.zero)] (.one (.ptr base 0))):=by
 obtain ⟨i,z,h1,h2,h3,h4,_⟩:=(hT.ok T ti ht).info
 have hl:(Loc.bx w.heap.size).block=some w.heap.size∨(Loc.bx w.heap.size).block=none:=.inl rfl
 have E:=alloc_E (μ:=μ) (S:=S) (w:=w) (o:=.cells z.cells T) (B:=.box ti.zero) hb hl
 obtain ⟨e1,e2⟩:=zero_rel (tab:=tab) (μ:=muU base (.bx w.heap.size) μ) (mem:=memU [(base,.box ti.zero)] mem) (w:=w.alloc (.cells z.cells T)) (S:=S) h4
 refine runs_val (x:=.pointer (some (at0 w.heap.size 0))) (w':=w.alloc (.cells z.cells T)) ?_ ⟨_,S,E,alloc_I hb hl I ⟨z.cells,T,heap_alloc_new w _,by simpa using e1,fun i c hi=>?_⟩,?_⟩
 ·simp [execOp,ho,Instr.alloc,run_zero h1 h3,newVar,newRow,at0]
 ·obtain ⟨y,g1,g2,g3⟩:=e2 i c hi
  exact ⟨y,by simpa using g1,g2,g3⟩
 ·refine ⟨rfl,?_,fun cs _=>⟨w.heap.size,muU_eq,rfl⟩⟩
  rw [memU_eq]; exact fun h=>nomatch h

theorem op_box {o:Oper} {a:Act} {T base:Nat} {x:Operand} {v:V} {cs:List C} (ho:o.op=.box T x) (hv:RelV tab μ mem w S v (a.eval x)) (hc:v.cells=some cs) (I:Inv tab μ mem w S) (hb:mem base=none) :
  Runs P o a w (After tab μ mem w S [(base,.box cs)] (.one (.ptr base 0))):=by
 obtain ⟨e1,e2⟩:=relV_cells hv hc
 have hl:(Loc.bx w.heap.size).block=some w.heap.size∨(Loc.bx w.heap.size).block=none:=.inl rfl
 have E:=alloc_E (μ:=μ) (S:=S) (w:=w) (o:=.cells (a.eval x).cells T) (B:=.box cs) hb hl
 refine runs_val (x:=.pointer (some (at0 w.heap.size 0))) (w':=w.alloc (.cells (a.eval x).cells T)) ?_ ⟨_,S,E,alloc_I hb hl I ⟨(a.eval x).cells,T,heap_alloc_new w _,e1,fun i c hi=>?_⟩,?_⟩
 ·simp [execOp,ho,Instr.box,newVar,newRow,at0]
 ·obtain ⟨y,g1,g2,g3⟩:=e2 i c hi
  exact ⟨y,g1,g2,g3.ext E I⟩
 ·refine ⟨rfl,?_,fun cs _=>⟨w.heap.size,muU_eq,rfl⟩⟩
  rw [memU_eq]; exact fun h=>nomatch h

theorem run_loadCells (b off n:Nat) (f:Nat→Value) (h:∀ j,j<n→w.cell? (at0 b (off+j))=some (f j)) :
  (loadCells (at0 b off) n).run P w=.ok ((List.range n).map f).toArray w:=by
 have:=run_loadCells_list (P:=P) w (at0 b off) ((List.range n).map f) (fun j v hj=>by
  rw [at0,Addr.add_lit]
  simp only [List.getElem?_map] at hj
  by_cases hjn:j<n
  ·simp [List.getElem?_range hjn] at hj
   rw [← hj]; exact h j hjn
  ·simp [List.getElem?_eq_none (l:=List.range n) (i:=j) (by simpa using hjn)] at hj)
 simpa using this

theorem run_loadVar {T:Nat} {ti:TI} (hT:TabOk P tab) (ht:tyAt tab T=some ti) (b off:Nat) (f:Nat→Value) (cs:List C) (hn:cs.length=ti.n)
  (h:∀ (j:Nat) c,cs[j]? = some c→w.cell? (at0 b (off+j))=some (f j)∧(f j).oneCell'=true∧RelC tab μ mem w S c (f j)) (v:V) (hv:mkV ti.agg cs=some v) :
  ∃ x,(loadVar T (at0 b off)).run P w=.ok x w∧RelV tab μ mem w S v x:=by
 have hag:=(hT.ok T ti ht).isAgg w
 obtain ⟨i,z,h1,h2,h3,h4,_⟩:=(hT.ok T ti ht).info
 have hl:=run_loadCells (P:=P) (w:=w) b off ti.n f (fun j hj=>by
  obtain ⟨c,hc⟩:∃ c,cs[j]? = some c:=⟨_,List.getElem?_eq_getElem (hn ▸ hj)⟩
  exact (h j c hc).1)
 cases hg:ti.agg with
 | true =>
  rw [hg] at hv hag
  cases hv
  refine ⟨.agg ((List.range ti.n).map f).toArray,?_,((List.range ti.n).map f).toArray,rfl,by simp [hn],fun j c hj=>?_⟩
  ·simp [loadVar,hag,run_sizeOf h1,h2,hl]
  ·have hjn:j<ti.n:=by rw [← hn]; exact (List.getElem?_eq_some_iff.1 hj).1
   refine ⟨f j,by simp [hjn],(h j c hj).2.1,(h j c hj).2.2⟩
 | false =>
  rw [hg] at hv hag
  match cs,hv with
  | [c],hv =>
   cases hv
   have h0:=h 0 c rfl
   refine ⟨f 0,?_,?_⟩
   ·simp only [loadVar,Sem.run_bind,hag,Result.andThen_ok]
    simp
    rw [show off=off+0 from rfl,h0.1]
   ·cases c<;>first | trivial | exact ⟨h0.2.1,h0.2.2⟩
end
end Vm
end Go.Proofs.YtlbppjmekiemiacGreatDoor


/- The executor on data: operations, one by one (second part: loads and stores). No condition. -/
namespace Go.Proofs.YtlbppjmekiemiacGreatDoor
namespace Vm
section
variable {P:Program} {tab:Tab} {μ μ':Mu} {mem mem':MemF} {w w':World} {S S':Nat→Prop}

theorem slc_get {α:Type} (l:List α) (o n j:Nat) (c:α) (h:(slc l o (o+n))[j]? = some c):j<n∧l[o+j]? = some c:=by
 unfold slc at h
 simp only [List.getElem?_drop,List.getElem?_take] at h
 split at h
 ·exact ⟨by omega,h⟩
 ·cases h

theorem slc_len {α:Type} (l:List α) (o n:Nat) (h:o+n≤l.length):(slc l o (o+n)).length=n:=by
 unfold slc
 simp; omega

theorem cells_len (t:Ty) (d:t.den):(t.cells d).length=t.width:=by
 cases t<;>rfl

theorem sees_box {lm:Mem} {r:Nat} {cs:List C} (hs:Sees lm mem) (h:look lm r=some (.box cs)):mem r=some (.box cs):=hs r _ h trivial
theorem sees_arr {lm:Mem} {r:Nat} {t:Ty} {l:List t.den} (hs:Sees lm mem) (h:look lm r=some (.arr t l)):mem r=some (.arr t l):=hs r _ h trivial

theorem sees_box_ptr {lm:Mem} {r o:Nat} {cs:List C} {x:Value} (hs:Sees lm mem) (I:Inv tab μ mem w S) (h:look lm r=some (.box cs)) (hx:RelV tab μ mem w S (.one (.ptr r o)) x) :
  ∃ b vs e,x=.pointer (some (at0 b o))∧μ r=some (.bx b)∧w.heap[b]? = some (.cells vs e (0,0))∧vs.size=cs.length ∧
   ∀ (i:Nat) c,cs[i]? = some c→∃ y,vs[i]? = some y∧y.oneCell'=true∧RelC tab μ mem w S c y:=by
 have hm:=sees_box hs h
 obtain ⟨_,_,hp⟩:=hx
 obtain ⟨b,e1,rfl⟩:=hp cs hm
 obtain ⟨l,e2,hrel⟩:=I.rel r _ hm trivial
 rw [e1] at e2; cases e2
 obtain ⟨vs,e,h1,h2,h3⟩:=hrel
 exact ⟨b,vs,e,rfl,e1,h1,h2,h3⟩

theorem sees_arr_ptr {lm:Mem} {r i k:Nat} {t:Ty} {l:List t.den} {x:Value} (hs:Sees lm mem) (I:Inv tab μ mem w S) (h:look lm r=some (.arr t l)) (hx:RelV tab μ mem w S (.one (.optr r i k)) x) :
  ∃ b cap cur e,x=.pointer (some (at0 b (i*t.width+k)))∧μ r=some (.ar (.slice (some (at0 b 0)) l.length cap))∧w.heap[b]? = some (.cells cur e (0,0))∧l.length≤cap∧cap≤maxLen ∧
   cap*t.width≤cur.size∧∀ i j c,i<l.length→(t.cells (nth l i t.dflt))[j]? = some c→∃ y,cur[i*t.width+j]? = some y∧y.oneCell'=true∧RepC tab w S c y:=by
 have hm:=sees_arr hs h
 obtain ⟨_,_,hp⟩:=hx
 obtain ⟨b,m,cap,e1,rfl⟩:=hp t l hm
 obtain ⟨l',e2,hrel⟩:=I.rel r _ hm trivial
 rw [e1] at e2; cases e2
 rcases hrel with ⟨h1,_⟩ | ⟨b',cap',cur,e,h1,h2,h3,h4,h5,h6⟩
 ·cases h1
 ·cases h1
  exact ⟨b,cap,cur,e,rfl,e1,h2,h3,h4,h5,h6⟩

theorem sees_arx {lm:Mem} {r:Nat} {t:Ty} {l:List t.den} {cs:List C} (hs:Sees lm mem) (h:look lm r=some (.arx t l cs)):mem r=some (.arx t l cs):=hs r _ h trivial

def Arx (tab:Tab) (μ:Mu) (mem:MemF) (w:World) (S:Nat→Prop) (t:Ty) (l:List t.den) (cs:List C) (b cap:Nat) (cur:Array Value) (e:TypeId):Prop :=
 w.heap[b]? = some (.cells cur e (0,0))∧l.length+1≤cap∧cap≤maxLen∧cap*t.width≤cur.size ∧
  (∀ i j c,i<l.length→(t.cells (nth l i t.dflt))[j]? = some c→∃ y,cur[i*t.width+j]? = some y∧y.oneCell'=true∧RepC tab w S c y) ∧
  ∀ j c,cs[j]? = some c→j<t.width∧∃ y,cur[l.length*t.width+j]? = some y∧y.oneCell'=true∧RelC tab μ mem w S c y

theorem arx_at {lm:Mem} {r:Nat} {t:Ty} {l:List t.den} {cs:List C} (hs:Sees lm mem) (I:Inv tab μ mem w S) (h:look lm r=some (.arx t l cs)) :
  mem r=some (.arx t l cs)∧∃ b cap cur e,μ r=some (.ar (.slice (some (at0 b 0)) (l.length+1) cap))∧Arx tab μ mem w S t l cs b cap cur e:=by
 have hm:=sees_arx hs h
 obtain ⟨l',e2,hrel⟩:=I.rel r _ hm trivial
 cases l' with
 | bx b=>exact hrel.elim
 | ar x =>
  obtain ⟨b,cap,cur,e,rfl,h2⟩:=hrel
  exact ⟨hm,b,cap,cur,e,e2,h2⟩

theorem arx_ptr {lm:Mem} {r k:Nat} {t:Ty} {l:List t.den} {cs:List C} {x:Value} (hs:Sees lm mem) (I:Inv tab μ mem w S) (h:look lm r=some (.arx t l cs)) (hx:RelV tab μ mem w S (.one (.optx r k)) x) :
  ∃ b cap cur e,x=.pointer (some (at0 b (l.length*t.width+k)))∧μ r=some (.ar (.slice (some (at0 b 0)) (l.length+1) cap))∧Arx tab μ mem w S t l cs b cap cur e:=by
 obtain ⟨hm,b,cap,cur,e,e1,h2⟩:=arx_at hs I h
 obtain ⟨_,_,hp⟩:=hx
 obtain ⟨b',m,cap',e3,rfl⟩:=hp t l cs hm
 rw [e1] at e3
 cases e3
 exact ⟨b,cap,cur,e,rfl,e1,h2⟩

theorem arx_own {lm:Mem} {r:Nat} {t:Ty} {l:List t.den} {cs:List C} {x:Value} (hs:Sees lm mem) (I:Inv tab μ mem w S) (h:look lm r=some (.arx t l cs)) (hx:RelV tab μ mem w S (.one (.ownx r)) x) :
  mem r=some (.arx t l cs)∧∃ b cap cur e,x=.slice (some (at0 b 0)) (l.length+1) cap∧μ r=some (.ar x)∧Arx tab μ mem w S t l cs b cap cur e:=by
 obtain ⟨hm,b,cap,cur,e,e1,h2⟩:=arx_at hs I h
 obtain ⟨_,_,hp⟩:=hx
 have e3:=hp t l cs hm
 rw [e1] at e3
 cases e3
 exact ⟨hm,b,cap,cur,e,rfl,e1,h2⟩

theorem cell?_at {b o:Nat} {vs:Array Value} {e:TypeId} {fz:Nat × Nat} {y:Value} (h:w.heap[b]? = some (.cells vs e fz)) (hy:vs[o]? = some y):w.cell? (at0 b o)=some y:=by
 simp [World.cell?,at0,h,hy]

theorem RepC.oneCell {c:C} {x:Value} (h:RepC tab w S c x):x.oneCell'=true:=by cases h<;>rfl

theorem RepC.relC {c:C} {x:Value} (h:RepC tab w S c x):RelC tab μ mem w S c x:=by
 have h':=h
 cases h<;>exact h'

theorem op_load {o:Oper} {a:Act} {T:Nat} {ti:TI} {x:Operand} {c:C} {lm:Mem} {p:Option Prop} {v:V} {m:Mem} (hT:TabOk P tab) (ho:o.op=.load T x) (ht:tyAt tab T=some ti)
  (I:Inv tab μ mem w S) (hs:Sees lm mem) (hx:RelV tab μ mem w S (.one c) (a.eval x)) (h:loadX ti c lm=some (p,v,m)) (hp:under p True) :
  Runs P o a w (After tab μ mem w S m v):=by
 have fin:∀ (b off:Nat) (f:Nat→Value) (cs:List C),a.eval x=.pointer (some (at0 b off))→cs.length=ti.n→(∀ (j:Nat) c,cs[j]? = some c→w.cell? (at0 b (off+j))=some (f j)∧(f j).oneCell'=true∧RelC tab μ mem w S c (f j)) →
   mkV ti.agg cs=some v→m=[]→Runs P o a w (After tab μ mem w S m v):=fun b off f cs e1 e2 e3 e4 e5=>by
  obtain ⟨y,hy,hrel⟩:=run_loadVar hT ht b off f cs e2 e3 v e4
  subst e5
  exact runs_val (x:=y) (w':=w) (by simp [execOp,ho,Instr.loadAt,Instr.sureAddr,e1,hy]) (after_same I hrel)
 cases c with
 | ptr r off =>
  simp only [loadX] at h
  split at h<;>try cases h
  rename_i cs hl
  split at h<;>try cases h
  rename_i v' hv
  split at h<;>try cases h
  rename_i hle
  have hle':=Nat.le_of_ble_eq_true hle
  obtain ⟨b,vs,e,e1,e2,e3,e4,e5⟩:=sees_box_ptr hs I hl hx
  refine fin b off (fun j=>(vs[off+j]?).getD undef) (slc cs off (off+ti.n)) e1 (slc_len _ _ _ hle') (fun j c hj=>?_) hv rfl
  obtain ⟨h1,h2⟩:=slc_get cs off ti.n j c hj
  obtain ⟨y,g1,g2,g3⟩:=e5 _ c h2
  simp only [g1,Option.getD_some]
  exact ⟨cell?_at e3 g1,g2,g3⟩
 | eptr t l i k =>
  simp only [loadX] at h
  split at h<;>try cases h
  rename_i hle
  split at h<;>try cases h
  rename_i v' hv
  have hle':=Nat.le_of_ble_eq_true hle
  obtain ⟨_,b,off,⟨hS,f,g1,g2⟩,e2⟩:=hx
  refine fin b (off+k) (fun j=>f (k+j)) (slc (t.cells (nth l i t.dflt)) k (k+ti.n)) e2 (slc_len _ _ _ (by rw [cells_len]; exact hle')) (fun j c hj=>?_) hv rfl
  obtain ⟨h1,h2⟩:=slc_get _ k ti.n j c hj
  have hw:=g1 (k+j) (by omega)
  have hr:=g2 (k+j) c h2
  exact ⟨by rw [Nat.add_assoc]; exact hw,hr.oneCell,hr.relC⟩
 | optr r i k =>
  simp only [loadX] at h
  split at h<;>try cases h
  rename_i t l hl
  split at h<;>try cases h
  rename_i hle
  split at h<;>try cases h
  rename_i v' hv
  have hle':=Nat.le_of_ble_eq_true hle
  obtain ⟨b,cap,cur,e,e1,e2,e3,e4,e5,e6,e7⟩:=sees_arr_ptr hs I hl hx
  have hi:i<l.length:=hp.1
  refine fin b (i*t.width+k) (fun j=>(cur[i*t.width+(k+j)]?).getD undef) (slc (t.cells (nth l i t.dflt)) k (k+ti.n)) e1 (slc_len _ _ _ (by rw [cells_len]; exact hle')) (fun j c hj=>?_) hv rfl
  obtain ⟨h1,h2⟩:=slc_get _ k ti.n j c hj
  obtain ⟨y,g1,g2,g3⟩:=e7 i (k+j) c hi h2
  simp only [g1,Option.getD_some]
  exact ⟨by rw [Nat.add_assoc]; exact cell?_at e3 g1,g2,g3.relC⟩
 | optx r k =>
  simp only [loadX] at h
  split at h<;>try cases h
  rename_i t l cs hl
  split at h<;>try cases h
  rename_i v' hv
  split at h<;>try cases h
  rename_i hle
  have hle':=Nat.le_of_ble_eq_true hle
  obtain ⟨b,cap,cur,e,e1,e2,e3,_,_,_,_,e7⟩:=arx_ptr hs I hl hx
  refine fin b (l.length*t.width+k) (fun j=>(cur[l.length*t.width+(k+j)]?).getD undef) (slc cs k (k+ti.n)) e1 (slc_len _ _ _ hle') (fun j c hj=>?_) hv rfl
  obtain ⟨h1,h2⟩:=slc_get _ k ti.n j c hj
  obtain ⟨_,y,g1,g2,g3⟩:=e7 (k+j) c h2
  simp only [g1,Option.getD_some]
  exact ⟨by rw [Nat.add_assoc]; exact cell?_at e3 g1,g2,g3⟩
 | _=>cases h
end
end Vm
end Go.Proofs.YtlbppjmekiemiacGreatDoor


/- The executor on data: what is frozen; stores. No condition. -/
namespace Go.Proofs.YtlbppjmekiemiacGreatDoor
namespace Vm
section
variable {P:Program} {tab:Tab} {μ μ':Mu} {mem mem':MemF} {w w':World} {S S':Nat→Prop}

theorem memb_iff:∀ (ns:List Nat) (r:Nat),memb ns r=true↔r∈ns
 | [],r=>by simp [memb]
 | q::ns,r=>by
  simp only [memb,List.mem_cons]
  by_cases e:r=q
  ·subst e; simp [Nat.beq_refl]
  ·rw [beq_ne e]
   simp [e,memb_iff ns r]

theorem memb_no {ns:List Nat} {r:Nat} (h:memb ns r=false):r∉ns:=fun hr=>by
 rw [(memb_iff ns r).2 hr] at h; cases h

def Froz (μ:Mu) (mem:MemF) (S:Nat→Prop) (ns:List Nat):Nat→Prop:=fun b=>S b∨∃ r∈ns,Live mem r∧∃ l,μ r=some l∧l.block=some b

theorem look_deads (ns:List Nat) (q:Nat):(q∈ns∧look (deads ns) q=some .dead)∨(q∉ns∧look (deads ns) q=none):=by
 induction ns with
 | nil=>exact .inr ⟨by simp,rfl⟩
 | cons r ns ih =>
  simp only [deads,List.map_cons,look]
  by_cases e:q=r
  ·subst e; exact .inl ⟨by simp,by simp [Nat.beq_refl]⟩
  ·rw [beq_ne e]
   rcases ih with ⟨h1,h2⟩ | ⟨h1,h2⟩
   ·exact .inl ⟨by simp [h1],h2⟩
   ·exact .inr ⟨by simp [h1,e],h2⟩

theorem memU_deads (ns:List Nat) (q:Nat):(q∈ns∧memU (deads ns) mem q=some .dead)∨(q∉ns∧memU (deads ns) mem q=mem q):=by
 rcases look_deads ns q with ⟨h1,h2⟩ | ⟨h1,h2⟩
 ·exact .inl ⟨h1,by simp [memU,h2]⟩
 ·exact .inr ⟨h1,by simp [memU,h2]⟩

theorem kills_EI {ns:List Nat} (I:Inv tab μ mem w S) :
  Ext μ mem w S μ (memU (deads ns) mem) w (Froz μ mem S ns)∧Inv tab μ (memU (deads ns) mem) w (Froz μ mem S ns):=by
 have nl:∀ r∈ns,¬ Live (memU (deads ns) mem) r:=fun r hr ⟨B,h,ha⟩=>by
  rcases memU_deads (mem:=mem) ns r with ⟨_,h2⟩ | ⟨h1,_⟩
  ·rw [h2] at h; cases h; exact ha
  ·exact h1 hr
 have ne:∀ r,r∉ns→memU (deads ns) mem r=mem r:=fun r hr=>by
  rcases memU_deads (mem:=mem) ns r with ⟨h1,_⟩ | ⟨_,h2⟩
  ·exact absurd h1 hr
  ·exact h2
 have lo:∀ q,Live (memU (deads ns) mem) q→q∉ns∧Live mem q:=fun q h=>by
  have hq:q∉ns:=fun e=>nl q e h
  exact ⟨hq,by obtain ⟨B,h1,h2⟩:=h; rw [ne q hq] at h1; exact ⟨B,h1,h2⟩⟩
 have E:Ext μ mem w S μ (memU (deads ns) mem) w (Froz μ mem S ns):=by
  refine ⟨fun q hq=>?_,fun q B1 B2 h1 h2=>?_,fun _ h=>.inl h,Nat.le_refl _,fun _ _ _=>rfl,fun b h=>?_,fun b hb=>?_,rfl,rfl,rfl⟩
  ·rcases memU_deads (mem:=mem) ns q with ⟨_,h2⟩ | ⟨_,h2⟩
   ·rw [h2]; exact fun h=>nomatch h
   ·rw [h2]; exact hq
  ·rcases memU_deads (mem:=mem) ns q with ⟨hq,h3⟩ | ⟨_,h3⟩
   ·rw [h3] at h2; cases h2
    exact ⟨by cases B1<;>trivial,fun h=>absurd h (nl q hq)⟩
   ·rw [h3,h1] at h2; cases h2
    exact ⟨SameKind.refl _,fun _=>rfl⟩
  ·rcases h with h | ⟨r,_,hl,l,h1,h2⟩
   ·exact .inl h
   ·exact .inr (.inr ⟨r,l,hl,h1,h2⟩)
  ·obtain ⟨q,l',h1,h2,h3⟩:=hb
   exact .inl ⟨q,l',(lo q h1).2,h2,h3⟩
 refine ⟨E,fun q B' hB' ha=>?_,fun q q' hqq h1 h2 l1 l2 b e1 e2 hb hb'=>I.inj q q' hqq (lo q h1).2 (lo q' h2).2 l1 l2 b e1 e2 hb hb',fun q h1 l1 b e1 hb hS=>?_,fun b hb=>?_,I.pow.mono E.sub⟩
 ·have hq:=(lo q ⟨B',hB',ha⟩).1
  rw [ne q hq] at hB'
  obtain ⟨l',e1,e2⟩:=I.rel q B' hB' ha
  exact ⟨l',e1,e2.ext E I fun _ _=>rfl⟩
 ·obtain ⟨hq,hlq⟩:=lo q h1
  rcases hS with hS | ⟨r,hrn,hl,l,g1,g2⟩
  ·exact I.sep q hlq l1 b e1 hb hS
  ·exact I.inj q r (fun e=>hq (e ▸ hrn)) hlq hl l1 l b e1 g1 hb g2
 ·rcases hb with hb | ⟨r,_,hl,l,g1,g2⟩
  ·exact I.lt b hb
  ·exact I.blockLt hl g1 g2

theorem nth_get {α:Type} (l:List α) (i:Nat) (d:α) (h:i<l.length):nth l i d=l[i]:=by
 simp [nth,List.getD,h]

theorem repList_of {b base cap:Nat} {cur:Array Value} {e:TypeId} {fz:Nat × Nat} {t:Ty} {l:List t.den} (hS:S b) (hb:w.heap[b]? = some (.cells cur e fz)) (hcap:l.length≤cap)
  (h:∀ i j c,i<l.length→(t.cells (nth l i t.dflt))[j]? = some c→∃ y,cur[base+i*t.width+j]? = some y∧RepC tab w S c y) :
  RepC tab w S (.dat (.list t) l) (.slice (some (at0 b base)) l.length cap):=by
 refine .list t l b base cap (fun i j=>(cur[base+i*t.width+j]?).getD undef) hS hcap (fun i j hi hj=>?_) (fun i j c hi hj=>?_)
 ·have hj':j<(t.cells (nth l i t.dflt)).length:=by rw [cells_len]; exact hj
  obtain ⟨y,h1,_⟩:=h i j _ hi (List.getElem?_eq_getElem hj')
  simp only [h1,Option.getD_some]
  exact cell?_at hb h1
 ·obtain ⟨y,h1,h2⟩:=h i j c hi hj
  simp only [h1,Option.getD_some]
  exact h2

theorem mono_froz {ns:List Nat} {c:C} {x:Value} (h:RepC tab w S c x):RepC tab w (Froz μ mem S ns) c x:=h.mono (fun _ h=>.inl h) (fun _ _=>rfl)

theorem froz_left {ns ms:List Nat} {c:C} {x:Value} (h:RepC tab w (Froz μ mem S ns) c x):RepC tab w (Froz μ mem S (ns++ms)) c x :=
 h.mono (fun _ h=>h.imp id fun ⟨r,hr,h⟩=>⟨r,by simp [hr],h⟩) (fun _ _=>rfl)
theorem froz_right {ns ms:List Nat} {c:C} {x:Value} (h:RepC tab w (Froz μ mem S ms) c x):RepC tab w (Froz μ mem S (ns++ms)) c x :=
 h.mono (fun _ h=>h.imp id fun ⟨r,hr,h⟩=>⟨r,by simp [hr],h⟩) (fun _ _=>rfl)

theorem froz_cons {r:Nat} {ms:List Nat} {c:C} {x:Value} (h:RepC tab w (Froz μ mem S ms) c x):RepC tab w (Froz μ mem S (r::ms)) c x:=froz_right (ns:=[r]) h
theorem dat0_rel {lm:Mem} {c d:C} {ns:List Nat} {x:Value} (I:Inv tab μ mem w S) (hs:Sees lm mem) (hx:x.oneCell'=true∧RelC tab μ mem w S c x) (h:dat0 lm c=some (d,ns)) :
  (∀ r∈ns,mem r≠none)∧RepC tab w (Froz μ mem S ns) d x:=by
 obtain ⟨h1,hx⟩:=hx
 cases c with
 | dat t d' =>
  simp only [dat0] at h; cases h
  exact ⟨fun r hr=>by simp at hr,mono_froz hx⟩
 | nil t =>
  simp only [dat0] at h; cases h
  subst hx
  exact ⟨fun r hr=>by simp at hr,.empty t none 0⟩
 | own r =>
  simp only [dat0] at h
  split at h<;>try cases h
  rename_i t l hl
  have hm:=sees_arr hs hl
  refine ⟨fun q hq=>by simp at hq; subst hq; exact hx.1,?_⟩
  have hμ:=hx.2 t l hm
  obtain ⟨l',e1,hrel⟩:=I.rel r _ hm trivial
  rw [hμ] at e1; cases e1
  rcases hrel with ⟨rfl,rfl⟩ | ⟨b,cap,cur,e,rfl,hb,h3,h4,h5,h6⟩
  ·exact .empty t none 0
  ·have hS:Froz μ mem S [r] b:=.inr ⟨r,by simp,⟨_,hm,trivial⟩,_,hμ,rfl⟩
   refine repList_of hS hb h3 fun i j c hi hj=>?_
   obtain ⟨y,g1,_,g3⟩:=h6 i j c hi hj
   exact ⟨y,by simpa using g1,mono_froz g3⟩
 | _=>simp only [dat0] at h; cases h
theorem dats0_rel {lm:Mem} (I:Inv tab μ mem w S) (hs:Sees lm mem):∀ {cs ds:List C} {ns:List Nat} (ys:Nat→Option Value),
  (∀ (i:Nat) c,cs[i]? = some c→∃ y,ys i=some y∧y.oneCell'=true∧RelC tab μ mem w S c y)→dats0 lm cs=some (ds,ns) →
  (∀ r∈ns,mem r≠none)∧∀ (i:Nat) d,ds[i]? = some d→∃ y,ys i=some y∧y.oneCell'=true∧RepC tab w (Froz μ mem S ns) d y:=by
 intro cs
 induction cs with
 | nil =>
  intro ds ns ys _ h
  simp only [dats0] at h; cases h
  exact ⟨fun r hr=>by simp at hr,fun i d hi=>by simp at hi⟩
 | cons c cs ih =>
  intro ds ns ys hy h
  simp only [dats0] at h
  split at h<;>try cases h
  rename_i d1 n1 h1
  split at h<;>try cases h
  rename_i ds' ms h2
  obtain ⟨y,e1,e2,e3⟩:=hy 0 c rfl
  obtain ⟨g1,g2⟩:=dat0_rel I hs ⟨e2,e3⟩ h1
  obtain ⟨k1,k3⟩:=ih (fun i=>ys (i+1)) (fun i c hi=>hy (i+1) c hi) h2
  refine ⟨fun r hr=>?_,fun i d hi=>?_⟩
  ·simp only [List.mem_append] at hr
   exact hr.elim (g1 r) (k1 r)
  ·cases i with
   | zero=>simp at hi; subst hi; exact ⟨y,e1,e2,froz_left g2⟩
   | succ i =>
    simp at hi
    obtain ⟨y',f1,f2,f3⟩:=k3 i d hi
    exact ⟨y',f1,f2,froz_right f3⟩
theorem ofCells_cells:∀ {t:Ty} {cs:List C} {d:t.den},t.ofCells cs=some d→t.cells d=cs:=by
 intro t cs d h
 unfold Ty.ofCells at h
 split at h<;>(try cases h)<;>try rfl
 rename_i u t' d' 
 split at h<;>try cases h
 rename_i e
 subst e
 rfl
theorem lastX_rel {lm:Mem} {t:Ty} {cs:List C} {d:t.den} {ns:List Nat} (I:Inv tab μ mem w S) (hs:Sees lm mem) (ys:Nat→Option Value)
  (hy:∀ (i:Nat) c,cs[i]? = some c→∃ y,ys i=some y∧y.oneCell'=true∧RelC tab μ mem w S c y) (h:lastX lm t cs=some (d,ns)) :
  (∀ r∈ns,mem r≠none)∧∀ (j:Nat) c,(t.cells d)[j]? = some c→∃ y,ys j=some y∧y.oneCell'=true∧RepC tab w (Froz μ mem S ns) c y:=by
 unfold lastX at h
 split at h<;>try cases h
 rename_i ds ms h1
 split at h<;>try cases h
 rename_i d' h2
 obtain ⟨k1,k2⟩:=dats0_rel I hs ys hy h1
 rw [ofCells_cells h2]
 exact ⟨k1,k2⟩
theorem arx_list {lm:Mem} {t:Ty} {l:List t.den} {cs:List C} {d:t.den} {ns:List Nat} {b cap:Nat} {cur:Array Value} {e:TypeId} (I:Inv tab μ mem w S) (hs:Sees lm mem) (hA:Arx tab μ mem w S t l cs b cap cur e) (h:lastX lm t cs=some (d,ns)) :
  (∀ r∈ns,mem r≠none)∧∀ i j c,i<(cat l [d]).length→(t.cells (nth (cat l [d]) i t.dflt))[j]? = some c→∃ y,cur[i*t.width+j]? = some y∧y.oneCell'=true∧RepC tab w (Froz μ mem S ns) c y:=by
 obtain ⟨_,_,_,_,g5,g6⟩:=hA
 obtain ⟨k1,k2⟩:=lastX_rel I hs (fun j=>cur[l.length*t.width+j]?) (fun j c hj=>(g6 j c hj).2) h
 refine ⟨k1,fun i j c hi hj=>?_⟩
 by_cases c1:i<l.length
 ·have e1:nth (cat l [d]) i t.dflt=nth l i t.dflt:=by simp [nth,cat,List.getD,List.getElem?_append_left c1]
  rw [e1] at hj
  obtain ⟨y,y1,y2,y3⟩:=g5 i j c c1 hj
  exact ⟨y,y1,y2,mono_froz y3⟩
 ·have e0:i=l.length:=by simp [cat] at hi; omega
  subst e0
  have e1:nth (cat l [d]) l.length t.dflt=d:=by simp [nth,cat,List.getD]
  rw [e1] at hj
  exact k2 j c hj

theorem toDat_rel {lm:Mem} {c d:C} {ns:List Nat} {x:Value} (I:Inv tab μ mem w S) (hs:Sees lm mem) (hx:x.oneCell'=true∧RelC tab μ mem w S c x) (h:toDat tab lm c=some (d,ns)) :
  (∀ r∈ns,mem r≠none)∧RepC tab w (Froz μ mem S ns) d x:=by
 obtain ⟨h1,hx⟩:=hx
 cases c with
 | dat t d' =>
  simp only [toDat] at h; cases h
  exact ⟨fun r hr=>by simp at hr,mono_froz hx⟩
 | nil t =>
  simp only [toDat] at h; cases h
  subst hx
  exact ⟨fun r hr=>by simp at hr,.empty t none 0⟩
 | own r =>
  simp only [toDat] at h
  split at h<;>try cases h
  rename_i t l hl
  have hm:=sees_arr hs hl
  refine ⟨fun q hq=>by simp at hq; subst hq; exact hx.1,?_⟩
  have hμ:=hx.2 t l hm
  obtain ⟨l',e1,hrel⟩:=I.rel r _ hm trivial
  rw [hμ] at e1; cases e1
  rcases hrel with ⟨rfl,rfl⟩ | ⟨b,cap,cur,e,rfl,hb,h3,h4,h5,h6⟩
  ·exact .empty t none 0
  ·have hS:Froz μ mem S [r] b:=.inr ⟨r,by simp,⟨_,hm,trivial⟩,_,hμ,rfl⟩
   refine repList_of hS hb h3 fun i j c hi hj=>?_
   obtain ⟨y,g1,_,g3⟩:=h6 i j c hi hj
   exact ⟨y,by simpa using g1,mono_froz g3⟩
 | ownx r =>
  simp only [toDat] at h
  split at h<;>try cases h
  rename_i t l cs hl
  split at h<;>try cases h
  rename_i d' ms hd
  obtain ⟨hm,b,cap,cur,e,rfl,hμ,hA⟩:=arx_own hs I hl ⟨h1,hx⟩
  obtain ⟨k1,k2⟩:=arx_list I hs hA hd
  obtain ⟨g1,g2,_⟩:=hA
  refine ⟨fun q hq=>?_,?_⟩
  ·rcases List.mem_cons.1 hq with rfl | hq
   ·exact hx.1
   ·exact k1 q hq
  ·have hS:Froz μ mem S (r::ms) b:=.inr ⟨r,by simp,⟨_,hm,trivial⟩,_,hμ,rfl⟩
   have e3:l.length+1=(cat l [d']).length:=by simp [cat]
   rw [e3] at g2 ⊢
   refine repList_of hS g1 g2 fun i j c hi hj=>?_
   obtain ⟨y,y1,_,y3⟩:=k2 i j c hi hj
   exact ⟨y,by simpa using y1,froz_cons y3⟩
 | fn f caps =>
  obtain ⟨h0,vs,rfl,h2,h3⟩:=hx
  rcases caps with _ | ⟨r,_ | ⟨r2,rest⟩⟩
  ·simp only [toDat] at h
   split at h<;>try cases h
   rename_i hf
   have:=Nat.eq_of_beq_eq_true hf
   subst this
   have:vs=#[]:=Array.eq_empty_of_size_eq_zero (by simpa using h2)
   subst this
   exact ⟨fun r hr=>by simp at hr,.fnw0⟩
  ·simp only [toDat] at h
   split at h<;>try cases h
   rename_i hf
   have:=Nat.eq_of_beq_eq_true hf
   subst this
   split at h<;>try cases h
   rename_i n hl
   have hm:=sees_box hs hl
   obtain ⟨y0,y1,y2,y3⟩:=h3 0 r rfl
   obtain ⟨b,e1,rfl⟩:=y3 _ hm
   have e2:=y1
   obtain ⟨l',e3,hrel⟩:=I.rel r _ hm trivial
   rw [e1] at e3; cases e3
   obtain ⟨cur,e,g1,g2,g3⟩:=hrel
   obtain ⟨y,k1,_,k2⟩:=g3 0 _ rfl
   cases k2
   have hv:vs=#[.pointer (some (at0 b 0))]:=by
    apply Array.ext
    ·simpa using h2
    ·intro i hi _
     have:i=0:=by simp at h2; omega
     subst this
     simpa [hi] using e2
   subst hv
   exact ⟨fun q hq=>by simp at hq; subst hq; rw [hm]; exact (fun h=>by cases h),.fnw1 n b cur e (0,0) (.inr ⟨r,by simp,⟨_,hm,trivial⟩,_,e1,rfl⟩) g1 k1⟩
  ·simp only [toDat] at h; cases h
 | _=>simp only [toDat] at h; cases h

theorem toDat_isDat {lm:Mem} {c d:C} {ns:List Nat} (h:toDat tab lm c=some (d,ns)):∃ t e,d=.dat t e:=by
 unfold toDat at h
 split at h<;>(try split at h)<;>(try split at h)<;>(try cases h)<;>exact ⟨_,_,rfl⟩

theorem toDats_rel {lm:Mem} (I:Inv tab μ mem w S) (hs:Sees lm mem):∀ {cs ds:List C} {ns:List Nat} (ys:Nat→Option Value),
  (∀ (i:Nat) c,cs[i]? = some c→∃ y,ys i=some y∧y.oneCell'=true∧RelC tab μ mem w S c y)→toDats tab lm cs=some (ds,ns) →
  (∀ r∈ns,mem r≠none)∧ds.length=cs.length∧∀ (i:Nat) d,ds[i]? = some d→∃ y,ys i=some y∧y.oneCell'=true∧RepC tab w (Froz μ mem S ns) d y:=by
 intro cs
 induction cs with
 | nil =>
  intro ds ns ys _ h
  simp only [toDats] at h; cases h
  exact ⟨fun r hr=>by simp at hr,rfl,fun i d hi=>by simp at hi⟩
 | cons c cs ih =>
  intro ds ns ys hy h
  simp only [toDats] at h
  split at h<;>try cases h
  rename_i d1 n1 h1
  split at h<;>try cases h
  rename_i ds' ms h2
  obtain ⟨y,e1,e2,e3⟩:=hy 0 c rfl
  obtain ⟨g1,g2⟩:=toDat_rel I hs ⟨e2,e3⟩ h1
  obtain ⟨k1,k2,k3⟩:=ih (fun i=>ys (i+1)) (fun i c hi=>hy (i+1) c hi) h2
  refine ⟨fun r hr=>?_,by simp [k2],fun i d hi=>?_⟩
  ·simp only [List.mem_append] at hr
   exact hr.elim (g1 r) (k1 r)
  ·cases i with
   | zero=>simp at hi; subst hi; exact ⟨y,e1,e2,froz_left g2⟩
   | succ i =>
    simp at hi
    obtain ⟨y',f1,f2,f3⟩:=k3 i d hi
    exact ⟨y',f1,f2,froz_right f3⟩

theorem put_rel {R:C→Value→Prop} {old cs:List C} {cur ys:List Value} {o:Nat} (ho:o+cs.length≤old.length) (hl:ys.length=cs.length) (hc:o+cs.length≤cur.length)
  (h1:∀ (i:Nat) c,old[i]? = some c→∃ y,cur[i]? = some y∧R c y) (h2:∀ (i:Nat) c,cs[i]? = some c→∃ y,ys[i]? = some y∧R c y) :
  ∀ (i:Nat) c,(put old o cs)[i]? = some c→∃ y,(cur.take o++ys++cur.drop (o+ys.length))[i]? = some y∧R c y:=by
 intro i c hi
 unfold put at hi
 rw [List.append_assoc] at hi ⊢
 have t1:(old.take o).length=o:=by simp; omega
 have t2:(cur.take o).length=o:=by simp; omega
 by_cases h:i<o
 ·rw [List.getElem?_append_left (by omega),List.getElem?_take_of_lt h] at hi
  rw [List.getElem?_append_left (by omega),List.getElem?_take_of_lt h]
  exact h1 i c hi
 ·rw [List.getElem?_append_right (by omega),t1] at hi
  rw [List.getElem?_append_right (by omega),t2]
  by_cases h':i-o<cs.length
  ·rw [List.getElem?_append_left h'] at hi
   rw [List.getElem?_append_left (by omega)]
   exact h2 _ c hi
  ·rw [List.getElem?_append_right (by omega),List.getElem?_drop] at hi
   rw [List.getElem?_append_right (by omega),List.getElem?_drop,hl]
   exact h1 _ c hi

end
end Vm
end Go.Proofs.YtlbppjmekiemiacGreatDoor

