/- The executor on data: part 2 of 4. No condition. -/
import Derived.Test.YtlbppjmekiemiaaGreatDoorVma
/- The executor on data: stores. No condition. -/
namespace Go.Proofs.YtlbppjmekiemiaaGreatDoor
namespace bE
section
variable {P:Program} {tab:ci} {O bU:dk} {mem fl:dS} {w w':World} {S S':Nat->Prop}

theorem LL{T:Nat}{aK:c7}(bH:fp P tab)(bl:dO tab T=some aK){b o:Nat}{e:TypeId}{cur:Array Value}{x:Value}(aA:w.heap[b]? = some (.cells cur e (0,0)))
  (aq:x.cells.size=aK.n) (aY:o+aK.n<=cur.size) (I:∀u∈x.cells.toList,u.oneCell'=true) :
  (storeVar T (b6 b o) x).run P w=.ok () (w.setRow b (cur.toList.take o++x.cells.toList++cur.toList.drop (o+x.cells.toList.length)).toArray):=by
 obtain⟨i,bg,a1,bf,_⟩:=(bH.ok T aK bl).info;have fJ:=run_storeCells_at P b o e x.cells.toList 0 cur w aA (by simp;omega) I;simp only[Nat.add_zero]at fJ;simp only[storeVar,Sem.run_bind,run_sizeOf a1,Result.andThen_ok,bf,aq];simpa[b6]using fJ

theorem YA{x:Value}{n:Nat}{R:Nat->Value->Prop}(aq:x.cells.size=n)(h:∀i,i<n->∃y,x.cells[i]? = some y/\y.oneCell'=true/\R i y):∀u∈x.cells.toList,u.oneCell'=true:=by
 intro u hu;obtain⟨i,hi,rfl⟩:=List.getElem_of_mem hu;obtain⟨y,I,G,_⟩:=h i (by simpa[aq]using hi);have:x.cells.toList[i]=y:=by
  have:=Array.getElem?_eq_some_iff.1 I;obtain⟨_,ab⟩:=this;simpa using ab
 rw[this];exact G

theorem yn(b:Nat)(cs:Array Value):(w.setRow b cs).heap.size=w.heap.size/\(w.setRow b cs).os=w.os/\(w.setRow b cs).tape=w.tape/\(w.setRow b cs).output=w.output :=
 ⟨by simp,rfl,rfl,rfl⟩

theorem Jr{α:Type}{l:List α}{n:Nat}(h:l.length=n):∀i,i<n->∃c,l[i]? = some c:=fun _ hi=>⟨_,List.getElem?_eq_getElem (h▸hi)⟩

theorem aem{o:Oper}{a:Act}{T:Nat}{aK:c7}{x y:Operand}{c:C}{v eT:V}{lm:Mem}{p:Option Prop}{m:Mem}(bH:fp P tab)(aY:o.op=.store T x y)(bl:dO tab T=some aK)
  (aD:Inv tab O mem w S) (av:gi lm mem) (aG:ch tab O mem w S (.one c) (a.eval x)) (ct:ch tab O mem w S v (a.eval y)) (h:MA tab aK c v lm=some (p,eT,m)) (ag:under p True) :
  dU P o a w (ec tab O mem w S m eT):=by
 unfold MA at h;split at h<;>try cases h
 rename_i cs el;split at h<;>try cases h
 rename_i aab;have hlen:cs.length=aK.n:=Nat.eq_of_beq_eq_true aab;obtain⟨aO,aX⟩:=AK ct el;have uN:∀u∈(a.eval y).cells.toList,u.oneCell'=true:=YA (R:=fun _ _=>True) aO fun _ hi=>by
  obtain⟨c,az⟩:=Jr rfl _ hi;obtain⟨y,a1,bf,_⟩:=aX _ c az;exact⟨y,a1,bf,trivial⟩
 have cY:∀(i:Nat) c,cs[i]? = some c->∃u,(a.eval y).cells.toList[i]? = some u/\u.oneCell'=true/\fv tab O mem w S c u:=fun i c hi=>by
  obtain⟨u,a1,bf,cj⟩:=aX i c hi;exact⟨u,by simpa using a1,bf,cj⟩
 cases c with
 |ptr r off =>
  simp only at h;split at h<;>try cases h
  rename_i old ax;split at h<;>try cases h
  rename_i hle;have lY:=Nat.le_of_ble_eq_true hle;obtain⟨b,vs,e,f1,f2,f3,f4,f5⟩:=AQ av aD ax aG;have aB:=Ec av ax;have gR:=LL bH bl (o:=off) f3 (by rw[aO,hlen]) (by rw[f4];exact lY) uN;generalize hw:(vs.toList.take off++(a.eval y).cells.toList++vs.toList.drop (off+(a.eval y).cells.toList.length)).toArray=eM at gR;obtain⟨cJ,cE,ey,gw⟩:=yn (w:=w) b eM;have pQ:∀k,k≠b->(w.setRow b eM).heap[k]? = w.heap[k]?:=fun k ad=>setRow_other w b k eM ad
  have a5:=yD (S:=S) (B':=.box (put old off cs)) aB trivial f2 (b:=b) rfl trivial cJ pQ cE ey gw;refine Ea (w':=w.setRow b eM) (by simp[execOp,aY,Instr.storeAt,Instr.sureAddr,f1,gR]) ⟨O,S,a5,yE aB trivial f2 rfl cJ pQ a5 aD ⟨eM,e,setRow_heap w b vs eM e (0,0) f3,?_,fun i c hi=>?_⟩,trivial⟩
  ·subst hw;simp[put,aO,f4]<;>omega
  ·have:=DL (R:=fun c u=>u.oneCell'=true/\fv tab O mem w S c u) (old:=old) (cs:=cs) (cur:=vs.toList) (ys:=(a.eval y).cells.toList) (o:=off) (by omega) (by simp[aO]) (by simp[f4];omega)
    (fun i c hi=>by obtain⟨u,a1,bf,cj⟩:=f5 i c hi;exact⟨u,by simpa using a1,bf,cj⟩) cY i c hi
   obtain⟨u,a1,bf,cj⟩:=this;refine⟨u,?_,bf,cj.ext a5 aD⟩;subst hw;simpa using a1
 |j6 r i k =>
  simp only at h;split at h<;>try cases h
  rename_i ds ns sZ;split at h<;>try cases h
  rename_i IW;split at h<;>try cases h
  rename_i t l ax;split at h<;>try cases h
  rename_i hle;split at h<;>try cases h
  rename_i d bO;have lY:=Nat.le_of_ble_eq_true hle;have hi:i<l.length:=ag.1;have m8:r∉ns:=Ai IW;obtain⟨bK,bX,dh⟩:=Eu aD av (fun i=>(a.eval y).cells.toList[i]?) cY sZ;obtain⟨em,hD⟩:=qT (ns:=ns) aD;obtain⟨b,cap,cur,e,f1,f2,f3,f4,f5,f6,f7⟩:=LQ av aD ax aG;have aB:=vq av ax;have rP:cO (gP ns) mem r=some (.arr t l):=by
   rcases n0 (mem:=mem) ns r with⟨I,_⟩|⟨_,G⟩
   ·exact absurd I m8
   ·rw[G];exact aB
  have hcap:i*t.width+t.width<=cur.size:=by
   have:(i+1)*t.width<=cap*t.width:=Nat.mul_le_mul_right _ (by omega);rw[Nat.add_mul]at this;omega
  have gR:=LL bH bl (o:=i*t.width+k) f3 (by rw[aO,hlen]) (by omega) uN;generalize hw:(cur.toList.take (i*t.width+k)++(a.eval y).cells.toList++cur.toList.drop (i*t.width+k+(a.eval y).cells.toList.length)).toArray=eM at gR;obtain⟨cJ,cE,ey,gw⟩:=yn (w:=w) b eM;have pQ:∀k,k≠b->(w.setRow b eM).heap[k]? = w.heap[k]?:=fun k ad=>setRow_other w b k eM ad
  have dL:=yD (S:=fX O mem S ns) (B':=.arr t (setAt l i d)) rP trivial f2 (b:=b) rfl rfl cJ pQ cE ey gw;have fs:eM.size=cur.size:=by
   subst hw;simp[aO,hlen];omega
  have kk:∀q:Nat,eM[q]? = (cur.toList.take (i*t.width+k)++(a.eval y).cells.toList++cur.toList.drop (i*t.width+k+(a.eval y).cells.toList.length))[q]?:=fun q=>by
   subst hw;simp
  have qO:(a.eval y).cells.toList.length=aK.n:=by simp[aO,hlen]
  have uE:ds.length=aK.n:=by rw[bX,hlen]
  refine Ea (w':=w.setRow b eM) (by simp[execOp,aY,Instr.storeAt,Instr.sureAddr,f1,gR]) ⟨O,fX O mem S ns,?_,?_,trivial⟩
  ·rw[fx];exact em.trans dL
  ·rw[fx];refine yE rP trivial f2 rfl cJ pQ dL hD (.inr ⟨b,cap,eM,e,by rw[show(setAt l i d).length=l.length from List.length_set],setRow_heap w b cur eM e (0,0) f3,by rw[show(setAt l i d).length=l.length from List.length_set];exact f4,f5,by rw[fs];exact f6,fun j q fK aR aI=>?_⟩);have iv:j<l.length:=by simpa[setAt]using aR
   have mono:∀{y2:C} {u:Value},dC tab w (fX O mem S ns) y2 u->dC tab (w.setRow b eM) (fX O mem S ns) y2 u:=fun h=>h.mono (fun _ h=>h) (dL.keeps hD)
   by_cases QQ:j=i
   ·subst QQ;have aq:nth (setAt l j d) j t.H=d:=by simp[nth,setAt,iv]
    rw[aq,Dx bO]at aI;have iW:(put (t.cells (nth l j t.H)) k ds).length=t.width:=by
     have:=iT t (nth l j t.H);simp[put,this,uE];omega
    have C9:q<t.width:=by rw[<- iW];exact(List.getElem?_eq_some_iff.1 aI).1
    have:=DL (R:=fun c u=>u.oneCell'=true/\dC tab w (fX O mem S ns) c u) (old:=t.cells (nth l j t.H)) (cs:=ds) (cur:=(cur.toList.drop (j*t.width)).take t.width) (ys:=(a.eval y).cells.toList) (o:=k)
     (by rw[iT];omega) (by rw[qO,uE]) (by simp;omega)
     (fun q c aI=>by
      have C9:q<t.width:=by rw[<- iT t (nth l j t.H)];exact(List.getElem?_eq_some_iff.1 aI).1
      obtain⟨u,a1,bf,cj⟩:=f7 j q c iv aI;refine⟨u,?_,bf,r0 cj⟩;rw[List.getElem?_take_of_lt C9,List.getElem?_drop];simpa using a1)
     (fun q c aI=>by
      obtain⟨u,a1,bf,cj⟩:=dh q c aI;exact⟨u,a1,bf,cj⟩) q fK aI
    obtain⟨u,a1,bf,cj⟩:=this;refine⟨u,?_,bf,mono cj⟩;rw[kk,<- a1]
    by_cases bA:q<k
    ·rw[List.append_assoc,List.append_assoc,List.getElem?_append_left (by simp;omega),List.getElem?_append_left (by simp;omega),List.getElem?_take_of_lt (by omega),List.getElem?_take_of_lt bA,List.getElem?_take_of_lt C9,List.getElem?_drop]
    ·by_cases bb:q<k+aK.n
     ·rw[List.append_assoc,List.append_assoc,List.getElem?_append_right (by simp;omega),List.getElem?_append_left (by simp;omega),List.getElem?_append_right (by simp;omega),List.getElem?_append_left (by simp;omega)];congr 1;simp;omega
     ·rw[List.getElem?_append_right (by simp;omega),List.getElem?_append_right (by simp;omega),List.getElem?_drop,List.getElem?_drop,List.getElem?_take_of_lt (by simp;omega),List.getElem?_drop];congr 1;simp;omega
   ·have aq:nth (setAt l i d) j t.H=nth l j t.H:=by
     simp[nth,setAt,List.getD,Ne.symm QQ]
    rw[aq]at aI;obtain⟨u,a1,bf,cj⟩:=f7 j q fK iv aI;refine⟨u,?_,bf,mono (r0 cj)⟩;have C9:q<t.width:=by rw[<- iT t (nth l j t.H)];exact(List.getElem?_eq_some_iff.1 aI).1
    rw[kk]
    by_cases bA:j<i
    ·have:(j+1)*t.width<=i*t.width:=Nat.mul_le_mul_right _ (by omega);rw[Nat.add_mul]at this;rw[List.append_assoc,List.getElem?_append_left (by simp;omega),List.getElem?_take_of_lt (by omega)];simpa using a1
    ·have:(i+1)*t.width<=j*t.width:=Nat.mul_le_mul_right _ (by omega);rw[Nat.add_mul]at this;rw[List.getElem?_append_right (by simp;omega),List.getElem?_drop];have:i*t.width+k+(a.eval y).cells.toList.length+(j*t.width+q-(cur.toList.take (i*t.width+k)++(a.eval y).cells.toList).length)=j*t.width+q:=by
      simp;omega
     rw[this];simpa using a1
 |kL r k =>
  simp only at h;split at h<;>try cases h
  rename_i t l old ax;split at h<;>try cases h
  rename_i hle;have lY:=Nat.le_of_ble_eq_true hle;obtain⟨b,cap,cur,e,f1,f2,f3,f4,f5,f6,f7,f8⟩:=BH av aD ax aG;have aB:=VU av ax;have akd:k+aK.n<=t.width:=by
   by_cases gO:old.length=0
   ·omega
   ·have aR:old.length-1<old.length:=by omega
    have:=(f8 (old.length-1) _ (List.getElem?_eq_getElem aR)).1;omega
  have hcap:l.length*t.width+t.width<=cur.size:=by
   have:(l.length+1)*t.width<=cap*t.width:=Nat.mul_le_mul_right _ (by omega);rw[Nat.add_mul]at this;omega
  have gR:=LL bH bl (o:=l.length*t.width+k) f3 (by rw[aO,hlen]) (by omega) uN;generalize hw:(cur.toList.take (l.length*t.width+k)++(a.eval y).cells.toList++cur.toList.drop (l.length*t.width+k+(a.eval y).cells.toList.length)).toArray=eM at gR;obtain⟨cJ,cE,ey,gw⟩:=yn (w:=w) b eM;have pQ:∀k,k≠b->(w.setRow b eM).heap[k]? = w.heap[k]?:=fun k ad=>setRow_other w b k eM ad
  have a5:=yD (S:=S) (B':=.ew t l (put old k cs)) aB trivial f2 (b:=b) rfl ⟨rfl,rfl⟩ cJ pQ cE ey gw;have qO:(a.eval y).cells.toList.length=aK.n:=by simp[aO,hlen]
  have fs:eM.size=cur.size:=by
   subst hw;simp[aO,hlen];omega
  refine Ea (w':=w.setRow b eM) (by simp[execOp,aY,Instr.storeAt,Instr.sureAddr,f1,gR]) ⟨O,S,a5,yE aB trivial f2 rfl cJ pQ a5 aD ⟨b,cap,eM,e,rfl,setRow_heap w b cur eM e (0,0) f3,f4,f5,by rw[fs];exact f6,fun i j c hi aR=>?_,fun j c aR=>?_⟩,trivial⟩
  ·obtain⟨u,a1,bf,cj⟩:=f7 i j c hi aR;have k4:j<t.width:=by rw[<- iT t (nth l i t.H)];exact(List.getElem?_eq_some_iff.1 aR).1
   have aaN:(i+1)*t.width<=l.length*t.width:=Nat.mul_le_mul_right _ (by omega);rw[Nat.add_mul]at aaN;refine⟨u,?_,bf,cj.mono a5.sub (a5.keeps aD)⟩;subst hw;rw[List.getElem?_toArray,List.append_assoc,List.getElem?_append_left (by simp;omega),List.getElem?_take_of_lt (by omega)];simpa using a1
  ·have iW:(put old k cs).length=old.length:=by simp[put];omega
   have iv:j<old.length:=by rw[<- iW];exact(List.getElem?_eq_some_iff.1 aR).1
   have k4:j<t.width:=(f8 j _ (List.getElem?_eq_getElem iv)).1;refine⟨k4,?_⟩;have:=DL (R:=fun c u=>u.oneCell'=true/\fv tab O mem w S c u) (old:=old) (cs:=cs) (cur:=cur.toList.drop (l.length*t.width)) (ys:=(a.eval y).cells.toList) (o:=k) (by omega) (by simp[aO]) (by simp;omega)
    (fun i c hi=>by obtain⟨_,u,a1,bf,cj⟩:=f8 i c hi;exact⟨u,by rw[List.getElem?_drop];simpa using a1,bf,cj⟩) cY j c aR
   obtain⟨u,a1,bf,cj⟩:=this;refine⟨u,?_,bf,cj.ext a5 aD⟩;rw[<- a1];subst hw;rw[List.getElem?_toArray,<- List.getElem?_drop];congr 1;rw[List.append_assoc,List.drop_append_of_le_length (by simp;omega),List.drop_take,show l.length*t.width+k-l.length*t.width=k by omega,List.drop_drop,List.append_assoc];congr 3;omega
 |_=>cases h
end
end bE
end Go.Proofs.YtlbppjmekiemiaaGreatDoor


/- The executor on data: addresses, lengths, pieces, small ones. No condition. -/
namespace Go.Proofs.YtlbppjmekiemiaaGreatDoor
namespace bE
section
variable {P:Program} {tab:ci} {O bU:dk} {mem fl:dS} {w w':World} {S S':Nat->Prop}

theorem DF{o:Oper}{a:Act}{x:Operand}{c:C}(aY:o.op=.nilCheck x)(aD:Inv tab O mem w S)(aG:ch tab O mem w S (.one c) (a.eval x))(ag:∃dP,a.eval x=.pointer (some dP)) :
  dU P o a w (ec tab O mem w S [] (.one c)):=by
 obtain⟨dP,e⟩:=ag;exact gV (x:=a.eval x) (w':=w) (by simp[execOp,aY,e]) (gy aD aG)

theorem aej{o:Oper}{a:Act}{x:Operand}{f:Nat}{cs:List Nat}(aY:o.op=.nilCheck x)(aD:Inv tab O mem w S)(aG:ch tab O mem w S (.one (.fn f cs)) (a.eval x)) :
  dU P o a w (ec tab O mem w S [] (.one (.fn f cs))):=by
 have zZ:=aG;obtain⟨_,_,vs,e,_⟩:=zZ;exact gV (x:=a.eval x) (w':=w) (by simp[execOp,aY,e]) (gy aD aG)

theorem aek{o:Oper}{a:Act}{x:Operand}{t:TypeId}{b:Bool}(aY:o.op=.unOp .not t x)(aD:Inv tab O mem w S)(aG:ch tab O mem w S (.one (.E .bool b)) (a.eval x)) :
  dU P o a w (ec tab O mem w S [] (.one (.E .bool (!b)))):=by
 have e:=r8 aG;exact gV (x:=.bool (!b)) (w':=w) (by simp[execOp,aY,e,Op.unary]) (gy aD (nh _))

theorem aei{o:Oper}{a:Act}{x:Operand}{t:TypeId}{n:Int}(aY:o.op=.unOp .neg t x)(aD:Inv tab O mem w S)(aG:ch tab O mem w S (.one (.E .int n)) (a.eval x)) :
  dU P o a w (ec tab O mem w S [] (.one (.E .int (W (-n))))):=by
 have e:=k9 aG;exact gV (x:=.int .i64 (W (-n))) (w':=w) (by simp[execOp,aY,e,Op.unary,Op.intArith,W]) (gy aD (oT _))

theorem Ew{T:Nat}{aK:c7}(bH:fp P tab)(bl:dO tab T=some aK)(ad:aK.isInt=true):P.underlying T=some (.int .i64):=by
 have:=(bH.ok T aK bl).kind;unfold c7.isInt at ad;cases hW:aK.hl<;>rw[hW]at ad this<;>first|exact this|cases ad
theorem ajf{T:Nat}{aK:c7}(bH:fp P tab)(bl:dO tab T=some aK)(ad:aK.isBool=true):P.underlying T=some .bool:=by
 have:=(bH.ok T aK bl).kind;unfold c7.isBool at ad;cases hW:aK.hl<;>rw[hW]at ad this<;>first|exact this|cases ad
theorem ajg{T:Nat}{aK:c7}(bH:fp P tab)(bl:dO tab T=some aK)(ad:aK.isStr=true):P.underlying T=some .string:=by
 have:=(bH.ok T aK bl).kind;unfold c7.isStr at ad;cases hW:aK.hl<;>rw[hW]at ad this<;>first|exact this|cases ad

structure tW(P:Program)(tab:ci)(T:Nat)(t:z)(oV:Nat)(e:Nat)(i:TypeInfo)(bg:Value):Prop where
 hA:P.underlying T=some (.slice e)
 info:P.info? e=some i
 size:i.size=t.width
 bytes:i.bytes=oV
 zero:i.zero=some bg
 gN:bg.cells.size=t.width
 pos:0<t.width
 BK:0<oV
 MY:bg.cells.toList.all Value.oneCell'=true
 MX:t.pY=true->NC tab t bg.cells.toList

theorem jQ{T:Nat}{aK:c7}{t:z}(bH:fp P tab)(bl:dO tab T=some aK)(ad:aK.isSlice t=true):∃e i bg,tW P tab T t aK.bytes e i bg:=by
 have:=(bH.ok T aK bl).kind;unfold c7.isSlice at ad;cases hW:aK.hl with
 |slice u e =>
  rw[hW]at ad this;simp only[decide_eq_true_eq]at ad;subst ad;obtain⟨I,i,bg,G,ab,aV,br,bV,dm,dZ,iE,pF⟩:=this;exact⟨e,i,bg,I,G,ab,aV,br,bV,dm,dZ,iE,pF⟩
 |_=>rw[hW]at ad;cases ad

theorem ad3{o:Oper}{a:Act}{x:Operand}{s d:TypeId}{n:Int}{aK ju:c7}(bH:fp P tab)(aY:o.op=.convert s d x)(av:dO tab s=some ju)(aR:ju.isInt=true)(bl:dO tab d=some aK)(ad:aK.isInt=true)
  (aD:Inv tab O mem w S) (aG:ch tab O mem w S (.one (.E .int n)) (a.eval x)) :
  dU P o a w (ec tab O mem w S [] (.one (.E .int (W n)))):=by
 have e:=k9 aG;refine gV (x:=.int .i64 (W n)) (w':=w) ?_ (gy aD (oT _));simp only[execOp,aY,convert,Sem.run_bind,run_underlying (Ew bH av aR),run_underlying (Ew bH bl ad),Result.andThen_ok,e];simp[Conv.intToInt,W]

theorem Xp{T:Nat}{aK:c7}(bH:fp P tab)(bl:dO tab T=some aK)(ad:aK.wV=true):P.underlying T=some (.int .u64):=by
 have:=(bH.ok T aK bl).kind;unfold c7.wV at ad;cases hW:aK.hl<;>rw[hW]at ad this<;>first|exact this|cases ad

theorem ad2{o:Oper}{a:Act}{x:Operand}{s d:TypeId}{n:Int}{aK ju:c7}(bH:fp P tab)(aY:o.op=.convert s d x)(av:dO tab s=some ju)(aR:ju.isInt=true)(bl:dO tab d=some aK)(ad:aK.wV=true)
  (aD:Inv tab O mem w S) (aG:ch tab O mem w S (.one (.E .int n)) (a.eval x)) :
  dU P o a w (ec tab O mem w S [] (.one (.E .u64 (sg n)))):=by
 have e:=k9 aG;refine gV (x:=.int .u64 (sg n)) (w':=w) ?_ (gy aD (Du _));simp only[execOp,aY,convert,Sem.run_bind,run_underlying (Ew bH av aR),run_underlying (Xp bH bl ad),Result.andThen_ok,e];simp[Conv.intToInt,sg]

theorem ad1{o:Oper}{a:Act}{x:Operand}{s d:TypeId}{n:Int}{aK ju:c7}(bH:fp P tab)(aY:o.op=.convert s d x)(av:dO tab s=some ju)(aR:ju.wV=true)(bl:dO tab d=some aK)(ad:aK.isInt=true)
  (aD:Inv tab O mem w S) (aG:ch tab O mem w S (.one (.E .u64 n)) (a.eval x)) :
  dU P o a w (ec tab O mem w S [] (.one (.E .int (W n)))):=by
 have e:=AL aG;refine gV (x:=.int .i64 (W n)) (w':=w) ?_ (gy aD (oT _));simp only[execOp,aY,convert,Sem.run_bind,run_underlying (Xp bH av aR),run_underlying (Ew bH bl ad),Result.andThen_ok,e];simp[Conv.intToInt,W]

theorem ad5{o:Oper}{a:Act}{x:Operand}{i:Nat}{us:List V}{v:V}(aY:o.op=.extract x i)(aD:Inv tab O mem w S)(aG:ch tab O mem w S (.an us) (a.eval x))(aQ:us[i]? = some v) :
  dU P o a w (ec tab O mem w S [] v):=by
 obtain⟨xs,e,I,G⟩:=aG;obtain⟨y,a1,bf⟩:=G i v aQ;refine gV (x:=y) (w':=w) (by simp[execOp,aY,Instr.extract,e,a1]) (gy aD ?_);cases v with
 |one c=>cases c<;>first|trivial|exact bf
 |agg cs=>exact bf
 |an vs=>exact bf.elim

theorem aeh{o:Oper}{a:Act}{x y:Operand}{ts:Array TypeId}{n m:Int}(aY:o.op=.call { callee:=.builtin .min,args:=#[x,y],argTypes:=ts })(aD:Inv tab O mem w S)
  (aG:ch tab O mem w S (.one (.E .int n)) (a.eval x)) (ct:ch tab O mem w S (.one (.E .int m)) (a.eval y)) :
  dU P o a w (ec tab O mem w S [] (.one (.E .int (min n m)))):=by
 have aO:=k9 aG;have aX:=k9 ct;refine gV (x:=.int .i64 (min n m)) (w':=w) ?_ (gy aD (oT _));simp[execOp,aY,resolve,invoke,builtin,aO,aX,Builtin.min_,Builtin.min2];omega

theorem aeg{o:Oper}{a:Act}{x y:Operand}{ts:Array TypeId}{n m:Int}(aY:o.op=.call { callee:=.builtin .max,args:=#[x,y],argTypes:=ts })(aD:Inv tab O mem w S)
  (aG:ch tab O mem w S (.one (.E .int n)) (a.eval x)) (ct:ch tab O mem w S (.one (.E .int m)) (a.eval y)) :
  dU P o a w (ec tab O mem w S [] (.one (.E .int (max n m)))):=by
 have aO:=k9 aG;have aX:=k9 ct;refine gV (x:=.int .i64 (max n m)) (w':=w) ?_ (gy aD (oT _));simp[execOp,aY,resolve,invoke,builtin,aO,aX,Builtin.max_,Builtin.max2];omega

theorem aeq:∀{c4:List Field} {ps:List (Nat×Nat)},c4.mapM (fun f=>(P.info? f.type).map fun i=>(f.offset,i.size))=some ps ->
  c4.length=ps.length/\∀(j:Nat) q,ps[j]? = some q->∃f i,c4[j]? = some f/\P.info? f.type=some i/\f.offset=q.1/\i.size=q.2:=by
 intro c4
 induction c4 with
 |nil=>intro ps h;simp at h;subst h;exact⟨rfl,fun j q aR=>by simp at aR⟩
 |cons f c4 dd =>
  intro ps h;simp only[List.mapM_cons,Option.bind_eq_bind,Option.pure_def]at h;cases hi:P.info? f.type with
  |none=>simp[hi]at h
  |some i =>
   cases aw:c4.mapM (fun f=>(P.info? f.type).map fun i=>(f.offset,i.size))with
   |none=>simp[hi,aw]at h
   |some rest =>
    simp[hi,aw]at h;subst h;obtain⟨e,er⟩:=dd aw;refine⟨by simp[e],fun j q aR=>?_⟩;cases j with
    |zero=>simp at aR;subst aR;exact⟨f,i,rfl,hi,rfl,rfl⟩
    |succ j=>simp at aR;simpa using er j q aR

theorem DE{o:Oper}{a:Act}{x:Operand}{T f off:Nat}{aK:c7}{c d:C}(bH:fp P tab)(aY:o.op=.fieldAddr T x f)(bl:dO tab T=some aK)(ad:aK.Jk=true)(b1:aK.kq[f]? = some off)
  (aD:Inv tab O mem w S) (aG:ch tab O mem w S (.one c) (a.eval x))
  (bO:(∃r k,c=.ptr r k/\d=.ptr r (k+off))\/(∃r i k,c=.j6 r i k/\d=.j6 r i (k+off))\/(∃e l i k,c=.lS e l i k/\d=.lS e l i (k+off))\/(∃r k,c=.kL r k/\d=.kL r (k+off)))
  (ag:∃b k,a.eval x=.pointer (some (b6 b k))) :
  dU P o a w (ec tab O mem w S [] (.one d)):=by
 obtain⟨b,k,e⟩:=ag;have dX:=(bH.ok T aK bl).kind;unfold c7.Jk at ad;cases hW:aK.hl with
 |struct =>
  rw[hW]at dX;obtain⟨c4,I,G,ab,aV⟩:=dX;have dQ:f<aK.kq.length:=(List.getElem?_eq_some_iff.1 b1).1;obtain⟨_,iW⟩:=aeq G;have pM:f<aK.jt.length:=by omega
  obtain⟨P4,i,cJ,a1,I0,bf⟩:=iW f (off,aK.jt[f]) (by
   rw[List.getElem?_zip_eq_some];exact⟨b1,List.getElem?_eq_getElem pM⟩)
  have cj:aK.jt[f]≠0:=by
   have:=List.all_eq_true.1 aV aK.jt[f] (List.getElem_mem pM);have:=Nat.le_of_ble_eq_true this;omega
  have aeB:c4[f]? = some P4:=by simpa using cJ
  refine gV (x:=.pointer (some (b6 b (k+off)))) (w':=w) ?_ (gy aD ?_)
  ·have fs:i.size≠0:=by rw[bf];exact cj
   simp only[execOp,aY,Instr.fieldAt,Sem.run_bind,run_underlying I,Result.andThen_ok];simp only at I0;simp[aeB,e,Instr.sureAddr,fieldPlace,run_sizeOf a1,fs,I0,b6,Addr.add_lit]
  ·obtain⟨_,aG⟩:(a.eval x).oneCell'=true/\fv tab O mem w S c (a.eval x):=by
    rcases bO with⟨r,e5,rfl,rfl⟩|⟨r,Jh,e5,rfl,rfl⟩|⟨b8,l,Jh,e5,rfl,rfl⟩|⟨r,e5,rfl,rfl⟩<;>exact aG
   rcases bO with⟨r,e5,rfl,rfl⟩|⟨r,Jh,e5,rfl,rfl⟩|⟨b8,l,Jh,e5,rfl,rfl⟩|⟨r,e5,rfl,rfl⟩
   ·refine⟨rfl,aG.1,fun cs el=>?_⟩;obtain⟨fq,cJ,cE⟩:=aG.2 cs el;rw[e]at cE;cases cE;exact⟨b,cJ,rfl⟩
   ·refine⟨rfl,aG.1,fun t l ax=>?_⟩;obtain⟨fq,m,cap,cJ,cE⟩:=aG.2 t l ax;rw[e]at cE;cases cE;exact⟨b,m,cap,cJ,by rw[Nat.add_assoc]⟩
   ·obtain⟨fq,o',cJ,cE⟩:=aG;rw[e]at cE;cases cE;exact⟨rfl,b,o',cJ,by rw[Nat.add_assoc]⟩
   ·refine⟨rfl,aG.1,fun t l cs ax=>?_⟩;obtain⟨fq,m,cap,cJ,cE⟩:=aG.2 t l cs ax;rw[e]at cE;cases cE;exact⟨b,m,cap,cJ,by rw[Nat.add_assoc]⟩
 |_=>rw[hW]at ad;cases ad
end
end bE
end Go.Proofs.YtlbppjmekiemiaaGreatDoor


/- The executor on data: indexes, pieces, lengths. No condition. -/
namespace Go.Proofs.YtlbppjmekiemiaaGreatDoor
namespace bE
section
variable {P:Program} {tab:ci} {O bU:dk} {mem fl:dS} {w w':World} {S S':Nat->Prop}

theorem D7{T:Nat}{t:z}{oV e:Nat}{i:TypeInfo}{bg:Value}(av:tW P tab T t oV e i bg)(dP:Addr)(n cap:Nat)(j:Int)(a6:0<=j)(I:j<(n:Nat)) :
  (Instr.indexAt T (.slice (some dP) n cap) (.int .i64 j)).run P w=.ok (.pointer (some (dP.add (j.toNat*t.width)))) w:=by
 simp[Instr.indexAt,asIntOf,run_underlying av.hA,run_sizeOf av.info,av.size,a6,I]

theorem lb{o:Oper}{a:Act}{x:Value}{R:Value->World->Prop}{s:Sem Value}(bp:execOp a.eval o=(do pure (.value (<- s))))(h:s.run P w=.ok x w')(gY:R x w'):dU P o a w R :=
 gV (by rw[bp,Sem.run_bind,h];rfl) gY

theorem afX{t:z}{l:List t.den}{x:Value}(h:dC tab w S (.E (.list t) l) x)(ax:l≠[]) :
  ∃b off cap,x=.slice (some (b6 b off)) l.length cap/\l.length<=cap/\∀i,i<l.length->yN tab w S t (nth l i t.H) b (off+i*t.width):=by
 cases h with
 |empty=>exact absurd rfl ax
 |list t l b off cap cs dw hcap az aw=>exact⟨b,off,cap,rfl,hcap,fun i hi=>⟨dw,cs i,fun j aR=>az i j hi aR,fun j c aR=>aw i j c hi aR⟩⟩

theorem Vx{t:z}{l:List t.den}{x:Value}(h:dC tab w S (.E (.list t) l) x):∃a cap,x=.slice a l.length cap/\l.length<=cap:=by
 cases h with
 |empty t a cap=>exact⟨a,cap,rfl,by simp⟩
 |list t l b off cap cs dw hcap az aw=>exact⟨_,cap,rfl,hcap⟩

theorem tp{lm:Mem}{r:Nat}{t:z}{l:List t.den}{x:Value}(av:gi lm mem)(aD:Inv tab O mem w S)(h:look lm r=some (.arr t l))(aG:ch tab O mem w S (.one (.own r)) x) :
  mem r=some (.arr t l)/\O r=some (.eu x)/\((x=.slice none 0 0/\l=[]) \/
   ∃(b cap:Nat) (cur:Array Value) (e:TypeId),x=.slice (some (b6 b 0)) l.length cap/\w.heap[b]? = some (.cells cur e (0,0))/\l.length<=cap/\cap<=maxLen/\cap*t.width<=cur.size /\
    ∀i j c,i<l.length->(t.cells (nth l i t.H))[j]? = some c->∃y,cur[i*t.width+j]? = some y/\y.oneCell'=true/\dC tab w S c y):=by
 have aB:=vq av h;obtain⟨_,_,ag⟩:=aG;have dj:=ag t l aB;obtain⟨l',aO,dN⟩:=aD.rel r _ aB trivial;rw[dj]at aO;cases aO;exact⟨aB,dj,dN⟩

theorem vF{lm:Mem}{r off n:Nat}{t:z}{l:List t.den}{x:Value}(av:gi lm mem)(aD:Inv tab O mem w S)(h:look lm r=some (.arr t l))(aG:ch tab O mem w S (.one (.view r off n)) x) :
  mem r=some (.arr t l)/\∃y,O r=some (.eu y)/\NM t.width off n y x/\((y=.slice none 0 0/\l=[]) \/
   ∃(b cap:Nat) (cur:Array Value) (e:TypeId),y=.slice (some (b6 b 0)) l.length cap/\w.heap[b]? = some (.cells cur e (0,0))/\l.length<=cap/\cap<=maxLen/\cap*t.width<=cur.size /\
    ∀i j c,i<l.length->(t.cells (nth l i t.H))[j]? = some c->∃y,cur[i*t.width+j]? = some y/\y.oneCell'=true/\dC tab w S c y):=by
 have aB:=vq av h;obtain⟨_,_,ag⟩:=aG;obtain⟨y,dj,aQ⟩:=ag t l aB;obtain⟨l',aO,dN⟩:=aD.rel r _ aB trivial;rw[dj]at aO;cases aO;exact⟨aB,y,dj,aQ,dN⟩

theorem ad8{o:Oper}{a:Act}{x y:Operand}{T:Nat}{aK:c7}{c:C}{j:Int}{lm:Mem}{p:Option Prop}{v:V}{m:Mem}(bH:fp P tab)(aY:o.op=.indexAddr T x y)(bl:dO tab T=some aK)
  (aD:Inv tab O mem w S) (av:gi lm mem) (aG:ch tab O mem w S (.one c) (a.eval x)) (ct:ch tab O mem w S (.one (.E .int j)) (a.eval y)) (h:qP aK lm c j=some (p,v,m)) (ag:under p True) :
  dU P o a w (ec tab O mem w S m v):=by
 have eB:=k9 ct;cases c with
 |E ez d =>
  cases ez with
  |list t =>
   simp only[qP]at h;split at h<;>try cases h
   rename_i ad;obtain⟨a6,I⟩:0<=j/\j<(((d:List t.den).length:Nat):Int):=ag.1;obtain⟨e,i,bg,c1⟩:=jQ bH bl ad;have dz:(d:List t.den)≠[]:=fun e=>by subst e;simp at I;omega
   obtain⟨b,off,cap,ex,hcap,IC⟩:=afX aG.2 dz;refine lb (x:=.pointer (some (b6 b (off+j.toNat*t.width)))) (w':=w) (s:=Instr.indexAt T (a.eval x) (a.eval y)) (by simp only[execOp,aY]) ?_ (gy aD ⟨rfl,b,off+j.toNat*t.width,IC _ (by omega),by simp⟩);rw[ex,eB,D7 c1 _ _ _ j a6 I,b6,Addr.add_lit];rfl
  |_=>simp only[qP]at h;cases h
 |own r =>
  simp only[qP]at h;split at h<;>try cases h
  rename_i t l ax;split at h<;>try cases h
  rename_i ad;obtain⟨a6,I⟩:0<=j/\j<((l.length:Nat):Int):=ag.1;obtain⟨e,i,bg,c1⟩:=jQ bH bl ad;obtain⟨aB,dj,dN⟩:=tp av aD ax aG;rcases dN with⟨_,rfl⟩|⟨b,cap,cur,b8,ex,aA,ab,aV,br,bV⟩
  ·simp at I;omega
  ·refine lb (x:=.pointer (some (b6 b (j.toNat*t.width)))) (w':=w) (s:=Instr.indexAt T (a.eval x) (a.eval y)) (by simp only[execOp,aY]) ?_ (gy aD ⟨rfl,by rw[aB];exact(fun h=>by cases h),fun ez l' g4=>?_⟩)
   ·rw[ex,eB,D7 c1 _ _ _ j a6 I,b6,Addr.add_lit,Nat.zero_add];rfl
   ·rw[aB]at g4;cases g4;exact⟨b,l.length,cap,by rw[dj,ex],by simp⟩
 |view r off n =>
  simp only[qP]at h;split at h<;>try cases h
  rename_i t l ax;split at h<;>try cases h
  rename_i ad;obtain⟨a6,I,G⟩:0<=j/\j<((n:Nat):Int)/\off+n<=l.length:=ag.1;obtain⟨e,i,bg,c1⟩:=jQ bH bl ad;obtain⟨aB,sn,dj,aQ,dN⟩:=vF av aD ax aG;rcases dN with⟨_,rfl⟩|⟨b,cap,cur,b8,ex,aA,ab,aV,br,bV⟩
  ·simp at G;omega
  ·obtain⟨a0,m0,iS,ei,jg,a1,bf,cj,eR,gf,gX⟩:=aQ;rw[ex]at a1;cases a1;have aq:0<n:=by omega
   have:=eR aq;subst this;refine lb (x:=.pointer (some (b6 b ((off+j.toNat)*t.width)))) (w':=w) (s:=Instr.indexAt T (a.eval x) (a.eval y)) (by simp only[execOp,aY]) ?_ (gy aD ⟨rfl,by rw[aB];exact(fun h=>by cases h),fun ez l' g4=>?_⟩)
   ·rw[bf,eB,Option.map_some,D7 c1 _ _ _ j a6 I];simp only[b6,Addr.add_lit,Nat.zero_add,Nat.add_mul]
   ·rw[aB]at g4;cases g4;exact⟨b,l.length,cap,by rw[dj,ex],by simp⟩
 |ia r =>
  simp only[qP]at h;split at h<;>try cases h
  rename_i t l cs ax;split at h<;>try cases h
  rename_i ad;have I:j=((l.length:Nat):Int):=ag.1;obtain⟨e,i,bg,c1⟩:=jQ bH bl ad;obtain⟨aB,b,cap,cur,b8,ex,dj,_⟩:=yU av aD ax aG;refine lb (x:=.pointer (some (b6 b (j.toNat*t.width)))) (w':=w) (s:=Instr.indexAt T (a.eval x) (a.eval y)) (by simp only[execOp,aY]) ?_ (gy aD ⟨rfl,by rw[aB];exact(fun h=>by cases h),fun ez l' eK g4=>?_⟩)
  ·rw[ex,eB,D7 c1 _ _ _ j (by omega) (by omega),b6,Addr.add_lit,Nat.zero_add];rfl
  ·rw[aB]at g4;cases g4;exact⟨b,l.length+1,cap,by rw[dj,ex],by simp[I]⟩
 |nil t =>
  simp only[qP]at h;cases h;exact ag.1.elim
 |ptr r off =>
  simp only[qP]at h;split at h<;>try cases h
  rename_i n mN cs hW ax;obtain⟨a6,I⟩:0<=j/\j<((n:Nat):Int):=ag.1;have dX:=(bH.ok T aK bl).kind;rw[hW]at dX;obtain⟨e,i,bK,bX,dh,eW,_⟩:=dX;obtain⟨b,vs,b8,ex,dj,_⟩:=AQ av aD ax aG;have aB:=Ec av ax;refine gV (x:=.pointer (some (b6 b (off+j.toNat*mN)))) (w':=w) ?_ (gy aD ⟨rfl,by rw[aB];exact(fun h=>by cases h),fun eK el=>⟨b,dj,rfl⟩⟩);simp only[execOp,aY,Sem.run_bind,ex,eB,Instr.indexAt,asIntOf,run_underlying bK,Result.andThen_ok];simp[Instr.sureAddr,a6,I,run_sizeOf bX,dh,b6,Addr.add_lit]
 |_=>simp only[qP]at h;cases h
end
end bE
end Go.Proofs.YtlbppjmekiemiaaGreatDoor


/- The executor on data: pieces, lengths, sums. No condition. -/
namespace Go.Proofs.YtlbppjmekiemiaaGreatDoor
namespace bE
section
variable {P:Program} {tab:ci} {O bU:dk} {mem fl:dS} {w w':World} {S S':Nat->Prop}

theorem ad9{o:Oper}{a:Act}{x:Operand}{ts:Array TypeId}{T:Nat}{aK:c7}{c:C}{lm:Mem}{p:Option Prop}{v:V}{m:Mem}(bH:fp P tab)
  (aY:o.op=.call { callee:=.builtin .len,args:=#[x],argTypes:=ts }) (nX:ts.toList.head? = some T) (bl:dO tab T=some aK)
  (aD:Inv tab O mem w S) (av:gi lm mem) (aG:ch tab O mem w S (.one c) (a.eval x)) (h:qU aK lm c=some (p,v,m)):dU P o a w (ec tab O mem w S m v):=by
 have a6:ts[0]? = some T:=by
  rw[<- Array.getElem?_toList];cases ax:ts.toList with
  |nil=>rw[ax]at nX;cases nX
  |cons u us=>rw[ax]at nX;simpa using nX
 have fin:∀n:Nat,v=.one (.E .int (n:Nat))->m=[]->(∃e,P.underlying T=some (.slice e)/\∃dP cap,a.eval x=.slice dP n cap)->dU P o a w (ec tab O mem w S m v):=fun n aO aX ⟨e,hu,dP,cap,ex⟩=>by
  subst aO;subst aX;refine gV (x:=.int .i64 (n:Nat)) (w':=w) ?_ (gy aD (oT _));simp[execOp,aY,resolve,invoke,builtin,Builtin.len_,a6,run_underlying hu,ex,goInt]
 have H2:∀{t:z} (l:List t.den),aK.isSlice t=true->(∃dP cap,a.eval x=.slice dP l.length cap)->some (none,V.one (.E .int ((len l:Nat):Int)),[])=some (p,v,m)->dU P o a w (ec tab O mem w S m v):=fun l ad hex h=>by
  cases h;obtain⟨e,i,bg,c1⟩:=jQ bH bl ad;exact fin _ rfl rfl ⟨e,c1.hA,hex⟩
 cases c with
 |E t d =>
  cases t with
  |str =>
   simp only[qU]at h;split at h<;>try cases h
   rename_i ad;have ex:=D3 aG;refine gV (x:=.int .i64 ((len d:Nat):Int)) (w':=w) ?_ (gy aD (oT _));obtain⟨ar,Zl,dR⟩:∃ar:ByteArray,a.eval x=.string ar/\(ar.size:Int)=((len d:Nat):Int):=⟨_,ex,rfl⟩
   rw[<- dR];simp[execOp,aY,resolve,invoke,builtin,Builtin.len_,a6,run_underlying (ajg bH bl ad),Zl,goInt]
  |list t =>
   simp only[qU,mb]at h;split at h<;>try cases h
   rename_i ad;obtain⟨dP,cap,ex,_⟩:=Vx aG.2;exact H2 (t:=t) d ad ⟨dP,cap,ex⟩ rfl
  |_=>simp only[qU,mb]at h;cases h
 |nil t =>
  simp only[qU,mb]at h;split at h<;>try cases h
  rename_i ad;obtain⟨_,ex⟩:=aG;exact H2 (t:=t) [] ad ⟨none,0,ex⟩ rfl
 |own r =>
  simp only[qU,mb]at h;split at h<;>try cases h
  rename_i vc t l ax;split at ax<;>try cases ax
  rename_i g4;split at h<;>try cases h
  rename_i ad;obtain⟨_,_,dN⟩:=tp av aD g4 aG;refine H2 (t:=t) l ad ?_ rfl;rcases dN with⟨ex,rfl⟩|⟨b,cap,cur,e,ex,_⟩
  ·exact⟨none,0,ex⟩
  ·exact⟨_,cap,ex⟩
 |view r off n =>
  simp only[qU]at h;split at h<;>try cases h
  rename_i t l g4;split at h<;>try cases h
  rename_i ad;obtain⟨_,y,_,⟨a0,m0,iS,ei,jg,_,bf,_⟩,_⟩:=vF av aD g4 aG;obtain⟨e,i,bg,c1⟩:=jQ bH bl ad;exact fin n rfl rfl ⟨e,c1.hA,ei,jg,bf⟩
 |ia r =>
  simp only[qU]at h;split at h<;>try cases h
  rename_i t l cs g4;split at h<;>try cases h
  rename_i ad;obtain⟨_,b,cap,cur,b8,ex,_⟩:=yU av aD g4 aG;obtain⟨e,i,bg,c1⟩:=jQ bH bl ad;exact fin (len l+1) rfl rfl ⟨e,c1.hA,_,cap,ex⟩
 |_=>simp only[qU,mb]at h;cases h

theorem ajl(a b:Int):(Op.intBits .and .i64 a b).run P w=.ok (.int .i64 (qm a b)) w:=by
 rfl
theorem ajm(a b:Int):(Op.intBits .or .i64 a b).run P w=.ok (.int .i64 (Aw a b)) w:=by
 rfl
theorem ajn(a b:Int):(Op.intBits .xor .i64 a b).run P w=.ok (.int .i64 (hQ a b)) w:=by
 rfl

theorem adO{o:Oper}{a:Act}{x y:Operand}{op:BinOp}{t ez:TypeId}{n m:Int}{p:Option Prop}{c:C}(aY:o.op=.binOp op t x y ez)(aD:Inv tab O mem w S)
  (aG:ch tab O mem w S (.one (.E .int n)) (a.eval x)) (ct:ch tab O mem w S (.one (.E .int m)) (a.eval y)) (h:Jj op n m=some (p,c)) (ag:under p True) :
  dU P o a w (ec tab O mem w S [] (.one c)):=by
 have aO:=k9 aG;have aX:=k9 ct;have fin:∀bg:Value,ch tab O mem w S (.one c) bg->(binOp op t (.int .i64 n) (.int .i64 m)).run P w=.ok bg w->dU P o a w (ec tab O mem w S [] (.one c)):=fun bg dR aw=>by
  refine lb (s:=do eqGuard op t x y (a.eval x) (a.eval y);binOp op t (a.eval x) (a.eval y)) (x:=bg) (w':=w) (by simp only[execOp,aY]) ?_ (gy aD dR);rw[aO,aX,Sem.run_bind];have:(eqGuard op t x y (.int .i64 n) (.int .i64 m)).run P w=.ok () w:=by
   unfold eqGuard;cases op<;>rfl
  rw[this];exact aw
 cases op<;>simp only[Jj]at h<;>cases h<;>first
  |(refine fin _ (oT _) ?_;first|rfl|(have aB:m≠0:=ag.1;simp[binOp,Op.intDiv,aB,W])|exact ajl n m|exact ajm n m|exact ajn n m)
  |(refine fin _ (nh _) ?_;first|rfl|simp[binOp,Op.intCmp,aN,dc,au,bne,Int.beq'])

theorem adQ{o:Oper}{a:Act}{x y:Operand}{t ez:TypeId}{n m:Int}(aY:o.op=.binOp .gtr t x y ez)(aD:Inv tab O mem w S)
  (aG:ch tab O mem w S (.one (.E .u64 n)) (a.eval x)) (ct:ch tab O mem w S (.one (.E .u64 m)) (a.eval y)) :
  dU P o a w (ec tab O mem w S [] (.one (.E .bool (aN m n)))):=by
 have aO:=AL aG;have aX:=AL ct;refine lb (s:=do eqGuard .gtr t x y (a.eval x) (a.eval y);binOp .gtr t (a.eval x) (a.eval y)) (x:=.bool (aN m n)) (w':=w) (by simp only[execOp,aY]) ?_ (gy aD (nh _));rw[aO,aX,Sem.run_bind];have:(eqGuard .gtr t x y (.int .u64 n) (.int .u64 m)).run P w=.ok () w:=by
  unfold eqGuard;rfl
 rw[this];simp[binOp,Op.intCmp,aN]

theorem PU(s t:List UInt8):((⟨s.toArray⟩:ByteArray).toList==(⟨t.toArray⟩:ByteArray).toList)=eqs s t:=by
 rw[ByteArray.toList_eq,ByteArray.toList_eq,Bool.eq_iff_iff];simp[eqs]

theorem adP{o:Oper}{a:Act}{x y:Operand}{op:BinOp}{t ez:TypeId}{s u:List UInt8}{p:Option Prop}{v:V}{m:Mem}(aY:o.op=.binOp op t x y ez)(aD:Inv tab O mem w S)
  (aG:ch tab O mem w S (.one (.E .str s)) (a.eval x)) (ct:ch tab O mem w S (.one (.E .str u)) (a.eval y)) (h:y0 tab op t (.one (.E .str s)) (.one (.E .str u))=some (p,v,m)) (ag:under p True) :
  dU P o a w (ec tab O mem w S m v):=by
 have aO:=D3 aG;have aX:=D3 ct;have fin:∀bg:Value,ch tab O mem w S v bg->m=[]->(binOp op t (.string ⟨s.toArray⟩) (.string ⟨u.toArray⟩)).run P w=.ok bg w->dU P o a w (ec tab O mem w S m v):=fun bg dR aB aw=>by
  subst aB;refine lb (s:=do eqGuard op t x y (a.eval x) (a.eval y);binOp op t (a.eval x) (a.eval y)) (x:=bg) (w':=w) (by simp only[execOp,aY]) ?_ (gy aD dR);rw[aO,aX,Sem.run_bind];have:(eqGuard op t x y (.string ⟨s.toArray⟩) (.string ⟨u.toArray⟩)).run P w=.ok () w:=by
   unfold eqGuard;cases op<;>rfl
  rw[this];exact aw
 cases op<;>simp only[y0]at h<;>cases h
 ·refine fin (.string ⟨(cat s u).toArray⟩) (Aj _) rfl ?_;have ax:s.length+u.length<=140737488355328:=ag.1;have I:(⟨s.toArray⟩:ByteArray).size=s.length:=rfl;have G:(⟨u.toArray⟩:ByteArray).size=u.length:=rfl;have ab:¬(((⟨s.toArray⟩:ByteArray).size+(⟨u.toArray⟩:ByteArray).size:Nat):Int)>IntKind.i64.max:=by
   rw[I,G];have:IntKind.i64.max=9223372036854775807:=by rfl
   rw[this];omega
  have aV:(⟨s.toArray⟩:ByteArray)++⟨u.toArray⟩=⟨(cat s u).toArray⟩:=by
   apply ByteArray.ext;simp[cat]
  simp only[binOp,Op.stringOp,if_neg ab,aV];rfl
 ·refine fin (.bool (eqs s u)) (nh _) rfl ?_;rw[<- PU];rfl
 ·refine fin (.bool (!eqs s u)) (nh _) rfl ?_;rw[<- PU];rfl

theorem Ty{o:Oper}{a:Act}{x y:Operand}{op:BinOp}{t ez:TypeId}{aK:c7}{b d:Bool}{v:V}(bH:fp P tab)(aY:o.op=.binOp op t x y ez)(bl:dO tab t=some aK)(ad:aK.isBool=true)(aD:Inv tab O mem w S)
  (aG:ch tab O mem w S (.one (.E .bool b)) (a.eval x)) (ct:ch tab O mem w S (.one (.E .bool d)) (a.eval y))
  (h:(op=.eql/\v=.one (.E .bool (jC b d)))\/(op=.neq/\v=.one (.E .bool (!jC b d)))) :
  dU P o a w (ec tab O mem w S [] v):=by
 have aO:=r8 aG;have aX:=r8 ct;have hu:=ajf bH bl ad;have zK:∀k,(Op.equalIn (k+1) t (.bool b) (.bool d)).run P w=.ok (jC b d) w:=fun k=>by
  have:(b==d)=jC b d:=by cases b<;>cases d<;>rfl
  rw[<- this];simp[Op.equalIn,run_underlying hu]
 have bp:(Op.equal t (.bool b) (.bool d)).run P w=.ok (jC b d) w:=zK 9999;have fin:∀bg:Value,ch tab O mem w S v bg->(binOp op t (.bool b) (.bool d)).run P w=.ok bg w->(eqGuard op t x y (.bool b) (.bool d)).run P w=.ok () w->dU P o a w (ec tab O mem w S [] v):=fun bg dR aw bs=>by
  refine lb (s:=do eqGuard op t x y (a.eval x) (a.eval y);binOp op t (a.eval x) (a.eval y)) (x:=bg) (w':=w) (by simp only[execOp,aY]) ?_ (gy aD dR);rw[aO,aX,Sem.run_bind,bs];exact aw
 rcases h with⟨rfl,rfl⟩|⟨rfl,rfl⟩
 ·refine fin _ (nh _) ?_ rfl;simp[binOp,bp]
 ·refine fin _ (nh _) ?_ rfl;simp[binOp,bp]
end
end bE
end Go.Proofs.YtlbppjmekiemiaaGreatDoor


/- The executor on data: structs held against each other, pieces, closures, made slices. No condition. -/
namespace Go.Proofs.YtlbppjmekiemiaaGreatDoor
namespace bE
section
variable {P:Program} {tab:ci} {O bU:dk} {mem fl:dS} {w w':World} {S S':Nat->Prop}

theorem PR:∀{cs ds:List C} {r:Bool},hJ cs ds=some r->∀(i:Nat) c,cs[i]? = some c->∀y,fv tab O mem w S c y->dC tab w (fun _=>False) c y:=by
 intro cs
 induction cs with
 |nil=>intro ds r _ i c hi;simp at hi
 |cons c cs dd =>
  intro ds r h i fK hi y ct;cases ds with
  |nil=>simp only[hJ]at h;cases h
  |cons d ds =>
   simp only[hJ]at h;split at h<;>try cases h
   rename_i x aG;split at h<;>try cases h
   rename_i fo aw;cases i with
   |zero =>
    simp at hi;subst hi;unfold sE at aG;split at aG<;>first|cases aG|skip
    all_goals (cases ct;constructor)
   |succ i=>simp at hi;exact dd aw i fK hi y ct

theorem Zg{c d:C}{r:Bool}(h:sE c d=some r):∃fo,sE d c=some fo:=by
 unfold sE at h;split at h<;>first|cases h|skip
 all_goals exact⟨_,rfl⟩

theorem PS:∀{cs ds:List C} {r:Bool},hJ cs ds=some r->∃fo,hJ ds cs=some fo:=by
 intro cs
 induction cs with
 |nil=>intro ds r h;cases ds with
  |nil=>exact⟨true,rfl⟩
  |cons d ds=>simp only[hJ]at h;cases h
 |cons c cs dd =>
  intro ds r h;cases ds with
  |nil=>simp only[hJ]at h;cases h
  |cons d ds =>
   simp only[hJ]at h;split at h<;>try cases h
   rename_i x aG;split at h<;>try cases h
   rename_i fo aw;obtain⟨a,bh⟩:=Zg aG;obtain⟨b,aA⟩:=dd aw;exact⟨a&&b,by simp only[hJ,bh,aA]⟩

theorem Tx{o:Oper}{a:Act}{x y:Operand}{op:BinOp}{t ez:TypeId}{cs ds:List C}{q r:Bool}{aK:c7}{v:V}(bH:fp P tab)(aY:o.op=.binOp op t x y ez)(aB:g6 tab.eqs t=true)(oQ:dO tab t=some aK)(aI:hJ aK.zero cs=some q)(aD:Inv tab O mem w S)
  (aG:ch tab O mem w S (.agg cs) (a.eval x)) (ct:ch tab O mem w S (.agg ds) (a.eval y)) (aw:hJ cs ds=some r)
  (h:(op=.eql/\v=.one (.E .bool r))\/(op=.neq/\v=.one (.E .bool (!r)))) :
  dU P o a w (ec tab O mem w S [] v):=by
 obtain⟨xs,aO,f1,a1⟩:=aG;obtain⟨ys,aX,f2,bf⟩:=ct;obtain⟨fo,g0⟩:=PS aw;obtain⟨bK,bX⟩:=bH.eqs t aK aB oQ cs ds xs ys q r w aI aw f1 f2
  (fun i c hi=>by obtain⟨bg,cJ,cE,ey⟩:=a1 i c hi;exact⟨bg,cJ,PR aw i c hi bg ey⟩)
  (fun i c hi=>by obtain⟨bg,cJ,cE,ey⟩:=bf i c hi;exact⟨bg,cJ,PR g0 i c hi bg ey⟩)
 have fin:∀bg:Value,ch tab O mem w S v bg->(binOp op t (.agg xs) (.agg ys)).run P w=.ok bg w->dU P o a w (ec tab O mem w S [] v):=fun bg dR aw=>by
  refine lb (s:=do eqGuard op t x y (a.eval x) (a.eval y);binOp op t (a.eval x) (a.eval y)) (x:=bg) (w':=w) (by simp only[execOp,aY]) ?_ (gy aD dR);rw[aO,aX,Sem.run_bind,bK op x y];exact aw
 rcases h with⟨rfl,rfl⟩|⟨rfl,rfl⟩
 ·exact fin _ (nh _) (by simp[binOp,bX])
 ·exact fin _ (nh _) (by simp[binOp,bX])

theorem aec{o:Oper}{a:Act}{f:Nat}{c4 cs:Array Operand}{rs:List Nat}(aY:o.op=.makeFunc (.func f) c4 cs)(b1:c4=#[])(aD:Inv tab O mem w S)
  (h:cs.size=rs.length) (aw:∀(i r:Nat),rs[i]? = some r->∃x,cs[i]? = some x/\ch tab O mem w S (.one (.ptr r 0)) (a.eval x)) :
  dU P o a w (ec tab O mem w S [] (.one (.fn f rs))):=by
 subst b1;refine gV (x:=.func (.func f) #[] (cs.map a.eval)) (w':=w) (by simp[execOp,aY,Instr.makeFunc]) (gy aD ⟨rfl,fun r abm=>?_,cs.map a.eval,rfl,by simpa using h,fun i r hi=>?_⟩)
 ·obtain⟨i,hi,rfl⟩:=List.getElem_of_mem abm;obtain⟨x,_,aG⟩:=aw i _ (List.getElem?_eq_getElem hi);exact aG.2.1
 ·obtain⟨x,aG,I,_,ag⟩:=aw i r hi;exact⟨a.eval x,by simp[aG],I,fun ar aA=>ag ar aA⟩

theorem ad7{o:Oper}{a:Act}{x y:Operand}{T n size:Nat}{aK:c7}{cs:List C}{j:Int}(bH:fp P tab)(aY:o.op=.index T x y)(bl:dO tab T=some aK)(ad:aK.hl=.array n size)
  (aD:Inv tab O mem w S) (aG:ch tab O mem w S (.agg cs) (a.eval x)) (ct:ch tab O mem w S (.one (.E .int j)) (a.eval y)) (a6:0<=j) (I:j<(n:Nat)) (G:2<=size) (ab:j.toNat*size+size<=cs.length) :
  dU P o a w (ec tab O mem w S [] (.agg (a2 cs (j.toNat*size) (j.toNat*size+size)))):=by
 have eB:=k9 ct;obtain⟨xs,ex,f1,f2⟩:=aG;have dX:=(bH.ok T aK bl).kind;rw[ad]at dX;obtain⟨e,i,bK,bX,dh,eW,hX,jr,lv⟩:=dX;have wI:(isAgg e).run P w=.ok true w:=by
  rw[lv w,Nat.ble_eq_true_of_le G]
 refine lb (s:=Instr.index T (a.eval x) (a.eval y)) (x:=.agg (xs.extract (j.toNat*size) (j.toNat*size+size))) (w':=w) (by simp only[execOp,aY]) ?_ (gy aD ⟨_,rfl,?_,fun q c aI=>?_⟩)
 ·rw[ex,eB];simp[Instr.index,asIntOf,run_underlying bK,a6,I,run_sizeOf bX,dh,part,wI]
 ·rw[o5 _ _ _ ab];simp[f1];omega
 ·obtain⟨cJ,cE⟩:=yo _ _ _ _ _ aI;obtain⟨bg,gm,hy,hM⟩:=f2 _ c cE;refine⟨bg,?_,hy,hM⟩;rw[Array.getElem?_extract];rw[if_pos (by simp[f1];omega)];exact gm

theorem Zh{as ar:List C}{r:Bool}(h:hJ as ar=some r):∀(i:Nat) c,ar[i]? = some c->c≠.undef:=by
 obtain⟨fo,er⟩:=PS h;intro i c az e;subst e;have key:∀{as ar:List C} {r:Bool},hJ as ar=some r->∀(i:Nat),as[i]?≠some .undef:=by
  intro as
  induction as with
  |nil=>intro ar r _ i hi;simp at hi
  |cons a as dd =>
   intro ar r h i hi;cases ar with
   |nil=>simp only[hJ]at h;cases h
   |cons b ar =>
    simp only[hJ]at h;split at h<;>try cases h
    rename_i x aG;split at h<;>try cases h
    rename_i y ct;cases i with
    |zero=>simp at hi;subst hi;simp[sE]at aG
    |succ i=>exact dd ct i (by simpa using hi)
 exact key er i az

theorem ad6{o:Oper}{a:Act}{x:Operand}{T f:Nat}{aK:c7}{cs:List C}{q:Bool}{c:C}(bH:fp P tab)(aY:o.op=.field T x f)(aB:g6 tab.eqs T=true)(oQ:dO tab T=some aK)(aI:hJ aK.zero cs=some q)(az:cs[f]? = some c)
  (aD:Inv tab O mem w S) (aG:ch tab O mem w S (.agg cs) (a.eval x)):dU P o a w (ec tab O mem w S [] (.one c)):=by
 obtain⟨xs,ex,f1,f2⟩:=aG;obtain⟨y,cC,cI,dA⟩:=f2 f c az;have dz:=Zh aI f c az;refine lb (s:=Instr.field T (a.eval x) f) (x:=y) (w':=w) (by simp only[execOp,aY]) ?_ (gy aD ?_)
 ·rw[ex];exact bH.ZA T aK aB oQ cs xs q f c y w aI az cC
 ·cases c<;>first|exact absurd rfl dz|exact⟨cI,dA⟩

theorem aee{o:Oper}{a:Act}{x y:Operand}{T base:Nat}{aK:c7}{t:z}{n:Int}(bH:fp P tab)(aY:o.op=.makeSlice T x y)(ab0:a.eval x=a.eval y)(bl:dO tab T=some aK)(ad:aK.isSlice t=true)(b1:t.pY=true)
  (aD:Inv tab O mem w S) (aG:ch tab O mem w S (.one (.E .int n)) (a.eval x)) (a6:0<=n) (I:n*aK.bytes<=140737488355328) (G:n<=140737488355328) (aA:mem base=none) :
  dU P o a w (ec tab O mem w S [(base,.arr t (c6 n.toNat t.H))] (.one (.own base))):=by
 have ex:=k9 aG;obtain⟨e,i,bg,av⟩:=jQ bH bl ad;obtain⟨k,rfl⟩:=Int.eq_ofNat_of_zero_le a6;have gR:(Instr.makeSlice T (.int .i64 (k:Int)) (.int .i64 (k:Int))).run P w=.ok (.slice (some (b6 w.heap.size 0)) k k) (w.alloc (.cells (madeCells bg.cells (k*t.width)) e)):=by
  have:=run_make (P:=P) w T e i bg av.hA av.info av.zero .i64 .i64 (k:Int) (k:Int) a6 (Int.le_refl _) (by rw[av.bytes,Int.mul_comm];omega) (by omega);simpa[av.size,b6]using this
 have el:(madeCells bg.cells (k*t.width)).size=k*t.width:=size_madeCells _ _;have ax:(Loc.eu (.slice (some (b6 w.heap.size 0)) k k)).block=some w.heap.size\/(Loc.eu (.slice (some (b6 w.heap.size 0)) k k)).block=none:=.inl rfl;have a5:=ql (O:=O) (S:=S) (w:=w) (o:=.cells (madeCells bg.cells (k*t.width)) e) (B:=.arr t (c6 (k:Int).toNat t.H)) aA ax;refine lb (s:=Instr.makeSlice T (a.eval x) (a.eval y)) (x:=.slice (some (b6 w.heap.size 0)) k k) (w':=w.alloc (.cells (madeCells bg.cells (k*t.width)) e)) (by simp only[execOp,aY]) (by rw[<- ab0,ex];exact gR) ⟨_,S,a5,rj aA ax aD (.inr ⟨w.heap.size,k,_,e,?_,heap_alloc_new w _,?_,?_,?_,fun q j c aI aR=>?_⟩),?_⟩
 ·simp[c6]
 ·simp[c6]
 ·unfold maxLen;omega
 ·omega
 ·have I4:q<k:=by simpa[c6]using aI
  have aq:nth (c6 (k:Int).toNat t.H) q t.H=t.H:=by
   simp[nth,c6,List.getD,I4]
  rw[aq]at aR;obtain⟨sn,gm,hy,hM⟩:=av.MX b1 j c aR;have k4:j<t.width:=by rw[<- iT t t.H];exact(List.getElem?_eq_some_iff.1 aR).1
  refine⟨sn,?_,hy,hM _ _⟩;have dQ:q*t.width+j<k*t.width:=by
   have:(q+1)*t.width<=k*t.width:=Nat.mul_le_mul_right _ (by omega);rw[Nat.add_mul]at this;omega
  have aa2:(q*t.width+j)%bg.cells.size=j:=by
   rw[av.gN,Nat.add_comm,Nat.add_mul_mod_self_right,Nat.mod_eq_of_lt k4]
  have kk:bg.cells[j]? = some sn:=by simpa using gm
  have zE:bg.cells[j]! = sn:=by
   rw[getElem!_def,kk]
  simp[madeCells,dQ,aa2,zE]
 ·exact⟨rfl,by rw[fm];exact(fun h=>by cases h),fun ez l' _=>hn⟩
end
end bE
end Go.Proofs.YtlbppjmekiemiaaGreatDoor


/- The executor on data: pieces of slices. No condition. -/
namespace Go.Proofs.YtlbppjmekiemiaaGreatDoor
namespace bE
section
variable {P:Program} {tab:ci} {O bU:dk} {mem fl:dS} {w w':World} {S S':Nat->Prop}

def ko(o:Option Int):Option Value:=o.map (Value.int .i64)

theorem D8{T:Nat}{t:z}{oV e:Nat}{i:TypeInfo}{bg:Value}(av:tW P tab T t oV e i bg)(dP:Option Addr)(n cap:Nat)(lo hi:Option Int)(a6:0<=lo.getD 0)(I:lo.getD 0<=hi.getD (n:Nat))(G:hi.getD (n:Nat)<=(cap:Nat)) :
  (Instr.sliceAt T (.slice dP n cap) (ko lo) (ko hi) none).run P w =
   .ok (.slice (if cap=(lo.getD 0).toNat then dP else dP.map (·.add ((lo.getD 0).toNat*t.width))) ((hi.getD (n:Nat)).toNat-(lo.getD 0).toNat) (cap-(lo.getD 0).toNat)) w:=by
 cases lo<;>cases hi<;>simp only[Option.getD_some,Option.getD_none]at a6 I G |-
 ·simp[Instr.sliceAt,Instr.slice,Instr.sliceBounds,ko,run_underlying av.hA,run_sizeOf av.info]
 ·rename_i h;have dn:h<=((cap:Nat):Int):=G;have:0<=h:=by omega
  simp[Instr.sliceAt,Instr.slice,Instr.sliceBounds,Instr.sliceBound,asIntOf,ko,run_underlying av.hA,run_sizeOf av.info,this,dn]
 ·rename_i l;have ax:l<=((n:Nat):Int):=I;simp[Instr.sliceAt,Instr.slice,Instr.sliceBounds,Instr.sliceBound,asIntOf,ko,run_underlying av.hA,run_sizeOf av.info,av.size,a6,ax]
 ·rename_i l h;have dn:h<=((cap:Nat):Int):=G;have ZR:0<=h:=by omega
  have ax:l<=max h 0:=by omega
  simp[Instr.sliceAt,Instr.slice,Instr.sliceBounds,Instr.sliceBound,asIntOf,ko,run_underlying av.hA,run_sizeOf av.info,av.size,a6,dn,ZR,ax]

theorem VF{T:Nat}{t:z}{oV e:Nat}{i:TypeInfo}{bg:Value}(av:tW P tab T t oV e i bg)(dP:Option Addr)(n cap:Nat)(lo:Option Int)(h m:Int)(a6:0<=lo.getD 0)(I:lo.getD 0<=h)(G:h<=m)(ab:m<=(cap:Nat)) :
  (Instr.sliceAt T (.slice dP n cap) (ko lo) (ko (some h)) (ko (some m))).run P w =
   .ok (.slice (if m.toNat=(lo.getD 0).toNat then dP else dP.map (·.add ((lo.getD 0).toNat*t.width))) (h.toNat-(lo.getD 0).toNat) (m.toNat-(lo.getD 0).toNat)) w:=by
 have ei:0<=h:=by omega
 have eU:0<=m:=by omega
 have a3:h<=max m 0:=by omega
 cases lo<;>simp only[Option.getD_some,Option.getD_none]at a6 I |-
 ·simp[Instr.sliceAt,Instr.slice,Instr.sliceBounds,Instr.sliceBound,asIntOf,ko,run_underlying av.hA,run_sizeOf av.info,ei,eU,a3,ab]
 ·rename_i l;have ax:l<=max h 0:=by omega
  simp[Instr.sliceAt,Instr.slice,Instr.sliceBounds,Instr.sliceBound,asIntOf,ko,run_underlying av.hA,run_sizeOf av.info,av.size,ei,eU,a3,a6,ab,ax]

theorem Ef{α:Type}(l:List α)(lo hi i:Nat)(d:α)(h:i<hi-lo):nth (a2 l lo hi) i d=nth l (lo+i) d:=by
 have I:(a2 l lo hi)[i]? = l[lo+i]?:=by
  unfold a2;simp only[List.getElem?_drop,List.getElem?_take];rw[if_pos (by omega)]
 simp only[nth,List.getD,I]

theorem se{α:Type}(l:List α)(lo hi:Nat)(h:hi<=l.length):(a2 l lo hi).length=hi-lo:=by
 unfold a2;simp;omega

theorem afY{t:z}{l:List t.den}{dP:Option Addr}{n cap lo hi:Nat}(h:dC tab w S (.E (.list t) l) (.slice dP n cap))(I:lo<=hi)(G:hi<=l.length) :
  dC tab w S (.E (.list t) (a2 l lo hi)) (.slice (if cap=lo then dP else dP.map (·.add (lo*t.width))) (hi-lo) (cap-lo)):=by
 have hlen:=se l lo hi G
 by_cases bp:hi-lo=0
 ·have:a2 l lo hi=[]:=List.eq_nil_of_length_eq_zero (by omega);rw[this,bp];exact .empty t _ _
 ·cases h with
  |empty t a cap=>simp at G;omega
  |list t l b off cap cs dw hcap az aw =>
   have dz:¬cap=lo:=by omega
   rw[if_neg dz,Option.map_some,b6,Addr.add_lit,<- hlen];refine .list t (a2 l lo hi) b (off+lo*t.width) (cap-lo) (fun i j=>cs (lo+i) j) dw (by omega) (fun i j qK aR=>?_) (fun i j c qK aR=>?_)
   ·have:=az (lo+i) j (by omega) aR;rw[Nat.add_mul]at this;rw[<- this];congr 2;omega
   ·rw[Ef l lo hi i t.H (by omega)]at aR;exact aw (lo+i) j c (by omega) aR

theorem ael{o:Oper}{a:Act}{T:Nat}{aK:c7}{x:Operand}{lo hi qX:Option Operand}{c:C}{l h m:Option Int}{lm:Mem}{p:Option Prop}{v:V}{mm:Mem}(bH:fp P tab)(aY:o.op=.slice T x lo hi qX)(bl:dO tab T=some aK)
  (aD:Inv tab O mem w S) (av:gi lm mem) (aG:ch tab O mem w S (.one c) (a.eval x)) (ax:lo.map a.eval=ko l) (dn:hi.map a.eval=ko h) (aB:qX.map a.eval=ko m) (fS:sf aK lm c l h m=some (p,v,mm)) (ag:under p True) :
  dU P o a w (ec tab O mem w S mm v):=by
 have fin:∀y,(Instr.sliceAt T (a.eval x) (ko l) (ko h) (ko m)).run P w=.ok y w->ch tab O mem w S v y->mm=[]->dU P o a w (ec tab O mem w S mm v):=fun y aw aQ e=>by
  subst e;exact lb (s:=Instr.sliceAt T (a.eval x) (lo.map a.eval) (hi.map a.eval) (qX.map a.eval)) (by simp only[execOp,aY]) (by rw[ax,dn,aB];exact aw) (gy aD aQ)
 cases c with
 |E ez d =>
  cases ez with
  |list t =>
   simp only[sf]at fS;split at fS<;>try cases fS
   rename_i ad;obtain⟨e7,a1,bf⟩:0<=l.getD 0/\l.getD 0<=h.getD ((d:List t.den).length:Nat)/\h.getD ((d:List t.den).length:Nat)<=((d:List t.den).length:Nat):=ag.1;obtain⟨e,i,bg,c1⟩:=jQ bH bl ad;obtain⟨dP,cap,ex,hcap⟩:=Vx aG.2;rw[ex]at aG;refine fin _ (by rw[ex];exact D8 c1 dP _ cap l h e7 a1 (by omega)) ⟨rfl,?_⟩ rfl;exact afY (lo:=(l.getD 0).toNat) (hi:=(h.getD (((d:List t.den).length:Nat):Int)).toNat) aG.2 (by omega) (by omega)
  |_=>simp only[sf]at fS;cases fS
 |nil t =>
  simp only[sf]at fS;split at fS<;>try cases fS
  rename_i ad;obtain⟨e7,a1⟩:=ag.1;obtain⟨e,i,bg,c1⟩:=jQ bH bl ad;obtain⟨_,ex⟩:=aG;refine fin (.slice none 0 0) ?_ ⟨rfl,rfl⟩ rfl;rw[ex];have:=D8 (P:=P) (w:=w) c1 none 0 0 l h (by omega) (by rw[e7];simpa using Int.le_of_eq a1.symm) (by simpa using Int.le_of_eq a1);rw[e7]at this;simp only[Int.toNat_zero]at this;simpa[ko,a1]using this
 |own r =>
  simp only[sf]at fS;split at fS<;>try cases fS
  rename_i t iw pL;split at fS<;>try cases fS
  rename_i ad;obtain⟨e,i,bg,c1⟩:=jQ bH bl ad;obtain⟨lr,dj,dN⟩:=tp av aD pL aG;obtain⟨dP,cap,ex,hcap,zC⟩:∃dP cap,a.eval x=.slice dP iw.length cap/\iw.length<=cap/\(∀k,dP.map (·.add k)=dP.map fun q=>b6 q.block (q.off+k)):=by
   rcases dN with⟨ex,rfl⟩|⟨b,cap,cur,b8,ex,aA,ab,_⟩
   ·exact⟨none,0,ex,Nat.le_refl _,fun _=>rfl⟩
   ·exact⟨_,cap,ex,ab,fun k=>by simp[b6,Addr.add_lit]⟩
  have done:∀(pV qK u3:Nat),pV<=qK->qK<=u3->u3<=cap->iw.length<=u3 ->
    ch tab O mem w S (.one (.view r pV (qK-pV))) (.slice (if u3=pV then dP else dP.map (·.add (pV*t.width))) (qK-pV) (u3-pV)):=fun pV qK u3 cJ cE ey gw=>by
   refine⟨rfl,by rw[lr];exact(fun h=>by cases h),fun ez l' g4=>?_⟩;rw[lr]at g4;cases g4;refine⟨_,dj,dP,iw.length,cap,_,u3-pV,ex,rfl,fun a6=>?_,fun lZ=>?_,by omega,by omega,by omega⟩
   ·subst a6;split
    ·rfl
    ·cases dP with
     |none=>rfl
     |some q=>simp[Addr.add_zero']
   ·rw[if_neg (by omega),zC]
  cases m with
  |none =>
   cases fS;obtain⟨e7,a1,bf⟩:0<=l.getD 0/\l.getD 0<=h.getD (iw.length:Nat)/\h.getD (iw.length:Nat)<=(iw.length:Nat):=ag.1;refine fin _ (by rw[ex];exact D8 c1 dP _ cap l h e7 a1 (by omega)) ?_ rfl;have:=done (l.getD 0).toNat (h.getD (iw.length:Nat)).toNat cap (by omega) (by omega) (Nat.le_refl _) hcap;have aO:(h.getD ((len iw:Nat):Int)-l.getD 0).toNat=(h.getD (iw.length:Nat)).toNat-(l.getD 0).toNat:=by
    show(h.getD (iw.length:Nat)-l.getD 0).toNat=_;omega
   rw[aO];exact this
  |some m =>
   simp only at fS;split at fS<;>try cases fS
   ·rename_i h;obtain⟨e7,a1,bf⟩:0<=h/\h=m/\m<=(iw.length:Nat):=ag.1;subst a1;have aw:=VF (P:=P) (w:=w) c1 dP iw.length cap none h h (by simp) (by simpa using e7) (Int.le_refl _) (by omega);refine fin (.slice dP h.toNat h.toNat) (by rw[ex,aw];congr 2;simp only[Option.getD_none,Int.toNat_zero,Nat.zero_mul];split;rfl;cases dP with|none=>rfl|some q=>simp[Addr.add_zero']) ⟨rfl,by rw[lr];exact(fun h=>by cases h),fun ez l' g4=>⟨dP,_,cap,by rw[dj,ex],rfl⟩⟩ rfl
   rename_i l0 h;obtain⟨e7,a1,bf,cj⟩:0<=(some l0:Option Int).getD 0/\(some l0:Option Int).getD 0<=h/\h<=m/\m=(iw.length:Nat):=ag.1;refine fin _ (by rw[ex];exact VF c1 dP _ cap (some l0) h m e7 a1 bf (by omega)) ?_ rfl;have:=done ((some l0:Option Int).getD 0).toNat h.toNat m.toNat (by omega) (by omega) (by omega) (by omega);have aO:(h-(some l0:Option Int).getD 0).toNat=h.toNat-((some l0:Option Int).getD 0).toNat:=by omega
   rw[aO];exact this
 |view r off n =>
  cases off with
  |succ off=>simp only[sf]at fS;cases fS
  |zero =>
   simp only[sf]at fS;split at fS<;>try cases fS
   rename_i t iw pL;split at fS<;>try cases fS
   rename_i ad;obtain⟨e,i,bg,c1⟩:=jQ bH bl ad;obtain⟨lr,y,dj,⟨a0,m0,iS,ei,jg,bK,bX,dh,eW,hX,jr,lv⟩,dN⟩:=vF av aD pL aG;have bh:=dh rfl;subst bh;obtain⟨e7,a1,bf⟩:0<=l.getD 0/\l.getD 0<=h.getD (n:Nat)/\h.getD (n:Nat)<=(iw.length:Nat):=ag.1;have zC:m0=iw.length/\(∀k,ei.map (·.add k)=ei.map fun q=>b6 q.block (q.off+k)):=by
    rcases dN with⟨eB,rfl⟩|⟨b,cap,cur,b8,eB,_⟩
    ·rw[eB]at bK;cases bK;exact⟨rfl,fun _=>rfl⟩
    ·rw[eB]at bK;cases bK;exact⟨rfl,fun k=>by simp[b6,Addr.add_lit]⟩
   obtain⟨rfl,zC⟩:=zC;refine fin _ (by rw[bX];exact D8 c1 ei _ jg l h e7 a1 (by omega)) ⟨rfl,by rw[lr];exact(fun h=>by cases h),fun ez l' g4=>?_⟩ rfl;rw[lr]at g4;cases g4;have aO:(h.getD (n:Nat)-l.getD 0).toNat=(h.getD (n:Nat)).toNat-(l.getD 0).toNat:=by omega
   rw[aO];refine⟨_,dj,ei,iw.length,iS,_,_,bK,rfl,fun a6=>?_,fun lZ=>?_,by omega,by omega,by omega⟩
   ·rw[a6];split
    ·rfl
    ·cases ei with
     |none=>rfl
     |some q=>simp[Addr.add_zero']
   ·rw[if_neg (by omega),zC]
 |_=>simp only[sf]at fS;cases fS
end
end bE
end Go.Proofs.YtlbppjmekiemiaaGreatDoor


/- The executor on data: structs and slices that are written out. No condition. -/
namespace Go.Proofs.YtlbppjmekiemiaaGreatDoor
namespace bE
section
variable {P:Program} {tab:ci} {O bU:dk} {mem fl:dS} {w w':World} {S S':Nat->Prop}

def pg(R:C->Value->Prop)(cs:List C)(xs:List Value):Prop:=xs.length=cs.length/\∀(i:Nat) c,cs[i]? = some c->∃y,xs[i]? = some y/\R c y

theorem Zy(off:Nat):∀(ys:List Value) (k:Nat) (cells:Array Value),off+k+ys.length<=cells.size ->
  ((ys.zipIdx k).foldl (fun cs (c,j)=>cs.setIfInBounds (off+j) c) cells).toList=cells.toList.take (off+k)++ys++cells.toList.drop (off+k+ys.length):=by
 intro ys
 induction ys with
 |nil=>intro k cells _;simp
 |cons y ys dd =>
  intro k cells h;simp only[List.length_cons]at h;simp only[List.zipIdx_cons,List.foldl_cons];rw[dd (k+1) _ (by simp;omega)];apply List.ext_getElem?;intro i;have aO:(List.take (off+(k+1)) (cells.setIfInBounds (off+k) y).toList).length=off+(k+1):=by simp;omega
  have aX:(List.take (off+k) cells.toList).length=off+k:=by simp;omega
  simp only[List.append_assoc]
  by_cases I:i<off+k
  ·rw[List.getElem?_append_left (by omega),List.getElem?_append_left (by omega),List.getElem?_take_of_lt (by omega),List.getElem?_take_of_lt I];simp only[Array.toList_setIfInBounds];rw[List.getElem?_set_ne (by omega)]
  ·by_cases G:i=off+k
   ·subst G;rw[List.getElem?_append_left (by omega),List.getElem?_take_of_lt (by omega),List.getElem?_append_right (by omega),aX];simp[show off+k<cells.size by omega]
   ·have L:(List.take (off+(k+1)) (cells.setIfInBounds (off+k) y).toList++(ys++List.drop (off+(k+1)+ys.length) (cells.setIfInBounds (off+k) y).toList))[i]? =
      (ys++List.drop (off+(k+1)+ys.length) (cells.setIfInBounds (off+k) y).toList)[i-(off+(k+1))]?:=by
     rw[List.getElem?_append_right (by omega),aO]
    have R:(List.take (off+k) cells.toList++(y::ys++List.drop (off+k+(y::ys).length) cells.toList))[i]? =
      (ys++List.drop (off+k+(y::ys).length) cells.toList)[i-(off+(k+1))]?:=by
     rw[List.getElem?_append_right (by omega),aX,show i-(off+k)=(i-(off+(k+1)))+1 by omega,List.cons_append,List.getElem?_cons_succ]
    rw[L,R]
    by_cases ab:i-(off+(k+1))<ys.length
    ·rw[List.getElem?_append_left ab,List.getElem?_append_left ab]
    ·rw[List.getElem?_append_right (by omega),List.getElem?_append_right (by omega),List.getElem?_drop,List.getElem?_drop];simp only[Array.toList_setIfInBounds];rw[List.getElem?_set_ne (by omega)];congr 1;simp only[List.length_cons];omega

theorem aey{R:C->Value->Prop}{old cs:List C}{cur ys:List Value}{o:Nat}(aY:o+cs.length<=old.length)(I:pg R old cur)(G:pg R cs ys) :
  pg R (put old o cs) (cur.take o++ys++cur.drop (o+ys.length)):=by
 refine⟨?_,DL aY G.1 (by rw[I.1];exact aY) I.2 G.2⟩;simp[put,I.1,G.1]

theorem H1{R:C->Value->Prop}{place:Nat->Option (Nat×Nat)}:∀(c4:List (Nat×List C)) (hL:List Nat) (vs:List (Nat×Value)) (old new:List C) (cells:Array Value),
  pg R old cells.toList->mG old c4=some new->vs.map (·.1)=hL->c4.length=vs.length ->
  (∀(i:Nat) f v,c4[i]? = some f->vs[i]? = some v->place v.1=some (f.1,f.2.length)/\pg R f.2 v.2.cells.toList) ->
  ∃kY,Instr.fill place cells vs=some kY/\pg R new kY.toList:=by
 intro c4
 induction c4 with
 |nil =>
  intro hL vs old new cells aw ag _ ax _;cases vs with
  |nil=>simp only[mG]at ag;cases ag;exact⟨cells,rfl,aw⟩
  |cons v vs=>simp at ax
 |cons f c4 dd =>
  intro hL vs old new cells aw ag akb ax kF;cases vs with
  |nil=>simp at ax
  |cons v vs =>
   obtain⟨off,cs⟩:=f;simp only[mG]at ag;split at ag<;>try cases ag
   rename_i hle;have lY:=Nat.le_of_ble_eq_true hle;obtain⟨aO,aX⟩:=kF 0 _ _ rfl rfl;have el:v.2.cells.size=cs.length:=by have:=aX.1;simpa using this
   have uG:off+v.2.cells.toList.length<=cells.size:=by
    have:=aw.1;simp at this |-;omega
   have Q3:=Zy off v.2.cells.toList 0 cells (by simpa using uG);simp only[Nat.add_zero]at Q3;have dN:=aey lY aw aX;rw[<- Q3]at dN;obtain⟨kY,bK,bX⟩:=dd (vs.map (·.1)) vs (put old off cs) new _ dN ag rfl (by simpa using ax) (fun i f v b1 aQ=>kF (i+1) f v b1 aQ);refine⟨kY,?_,bX⟩;have dR:(v.2.cells.zipIdx).foldl (fun cs (c,j)=>cs.setIfInBounds (off+j) c) cells=(v.2.cells.toList.zipIdx 0).foldl (fun cs (c,j)=>cs.setIfInBounds (off+j) c) cells:=by
    rw[<- Array.foldl_toList];simp
   simp only[Instr.fill,aO,el];rw[if_neg (by
    have:=uG;simp at this;simp;omega),dR]
   exact bK

theorem aep:∀{c4:List (Nat×List C)} {bg new:List C},mG bg c4=some new->new.length=bg.length:=by
 intro c4
 induction c4 with
 |nil=>intro bg new h;simp only[mG]at h;cases h;rfl
 |cons f c4 dd =>
  intro bg new h;obtain⟨off,cs⟩:=f;simp only[mG]at h;split at h<;>try cases h
  rename_i hle;have lY:=Nat.le_of_ble_eq_true hle;rw[dd h];simp[put];omega

theorem Zu:∀{kq jt hL:List Nat} {vs:List V} {c4:List (Nat×List C)},sG kq jt hL vs=some c4 ->
  c4.length=hL.length/\hL.length=vs.length/\∀(j:Nat) f,c4[j]? = some f->∃i v,hL[j]? = some i/\vs[j]? = some v/\kq[i]? = some f.1/\jt[i]? = some f.2.length/\v.cells=some f.2:=by
 intro kq jt hL
 induction hL with
 |nil =>
  intro vs c4 h;cases vs with
  |nil=>simp only[sG]at h;cases h;exact⟨rfl,rfl,fun j f aR=>by simp at aR⟩
  |cons v vs=>simp only[sG]at h;cases h
 |cons i hL dd =>
  intro vs c4 h;cases vs with
  |nil=>simp only[sG]at h;cases h
  |cons v vs =>
   simp only[sG]at h;split at h<;>try cases h
   rename_i o n cs r I G ab aV;split at h<;>try cases h
   rename_i aA;have gA:=Nat.eq_of_beq_eq_true aA;obtain⟨aO,aX,cY⟩:=dd aV;refine⟨by simp[aO],by simp[aX],fun j f aR=>?_⟩;cases j with
   |zero=>simp at aR;subst aR;exact⟨i,v,rfl,rfl,I,by rw[gA];exact G,ab⟩
   |succ j=>simp at aR;simpa using cY j f aR

theorem LG:∀{vs:List V} {xs:List Value},fG tab O mem w S vs xs->∀(i:Nat) v,vs[i]? = some v->∃x,xs[i]? = some x/\ch tab O mem w S v x
 |[],[],_,i,v,h=>by simp at h
 |_::vs,x::xs,aw,0,v,h=>by simp at h;subst h;exact⟨x,rfl,aw.1⟩
 |_::vs,_::xs,aw,i+1,v,h=>by simpa using LG aw.2 i v (by simpa using h)
 |[],_::_,aw,_,_,_=>aw.elim
 |_::_,[],aw,_,_,_=>aw.elim

theorem adS{o:Oper}{a:Act}{T:Nat}{aK:c7}{ps:Array (Nat×Operand)}{vs:List V}{c4:List (Nat×List C)}{cs:List C}(bH:fp P tab)(aY:o.op=.build T ps)(bl:dO tab T=some aK)(ad:aK.agg=true)
  (aD:Inv tab O mem w S) (aQ:fG tab O mem w S vs (ps.toList.map fun p=>a.eval p.2)) (b1:sG aK.kq aK.jt (ps.toList.map (·.1)) vs=some c4) (ag:mG aK.zero c4=some cs) :
  dU P o a w (ec tab O mem w S [] (.agg cs)):=by
 obtain⟨i,bg,I,G,ab,aV,_⟩:=(bH.ok T aK bl).info;have dX:=(bH.ok T aK bl).kind;obtain⟨cJ,cE⟩:=Xy (tab:=tab) (O:=O) (mem:=mem) (w:=w) (S:=S) aV;obtain⟨aO,aX,cY⟩:=Zu b1;have wP:(ps.map fun p=>(p.1,a.eval p.2)).toList.map (·.1)=ps.toList.map (·.1):=by simp
 have key:∀place:Nat->Option (Nat×Nat),(∀(j o' n:Nat),aK.kq[j]? = some o'->aK.jt[j]? = some n->place j=some (o',n)) ->
   ∃kY,Instr.fill place bg.cells (ps.map fun p=>(p.1,a.eval p.2)).toList=some kY/\pg (fun c y=>y.oneCell'=true/\fv tab O mem w S c y) cs kY.toList:=fun place iW=>by
  refine H1 c4 _ _ aK.zero cs bg.cells ⟨cJ,cE⟩ ag wP (by simp[aO]) (fun j f v uF kH=>?_);obtain⟨qS,eT,a1,bf,cj,eR,gf⟩:=cY j f uF;obtain⟨x,bK,bX⟩:=LG aQ j eT bf;simp only[List.getElem?_map,Option.map_eq_some_iff]at a1 bK;obtain⟨fg,gm,hy⟩:=a1;obtain⟨ft,hM,p6⟩:=bK;rw[gm]at hM;cases hM;have cR:v=(fg.1,a.eval fg.2):=by
   simp only[Array.toList_map,List.getElem?_map,gm,Option.map_some]at kH;exact(Option.some.inj kH).symm
  subst cR;refine⟨by rw[hy];exact iW qS f.1 f.2.length cj eR,?_⟩;obtain⟨bA,bb⟩:=AK (p6▸bX) gf;exact⟨by simpa using bA,fun i c hi=>by obtain⟨y,cC,cI,dA⟩:=bb i c hi;exact⟨y,by simpa using cC,cI,dA⟩⟩
 have fin:∀kY,P.built T (ps.map fun p=>(p.1,a.eval p.2)).toList=some kY->pg (fun c y=>y.oneCell'=true/\fv tab O mem w S c y) cs kY.toList->dU P o a w (ec tab O mem w S [] (.agg cs)):=fun kY aA aw=>by
  refine lb (s:=Instr.build T (ps.map fun p=>(p.1,a.eval p.2))) (x:=.agg kY) (w':=w) (by simp only[execOp,aY]) (run_build w T _ kY aA) (gy aD ⟨kY,rfl,by have:=aw.1;simpa using this,fun i c hi=>?_⟩);obtain⟨y,cC,cI,dA⟩:=aw.2 i c hi;exact⟨y,by simpa using cC,cI,dA⟩
 unfold c7.agg at ad;cases hW:aK.hl with
 |struct =>
  rw[hW]at dX;obtain⟨P4,bK,bX,dh,eW⟩:=dX;obtain⟨kY,a1,bf⟩:=key (fun j=>(aK.kq.zip aK.jt).toArray[j]?) (fun j o' n a1 bf=>by
   simp only[List.getElem?_toArray];rw[List.getElem?_zip_eq_some];exact⟨a1,bf⟩)
  refine fin kY ?_ bf;simp only[Program.built,I,bK,ab,bX];exact a1
 |array n mN =>
  rw[hW]at dX;obtain⟨e,s8,bK,bX,dh,eW,hX,jr,_⟩:=dX;have hlen:aK.kq.length=n/\aK.jt.length=n:=by rw[hX,jr];simp
  obtain⟨kY,a1,bf⟩:=key (fun j=>some (j*s8.size,s8.size)) (fun j o' ly a1 bf=>by
   rw[hX]at a1;rw[jr]at bf;have aR:j<n:=by have:=(List.getElem?_eq_some_iff.1 a1).1;simpa using this
   simp[aR]at a1;simp[aR]at bf;rw[dh,<- a1,<- bf])
  refine fin kY ?_ bf;simp only[Program.built,I,bK,ab,bX];exact a1
 |_=>rw[hW]at ad;cases ad
end
end bE
end Go.Proofs.YtlbppjmekiemiaaGreatDoor


/- The executor on data: slices that are written out. No condition. -/
namespace Go.Proofs.YtlbppjmekiemiaaGreatDoor
namespace bE
section
variable {P:Program} {tab:ci} {O bU:dk} {mem fl:dS} {w w':World} {S S':Nat->Prop}

def rep(n:Nat)(gF:List C):List C:=(List.replicate n gF).flatten

theorem D4(n:Nat)(gF:List C):(rep n gF).length=n*gF.length:=by simp[rep]

theorem Vy(n:Nat)(gF:List C):rep (n+1) gF=gF++rep n gF:=by simp[rep,List.replicate_succ]

theorem H4{α β:Type}{wd:Nat}{f:α->List β}(b1:∀a,(f a).length=wd):∀(l:List α) (q j:Nat) (h:q<l.length),j<wd->(l.flatMap f)[q*wd+j]? = (f l[q])[j]?
 |[],q,j,h,_=>by simp at h
 |a::l,0,j,_,aR=>by simp[List.flatMap_cons,List.getElem?_append_left,b1,aR]
 |a::l,q+1,j,h,aR=>by
  have:=H4 b1 l q j (by simpa using h) aR;rw[List.flatMap_cons,List.getElem?_append_right (by rw[b1,Nat.add_mul];omega),b1,show(q+1)*wd+j-wd=q*wd+j by rw[Nat.add_mul];omega];simpa using this

theorem Zc{lm:Mem}{t:z}:∀{n i:Nat} {hL:List Nat} {vs:List V} {l:List t.den} {ns:List Nat},lR tab lm t n i hL vs=some (l,ns)->vs.length<=n:=by
 intro n
 induction n with
 |zero=>intro i hL vs l ns h;cases hL<;>cases vs<;>simp only[lR]at h<;>first|cases h;done|simp
 |succ n dd =>
  intro i hL vs l ns h;cases hL with
  |nil=>cases vs with
   |nil=>simp
   |cons v us=>simp only[lR]at h;cases h
  |cons j z7=>cases vs with
   |nil=>simp
   |cons v us =>
    simp only[lR]at h;split at h
    ·split at h<;>try cases h
     split at h<;>try cases h
     split at h<;>try cases h
     split at h<;>try cases h
     rename_i er;have:=dd er;simp;omega
    ·split at h<;>try cases h
     rename_i er;have:=dd er;omega

theorem Zd{lm:Mem}{t:z}{gF:List C}(dR:gF.length=t.width):∀(n i:Nat) (hL:List Nat) (vs:List V) (l:List t.den) (ns:List Nat),
  lR tab lm t n i hL vs=some (l,ns)->(vs.length=n\/gF=t.cells t.H)->∀pre:List C,pre.length=i*t.width ->
  ∃c4:List (Nat×List C),mG (pre++rep n gF) c4=some (pre++l.flatMap t.cells)/\c4.length=vs.length/\hL.length=vs.length/\l.length=n /\
   ∀(k:Nat) f,c4[k]? = some f->∃qS v cs ds eh,hL[k]? = some qS/\vs[k]? = some v/\f=(qS*t.width,ds)/\ds.length=t.width/\v.cells=some cs/\q5 tab lm cs=some (ds,eh)/\∀r∈eh,r∈ns:=by
 intro n
 induction n with
 |zero =>
  intro i hL vs l ns h _ pre _;cases hL<;>cases vs<;>simp only[lR]at h<;>cases h;exact⟨[],by simp[mG,rep],rfl,rfl,rfl,fun k f b1=>by simp at b1⟩
 |succ n dd =>
  intro i hL vs l ns h aB pre C8;have Th:∀l',lR tab lm t n (i+1) hL vs=some (l',ns)->l=t.H::l'->∃c4:List (Nat×List C),mG (pre++rep (n+1) gF) c4=some (pre++l.flatMap t.cells)/\c4.length=vs.length/\hL.length=vs.length/\l.length=n+1 /\
   ∀(k:Nat) f,c4[k]? = some f->∃qS v cs ds eh,hL[k]? = some qS/\vs[k]? = some v/\f=(qS*t.width,ds)/\ds.length=t.width/\v.cells=some cs/\q5 tab lm cs=some (ds,eh)/\∀r∈eh,r∈ns:=fun l' er e=>by
   subst e;have hle:=Zc er;have Ru:gF=t.cells t.H:=aB.resolve_left (by omega);obtain⟨c4,a1,bf,cj,eR,gX⟩:=dd (i+1) hL vs l' ns er (.inr Ru) (pre++gF) (by simp[C8,dR,Nat.add_mul]);refine⟨c4,?_,bf,cj,by simp[eR],gX⟩;rw[Vy,<- List.append_assoc,a1];simp[Ru]
  cases hL with
  |nil=>cases vs with
   |nil =>
    simp only[lR]at h;split at h<;>try cases h
    rename_i er;exact Th _ er rfl
   |cons v us=>simp only[lR]at h;cases h
  |cons j z7=>cases vs with
   |nil=>simp only[lR]at h;cases h
   |cons v us =>
    simp only[lR]at h;split at h
    ·rename_i QP;have aaK:=Nat.eq_of_beq_eq_true QP;split at h<;>try cases h
     rename_i cs el;split at h<;>try cases h
     rename_i ds eh sZ;split at h<;>try cases h
     rename_i d bO;split at h<;>try cases h
     rename_i l' ms er;have uE:ds.length=t.width:=by rw[<- Dx bO,iT]
     obtain⟨c4,a1,bf,cj,eR,gX⟩:=dd (i+1) z7 us l' ms er (aB.imp (fun e=>by simpa using e) id) (pre++t.cells d) (by simp[C8,iT,Nat.add_mul]);refine⟨(i*t.width,ds)::c4,?_,by simp[bf],by simp[cj],by simp[eR],fun k f b1=>?_⟩
     ·simp only[mG];have aA:Nat.ble (i*t.width+ds.length) (pre++rep (n+1) gF).length=true:=by
       rw[Nat.ble_eq];simp[C8,D4,dR,uE,Nat.add_mul]<;>omega
      rw[aA];have abb:put (pre++rep (n+1) gF) (i*t.width) ds=pre++t.cells d++rep n gF:=by
       rw[Dx bO,Vy,<- C8];unfold put;have aO:(pre++(gF++rep n gF)).take pre.length=pre:=by simp
       have aX:(pre++(gF++rep n gF)).drop (pre.length+ds.length)=rep n gF:=by
        rw[uE,<- dR,<- List.append_assoc];have:(pre++gF).length=pre.length+gF.length:=by simp
        rw[<- this,List.drop_left]
       rw[aO,aX]
      simp only[abb];rw[a1];simp
     ·cases k with
      |zero=>simp at b1;subst b1;exact⟨j,v,cs,ds,eh,rfl,rfl,by rw[aaK],uE,el,sZ,fun r aw=>by simp[aw]⟩
      |succ k =>
       simp at b1;obtain⟨qS,eT,eK,Cv,acV,cJ,cE,ey,gw,np,r6,tx⟩:=gX k f b1;exact⟨qS,eT,eK,Cv,acV,by simpa using cJ,by simpa using cE,ey,gw,np,r6,fun r aw=>by simp[tx r aw]⟩
    ·split at h<;>try cases h
     rename_i er;exact Th _ er rfl

theorem VB{T:Nat}{t:z}{oV e:Nat}{i:TypeInfo}{bg:Value}(av:tW P tab T t oV e i bg)(n:Nat)(aq:n*t.width<=16777216)(parts:Array (Nat×Value))(cells:Array Value)
  (h:Instr.fill (fun j=>some (j*t.width,t.width)) (madeCells (if n*t.width=0 then #[]else bg.cells) (n*t.width)) parts.toList=some cells) :
  (Instr.buildSlice T n parts).run P w=.ok (.slice (some (b6 w.heap.size 0)) n n) (w.alloc (.cells cells e)):=by
 have m6:¬2 ^ 24<n*t.width:=by omega
 by_cases dR:n*t.width=0
 ·simp only[dR,if_true]at h;simp only[Instr.buildSlice,Sem.run_bind,run_underlying av.hA,Result.andThen_ok,run_sizeOf av.info,av.size];simp[dR,madeCells]at h |-;simp[h,newRow,b6]
 ·simp only[dR,if_false]at h;simp only[Instr.buildSlice,Sem.run_bind,run_underlying av.hA,Result.andThen_ok,run_sizeOf av.info,av.size];simp[dR,m6,LM av.info av.zero];simp only[madeCells]at h;simp[h,newRow,b6]

theorem adU{o:Oper}{a:Act}{T n base:Nat}{aK:c7}{t:z}{ps:Array (Nat×Operand)}{vs:List V}{l:List t.den}{ns:List Nat}{lm:Mem}(bH:fp P tab)(aY:o.op=.buildSlice T n ps)(bl:dO tab T=some aK)(ad:aK.isSlice t=true)
  (aD:Inv tab O mem w S) (av:gi lm mem) (aQ:fG tab O mem w S vs (ps.toList.map fun p=>a.eval p.2)) (bp:lR tab lm t n 0 (ps.toList.map (·.1)) vs=some (l,ns)) (aq:n*t.width<=16777216) (aB:vs.length=n\/t.pY=true)
  (aA:mem base=none) (dz:base∉ns):dU P o a w (ec tab O mem w S ((base,.arr t l)::gP ns) (.one (.own base))):=by
 obtain⟨e,i,bg,c1⟩:=jQ bH bl ad;obtain⟨gF,z1,ab3,ab4⟩:∃gF:List C,gF.length=t.width/\(vs.length=n\/gF=t.cells t.H)/\pg (fun c y=>y.oneCell'=true/\(c=.undef\/dC tab w (fX O mem S ns) c y)) gF bg.cells.toList:=by
  by_cases b1:t.pY=true
  ·refine⟨t.cells t.H,iT _ _,.inr rfl,by simp[iT,c1.gN],fun j c aR=>?_⟩;obtain⟨y,I,G,ab⟩:=c1.MX b1 j c aR;exact⟨y,I,G,.inr (ab _ _)⟩
  ·refine⟨List.replicate t.width .undef,by simp,.inl (aB.resolve_right b1),by simp[c1.gN],fun j c aR=>?_⟩;have k4:j<t.width:=by have:=(List.getElem?_eq_some_iff.1 aR).1;simpa using this
   simp[k4]at aR;have QS:j<bg.cells.toList.length:=by simp[c1.gN,k4]
   exact⟨bg.cells.toList[j],List.getElem?_eq_getElem QS,List.all_eq_true.1 c1.MY _ (List.getElem_mem QS),.inl aR.symm⟩
 obtain⟨c4,a1,bf,cj,eR,gf⟩:=Zd (lm:=lm) z1 n 0 _ vs l ns bp ab3 [] (by simp);simp only[List.nil_append]at a1;have I7:pg (fun c y=>y.oneCell'=true/\(c=.undef\/dC tab w (fX O mem S ns) c y)) (rep n gF) (madeCells (if n*t.width=0 then #[]else bg.cells) (n*t.width)).toList:=by
  refine⟨by simp[D4,z1,size_madeCells],fun q c aI=>?_⟩;have uO:q<n*t.width:=by have:=(List.getElem?_eq_some_iff.1 aI).1;rwa[D4,z1]at this
  have lZ:=c1.pos;have dz:¬n*t.width=0:=by omega
  have abd:q=q/t.width*t.width+q%t.width:=by rw[Nat.mul_comm];exact(Nat.div_add_mod q t.width).symm
  have abe:q%t.width<t.width:=Nat.mod_lt _ lZ;have abf:q/t.width<n:=Nat.div_lt_of_lt_mul (by rw[Nat.mul_comm];exact uO);have az:gF[q%t.width]? = some c:=by
   have:=H4 (f:=fun(_:Unit)=>gF) (wd:=t.width) (fun _=>z1) (List.replicate n ()) (q/t.width) (q%t.width) (by simpa using abf) abe;rw[<- abd]at this;have CX:(List.replicate n ()).flatMap (fun _=>gF)=rep n gF:=by
    unfold rep;rw[List.flatMap_def,List.map_replicate]
   rw[CX,aI]at this;exact this.symm
  obtain⟨y,I,G⟩:=ab4.2 _ c az;have kk:bg.cells[q%t.width]? = some y:=by simpa using I
  have zE:bg.cells[q%bg.cells.size]! = y:=by rw[c1.gN,getElem!_def,kk]
  exact⟨y,by simp[madeCells,dz,uO,zE],G⟩
 obtain⟨cells,f1,f2⟩:=H1 (place:=fun j=>some (j*t.width,t.width)) c4 _ (ps.map fun p=>(p.1,a.eval p.2)).toList (rep n gF) _ _ I7 a1 (by simp:_=ps.toList.map (·.1)) (by
   have:=aQ.len;simp[bf,this]) (fun j f v uF kH=>by
  obtain⟨qS,eT,cs,ds,eh,cJ,cE,rfl,gw,np,r6,tx⟩:=gf j f uF;obtain⟨x,bK,bX⟩:=LG aQ j eT cE;simp only[List.getElem?_map,Option.map_eq_some_iff]at cJ bK;obtain⟨fg,gm,hy⟩:=cJ;obtain⟨ft,hM,p6⟩:=bK;rw[gm]at hM;cases hM;have cR:v=(fg.1,a.eval fg.2):=by
   simp only[Array.toList_map,List.getElem?_map,gm,Option.map_some]at kH;exact(Option.some.inj kH).symm
  subst cR;obtain⟨bA,bb⟩:=AK (p6▸bX) np;obtain⟨_,d2,d3⟩:=Eu aD av (fun i=>(a.eval fg.2).cells.toList[i]?) (fun i c hi=>by obtain⟨y,cC,cI,dA⟩:=bb i c hi;exact⟨y,by simpa using cC,cI,dA⟩) r6;refine⟨by simp[hy,gw],by simp[bA,d2],fun i c hi=>?_⟩;obtain⟨y,cC,cI,dA⟩:=d3 i c hi;exact⟨y,cC,cI,.inr (dA.mono (fun b aA=>aA.imp id fun⟨r,aw,h⟩=>⟨r,tx r aw,h⟩) (fun _ _=>rfl))⟩)
 obtain⟨em,hD⟩:=qT (ns:=ns) aD;have nQ:cO (gP ns) mem base=none:=by
  rcases n0 (mem:=mem) ns base with⟨I,_⟩|⟨_,G⟩
  ·exact absurd I dz
  ·rw[G];exact aA
 have ax:(Loc.eu (.slice (some (b6 w.heap.size 0)) n n)).block=some w.heap.size\/(Loc.eu (.slice (some (b6 w.heap.size 0)) n n)).block=none:=.inl rfl;have dL:=ql (O:=O) (S:=fX O mem S ns) (w:=w) (o:=.cells cells e) (B:=.arr t l) nQ ax;have fs:cells.size=n*t.width:=by
  have:=f2.1;have G:=aep a1;rw[D4,z1]at G;simp only[Array.length_toList]at this;omega
 refine lb (s:=Instr.buildSlice T n (ps.map fun p=>(p.1,a.eval p.2))) (x:=.slice (some (b6 w.heap.size 0)) n n) (w':=w.alloc (.cells cells e)) (by simp only[execOp,aY]) (VB c1 n aq _ cells f1)
  ⟨l6 base (.eu (.slice (some (b6 w.heap.size 0)) n n)) O,fX O mem S ns,?_,?_,?_⟩
 ·rw[fx];exact em.trans dL
 ·rw[fx];refine rj nQ ax hD (.inr ⟨w.heap.size,n,cells,e,by rw[eR],heap_alloc_new w _,by omega,?_,by omega,fun q j c aI aR=>?_⟩)
  ·have lZ:=c1.pos;have:n*1<=n*t.width:=Nat.mul_le_mul_left n lZ;unfold maxLen;omega
  ·have k4:j<t.width:=by rw[<- iT t (nth l q t.H)];exact(List.getElem?_eq_some_iff.1 aR).1
   have CX:=H4 (f:=t.cells) (wd:=t.width) (fun a=>iT t a) l q j aI k4;rw[acZ l q t.H aI]at aR;rw[aR]at CX;obtain⟨y,cC,cI,dA⟩:=f2.2 _ c CX;refine⟨y,by simpa using cC,cI,(dA.resolve_left fun e=>?_).mono dL.sub (dL.keeps hD)⟩;subst e;have:=List.mem_of_getElem? aR
   revert this
   cases t<;>simp[z.cells]
 ·refine⟨rfl,by rw[fx,fm];exact(fun h=>by cases h),fun ez l' _=>hn⟩
end
end bE
end Go.Proofs.YtlbppjmekiemiaaGreatDoor


/- The executor on data: what is read out of a slice; append. No condition. -/
namespace Go.Proofs.YtlbppjmekiemiaaGreatDoor
namespace bE
section
variable {P:Program} {tab:ci} {O bU:dk} {mem fl:dS} {w w':World} {S S':Nat->Prop}

def Cells(tab:ci)(w:World)(S:Nat->Prop)(t:z)(l:List t.den)(ys:List Value):Prop :=
 ys.length=l.length*t.width/\(∀u∈ys,u.oneCell'=true)/\∀i j c,i<l.length->(t.cells (nth l i t.H))[j]? = some c->∃y,ys[i*t.width+j]? = some y/\dC tab w S c y

theorem Cells.mono{t:z}{l:List t.den}{ys:List Value}(h:Cells tab w S t l ys)(av:∀b,S b->S' b)(dn:∀b,S b->w'.heap[b]? = w.heap[b]?):Cells tab w' S' t l ys :=
 ⟨h.1,h.2.1,fun i j c hi aR=>by obtain⟨y,I,G⟩:=h.2.2 i j c hi aR;exact⟨y,I,G.mono av dn⟩⟩

theorem Yy{t:z}{l:List t.den}(f:Nat->Value)(lZ:0<t.width)(h:∀i j c,i<l.length->(t.cells (nth l i t.H))[j]? = some c->(f (i*t.width+j)).oneCell'=true/\dC tab w S c (f (i*t.width+j))) :
  Cells tab w S t l ((List.range (l.length*t.width)).map f):=by
 have idx:∀q,q<l.length*t.width->q/t.width<l.length/\q%t.width<t.width/\q/t.width*t.width+q%t.width=q:=fun q aI =>
  ⟨Nat.div_lt_of_lt_mul (by rw[Nat.mul_comm];exact aI),Nat.mod_lt _ lZ,by rw[Nat.mul_comm];exact Nat.div_add_mod q t.width⟩
 have cell:∀i j,i<l.length->j<t.width->∃c,(t.cells (nth l i t.H))[j]? = some c:=fun i j _ aR=>Jr (iT t _) j aR
 refine⟨by simp,fun u hu=>?_,fun i j c hi aR=>?_⟩
 ·simp only[List.mem_map,List.mem_range]at hu;obtain⟨q,aI,rfl⟩:=hu;obtain⟨I,G,ab⟩:=idx q aI;obtain⟨c,az⟩:=cell _ _ I G;have:=(h _ _ c I az).1;rwa[ab]at this
 ·have k4:j<t.width:=by rw[<- iT t (nth l i t.H)];exact(List.getElem?_eq_some_iff.1 aR).1
  have dQ:i*t.width+j<l.length*t.width:=by
   have:(i+1)*t.width<=l.length*t.width:=Nat.mul_le_mul_right _ (by omega);rw[Nat.add_mul]at this;omega
  exact⟨f (i*t.width+j),by simp[dQ],(h i j c hi aR).2⟩

theorem MR(t:z):0<t.width:=by cases t<;>simp[z.width]

theorem vb{t:z}{l:List t.den}{cap:Nat}{cur:Array Value}(hcap:l.length<=cap)(fs:cap*t.width<=cur.size)
  (h:∀i j c,i<l.length->(t.cells (nth l i t.H))[j]? = some c->∃y,cur[i*t.width+j]? = some y/\y.oneCell'=true/\dC tab w S c y) (lo hi:Nat) (I:lo<=hi) (G:hi<=l.length) :
  Cells tab w S t (a2 l lo hi) ((cur.toList.drop (lo*t.width)).take ((hi-lo)*t.width)):=by
 have hlen:=se l lo hi G;have rP:lo*t.width+(hi-lo)*t.width=hi*t.width:=by rw[<- Nat.add_mul];congr 1;omega
 have s3:hi*t.width<=cap*t.width:=Nat.mul_le_mul_right _ (by omega);refine⟨by simp[hlen];omega,fun u hu=>?_,fun i j c qK aR=>?_⟩
 ·obtain⟨q,aI,rfl⟩:=List.getElem_of_mem hu;simp at aI;have rT:q<(hi-lo)*t.width:=by omega
  have lZ:=MR t;have aO:q/t.width<hi-lo:=Nat.div_lt_of_lt_mul (by rw[Nat.mul_comm];exact rT);have aX:q/t.width*t.width+q%t.width=q:=by rw[Nat.mul_comm];exact Nat.div_add_mod q t.width
  obtain⟨c,az⟩:=Jr (iT t (nth l (lo+q/t.width) t.H)) (q%t.width) (Nat.mod_lt _ lZ);obtain⟨y,cC,cI,_⟩:=h _ _ c (by omega) az;have:((cur.toList.drop (lo*t.width)).take ((hi-lo)*t.width))[q]? = some y:=by
   rw[List.getElem?_take_of_lt rT,List.getElem?_drop,<- cC,Nat.add_mul,Nat.add_assoc,aX];simp
  rw[List.getElem?_eq_getElem (by simp;omega)]at this;rw[Option.some.inj this];exact cI
 ·have k4:j<t.width:=by rw[<- iT t (nth (a2 l lo hi) i t.H)];exact(List.getElem?_eq_some_iff.1 aR).1
  rw[Ef l lo hi i t.H (by omega)]at aR;obtain⟨y,cC,_,dA⟩:=h _ _ c (by omega) aR;have dQ:i*t.width+j<(hi-lo)*t.width:=by
   have:(i+1)*t.width<=(hi-lo)*t.width:=Nat.mul_le_mul_right _ (by omega);rw[Nat.add_mul]at this;omega
  refine⟨y,?_,dA⟩;rw[List.getElem?_take_of_lt dQ,List.getElem?_drop,<- cC,Nat.add_mul,Nat.add_assoc];simp

theorem Vo{lm:Mem}{c:C}{x:Value}{rd:Fa}(av:gi lm mem)(aD:Inv tab O mem w S)(aG:ch tab O mem w S (.one c) x)(h:mb lm c=some rd)(ag:under rd.pre True) :
  ∃fT cap ys,x=.slice fT rd.l.length cap/\Cells tab w S rd.t rd.l ys/\∀q,q<=rd.l.length->∀k e5,(Builtin.firstCells rd.t.width q (.slice fT k e5)).run P w=.ok (ys.take (q*rd.t.width)).toArray w/\(Builtin.firstCells rd.t.width q (.slice fT k e5)).run P w.drew=.ok (ys.take (q*rd.t.width)).toArray w.drew:=by
 have empty:∀(fT:Option Addr) (cap:Nat) (t:z),∃ys,Cells tab w S t ([]:List t.den) ys/\∀q,q<=0->∀k e5,(Builtin.firstCells t.width q (.slice fT k e5)).run P w=.ok (ys.take (q*t.width)).toArray w/\(Builtin.firstCells t.width q (.slice fT k e5)).run P w.drew=.ok (ys.take (q*t.width)).toArray w.drew:=fun fT cap t=>by
  refine⟨[],⟨by simp,fun u hu=>by simp at hu,fun i j c hi=>by simp at hi⟩,fun q aI k e5=>?_⟩;have abc:q=0:=by omega
  subst abc;cases fT<;>simp[Builtin.firstCells,loadCells,loadCellsFrom]
 have Hn:∀(b off n:Nat) (wd:Nat) (ys:List Value),ys.length=n*wd->(∀(j:Nat) v,ys[j]? = some v->w.cell? (b6 b (off+j))=some v)->∀q,q<=n->(loadCells (b6 b off) (q*wd)).run P w=.ok (ys.take (q*wd)).toArray w/\(loadCells (b6 b off) (q*wd)).run P w.drew=.ok (ys.take (q*wd)).toArray w.drew:=fun b off n wd MU pO sX q aI=>by
  have hle:q*wd<=n*wd:=Nat.mul_le_mul_right _ aI;have az:∀(j:Nat) v,(MU.take (q*wd))[j]? = some v->w.cell? (b6 b (off+j))=some v:=fun j v aR=>by
   have iv:j<q*wd:=by have:=(List.getElem?_eq_some_iff.1 aR).1;simp at this;omega
   rw[List.getElem?_take_of_lt iv]at aR;exact sX j v aR
  have ax:(MU.take (q*wd)).length=q*wd:=by simp;omega
  generalize MU.take (q*wd)=ys at az ax |-;rw[<- ax];have iU:∀(j:Nat) v,ys[j]? = some v->w.cell? ((b6 b off).add j)=some v:=fun j v aR=>by rw[b6,Addr.add_lit];exact az j v aR
  exact⟨run_loadCells_list w _ ys iU,run_loadCells_list w.drew _ ys (fun j v aR=>by rw[World.cell?_drew];exact iU j v aR)⟩
 cases c with
 |E ez d =>
  cases ez with
  |list t =>
   simp only[mb]at h;cases h;simp only;cases aG.2 with
   |empty t a cap =>
    obtain⟨ys,I,G⟩:=empty a cap t;exact⟨a,cap,ys,rfl,I,G⟩
   |list t l b off cap cs dw hcap az aw =>
    have lZ:=MR t
    let f:Nat->Value:=fun q=>cs (q/t.width) (q%t.width)
    have b1:∀i j,j<t.width->f (i*t.width+j)=cs i j:=fun i j aR=>by
     simp only[f];rw[Nat.mul_comm,Nat.mul_add_div lZ,Nat.div_eq_of_lt aR,Nat.mul_add_mod,Nat.mod_eq_of_lt aR,Nat.add_zero]
    have hcells:Cells tab w S t d ((List.range ((d:List t.den).length*t.width)).map f):=Yy f lZ fun i j c hi aR=>by
     have k4:j<t.width:=by rw[<- iT t (nth d i t.H)];exact(List.getElem?_eq_some_iff.1 aR).1
     rw[b1 i j k4];exact⟨(aw i j c hi aR).Au,aw i j c hi aR⟩
    refine⟨_,cap,_,rfl,hcells,fun q aI k e5=>?_⟩;have:=Hn b off (d:List t.den).length t.width ((List.range ((d:List t.den).length*t.width)).map f) (by simp) (fun j v aR=>by
     have iv:j<(d:List t.den).length*t.width:=by have:=(List.getElem?_eq_some_iff.1 aR).1;simpa using this
     simp[iv]at aR;rw[<- aR];have aO:j/t.width<(d:List t.den).length:=Nat.div_lt_of_lt_mul (by rw[Nat.mul_comm];exact iv);have aX:j/t.width*t.width+j%t.width=j:=by rw[Nat.mul_comm];exact Nat.div_add_mod j t.width
     have:=az (j/t.width) (j%t.width) aO (Nat.mod_lt _ lZ);rw[Nat.add_assoc,aX]at this;exact this) q aI
    exact this
  |_=>simp only[mb]at h;cases h
 |nil t =>
  simp only[mb]at h;cases h;obtain⟨_,ex⟩:=aG;obtain⟨ys,I,G⟩:=empty none 0 t;exact⟨none,0,ys,ex,I,G⟩
 |own r =>
  simp only[mb]at h;split at h<;>try cases h
  rename_i t l ax;simp only;obtain⟨_,_,dN⟩:=tp av aD ax aG;rcases dN with⟨ex,rfl⟩|⟨b,cap,cur,e,ex,aA,ab,aV,br,bV⟩
  ·obtain⟨ys,I,G⟩:=empty none 0 t;exact⟨none,0,ys,ex,I,G⟩
  ·have hcells:=vb ab br bV 0 l.length (Nat.zero_le _) (Nat.le_refl _);have dY:a2 l 0 l.length=l:=by simp[a2]
   rw[dY]at hcells;refine⟨_,cap,_,ex,hcells,fun q aI k e5=>?_⟩;have pL:=hcells.1;exact Hn b 0 l.length t.width _ pL (fun j v aR=>by
    have iv:j<l.length*t.width:=by rw[<- pL];exact(List.getElem?_eq_some_iff.1 aR).1
    refine cell?_at aA ?_;simp only[Nat.zero_mul,List.drop_zero,Nat.sub_zero]at aR;rw[List.getElem?_take_of_lt iv]at aR;simpa using aR) q aI
 |view r off n =>
  simp only[mb]at h;split at h<;>try cases h
  rename_i t l ax;simp only at ag |-;have hle:off+n<=l.length:=ag.1;obtain⟨_,y,_,⟨a0,m0,iS,ei,jg,a1,bf,cj,eR,gf,gX⟩,dN⟩:=vF av aD ax aG;have hlen:=o5 l off n hle
  by_cases aq:n=0
  ·have bp:a2 l off (off+n)=[]:=List.eq_nil_of_length_eq_zero (by omega);rw[bp];subst aq;obtain⟨ys,I,G⟩:=empty ei jg t;exact⟨ei,jg,ys,bf,I,G⟩
  ·rcases dN with⟨_,rfl⟩|⟨b,cap,cur,e,eB,aA,ab,aV,br,bV⟩
   ·simp at hle;omega
   ·rw[eB]at a1;cases a1;have bh:=eR (by omega);subst bh;have hcells:=vb ab br bV off (off+n) (by omega) hle;have pL:=hcells.1;rw[hlen];refine⟨_,jg,_,bf,hcells,fun q aI k e5=>?_⟩;rw[hlen]at pL;have:=Hn b (0+off*t.width) n t.width _ pL (fun j v aR=>by
     have iv:j<n*t.width:=by rw[<- pL];exact(List.getElem?_eq_some_iff.1 aR).1
     refine cell?_at aA ?_;rw[List.getElem?_take_of_lt (by rw[show off+n-off=n by omega];exact iv),List.getElem?_drop]at aR;simpa using aR) q aI
    simpa[Builtin.firstCells,b6]using this
 |_=>simp only[mb]at h;cases h

theorem Vn{lm:Mem}{c:C}{x:Value}{rd:Fa}(av:gi lm mem)(aD:Inv tab O mem w S)(aG:ch tab O mem w S (.one c) x)(h:mb lm c=some rd)(ag:under rd.pre True) :
  ∃fT cap ys,x=.slice fT rd.l.length cap/\Cells tab w S rd.t rd.l ys/\∀k e5,(Builtin.firstCells rd.t.width rd.l.length (.slice fT k e5)).run P w=.ok ys.toArray w/\(Builtin.firstCells rd.t.width rd.l.length (.slice fT k e5)).run P w.drew=.ok ys.toArray w.drew:=by
 obtain⟨fT,cap,ys,I,G,ab⟩:=Vo (P:=P) av aD aG h ag;refine⟨fT,cap,ys,I,G,fun k e5=>?_⟩;have:=ab rd.l.length (Nat.le_refl _) k e5;rwa[List.take_of_length_le (by rw[G.1];exact Nat.le_refl _)]at this
end
end bE
end Go.Proofs.YtlbppjmekiemiaaGreatDoor


/- The executor on data: append. No condition. -/
namespace Go.Proofs.YtlbppjmekiemiaaGreatDoor
namespace bE
section
variable {P:Program} {tab:ci} {O bU:dk} {mem fl:dS} {w w':World} {S S':Nat->Prop}

theorem AM{T cV e aX wd:Nat}{ty:TypeId}{i:TypeInfo}(bH:P.underlying T=some (.slice e))(h6:P.underlying cV=some (.slice aX))(hi:P.info? e=some i)(fs:i.size=wd)(base:Option Addr)(k cap m:Nat)(fT:Option Addr)(gW:Nat)
  (ys:List Value) (b1:(Builtin.firstCells wd m (.slice fT m gW)).run P w=.ok ys.toArray w) (l2:k+m<=cap) (fJ:match base with|some a=>(storeCells (a.add (k*wd)) ys).run P w=.ok () w' | none=>w'=w) :
  (Builtin.append_ #[T,cV] ty #[.slice base k cap,.slice fT m gW]).run P w=.ok (.slice base (k+m) cap) w':=by
 subst fs;cases base with
 |none =>
  simp only at fJ;subst fJ;simp[Builtin.append_,run_underlying bH,run_underlying h6,sizeOf,typeInfo,hi,Builtin.lenOf,l2,b1]
 |some a =>
  simp only at fJ;simp[Builtin.append_,run_underlying bH,run_underlying h6,sizeOf,typeInfo,hi,Builtin.lenOf,l2,b1,fJ]

theorem VA{T cV e aX wd:Nat}{ty:TypeId}{i:TypeInfo}{bg:Value}(bH:P.underlying T=some (.slice e))(h6:P.underlying cV=some (.slice aX))(hi:P.info? e=some i)(dR:i.zero=some bg)(fs:i.size=wd)(base:Option Addr)(k cap m:Nat)(fT:Option Addr)(gW:Nat)
  (lA ys:List Value) (aY:(Builtin.firstCells wd k (.slice base k cap)).run P w.drew=.ok lA.toArray w.drew) (b1:(Builtin.firstCells wd m (.slice fT m gW)).run P w.drew=.ok ys.toArray w.drew) (l2:¬k+m<=cap)
  (QD:(k+m)*i.bytes<=140737488355328) (lZ:0<i.bytes) :
  (Builtin.append_ #[T,cV] ty #[.slice base k cap,.slice fT m gW]).run P w=.ok (.slice (some (b6 w.heap.size 0)) (k+m) (grownCap w (k+m) cap e))
   (w.drew.alloc (.cells (lA.toArray++ys.toArray++Builtin.zeroCells bg.cells (grownCap w (k+m) cap e-(k+m))) e)):=by
 subst fs;have aj5:k+m<=140737488355328:=Nat.le_trans (Nat.le_mul_of_pos_right _ lZ) QD;have ZU:¬(9223372036854775807<((k:Int)+(m:Int))):=by omega
 have uG:=growslice_fits (bytes:=i.bytes) (show cap<k+m by omega) QD;have ZT:¬(281474976710656<Builtin.nextslicecap (k+m) cap*i.bytes):=by omega
 simp[Builtin.append_,run_underlying bH,run_underlying h6,sizeOf,typeInfo,zeroValue,hi,dR,Builtin.lenOf,l2,ZU,ZT,Question.forced,aY,b1,newRow,grownCap,b6];congr 2;apply Array.ext';simp[List.append_assoc]

theorem Am{r:Nat}{t:z}(aD:Inv tab O mem w S)(aw:mem r=none) :
  Ext O mem w S (l6 r (.eu (.slice none 0 0)) O) (cO [(r,.arr t [])] mem) w S/\Inv tab (l6 r (.eu (.slice none 0 0)) O) (cO [(r,.arr t [])] mem) w S:=by
 have a5:Ext O mem w S (l6 r (.eu (.slice none 0 0)) O) (cO [(r,.arr t [])] mem) w S:=by
  refine⟨fun q aI=>?_,fun q ga ih I G=>?_,fun _ h=>h,Nat.le_refl _,fun _ _ _=>rfl,fun _ h=>.inl h,fun b aA=>?_,rfl,rfl,rfl⟩
  ·by_cases e:q=r
   ·subst e;exact absurd aw aI
   ·rw[eg e];exact aI
  ·by_cases e:q=r
   ·subst e;rw[aw]at I;cases I
   ·rw[eg e,I]at G;cases G;exact⟨iP.refl _,fun _=>j5 e⟩
  ·obtain⟨q,l',I,G,ab⟩:=aA
   by_cases e:q=r
   ·subst e;rw[hn]at G;cases G;cases ab
   ·rw[j5 e]at G;exact .inl ⟨q,l',(lx e).1 I,G,ab⟩
 refine⟨a5,fun q B' fE bh=>?_,fun q fZ l1 I G dV gT b aO aX aA gA=>?_,fun q I dV b aO aA dw=>?_,aD.lt,aD.pow⟩
 ·by_cases e:q=r
  ·subst e;rw[fm]at fE;cases fE;exact⟨_,hn,.inl ⟨rfl,rfl⟩⟩
  ·rw[eg e]at fE;obtain⟨l',aO,aX⟩:=aD.rel q B' fE bh;exact⟨l',(j5 e).trans aO,aX.ext a5 aD fun _ _=>rfl⟩
 ·by_cases e:q=r
  ·subst e;rw[hn]at aO;cases aO;cases aA
  ·by_cases b8:fZ=r
   ·subst b8;rw[hn]at aX;cases aX;cases gA
   ·rw[j5 e]at aO;rw[j5 b8]at aX;exact aD.inj q fZ l1 ((lx e).1 I) ((lx b8).1 G) dV gT b aO aX aA gA
 ·by_cases e:q=r
  ·subst e;rw[hn]at aO;cases aO;cases aA
  ·rw[j5 e]at aO;exact aD.sep q ((lx e).1 I) dV b aO aA dw

theorem Cells.append{t:z}{l m:List t.den}{xs ys:List Value}(I:Cells tab w S t l xs)(G:Cells tab w S t m ys):Cells tab w S t (cat l m) (xs++ys):=by
 refine⟨by simp[cat,I.1,G.1,Nat.add_mul],fun u hu=>?_,fun i j c hi aR=>?_⟩
 ·simp only[List.mem_append]at hu;exact hu.elim (I.2.1 u) (G.2.1 u)
 ·have k4:j<t.width:=by rw[<- iT t (nth (cat l m) i t.H)];exact(List.getElem?_eq_some_iff.1 aR).1
  by_cases IK:i<l.length
  ·have e:nth (cat l m) i t.H=nth l i t.H:=by simp[nth,cat,List.getD,List.getElem?_append_left IK]
   rw[e]at aR;obtain⟨y,cC,cI⟩:=I.2.2 i j c IK aR;have dQ:i*t.width+j<xs.length:=(List.getElem?_eq_some_iff.1 cC).1;exact⟨y,by rw[List.getElem?_append_left dQ];exact cC,cI⟩
  ·have e:nth (cat l m) i t.H=nth m (i-l.length) t.H:=by simp[nth,cat,List.getD,List.getElem?_append_right (Nat.le_of_not_lt IK)]
   rw[e]at aR;obtain⟨y,cC,cI⟩:=G.2.2 (i-l.length) j c (by simp[cat]at hi;omega) aR;have aB:l.length*t.width+(i-l.length)*t.width=i*t.width:=by rw[<- Nat.add_mul];congr 1;omega
   refine⟨y,?_,cI⟩;rw[List.getElem?_append_right (by rw[I.1];omega),I.1,<- cC];congr 1;omega

theorem NY{t:z}{l:List t.den}{xs:List Value}{b cap:Nat}{cur:Array Value}{e:TypeId}(h:Cells tab w S t l xs)(aA:w.heap[b]? = some (.cells cur e (0,0)))(I:l.length<=cap)(G:cap<=maxLen)(ab:cap*t.width<=cur.size)
  (aV:∀q,q<xs.length->cur[q]? = xs[q]?):pc tab O mem w S (.arr t l) (.eu (.slice (some (b6 b 0)) l.length cap)):=by
 refine .inr ⟨b,cap,cur,e,rfl,aA,I,G,ab,fun i j c hi aR=>?_⟩;obtain⟨y,cC,cI⟩:=h.2.2 i j c hi aR;have dQ:i*t.width+j<xs.length:=(List.getElem?_eq_some_iff.1 cC).1;exact⟨y,by rw[aV _ dQ];exact cC,cI.Au,cI⟩

theorem aeA{α:Type}(l m:List α)(off i:Nat)(d:α)(h:off+m.length<=l.length)(hi:i<l.length):nth (put l off m) i d=if off<=i/\i<off+m.length then nth m (i-off) d else nth l i d:=by
 simp only[nth,List.getD_eq_getElem?_getD,put];congr 1
 by_cases bA:i<off
 ·rw[if_neg (by omega),List.append_assoc,List.getElem?_append_left (by simp;omega),List.getElem?_take_of_lt bA]
 ·by_cases bb:i<off+m.length
  ·rw[if_pos ⟨by omega,bb⟩,List.append_assoc,List.getElem?_append_right (by simp;omega),List.getElem?_append_left (by simp;omega),show i-(l.take off).length=i-off by simp;omega]
  ·rw[if_neg (by omega),List.getElem?_append_right (by simp;omega),List.getElem?_drop,show off+m.length+(i-(l.take off++m).length)=i by simp;omega]

theorem DK{α:Type}(l m:List α)(off:Nat)(h:off+m.length<=l.length):(put l off m).length=l.length:=by simp[put];omega

theorem DH{r b off cap:Nat}{t:z}{l k:List t.den}{cur:Array Value}{e:TypeId}{ys:List Value}(fI:mem r=some (.arr t l))(dj:O r=some (.eu (.slice (some (b6 b 0)) l.length cap)))(aA:w.heap[b]? = some (.cells cur e (0,0)))
  (I:l.length<=cap) (G:cap<=maxLen) (ab:cap*t.width<=cur.size) (aV:∀i j c,i<l.length->(t.cells (nth l i t.H))[j]? = some c->∃y,cur[i*t.width+j]? = some y/\y.oneCell'=true/\dC tab w S c y)
  (ad:Cells tab w S t k ys) (hle:off+k.length<=l.length) (aD:Inv tab O mem w S) :
  ∃w',(storeCells (b6 b (off*t.width)) ys).run P w=.ok () w'/\Ext O mem w S O (cO [(r,.arr t (put l off k))] mem) w' S/\Inv tab O (cO [(r,.arr t (put l off k))] mem) w' S:=by
 have uG:off*t.width+ys.length<=cur.size:=by
  rw[ad.1,<- Nat.add_mul];exact Nat.le_trans (Nat.mul_le_mul_right _ (by omega)) ab
 have fJ:=run_storeCells_at P b (off*t.width) e ys 0 cur w aA (by simpa using uG) ad.2.1;simp only[Nat.add_zero]at fJ;generalize hw:(cur.toList.take (off*t.width)++ys++cur.toList.drop (off*t.width+ys.length)).toArray=eM at fJ;obtain⟨cJ,cE,ey,gw⟩:=yn (w:=w) b eM;have pQ:∀k,k≠b->(w.setRow b eM).heap[k]? = w.heap[k]?:=fun k ad=>setRow_other w b k eM ad
 have a5:=yD (S:=S) (B':=.arr t (put l off k)) fI trivial dj (b:=b) rfl rfl cJ pQ cE ey gw;have iW:=DK l k off hle;have fs:eM.size=cur.size:=by subst hw;simp;omega
 refine⟨_,fJ,a5,yE fI trivial dj rfl cJ pQ a5 aD (.inr ⟨b,cap,eM,e,by rw[iW],setRow_heap w b cur eM e (0,0) aA,by rw[iW];exact I,G,by rw[fs];exact ab,fun i j c hi az=>?_⟩)⟩;rw[iW]at hi;have k4:j<t.width:=by rw[<- iT t (nth (put l off k) i t.H)];exact(List.getElem?_eq_some_iff.1 az).1
 rw[aeA l k off i t.H hle hi]at az;have mono:∀{y2:C} {u:Value},dC tab w S y2 u->dC tab (w.setRow b eM) S y2 u:=fun h=>h.mono (fun _ h=>h) (a5.keeps aD)
 have kk:∀q:Nat,eM[q]? = (cur.toList.take (off*t.width)++ys++cur.toList.drop (off*t.width+ys.length))[q]?:=fun q=>by subst hw;simp
 rw[kk];have qO:=ad.1
 by_cases kl:off<=i/\i<off+k.length
 ·rw[if_pos kl]at az;obtain⟨y,a1,bf⟩:=ad.2.2 (i-off) j c (by omega) az;have I6:(i-off)*t.width+j<ys.length:=(List.getElem?_eq_some_iff.1 a1).1;have aO:off*t.width+((i-off)*t.width+j)=i*t.width+j:=by
   rw[<- Nat.add_assoc,<- Nat.add_mul];congr 2;omega
  refine⟨y,?_,ad.2.1 y (List.mem_of_getElem? a1),mono bf⟩;have I0:off*t.width<=cur.size:=by omega
  rw[<- aO,List.append_assoc,List.getElem?_append_right (by simp;omega),List.getElem?_append_left (by simp;omega)];rw[<- a1];congr 1;simp;omega
 ·rw[if_neg kl]at az;obtain⟨y,a1,bf,cj⟩:=aV i j c hi az;refine⟨y,?_,bf,mono cj⟩;have dQ:i*t.width+j<cur.size:=(Array.getElem?_eq_some_iff.1 a1).1
  by_cases bA:i<off
  ·have:(i+1)*t.width<=off*t.width:=Nat.mul_le_mul_right _ (by omega);rw[Nat.add_mul]at this;rw[List.append_assoc,List.getElem?_append_left (by simp;omega),List.getElem?_take_of_lt (by omega)];simpa using a1
  ·have:(off+k.length)*t.width<=i*t.width:=Nat.mul_le_mul_right _ (by omega);rw[Nat.add_mul]at this;rw[List.getElem?_append_right (by simp;omega),List.getElem?_drop];have aO:off*t.width+ys.length+(i*t.width+j-(cur.toList.take (off*t.width)++ys).length)=i*t.width+j:=by simp;omega
   rw[aO];simpa using a1

theorem adL{o:Oper}{a:Act}{s x:Operand}{T cV base:Nat}{aK ju:c7}{c d:C}{lm:Mem}{p:Option Prop}{v:V}{m:Mem}{u:z}(bH:fp P tab)(aY:o.op=.call { callee:=.builtin .append,args:=#[s,x],argTypes:=#[T,cV] })
  (bl:dO tab T=some aK) (hu:dO tab cV=some ju) (uJ:ju.elem=some u) (aD:Inv tab O mem w S) (av:gi lm mem) (aA:mem base=none)
  (dw:ch tab O mem w S (.one c) (a.eval s)) (fS:ch tab O mem w S (.one d) (a.eval x)) (h:yS aK base aK.bytes lm c d=some (p,v,m)) (ag:under p True) :
  dU P o a w (ec tab O mem w S m v):=by
 unfold yS at h;split at h<;>try cases h
 rename_i n7 t ee uP;split at h<;>try cases h
 rename_i ad;obtain⟨e,i,bg,c1⟩:=jQ bH bl ad;have h6:∃aX,P.underlying cV=some (.slice aX):=by
  have dX:=(bH.ok cV ju hu).kind;unfold c7.elem at uJ;cases hW:ju.hl with
  |slice ez b8=>rw[hW]at dX;exact⟨b8,dX.1⟩
  |_=>rw[hW]at uJ;cases uJ
 obtain⟨aX,h6⟩:=h6;have akD:=MR t;have main:∀(l0:List t.den) (dP:Option Addr) (cap:Nat),a.eval s=.slice dP l0.length cap->under n7 True->(l0.length+ee.length)*aK.bytes<=140737488355328 ->
   ((dP=none/\l0=[]/\cap=0/\(m=[(base,.arr t (cat l0 ee))]\/∃r l,mem r=some (.arr t l)/\O r=some (.eu (.slice none 0 0))/\m=[(r,.dead),(base,.arr t (cat l0 ee))])) \/
    (∃r l b iS cur b8,mem r=some (.arr t l)/\O r=some (.eu (.slice (some (b6 b 0)) l.length iS))/\m=[(r,.dead),(base,.arr t (cat l0 ee))]/\dP=some (b6 b 0)/\cap<=iS/\l0.length<=cap/\iS<=maxLen /\
     w.heap[b]? = some (.cells cur b8 (0,0))/\iS*t.width<=cur.size/\Cells tab w S t l0 (cur.toList.take (l0.length*t.width)))) ->
   v=.one (.own base)->dU P o a w (ec tab O mem w S m v):=by
  intro l0 dP cap es I3 uB zI aQ;subst aQ;obtain⟨fT,gW,ys,ex,hcells,gR⟩:=Vn (P:=P) av aD fS uP I3;simp only at ex hcells gR;have fin:∀(eT:Value) (w':World),(Builtin.append_ #[T,cV] o.type #[.slice dP l0.length cap,.slice fT ee.length gW]).run P w=.ok eT w'->ec tab O mem w S m (.one (.own base)) eT w'->dU P o a w (ec tab O mem w S m (.one (.own base))):=fun eT w' aw bh =>
   gV (x:=eT) (w':=w') (by simp[execOp,aY,resolve,invoke,builtin,es,ex,aw]) bh
  have bound:l0.length+ee.length<=140737488355328:=Nat.le_trans (Nat.le_mul_of_pos_right _ c1.BK) uB
  by_cases l2:l0.length+ee.length<=cap
  ·rcases zI with⟨rfl,rfl,rfl,aB⟩|⟨r,l,b,iS,cur,b8,fI,dj,rfl,rfl,sX,C0,Ix,hbk,fs,hold⟩
   ·-- nothing goes to nothing
    have abj:ee=[]:=List.eq_nil_of_length_eq_zero (by simpa using l2);subst abj;have aw:=AM (P:=P) (w:=w) (ty:=o.type) c1.hA h6 c1.info c1.size none 0 0 0 fT gW ys (gR 0 gW).1 (by omega) rfl;rcases aB with rfl|⟨r,l,fI,dj,rfl⟩
    ·obtain⟨a5,hC⟩:=Am (t:=t) aD aA;exact fin _ _ aw ⟨_,S,a5,hC,rfl,by rw[fm];exact(fun h=>by cases h),fun _ _ _=>hn⟩
    ·obtain⟨a5,qI⟩:=DI (B':=.arr t (cat [] [])) (l':=.eu (.slice none 0 0)) (w':=w) fI trivial aA dj rfl rfl (fun _ _=>rfl) rfl rfl rfl aD;refine fin _ _ aw ⟨_,S,a5,qI (.inl ⟨rfl,rfl⟩),rfl,?_,fun _ _ _=>hn⟩;have dz:base≠r:=fun e=>by subst e;rw[fI]at aA;cases aA
     rw[fx,eg dz,fm];exact(fun h=>by cases h)
   ·-- it fits
    have uG:l0.length*t.width+ys.length<=cur.size:=by
     rw[hcells.1,<- Nat.add_mul];exact Nat.le_trans (Nat.mul_le_mul_right _ (by omega)) fs
    have fJ:=run_storeCells_at P b (l0.length*t.width) b8 ys 0 cur w hbk (by simpa using uG) hcells.2.1;simp only[Nat.add_zero]at fJ;generalize hw:(cur.toList.take (l0.length*t.width)++ys++cur.toList.drop (l0.length*t.width+ys.length)).toArray=eM at fJ;obtain⟨cJ,cE,ey,gw⟩:=yn (w:=w) b eM;have aw:=AM (P:=P) (w:=w) (w':=w.setRow b eM) (ty:=o.type) c1.hA h6 c1.info c1.size (some (b6 b 0)) l0.length cap ee.length fT gW ys (gR _ gW).1 l2 (by simpa[b6,Addr.add_lit]using fJ);obtain⟨a5,qI⟩:=DI (B':=.arr t (cat l0 ee)) (l':=.eu (.slice (some (b6 b 0)) (l0.length+ee.length) cap)) (w':=w.setRow b eM) fI trivial aA dj rfl cJ (fun k ad=>setRow_other w b k eM (fun e=>ad (by rw[e];rfl))) cE ey gw aD;have dz:base≠r:=fun e=>by subst e;rw[fI]at aA;cases aA
    refine fin _ _ aw ⟨_,S,a5,qI ?_,rfl,?_,fun _ _ _=>hn⟩
    ·have az:=(hold.append hcells).mono (S':=S) (w':=w.setRow b eM) a5.sub (a5.keeps aD);have cY:(cat l0 ee).length=l0.length+ee.length:=by simp[cat]
     rw[<- cY];refine NY az (setRow_heap w b cur eM b8 (0,0) hbk) (by rw[cY];exact l2) (by omega) ?_ (fun q aI=>?_)
     ·have:eM.size=cur.size:=by
       subst hw;have:=hold.1;simp at this |-;omega
      rw[this];exact Nat.le_trans (Nat.mul_le_mul_right _ sX) fs
     ·subst hw;rw[List.getElem?_toArray,List.getElem?_append_left aI]
    ·rw[fx,eg dz,fm];exact(fun h=>by cases h)
  ·-- a new array
   obtain⟨lA,hold,rR⟩:∃lA,Cells tab w S t l0 lA/\(Builtin.firstCells t.width l0.length (.slice dP l0.length cap)).run P w.drew=.ok lA.toArray w.drew:=by
    rcases zI with⟨rfl,rfl,rfl,_⟩|⟨r,l,b,iS,cur,b8,fI,dj,_,rfl,sX,C0,Ix,hbk,fs,hold⟩
    ·exact⟨[],⟨by simp,fun u hu=>by simp at hu,fun i j c hi=>by simp at hi⟩,by simp[Builtin.firstCells]⟩
    ·refine⟨_,hold,?_⟩;have:=run_loadCells_list (P:=P) w.drew (b6 b 0) (cur.toList.take (l0.length*t.width)) (fun j v aR=>by
      rw[World.cell?_drew,b6,Addr.add_lit,Nat.zero_add];refine cell?_at hbk ?_;have iv:j<l0.length*t.width:=by
       have:=(List.getElem?_eq_some_iff.1 aR).1;simp at this;omega
      rw[List.getElem?_take_of_lt iv]at aR;simpa using aR)
     rw[hold.1]at this;simpa[Builtin.firstCells]using this
   have aw:=VA (P:=P) (w:=w) (ty:=o.type) c1.hA h6 c1.info c1.zero c1.size dP l0.length cap ee.length fT gW lA ys rR (gR _ gW).2 l2 (by rw[c1.bytes];exact uB) (by rw[c1.bytes];exact c1.BK);generalize hw:lA.toArray++ys.toArray++Builtin.zeroCells bg.cells (grownCap w (l0.length+ee.length) cap e-(l0.length+ee.length))=eM at aw;have uH:=grownCap_ge w (l0.length+ee.length) cap e;have pK:=grownCap_le_maxLen w (l0.length+ee.length) cap e (by unfold maxLen;omega);generalize grownCap w (l0.length+ee.length) cap e=tj at aw uH pK hw;have cY:(cat l0 ee).length=l0.length+ee.length:=by simp[cat]
   have Iy:eM.size=tj*t.width:=by
    subst hw;simp only[Array.size_append,List.size_toArray,size_zeroCells,c1.gN,hold.1,hcells.1,<- Nat.add_mul];congr 1;omega
   have kk:∀q,q<(lA++ys).length->eM[q]? = (lA++ys)[q]?:=fun q aI=>by
    subst hw;rw[Array.getElem?_append_left (by simpa using aI)];simp
   have done:∀(S0:Nat->Prop) (mem0:dS),Ext O mem w S O mem0 w S0->Inv tab O mem0 w S0->mem0 base=none->cO m mem=cO [(base,.arr t (cat l0 ee))] mem0->dU P o a w (ec tab O mem w S m (.one (.own base))):=fun S0 mem0 lK oo pI jo=>by
    have ax:(Loc.eu (.slice (some (b6 w.heap.size 0)) (l0.length+ee.length) tj)).block=some w.heap.size\/(Loc.eu (.slice (some (b6 w.heap.size 0)) (l0.length+ee.length) tj)).block=none:=.inl rfl;have rU:(w.drew.alloc (.cells eM e)).heap=(w.alloc (.cells eM e)).heap:=rfl;have qg:Ext O mem0 w S0 O mem0 w.drew S0:=⟨fun _ h=>h,(Ext.refl (O:=O) (mem:=mem0) (w:=w) (S:=S0)).kinds,fun _ h=>h,Nat.le_refl _,fun _ _ _=>rfl,fun _ h=>.inl h,fun _ h=>.inl h,rfl,rfl,rfl⟩
    have Id:Inv tab O mem0 w.drew S0:=⟨fun q B I G=>by obtain⟨l',aO,aX⟩:=oo.rel q B I G;exact⟨l',aO,aX.ext qg oo fun _ _=>rfl⟩,oo.inj,oo.sep,oo.lt,oo.pow.of_heap rfl⟩
    have em:=ql (O:=O) (S:=S0) (w:=w.drew) (o:=.cells eM e) (B:=.arr t (cat l0 ee)) pI ax;refine fin _ _ aw ⟨_,S0,by rw[jo];exact(lK.trans qg).trans em,by
     rw[jo];refine rj pI ax Id ?_;have az:=(((hold.append hcells).mono (S':=S0) (w':=w) lK.sub (lK.keeps aD)).mono (S':=S0) (w':=w.drew) qg.sub (qg.keeps oo)).mono (S':=S0) (w':=w.drew.alloc (.cells eM e)) em.sub (em.keeps Id);rw[<- cY];exact NY az (heap_alloc_new w.drew _) (by rw[cY];exact uH) pK (by omega) kk,rfl,by rw[jo,fm];exact(fun h=>by cases h),fun _ _ _=>hn⟩
   have WX:∀r l,mem r=some (.arr t l)->m=[(r,.dead),(base,.arr t (cat l0 ee))]->dU P o a w (ec tab O mem w S m (.one (.own base))):=fun r l fI aB=>by
    have dz:base≠r:=fun e=>by subst e;rw[fI]at aA;cases aA
    obtain⟨lK,oo⟩:=RN aD (r:=r) (by rw[fI];exact(fun h=>by cases h)) False;refine done _ _ lK oo (by rw[eg dz];exact aA) ?_;subst aB;funext q
    by_cases bA:q=r
    ·subst bA;rw[fx,fm,eg (Ne.symm dz),fm]
    ·by_cases bb:q=base
     ·subst bb;rw[fx,eg bA,fm,fm]
     ·rw[fx,eg bA,eg bb,eg bb,eg bA]
   rcases zI with⟨_,_,_,aB⟩|⟨r,l,b,iS,cur,b8,fI,dj,aB,_⟩
   ·rcases aB with aB|⟨r,l,fI,_,aB⟩
    ·exact done S mem Ext.refl aD aA (by rw[aB])
    ·exact WX r l fI aB
   ·exact WX r l fI aB
 have ue:∀{n7:Option Prop} {q:Prop},under (some (both n7 q)) True->under n7 True/\q:=fun {n7 q} h=>by
  cases n7 with
  |none=>exact⟨trivial,h.1⟩
  |some p=>exact⟨⟨h.1.1,trivial⟩,h.1.2⟩
 cases c with
 |nil ez =>
  simp only at h;split at h<;>try cases h
  rename_i mB;subst mB;obtain⟨I,G⟩:=ue ag;obtain⟨_,es⟩:=dw;exact main [] none 0 es I (by simpa[len]using G) (.inl ⟨rfl,rfl,rfl,.inl rfl⟩) rfl
 |own r =>
  simp only at h;split at h<;>try cases h
  rename_i ez l ax;split at h<;>try cases h
  rename_i mB;subst mB;obtain⟨I,G⟩:=ue ag;obtain⟨fI,dj,dN⟩:=tp av aD ax dw;rcases dN with⟨es,rfl⟩|⟨b,cap,cur,b8,es,hbk,cj,eR,gf,gX⟩
  ·exact main [] none 0 es I (by simpa[len]using G) (.inl ⟨rfl,rfl,rfl,.inr ⟨r,[],fI,by rw[dj,es],rfl⟩⟩) rfl
  ·have az:=vb cj gf gX 0 l.length (Nat.zero_le _) (Nat.le_refl _);have dY:a2 l 0 l.length=l:=by simp[a2]
   rw[dY]at az;simp only[Nat.zero_mul,List.drop_zero,Nat.sub_zero]at az;exact main l _ cap es I (by simpa[len]using G) (.inr ⟨r,l,b,cap,cur,b8,fI,by rw[dj,es],rfl,rfl,Nat.le_refl _,cj,eR,hbk,gf,az⟩) rfl
 |cut r n =>
  simp only at h;split at h<;>try cases h
  rename_i ez l ax;split at h<;>try cases h
  rename_i mB;subst mB;obtain⟨I,G,ab⟩:=ue ag;have oN:n<=l.length:=G;have hlen:(a2 l 0 n).length=n:=by rw[se l 0 n oN];omega
  have aB:=vq av ax;obtain⟨_,_,aG⟩:=dw;obtain⟨a0,m0,iS,dj,es⟩:=aG _ l aB;obtain⟨l',aO,dN⟩:=aD.rel r _ aB trivial;rw[dj]at aO;cases aO;rcases dN with⟨eB,rfl⟩|⟨b,cap,cur,b8,eB,hbk,cj,eR,gf,gX⟩
  ·cases eB;have pO:n=0:=by simpa using oN
   subst pO;exact main [] none 0 (by simpa using es) I (by simpa[len]using ab) (.inl ⟨rfl,rfl,rfl,.inr ⟨r,[],aB,dj,rfl⟩⟩) rfl
  ·cases eB;have az:=vb cj gf gX 0 n (Nat.zero_le _) oN;simp only[Nat.zero_mul,List.drop_zero,Nat.sub_zero]at az;exact main _ _ n (by rw[hlen];exact es) I (by rw[hlen];exact ab) (.inr ⟨r,l,b,_,cur,b8,aB,dj,rfl,rfl,by omega,by rw[hlen];exact Nat.le_refl _,eR,hbk,gf,by rw[hlen];exact az⟩) rfl
 |view r off n =>
  cases off with
  |succ off=>simp only at h;cases h
  |zero =>
   simp only at h;split at h<;>try cases h
   rename_i ez l ax;split at h<;>try cases h
   rename_i mB;subst mB;obtain⟨fI,y,dj,⟨a0,m0,iS,ei,jg,bK,bX,dh,eW,hX,jr,lv⟩,dN⟩:=vF av aD ax dw;have bh:=dh rfl;subst bh;split at h<;>cases h
   ·-- a piece of the same array: in place
    obtain⟨I,G⟩:=ue ag;have G:n+ee.length<=l.length:=G;obtain⟨fT,gW,ys,ex,hcells,gR⟩:=Vn (P:=P) av aD fS uP I;simp only at ex hcells gR;have dz:base≠r:=fun e=>by subst e;rw[fI]at aA;cases aA
    have jo:cO [(r,bQ.arr t (put l n ee)),(base,.arr t [])] mem=cO [(base,.arr t [])] (cO [(r,.arr t (put l n ee))] mem):=by
     funext q
     by_cases bA:q=r
     ·subst bA;rw[fx,fm,eg (Ne.symm dz),fm]
     ·by_cases bb:q=base
      ·subst bb;rw[fx,eg bA,fm,fm]
      ·rw[fx,eg bA,eg bb,eg bb,eg bA]
    have fin:∀(w':World),(Builtin.append_ #[T,cV] o.type #[.slice ei n jg,.slice fT ee.length gW]).run P w=.ok (.slice ei (n+ee.length) jg) w' ->
      Ext O mem w S O (cO [(r,.arr t (put l n ee))] mem) w' S->Inv tab O (cO [(r,.arr t (put l n ee))] mem) w' S ->
      dU P o a w (ec tab O mem w S [(r,.arr t (put l n ee)),(base,.arr t [])] (.one (.view r 0 (n+ee.length)))):=fun w' aw a5 hC=>by
     have gA:cO [(r,bQ.arr t (put l n ee))] mem base=none:=by rw[eg dz];exact aA
     obtain⟨dL,h1⟩:=Am (t:=t) hC gA;refine gV (x:=.slice ei (n+ee.length) jg) (w':=w') (by simp[execOp,aY,resolve,invoke,builtin,bX,ex,aw]) ⟨_,S,by rw[jo];exact a5.trans dL,by rw[jo];exact h1,rfl,?_⟩;have kk:cO [(r,bQ.arr t (put l n ee)),(base,.arr t [])] mem r=some (.arr t (put l n ee)):=by rw[fx,fm]
     refine⟨by rw[kk];exact(fun h=>by cases h),fun ez l' g4=>?_⟩;rw[kk]at g4;cases g4;have zP:m0=l.length:=by
      rcases dN with⟨eB,rfl⟩|⟨b,cap,cur,b8,eB,_⟩
      ·rw[eB]at bK;cases bK;rfl
      ·rw[eB]at bK;cases bK;rfl
     subst zP;refine⟨y,by rw[j5 (Ne.symm dz)];exact dj,ei,l.length,iS,ei,jg,bK,rfl,fun _=>rfl,fun ag=>?_,by omega,by omega,by omega⟩;rcases dN with⟨eB,rfl⟩|⟨b,cap,cur,b8,eB,_⟩
     ·rw[eB]at bK;cases bK;rfl
     ·rw[eB]at bK;cases bK;simp[b6]
    rcases dN with⟨eB,dY⟩|⟨b,cap,cur,b8,eB,hbk,cj,eR,gf,gX⟩
    ·subst dY;simp at G;obtain⟨rfl,Da⟩:=G;have Da:ee=[]:=by simpa using Da
     subst Da;rw[eB]at bK;cases bK;have aO:cO [(r,bQ.arr t (put ([]:List t.den) 0 []))] mem=mem:=by
      funext q
      by_cases eq:q=r
      ·subst eq;rw[fm,fI];rfl
      ·rw[eg eq]
     refine fin w (AM (P:=P) (w:=w) (ty:=o.type) c1.hA h6 c1.info c1.size none 0 jg 0 fT gW ys (gR 0 gW).1 (by omega) rfl) ?_ ?_
     ·rw[aO];exact Ext.refl
     ·rw[aO];exact aD
    ·rw[eB]at bK;cases bK;obtain⟨w',cJ,cE,ey⟩:=DH (P:=P) (off:=n) fI (by rw[dj,eB]) hbk cj eR gf gX hcells G aD;exact fin w' (AM (P:=P) (w:=w) (w':=w') (ty:=o.type) c1.hA h6 c1.info c1.size (some (b6 b 0)) n jg ee.length fT gW ys (gR _ gW).1 (by omega) (by simpa[b6,Addr.add_lit]using cJ)) cE ey
   ·obtain⟨I,G,ab⟩:=ue ag;have oN:n<=l.length:=G;have hlen:(a2 l 0 n).length=n:=by rw[se l 0 n oN];omega
    rcases dN with⟨eB,rfl⟩|⟨b,cap,cur,b8,eB,hbk,cj,eR,gf,gX⟩
    ·have pO:n=0:=by simpa using oN
     subst pO;rw[eB]at bK;cases bK;have sX:jg=0:=by omega
     subst sX;exact main [] none 0 (by simpa using bX) I (by simpa[len]using ab) (.inl ⟨rfl,rfl,rfl,.inr ⟨r,[],fI,by rw[dj,eB],rfl⟩⟩) rfl
    ·rw[eB]at bK;cases bK;have az:=vb cj gf gX 0 n (Nat.zero_le _) oN;simp only[Nat.zero_mul,List.drop_zero,Nat.sub_zero]at az;exact main _ _ jg (by rw[hlen];exact bX) I (by rw[hlen];exact ab) (.inr ⟨r,l,b,_,cur,b8,fI,by rw[dj,eB],rfl,rfl,by omega,by rw[hlen];exact hX,eR,hbk,gf,by rw[hlen];exact az⟩) rfl
 |_=>simp only at h;cases h
end
end bE
end Go.Proofs.YtlbppjmekiemiaaGreatDoor


/- The executor on data: copy, clear. No condition. -/
namespace Go.Proofs.YtlbppjmekiemiaaGreatDoor
namespace bE
section
variable {P:Program} {tab:ci} {O bU:dk} {mem fl:dS} {w w':World} {S S':Nat->Prop}

theorem VC{T e wd:Nat}{ts:Array TypeId}{ty:TypeId}{i:TypeInfo}(nX:ts[0]? = some T)(bH:P.underlying T=some (.slice e))(hi:P.info? e=some i)(fs:i.size=wd)(base:Option Addr)(dl YY:Nat)(fT:Option Addr)(m gW:Nat)
  (ys:List Value) (b1:(Builtin.firstCells wd (Nat.min m dl) (.slice fT m gW)).run P w=.ok ys.toArray w) (fJ:match base with|some a=>(storeCells a ys).run P w=.ok () w' | none=>w'=w) :
  (Builtin.copy_ ts ty #[.slice base dl YY,.slice fT m gW]).run P w=.ok (.int .i64 ((Nat.min m dl:Nat):Int)) w':=by
 subst fs;cases base with
 |none =>
  simp only at fJ;subst fJ;simp[Builtin.copy_,nX,run_underlying bH,sizeOf,typeInfo,hi,Builtin.lenOf,b1,goInt]
 |some a =>
  simp only at fJ;simp[Builtin.copy_,nX,run_underlying bH,sizeOf,typeInfo,hi,Builtin.lenOf,b1,fJ,goInt]

theorem Cells.take{t:z}{m:List t.den}{ys:List Value}(h:Cells tab w S t m ys)(q:Nat)(aI:q<=m.length):Cells tab w S t (a2 m 0 q) (ys.take (q*t.width)):=by
 obtain⟨I,G,ab⟩:=h;have ax:=se m 0 q aI;have hle:q*t.width<=m.length*t.width:=Nat.mul_le_mul_right _ aI;refine⟨by rw[ax];simp;omega,fun u hu=>G u (List.mem_of_mem_take hu),fun i j c hi az=>?_⟩;rw[ax]at hi;rw[Ef m 0 q i t.H (by omega),Nat.zero_add]at az;have k4:j<t.width:=by rw[<- iT t (nth m i t.H)];exact(List.getElem?_eq_some_iff.1 az).1
 obtain⟨y,a1,bf⟩:=ab i j c (by omega) az;have dQ:i*t.width+j<q*t.width:=by
  have:(i+1)*t.width<=q*t.width:=Nat.mul_le_mul_right _ (by omega);rw[Nat.add_mul]at this;omega
 exact⟨y,by rw[List.getElem?_take_of_lt dQ];exact a1,bf⟩

theorem agM{α:Type}(l:List α)(lo:Nat):a2 l lo 0=[]:=by simp[a2]
theorem aez{α:Type}(l:List α)(off:Nat):put l off []=l:=by simp[put]

theorem ad4{o:Oper}{a:Act}{s x:Operand}{T cV:Nat}{aK:c7}{c d:C}{lm:Mem}{p:Option Prop}{v:V}{m:Mem}(bH:fp P tab)(aY:o.op=.call { callee:=.builtin .copy,args:=#[s,x],argTypes:=#[T,cV] })
  (bl:dO tab T=some aK) (aD:Inv tab O mem w S) (av:gi lm mem)
  (dw:ch tab O mem w S (.one c) (a.eval s)) (fS:ch tab O mem w S (.one d) (a.eval x)) (h:Hx aK lm c d=some (p,v,m)) (ag:under p True) :
  dU P o a w (ec tab O mem w S m v):=by
 unfold Hx at h;split at h<;>try cases h
 rename_i n7 t ee uP;split at h<;>try cases h
 rename_i ad;obtain⟨e,i,bg,c1⟩:=jQ bH bl ad;have main:∀(r off n:Nat) (l:List t.den) (dP:Option Addr) (cap:Nat),a.eval s=.slice dP n cap->under n7 True->mem r=some (.arr t l)->off+n<=l.length ->
   ((min n ee.length=0)\/∃b iS cur b8,O r=some (.eu (.slice (some (b6 b 0)) l.length iS))/\dP=some (b6 b (off*t.width))/\l.length<=iS/\iS<=maxLen/\w.heap[b]? = some (.cells cur b8 (0,0))/\iS*t.width<=cur.size /\
     ∀i j c,i<l.length->(t.cells (nth l i t.H))[j]? = some c->∃y,cur[i*t.width+j]? = some y/\y.oneCell'=true/\dC tab w S c y) ->
   dU P o a w (ec tab O mem w S [(r,.arr t (put l off (a2 ee 0 (min n ee.length))))] (.one (.E .int ((min n ee.length:Nat):Int)))):=by
  intro r off n l dP cap es I3 fI hle zI;obtain⟨fT,gW,ys,ex,hcells,gR⟩:=Vo (P:=P) av aD fS uP I3;simp only at ex hcells gR;have uL:Nat.min ee.length n=min n ee.length:=Nat.min_comm _ _;have fin:∀(w':World),(Builtin.copy_ #[T,cV] o.type #[.slice dP n cap,.slice fT ee.length gW]).run P w=.ok (.int .i64 ((Nat.min ee.length n:Nat):Int)) w' ->
    Ext O mem w S O (cO [(r,.arr t (put l off (a2 ee 0 (min n ee.length))))] mem) w' S->Inv tab O (cO [(r,.arr t (put l off (a2 ee 0 (min n ee.length))))] mem) w' S ->
    dU P o a w (ec tab O mem w S [(r,.arr t (put l off (a2 ee 0 (min n ee.length))))] (.one (.E .int ((min n ee.length:Nat):Int)))):=fun w' aw a5 hC =>
   gV (x:=.int .i64 ((Nat.min ee.length n:Nat):Int)) (w':=w') (by simp[execOp,aY,resolve,invoke,builtin,es,ex,aw]) ⟨O,S,a5,hC,by rw[uL];exact oT _⟩
  have b1:=(gR (Nat.min ee.length n) (Nat.min_le_left _ _) ee.length gW).1
  by_cases dR:min n ee.length=0
  ·have dY:put l off (a2 ee 0 (min n ee.length))=l:=by rw[dR,agM,aez]
   have jo:cO [(r,.arr t l)] mem=mem:=by
    funext q
    by_cases eq:q=r
    ·subst eq;rw[fm,fI]
    ·rw[eg eq]
   refine fin w (VC (ts:=#[T,cV]) rfl c1.hA c1.info c1.size dP n cap fT ee.length gW _ b1 ?_) ?_ ?_
   ·have:ys.take (Nat.min ee.length n*t.width)=[]:=by rw[uL,dR];simp
    rw[this];cases dP with
    |none=>rfl
    |some dP=>simp[storeCells]
   ·rw[dY,jo];exact Ext.refl
   ·rw[dY,jo];exact aD
  ·rcases zI with ab2|⟨b,iS,cur,b8,dj,rfl,I,G,aA,ab,aV⟩
   ·exact absurd ab2 dR
   ·have jn:(a2 ee 0 (min n ee.length)).length=min n ee.length:=by rw[se _ _ _ (Nat.min_le_right _ _)];omega
    have az:=hcells.take (min n ee.length) (Nat.min_le_right _ _);obtain⟨w',a1,bf,cj⟩:=DH (P:=P) (off:=off) fI dj aA I G ab aV az (by rw[jn];have:=Nat.min_le_left n ee.length;omega) aD;refine fin w' (VC (ts:=#[T,cV]) rfl c1.hA c1.info c1.size _ n cap fT ee.length gW _ b1 ?_) bf cj;rw[uL];exact a1
 have ue:∀{n7:Option Prop} {q:Prop},under (some (both n7 q)) True->under n7 True/\q:=fun {n7 q} h=>by
  cases n7 with
  |none=>exact⟨trivial,h.1⟩
  |some p=>exact⟨⟨h.1.1,trivial⟩,h.1.2⟩
 cases c with
 |own r =>
  simp only at h;split at h<;>try cases h
  rename_i ez l ax;split at h<;>try cases h
  rename_i mB;subst mB;obtain⟨fI,dj,dN⟩:=tp av aD ax dw;rcases dN with⟨es,rfl⟩|⟨b,cap,cur,b8,es,hbk,cj,eR,gf,gX⟩
  ·exact main r 0 0 [] none 0 es ag fI (by simp) (.inl (by simp))
  ·refine main r 0 l.length l _ cap es ag fI (by omega) (.inr ⟨b,cap,cur,b8,by rw[dj,es],by rw[Nat.zero_mul],cj,eR,hbk,gf,gX⟩)
 |view r off n =>
  simp only at h;split at h<;>try cases h
  rename_i ez l ax;split at h<;>try cases h
  rename_i mB;subst mB;obtain⟨I,G⟩:=ue ag;have oN:off+n<=l.length:=G;obtain⟨fI,y,dj,⟨a0,m0,iS,ei,jg,bK,bX,dh,eW,hX,jr⟩,dN⟩:=vF av aD ax dw;refine main r off n l ei jg bX I fI oN ?_
  by_cases aq:n=0
  ·exact .inl (by rw[aq];simp)
  ·rcases dN with⟨eB,rfl⟩|⟨b,cap,cur,b8,eB,hbk,cj,eR,gf,gX⟩
   ·simp at oN;omega
   ·rw[eB]at bK;cases bK;have bh:=eW (by omega);subst bh;exact .inr ⟨b,_,cur,b8,by rw[dj,eB],by simp[b6],cj,eR,hbk,gf,gX⟩
 |_=>simp only at h;cases h
end
end bE
end Go.Proofs.YtlbppjmekiemiaaGreatDoor


/- The executor on data: clear. No condition. -/
namespace Go.Proofs.YtlbppjmekiemiaaGreatDoor
namespace bE
section
variable {P:Program} {tab:ci} {O bU:dk} {mem fl:dS} {w w':World} {S S':Nat->Prop}

theorem Xz{e:Nat}{i:TypeInfo}{bg:Value}{T oV:Nat}{t:z}(av:tW P tab T t oV e i bg)(b1:t.pY=true)(n:Nat):Cells tab w S t (c6 n t.H) (Builtin.zeroCells bg.cells n).toList:=by
 have fs:(Builtin.zeroCells bg.cells n).size=n*t.width:=by rw[size_zeroCells,av.gN]
 have kk:∀q,q<n*t.width->(Builtin.zeroCells bg.cells n).toList[q]? = bg.cells[q%t.width]?:=fun q aI=>by
  have aB:q%t.width<bg.cells.size:=by rw[av.gN];exact Nat.mod_lt _ av.pos
  have bs:=Array.getElem?_eq_getElem aB;simp[Builtin.zeroCells,av.gN,aI,getElem!_def,bs]
 refine⟨by simp[c6,fs],fun u hu=>?_,fun q j c aI aR=>?_⟩
 ·obtain⟨q,aI,rfl⟩:=List.getElem_of_mem hu;have nT:q<n*t.width:=by rw[<- fs];simpa using aI
  have I:=kk q nT;rw[List.getElem?_eq_getElem aI]at I;have G:(Builtin.zeroCells bg.cells n).toList[q]∈bg.cells.toList:=by
   have:=List.mem_of_getElem? (l:=bg.cells.toList) (i:=q%t.width) (a:=(Builtin.zeroCells bg.cells n).toList[q]) (by rw[I];simp);exact this
  exact List.all_eq_true.1 av.MY _ G
 ·have I4:q<n:=by simpa[c6]using aI
  have aq:nth (c6 n t.H) q t.H=t.H:=by simp[nth,c6,List.getD,I4]
  rw[aq]at aR;obtain⟨y,gm,hy,hM⟩:=av.MX b1 j c aR;have k4:j<t.width:=by rw[<- iT t t.H];exact(List.getElem?_eq_some_iff.1 aR).1
  have dQ:q*t.width+j<n*t.width:=by
   have:(q+1)*t.width<=n*t.width:=Nat.mul_le_mul_right _ (by omega);rw[Nat.add_mul]at this;omega
  refine⟨y,?_,hM _ _⟩;rw[kk _ dQ,show(q*t.width+j)%t.width=j by rw[Nat.add_comm,Nat.add_mul_mod_self_right,Nat.mod_eq_of_lt k4]];simpa using gm

theorem ad0{o:Oper}{a:Act}{s:Operand}{T:Nat}{aK:c7}{c:C}{lm:Mem}{p:Option Prop}{v:V}{m:Mem}(bH:fp P tab)(aY:o.op=.call { callee:=.builtin .clear,args:=#[s],argTypes:=#[T] })
  (bl:dO tab T=some aK) (aD:Inv tab O mem w S) (av:gi lm mem) (dw:ch tab O mem w S (.one c) (a.eval s)) (h:wk aK lm c=some (p,v,m)) (ag:under p True) :
  dU P o a w (ec tab O mem w S m v):=by
 have yi:∀{bU:dk} {fl:dS} {w':World},ch tab bU fl w' S (.an []) (.tuple #[]):=⟨#[],rfl,rfl,fun i v aQ=>by simp at aQ⟩
 cases c with
 |own r =>
  simp only[wk]at h;split at h<;>try cases h
  rename_i t l ax;split at h<;>try cases h
  rename_i ad b1;obtain⟨e,i,bg,c1⟩:=jQ bH bl ad;obtain⟨fI,dj,dN⟩:=tp av aD ax dw;have dR:put l 0 (c6 (len l) t.H)=c6 (len l) t.H:=by simp[put,c6,len]
  have jo:l=[]->cO [(r,.arr t (c6 (len l) t.H))] mem=mem:=fun e=>by
   subst e;funext q
   by_cases eq:q=r
   ·subst eq;rw[fm,fI];rfl
   ·rw[eg eq]
  rcases dN with⟨es,dY⟩|⟨b,cap,cur,b8,es,hbk,cj,eR,gf,gX⟩
  ·refine gV (x:=.tuple #[]) (w':=w) (by simp[execOp,aY,resolve,invoke,builtin,es,Builtin.clear_,run_underlying c1.hA]) ?_;exact⟨O,S,by rw[jo dY];exact Ext.refl,by rw[jo dY];exact aD,yi⟩
  ·by_cases aq:l.length=0
   ·refine gV (x:=.tuple #[]) (w':=w) (by simp[execOp,aY,resolve,invoke,builtin,es,aq,Builtin.clear_,run_underlying c1.hA]) ?_;have dY:=jo (List.length_eq_zero_iff.1 aq);exact⟨O,S,by rw[dY];exact Ext.refl,by rw[dY];exact aD,yi⟩
   ·have az:=Xz (w:=w) (S:=S) c1 b1 l.length;obtain⟨w',cJ,cE,ey⟩:=DH (P:=P) (off:=0) fI (by rw[dj,es]) hbk cj eR gf gX az (by simp[c6]) aD;rw[show put l 0 (c6 l.length t.H)=c6 (len l) t.H from dR]at cE ey;rw[Nat.zero_mul]at cJ;obtain⟨k,jn⟩:∃k,l.length=k+1:=⟨l.length-1,by omega⟩
    have z2:(zeroValue e).run P w=.ok bg w:=by simp[zeroValue,typeInfo,c1.info,c1.zero]
    refine gV (x:=.tuple #[]) (w':=w') ?_ ⟨O,S,cE,ey,yi⟩;rw[jn]at cJ es;simp[execOp,aY,resolve,invoke,builtin,es,Builtin.clear_,run_underlying c1.hA,z2,cJ]
 |nil t =>
  simp only[wk]at h;split at h<;>try cases h
  rename_i ad;obtain⟨e,i,bg,c1⟩:=jQ bH bl ad;have es:a.eval s=.slice none 0 0:=dw.2;refine gV (x:=.tuple #[]) (w':=w) (by simp[execOp,aY,resolve,invoke,builtin,es,Builtin.clear_,run_underlying c1.hA]) (gy aD yi)
 |view r off n =>
  simp only[wk]at h;split at h<;>try cases h
  rename_i t l ax;split at h<;>try cases h
  rename_i ad b1;have hle:off+n<=l.length:=ag.1;obtain⟨e,i,bg,c1⟩:=jQ bH bl ad;obtain⟨fI,y,dj,⟨a0,m0,iS,ei,jg,bK,bX,dh,eW,hX,jr,lv⟩,dN⟩:=vF av aD ax dw
  by_cases aq:n=0
  ·subst aq;have dY:cO [(r,bQ.arr t (put l off (c6 0 t.H)))] mem=mem:=by
    funext q
    by_cases eq:q=r
    ·subst eq;rw[fm,fI];simp[put,c6]
    ·rw[eg eq]
   refine gV (x:=.tuple #[]) (w':=w) (by cases ei<;>simp[execOp,aY,resolve,invoke,builtin,bX,Builtin.clear_,run_underlying c1.hA]) ?_;exact⟨O,S,by rw[dY];exact Ext.refl,by rw[dY];exact aD,yi⟩
  ·rcases dN with⟨eB,dY⟩|⟨b,cap,cur,b8,eB,hbk,cj,eR,gf,gX⟩
   ·subst dY;simp at hle;omega
   ·rw[eB]at bK;cases bK;have bh:=eW (by omega);subst bh;have az:=Xz (w:=w) (S:=S) c1 b1 n;obtain⟨w',cJ,cE,ey⟩:=DH (P:=P) (off:=off) fI (by rw[dj,eB]) hbk cj eR gf gX az (by simpa[c6]using hle) aD;obtain⟨k,jn⟩:∃k,n=k+1:=⟨n-1,by omega⟩
    have z2:(zeroValue e).run P w=.ok bg w:=by simp[zeroValue,typeInfo,c1.info,c1.zero]
    refine gV (x:=.tuple #[]) (w':=w') ?_ ⟨O,S,cE,ey,yi⟩;rw[jn]at cJ bX;simp only[Option.map_some,b6,Nat.zero_add]at bX cJ;simp[execOp,aY,resolve,invoke,builtin,bX,Builtin.clear_,run_underlying c1.hA,z2,cJ]
 |_=>simp only[wk]at h;cases h
end
end bE
end Go.Proofs.YtlbppjmekiemiaaGreatDoor

