/- The executor on data: part 2 of 4. No condition. -/
import Derived.Test.YtlbppjmekiemiabGreatDoorVma
/- The executor on data: stores. No condition. -/
namespace Go.Proofs.YtlbppjmekiemiabGreatDoor
namespace bF
section
variable {P:Program} {tab:cm} {O bU:dp} {mem fl:eb} {w w':World} {S S':Nat->Prop}

theorem MS{T:Nat}{aM:c9}(bI:fs P tab)(bm:dQ tab T=some aM){b o:Nat}{e:TypeId}{cur:Array Value}{x:Value}(ay:w.heap[b]? = some (.cells cur e (0,0)))
  (aq:x.cells.size=aM.n) (aY:o+aM.n<=cur.size) (I:∀u∈x.cells.toList,u.oneCell'=true) :
  (storeVar T (ca b o) x).run P w=.ok () (w.setRow b (cur.toList.take o++x.cells.toList++cur.toList.drop (o+x.cells.toList.length)).toArray):=by
 obtain⟨i,bg,a1,bf,_⟩:=(bI.ok T aM bm).info;have fL:=run_storeCells_at P b o e x.cells.toList 0 cur w ay (by simp;omega) I;simp only[Nat.add_zero]at fL;simp only[storeVar,Sem.run_bind,run_sizeOf a1,Result.andThen_ok,bf,aq];simpa[ca]using fL

theorem aai{x:Value}{n:Nat}{R:Nat->Value->Prop}(aq:x.cells.size=n)(h:∀i,i<n->∃y,x.cells[i]? = some y/\y.oneCell'=true/\R i y):∀u∈x.cells.toList,u.oneCell'=true:=by
 intro u hu;obtain⟨i,hi,rfl⟩:=List.getElem_of_mem hu;obtain⟨y,I,G,_⟩:=h i (by simpa[aq]using hi);have:x.cells.toList[i]=y:=by
  have:=Array.getElem?_eq_some_iff.1 I;obtain⟨_,Y⟩:=this;simpa using Y
 rw[this];exact G

theorem zh(b:Nat)(cs:Array Value):(w.setRow b cs).heap.size=w.heap.size/\(w.setRow b cs).os=w.os/\(w.setRow b cs).tape=w.tape/\(w.setRow b cs).output=w.output :=
 ⟨by simp,rfl,rfl,rfl⟩

theorem KB{α:Type}{l:List α}{n:Nat}(h:l.length=n):∀i,i<n->∃c,l[i]? = some c:=fun _ hi=>⟨_,List.getElem?_eq_getElem (h▸hi)⟩

theorem agJ{o:Oper}{a:Act}{T:Nat}{aM:c9}{x y:Operand}{c:C}{v e1:V}{lm:Mem}{p:Option Prop}{m:Mem}(bI:fs P tab)(aY:o.op=.store T x y)(bm:dQ tab T=some aM)
  (aD:Inv tab O mem w S) (av:gj lm mem) (aG:cl tab O mem w S (.one c) (a.eval x)) (cv:cl tab O mem w S v (a.eval y)) (h:NN tab aM c v lm=some (p,e1,m)) (ad:under p True) :
  ec P o a w (eh tab O mem w S m e1):=by
 unfold NN at h;split at h<;>try cases h
 rename_i cs en;split at h<;>try cases h
 rename_i abY;have hlen:cs.length=aM.n:=Nat.eq_of_beq_eq_true abY;obtain⟨aN,aX⟩:=BL cv en;have vD:∀u∈(a.eval y).cells.toList,u.oneCell'=true:=aai (R:=fun _ _=>True) aN fun _ hi=>by
  obtain⟨c,aA⟩:=KB rfl _ hi;obtain⟨y,a1,bf,_⟩:=aX _ c aA;exact⟨y,a1,bf,trivial⟩
 have cS:∀(i:Nat) c,cs[i]? = some c->∃u,(a.eval y).cells.toList[i]? = some u/\u.oneCell'=true/\fx tab O mem w S c u:=fun i c hi=>by
  obtain⟨u,a1,bf,ck⟩:=aX i c hi;exact⟨u,by simpa using a1,bf,ck⟩
 cases c with
 |ptr r off =>
  simp only at h;split at h<;>try cases h
  rename_i old az;split at h<;>try cases h
  rename_i hle;have mF:=Nat.le_of_ble_eq_true hle;obtain⟨b,vs,e,f1,f2,f3,f4,f5⟩:=BT av aD az aG;have aB:=Ff av az;have g0:=MS bI bm (o:=off) f3 (by rw[aN,hlen]) (by rw[f4];exact mF) vD;generalize hG:(vs.toList.take off++(a.eval y).cells.toList++vs.toList.drop (off+(a.eval y).cells.toList.length)).toArray=eT at g0;obtain⟨cO,cL,eH,gy⟩:=zh (w:=w) b eT;have qB:∀k,k≠b->(w.setRow b eT).heap[k]? = w.heap[k]?:=fun k ae=>setRow_other w b k eT ae
  have a6:=zy (S:=S) (B':=.box (put old off cs)) aB trivial f2 (b:=b) rfl trivial cO qB cL eH gy;refine Fe (w':=w.setRow b eT) (by simp[execOp,aY,Instr.storeAt,Instr.sureAddr,f1,g0]) ⟨O,S,a6,zz aB trivial f2 rfl cO qB a6 aD ⟨eT,e,setRow_heap w b vs eT e (0,0) f3,?_,fun i c hi=>?_⟩,trivial⟩
  ·subst hG;simp[put,aN,f4]<;>omega
  ·have:=EK (R:=fun c u=>u.oneCell'=true/\fx tab O mem w S c u) (old:=old) (cs:=cs) (cur:=vs.toList) (ys:=(a.eval y).cells.toList) (o:=off) (by omega) (by simp[aN]) (by simp[f4];omega)
    (fun i c hi=>by obtain⟨u,a1,bf,ck⟩:=f5 i c hi;exact⟨u,by simpa using a1,bf,ck⟩) cS i c hi
   obtain⟨u,a1,bf,ck⟩:=this;refine⟨u,?_,bf,ck.ext a6 aD⟩;subst hG;simpa using a1
 |kn r i k =>
  simp only at h;split at h<;>try cases h
  rename_i ds ns tP;split at h<;>try cases h
  rename_i J3;split at h<;>try cases h
  rename_i t l az;split at h<;>try cases h
  rename_i hle;split at h<;>try cases h
  rename_i d bH;have mF:=Nat.le_of_ble_eq_true hle;have hi:i<l.length:=ad.1;have nV:r∉ns:=Bj J3;obtain⟨bL,b0,dm⟩:=FC aD av (fun i=>(a.eval y).cells.toList[i]?) cS tP;obtain⟨er,hL⟩:=rJ (ns:=ns) aD;obtain⟨b,cap,cur,e,f1,f2,f3,f4,f5,f6,f7⟩:=MY av aD az aG;have aB:=wv av az;have sz:cW (gY ns) mem r=some (.arr t l):=by
   rcases oQ (mem:=mem) ns r with⟨I,_⟩|⟨_,G⟩
   ·exact absurd I nV
   ·rw[G];exact aB
  have hcap:i*t.width+t.width<=cur.size:=by
   have:(i+1)*t.width<=cap*t.width:=Nat.mul_le_mul_right _ (by omega);rw[Nat.add_mul]at this;omega
  have g0:=MS bI bm (o:=i*t.width+k) f3 (by rw[aN,hlen]) (by omega) vD;generalize hG:(cur.toList.take (i*t.width+k)++(a.eval y).cells.toList++cur.toList.drop (i*t.width+k+(a.eval y).cells.toList.length)).toArray=eT at g0;obtain⟨cO,cL,eH,gy⟩:=zh (w:=w) b eT;have qB:∀k,k≠b->(w.setRow b eT).heap[k]? = w.heap[k]?:=fun k ae=>setRow_other w b k eT ae
  have dO:=zy (S:=ga O mem S ns) (B':=.arr t (setAt l i d)) sz trivial f2 (b:=b) rfl rfl cO qB cL eH gy;have fw:eT.size=cur.size:=by
   subst hG;simp[aN,hlen];omega
  have kE:∀q:Nat,eT[q]? = (cur.toList.take (i*t.width+k)++(a.eval y).cells.toList++cur.toList.drop (i*t.width+k+(a.eval y).cells.toList.length))[q]?:=fun q=>by
   subst hG;simp
  have rE:(a.eval y).cells.toList.length=aM.n:=by simp[aN,hlen]
  have lV:ds.length=aM.n:=by rw[b0,hlen]
  refine Fe (w':=w.setRow b eT) (by simp[execOp,aY,Instr.storeAt,Instr.sureAddr,f1,g0]) ⟨O,ga O mem S ns,?_,?_,trivial⟩
  ·rw[fz];exact er.trans dO
  ·rw[fz];refine zz sz trivial f2 rfl cO qB dO hL (.inr ⟨b,cap,eT,e,by rw[show(setAt l i d).length=l.length from List.length_set],setRow_heap w b cur eT e (0,0) f3,by rw[show(setAt l i d).length=l.length from List.length_set];exact f4,f5,by rw[fw];exact f6,fun j q fN aT aH=>?_⟩);have iK:j<l.length:=by simpa[setAt]using aT
   have mono:∀{zX:C} {u:Value},dE tab w (ga O mem S ns) zX u->dE tab (w.setRow b eT) (ga O mem S ns) zX u:=fun h=>h.mono (fun _ h=>h) (dO.keeps hL)
   by_cases Sb:j=i
   ·subst Sb;have aq:nth (setAt l j d) j t.H=d:=by simp[nth,setAt,iK]
    rw[aq,Ew bH]at aH;have jm:(put (t.cells (nth l j t.H)) k ds).length=t.width:=by
     have:=jj t (nth l j t.H);simp[put,this,lV];omega
    have D6:q<t.width:=by rw[<- jm];exact(List.getElem?_eq_some_iff.1 aH).1
    have:=EK (R:=fun c u=>u.oneCell'=true/\dE tab w (ga O mem S ns) c u) (old:=t.cells (nth l j t.H)) (cs:=ds) (cur:=(cur.toList.drop (j*t.width)).take t.width) (ys:=(a.eval y).cells.toList) (o:=k)
     (by rw[jj];omega) (by rw[rE,lV]) (by simp;omega)
     (fun q c aH=>by
      have D6:q<t.width:=by rw[<- jj t (nth l j t.H)];exact(List.getElem?_eq_some_iff.1 aH).1
      obtain⟨u,a1,bf,ck⟩:=f7 j q c iK aH;refine⟨u,?_,bf,sM ck⟩;rw[List.getElem?_take_of_lt D6,List.getElem?_drop];simpa using a1)
     (fun q c aH=>by
      obtain⟨u,a1,bf,ck⟩:=dm q c aH;exact⟨u,a1,bf,ck⟩) q fN aH
    obtain⟨u,a1,bf,ck⟩:=this;refine⟨u,?_,bf,mono ck⟩;rw[kE,<- a1]
    by_cases bp:q<k
    ·rw[List.append_assoc,List.append_assoc,List.getElem?_append_left (by simp;omega),List.getElem?_append_left (by simp;omega),List.getElem?_take_of_lt (by omega),List.getElem?_take_of_lt bp,List.getElem?_take_of_lt D6,List.getElem?_drop]
    ·by_cases bc:q<k+aM.n
     ·rw[List.append_assoc,List.append_assoc,List.getElem?_append_right (by simp;omega),List.getElem?_append_left (by simp;omega),List.getElem?_append_right (by simp;omega),List.getElem?_append_left (by simp;omega)];congr 1;simp;omega
     ·rw[List.getElem?_append_right (by simp;omega),List.getElem?_append_right (by simp;omega),List.getElem?_drop,List.getElem?_drop,List.getElem?_take_of_lt (by simp;omega),List.getElem?_drop];congr 1;simp;omega
   ·have aq:nth (setAt l i d) j t.H=nth l j t.H:=by
     simp[nth,setAt,List.getD,Ne.symm Sb]
    rw[aq]at aH;obtain⟨u,a1,bf,ck⟩:=f7 j q fN iK aH;refine⟨u,?_,bf,mono (sM ck)⟩;have D6:q<t.width:=by rw[<- jj t (nth l j t.H)];exact(List.getElem?_eq_some_iff.1 aH).1
    rw[kE]
    by_cases bp:j<i
    ·have:(j+1)*t.width<=i*t.width:=Nat.mul_le_mul_right _ (by omega);rw[Nat.add_mul]at this;rw[List.append_assoc,List.getElem?_append_left (by simp;omega),List.getElem?_take_of_lt (by omega)];simpa using a1
    ·have:(i+1)*t.width<=j*t.width:=Nat.mul_le_mul_right _ (by omega);rw[Nat.add_mul]at this;rw[List.getElem?_append_right (by simp;omega),List.getElem?_drop];have:i*t.width+k+(a.eval y).cells.toList.length+(j*t.width+q-(cur.toList.take (i*t.width+k)++(a.eval y).cells.toList).length)=j*t.width+q:=by
      simp;omega
     rw[this];simpa using a1
 |lc r k =>
  simp only at h;split at h<;>try cases h
  rename_i t l old az;split at h<;>try cases h
  rename_i hle;have mF:=Nat.le_of_ble_eq_true hle;obtain⟨b,cap,cur,e,f1,f2,f3,f4,f5,f6,f7,f8⟩:=CD av aD az aG;have aB:=Xu av az;have anh:k+aM.n<=t.width:=by
   by_cases gX:old.length=0
   ·omega
   ·have aT:old.length-1<old.length:=by omega
    have:=(f8 (old.length-1) _ (List.getElem?_eq_getElem aT)).1;omega
  have hcap:l.length*t.width+t.width<=cur.size:=by
   have:(l.length+1)*t.width<=cap*t.width:=Nat.mul_le_mul_right _ (by omega);rw[Nat.add_mul]at this;omega
  have g0:=MS bI bm (o:=l.length*t.width+k) f3 (by rw[aN,hlen]) (by omega) vD;generalize hG:(cur.toList.take (l.length*t.width+k)++(a.eval y).cells.toList++cur.toList.drop (l.length*t.width+k+(a.eval y).cells.toList.length)).toArray=eT at g0;obtain⟨cO,cL,eH,gy⟩:=zh (w:=w) b eT;have qB:∀k,k≠b->(w.setRow b eT).heap[k]? = w.heap[k]?:=fun k ae=>setRow_other w b k eT ae
  have a6:=zy (S:=S) (B':=.eE t l (put old k cs)) aB trivial f2 (b:=b) rfl ⟨rfl,rfl⟩ cO qB cL eH gy;have rE:(a.eval y).cells.toList.length=aM.n:=by simp[aN,hlen]
  have fw:eT.size=cur.size:=by
   subst hG;simp[aN,hlen];omega
  refine Fe (w':=w.setRow b eT) (by simp[execOp,aY,Instr.storeAt,Instr.sureAddr,f1,g0]) ⟨O,S,a6,zz aB trivial f2 rfl cO qB a6 aD ⟨b,cap,eT,e,rfl,setRow_heap w b cur eT e (0,0) f3,f4,f5,by rw[fw];exact f6,fun i j c hi aT=>?_,fun j c aT=>?_⟩,trivial⟩
  ·obtain⟨u,a1,bf,ck⟩:=f7 i j c hi aT;have lE:j<t.width:=by rw[<- jj t (nth l i t.H)];exact(List.getElem?_eq_some_iff.1 aT).1
   have acE:(i+1)*t.width<=l.length*t.width:=Nat.mul_le_mul_right _ (by omega);rw[Nat.add_mul]at acE;refine⟨u,?_,bf,ck.mono a6.sub (a6.keeps aD)⟩;subst hG;rw[List.getElem?_toArray,List.append_assoc,List.getElem?_append_left (by simp;omega),List.getElem?_take_of_lt (by omega)];simpa using a1
  ·have jm:(put old k cs).length=old.length:=by simp[put];omega
   have iK:j<old.length:=by rw[<- jm];exact(List.getElem?_eq_some_iff.1 aT).1
   have lE:j<t.width:=(f8 j _ (List.getElem?_eq_getElem iK)).1;refine⟨lE,?_⟩;have:=EK (R:=fun c u=>u.oneCell'=true/\fx tab O mem w S c u) (old:=old) (cs:=cs) (cur:=cur.toList.drop (l.length*t.width)) (ys:=(a.eval y).cells.toList) (o:=k) (by omega) (by simp[aN]) (by simp;omega)
    (fun i c hi=>by obtain⟨_,u,a1,bf,ck⟩:=f8 i c hi;exact⟨u,by rw[List.getElem?_drop];simpa using a1,bf,ck⟩) cS j c aT
   obtain⟨u,a1,bf,ck⟩:=this;refine⟨u,?_,bf,ck.ext a6 aD⟩;rw[<- a1];subst hG;rw[List.getElem?_toArray,<- List.getElem?_drop];congr 1;rw[List.append_assoc,List.drop_append_of_le_length (by simp;omega),List.drop_take,show l.length*t.width+k-l.length*t.width=k by omega,List.drop_drop,List.append_assoc];congr 3;omega
 |_=>cases h
end
end bF
end Go.Proofs.YtlbppjmekiemiabGreatDoor


/- The executor on data: addresses, lengths, pieces, small ones. No condition. -/
namespace Go.Proofs.YtlbppjmekiemiabGreatDoor
namespace bF
section
variable {P:Program} {tab:cm} {O bU:dp} {mem fl:eb} {w w':World} {S S':Nat->Prop}

theorem EE{o:Oper}{a:Act}{x:Operand}{c:C}(aY:o.op=.nilCheck x)(aD:Inv tab O mem w S)(aG:cl tab O mem w S (.one c) (a.eval x))(ad:∃dT,a.eval x=.pointer (some dT)) :
  ec P o a w (eh tab O mem w S [] (.one c)):=by
 obtain⟨dT,e⟩:=ad;exact g3 (x:=a.eval x) (w':=w) (by simp[execOp,aY,e]) (gA aD aG)

theorem agG{o:Oper}{a:Act}{x:Operand}{f:Nat}{cs:List Nat}(aY:o.op=.nilCheck x)(aD:Inv tab O mem w S)(aG:cl tab O mem w S (.one (.fn f cs)) (a.eval x)) :
  ec P o a w (eh tab O mem w S [] (.one (.fn f cs))):=by
 have A5:=aG;obtain⟨_,_,vs,e,_⟩:=A5;exact g3 (x:=a.eval x) (w':=w) (by simp[execOp,aY,e]) (gA aD aG)

theorem agH{o:Oper}{a:Act}{x:Operand}{t:TypeId}{b:Bool}(aY:o.op=.unOp .not t x)(aD:Inv tab O mem w S)(aG:cl tab O mem w S (.one (.E .bool b)) (a.eval x)) :
  ec P o a w (eh tab O mem w S [] (.one (.E .bool (!b)))):=by
 have e:=sU aG;exact g3 (x:=.bool (!b)) (w':=w) (by simp[execOp,aY,e,Op.unary]) (gA aD (n1 _))

theorem agF{o:Oper}{a:Act}{x:Operand}{t:TypeId}{n:Int}(aY:o.op=.unOp .neg t x)(aD:Inv tab O mem w S)(aG:cl tab O mem w S (.one (.E .int n)) (a.eval x)) :
  ec P o a w (eh tab O mem w S [] (.one (.E .int (U (-n))))):=by
 have e:=lL aG;exact g3 (x:=.int .i64 (U (-n))) (w':=w) (by simp[execOp,aY,e,Op.unary,Op.intArith,U]) (gA aD (pL _))

theorem FF{T:Nat}{aM:c9}(bI:fs P tab)(bm:dQ tab T=some aM)(ae:aM.isInt=true):P.underlying T=some (.int .i64):=by
 have:=(bI.ok T aM bm).kind;unfold c9.isInt at ae;cases h7:aM.hy<;>rw[h7]at ae this<;>first|exact this|cases ae
theorem alM{T:Nat}{aM:c9}(bI:fs P tab)(bm:dQ tab T=some aM)(ae:aM.isBool=true):P.underlying T=some .bool:=by
 have:=(bI.ok T aM bm).kind;unfold c9.isBool at ae;cases h7:aM.hy<;>rw[h7]at ae this<;>first|exact this|cases ae
theorem alN{T:Nat}{aM:c9}(bI:fs P tab)(bm:dQ tab T=some aM)(ae:aM.isStr=true):P.underlying T=some .string:=by
 have:=(bI.ok T aM bm).kind;unfold c9.isStr at ae;cases h7:aM.hy<;>rw[h7]at ae this<;>first|exact this|cases ae

structure uV(P:Program)(tab:cm)(T:Nat)(t:z)(pN:Nat)(e:Nat)(i:TypeInfo)(bg:Value):Prop where
 hJ:P.underlying T=some (.slice e)
 info:P.info? e=some i
 size:i.size=t.width
 bytes:i.bytes=pN
 zero:i.zero=some bg
 gW:bg.cells.size=t.width
 pos:0<t.width
 CG:0<pN
 N7:bg.cells.toList.all Value.oneCell'=true
 N6:t.qL=true->OQ tab t bg.cells.toList

theorem j5{T:Nat}{aM:c9}{t:z}(bI:fs P tab)(bm:dQ tab T=some aM)(ae:aM.isSlice t=true):∃e i bg,uV P tab T t aM.bytes e i bg:=by
 have:=(bI.ok T aM bm).kind;unfold c9.isSlice at ae;cases h7:aM.hy with
 |slice u e =>
  rw[h7]at ae this;simp only[decide_eq_true_eq]at ae;subst ae;obtain⟨I,i,bg,G,Y,aS,bj,bK,c4,dJ,hd,lS⟩:=this;exact⟨e,i,bg,I,G,Y,aS,bj,bK,c4,dJ,hd,lS⟩
 |_=>rw[h7]at ae;cases ae

theorem agq{o:Oper}{a:Act}{x:Operand}{s d:TypeId}{n:Int}{aM jJ:c9}(bI:fs P tab)(aY:o.op=.convert s d x)(av:dQ tab s=some jJ)(aT:jJ.isInt=true)(bm:dQ tab d=some aM)(ae:aM.isInt=true)
  (aD:Inv tab O mem w S) (aG:cl tab O mem w S (.one (.E .int n)) (a.eval x)) :
  ec P o a w (eh tab O mem w S [] (.one (.E .int (U n)))):=by
 have e:=lL aG;refine g3 (x:=.int .i64 (U n)) (w':=w) ?_ (gA aD (pL _));simp only[execOp,aY,convert,Sem.run_bind,run_underlying (FF bI av aT),run_underlying (FF bI bm ae),Result.andThen_ok,e];simp[Conv.intToInt,U]

theorem Y8{T:Nat}{aM:c9}(bI:fs P tab)(bm:dQ tab T=some aM)(ae:aM.xL=true):P.underlying T=some (.int .u64):=by
 have:=(bI.ok T aM bm).kind;unfold c9.xL at ae;cases h7:aM.hy<;>rw[h7]at ae this<;>first|exact this|cases ae

theorem agp{o:Oper}{a:Act}{x:Operand}{s d:TypeId}{n:Int}{aM jJ:c9}(bI:fs P tab)(aY:o.op=.convert s d x)(av:dQ tab s=some jJ)(aT:jJ.isInt=true)(bm:dQ tab d=some aM)(ae:aM.xL=true)
  (aD:Inv tab O mem w S) (aG:cl tab O mem w S (.one (.E .int n)) (a.eval x)) :
  ec P o a w (eh tab O mem w S [] (.one (.E .u64 (pX n)))):=by
 have e:=lL aG;refine g3 (x:=.int .u64 (pX n)) (w':=w) ?_ (gA aD (Et _));simp only[execOp,aY,convert,Sem.run_bind,run_underlying (FF bI av aT),run_underlying (Y8 bI bm ae),Result.andThen_ok,e];simp[Conv.intToInt,pX]

theorem ago{o:Oper}{a:Act}{x:Operand}{s d:TypeId}{n:Int}{aM jJ:c9}(bI:fs P tab)(aY:o.op=.convert s d x)(av:dQ tab s=some jJ)(aT:jJ.xL=true)(bm:dQ tab d=some aM)(ae:aM.isInt=true)
  (aD:Inv tab O mem w S) (aG:cl tab O mem w S (.one (.E .u64 n)) (a.eval x)) :
  ec P o a w (eh tab O mem w S [] (.one (.E .int (U n)))):=by
 have e:=BM aG;refine g3 (x:=.int .i64 (U n)) (w':=w) ?_ (gA aD (pL _));simp only[execOp,aY,convert,Sem.run_bind,run_underlying (Y8 bI av aT),run_underlying (FF bI bm ae),Result.andThen_ok,e];simp[Conv.intToInt,U]

theorem ags{o:Oper}{a:Act}{x:Operand}{i:Nat}{us:List V}{v:V}(aY:o.op=.extract x i)(aD:Inv tab O mem w S)(aG:cl tab O mem w S (.ao us) (a.eval x))(aR:us[i]? = some v) :
  ec P o a w (eh tab O mem w S [] v):=by
 obtain⟨xs,e,I,G⟩:=aG;obtain⟨y,a1,bf⟩:=G i v aR;refine g3 (x:=y) (w':=w) (by simp[execOp,aY,Instr.extract,e,a1]) (gA aD ?_);cases v with
 |one c=>cases c<;>first|trivial|exact bf
 |agg cs=>exact bf
 |ao vs=>exact bf.elim

theorem agE{o:Oper}{a:Act}{x y:Operand}{ts:Array TypeId}{n m:Int}(aY:o.op=.call { callee:=.builtin .min,args:=#[x,y],argTypes:=ts })(aD:Inv tab O mem w S)
  (aG:cl tab O mem w S (.one (.E .int n)) (a.eval x)) (cv:cl tab O mem w S (.one (.E .int m)) (a.eval y)) :
  ec P o a w (eh tab O mem w S [] (.one (.E .int (min n m)))):=by
 have aN:=lL aG;have aX:=lL cv;refine g3 (x:=.int .i64 (min n m)) (w':=w) ?_ (gA aD (pL _));simp[execOp,aY,resolve,invoke,builtin,aN,aX,Builtin.min_,Builtin.min2];omega

theorem agD{o:Oper}{a:Act}{x y:Operand}{ts:Array TypeId}{n m:Int}(aY:o.op=.call { callee:=.builtin .max,args:=#[x,y],argTypes:=ts })(aD:Inv tab O mem w S)
  (aG:cl tab O mem w S (.one (.E .int n)) (a.eval x)) (cv:cl tab O mem w S (.one (.E .int m)) (a.eval y)) :
  ec P o a w (eh tab O mem w S [] (.one (.E .int (max n m)))):=by
 have aN:=lL aG;have aX:=lL cv;refine g3 (x:=.int .i64 (max n m)) (w':=w) ?_ (gA aD (pL _));simp[execOp,aY,resolve,invoke,builtin,aN,aX,Builtin.max_,Builtin.max2];omega

theorem agN:∀{c7:List Field} {ps:List (Nat×Nat)},c7.mapM (fun f=>(P.info? f.type).map fun i=>(f.offset,i.size))=some ps ->
  c7.length=ps.length/\∀(j:Nat) q,ps[j]? = some q->∃f i,c7[j]? = some f/\P.info? f.type=some i/\f.offset=q.1/\i.size=q.2:=by
 intro c7
 induction c7 with
 |nil=>intro ps h;simp at h;subst h;exact⟨rfl,fun j q aT=>by simp at aT⟩
 |cons f c7 de =>
  intro ps h;simp only[List.mapM_cons,Option.bind_eq_bind,Option.pure_def]at h;cases hi:P.info? f.type with
  |none=>simp[hi]at h
  |some i =>
   cases aw:c7.mapM (fun f=>(P.info? f.type).map fun i=>(f.offset,i.size))with
   |none=>simp[hi,aw]at h
   |some rest =>
    simp[hi,aw]at h;subst h;obtain⟨e,eu⟩:=de aw;refine⟨by simp[e],fun j q aT=>?_⟩;cases j with
    |zero=>simp at aT;subst aT;exact⟨f,i,rfl,hi,rfl,rfl⟩
    |succ j=>simp at aT;simpa using eu j q aT

theorem ED{o:Oper}{a:Act}{x:Operand}{T f off:Nat}{aM:c9}{c d:C}(bI:fs P tab)(aY:o.op=.fieldAddr T x f)(bm:dQ tab T=some aM)(ae:aM.Kt=true)(b6:aM.kM[f]? = some off)
  (aD:Inv tab O mem w S) (aG:cl tab O mem w S (.one c) (a.eval x))
  (bH:(∃r k,c=.ptr r k/\d=.ptr r (k+off))\/(∃r i k,c=.kn r i k/\d=.kn r i (k+off))\/(∃e l i k,c=.mw e l i k/\d=.mw e l i (k+off))\/(∃r k,c=.lc r k/\d=.lc r (k+off)))
  (ad:∃b k,a.eval x=.pointer (some (ca b k))) :
  ec P o a w (eh tab O mem w S [] (.one d)):=by
 obtain⟨b,k,e⟩:=ad;have ef:=(bI.ok T aM bm).kind;unfold c9.Kt at ae;cases h7:aM.hy with
 |struct =>
  rw[h7]at ef;obtain⟨c7,I,G,Y,aS⟩:=ef;have dX:f<aM.kM.length:=(List.getElem?_eq_some_iff.1 b6).1;obtain⟨_,jm⟩:=agN G;have qx:f<aM.jI.length:=by omega
  obtain⟨Aq,i,cO,a1,J7,bf⟩:=jm f (off,aM.jI[f]) (by
   rw[List.getElem?_zip_eq_some];exact⟨b6,List.getElem?_eq_getElem qx⟩)
  have ck:aM.jI[f]≠0:=by
   have:=List.all_eq_true.1 aS aM.jI[f] (List.getElem_mem qx);have:=Nat.le_of_ble_eq_true this;omega
  have agX:c7[f]? = some Aq:=by simpa using cO
  refine g3 (x:=.pointer (some (ca b (k+off)))) (w':=w) ?_ (gA aD ?_)
  ·have fw:i.size≠0:=by rw[bf];exact ck
   simp only[execOp,aY,Instr.fieldAt,Sem.run_bind,run_underlying I,Result.andThen_ok];simp only at J7;simp[agX,e,Instr.sureAddr,fieldPlace,run_sizeOf a1,fw,J7,ca,Addr.add_lit]
  ·obtain⟨_,aG⟩:(a.eval x).oneCell'=true/\fx tab O mem w S c (a.eval x):=by
    rcases bH with⟨r,fb,rfl,rfl⟩|⟨r,Kq,fb,rfl,rfl⟩|⟨cd,l,Kq,fb,rfl,rfl⟩|⟨r,fb,rfl,rfl⟩<;>exact aG
   rcases bH with⟨r,fb,rfl,rfl⟩|⟨r,Kq,fb,rfl,rfl⟩|⟨cd,l,Kq,fb,rfl,rfl⟩|⟨r,fb,rfl,rfl⟩
   ·refine⟨rfl,aG.1,fun cs en=>?_⟩;obtain⟨ft,cO,cL⟩:=aG.2 cs en;rw[e]at cL;cases cL;exact⟨b,cO,rfl⟩
   ·refine⟨rfl,aG.1,fun t l az=>?_⟩;obtain⟨ft,m,cap,cO,cL⟩:=aG.2 t l az;rw[e]at cL;cases cL;exact⟨b,m,cap,cO,by rw[Nat.add_assoc]⟩
   ·obtain⟨ft,o',cO,cL⟩:=aG;rw[e]at cL;cases cL;exact⟨rfl,b,o',cO,by rw[Nat.add_assoc]⟩
   ·refine⟨rfl,aG.1,fun t l cs az=>?_⟩;obtain⟨ft,m,cap,cO,cL⟩:=aG.2 t l cs az;rw[e]at cL;cases cL;exact⟨b,m,cap,cO,by rw[Nat.add_assoc]⟩
 |_=>rw[h7]at ae;cases ae
end
end bF
end Go.Proofs.YtlbppjmekiemiabGreatDoor


/- The executor on data: indexes, pieces, lengths. No condition. -/
namespace Go.Proofs.YtlbppjmekiemiabGreatDoor
namespace bF
section
variable {P:Program} {tab:cm} {O bU:dp} {mem fl:eb} {w w':World} {S S':Nat->Prop}

theorem Fa{T:Nat}{t:z}{pN e:Nat}{i:TypeInfo}{bg:Value}(av:uV P tab T t pN e i bg)(dT:Addr)(n cap:Nat)(j:Int)(a2:0<=j)(I:j<(n:Nat)) :
  (Instr.indexAt T (.slice (some dT) n cap) (.int .i64 j)).run P w=.ok (.pointer (some (dT.add (j.toNat*t.width)))) w:=by
 simp[Instr.indexAt,asIntOf,run_underlying av.hJ,run_sizeOf av.info,av.size,a2,I]

theorem lN{o:Oper}{a:Act}{x:Value}{R:Value->World->Prop}{s:Sem Value}(bv:execOp a.eval o=(do pure (.value (<- s))))(h:s.run P w=.ok x w')(g7:R x w'):ec P o a w R :=
 g3 (by rw[bv,Sem.run_bind,h];rfl) g7

theorem air{t:z}{l:List t.den}{x:Value}(h:dE tab w S (.E (.list t) l) x)(az:l≠[]) :
  ∃b off cap,x=.slice (some (ca b off)) l.length cap/\l.length<=cap/\∀i,i<l.length->zI tab w S t (nth l i t.H) b (off+i*t.width):=by
 cases h with
 |empty=>exact absurd rfl az
 |list t l b off cap cs dw hcap aA aw=>exact⟨b,off,cap,rfl,hcap,fun i hi=>⟨dw,cs i,fun j aT=>aA i j hi aT,fun j c aT=>aw i j c hi aT⟩⟩

theorem W9{t:z}{l:List t.den}{x:Value}(h:dE tab w S (.E (.list t) l) x):∃a cap,x=.slice a l.length cap/\l.length<=cap:=by
 cases h with
 |empty t a cap=>exact⟨a,cap,rfl,by simp⟩
 |list t l b off cap cs dw hcap aA aw=>exact⟨_,cap,rfl,hcap⟩

theorem uo{lm:Mem}{r:Nat}{t:z}{l:List t.den}{x:Value}(av:gj lm mem)(aD:Inv tab O mem w S)(h:look lm r=some (.arr t l))(aG:cl tab O mem w S (.one (.own r)) x) :
  mem r=some (.arr t l)/\O r=some (.ez x)/\((x=.slice none 0 0/\l=[]) \/
   ∃(b cap:Nat) (cur:Array Value) (e:TypeId),x=.slice (some (ca b 0)) l.length cap/\w.heap[b]? = some (.cells cur e (0,0))/\l.length<=cap/\cap<=maxLen/\cap*t.width<=cur.size /\
    ∀i j c,i<l.length->(t.cells (nth l i t.H))[j]? = some c->∃y,cur[i*t.width+j]? = some y/\y.oneCell'=true/\dE tab w S c y):=by
 have aB:=wv av h;obtain⟨_,_,ad⟩:=aG;have dn:=ad t l aB;obtain⟨l',aN,dP⟩:=aD.rel r _ aB trivial;rw[dn]at aN;cases aN;exact⟨aB,dn,dP⟩

theorem wG{lm:Mem}{r off n:Nat}{t:z}{l:List t.den}{x:Value}(av:gj lm mem)(aD:Inv tab O mem w S)(h:look lm r=some (.arr t l))(aG:cl tab O mem w S (.one (.view r off n)) x) :
  mem r=some (.arr t l)/\∃y,O r=some (.ez y)/\O2 t.width off n y x/\((y=.slice none 0 0/\l=[]) \/
   ∃(b cap:Nat) (cur:Array Value) (e:TypeId),y=.slice (some (ca b 0)) l.length cap/\w.heap[b]? = some (.cells cur e (0,0))/\l.length<=cap/\cap<=maxLen/\cap*t.width<=cur.size /\
    ∀i j c,i<l.length->(t.cells (nth l i t.H))[j]? = some c->∃y,cur[i*t.width+j]? = some y/\y.oneCell'=true/\dE tab w S c y):=by
 have aB:=wv av h;obtain⟨_,_,ad⟩:=aG;obtain⟨y,dn,aR⟩:=ad t l aB;obtain⟨l',aN,dP⟩:=aD.rel r _ aB trivial;rw[dn]at aN;cases aN;exact⟨aB,y,dn,aR,dP⟩

theorem agv{o:Oper}{a:Act}{x y:Operand}{T:Nat}{aM:c9}{c:C}{j:Int}{lm:Mem}{p:Option Prop}{v:V}{m:Mem}(bI:fs P tab)(aY:o.op=.indexAddr T x y)(bm:dQ tab T=some aM)
  (aD:Inv tab O mem w S) (av:gj lm mem) (aG:cl tab O mem w S (.one c) (a.eval x)) (cv:cl tab O mem w S (.one (.E .int j)) (a.eval y)) (h:rF aM lm c j=some (p,v,m)) (ad:under p True) :
  ec P o a w (eh tab O mem w S m v):=by
 have eK:=lL cv;cases c with
 |E eI d =>
  cases eI with
  |list t =>
   simp only[rF]at h;split at h<;>try cases h
   rename_i ae;obtain⟨a2,I⟩:0<=j/\j<(((d:List t.den).length:Nat):Int):=ad.1;obtain⟨e,i,bg,c0⟩:=j5 bI bm ae;have dj:(d:List t.den)≠[]:=fun e=>by subst e;simp at I;omega
   obtain⟨b,off,cap,ex,hcap,JO⟩:=air aG.2 dj;refine lN (x:=.pointer (some (ca b (off+j.toNat*t.width)))) (w':=w) (s:=Instr.indexAt T (a.eval x) (a.eval y)) (by simp only[execOp,aY]) ?_ (gA aD ⟨rfl,b,off+j.toNat*t.width,JO _ (by omega),by simp⟩);rw[ex,eK,Fa c0 _ _ _ j a2 I,ca,Addr.add_lit];rfl
  |_=>simp only[rF]at h;cases h
 |own r =>
  simp only[rF]at h;split at h<;>try cases h
  rename_i t l az;split at h<;>try cases h
  rename_i ae;obtain⟨a2,I⟩:0<=j/\j<((l.length:Nat):Int):=ad.1;obtain⟨e,i,bg,c0⟩:=j5 bI bm ae;obtain⟨aB,dn,dP⟩:=uo av aD az aG;rcases dP with⟨_,rfl⟩|⟨b,cap,cur,cd,ex,ay,Y,aS,bj,bK⟩
  ·simp at I;omega
  ·refine lN (x:=.pointer (some (ca b (j.toNat*t.width)))) (w':=w) (s:=Instr.indexAt T (a.eval x) (a.eval y)) (by simp only[execOp,aY]) ?_ (gA aD ⟨rfl,by rw[aB];exact(fun h=>by cases h),fun eI l' hf=>?_⟩)
   ·rw[ex,eK,Fa c0 _ _ _ j a2 I,ca,Addr.add_lit,Nat.zero_add];rfl
   ·rw[aB]at hf;cases hf;exact⟨b,l.length,cap,by rw[dn,ex],by simp⟩
 |view r off n =>
  simp only[rF]at h;split at h<;>try cases h
  rename_i t l az;split at h<;>try cases h
  rename_i ae;obtain⟨a2,I,G⟩:0<=j/\j<((n:Nat):Int)/\off+n<=l.length:=ad.1;obtain⟨e,i,bg,c0⟩:=j5 bI bm ae;obtain⟨aB,s5,dn,aR,dP⟩:=wG av aD az aG;rcases dP with⟨_,rfl⟩|⟨b,cap,cur,cd,ex,ay,Y,aS,bj,bK⟩
  ·simp at G;omega
  ·obtain⟨a0,m0,ji,dI,jw,a1,bf,ck,eP,gg,g6⟩:=aR;rw[ex]at a1;cases a1;have aq:0<n:=by omega
   have:=eP aq;subst this;refine lN (x:=.pointer (some (ca b ((off+j.toNat)*t.width)))) (w':=w) (s:=Instr.indexAt T (a.eval x) (a.eval y)) (by simp only[execOp,aY]) ?_ (gA aD ⟨rfl,by rw[aB];exact(fun h=>by cases h),fun eI l' hf=>?_⟩)
   ·rw[bf,eK,Option.map_some,Fa c0 _ _ _ j a2 I];simp only[ca,Addr.add_lit,Nat.zero_add,Nat.add_mul]
   ·rw[aB]at hf;cases hf;exact⟨b,l.length,cap,by rw[dn,ex],by simp⟩
 |iv r =>
  simp only[rF]at h;split at h<;>try cases h
  rename_i t l cs az;split at h<;>try cases h
  rename_i ae;have I:j=((l.length:Nat):Int):=ad.1;obtain⟨e,i,bg,c0⟩:=j5 bI bm ae;obtain⟨aB,b,cap,cur,cd,ex,dn,_⟩:=zQ av aD az aG;refine lN (x:=.pointer (some (ca b (j.toNat*t.width)))) (w':=w) (s:=Instr.indexAt T (a.eval x) (a.eval y)) (by simp only[execOp,aY]) ?_ (gA aD ⟨rfl,by rw[aB];exact(fun h=>by cases h),fun eI l' eO hf=>?_⟩)
  ·rw[ex,eK,Fa c0 _ _ _ j (by omega) (by omega),ca,Addr.add_lit,Nat.zero_add];rfl
  ·rw[aB]at hf;cases hf;exact⟨b,l.length+1,cap,by rw[dn,ex],by simp[I]⟩
 |nil t =>
  simp only[rF]at h;cases h;exact ad.1.elim
 |ptr r off =>
  simp only[rF]at h;split at h<;>try cases h
  rename_i n nw cs h7 az;obtain⟨a2,I⟩:0<=j/\j<((n:Nat):Int):=ad.1;have ef:=(bI.ok T aM bm).kind;rw[h7]at ef;obtain⟨e,i,bL,b0,dm,e3,_⟩:=ef;obtain⟨b,vs,cd,ex,dn,_⟩:=BT av aD az aG;have aB:=Ff av az;refine g3 (x:=.pointer (some (ca b (off+j.toNat*nw)))) (w':=w) ?_ (gA aD ⟨rfl,by rw[aB];exact(fun h=>by cases h),fun eO en=>⟨b,dn,rfl⟩⟩);simp only[execOp,aY,Sem.run_bind,ex,eK,Instr.indexAt,asIntOf,run_underlying bL,Result.andThen_ok];simp[Instr.sureAddr,a2,I,run_sizeOf b0,dm,ca,Addr.add_lit]
 |_=>simp only[rF]at h;cases h
end
end bF
end Go.Proofs.YtlbppjmekiemiabGreatDoor


/- The executor on data: pieces, lengths, sums. No condition. -/
namespace Go.Proofs.YtlbppjmekiemiabGreatDoor
namespace bF
section
variable {P:Program} {tab:cm} {O bU:dp} {mem fl:eb} {w w':World} {S S':Nat->Prop}

theorem agw{o:Oper}{a:Act}{x:Operand}{ts:Array TypeId}{T:Nat}{aM:c9}{c:C}{lm:Mem}{p:Option Prop}{v:V}{m:Mem}(bI:fs P tab)
  (aY:o.op=.call { callee:=.builtin .len,args:=#[x],argTypes:=ts }) (oM:ts.toList.head? = some T) (bm:dQ tab T=some aM)
  (aD:Inv tab O mem w S) (av:gj lm mem) (aG:cl tab O mem w S (.one c) (a.eval x)) (h:rK aM lm c=some (p,v,m)):ec P o a w (eh tab O mem w S m v):=by
 have a2:ts[0]? = some T:=by
  rw[<- Array.getElem?_toList];cases az:ts.toList with
  |nil=>rw[az]at oM;cases oM
  |cons u us=>rw[az]at oM;simpa using oM
 have fin:∀n:Nat,v=.one (.E .int (n:Nat))->m=[]->(∃e,P.underlying T=some (.slice e)/\∃dT cap,a.eval x=.slice dT n cap)->ec P o a w (eh tab O mem w S m v):=fun n aN aX ⟨e,hu,dT,cap,ex⟩=>by
  subst aN;subst aX;refine g3 (x:=.int .i64 (n:Nat)) (w':=w) ?_ (gA aD (pL _));simp[execOp,aY,resolve,invoke,builtin,Builtin.len_,a2,run_underlying hu,ex,goInt]
 have Jh:∀{t:z} (l:List t.den),aM.isSlice t=true->(∃dT cap,a.eval x=.slice dT l.length cap)->some (none,V.one (.E .int ((len l:Nat):Int)),[])=some (p,v,m)->ec P o a w (eh tab O mem w S m v):=fun l ae hex h=>by
  cases h;obtain⟨e,i,bg,c0⟩:=j5 bI bm ae;exact fin _ rfl rfl ⟨e,c0.hJ,hex⟩
 cases c with
 |E t d =>
  cases t with
  |str =>
   simp only[rK]at h;split at h<;>try cases h
   rename_i ae;have ex:=E5 aG;refine g3 (x:=.int .i64 ((len d:Nat):Int)) (w':=w) ?_ (gA aD (pL _));obtain⟨au,aa2,dK⟩:∃au:ByteArray,a.eval x=.string au/\(au.size:Int)=((len d:Nat):Int):=⟨_,ex,rfl⟩
   rw[<- dK];simp[execOp,aY,resolve,invoke,builtin,Builtin.len_,a2,run_underlying (alN bI bm ae),aa2,goInt]
  |list t =>
   simp only[rK,mS]at h;split at h<;>try cases h
   rename_i ae;obtain⟨dT,cap,ex,_⟩:=W9 aG.2;exact Jh (t:=t) d ae ⟨dT,cap,ex⟩ rfl
  |_=>simp only[rK,mS]at h;cases h
 |nil t =>
  simp only[rK,mS]at h;split at h<;>try cases h
  rename_i ae;obtain⟨_,ex⟩:=aG;exact Jh (t:=t) [] ae ⟨none,0,ex⟩ rfl
 |own r =>
  simp only[rK,mS]at h;split at h<;>try cases h
  rename_i vX t l az;split at az<;>try cases az
  rename_i hf;split at h<;>try cases h
  rename_i ae;obtain⟨_,_,dP⟩:=uo av aD hf aG;refine Jh (t:=t) l ae ?_ rfl;rcases dP with⟨ex,rfl⟩|⟨b,cap,cur,e,ex,_⟩
  ·exact⟨none,0,ex⟩
  ·exact⟨_,cap,ex⟩
 |view r off n =>
  simp only[rK]at h;split at h<;>try cases h
  rename_i t l hf;split at h<;>try cases h
  rename_i ae;obtain⟨_,y,_,⟨a0,m0,ji,dI,jw,_,bf,_⟩,_⟩:=wG av aD hf aG;obtain⟨e,i,bg,c0⟩:=j5 bI bm ae;exact fin n rfl rfl ⟨e,c0.hJ,dI,jw,bf⟩
 |iv r =>
  simp only[rK]at h;split at h<;>try cases h
  rename_i t l cs hf;split at h<;>try cases h
  rename_i ae;obtain⟨_,b,cap,cur,cd,ex,_⟩:=zQ av aD hf aG;obtain⟨e,i,bg,c0⟩:=j5 bI bm ae;exact fin (len l+1) rfl rfl ⟨e,c0.hJ,_,cap,ex⟩
 |_=>simp only[rK,mS]at h;cases h

theorem alS(a b:Int):(Op.intBits .and .i64 a b).run P w=.ok (.int .i64 (q4 a b)) w:=by
 rfl
theorem alT(a b:Int):(Op.intBits .or .i64 a b).run P w=.ok (.int .i64 (Bz a b)) w:=by
 rfl
theorem alU(a b:Int):(Op.intBits .xor .i64 a b).run P w=.ok (.int .i64 (hZ a b)) w:=by
 rfl

theorem aga{o:Oper}{a:Act}{x y:Operand}{op:BinOp}{t eI:TypeId}{n m:Int}{p:Option Prop}{c:C}(aY:o.op=.binOp op t x y eI)(aD:Inv tab O mem w S)
  (aG:cl tab O mem w S (.one (.E .int n)) (a.eval x)) (cv:cl tab O mem w S (.one (.E .int m)) (a.eval y)) (h:Ks op n m=some (p,c)) (ad:under p True) :
  ec P o a w (eh tab O mem w S [] (.one c)):=by
 have aN:=lL aG;have aX:=lL cv;have fin:∀bg:Value,cl tab O mem w S (.one c) bg->(binOp op t (.int .i64 n) (.int .i64 m)).run P w=.ok bg w->ec P o a w (eh tab O mem w S [] (.one c)):=fun bg dK aw=>by
  refine lN (s:=do eqGuard op t x y (a.eval x) (a.eval y);binOp op t (a.eval x) (a.eval y)) (x:=bg) (w':=w) (by simp only[execOp,aY]) ?_ (gA aD dK);rw[aN,aX,Sem.run_bind];have:(eqGuard op t x y (.int .i64 n) (.int .i64 m)).run P w=.ok () w:=by
   unfold eqGuard;cases op<;>rfl
  rw[this];exact aw
 cases op<;>simp only[Ks]at h<;>cases h<;>first
  |(refine fin _ (pL _) ?_;first|rfl|(have aB:m≠0:=ad.1;simp[binOp,Op.intDiv,aB,U])|exact alS n m|exact alT n m|exact alU n m)
  |(refine fin _ (n1 _) ?_;first|rfl|simp[binOp,Op.intCmp,aL,dh,ar,bne,Int.beq'])

theorem agc{o:Oper}{a:Act}{x y:Operand}{t eI:TypeId}{n m:Int}(aY:o.op=.binOp .gtr t x y eI)(aD:Inv tab O mem w S)
  (aG:cl tab O mem w S (.one (.E .u64 n)) (a.eval x)) (cv:cl tab O mem w S (.one (.E .u64 m)) (a.eval y)) :
  ec P o a w (eh tab O mem w S [] (.one (.E .bool (aL m n)))):=by
 have aN:=BM aG;have aX:=BM cv;refine lN (s:=do eqGuard .gtr t x y (a.eval x) (a.eval y);binOp .gtr t (a.eval x) (a.eval y)) (x:=.bool (aL m n)) (w':=w) (by simp only[execOp,aY]) ?_ (gA aD (n1 _));rw[aN,aX,Sem.run_bind];have:(eqGuard .gtr t x y (.int .u64 n) (.int .u64 m)).run P w=.ok () w:=by
  unfold eqGuard;rfl
 rw[this];simp[binOp,Op.intCmp,aL]

theorem Rc(s t:List UInt8):((⟨s.toArray⟩:ByteArray).toList==(⟨t.toArray⟩:ByteArray).toList)=eqs s t:=by
 rw[ByteArray.toList_eq,ByteArray.toList_eq,Bool.eq_iff_iff];simp[eqs]

theorem agb{o:Oper}{a:Act}{x y:Operand}{op:BinOp}{t eI:TypeId}{s u:List UInt8}{p:Option Prop}{v:V}{m:Mem}(aY:o.op=.binOp op t x y eI)(aD:Inv tab O mem w S)
  (aG:cl tab O mem w S (.one (.E .str s)) (a.eval x)) (cv:cl tab O mem w S (.one (.E .str u)) (a.eval y)) (h:zW tab op t (.one (.E .str s)) (.one (.E .str u))=some (p,v,m)) (ad:under p True) :
  ec P o a w (eh tab O mem w S m v):=by
 have aN:=E5 aG;have aX:=E5 cv;have fin:∀bg:Value,cl tab O mem w S v bg->m=[]->(binOp op t (.string ⟨s.toArray⟩) (.string ⟨u.toArray⟩)).run P w=.ok bg w->ec P o a w (eh tab O mem w S m v):=fun bg dK aB aw=>by
  subst aB;refine lN (s:=do eqGuard op t x y (a.eval x) (a.eval y);binOp op t (a.eval x) (a.eval y)) (x:=bg) (w':=w) (by simp only[execOp,aY]) ?_ (gA aD dK);rw[aN,aX,Sem.run_bind];have:(eqGuard op t x y (.string ⟨s.toArray⟩) (.string ⟨u.toArray⟩)).run P w=.ok () w:=by
   unfold eqGuard;cases op<;>rfl
  rw[this];exact aw
 cases op<;>simp only[zW]at h<;>cases h
 ·refine fin (.string ⟨(cat s u).toArray⟩) (Bk _) rfl ?_;have az:s.length+u.length<=140737488355328:=ad.1;have I:(⟨s.toArray⟩:ByteArray).size=s.length:=rfl;have G:(⟨u.toArray⟩:ByteArray).size=u.length:=rfl;have Y:¬(((⟨s.toArray⟩:ByteArray).size+(⟨u.toArray⟩:ByteArray).size:Nat):Int)>IntKind.i64.max:=by
   rw[I,G];have:IntKind.i64.max=9223372036854775807:=by rfl
   rw[this];omega
  have aS:(⟨s.toArray⟩:ByteArray)++⟨u.toArray⟩=⟨(cat s u).toArray⟩:=by
   apply ByteArray.ext;simp[cat]
  simp only[binOp,Op.stringOp,if_neg Y,aS];rfl
 ·refine fin (.bool (eqs s u)) (n1 _) rfl ?_;rw[<- Rc];rfl
 ·refine fin (.bool (!eqs s u)) (n1 _) rfl ?_;rw[<- Rc];rfl

theorem U5{o:Oper}{a:Act}{x y:Operand}{op:BinOp}{t eI:TypeId}{aM:c9}{b d:Bool}{v:V}(bI:fs P tab)(aY:o.op=.binOp op t x y eI)(bm:dQ tab t=some aM)(ae:aM.isBool=true)(aD:Inv tab O mem w S)
  (aG:cl tab O mem w S (.one (.E .bool b)) (a.eval x)) (cv:cl tab O mem w S (.one (.E .bool d)) (a.eval y))
  (h:(op=.eql/\v=.one (.E .bool (h3 b d)))\/(op=.neq/\v=.one (.E .bool (!h3 b d)))) :
  ec P o a w (eh tab O mem w S [] v):=by
 have aN:=sU aG;have aX:=sU cv;have hu:=alM bI bm ae;have AP:∀k,(Op.equalIn (k+1) t (.bool b) (.bool d)).run P w=.ok (h3 b d) w:=fun k=>by
  have:(b==d)=h3 b d:=by cases b<;>cases d<;>rfl
  rw[<- this];simp[Op.equalIn,run_underlying hu]
 have bv:(Op.equal t (.bool b) (.bool d)).run P w=.ok (h3 b d) w:=AP 9999;have fin:∀bg:Value,cl tab O mem w S v bg->(binOp op t (.bool b) (.bool d)).run P w=.ok bg w->(eqGuard op t x y (.bool b) (.bool d)).run P w=.ok () w->ec P o a w (eh tab O mem w S [] v):=fun bg dK aw bt=>by
  refine lN (s:=do eqGuard op t x y (a.eval x) (a.eval y);binOp op t (a.eval x) (a.eval y)) (x:=bg) (w':=w) (by simp only[execOp,aY]) ?_ (gA aD dK);rw[aN,aX,Sem.run_bind,bt];exact aw
 rcases h with⟨rfl,rfl⟩|⟨rfl,rfl⟩
 ·refine fin _ (n1 _) ?_ rfl;simp[binOp,bv]
 ·refine fin _ (n1 _) ?_ rfl;simp[binOp,bv]
end
end bF
end Go.Proofs.YtlbppjmekiemiabGreatDoor


/- The executor on data: structs held against each other, pieces, closures, made slices. No condition. -/
namespace Go.Proofs.YtlbppjmekiemiabGreatDoor
namespace bF
section
variable {P:Program} {tab:cm} {O bU:dp} {mem fl:eb} {w w':World} {S S':Nat->Prop}

theorem Q8:∀{cs ds:List C} {r:Bool},hR cs ds=some r->∀(i:Nat) c,cs[i]? = some c->∀y,fx tab O mem w S c y->dE tab w (fun _=>False) c y:=by
 intro cs
 induction cs with
 |nil=>intro ds r _ i c hi;simp at hi
 |cons c cs de =>
  intro ds r h i fN hi y cv;cases ds with
  |nil=>simp only[hR]at h;cases h
  |cons d ds =>
   simp only[hR]at h;split at h<;>try cases h
   rename_i x aG;split at h<;>try cases h
   rename_i fo aw;cases i with
   |zero =>
    simp at hi;subst hi;unfold tq at aG;split at aG<;>first|cases aG|skip
    all_goals (cases cv;constructor)
   |succ i=>simp at hi;exact de aw i fN hi y cv

theorem aaX{c d:C}{r:Bool}(h:tq c d=some r):∃fo,tq d c=some fo:=by
 unfold tq at h;split at h<;>first|cases h|skip
 all_goals exact⟨_,rfl⟩

theorem Q9:∀{cs ds:List C} {r:Bool},hR cs ds=some r->∃fo,hR ds cs=some fo:=by
 intro cs
 induction cs with
 |nil=>intro ds r h;cases ds with
  |nil=>exact⟨true,rfl⟩
  |cons d ds=>simp only[hR]at h;cases h
 |cons c cs de =>
  intro ds r h;cases ds with
  |nil=>simp only[hR]at h;cases h
  |cons d ds =>
   simp only[hR]at h;split at h<;>try cases h
   rename_i x aG;split at h<;>try cases h
   rename_i fo aw;obtain⟨a,bl⟩:=aaX aG;obtain⟨b,ay⟩:=de aw;exact⟨a&&b,by simp only[hR,bl,ay]⟩

theorem U4{o:Oper}{a:Act}{x y:Operand}{op:BinOp}{t eI:TypeId}{cs ds:List C}{q r:Bool}{aM:c9}{v:V}(bI:fs P tab)(aY:o.op=.binOp op t x y eI)(aB:hg tab.eqs t=true)(pJ:dQ tab t=some aM)(aH:hR aM.zero cs=some q)(aD:Inv tab O mem w S)
  (aG:cl tab O mem w S (.agg cs) (a.eval x)) (cv:cl tab O mem w S (.agg ds) (a.eval y)) (aw:hR cs ds=some r)
  (h:(op=.eql/\v=.one (.E .bool r))\/(op=.neq/\v=.one (.E .bool (!r)))) :
  ec P o a w (eh tab O mem w S [] v):=by
 obtain⟨xs,aN,f1,a1⟩:=aG;obtain⟨ys,aX,f2,bf⟩:=cv;obtain⟨fo,g9⟩:=Q9 aw;obtain⟨bL,b0⟩:=bI.eqs t aM aB pJ cs ds xs ys q r w aH aw f1 f2
  (fun i c hi=>by obtain⟨bg,cO,cL,eH⟩:=a1 i c hi;exact⟨bg,cO,Q8 aw i c hi bg eH⟩)
  (fun i c hi=>by obtain⟨bg,cO,cL,eH⟩:=bf i c hi;exact⟨bg,cO,Q8 g9 i c hi bg eH⟩)
 have fin:∀bg:Value,cl tab O mem w S v bg->(binOp op t (.agg xs) (.agg ys)).run P w=.ok bg w->ec P o a w (eh tab O mem w S [] v):=fun bg dK aw=>by
  refine lN (s:=do eqGuard op t x y (a.eval x) (a.eval y);binOp op t (a.eval x) (a.eval y)) (x:=bg) (w':=w) (by simp only[execOp,aY]) ?_ (gA aD dK);rw[aN,aX,Sem.run_bind,bL op x y];exact aw
 rcases h with⟨rfl,rfl⟩|⟨rfl,rfl⟩
 ·exact fin _ (n1 _) (by simp[binOp,b0])
 ·exact fin _ (n1 _) (by simp[binOp,b0])

theorem agz{o:Oper}{a:Act}{f:Nat}{c7 cs:Array Operand}{rs:List Nat}(aY:o.op=.makeFunc (.func f) c7 cs)(b6:c7=#[])(aD:Inv tab O mem w S)
  (h:cs.size=rs.length) (aw:∀(i r:Nat),rs[i]? = some r->∃x,cs[i]? = some x/\cl tab O mem w S (.one (.ptr r 0)) (a.eval x)) :
  ec P o a w (eh tab O mem w S [] (.one (.fn f rs))):=by
 subst b6;refine g3 (x:=.func (.func f) #[] (cs.map a.eval)) (w':=w) (by simp[execOp,aY,Instr.makeFunc]) (gA aD ⟨rfl,fun r ade=>?_,cs.map a.eval,rfl,by simpa using h,fun i r hi=>?_⟩)
 ·obtain⟨i,hi,rfl⟩:=List.getElem_of_mem ade;obtain⟨x,_,aG⟩:=aw i _ (List.getElem?_eq_getElem hi);exact aG.2.1
 ·obtain⟨x,aG,I,_,ad⟩:=aw i r hi;exact⟨a.eval x,by simp[aG],I,fun au ay=>ad au ay⟩

theorem agu{o:Oper}{a:Act}{x y:Operand}{T n size:Nat}{aM:c9}{cs:List C}{j:Int}(bI:fs P tab)(aY:o.op=.index T x y)(bm:dQ tab T=some aM)(ae:aM.hy=.array n size)
  (aD:Inv tab O mem w S) (aG:cl tab O mem w S (.agg cs) (a.eval x)) (cv:cl tab O mem w S (.one (.E .int j)) (a.eval y)) (a2:0<=j) (I:j<(n:Nat)) (G:2<=size) (Y:j.toNat*size+size<=cs.length) :
  ec P o a w (eh tab O mem w S [] (.agg (aW cs (j.toNat*size) (j.toNat*size+size)))):=by
 have eK:=lL cv;obtain⟨xs,ex,f1,f2⟩:=aG;have ef:=(bI.ok T aM bm).kind;rw[ae]at ef;obtain⟨e,i,bL,b0,dm,e3,h8,jF,l1⟩:=ef;have xx:(isAgg e).run P w=.ok true w:=by
  rw[l1 w,Nat.ble_eq_true_of_le G]
 refine lN (s:=Instr.index T (a.eval x) (a.eval y)) (x:=.agg (xs.extract (j.toNat*size) (j.toNat*size+size))) (w':=w) (by simp only[execOp,aY]) ?_ (gA aD ⟨_,rfl,?_,fun q c aH=>?_⟩)
 ·rw[ex,eK];simp[Instr.index,asIntOf,run_underlying bL,a2,I,run_sizeOf b0,dm,part,xx]
 ·rw[ob _ _ _ Y];simp[f1];omega
 ·obtain⟨cO,cL⟩:=zj _ _ _ _ _ aH;obtain⟨bg,gm,hH,hW⟩:=f2 _ c cL;refine⟨bg,?_,hH,hW⟩;rw[Array.getElem?_extract];rw[if_pos (by simp[f1];omega)];exact gm

theorem aaY{as au:List C}{r:Bool}(h:hR as au=some r):∀(i:Nat) c,au[i]? = some c->c≠.undef:=by
 obtain⟨fo,eu⟩:=Q9 h;intro i c aA e;subst e;have key:∀{as au:List C} {r:Bool},hR as au=some r->∀(i:Nat),as[i]?≠some .undef:=by
  intro as
  induction as with
  |nil=>intro au r _ i hi;simp at hi
  |cons a as de =>
   intro au r h i hi;cases au with
   |nil=>simp only[hR]at h;cases h
   |cons b au =>
    simp only[hR]at h;split at h<;>try cases h
    rename_i x aG;split at h<;>try cases h
    rename_i y cv;cases i with
    |zero=>simp at hi;subst hi;simp[tq]at aG
    |succ i=>exact de cv i (by simpa using hi)
 exact key eu i aA

theorem agt{o:Oper}{a:Act}{x:Operand}{T f:Nat}{aM:c9}{cs:List C}{q:Bool}{c:C}(bI:fs P tab)(aY:o.op=.field T x f)(aB:hg tab.eqs T=true)(pJ:dQ tab T=some aM)(aH:hR aM.zero cs=some q)(aA:cs[f]? = some c)
  (aD:Inv tab O mem w S) (aG:cl tab O mem w S (.agg cs) (a.eval x)):ec P o a w (eh tab O mem w S [] (.one c)):=by
 obtain⟨xs,ex,f1,f2⟩:=aG;obtain⟨y,cK,cN,dA⟩:=f2 f c aA;have dj:=aaY aH f c aA;refine lN (s:=Instr.field T (a.eval x) f) (x:=y) (w':=w) (by simp only[execOp,aY]) ?_ (gA aD ?_)
 ·rw[ex];exact bI.abj T aM aB pJ cs xs q f c y w aH aA cK
 ·cases c<;>first|exact absurd rfl dj|exact⟨cN,dA⟩

theorem agB{o:Oper}{a:Act}{x y:Operand}{T base:Nat}{aM:c9}{t:z}{n:Int}(bI:fs P tab)(aY:o.op=.makeSlice T x y)(aes:a.eval x=a.eval y)(bm:dQ tab T=some aM)(ae:aM.isSlice t=true)(b6:t.qL=true)
  (aD:Inv tab O mem w S) (aG:cl tab O mem w S (.one (.E .int n)) (a.eval x)) (a2:0<=n) (I:n*aM.bytes<=140737488355328) (G:n<=140737488355328) (ay:mem base=none) :
  ec P o a w (eh tab O mem w S [(base,.arr t (bZ n.toNat t.H))] (.one (.own base))):=by
 have ex:=lL aG;obtain⟨e,i,bg,av⟩:=j5 bI bm ae;obtain⟨k,rfl⟩:=Int.eq_ofNat_of_zero_le a2;have g0:(Instr.makeSlice T (.int .i64 (k:Int)) (.int .i64 (k:Int))).run P w=.ok (.slice (some (ca w.heap.size 0)) k k) (w.alloc (.cells (madeCells bg.cells (k*t.width)) e)):=by
  have:=run_make (P:=P) w T e i bg av.hJ av.info av.zero .i64 .i64 (k:Int) (k:Int) a2 (Int.le_refl _) (by rw[av.bytes,Int.mul_comm];omega) (by omega);simpa[av.size,ca]using this
 have en:(madeCells bg.cells (k*t.width)).size=k*t.width:=size_madeCells _ _;have az:(Loc.ez (.slice (some (ca w.heap.size 0)) k k)).block=some w.heap.size\/(Loc.ez (.slice (some (ca w.heap.size 0)) k k)).block=none:=.inl rfl;have a6:=q3 (O:=O) (S:=S) (w:=w) (o:=.cells (madeCells bg.cells (k*t.width)) e) (B:=.arr t (bZ (k:Int).toNat t.H)) ay az;refine lN (s:=Instr.makeSlice T (a.eval x) (a.eval y)) (x:=.slice (some (ca w.heap.size 0)) k k) (w':=w.alloc (.cells (madeCells bg.cells (k*t.width)) e)) (by simp only[execOp,aY]) (by rw[<- aes,ex];exact g0) ⟨_,S,a6,r4 ay az aD (.inr ⟨w.heap.size,k,_,e,?_,heap_alloc_new w _,?_,?_,?_,fun q j c aH aT=>?_⟩),?_⟩
 ·simp[bZ]
 ·simp[bZ]
 ·unfold maxLen;omega
 ·omega
 ·have Kb:q<k:=by simpa[bZ]using aH
  have aq:nth (bZ (k:Int).toNat t.H) q t.H=t.H:=by
   simp[nth,bZ,List.getD,Kb]
  rw[aq]at aT;obtain⟨s5,gm,hH,hW⟩:=av.N6 b6 j c aT;have lE:j<t.width:=by rw[<- jj t t.H];exact(List.getElem?_eq_some_iff.1 aT).1
  refine⟨s5,?_,hH,hW _ _⟩;have dX:q*t.width+j<k*t.width:=by
   have:(q+1)*t.width<=k*t.width:=Nat.mul_le_mul_right _ (by omega);rw[Nat.add_mul]at this;omega
  have acT:(q*t.width+j)%bg.cells.size=j:=by
   rw[av.gW,Nat.add_comm,Nat.add_mul_mod_self_right,Nat.mod_eq_of_lt lE]
  have kE:bg.cells[j]? = some s5:=by simpa using gm
  have AJ:bg.cells[j]! = s5:=by
   rw[getElem!_def,kE]
  simp[madeCells,dX,acT,AJ]
 ·exact⟨rfl,by rw[fm];exact(fun h=>by cases h),fun eI l' _=>hA⟩
end
end bF
end Go.Proofs.YtlbppjmekiemiabGreatDoor


/- The executor on data: pieces of slices. No condition. -/
namespace Go.Proofs.YtlbppjmekiemiabGreatDoor
namespace bF
section
variable {P:Program} {tab:cm} {O bU:dp} {mem fl:eb} {w w':World} {S S':Nat->Prop}

def kJ(o:Option Int):Option Value:=o.map (Value.int .i64)

theorem Fb{T:Nat}{t:z}{pN e:Nat}{i:TypeInfo}{bg:Value}(av:uV P tab T t pN e i bg)(dT:Option Addr)(n cap:Nat)(lo hi:Option Int)(a2:0<=lo.getD 0)(I:lo.getD 0<=hi.getD (n:Nat))(G:hi.getD (n:Nat)<=(cap:Nat)) :
  (Instr.sliceAt T (.slice dT n cap) (kJ lo) (kJ hi) none).run P w =
   .ok (.slice (if cap=(lo.getD 0).toNat then dT else dT.map (·.add ((lo.getD 0).toNat*t.width))) ((hi.getD (n:Nat)).toNat-(lo.getD 0).toNat) (cap-(lo.getD 0).toNat)) w:=by
 cases lo<;>cases hi<;>simp only[Option.getD_some,Option.getD_none]at a2 I G |-
 ·simp[Instr.sliceAt,Instr.slice,Instr.sliceBounds,kJ,run_underlying av.hJ,run_sizeOf av.info]
 ·rename_i h;have dd:h<=((cap:Nat):Int):=G;have:0<=h:=by omega
  simp[Instr.sliceAt,Instr.slice,Instr.sliceBounds,Instr.sliceBound,asIntOf,kJ,run_underlying av.hJ,run_sizeOf av.info,this,dd]
 ·rename_i l;have az:l<=((n:Nat):Int):=I;simp[Instr.sliceAt,Instr.slice,Instr.sliceBounds,Instr.sliceBound,asIntOf,kJ,run_underlying av.hJ,run_sizeOf av.info,av.size,a2,az]
 ·rename_i l h;have dd:h<=((cap:Nat):Int):=G;have abG:0<=h:=by omega
  have az:l<=max h 0:=by omega
  simp[Instr.sliceAt,Instr.slice,Instr.sliceBounds,Instr.sliceBound,asIntOf,kJ,run_underlying av.hJ,run_sizeOf av.info,av.size,a2,dd,abG,az]

theorem Xh{T:Nat}{t:z}{pN e:Nat}{i:TypeInfo}{bg:Value}(av:uV P tab T t pN e i bg)(dT:Option Addr)(n cap:Nat)(lo:Option Int)(h m:Int)(a2:0<=lo.getD 0)(I:lo.getD 0<=h)(G:h<=m)(Y:m<=(cap:Nat)) :
  (Instr.sliceAt T (.slice dT n cap) (kJ lo) (kJ (some h)) (kJ (some m))).run P w =
   .ok (.slice (if m.toNat=(lo.getD 0).toNat then dT else dT.map (·.add ((lo.getD 0).toNat*t.width))) (h.toNat-(lo.getD 0).toNat) (m.toNat-(lo.getD 0).toNat)) w:=by
 have dI:0<=h:=by omega
 have eD:0<=m:=by omega
 have a3:h<=max m 0:=by omega
 cases lo<;>simp only[Option.getD_some,Option.getD_none]at a2 I |-
 ·simp[Instr.sliceAt,Instr.slice,Instr.sliceBounds,Instr.sliceBound,asIntOf,kJ,run_underlying av.hJ,run_sizeOf av.info,dI,eD,a3,Y]
 ·rename_i l;have az:l<=max h 0:=by omega
  simp[Instr.sliceAt,Instr.slice,Instr.sliceBounds,Instr.sliceBound,asIntOf,kJ,run_underlying av.hJ,run_sizeOf av.info,av.size,dI,eD,a3,a2,Y,az]

theorem Fi{α:Type}(l:List α)(lo hi i:Nat)(d:α)(h:i<hi-lo):nth (aW l lo hi) i d=nth l (lo+i) d:=by
 have I:(aW l lo hi)[i]? = l[lo+i]?:=by
  unfold aW;simp only[List.getElem?_drop,List.getElem?_take];rw[if_pos (by omega)]
 simp only[nth,List.getD,I]

theorem sZ{α:Type}(l:List α)(lo hi:Nat)(h:hi<=l.length):(aW l lo hi).length=hi-lo:=by
 unfold aW;simp;omega

theorem ais{t:z}{l:List t.den}{dT:Option Addr}{n cap lo hi:Nat}(h:dE tab w S (.E (.list t) l) (.slice dT n cap))(I:lo<=hi)(G:hi<=l.length) :
  dE tab w S (.E (.list t) (aW l lo hi)) (.slice (if cap=lo then dT else dT.map (·.add (lo*t.width))) (hi-lo) (cap-lo)):=by
 have hlen:=sZ l lo hi G
 by_cases bv:hi-lo=0
 ·have:aW l lo hi=[]:=List.eq_nil_of_length_eq_zero (by omega);rw[this,bv];exact .empty t _ _
 ·cases h with
  |empty t a cap=>simp at G;omega
  |list t l b off cap cs dw hcap aA aw =>
   have dj:¬cap=lo:=by omega
   rw[if_neg dj,Option.map_some,ca,Addr.add_lit,<- hlen];refine .list t (aW l lo hi) b (off+lo*t.width) (cap-lo) (fun i j=>cs (lo+i) j) dw (by omega) (fun i j rA aT=>?_) (fun i j c rA aT=>?_)
   ·have:=aA (lo+i) j (by omega) aT;rw[Nat.add_mul]at this;rw[<- this];congr 2;omega
   ·rw[Fi l lo hi i t.H (by omega)]at aT;exact aw (lo+i) j c (by omega) aT

theorem agI{o:Oper}{a:Act}{T:Nat}{aM:c9}{x:Operand}{lo hi rN:Option Operand}{c:C}{l h m:Option Int}{lm:Mem}{p:Option Prop}{v:V}{mm:Mem}(bI:fs P tab)(aY:o.op=.slice T x lo hi rN)(bm:dQ tab T=some aM)
  (aD:Inv tab O mem w S) (av:gj lm mem) (aG:cl tab O mem w S (.one c) (a.eval x)) (az:lo.map a.eval=kJ l) (dd:hi.map a.eval=kJ h) (aB:rN.map a.eval=kJ m) (fV:s0 aM lm c l h m=some (p,v,mm)) (ad:under p True) :
  ec P o a w (eh tab O mem w S mm v):=by
 have fin:∀y,(Instr.sliceAt T (a.eval x) (kJ l) (kJ h) (kJ m)).run P w=.ok y w->cl tab O mem w S v y->mm=[]->ec P o a w (eh tab O mem w S mm v):=fun y aw aR e=>by
  subst e;exact lN (s:=Instr.sliceAt T (a.eval x) (lo.map a.eval) (hi.map a.eval) (rN.map a.eval)) (by simp only[execOp,aY]) (by rw[az,dd,aB];exact aw) (gA aD aR)
 cases c with
 |E eI d =>
  cases eI with
  |list t =>
   simp only[s0]at fV;split at fV<;>try cases fV
   rename_i ae;obtain⟨fe,a1,bf⟩:0<=l.getD 0/\l.getD 0<=h.getD ((d:List t.den).length:Nat)/\h.getD ((d:List t.den).length:Nat)<=((d:List t.den).length:Nat):=ad.1;obtain⟨e,i,bg,c0⟩:=j5 bI bm ae;obtain⟨dT,cap,ex,hcap⟩:=W9 aG.2;rw[ex]at aG;refine fin _ (by rw[ex];exact Fb c0 dT _ cap l h fe a1 (by omega)) ⟨rfl,?_⟩ rfl;exact ais (lo:=(l.getD 0).toNat) (hi:=(h.getD (((d:List t.den).length:Nat):Int)).toNat) aG.2 (by omega) (by omega)
  |_=>simp only[s0]at fV;cases fV
 |nil t =>
  simp only[s0]at fV;split at fV<;>try cases fV
  rename_i ae;obtain⟨fe,a1⟩:=ad.1;obtain⟨e,i,bg,c0⟩:=j5 bI bm ae;obtain⟨_,ex⟩:=aG;refine fin (.slice none 0 0) ?_ ⟨rfl,rfl⟩ rfl;rw[ex];have:=Fb (P:=P) (w:=w) c0 none 0 0 l h (by omega) (by rw[fe];simpa using Int.le_of_eq a1.symm) (by simpa using Int.le_of_eq a1);rw[fe]at this;simp only[Int.toNat_zero]at this;simpa[kJ,a1]using this
 |own r =>
  simp only[s0]at fV;split at fV<;>try cases fV
  rename_i t iM qw;split at fV<;>try cases fV
  rename_i ae;obtain⟨e,i,bg,c0⟩:=j5 bI bm ae;obtain⟨lY,dn,dP⟩:=uo av aD qw aG;obtain⟨dT,cap,ex,hcap,AG⟩:∃dT cap,a.eval x=.slice dT iM.length cap/\iM.length<=cap/\(∀k,dT.map (·.add k)=dT.map fun q=>ca q.block (q.off+k)):=by
   rcases dP with⟨ex,rfl⟩|⟨b,cap,cur,cd,ex,ay,Y,_⟩
   ·exact⟨none,0,ex,Nat.le_refl _,fun _=>rfl⟩
   ·exact⟨_,cap,ex,Y,fun k=>by simp[ca,Addr.add_lit]⟩
  have done:∀(qG rA vR:Nat),qG<=rA->rA<=vR->vR<=cap->iM.length<=vR ->
    cl tab O mem w S (.one (.view r qG (rA-qG))) (.slice (if vR=qG then dT else dT.map (·.add (qG*t.width))) (rA-qG) (vR-qG)):=fun qG rA vR cO cL eH gy=>by
   refine⟨rfl,by rw[lY];exact(fun h=>by cases h),fun eI l' hf=>?_⟩;rw[lY]at hf;cases hf;refine⟨_,dn,dT,iM.length,cap,_,vR-qG,ex,rfl,fun a2=>?_,fun mG=>?_,by omega,by omega,by omega⟩
   ·subst a2;split
    ·rfl
    ·cases dT with
     |none=>rfl
     |some q=>simp[Addr.add_zero']
   ·rw[if_neg (by omega),AG]
  cases m with
  |none =>
   cases fV;obtain⟨fe,a1,bf⟩:0<=l.getD 0/\l.getD 0<=h.getD (iM.length:Nat)/\h.getD (iM.length:Nat)<=(iM.length:Nat):=ad.1;refine fin _ (by rw[ex];exact Fb c0 dT _ cap l h fe a1 (by omega)) ?_ rfl;have:=done (l.getD 0).toNat (h.getD (iM.length:Nat)).toNat cap (by omega) (by omega) (Nat.le_refl _) hcap;have aN:(h.getD ((len iM:Nat):Int)-l.getD 0).toNat=(h.getD (iM.length:Nat)).toNat-(l.getD 0).toNat:=by
    show(h.getD (iM.length:Nat)-l.getD 0).toNat=_;omega
   rw[aN];exact this
  |some m =>
   simp only at fV;split at fV<;>try cases fV
   ·rename_i h;obtain⟨fe,a1,bf⟩:0<=h/\h=m/\m<=(iM.length:Nat):=ad.1;subst a1;have aw:=Xh (P:=P) (w:=w) c0 dT iM.length cap none h h (by simp) (by simpa using fe) (Int.le_refl _) (by omega);refine fin (.slice dT h.toNat h.toNat) (by rw[ex,aw];congr 2;simp only[Option.getD_none,Int.toNat_zero,Nat.zero_mul];split;rfl;cases dT with|none=>rfl|some q=>simp[Addr.add_zero']) ⟨rfl,by rw[lY];exact(fun h=>by cases h),fun eI l' hf=>⟨dT,_,cap,by rw[dn,ex],rfl⟩⟩ rfl
   rename_i l0 h;obtain⟨fe,a1,bf,ck⟩:0<=(some l0:Option Int).getD 0/\(some l0:Option Int).getD 0<=h/\h<=m/\m=(iM.length:Nat):=ad.1;refine fin _ (by rw[ex];exact Xh c0 dT _ cap (some l0) h m fe a1 bf (by omega)) ?_ rfl;have:=done ((some l0:Option Int).getD 0).toNat h.toNat m.toNat (by omega) (by omega) (by omega) (by omega);have aN:(h-(some l0:Option Int).getD 0).toNat=h.toNat-((some l0:Option Int).getD 0).toNat:=by omega
   rw[aN];exact this
 |view r off n =>
  cases off with
  |succ off=>simp only[s0]at fV;cases fV
  |zero =>
   simp only[s0]at fV;split at fV<;>try cases fV
   rename_i t iM qw;split at fV<;>try cases fV
   rename_i ae;obtain⟨e,i,bg,c0⟩:=j5 bI bm ae;obtain⟨lY,y,dn,⟨a0,m0,ji,dI,jw,bL,b0,dm,e3,h8,jF,l1⟩,dP⟩:=wG av aD qw aG;have bl:=dm rfl;subst bl;obtain⟨fe,a1,bf⟩:0<=l.getD 0/\l.getD 0<=h.getD (n:Nat)/\h.getD (n:Nat)<=(iM.length:Nat):=ad.1;have AG:m0=iM.length/\(∀k,dI.map (·.add k)=dI.map fun q=>ca q.block (q.off+k)):=by
    rcases dP with⟨eK,rfl⟩|⟨b,cap,cur,cd,eK,_⟩
    ·rw[eK]at bL;cases bL;exact⟨rfl,fun _=>rfl⟩
    ·rw[eK]at bL;cases bL;exact⟨rfl,fun k=>by simp[ca,Addr.add_lit]⟩
   obtain⟨rfl,AG⟩:=AG;refine fin _ (by rw[b0];exact Fb c0 dI _ jw l h fe a1 (by omega)) ⟨rfl,by rw[lY];exact(fun h=>by cases h),fun eI l' hf=>?_⟩ rfl;rw[lY]at hf;cases hf;have aN:(h.getD (n:Nat)-l.getD 0).toNat=(h.getD (n:Nat)).toNat-(l.getD 0).toNat:=by omega
   rw[aN];refine⟨_,dn,dI,iM.length,ji,_,_,bL,rfl,fun a2=>?_,fun mG=>?_,by omega,by omega,by omega⟩
   ·rw[a2];split
    ·rfl
    ·cases dI with
     |none=>rfl
     |some q=>simp[Addr.add_zero']
   ·rw[if_neg (by omega),AG]
 |_=>simp only[s0]at fV;cases fV
end
end bF
end Go.Proofs.YtlbppjmekiemiabGreatDoor


/- The executor on data: structs and slices that are written out. No condition. -/
namespace Go.Proofs.YtlbppjmekiemiabGreatDoor
namespace bF
section
variable {P:Program} {tab:cm} {O bU:dp} {mem fl:eb} {w w':World} {S S':Nat->Prop}

def p6(R:C->Value->Prop)(cs:List C)(xs:List Value):Prop:=xs.length=cs.length/\∀(i:Nat) c,cs[i]? = some c->∃y,xs[i]? = some y/\R c y

theorem abg(off:Nat):∀(ys:List Value) (k:Nat) (cells:Array Value),off+k+ys.length<=cells.size ->
  ((ys.zipIdx k).foldl (fun cs (c,j)=>cs.setIfInBounds (off+j) c) cells).toList=cells.toList.take (off+k)++ys++cells.toList.drop (off+k+ys.length):=by
 intro ys
 induction ys with
 |nil=>intro k cells _;simp
 |cons y ys de =>
  intro k cells h;simp only[List.length_cons]at h;simp only[List.zipIdx_cons,List.foldl_cons];rw[de (k+1) _ (by simp;omega)];apply List.ext_getElem?;intro i;have aN:(List.take (off+(k+1)) (cells.setIfInBounds (off+k) y).toList).length=off+(k+1):=by simp;omega
  have aX:(List.take (off+k) cells.toList).length=off+k:=by simp;omega
  simp only[List.append_assoc]
  by_cases I:i<off+k
  ·rw[List.getElem?_append_left (by omega),List.getElem?_append_left (by omega),List.getElem?_take_of_lt (by omega),List.getElem?_take_of_lt I];simp only[Array.toList_setIfInBounds];rw[List.getElem?_set_ne (by omega)]
  ·by_cases G:i=off+k
   ·subst G;rw[List.getElem?_append_left (by omega),List.getElem?_take_of_lt (by omega),List.getElem?_append_right (by omega),aX];simp[show off+k<cells.size by omega]
   ·have L:(List.take (off+(k+1)) (cells.setIfInBounds (off+k) y).toList++(ys++List.drop (off+(k+1)+ys.length) (cells.setIfInBounds (off+k) y).toList))[i]? =
      (ys++List.drop (off+(k+1)+ys.length) (cells.setIfInBounds (off+k) y).toList)[i-(off+(k+1))]?:=by
     rw[List.getElem?_append_right (by omega),aN]
    have R:(List.take (off+k) cells.toList++(y::ys++List.drop (off+k+(y::ys).length) cells.toList))[i]? =
      (ys++List.drop (off+k+(y::ys).length) cells.toList)[i-(off+(k+1))]?:=by
     rw[List.getElem?_append_right (by omega),aX,show i-(off+k)=(i-(off+(k+1)))+1 by omega,List.cons_append,List.getElem?_cons_succ]
    rw[L,R]
    by_cases Y:i-(off+(k+1))<ys.length
    ·rw[List.getElem?_append_left Y,List.getElem?_append_left Y]
    ·rw[List.getElem?_append_right (by omega),List.getElem?_append_right (by omega),List.getElem?_drop,List.getElem?_drop];simp only[Array.toList_setIfInBounds];rw[List.getElem?_set_ne (by omega)];congr 1;simp only[List.length_cons];omega

theorem agU{R:C->Value->Prop}{old cs:List C}{cur ys:List Value}{o:Nat}(aY:o+cs.length<=old.length)(I:p6 R old cur)(G:p6 R cs ys) :
  p6 R (put old o cs) (cur.take o++ys++cur.drop (o+ys.length)):=by
 refine⟨?_,EK aY G.1 (by rw[I.1];exact aY) I.2 G.2⟩;simp[put,I.1,G.1]

theorem Jg{R:C->Value->Prop}{place:Nat->Option (Nat×Nat)}:∀(c7:List (Nat×List C)) (hU:List Nat) (vs:List (Nat×Value)) (old new:List C) (cells:Array Value),
  p6 R old cells.toList->np old c7=some new->vs.map (·.1)=hU->c7.length=vs.length ->
  (∀(i:Nat) f v,c7[i]? = some f->vs[i]? = some v->place v.1=some (f.1,f.2.length)/\p6 R f.2 v.2.cells.toList) ->
  ∃lw,Instr.fill place cells vs=some lw/\p6 R new lw.toList:=by
 intro c7
 induction c7 with
 |nil =>
  intro hU vs old new cells aw ad _ az _;cases vs with
  |nil=>simp only[np]at ad;cases ad;exact⟨cells,rfl,aw⟩
  |cons v vs=>simp at az
 |cons f c7 de =>
  intro hU vs old new cells aw ad anf az k7;cases vs with
  |nil=>simp at az
  |cons v vs =>
   obtain⟨off,cs⟩:=f;simp only[np]at ad;split at ad<;>try cases ad
   rename_i hle;have mF:=Nat.le_of_ble_eq_true hle;obtain⟨aN,aX⟩:=k7 0 _ _ rfl rfl;have en:v.2.cells.size=cs.length:=by have:=aX.1;simpa using this
   have vw:off+v.2.cells.toList.length<=cells.size:=by
    have:=aw.1;simp at this |-;omega
   have So:=abg off v.2.cells.toList 0 cells (by simpa using vw);simp only[Nat.add_zero]at So;have dP:=agU mF aw aX;rw[<- So]at dP;obtain⟨lw,bL,b0⟩:=de (vs.map (·.1)) vs (put old off cs) new _ dP ad rfl (by simpa using az) (fun i f v b6 aR=>k7 (i+1) f v b6 aR);refine⟨lw,?_,b0⟩;have dK:(v.2.cells.zipIdx).foldl (fun cs (c,j)=>cs.setIfInBounds (off+j) c) cells=(v.2.cells.toList.zipIdx 0).foldl (fun cs (c,j)=>cs.setIfInBounds (off+j) c) cells:=by
    rw[<- Array.foldl_toList];simp
   simp only[Instr.fill,aN,en];rw[if_neg (by
    have:=vw;simp at this;simp;omega),dK]
   exact bL

theorem agM:∀{c7:List (Nat×List C)} {bg new:List C},np bg c7=some new->new.length=bg.length:=by
 intro c7
 induction c7 with
 |nil=>intro bg new h;simp only[np]at h;cases h;rfl
 |cons f c7 de =>
  intro bg new h;obtain⟨off,cs⟩:=f;simp only[np]at h;split at h<;>try cases h
  rename_i hle;have mF:=Nat.le_of_ble_eq_true hle;rw[de h];simp[put];omega

theorem abc:∀{kM jI hU:List Nat} {vs:List V} {c7:List (Nat×List C)},tv kM jI hU vs=some c7 ->
  c7.length=hU.length/\hU.length=vs.length/\∀(j:Nat) f,c7[j]? = some f->∃i v,hU[j]? = some i/\vs[j]? = some v/\kM[i]? = some f.1/\jI[i]? = some f.2.length/\v.cells=some f.2:=by
 intro kM jI hU
 induction hU with
 |nil =>
  intro vs c7 h;cases vs with
  |nil=>simp only[tv]at h;cases h;exact⟨rfl,rfl,fun j f aT=>by simp at aT⟩
  |cons v vs=>simp only[tv]at h;cases h
 |cons i hU de =>
  intro vs c7 h;cases vs with
  |nil=>simp only[tv]at h;cases h
  |cons v vs =>
   simp only[tv]at h;split at h<;>try cases h
   rename_i o n cs r I G Y aS;split at h<;>try cases h
   rename_i ay;have gC:=Nat.eq_of_beq_eq_true ay;obtain⟨aN,aX,cS⟩:=de aS;refine⟨by simp[aN],by simp[aX],fun j f aT=>?_⟩;cases j with
   |zero=>simp at aT;subst aT;exact⟨i,v,rfl,rfl,I,by rw[gC];exact G,Y⟩
   |succ j=>simp at aT;simpa using cS j f aT

theorem MN:∀{vs:List V} {xs:List Value},fI tab O mem w S vs xs->∀(i:Nat) v,vs[i]? = some v->∃x,xs[i]? = some x/\cl tab O mem w S v x
 |[],[],_,i,v,h=>by simp at h
 |_::vs,x::xs,aw,0,v,h=>by simp at h;subst h;exact⟨x,rfl,aw.1⟩
 |_::vs,_::xs,aw,i+1,v,h=>by simpa using MN aw.2 i v (by simpa using h)
 |[],_::_,aw,_,_,_=>aw.elim
 |_::_,[],aw,_,_,_=>aw.elim

theorem age{o:Oper}{a:Act}{T:Nat}{aM:c9}{ps:Array (Nat×Operand)}{vs:List V}{c7:List (Nat×List C)}{cs:List C}(bI:fs P tab)(aY:o.op=.build T ps)(bm:dQ tab T=some aM)(ae:aM.agg=true)
  (aD:Inv tab O mem w S) (aR:fI tab O mem w S vs (ps.toList.map fun p=>a.eval p.2)) (b6:tv aM.kM aM.jI (ps.toList.map (·.1)) vs=some c7) (ad:np aM.zero c7=some cs) :
  ec P o a w (eh tab O mem w S [] (.agg cs)):=by
 obtain⟨i,bg,I,G,Y,aS,_⟩:=(bI.ok T aM bm).info;have ef:=(bI.ok T aM bm).kind;obtain⟨cO,cL⟩:=Zh (tab:=tab) (O:=O) (mem:=mem) (w:=w) (S:=S) aS;obtain⟨aN,aX,cS⟩:=abc b6;have xE:(ps.map fun p=>(p.1,a.eval p.2)).toList.map (·.1)=ps.toList.map (·.1):=by simp
 have key:∀place:Nat->Option (Nat×Nat),(∀(j o' n:Nat),aM.kM[j]? = some o'->aM.jI[j]? = some n->place j=some (o',n)) ->
   ∃lw,Instr.fill place bg.cells (ps.map fun p=>(p.1,a.eval p.2)).toList=some lw/\p6 (fun c y=>y.oneCell'=true/\fx tab O mem w S c y) cs lw.toList:=fun place jm=>by
  refine Jg c7 _ _ aM.zero cs bg.cells ⟨cO,cL⟩ ad xE (by simp[aN]) (fun j f v vv k9=>?_);obtain⟨rI,e1,a1,bf,ck,eP,gg⟩:=cS j f vv;obtain⟨x,bL,b0⟩:=MN aR j e1 bf;simp only[List.getElem?_map,Option.map_eq_some_iff]at a1 bL;obtain⟨e0,gm,hH⟩:=a1;obtain⟨fj,hW,qS⟩:=bL;rw[gm]at hW;cases hW;have cT:v=(e0.1,a.eval e0.2):=by
   simp only[Array.toList_map,List.getElem?_map,gm,Option.map_some]at k9;exact(Option.some.inj k9).symm
  subst cT;refine⟨by rw[hH];exact jm rI f.1 f.2.length ck eP,?_⟩;obtain⟨bp,bc⟩:=BL (qS▸b0) gg;exact⟨by simpa using bp,fun i c hi=>by obtain⟨y,cK,cN,dA⟩:=bc i c hi;exact⟨y,by simpa using cK,cN,dA⟩⟩
 have fin:∀lw,P.built T (ps.map fun p=>(p.1,a.eval p.2)).toList=some lw->p6 (fun c y=>y.oneCell'=true/\fx tab O mem w S c y) cs lw.toList->ec P o a w (eh tab O mem w S [] (.agg cs)):=fun lw ay aw=>by
  refine lN (s:=Instr.build T (ps.map fun p=>(p.1,a.eval p.2))) (x:=.agg lw) (w':=w) (by simp only[execOp,aY]) (run_build w T _ lw ay) (gA aD ⟨lw,rfl,by have:=aw.1;simpa using this,fun i c hi=>?_⟩);obtain⟨y,cK,cN,dA⟩:=aw.2 i c hi;exact⟨y,by simpa using cK,cN,dA⟩
 unfold c9.agg at ae;cases h7:aM.hy with
 |struct =>
  rw[h7]at ef;obtain⟨Aq,bL,b0,dm,e3⟩:=ef;obtain⟨lw,a1,bf⟩:=key (fun j=>(aM.kM.zip aM.jI).toArray[j]?) (fun j o' n a1 bf=>by
   simp only[List.getElem?_toArray];rw[List.getElem?_zip_eq_some];exact⟨a1,bf⟩)
  refine fin lw ?_ bf;simp only[Program.built,I,bL,Y,b0];exact a1
 |array n nw =>
  rw[h7]at ef;obtain⟨e,tY,bL,b0,dm,e3,h8,jF,_⟩:=ef;have hlen:aM.kM.length=n/\aM.jI.length=n:=by rw[h8,jF];simp
  obtain⟨lw,a1,bf⟩:=key (fun j=>some (j*tY.size,tY.size)) (fun j o' l4 a1 bf=>by
   rw[h8]at a1;rw[jF]at bf;have aT:j<n:=by have:=(List.getElem?_eq_some_iff.1 a1).1;simpa using this
   simp[aT]at a1;simp[aT]at bf;rw[dm,<- a1,<- bf])
  refine fin lw ?_ bf;simp only[Program.built,I,bL,Y,b0];exact a1
 |_=>rw[h7]at ae;cases ae
end
end bF
end Go.Proofs.YtlbppjmekiemiabGreatDoor


/- The executor on data: slices that are written out. No condition. -/
namespace Go.Proofs.YtlbppjmekiemiabGreatDoor
namespace bF
section
variable {P:Program} {tab:cm} {O bU:dp} {mem fl:eb} {w w':World} {S S':Nat->Prop}

def rep(n:Nat)(gL:List C):List C:=(List.replicate n gL).flatten

theorem E6(n:Nat)(gL:List C):(rep n gL).length=n*gL.length:=by simp[rep]

theorem Xa(n:Nat)(gL:List C):rep (n+1) gL=gL++rep n gL:=by simp[rep,List.replicate_succ]

theorem Jj{α β:Type}{wd:Nat}{f:α->List β}(b6:∀a,(f a).length=wd):∀(l:List α) (q j:Nat) (h:q<l.length),j<wd->(l.flatMap f)[q*wd+j]? = (f l[q])[j]?
 |[],q,j,h,_=>by simp at h
 |a::l,0,j,_,aT=>by simp[List.flatMap_cons,List.getElem?_append_left,b6,aT]
 |a::l,q+1,j,h,aT=>by
  have:=Jj b6 l q j (by simpa using h) aT;rw[List.flatMap_cons,List.getElem?_append_right (by rw[b6,Nat.add_mul];omega),b6,show(q+1)*wd+j-wd=q*wd+j by rw[Nat.add_mul];omega];simpa using this

theorem aaT{lm:Mem}{t:z}:∀{n i:Nat} {hU:List Nat} {vs:List V} {l:List t.den} {ns:List Nat},mv tab lm t n i hU vs=some (l,ns)->vs.length<=n:=by
 intro n
 induction n with
 |zero=>intro i hU vs l ns h;cases hU<;>cases vs<;>simp only[mv]at h<;>first|cases h;done|simp
 |succ n de =>
  intro i hU vs l ns h;cases hU with
  |nil=>cases vs with
   |nil=>simp
   |cons v us=>simp only[mv]at h;cases h
  |cons j A8=>cases vs with
   |nil=>simp
   |cons v us =>
    simp only[mv]at h;split at h
    ·split at h<;>try cases h
     split at h<;>try cases h
     split at h<;>try cases h
     split at h<;>try cases h
     rename_i eu;have:=de eu;simp;omega
    ·split at h<;>try cases h
     rename_i eu;have:=de eu;omega

theorem aaU{lm:Mem}{t:z}{gL:List C}(dK:gL.length=t.width):∀(n i:Nat) (hU:List Nat) (vs:List V) (l:List t.den) (ns:List Nat),
  mv tab lm t n i hU vs=some (l,ns)->(vs.length=n\/gL=t.cells t.H)->∀pre:List C,pre.length=i*t.width ->
  ∃c7:List (Nat×List C),np (pre++rep n gL) c7=some (pre++l.flatMap t.cells)/\c7.length=vs.length/\hU.length=vs.length/\l.length=n /\
   ∀(k:Nat) f,c7[k]? = some f->∃rI v cs ds el,hU[k]? = some rI/\vs[k]? = some v/\f=(rI*t.width,ds)/\ds.length=t.width/\v.cells=some cs/\rU tab lm cs=some (ds,el)/\∀r∈el,r∈ns:=by
 intro n
 induction n with
 |zero =>
  intro i hU vs l ns h _ pre _;cases hU<;>cases vs<;>simp only[mv]at h<;>cases h;exact⟨[],by simp[np,rep],rfl,rfl,rfl,fun k f b6=>by simp at b6⟩
 |succ n de =>
  intro i hU vs l ns h aB pre D5;have UJ:∀l',mv tab lm t n (i+1) hU vs=some (l',ns)->l=t.H::l'->∃c7:List (Nat×List C),np (pre++rep (n+1) gL) c7=some (pre++l.flatMap t.cells)/\c7.length=vs.length/\hU.length=vs.length/\l.length=n+1 /\
   ∀(k:Nat) f,c7[k]? = some f->∃rI v cs ds el,hU[k]? = some rI/\vs[k]? = some v/\f=(rI*t.width,ds)/\ds.length=t.width/\v.cells=some cs/\rU tab lm cs=some (ds,el)/\∀r∈el,r∈ns:=fun l' eu e=>by
   subst e;have hle:=aaT eu;have SP:gL=t.cells t.H:=aB.resolve_left (by omega);obtain⟨c7,a1,bf,ck,eP,g6⟩:=de (i+1) hU vs l' ns eu (.inr SP) (pre++gL) (by simp[D5,dK,Nat.add_mul]);refine⟨c7,?_,bf,ck,by simp[eP],g6⟩;rw[Xa,<- List.append_assoc,a1];simp[SP]
  cases hU with
  |nil=>cases vs with
   |nil =>
    simp only[mv]at h;split at h<;>try cases h
    rename_i eu;exact UJ _ eu rfl
   |cons v us=>simp only[mv]at h;cases h
  |cons j A8=>cases vs with
   |nil=>simp only[mv]at h;cases h
   |cons v us =>
    simp only[mv]at h;split at h
    ·rename_i Sa;have acB:=Nat.eq_of_beq_eq_true Sa;split at h<;>try cases h
     rename_i cs en;split at h<;>try cases h
     rename_i ds el tP;split at h<;>try cases h
     rename_i d bH;split at h<;>try cases h
     rename_i l' ms eu;have lV:ds.length=t.width:=by rw[<- Ew bH,jj]
     obtain⟨c7,a1,bf,ck,eP,g6⟩:=de (i+1) A8 us l' ms eu (aB.imp (fun e=>by simpa using e) id) (pre++t.cells d) (by simp[D5,jj,Nat.add_mul]);refine⟨(i*t.width,ds)::c7,?_,by simp[bf],by simp[ck],by simp[eP],fun k f b6=>?_⟩
     ·simp only[np];have ay:Nat.ble (i*t.width+ds.length) (pre++rep (n+1) gL).length=true:=by
       rw[Nat.ble_eq];simp[D5,E6,dK,lV,Nat.add_mul]<;>omega
      rw[ay];have ac2:put (pre++rep (n+1) gL) (i*t.width) ds=pre++t.cells d++rep n gL:=by
       rw[Ew bH,Xa,<- D5];unfold put;have aN:(pre++(gL++rep n gL)).take pre.length=pre:=by simp
       have aX:(pre++(gL++rep n gL)).drop (pre.length+ds.length)=rep n gL:=by
        rw[lV,<- dK,<- List.append_assoc];have:(pre++gL).length=pre.length+gL.length:=by simp
        rw[<- this,List.drop_left]
       rw[aN,aX]
      simp only[ac2];rw[a1];simp
     ·cases k with
      |zero=>simp at b6;subst b6;exact⟨j,v,cs,ds,el,rfl,rfl,by rw[acB],lV,en,tP,fun r aw=>by simp[aw]⟩
      |succ k =>
       simp at b6;obtain⟨rI,e1,eO,Ds,afi,cO,cL,eH,gy,n8,sS,uy⟩:=g6 k f b6;exact⟨rI,e1,eO,Ds,afi,by simpa using cO,by simpa using cL,eH,gy,n8,sS,fun r aw=>by simp[uy r aw]⟩
    ·split at h<;>try cases h
     rename_i eu;exact UJ _ eu rfl

theorem Xd{T:Nat}{t:z}{pN e:Nat}{i:TypeInfo}{bg:Value}(av:uV P tab T t pN e i bg)(n:Nat)(aq:n*t.width<=16777216)(parts:Array (Nat×Value))(cells:Array Value)
  (h:Instr.fill (fun j=>some (j*t.width,t.width)) (madeCells (if n*t.width=0 then #[]else bg.cells) (n*t.width)) parts.toList=some cells) :
  (Instr.buildSlice T n parts).run P w=.ok (.slice (some (ca w.heap.size 0)) n n) (w.alloc (.cells cells e)):=by
 have nT:¬2 ^ 24<n*t.width:=by omega
 by_cases dK:n*t.width=0
 ·simp only[dK,if_true]at h;simp only[Instr.buildSlice,Sem.run_bind,run_underlying av.hJ,Result.andThen_ok,run_sizeOf av.info,av.size];simp[dK,madeCells]at h |-;simp[h,newRow,ca]
 ·simp only[dK,if_false]at h;simp only[Instr.buildSlice,Sem.run_bind,run_underlying av.hJ,Result.andThen_ok,run_sizeOf av.info,av.size];simp[dK,nT,MT av.info av.zero];simp only[madeCells]at h;simp[h,newRow,ca]

theorem agh{o:Oper}{a:Act}{T n base:Nat}{aM:c9}{t:z}{ps:Array (Nat×Operand)}{vs:List V}{l:List t.den}{ns:List Nat}{lm:Mem}(bI:fs P tab)(aY:o.op=.buildSlice T n ps)(bm:dQ tab T=some aM)(ae:aM.isSlice t=true)
  (aD:Inv tab O mem w S) (av:gj lm mem) (aR:fI tab O mem w S vs (ps.toList.map fun p=>a.eval p.2)) (bv:mv tab lm t n 0 (ps.toList.map (·.1)) vs=some (l,ns)) (aq:n*t.width<=16777216) (aB:vs.length=n\/t.qL=true)
  (ay:mem base=none) (dj:base∉ns):ec P o a w (eh tab O mem w S ((base,.arr t l)::gY ns) (.one (.own base))):=by
 obtain⟨e,i,bg,c0⟩:=j5 bI bm ae;obtain⟨gL,mJ,Ko,aev⟩:∃gL:List C,gL.length=t.width/\(vs.length=n\/gL=t.cells t.H)/\p6 (fun c y=>y.oneCell'=true/\(c=.undef\/dE tab w (ga O mem S ns) c y)) gL bg.cells.toList:=by
  by_cases b6:t.qL=true
  ·refine⟨t.cells t.H,jj _ _,.inr rfl,by simp[jj,c0.gW],fun j c aT=>?_⟩;obtain⟨y,I,G,Y⟩:=c0.N6 b6 j c aT;exact⟨y,I,G,.inr (Y _ _)⟩
  ·refine⟨List.replicate t.width .undef,by simp,.inl (aB.resolve_right b6),by simp[c0.gW],fun j c aT=>?_⟩;have lE:j<t.width:=by have:=(List.getElem?_eq_some_iff.1 aT).1;simpa using this
   simp[lE]at aT;have Sd:j<bg.cells.toList.length:=by simp[c0.gW,lE]
   exact⟨bg.cells.toList[j],List.getElem?_eq_getElem Sd,List.all_eq_true.1 c0.N7 _ (List.getElem_mem Sd),.inl aT.symm⟩
 obtain⟨c7,a1,bf,ck,eP,gg⟩:=aaU (lm:=lm) mJ n 0 _ vs l ns bv Ko [] (by simp);simp only[List.nil_append]at a1;have Ke:p6 (fun c y=>y.oneCell'=true/\(c=.undef\/dE tab w (ga O mem S ns) c y)) (rep n gL) (madeCells (if n*t.width=0 then #[]else bg.cells) (n*t.width)).toList:=by
  refine⟨by simp[E6,mJ,size_madeCells],fun q c aH=>?_⟩;have vE:q<n*t.width:=by have:=(List.getElem?_eq_some_iff.1 aH).1;rwa[E6,mJ]at this
  have mG:=c0.pos;have dj:¬n*t.width=0:=by omega
  have ac4:q=q/t.width*t.width+q%t.width:=by rw[Nat.mul_comm];exact(Nat.div_add_mod q t.width).symm
  have ac5:q%t.width<t.width:=Nat.mod_lt _ mG;have ac6:q/t.width<n:=Nat.div_lt_of_lt_mul (by rw[Nat.mul_comm];exact vE);have aA:gL[q%t.width]? = some c:=by
   have:=Jj (f:=fun(_:Unit)=>gL) (wd:=t.width) (fun _=>mJ) (List.replicate n ()) (q/t.width) (q%t.width) (by simpa using ac6) ac5;rw[<- ac4]at this;have DV:(List.replicate n ()).flatMap (fun _=>gL)=rep n gL:=by
    unfold rep;rw[List.flatMap_def,List.map_replicate]
   rw[DV,aH]at this;exact this.symm
  obtain⟨y,I,G⟩:=aev.2 _ c aA;have kE:bg.cells[q%t.width]? = some y:=by simpa using I
  have AJ:bg.cells[q%bg.cells.size]! = y:=by rw[c0.gW,getElem!_def,kE]
  exact⟨y,by simp[madeCells,dj,vE,AJ],G⟩
 obtain⟨cells,f1,f2⟩:=Jg (place:=fun j=>some (j*t.width,t.width)) c7 _ (ps.map fun p=>(p.1,a.eval p.2)).toList (rep n gL) _ _ Ke a1 (by simp:_=ps.toList.map (·.1)) (by
   have:=aR.len;simp[bf,this]) (fun j f v vv k9=>by
  obtain⟨rI,e1,cs,ds,el,cO,cL,rfl,gy,n8,sS,uy⟩:=gg j f vv;obtain⟨x,bL,b0⟩:=MN aR j e1 cL;simp only[List.getElem?_map,Option.map_eq_some_iff]at cO bL;obtain⟨e0,gm,hH⟩:=cO;obtain⟨fj,hW,qS⟩:=bL;rw[gm]at hW;cases hW;have cT:v=(e0.1,a.eval e0.2):=by
   simp only[Array.toList_map,List.getElem?_map,gm,Option.map_some]at k9;exact(Option.some.inj k9).symm
  subst cT;obtain⟨bp,bc⟩:=BL (qS▸b0) n8;obtain⟨_,d2,d3⟩:=FC aD av (fun i=>(a.eval e0.2).cells.toList[i]?) (fun i c hi=>by obtain⟨y,cK,cN,dA⟩:=bc i c hi;exact⟨y,by simpa using cK,cN,dA⟩) sS;refine⟨by simp[hH,gy],by simp[bp,d2],fun i c hi=>?_⟩;obtain⟨y,cK,cN,dA⟩:=d3 i c hi;exact⟨y,cK,cN,.inr (dA.mono (fun b ay=>ay.imp id fun⟨r,aw,h⟩=>⟨r,uy r aw,h⟩) (fun _ _=>rfl))⟩)
 obtain⟨er,hL⟩:=rJ (ns:=ns) aD;have oF:cW (gY ns) mem base=none:=by
  rcases oQ (mem:=mem) ns base with⟨I,_⟩|⟨_,G⟩
  ·exact absurd I dj
  ·rw[G];exact ay
 have az:(Loc.ez (.slice (some (ca w.heap.size 0)) n n)).block=some w.heap.size\/(Loc.ez (.slice (some (ca w.heap.size 0)) n n)).block=none:=.inl rfl;have dO:=q3 (O:=O) (S:=ga O mem S ns) (w:=w) (o:=.cells cells e) (B:=.arr t l) oF az;have fw:cells.size=n*t.width:=by
  have:=f2.1;have G:=agM a1;rw[E6,mJ]at G;simp only[Array.length_toList]at this;omega
 refine lN (s:=Instr.buildSlice T n (ps.map fun p=>(p.1,a.eval p.2))) (x:=.slice (some (ca w.heap.size 0)) n n) (w':=w.alloc (.cells cells e)) (by simp only[execOp,aY]) (Xd c0 n aq _ cells f1)
  ⟨mN base (.ez (.slice (some (ca w.heap.size 0)) n n)) O,ga O mem S ns,?_,?_,?_⟩
 ·rw[fz];exact er.trans dO
 ·rw[fz];refine r4 oF az hL (.inr ⟨w.heap.size,n,cells,e,by rw[eP],heap_alloc_new w _,by omega,?_,by omega,fun q j c aH aT=>?_⟩)
  ·have mG:=c0.pos;have:n*1<=n*t.width:=Nat.mul_le_mul_left n mG;unfold maxLen;omega
  ·have lE:j<t.width:=by rw[<- jj t (nth l q t.H)];exact(List.getElem?_eq_some_iff.1 aT).1
   have DV:=Jj (f:=t.cells) (wd:=t.width) (fun a=>jj t a) l q j aH lE;rw[afm l q t.H aH]at aT;rw[aT]at DV;obtain⟨y,cK,cN,dA⟩:=f2.2 _ c DV;refine⟨y,by simpa using cK,cN,(dA.resolve_left fun e=>?_).mono dO.sub (dO.keeps hL)⟩;subst e;have:=List.mem_of_getElem? aT
   revert this
   cases t<;>simp[z.cells]
 ·refine⟨rfl,by rw[fz,fm];exact(fun h=>by cases h),fun eI l' _=>hA⟩
end
end bF
end Go.Proofs.YtlbppjmekiemiabGreatDoor


/- The executor on data: what is read out of a slice; append. No condition. -/
namespace Go.Proofs.YtlbppjmekiemiabGreatDoor
namespace bF
section
variable {P:Program} {tab:cm} {O bU:dp} {mem fl:eb} {w w':World} {S S':Nat->Prop}

def Cells(tab:cm)(w:World)(S:Nat->Prop)(t:z)(l:List t.den)(ys:List Value):Prop :=
 ys.length=l.length*t.width/\(∀u∈ys,u.oneCell'=true)/\∀i j c,i<l.length->(t.cells (nth l i t.H))[j]? = some c->∃y,ys[i*t.width+j]? = some y/\dE tab w S c y

theorem Cells.mono{t:z}{l:List t.den}{ys:List Value}(h:Cells tab w S t l ys)(av:∀b,S b->S' b)(dd:∀b,S b->w'.heap[b]? = w.heap[b]?):Cells tab w' S' t l ys :=
 ⟨h.1,h.2.1,fun i j c hi aT=>by obtain⟨y,I,G⟩:=h.2.2 i j c hi aT;exact⟨y,I,G.mono av dd⟩⟩

theorem aag{t:z}{l:List t.den}(f:Nat->Value)(mG:0<t.width)(h:∀i j c,i<l.length->(t.cells (nth l i t.H))[j]? = some c->(f (i*t.width+j)).oneCell'=true/\dE tab w S c (f (i*t.width+j))) :
  Cells tab w S t l ((List.range (l.length*t.width)).map f):=by
 have idx:∀q,q<l.length*t.width->q/t.width<l.length/\q%t.width<t.width/\q/t.width*t.width+q%t.width=q:=fun q aH =>
  ⟨Nat.div_lt_of_lt_mul (by rw[Nat.mul_comm];exact aH),Nat.mod_lt _ mG,by rw[Nat.mul_comm];exact Nat.div_add_mod q t.width⟩
 have cell:∀i j,i<l.length->j<t.width->∃c,(t.cells (nth l i t.H))[j]? = some c:=fun i j _ aT=>KB (jj t _) j aT
 refine⟨by simp,fun u hu=>?_,fun i j c hi aT=>?_⟩
 ·simp only[List.mem_map,List.mem_range]at hu;obtain⟨q,aH,rfl⟩:=hu;obtain⟨I,G,Y⟩:=idx q aH;obtain⟨c,aA⟩:=cell _ _ I G;have:=(h _ _ c I aA).1;rwa[Y]at this
 ·have lE:j<t.width:=by rw[<- jj t (nth l i t.H)];exact(List.getElem?_eq_some_iff.1 aT).1
  have dX:i*t.width+j<l.length*t.width:=by
   have:(i+1)*t.width<=l.length*t.width:=Nat.mul_le_mul_right _ (by omega);rw[Nat.add_mul]at this;omega
  exact⟨f (i*t.width+j),by simp[dX],(h i j c hi aT).2⟩

theorem N0(t:z):0<t.width:=by cases t<;>simp[z.width]

theorem vW{t:z}{l:List t.den}{cap:Nat}{cur:Array Value}(hcap:l.length<=cap)(fw:cap*t.width<=cur.size)
  (h:∀i j c,i<l.length->(t.cells (nth l i t.H))[j]? = some c->∃y,cur[i*t.width+j]? = some y/\y.oneCell'=true/\dE tab w S c y) (lo hi:Nat) (I:lo<=hi) (G:hi<=l.length) :
  Cells tab w S t (aW l lo hi) ((cur.toList.drop (lo*t.width)).take ((hi-lo)*t.width)):=by
 have hlen:=sZ l lo hi G;have sz:lo*t.width+(hi-lo)*t.width=hi*t.width:=by rw[<- Nat.add_mul];congr 1;omega
 have tT:hi*t.width<=cap*t.width:=Nat.mul_le_mul_right _ (by omega);refine⟨by simp[hlen];omega,fun u hu=>?_,fun i j c rA aT=>?_⟩
 ·obtain⟨q,aH,rfl⟩:=List.getElem_of_mem hu;simp at aH;have sD:q<(hi-lo)*t.width:=by omega
  have mG:=N0 t;have aN:q/t.width<hi-lo:=Nat.div_lt_of_lt_mul (by rw[Nat.mul_comm];exact sD);have aX:q/t.width*t.width+q%t.width=q:=by rw[Nat.mul_comm];exact Nat.div_add_mod q t.width
  obtain⟨c,aA⟩:=KB (jj t (nth l (lo+q/t.width) t.H)) (q%t.width) (Nat.mod_lt _ mG);obtain⟨y,cK,cN,_⟩:=h _ _ c (by omega) aA;have:((cur.toList.drop (lo*t.width)).take ((hi-lo)*t.width))[q]? = some y:=by
   rw[List.getElem?_take_of_lt sD,List.getElem?_drop,<- cK,Nat.add_mul,Nat.add_assoc,aX];simp
  rw[List.getElem?_eq_getElem (by simp;omega)]at this;rw[Option.some.inj this];exact cN
 ·have lE:j<t.width:=by rw[<- jj t (nth (aW l lo hi) i t.H)];exact(List.getElem?_eq_some_iff.1 aT).1
  rw[Fi l lo hi i t.H (by omega)]at aT;obtain⟨y,cK,_,dA⟩:=h _ _ c (by omega) aT;have dX:i*t.width+j<(hi-lo)*t.width:=by
   have:(i+1)*t.width<=(hi-lo)*t.width:=Nat.mul_le_mul_right _ (by omega);rw[Nat.add_mul]at this;omega
  refine⟨y,?_,dA⟩;rw[List.getElem?_take_of_lt dX,List.getElem?_drop,<- cK,Nat.add_mul,Nat.add_assoc];simp

theorem W0{lm:Mem}{c:C}{x:Value}{rd:Gj}(av:gj lm mem)(aD:Inv tab O mem w S)(aG:cl tab O mem w S (.one c) x)(h:mS lm c=some rd)(ad:under rd.pre True) :
  ∃fX cap ys,x=.slice fX rd.l.length cap/\Cells tab w S rd.t rd.l ys/\∀q,q<=rd.l.length->∀k fb,(Builtin.firstCells rd.t.width q (.slice fX k fb)).run P w=.ok (ys.take (q*rd.t.width)).toArray w/\(Builtin.firstCells rd.t.width q (.slice fX k fb)).run P w.drew=.ok (ys.take (q*rd.t.width)).toArray w.drew:=by
 have empty:∀(fX:Option Addr) (cap:Nat) (t:z),∃ys,Cells tab w S t ([]:List t.den) ys/\∀q,q<=0->∀k fb,(Builtin.firstCells t.width q (.slice fX k fb)).run P w=.ok (ys.take (q*t.width)).toArray w/\(Builtin.firstCells t.width q (.slice fX k fb)).run P w.drew=.ok (ys.take (q*t.width)).toArray w.drew:=fun fX cap t=>by
  refine⟨[],⟨by simp,fun u hu=>by simp at hu,fun i j c hi=>by simp at hi⟩,fun q aH k fb=>?_⟩;have ac3:q=0:=by omega
  subst ac3;cases fX<;>simp[Builtin.firstCells,loadCells,loadCellsFrom]
 have IA:∀(b off n:Nat) (wd:Nat) (ys:List Value),ys.length=n*wd->(∀(j:Nat) v,ys[j]? = some v->w.cell? (ca b (off+j))=some v)->∀q,q<=n->(loadCells (ca b off) (q*wd)).run P w=.ok (ys.take (q*wd)).toArray w/\(loadCells (ca b off) (q*wd)).run P w.drew=.ok (ys.take (q*wd)).toArray w.drew:=fun b off n wd N3 qz tN q aH=>by
  have hle:q*wd<=n*wd:=Nat.mul_le_mul_right _ aH;have aA:∀(j:Nat) v,(N3.take (q*wd))[j]? = some v->w.cell? (ca b (off+j))=some v:=fun j v aT=>by
   have iK:j<q*wd:=by have:=(List.getElem?_eq_some_iff.1 aT).1;simp at this;omega
   rw[List.getElem?_take_of_lt iK]at aT;exact tN j v aT
  have az:(N3.take (q*wd)).length=q*wd:=by simp;omega
  generalize N3.take (q*wd)=ys at aA az |-;rw[<- az];have jk:∀(j:Nat) v,ys[j]? = some v->w.cell? ((ca b off).add j)=some v:=fun j v aT=>by rw[ca,Addr.add_lit];exact aA j v aT
  exact⟨run_loadCells_list w _ ys jk,run_loadCells_list w.drew _ ys (fun j v aT=>by rw[World.cell?_drew];exact jk j v aT)⟩
 cases c with
 |E eI d =>
  cases eI with
  |list t =>
   simp only[mS]at h;cases h;simp only;cases aG.2 with
   |empty t a cap =>
    obtain⟨ys,I,G⟩:=empty a cap t;exact⟨a,cap,ys,rfl,I,G⟩
   |list t l b off cap cs dw hcap aA aw =>
    have mG:=N0 t
    let f:Nat->Value:=fun q=>cs (q/t.width) (q%t.width)
    have b6:∀i j,j<t.width->f (i*t.width+j)=cs i j:=fun i j aT=>by
     simp only[f];rw[Nat.mul_comm,Nat.mul_add_div mG,Nat.div_eq_of_lt aT,Nat.mul_add_mod,Nat.mod_eq_of_lt aT,Nat.add_zero]
    have hcells:Cells tab w S t d ((List.range ((d:List t.den).length*t.width)).map f):=aag f mG fun i j c hi aT=>by
     have lE:j<t.width:=by rw[<- jj t (nth d i t.H)];exact(List.getElem?_eq_some_iff.1 aT).1
     rw[b6 i j lE];exact⟨(aw i j c hi aT).Bw,aw i j c hi aT⟩
    refine⟨_,cap,_,rfl,hcells,fun q aH k fb=>?_⟩;have:=IA b off (d:List t.den).length t.width ((List.range ((d:List t.den).length*t.width)).map f) (by simp) (fun j v aT=>by
     have iK:j<(d:List t.den).length*t.width:=by have:=(List.getElem?_eq_some_iff.1 aT).1;simpa using this
     simp[iK]at aT;rw[<- aT];have aN:j/t.width<(d:List t.den).length:=Nat.div_lt_of_lt_mul (by rw[Nat.mul_comm];exact iK);have aX:j/t.width*t.width+j%t.width=j:=by rw[Nat.mul_comm];exact Nat.div_add_mod j t.width
     have:=aA (j/t.width) (j%t.width) aN (Nat.mod_lt _ mG);rw[Nat.add_assoc,aX]at this;exact this) q aH
    exact this
  |_=>simp only[mS]at h;cases h
 |nil t =>
  simp only[mS]at h;cases h;obtain⟨_,ex⟩:=aG;obtain⟨ys,I,G⟩:=empty none 0 t;exact⟨none,0,ys,ex,I,G⟩
 |own r =>
  simp only[mS]at h;split at h<;>try cases h
  rename_i t l az;simp only;obtain⟨_,_,dP⟩:=uo av aD az aG;rcases dP with⟨ex,rfl⟩|⟨b,cap,cur,e,ex,ay,Y,aS,bj,bK⟩
  ·obtain⟨ys,I,G⟩:=empty none 0 t;exact⟨none,0,ys,ex,I,G⟩
  ·have hcells:=vW Y bj bK 0 l.length (Nat.zero_le _) (Nat.le_refl _);have dU:aW l 0 l.length=l:=by simp[aW]
   rw[dU]at hcells;refine⟨_,cap,_,ex,hcells,fun q aH k fb=>?_⟩;have qw:=hcells.1;exact IA b 0 l.length t.width _ qw (fun j v aT=>by
    have iK:j<l.length*t.width:=by rw[<- qw];exact(List.getElem?_eq_some_iff.1 aT).1
    refine cell?_at ay ?_;simp only[Nat.zero_mul,List.drop_zero,Nat.sub_zero]at aT;rw[List.getElem?_take_of_lt iK]at aT;simpa using aT) q aH
 |view r off n =>
  simp only[mS]at h;split at h<;>try cases h
  rename_i t l az;simp only at ad |-;have hle:off+n<=l.length:=ad.1;obtain⟨_,y,_,⟨a0,m0,ji,dI,jw,a1,bf,ck,eP,gg,g6⟩,dP⟩:=wG av aD az aG;have hlen:=ob l off n hle
  by_cases aq:n=0
  ·have bv:aW l off (off+n)=[]:=List.eq_nil_of_length_eq_zero (by omega);rw[bv];subst aq;obtain⟨ys,I,G⟩:=empty dI jw t;exact⟨dI,jw,ys,bf,I,G⟩
  ·rcases dP with⟨_,rfl⟩|⟨b,cap,cur,e,eK,ay,Y,aS,bj,bK⟩
   ·simp at hle;omega
   ·rw[eK]at a1;cases a1;have bl:=eP (by omega);subst bl;have hcells:=vW Y bj bK off (off+n) (by omega) hle;have qw:=hcells.1;rw[hlen];refine⟨_,jw,_,bf,hcells,fun q aH k fb=>?_⟩;rw[hlen]at qw;have:=IA b (0+off*t.width) n t.width _ qw (fun j v aT=>by
     have iK:j<n*t.width:=by rw[<- qw];exact(List.getElem?_eq_some_iff.1 aT).1
     refine cell?_at ay ?_;rw[List.getElem?_take_of_lt (by rw[show off+n-off=n by omega];exact iK),List.getElem?_drop]at aT;simpa using aT) q aH
    simpa[Builtin.firstCells,ca]using this
 |_=>simp only[mS]at h;cases h

theorem WZ{lm:Mem}{c:C}{x:Value}{rd:Gj}(av:gj lm mem)(aD:Inv tab O mem w S)(aG:cl tab O mem w S (.one c) x)(h:mS lm c=some rd)(ad:under rd.pre True) :
  ∃fX cap ys,x=.slice fX rd.l.length cap/\Cells tab w S rd.t rd.l ys/\∀k fb,(Builtin.firstCells rd.t.width rd.l.length (.slice fX k fb)).run P w=.ok ys.toArray w/\(Builtin.firstCells rd.t.width rd.l.length (.slice fX k fb)).run P w.drew=.ok ys.toArray w.drew:=by
 obtain⟨fX,cap,ys,I,G,Y⟩:=W0 (P:=P) av aD aG h ad;refine⟨fX,cap,ys,I,G,fun k fb=>?_⟩;have:=Y rd.l.length (Nat.le_refl _) k fb;rwa[List.take_of_length_le (by rw[G.1];exact Nat.le_refl _)]at this
end
end bF
end Go.Proofs.YtlbppjmekiemiabGreatDoor


/- The executor on data: append. No condition. -/
namespace Go.Proofs.YtlbppjmekiemiabGreatDoor
namespace bF
section
variable {P:Program} {tab:cm} {O bU:dp} {mem fl:eb} {w w':World} {S S':Nat->Prop}

theorem BN{T c2 e aX wd:Nat}{ty:TypeId}{i:TypeInfo}(bI:P.underlying T=some (.slice e))(im:P.underlying c2=some (.slice aX))(hi:P.info? e=some i)(fw:i.size=wd)(base:Option Addr)(k cap m:Nat)(fX:Option Addr)(g4:Nat)
  (ys:List Value) (b6:(Builtin.firstCells wd m (.slice fX m g4)).run P w=.ok ys.toArray w) (mI:k+m<=cap) (fL:match base with|some a=>(storeCells (a.add (k*wd)) ys).run P w=.ok () w' | none=>w'=w) :
  (Builtin.append_ #[T,c2] ty #[.slice base k cap,.slice fX m g4]).run P w=.ok (.slice base (k+m) cap) w':=by
 subst fw;cases base with
 |none =>
  simp only at fL;subst fL;simp[Builtin.append_,run_underlying bI,run_underlying im,sizeOf,typeInfo,hi,Builtin.lenOf,mI,b6]
 |some a =>
  simp only at fL;simp[Builtin.append_,run_underlying bI,run_underlying im,sizeOf,typeInfo,hi,Builtin.lenOf,mI,b6,fL]

theorem Xc{T c2 e aX wd:Nat}{ty:TypeId}{i:TypeInfo}{bg:Value}(bI:P.underlying T=some (.slice e))(im:P.underlying c2=some (.slice aX))(hi:P.info? e=some i)(dK:i.zero=some bg)(fw:i.size=wd)(base:Option Addr)(k cap m:Nat)(fX:Option Addr)(g4:Nat)
  (l6 ys:List Value) (aY:(Builtin.firstCells wd k (.slice base k cap)).run P w.drew=.ok l6.toArray w.drew) (b6:(Builtin.firstCells wd m (.slice fX m g4)).run P w.drew=.ok ys.toArray w.drew) (mI:¬k+m<=cap)
  (RX:(k+m)*i.bytes<=140737488355328) (mG:0<i.bytes) :
  (Builtin.append_ #[T,c2] ty #[.slice base k cap,.slice fX m g4]).run P w=.ok (.slice (some (ca w.heap.size 0)) (k+m) (grownCap w (k+m) cap e))
   (w.drew.alloc (.cells (l6.toArray++ys.toArray++Builtin.zeroCells bg.cells (grownCap w (k+m) cap e-(k+m))) e)):=by
 subst fw;have am8:k+m<=140737488355328:=Nat.le_trans (Nat.le_mul_of_pos_right _ mG) RX;have abJ:¬(9223372036854775807<((k:Int)+(m:Int))):=by omega
 have vw:=growslice_fits (bytes:=i.bytes) (show cap<k+m by omega) RX;have abI:¬(281474976710656<Builtin.nextslicecap (k+m) cap*i.bytes):=by omega
 simp[Builtin.append_,run_underlying bI,run_underlying im,sizeOf,typeInfo,zeroValue,hi,dK,Builtin.lenOf,mI,abJ,abI,Question.forced,aY,b6,newRow,grownCap,ca];congr 2;apply Array.ext';simp[List.append_assoc]

theorem Bn{r:Nat}{t:z}(aD:Inv tab O mem w S)(aw:mem r=none) :
  Ext O mem w S (mN r (.ez (.slice none 0 0)) O) (cW [(r,.arr t [])] mem) w S/\Inv tab (mN r (.ez (.slice none 0 0)) O) (cW [(r,.arr t [])] mem) w S:=by
 have a6:Ext O mem w S (mN r (.ez (.slice none 0 0)) O) (cW [(r,.arr t [])] mem) w S:=by
  refine⟨fun q aH=>?_,fun q gb iD I G=>?_,fun _ h=>h,Nat.le_refl _,fun _ _ _=>rfl,fun _ h=>.inl h,fun b ay=>?_,rfl,rfl,rfl⟩
  ·by_cases e:q=r
   ·subst e;exact absurd aw aH
   ·rw[ek e];exact aH
  ·by_cases e:q=r
   ·subst e;rw[aw]at I;cases I
   ·rw[ek e,I]at G;cases G;exact⟨je.refl _,fun _=>km e⟩
  ·obtain⟨q,l',I,G,Y⟩:=ay
   by_cases e:q=r
   ·subst e;rw[hA]at G;cases G;cases Y
   ·rw[km e]at G;exact .inl ⟨q,l',(l3 e).1 I,G,Y⟩
 refine⟨a6,fun q B' fG bl=>?_,fun q gT mH I G dY gI b aN aX ay gC=>?_,fun q I dY b aN ay dw=>?_,aD.lt,aD.pow⟩
 ·by_cases e:q=r
  ·subst e;rw[fm]at fG;cases fG;exact⟨_,hA,.inl ⟨rfl,rfl⟩⟩
  ·rw[ek e]at fG;obtain⟨l',aN,aX⟩:=aD.rel q B' fG bl;exact⟨l',(km e).trans aN,aX.ext a6 aD fun _ _=>rfl⟩
 ·by_cases e:q=r
  ·subst e;rw[hA]at aN;cases aN;cases ay
  ·by_cases cd:gT=r
   ·subst cd;rw[hA]at aX;cases aX;cases gC
   ·rw[km e]at aN;rw[km cd]at aX;exact aD.inj q gT mH ((l3 e).1 I) ((l3 cd).1 G) dY gI b aN aX ay gC
 ·by_cases e:q=r
  ·subst e;rw[hA]at aN;cases aN;cases ay
  ·rw[km e]at aN;exact aD.sep q ((l3 e).1 I) dY b aN ay dw

theorem Cells.append{t:z}{l m:List t.den}{xs ys:List Value}(I:Cells tab w S t l xs)(G:Cells tab w S t m ys):Cells tab w S t (cat l m) (xs++ys):=by
 refine⟨by simp[cat,I.1,G.1,Nat.add_mul],fun u hu=>?_,fun i j c hi aT=>?_⟩
 ·simp only[List.mem_append]at hu;exact hu.elim (I.2.1 u) (G.2.1 u)
 ·have lE:j<t.width:=by rw[<- jj t (nth (cat l m) i t.H)];exact(List.getElem?_eq_some_iff.1 aT).1
  by_cases JW:i<l.length
  ·have e:nth (cat l m) i t.H=nth l i t.H:=by simp[nth,cat,List.getD,List.getElem?_append_left JW]
   rw[e]at aT;obtain⟨y,cK,cN⟩:=I.2.2 i j c JW aT;have dX:i*t.width+j<xs.length:=(List.getElem?_eq_some_iff.1 cK).1;exact⟨y,by rw[List.getElem?_append_left dX];exact cK,cN⟩
  ·have e:nth (cat l m) i t.H=nth m (i-l.length) t.H:=by simp[nth,cat,List.getD,List.getElem?_append_right (Nat.le_of_not_lt JW)]
   rw[e]at aT;obtain⟨y,cK,cN⟩:=G.2.2 (i-l.length) j c (by simp[cat]at hi;omega) aT;have aB:l.length*t.width+(i-l.length)*t.width=i*t.width:=by rw[<- Nat.add_mul];congr 1;omega
   refine⟨y,?_,cN⟩;rw[List.getElem?_append_right (by rw[I.1];omega),I.1,<- cK];congr 1;omega

theorem Pe{t:z}{l:List t.den}{xs:List Value}{b cap:Nat}{cur:Array Value}{e:TypeId}(h:Cells tab w S t l xs)(ay:w.heap[b]? = some (.cells cur e (0,0)))(I:l.length<=cap)(G:cap<=maxLen)(Y:cap*t.width<=cur.size)
  (aS:∀q,q<xs.length->cur[q]? = xs[q]?):p3 tab O mem w S (.arr t l) (.ez (.slice (some (ca b 0)) l.length cap)):=by
 refine .inr ⟨b,cap,cur,e,rfl,ay,I,G,Y,fun i j c hi aT=>?_⟩;obtain⟨y,cK,cN⟩:=h.2.2 i j c hi aT;have dX:i*t.width+j<xs.length:=(List.getElem?_eq_some_iff.1 cK).1;exact⟨y,by rw[aS _ dX];exact cK,cN.Bw,cN⟩

theorem agW{α:Type}(l m:List α)(off i:Nat)(d:α)(h:off+m.length<=l.length)(hi:i<l.length):nth (put l off m) i d=if off<=i/\i<off+m.length then nth m (i-off) d else nth l i d:=by
 simp only[nth,List.getD_eq_getElem?_getD,put];congr 1
 by_cases bp:i<off
 ·rw[if_neg (by omega),List.append_assoc,List.getElem?_append_left (by simp;omega),List.getElem?_take_of_lt bp]
 ·by_cases bc:i<off+m.length
  ·rw[if_pos ⟨by omega,bc⟩,List.append_assoc,List.getElem?_append_right (by simp;omega),List.getElem?_append_left (by simp;omega),show i-(l.take off).length=i-off by simp;omega]
  ·rw[if_neg (by omega),List.getElem?_append_right (by simp;omega),List.getElem?_drop,show off+m.length+(i-(l.take off++m).length)=i by simp;omega]

theorem EJ{α:Type}(l m:List α)(off:Nat)(h:off+m.length<=l.length):(put l off m).length=l.length:=by simp[put];omega

theorem EG{r b off cap:Nat}{t:z}{l k:List t.den}{cur:Array Value}{e:TypeId}{ys:List Value}(fK:mem r=some (.arr t l))(dn:O r=some (.ez (.slice (some (ca b 0)) l.length cap)))(ay:w.heap[b]? = some (.cells cur e (0,0)))
  (I:l.length<=cap) (G:cap<=maxLen) (Y:cap*t.width<=cur.size) (aS:∀i j c,i<l.length->(t.cells (nth l i t.H))[j]? = some c->∃y,cur[i*t.width+j]? = some y/\y.oneCell'=true/\dE tab w S c y)
  (ae:Cells tab w S t k ys) (hle:off+k.length<=l.length) (aD:Inv tab O mem w S) :
  ∃w',(storeCells (ca b (off*t.width)) ys).run P w=.ok () w'/\Ext O mem w S O (cW [(r,.arr t (put l off k))] mem) w' S/\Inv tab O (cW [(r,.arr t (put l off k))] mem) w' S:=by
 have vw:off*t.width+ys.length<=cur.size:=by
  rw[ae.1,<- Nat.add_mul];exact Nat.le_trans (Nat.mul_le_mul_right _ (by omega)) Y
 have fL:=run_storeCells_at P b (off*t.width) e ys 0 cur w ay (by simpa using vw) ae.2.1;simp only[Nat.add_zero]at fL;generalize hG:(cur.toList.take (off*t.width)++ys++cur.toList.drop (off*t.width+ys.length)).toArray=eT at fL;obtain⟨cO,cL,eH,gy⟩:=zh (w:=w) b eT;have qB:∀k,k≠b->(w.setRow b eT).heap[k]? = w.heap[k]?:=fun k ae=>setRow_other w b k eT ae
 have a6:=zy (S:=S) (B':=.arr t (put l off k)) fK trivial dn (b:=b) rfl rfl cO qB cL eH gy;have jm:=EJ l k off hle;have fw:eT.size=cur.size:=by subst hG;simp;omega
 refine⟨_,fL,a6,zz fK trivial dn rfl cO qB a6 aD (.inr ⟨b,cap,eT,e,by rw[jm],setRow_heap w b cur eT e (0,0) ay,by rw[jm];exact I,G,by rw[fw];exact Y,fun i j c hi aA=>?_⟩)⟩;rw[jm]at hi;have lE:j<t.width:=by rw[<- jj t (nth (put l off k) i t.H)];exact(List.getElem?_eq_some_iff.1 aA).1
 rw[agW l k off i t.H hle hi]at aA;have mono:∀{zX:C} {u:Value},dE tab w S zX u->dE tab (w.setRow b eT) S zX u:=fun h=>h.mono (fun _ h=>h) (a6.keeps aD)
 have kE:∀q:Nat,eT[q]? = (cur.toList.take (off*t.width)++ys++cur.toList.drop (off*t.width+ys.length))[q]?:=fun q=>by subst hG;simp
 rw[kE];have rE:=ae.1
 by_cases kF:off<=i/\i<off+k.length
 ·rw[if_pos kF]at aA;obtain⟨y,a1,bf⟩:=ae.2.2 (i-off) j c (by omega) aA;have Kd:(i-off)*t.width+j<ys.length:=(List.getElem?_eq_some_iff.1 a1).1;have aN:off*t.width+((i-off)*t.width+j)=i*t.width+j:=by
   rw[<- Nat.add_assoc,<- Nat.add_mul];congr 2;omega
  refine⟨y,?_,ae.2.1 y (List.mem_of_getElem? a1),mono bf⟩;have J7:off*t.width<=cur.size:=by omega
  rw[<- aN,List.append_assoc,List.getElem?_append_right (by simp;omega),List.getElem?_append_left (by simp;omega)];rw[<- a1];congr 1;simp;omega
 ·rw[if_neg kF]at aA;obtain⟨y,a1,bf,ck⟩:=aS i j c hi aA;refine⟨y,?_,bf,mono ck⟩;have dX:i*t.width+j<cur.size:=(Array.getElem?_eq_some_iff.1 a1).1
  by_cases bp:i<off
  ·have:(i+1)*t.width<=off*t.width:=Nat.mul_le_mul_right _ (by omega);rw[Nat.add_mul]at this;rw[List.append_assoc,List.getElem?_append_left (by simp;omega),List.getElem?_take_of_lt (by omega)];simpa using a1
  ·have:(off+k.length)*t.width<=i*t.width:=Nat.mul_le_mul_right _ (by omega);rw[Nat.add_mul]at this;rw[List.getElem?_append_right (by simp;omega),List.getElem?_drop];have aN:off*t.width+ys.length+(i*t.width+j-(cur.toList.take (off*t.width)++ys).length)=i*t.width+j:=by simp;omega
   rw[aN];simpa using a1

theorem af7{o:Oper}{a:Act}{s x:Operand}{T c2 base:Nat}{aM jJ:c9}{c d:C}{lm:Mem}{p:Option Prop}{v:V}{m:Mem}{u:z}(bI:fs P tab)(aY:o.op=.call { callee:=.builtin .append,args:=#[s,x],argTypes:=#[T,c2] })
  (bm:dQ tab T=some aM) (hu:dQ tab c2=some jJ) (vz:jJ.elem=some u) (aD:Inv tab O mem w S) (av:gj lm mem) (ay:mem base=none)
  (dw:cl tab O mem w S (.one c) (a.eval s)) (fV:cl tab O mem w S (.one d) (a.eval x)) (h:zN aM base aM.bytes lm c d=some (p,v,m)) (ad:under p True) :
  ec P o a w (eh tab O mem w S m v):=by
 unfold zN at h;split at h<;>try cases h
 rename_i oX t ej vF;split at h<;>try cases h
 rename_i ae;obtain⟨e,i,bg,c0⟩:=j5 bI bm ae;have im:∃aX,P.underlying c2=some (.slice aX):=by
  have ef:=(bI.ok c2 jJ hu).kind;unfold c9.elem at vz;cases h7:jJ.hy with
  |slice eI cd=>rw[h7]at ef;exact⟨cd,ef.1⟩
  |_=>rw[h7]at vz;cases vz
 obtain⟨aX,im⟩:=im;have anP:=N0 t;have main:∀(l0:List t.den) (dT:Option Addr) (cap:Nat),a.eval s=.slice dT l0.length cap->under oX True->(l0.length+ej.length)*aM.bytes<=140737488355328 ->
   ((dT=none/\l0=[]/\cap=0/\(m=[(base,.arr t (cat l0 ej))]\/∃r l,mem r=some (.arr t l)/\O r=some (.ez (.slice none 0 0))/\m=[(r,.dead),(base,.arr t (cat l0 ej))])) \/
    (∃r l b ji cur cd,mem r=some (.arr t l)/\O r=some (.ez (.slice (some (ca b 0)) l.length ji))/\m=[(r,.dead),(base,.arr t (cat l0 ej))]/\dT=some (ca b 0)/\cap<=ji/\l0.length<=cap/\ji<=maxLen /\
     w.heap[b]? = some (.cells cur cd (0,0))/\ji*t.width<=cur.size/\Cells tab w S t l0 (cur.toList.take (l0.length*t.width)))) ->
   v=.one (.own base)->ec P o a w (eh tab O mem w S m v):=by
  intro l0 dT cap es Ka vr AN aR;subst aR;obtain⟨fX,g4,ys,ex,hcells,g0⟩:=WZ (P:=P) av aD fV vF Ka;simp only at ex hcells g0;have fin:∀(e1:Value) (w':World),(Builtin.append_ #[T,c2] o.type #[.slice dT l0.length cap,.slice fX ej.length g4]).run P w=.ok e1 w'->eh tab O mem w S m (.one (.own base)) e1 w'->ec P o a w (eh tab O mem w S m (.one (.own base))):=fun e1 w' aw bl =>
   g3 (x:=e1) (w':=w') (by simp[execOp,aY,resolve,invoke,builtin,es,ex,aw]) bl
  have bound:l0.length+ej.length<=140737488355328:=Nat.le_trans (Nat.le_mul_of_pos_right _ c0.CG) vr
  by_cases mI:l0.length+ej.length<=cap
  ·rcases AN with⟨rfl,rfl,rfl,aB⟩|⟨r,l,b,ji,cur,cd,fK,dn,rfl,rfl,tN,DX,JK,hbk,fw,hold⟩
   ·-- nothing goes to nothing
    have ac9:ej=[]:=List.eq_nil_of_length_eq_zero (by simpa using mI);subst ac9;have aw:=BN (P:=P) (w:=w) (ty:=o.type) c0.hJ im c0.info c0.size none 0 0 0 fX g4 ys (g0 0 g4).1 (by omega) rfl;rcases aB with rfl|⟨r,l,fK,dn,rfl⟩
    ·obtain⟨a6,hK⟩:=Bn (t:=t) aD ay;exact fin _ _ aw ⟨_,S,a6,hK,rfl,by rw[fm];exact(fun h=>by cases h),fun _ _ _=>hA⟩
    ·obtain⟨a6,ry⟩:=EH (B':=.arr t (cat [] [])) (l':=.ez (.slice none 0 0)) (w':=w) fK trivial ay dn rfl rfl (fun _ _=>rfl) rfl rfl rfl aD;refine fin _ _ aw ⟨_,S,a6,ry (.inl ⟨rfl,rfl⟩),rfl,?_,fun _ _ _=>hA⟩;have dj:base≠r:=fun e=>by subst e;rw[fK]at ay;cases ay
     rw[fz,ek dj,fm];exact(fun h=>by cases h)
   ·-- it fits
    have vw:l0.length*t.width+ys.length<=cur.size:=by
     rw[hcells.1,<- Nat.add_mul];exact Nat.le_trans (Nat.mul_le_mul_right _ (by omega)) fw
    have fL:=run_storeCells_at P b (l0.length*t.width) cd ys 0 cur w hbk (by simpa using vw) hcells.2.1;simp only[Nat.add_zero]at fL;generalize hG:(cur.toList.take (l0.length*t.width)++ys++cur.toList.drop (l0.length*t.width+ys.length)).toArray=eT at fL;obtain⟨cO,cL,eH,gy⟩:=zh (w:=w) b eT;have aw:=BN (P:=P) (w:=w) (w':=w.setRow b eT) (ty:=o.type) c0.hJ im c0.info c0.size (some (ca b 0)) l0.length cap ej.length fX g4 ys (g0 _ g4).1 mI (by simpa[ca,Addr.add_lit]using fL);obtain⟨a6,ry⟩:=EH (B':=.arr t (cat l0 ej)) (l':=.ez (.slice (some (ca b 0)) (l0.length+ej.length) cap)) (w':=w.setRow b eT) fK trivial ay dn rfl cO (fun k ae=>setRow_other w b k eT (fun e=>ae (by rw[e];rfl))) cL eH gy aD;have dj:base≠r:=fun e=>by subst e;rw[fK]at ay;cases ay
    refine fin _ _ aw ⟨_,S,a6,ry ?_,rfl,?_,fun _ _ _=>hA⟩
    ·have aA:=(hold.append hcells).mono (S':=S) (w':=w.setRow b eT) a6.sub (a6.keeps aD);have cS:(cat l0 ej).length=l0.length+ej.length:=by simp[cat]
     rw[<- cS];refine Pe aA (setRow_heap w b cur eT cd (0,0) hbk) (by rw[cS];exact mI) (by omega) ?_ (fun q aH=>?_)
     ·have:eT.size=cur.size:=by
       subst hG;have:=hold.1;simp at this |-;omega
      rw[this];exact Nat.le_trans (Nat.mul_le_mul_right _ tN) fw
     ·subst hG;rw[List.getElem?_toArray,List.getElem?_append_left aH]
    ·rw[fz,ek dj,fm];exact(fun h=>by cases h)
  ·-- a new array
   obtain⟨l6,hold,sB⟩:∃l6,Cells tab w S t l0 l6/\(Builtin.firstCells t.width l0.length (.slice dT l0.length cap)).run P w.drew=.ok l6.toArray w.drew:=by
    rcases AN with⟨rfl,rfl,rfl,_⟩|⟨r,l,b,ji,cur,cd,fK,dn,_,rfl,tN,DX,JK,hbk,fw,hold⟩
    ·exact⟨[],⟨by simp,fun u hu=>by simp at hu,fun i j c hi=>by simp at hi⟩,by simp[Builtin.firstCells]⟩
    ·refine⟨_,hold,?_⟩;have:=run_loadCells_list (P:=P) w.drew (ca b 0) (cur.toList.take (l0.length*t.width)) (fun j v aT=>by
      rw[World.cell?_drew,ca,Addr.add_lit,Nat.zero_add];refine cell?_at hbk ?_;have iK:j<l0.length*t.width:=by
       have:=(List.getElem?_eq_some_iff.1 aT).1;simp at this;omega
      rw[List.getElem?_take_of_lt iK]at aT;simpa using aT)
     rw[hold.1]at this;simpa[Builtin.firstCells]using this
   have aw:=Xc (P:=P) (w:=w) (ty:=o.type) c0.hJ im c0.info c0.zero c0.size dT l0.length cap ej.length fX g4 l6 ys sB (g0 _ g4).2 mI (by rw[c0.bytes];exact vr) (by rw[c0.bytes];exact c0.CG);generalize hG:l6.toArray++ys.toArray++Builtin.zeroCells bg.cells (grownCap w (l0.length+ej.length) cap e-(l0.length+ej.length))=eT at aw;have vx:=grownCap_ge w (l0.length+ej.length) cap e;have qv:=grownCap_le_maxLen w (l0.length+ej.length) cap e (by unfold maxLen;omega);generalize grownCap w (l0.length+ej.length) cap e=uj at aw vx qv hG;have cS:(cat l0 ej).length=l0.length+ej.length:=by simp[cat]
   have JL:eT.size=uj*t.width:=by
    subst hG;simp only[Array.size_append,List.size_toArray,size_zeroCells,c0.gW,hold.1,hcells.1,<- Nat.add_mul];congr 1;omega
   have kE:∀q,q<(l6++ys).length->eT[q]? = (l6++ys)[q]?:=fun q aH=>by
    subst hG;rw[Array.getElem?_append_left (by simpa using aH)];simp
   have done:∀(S0:Nat->Prop) (mem0:eb),Ext O mem w S O mem0 w S0->Inv tab O mem0 w S0->mem0 base=none->cW m mem=cW [(base,.arr t (cat l0 ej))] mem0->ec P o a w (eh tab O mem w S m (.one (.own base))):=fun S0 mem0 mi pb qt jD=>by
    have az:(Loc.ez (.slice (some (ca w.heap.size 0)) (l0.length+ej.length) uj)).block=some w.heap.size\/(Loc.ez (.slice (some (ca w.heap.size 0)) (l0.length+ej.length) uj)).block=none:=.inl rfl;have sE:(w.drew.alloc (.cells eT e)).heap=(w.alloc (.cells eT e)).heap:=rfl;have qY:Ext O mem0 w S0 O mem0 w.drew S0:=⟨fun _ h=>h,(Ext.refl (O:=O) (mem:=mem0) (w:=w) (S:=S0)).kinds,fun _ h=>h,Nat.le_refl _,fun _ _ _=>rfl,fun _ h=>.inl h,fun _ h=>.inl h,rfl,rfl,rfl⟩
    have Id:Inv tab O mem0 w.drew S0:=⟨fun q B I G=>by obtain⟨l',aN,aX⟩:=pb.rel q B I G;exact⟨l',aN,aX.ext qY pb fun _ _=>rfl⟩,pb.inj,pb.sep,pb.lt,pb.pow.of_heap rfl⟩
    have er:=q3 (O:=O) (S:=S0) (w:=w.drew) (o:=.cells eT e) (B:=.arr t (cat l0 ej)) qt az;refine fin _ _ aw ⟨_,S0,by rw[jD];exact(mi.trans qY).trans er,by
     rw[jD];refine r4 qt az Id ?_;have aA:=(((hold.append hcells).mono (S':=S0) (w':=w) mi.sub (mi.keeps aD)).mono (S':=S0) (w':=w.drew) qY.sub (qY.keeps pb)).mono (S':=S0) (w':=w.drew.alloc (.cells eT e)) er.sub (er.keeps Id);rw[<- cS];exact Pe aA (heap_alloc_new w.drew _) (by rw[cS];exact vx) qv (by omega) kE,rfl,by rw[jD,fm];exact(fun h=>by cases h),fun _ _ _=>hA⟩
   have YH:∀r l,mem r=some (.arr t l)->m=[(r,.dead),(base,.arr t (cat l0 ej))]->ec P o a w (eh tab O mem w S m (.one (.own base))):=fun r l fK aB=>by
    have dj:base≠r:=fun e=>by subst e;rw[fK]at ay;cases ay
    obtain⟨mi,pb⟩:=Ta aD (r:=r) (by rw[fK];exact(fun h=>by cases h)) False;refine done _ _ mi pb (by rw[ek dj];exact ay) ?_;subst aB;funext q
    by_cases bp:q=r
    ·subst bp;rw[fz,fm,ek (Ne.symm dj),fm]
    ·by_cases bc:q=base
     ·subst bc;rw[fz,ek bp,fm,fm]
     ·rw[fz,ek bp,ek bc,ek bc,ek bp]
   rcases AN with⟨_,_,_,aB⟩|⟨r,l,b,ji,cur,cd,fK,dn,aB,_⟩
   ·rcases aB with aB|⟨r,l,fK,_,aB⟩
    ·exact done S mem Ext.refl aD ay (by rw[aB])
    ·exact YH r l fK aB
   ·exact YH r l fK aB
 have u6:∀{oX:Option Prop} {q:Prop},under (some (both oX q)) True->under oX True/\q:=fun {oX q} h=>by
  cases oX with
  |none=>exact⟨trivial,h.1⟩
  |some p=>exact⟨⟨h.1.1,trivial⟩,h.1.2⟩
 cases c with
 |nil eI =>
  simp only at h;split at h<;>try cases h
  rename_i nd;subst nd;obtain⟨I,G⟩:=u6 ad;obtain⟨_,es⟩:=dw;exact main [] none 0 es I (by simpa[len]using G) (.inl ⟨rfl,rfl,rfl,.inl rfl⟩) rfl
 |own r =>
  simp only at h;split at h<;>try cases h
  rename_i eI l az;split at h<;>try cases h
  rename_i nd;subst nd;obtain⟨I,G⟩:=u6 ad;obtain⟨fK,dn,dP⟩:=uo av aD az dw;rcases dP with⟨es,rfl⟩|⟨b,cap,cur,cd,es,hbk,ck,eP,gg,g6⟩
  ·exact main [] none 0 es I (by simpa[len]using G) (.inl ⟨rfl,rfl,rfl,.inr ⟨r,[],fK,by rw[dn,es],rfl⟩⟩) rfl
  ·have aA:=vW ck gg g6 0 l.length (Nat.zero_le _) (Nat.le_refl _);have dU:aW l 0 l.length=l:=by simp[aW]
   rw[dU]at aA;simp only[Nat.zero_mul,List.drop_zero,Nat.sub_zero]at aA;exact main l _ cap es I (by simpa[len]using G) (.inr ⟨r,l,b,cap,cur,cd,fK,by rw[dn,es],rfl,rfl,Nat.le_refl _,ck,eP,hbk,gg,aA⟩) rfl
 |cut r n =>
  simp only at h;split at h<;>try cases h
  rename_i eI l az;split at h<;>try cases h
  rename_i nd;subst nd;obtain⟨I,G,Y⟩:=u6 ad;have pG:n<=l.length:=G;have hlen:(aW l 0 n).length=n:=by rw[sZ l 0 n pG];omega
  have aB:=wv av az;obtain⟨_,_,aG⟩:=dw;obtain⟨a0,m0,ji,dn,es⟩:=aG _ l aB;obtain⟨l',aN,dP⟩:=aD.rel r _ aB trivial;rw[dn]at aN;cases aN;rcases dP with⟨eK,rfl⟩|⟨b,cap,cur,cd,eK,hbk,ck,eP,gg,g6⟩
  ·cases eK;have qz:n=0:=by simpa using pG
   subst qz;exact main [] none 0 (by simpa using es) I (by simpa[len]using Y) (.inl ⟨rfl,rfl,rfl,.inr ⟨r,[],aB,dn,rfl⟩⟩) rfl
  ·cases eK;have aA:=vW ck gg g6 0 n (Nat.zero_le _) pG;simp only[Nat.zero_mul,List.drop_zero,Nat.sub_zero]at aA;exact main _ _ n (by rw[hlen];exact es) I (by rw[hlen];exact Y) (.inr ⟨r,l,b,_,cur,cd,aB,dn,rfl,rfl,by omega,by rw[hlen];exact Nat.le_refl _,eP,hbk,gg,by rw[hlen];exact aA⟩) rfl
 |view r off n =>
  cases off with
  |succ off=>simp only at h;cases h
  |zero =>
   simp only at h;split at h<;>try cases h
   rename_i eI l az;split at h<;>try cases h
   rename_i nd;subst nd;obtain⟨fK,y,dn,⟨a0,m0,ji,dI,jw,bL,b0,dm,e3,h8,jF,l1⟩,dP⟩:=wG av aD az dw;have bl:=dm rfl;subst bl;split at h<;>cases h
   ·-- a piece of the same array: in place
    obtain⟨I,G⟩:=u6 ad;have G:n+ej.length<=l.length:=G;obtain⟨fX,g4,ys,ex,hcells,g0⟩:=WZ (P:=P) av aD fV vF I;simp only at ex hcells g0;have dj:base≠r:=fun e=>by subst e;rw[fK]at ay;cases ay
    have jD:cW [(r,bS.arr t (put l n ej)),(base,.arr t [])] mem=cW [(base,.arr t [])] (cW [(r,.arr t (put l n ej))] mem):=by
     funext q
     by_cases bp:q=r
     ·subst bp;rw[fz,fm,ek (Ne.symm dj),fm]
     ·by_cases bc:q=base
      ·subst bc;rw[fz,ek bp,fm,fm]
      ·rw[fz,ek bp,ek bc,ek bc,ek bp]
    have fin:∀(w':World),(Builtin.append_ #[T,c2] o.type #[.slice dI n jw,.slice fX ej.length g4]).run P w=.ok (.slice dI (n+ej.length) jw) w' ->
      Ext O mem w S O (cW [(r,.arr t (put l n ej))] mem) w' S->Inv tab O (cW [(r,.arr t (put l n ej))] mem) w' S ->
      ec P o a w (eh tab O mem w S [(r,.arr t (put l n ej)),(base,.arr t [])] (.one (.view r 0 (n+ej.length)))):=fun w' aw a6 hK=>by
     have gC:cW [(r,bS.arr t (put l n ej))] mem base=none:=by rw[ek dj];exact ay
     obtain⟨dO,ig⟩:=Bn (t:=t) hK gC;refine g3 (x:=.slice dI (n+ej.length) jw) (w':=w') (by simp[execOp,aY,resolve,invoke,builtin,b0,ex,aw]) ⟨_,S,by rw[jD];exact a6.trans dO,by rw[jD];exact ig,rfl,?_⟩;have kE:cW [(r,bS.arr t (put l n ej)),(base,.arr t [])] mem r=some (.arr t (put l n ej)):=by rw[fz,fm]
     refine⟨by rw[kE];exact(fun h=>by cases h),fun eI l' hf=>?_⟩;rw[kE]at hf;cases hf;have AX:m0=l.length:=by
      rcases dP with⟨eK,rfl⟩|⟨b,cap,cur,cd,eK,_⟩
      ·rw[eK]at bL;cases bL;rfl
      ·rw[eK]at bL;cases bL;rfl
     subst AX;refine⟨y,by rw[km (Ne.symm dj)];exact dn,dI,l.length,ji,dI,jw,bL,rfl,fun _=>rfl,fun ad=>?_,by omega,by omega,by omega⟩;rcases dP with⟨eK,rfl⟩|⟨b,cap,cur,cd,eK,_⟩
     ·rw[eK]at bL;cases bL;rfl
     ·rw[eK]at bL;cases bL;simp[ca]
    rcases dP with⟨eK,dU⟩|⟨b,cap,cur,cd,eK,hbk,ck,eP,gg,g6⟩
    ·subst dU;simp at G;obtain⟨rfl,D7⟩:=G;have D7:ej=[]:=by simpa using D7
     subst D7;rw[eK]at bL;cases bL;have aN:cW [(r,bS.arr t (put ([]:List t.den) 0 []))] mem=mem:=by
      funext q
      by_cases eq:q=r
      ·subst eq;rw[fm,fK];rfl
      ·rw[ek eq]
     refine fin w (BN (P:=P) (w:=w) (ty:=o.type) c0.hJ im c0.info c0.size none 0 jw 0 fX g4 ys (g0 0 g4).1 (by omega) rfl) ?_ ?_
     ·rw[aN];exact Ext.refl
     ·rw[aN];exact aD
    ·rw[eK]at bL;cases bL;obtain⟨w',cO,cL,eH⟩:=EG (P:=P) (off:=n) fK (by rw[dn,eK]) hbk ck eP gg g6 hcells G aD;exact fin w' (BN (P:=P) (w:=w) (w':=w') (ty:=o.type) c0.hJ im c0.info c0.size (some (ca b 0)) n jw ej.length fX g4 ys (g0 _ g4).1 (by omega) (by simpa[ca,Addr.add_lit]using cO)) cL eH
   ·obtain⟨I,G,Y⟩:=u6 ad;have pG:n<=l.length:=G;have hlen:(aW l 0 n).length=n:=by rw[sZ l 0 n pG];omega
    rcases dP with⟨eK,rfl⟩|⟨b,cap,cur,cd,eK,hbk,ck,eP,gg,g6⟩
    ·have qz:n=0:=by simpa using pG
     subst qz;rw[eK]at bL;cases bL;have tN:jw=0:=by omega
     subst tN;exact main [] none 0 (by simpa using b0) I (by simpa[len]using Y) (.inl ⟨rfl,rfl,rfl,.inr ⟨r,[],fK,by rw[dn,eK],rfl⟩⟩) rfl
    ·rw[eK]at bL;cases bL;have aA:=vW ck gg g6 0 n (Nat.zero_le _) pG;simp only[Nat.zero_mul,List.drop_zero,Nat.sub_zero]at aA;exact main _ _ jw (by rw[hlen];exact b0) I (by rw[hlen];exact Y) (.inr ⟨r,l,b,_,cur,cd,fK,by rw[dn,eK],rfl,rfl,by omega,by rw[hlen];exact h8,eP,hbk,gg,by rw[hlen];exact aA⟩) rfl
 |_=>simp only at h;cases h
end
end bF
end Go.Proofs.YtlbppjmekiemiabGreatDoor


/- The executor on data: copy, clear. No condition. -/
namespace Go.Proofs.YtlbppjmekiemiabGreatDoor
namespace bF
section
variable {P:Program} {tab:cm} {O bU:dp} {mem fl:eb} {w w':World} {S S':Nat->Prop}

theorem Xe{T e wd:Nat}{ts:Array TypeId}{ty:TypeId}{i:TypeInfo}(oM:ts[0]? = some T)(bI:P.underlying T=some (.slice e))(hi:P.info? e=some i)(fw:i.size=wd)(base:Option Addr)(dl aaF:Nat)(fX:Option Addr)(m g4:Nat)
  (ys:List Value) (b6:(Builtin.firstCells wd (Nat.min m dl) (.slice fX m g4)).run P w=.ok ys.toArray w) (fL:match base with|some a=>(storeCells a ys).run P w=.ok () w' | none=>w'=w) :
  (Builtin.copy_ ts ty #[.slice base dl aaF,.slice fX m g4]).run P w=.ok (.int .i64 ((Nat.min m dl:Nat):Int)) w':=by
 subst fw;cases base with
 |none =>
  simp only at fL;subst fL;simp[Builtin.copy_,oM,run_underlying bI,sizeOf,typeInfo,hi,Builtin.lenOf,b6,goInt]
 |some a =>
  simp only at fL;simp[Builtin.copy_,oM,run_underlying bI,sizeOf,typeInfo,hi,Builtin.lenOf,b6,fL,goInt]

theorem Cells.take{t:z}{m:List t.den}{ys:List Value}(h:Cells tab w S t m ys)(q:Nat)(aH:q<=m.length):Cells tab w S t (aW m 0 q) (ys.take (q*t.width)):=by
 obtain⟨I,G,Y⟩:=h;have az:=sZ m 0 q aH;have hle:q*t.width<=m.length*t.width:=Nat.mul_le_mul_right _ aH;refine⟨by rw[az];simp;omega,fun u hu=>G u (List.mem_of_mem_take hu),fun i j c hi aA=>?_⟩;rw[az]at hi;rw[Fi m 0 q i t.H (by omega),Nat.zero_add]at aA;have lE:j<t.width:=by rw[<- jj t (nth m i t.H)];exact(List.getElem?_eq_some_iff.1 aA).1
 obtain⟨y,a1,bf⟩:=Y i j c (by omega) aA;have dX:i*t.width+j<q*t.width:=by
  have:(i+1)*t.width<=q*t.width:=Nat.mul_le_mul_right _ (by omega);rw[Nat.add_mul]at this;omega
 exact⟨y,by rw[List.getElem?_take_of_lt dX];exact a1,bf⟩

theorem ajo{α:Type}(l:List α)(lo:Nat):aW l lo 0=[]:=by simp[aW]
theorem agV{α:Type}(l:List α)(off:Nat):put l off []=l:=by simp[put]

theorem agr{o:Oper}{a:Act}{s x:Operand}{T c2:Nat}{aM:c9}{c d:C}{lm:Mem}{p:Option Prop}{v:V}{m:Mem}(bI:fs P tab)(aY:o.op=.call { callee:=.builtin .copy,args:=#[s,x],argTypes:=#[T,c2] })
  (bm:dQ tab T=some aM) (aD:Inv tab O mem w S) (av:gj lm mem)
  (dw:cl tab O mem w S (.one c) (a.eval s)) (fV:cl tab O mem w S (.one d) (a.eval x)) (h:IJ aM lm c d=some (p,v,m)) (ad:under p True) :
  ec P o a w (eh tab O mem w S m v):=by
 unfold IJ at h;split at h<;>try cases h
 rename_i oX t ej vF;split at h<;>try cases h
 rename_i ae;obtain⟨e,i,bg,c0⟩:=j5 bI bm ae;have main:∀(r off n:Nat) (l:List t.den) (dT:Option Addr) (cap:Nat),a.eval s=.slice dT n cap->under oX True->mem r=some (.arr t l)->off+n<=l.length ->
   ((min n ej.length=0)\/∃b ji cur cd,O r=some (.ez (.slice (some (ca b 0)) l.length ji))/\dT=some (ca b (off*t.width))/\l.length<=ji/\ji<=maxLen/\w.heap[b]? = some (.cells cur cd (0,0))/\ji*t.width<=cur.size /\
     ∀i j c,i<l.length->(t.cells (nth l i t.H))[j]? = some c->∃y,cur[i*t.width+j]? = some y/\y.oneCell'=true/\dE tab w S c y) ->
   ec P o a w (eh tab O mem w S [(r,.arr t (put l off (aW ej 0 (min n ej.length))))] (.one (.E .int ((min n ej.length:Nat):Int)))):=by
  intro r off n l dT cap es Ka fK hle AN;obtain⟨fX,g4,ys,ex,hcells,g0⟩:=W0 (P:=P) av aD fV vF Ka;simp only at ex hcells g0;have vB:Nat.min ej.length n=min n ej.length:=Nat.min_comm _ _;have fin:∀(w':World),(Builtin.copy_ #[T,c2] o.type #[.slice dT n cap,.slice fX ej.length g4]).run P w=.ok (.int .i64 ((Nat.min ej.length n:Nat):Int)) w' ->
    Ext O mem w S O (cW [(r,.arr t (put l off (aW ej 0 (min n ej.length))))] mem) w' S->Inv tab O (cW [(r,.arr t (put l off (aW ej 0 (min n ej.length))))] mem) w' S ->
    ec P o a w (eh tab O mem w S [(r,.arr t (put l off (aW ej 0 (min n ej.length))))] (.one (.E .int ((min n ej.length:Nat):Int)))):=fun w' aw a6 hK =>
   g3 (x:=.int .i64 ((Nat.min ej.length n:Nat):Int)) (w':=w') (by simp[execOp,aY,resolve,invoke,builtin,es,ex,aw]) ⟨O,S,a6,hK,by rw[vB];exact pL _⟩
  have b6:=(g0 (Nat.min ej.length n) (Nat.min_le_left _ _) ej.length g4).1
  by_cases dK:min n ej.length=0
  ·have dU:put l off (aW ej 0 (min n ej.length))=l:=by rw[dK,ajo,agV]
   have jD:cW [(r,.arr t l)] mem=mem:=by
    funext q
    by_cases eq:q=r
    ·subst eq;rw[fm,fK]
    ·rw[ek eq]
   refine fin w (Xe (ts:=#[T,c2]) rfl c0.hJ c0.info c0.size dT n cap fX ej.length g4 _ b6 ?_) ?_ ?_
   ·have:ys.take (Nat.min ej.length n*t.width)=[]:=by rw[vB,dK];simp
    rw[this];cases dT with
    |none=>rfl
    |some dT=>simp[storeCells]
   ·rw[dU,jD];exact Ext.refl
   ·rw[dU,jD];exact aD
  ·rcases AN with aeu|⟨b,ji,cur,cd,dn,rfl,I,G,ay,Y,aS⟩
   ·exact absurd aeu dK
   ·have jC:(aW ej 0 (min n ej.length)).length=min n ej.length:=by rw[sZ _ _ _ (Nat.min_le_right _ _)];omega
    have aA:=hcells.take (min n ej.length) (Nat.min_le_right _ _);obtain⟨w',a1,bf,ck⟩:=EG (P:=P) (off:=off) fK dn ay I G Y aS aA (by rw[jC];have:=Nat.min_le_left n ej.length;omega) aD;refine fin w' (Xe (ts:=#[T,c2]) rfl c0.hJ c0.info c0.size _ n cap fX ej.length g4 _ b6 ?_) bf ck;rw[vB];exact a1
 have u6:∀{oX:Option Prop} {q:Prop},under (some (both oX q)) True->under oX True/\q:=fun {oX q} h=>by
  cases oX with
  |none=>exact⟨trivial,h.1⟩
  |some p=>exact⟨⟨h.1.1,trivial⟩,h.1.2⟩
 cases c with
 |own r =>
  simp only at h;split at h<;>try cases h
  rename_i eI l az;split at h<;>try cases h
  rename_i nd;subst nd;obtain⟨fK,dn,dP⟩:=uo av aD az dw;rcases dP with⟨es,rfl⟩|⟨b,cap,cur,cd,es,hbk,ck,eP,gg,g6⟩
  ·exact main r 0 0 [] none 0 es ad fK (by simp) (.inl (by simp))
  ·refine main r 0 l.length l _ cap es ad fK (by omega) (.inr ⟨b,cap,cur,cd,by rw[dn,es],by rw[Nat.zero_mul],ck,eP,hbk,gg,g6⟩)
 |view r off n =>
  simp only at h;split at h<;>try cases h
  rename_i eI l az;split at h<;>try cases h
  rename_i nd;subst nd;obtain⟨I,G⟩:=u6 ad;have pG:off+n<=l.length:=G;obtain⟨fK,y,dn,⟨a0,m0,ji,dI,jw,bL,b0,dm,e3,h8,jF⟩,dP⟩:=wG av aD az dw;refine main r off n l dI jw b0 I fK pG ?_
  by_cases aq:n=0
  ·exact .inl (by rw[aq];simp)
  ·rcases dP with⟨eK,rfl⟩|⟨b,cap,cur,cd,eK,hbk,ck,eP,gg,g6⟩
   ·simp at pG;omega
   ·rw[eK]at bL;cases bL;have bl:=e3 (by omega);subst bl;exact .inr ⟨b,_,cur,cd,by rw[dn,eK],by simp[ca],ck,eP,hbk,gg,g6⟩
 |_=>simp only at h;cases h
end
end bF
end Go.Proofs.YtlbppjmekiemiabGreatDoor


/- The executor on data: clear. No condition. -/
namespace Go.Proofs.YtlbppjmekiemiabGreatDoor
namespace bF
section
variable {P:Program} {tab:cm} {O bU:dp} {mem fl:eb} {w w':World} {S S':Nat->Prop}

theorem Zi{e:Nat}{i:TypeInfo}{bg:Value}{T pN:Nat}{t:z}(av:uV P tab T t pN e i bg)(b6:t.qL=true)(n:Nat):Cells tab w S t (bZ n t.H) (Builtin.zeroCells bg.cells n).toList:=by
 have fw:(Builtin.zeroCells bg.cells n).size=n*t.width:=by rw[size_zeroCells,av.gW]
 have kE:∀q,q<n*t.width->(Builtin.zeroCells bg.cells n).toList[q]? = bg.cells[q%t.width]?:=fun q aH=>by
  have aB:q%t.width<bg.cells.size:=by rw[av.gW];exact Nat.mod_lt _ av.pos
  have bt:=Array.getElem?_eq_getElem aB;simp[Builtin.zeroCells,av.gW,aH,getElem!_def,bt]
 refine⟨by simp[bZ,fw],fun u hu=>?_,fun q j c aH aT=>?_⟩
 ·obtain⟨q,aH,rfl⟩:=List.getElem_of_mem hu;have oI:q<n*t.width:=by rw[<- fw];simpa using aH
  have I:=kE q oI;rw[List.getElem?_eq_getElem aH]at I;have G:(Builtin.zeroCells bg.cells n).toList[q]∈bg.cells.toList:=by
   have:=List.mem_of_getElem? (l:=bg.cells.toList) (i:=q%t.width) (a:=(Builtin.zeroCells bg.cells n).toList[q]) (by rw[I];simp);exact this
  exact List.all_eq_true.1 av.N7 _ G
 ·have Kb:q<n:=by simpa[bZ]using aH
  have aq:nth (bZ n t.H) q t.H=t.H:=by simp[nth,bZ,List.getD,Kb]
  rw[aq]at aT;obtain⟨y,gm,hH,hW⟩:=av.N6 b6 j c aT;have lE:j<t.width:=by rw[<- jj t t.H];exact(List.getElem?_eq_some_iff.1 aT).1
  have dX:q*t.width+j<n*t.width:=by
   have:(q+1)*t.width<=n*t.width:=Nat.mul_le_mul_right _ (by omega);rw[Nat.add_mul]at this;omega
  refine⟨y,?_,hW _ _⟩;rw[kE _ dX,show(q*t.width+j)%t.width=j by rw[Nat.add_comm,Nat.add_mul_mod_self_right,Nat.mod_eq_of_lt lE]];simpa using gm

theorem agn{o:Oper}{a:Act}{s:Operand}{T:Nat}{aM:c9}{c:C}{lm:Mem}{p:Option Prop}{v:V}{m:Mem}(bI:fs P tab)(aY:o.op=.call { callee:=.builtin .clear,args:=#[s],argTypes:=#[T] })
  (bm:dQ tab T=some aM) (aD:Inv tab O mem w S) (av:gj lm mem) (dw:cl tab O mem w S (.one c) (a.eval s)) (h:xf aM lm c=some (p,v,m)) (ad:under p True) :
  ec P o a w (eh tab O mem w S m v):=by
 have zc:∀{bU:dp} {fl:eb} {w':World},cl tab bU fl w' S (.ao []) (.tuple #[]):=⟨#[],rfl,rfl,fun i v aR=>by simp at aR⟩
 cases c with
 |own r =>
  simp only[xf]at h;split at h<;>try cases h
  rename_i t l az;split at h<;>try cases h
  rename_i ae b6;obtain⟨e,i,bg,c0⟩:=j5 bI bm ae;obtain⟨fK,dn,dP⟩:=uo av aD az dw;have dK:put l 0 (bZ (len l) t.H)=bZ (len l) t.H:=by simp[put,bZ,len]
  have jD:l=[]->cW [(r,.arr t (bZ (len l) t.H))] mem=mem:=fun e=>by
   subst e;funext q
   by_cases eq:q=r
   ·subst eq;rw[fm,fK];rfl
   ·rw[ek eq]
  rcases dP with⟨es,dU⟩|⟨b,cap,cur,cd,es,hbk,ck,eP,gg,g6⟩
  ·refine g3 (x:=.tuple #[]) (w':=w) (by simp[execOp,aY,resolve,invoke,builtin,es,Builtin.clear_,run_underlying c0.hJ]) ?_;exact⟨O,S,by rw[jD dU];exact Ext.refl,by rw[jD dU];exact aD,zc⟩
  ·by_cases aq:l.length=0
   ·refine g3 (x:=.tuple #[]) (w':=w) (by simp[execOp,aY,resolve,invoke,builtin,es,aq,Builtin.clear_,run_underlying c0.hJ]) ?_;have dU:=jD (List.length_eq_zero_iff.1 aq);exact⟨O,S,by rw[dU];exact Ext.refl,by rw[dU];exact aD,zc⟩
   ·have aA:=Zi (w:=w) (S:=S) c0 b6 l.length;obtain⟨w',cO,cL,eH⟩:=EG (P:=P) (off:=0) fK (by rw[dn,es]) hbk ck eP gg g6 aA (by simp[bZ]) aD;rw[show put l 0 (bZ l.length t.H)=bZ (len l) t.H from dK]at cL eH;rw[Nat.zero_mul]at cO;obtain⟨k,jC⟩:∃k,l.length=k+1:=⟨l.length-1,by omega⟩
    have A6:(zeroValue e).run P w=.ok bg w:=by simp[zeroValue,typeInfo,c0.info,c0.zero]
    refine g3 (x:=.tuple #[]) (w':=w') ?_ ⟨O,S,cL,eH,zc⟩;rw[jC]at cO es;simp[execOp,aY,resolve,invoke,builtin,es,Builtin.clear_,run_underlying c0.hJ,A6,cO]
 |nil t =>
  simp only[xf]at h;split at h<;>try cases h
  rename_i ae;obtain⟨e,i,bg,c0⟩:=j5 bI bm ae;have es:a.eval s=.slice none 0 0:=dw.2;refine g3 (x:=.tuple #[]) (w':=w) (by simp[execOp,aY,resolve,invoke,builtin,es,Builtin.clear_,run_underlying c0.hJ]) (gA aD zc)
 |view r off n =>
  simp only[xf]at h;split at h<;>try cases h
  rename_i t l az;split at h<;>try cases h
  rename_i ae b6;have hle:off+n<=l.length:=ad.1;obtain⟨e,i,bg,c0⟩:=j5 bI bm ae;obtain⟨fK,y,dn,⟨a0,m0,ji,dI,jw,bL,b0,dm,e3,h8,jF,l1⟩,dP⟩:=wG av aD az dw
  by_cases aq:n=0
  ·subst aq;have dU:cW [(r,bS.arr t (put l off (bZ 0 t.H)))] mem=mem:=by
    funext q
    by_cases eq:q=r
    ·subst eq;rw[fm,fK];simp[put,bZ]
    ·rw[ek eq]
   refine g3 (x:=.tuple #[]) (w':=w) (by cases dI<;>simp[execOp,aY,resolve,invoke,builtin,b0,Builtin.clear_,run_underlying c0.hJ]) ?_;exact⟨O,S,by rw[dU];exact Ext.refl,by rw[dU];exact aD,zc⟩
  ·rcases dP with⟨eK,dU⟩|⟨b,cap,cur,cd,eK,hbk,ck,eP,gg,g6⟩
   ·subst dU;simp at hle;omega
   ·rw[eK]at bL;cases bL;have bl:=e3 (by omega);subst bl;have aA:=Zi (w:=w) (S:=S) c0 b6 n;obtain⟨w',cO,cL,eH⟩:=EG (P:=P) (off:=off) fK (by rw[dn,eK]) hbk ck eP gg g6 aA (by simpa[bZ]using hle) aD;obtain⟨k,jC⟩:∃k,n=k+1:=⟨n-1,by omega⟩
    have A6:(zeroValue e).run P w=.ok bg w:=by simp[zeroValue,typeInfo,c0.info,c0.zero]
    refine g3 (x:=.tuple #[]) (w':=w') ?_ ⟨O,S,cL,eH,zc⟩;rw[jC]at cO b0;simp only[Option.map_some,ca,Nat.zero_add]at b0 cO;simp[execOp,aY,resolve,invoke,builtin,b0,Builtin.clear_,run_underlying c0.hJ,A6,cO]
 |_=>simp only[xf]at h;cases h
end
end bF
end Go.Proofs.YtlbppjmekiemiabGreatDoor

