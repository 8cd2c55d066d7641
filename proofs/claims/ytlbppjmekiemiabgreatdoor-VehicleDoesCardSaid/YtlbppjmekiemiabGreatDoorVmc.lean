/- The executor on data: part 3 of 4. No condition. -/
import Derived.Test.YtlbppjmekiemiabGreatDoorVmb
import Derived.MapKept
/- The executor on data: maps of numbers to truths. No condition. -/
namespace Go.Proofs.YtlbppjmekiemiabGreatDoor
namespace bF
section
open Go.MapKept
variable {P:Program} {tab:cm} {O bU:dp} {mem fl:eb} {w w':World} {S S':Nat->Prop}

theorem aeG{T:Nat}{tab:cm}(h:(dQ tab T).map c9.hy=some .qH):∃aM,dQ tab T=some aM/\aM.hy=.qH:=by
 simpa using h
theorem Y7{T:Nat}(bI:fs P tab)(h:(dQ tab T).map c9.hy=some .qH) :
  ∃K a6 i,P.underlying T=some (.map K a6)/\P.underlying K=some (.int .i64)/\P.info? a6=some i/\i.zero=some (.bool false):=by
 obtain⟨aM,I,G⟩:=aeG h;have:=(bI.ok T aM I).kind;rw[G]at this;exact this

theorem agA{o:Oper}{a:Act}{T base:Nat}(aY:o.op=.makeMap T none)(aD:Inv tab O mem w S)(ay:mem base=none) :
  ec P o a w (eh tab O mem w S [(base,.set [])] (.one (.mp base))):=by
 have az:(Loc.gB w.heap.size).block=some w.heap.size\/(Loc.gB w.heap.size).block=none:=.inl rfl;have a6:=q3 (O:=O) (S:=S) (w:=w) (o:=.map #[] 0) (B:=.set []) ay az;refine g3 (x:=.map (some w.heap.size)) (w':=w.alloc (.map #[] 0)) ?_ ⟨_,S,a6,r4 ay az aD ⟨#[],0,heap_alloc_new w _,rfl,fun i c hi=>by simp at hi⟩,?_⟩
 ·simp[execOp,aY,Instr.makeMap]
 ·refine⟨rfl,?_,fun cs _=>⟨w.heap.size,hA,rfl⟩⟩;rw[fm];exact fun h=>nomatch h

theorem Xv{lm:Mem}{r:Nat}{aF:List Int}{x:Value}(av:gj lm mem)(aD:Inv tab O mem w S)(h:xQ lm r=some aF)(aG:cl tab O mem w S (.one (.mp r)) x) :
  mem r=some (.set aF)/\∃b es clock,x=.map (some b)/\O r=some (.gB b)/\w.heap[b]? = some (.map es clock)/\es.size=aF.length /\
   ∀(i:Nat) k,aF[i]? = some k->∃e,es[i]? = some e/\e.key=.int .i64 k/\e.val=.bool true:=by
 unfold xQ at h;split at h<;>try cases h
 rename_i az;have aB:=av r _ az trivial;obtain⟨b,dn,sI⟩:=aG.2.2 _ aB;obtain⟨l,aN,aX⟩:=aD.rel r _ aB trivial;rw[dn]at aN;cases aN;obtain⟨es,clock,a1,bf,ck⟩:=aX;exact⟨aB,b,es,clock,sI,dn,a1,bf,ck⟩

theorem S9{es:Array MapEntry}{aF:List Int}(I:es.size=aF.length)(G:∀(i:Nat) k,aF[i]? = some k->∃e,es[i]? = some e/\e.key=.int .i64 k/\e.val=.bool true){x:MapEntry}(aG:x∈es.toList) :
  ∃k∈aF,x.key=.int .i64 k/\x.val=.bool true:=by
 obtain⟨i,hi,rfl⟩:=List.getElem_of_mem aG;have ae:i<aF.length:=by rw[<- I];simpa using hi
 obtain⟨e,aN,aX,cS⟩:=G i aF[i] (by simp[ae]);have:es[i]? = some es.toList[i]:=by simp
 rw[this]at aN;cases aN;exact⟨aF[i],List.getElem_mem ae,aX,cS⟩

theorem Rr{es:Array MapEntry}{aF:List Int}(I:es.size=aF.length)(G:∀(i:Nat) k,aF[i]? = some k->∃e,es[i]? = some e/\e.key=.int .i64 k/\e.val=.bool true)(k:Int) :
  (Instr.findNow (.int .i64) (.int .i64 k) es.toList 0=some none/\lU k aF=false) \/
  ∃j e,Instr.findNow (.int .i64) (.int .i64 k) es.toList 0=some (some (j,.bool true))/\es[j]? = some e/\e.key=.int .i64 k/\lU k aF=true:=by
 have ae:IsKey (.int .i64) (.int .i64 k):=rfl;rcases findNow_spec ae es.toList 0 (fun x aG=>by obtain⟨q,_,e,_⟩:=S9 I G aG;rw[e];exact rfl)with⟨f1,f2⟩|⟨j,e,f1,f2,f3⟩
 ·refine .inl ⟨f1,decide_eq_false fun aB=>?_⟩;obtain⟨i,hi,rfl⟩:=List.getElem_of_mem aB;obtain⟨e,aN,aX,_⟩:=G i _ (List.getElem?_eq_getElem hi);exact f2 e (by have:=List.mem_of_getElem? (l:=es.toList) (i:=i) (a:=e) (by simpa using aN);exact this) aX
 ·obtain⟨q,cO,cL,eH⟩:=S9 I G (List.mem_of_getElem? f2);rw[f3]at cL;cases cL;refine .inr ⟨j,e,by rw[f1,eH,Nat.zero_add],by simpa using f2,f3,decide_eq_true cO⟩

theorem agC{o:Oper}{a:Act}{T:Nat}{x y bg:Operand}{r:Nat}{k:Int}{aF:List Int}{lm:Mem}(bI:fs P tab)(aY:o.op=.mapUpdate T x y bg)(bm:(dQ tab T).map c9.hy=some .qH)
  (aD:Inv tab O mem w S) (av:gj lm mem) (aG:cl tab O mem w S (.one (.mp r)) (a.eval x)) (cv:cl tab O mem w S (.one (.E .int k)) (a.eval y)) (dK:cl tab O mem w S (.one (.E .bool true)) (a.eval bg))
  (h:xQ lm r=some aF):ec P o a w (eh tab O mem w S [(r,.set (nX k aF))] (.one .undef)):=by
 obtain⟨K,a6,i,gi,jc,NU,iR⟩:=Y7 bI bm;obtain⟨aB,b,es,clock,ex,dn,a1,bf,ck⟩:=Xv av aD h aG;have eK:=lL cv;have aa5:=sU dK;have ae:IsKey (.int .i64) (.int .i64 k):=rfl;have go:∀(tt:Array MapEntry) (xg:Nat),(Instr.mapUpdate T (.map (some b)) (.int .i64 k) (.bool true)).run P w=.ok () { w with heap:=w.heap.setIfInBounds b (.map tt xg) } ->
   tt.size=(nX k aF).length->(∀(i:Nat) q,(nX k aF)[i]? = some q->∃e,tt[i]? = some e/\e.key=.int .i64 q/\e.val=.bool true)->ec P o a w (eh tab O mem w S [(r,.set (nX k aF))] (.one .undef)):=fun tt xg g0 fw k7=>by
  have ay:=heap_set (o':=.map tt xg) a1;have a6:=zy (S:=S) (w':={ w with heap:=w.heap.setIfInBounds b (.map tt xg) }) (B':=.set (nX k aF)) aB trivial dn (b:=b) rfl trivial (by simp) ay.2 rfl rfl rfl;refine Fe (w':={ w with heap:=w.heap.setIfInBounds b (.map tt xg) }) (by simp[execOp,aY,ex,eK,aa5,g0]) ⟨O,S,a6,zz aB trivial dn rfl (by simp) ay.2 a6 aD ⟨tt,xg,ay.1,fw,k7⟩,trivial⟩
 rcases Rr bf ck k with⟨f1,f2⟩|⟨j,e,f1,f2,f3,f4⟩
 ·have hi:nX k aF=aF++[k]:=by unfold nX;rw[f2]
  refine go (es.push { key:=.int .i64 k,val:=.bool true,born:=clock }) (clock+1) ?_ (by rw[hi];simp[bf]) (fun i q aH=>?_)
  ·simp[Instr.mapUpdate,run_underlying gi,MapKept.run_getObj_map a1,run_checkKey jc ae,run_findKey jc f1,run_setObj_map _ a1,Result.andThen]
  ·rw[hi]at aH
   by_cases c:i<aF.length
   ·rw[List.getElem?_append_left c]at aH;obtain⟨e,aN,aX⟩:=ck i q aH;exact⟨e,by rw[Array.getElem?_push,if_neg (by omega)];exact aN,aX⟩
   ·have rA:i=aF.length:=by
     have:=(List.getElem?_eq_some_iff.1 aH).1;simp at this;omega
    subst rA;simp at aH;subst aH;exact⟨_,by rw[Array.getElem?_push,if_pos bf.symm],rfl,rfl⟩
 ·have hi:nX k aF=aF:=by unfold nX;rw[f4]
  refine go (es.modify j fun e=>{ e with key:=.int .i64 k,val:=.bool true }) clock ?_ (by rw[hi];simp[bf]) (fun i q aH=>?_)
  ·simp[Instr.mapUpdate,run_underlying gi,MapKept.run_getObj_map a1,run_checkKey jc ae,run_findKey jc f1,f2,f3,run_keyThatStays ae,run_setObj_map _ a1,Result.andThen]
  ·rw[hi]at aH;obtain⟨cd,aN,aX,cS⟩:=ck i q aH;rw[Array.getElem?_modify]
   by_cases c:j=i
   ·subst c;rw[f2]at aN;cases aN;rw[f2];refine⟨{ e with key:=.int .i64 k,val:=.bool true },by simp,?_,rfl⟩;rw[<- aX,f3]
   ·rw[if_neg c];exact⟨cd,aN,aX,cS⟩

theorem agy{o:Oper}{a:Act}{T:Nat}{x y:Operand}{r:Nat}{k:Int}{aF:List Int}{lm:Mem}(bI:fs P tab)(aY:o.op=.lookup T x y false)(bm:(dQ tab T).map c9.hy=some .qH)
  (aD:Inv tab O mem w S) (av:gj lm mem) (aG:cl tab O mem w S (.one (.mp r)) (a.eval x)) (cv:cl tab O mem w S (.one (.E .int k)) (a.eval y))
  (h:xQ lm r=some aF):ec P o a w (eh tab O mem w S [] (.one (.E .bool (lU k aF)))):=by
 obtain⟨K,a6,i,gi,jc,NU,iR⟩:=Y7 bI bm;obtain⟨aB,b,es,clock,ex,dn,a1,bf,ck⟩:=Xv av aD h aG;have eK:=lL cv;have ae:IsKey (.int .i64) (.int .i64 k):=rfl;refine g3 (x:=.bool (lU k aF)) (w':=w) ?_ (gA aD (n1 _));rcases Rr bf ck k with⟨f1,f2⟩|⟨j,e,f1,f2,f3,f4⟩
 ·simp[execOp,aY,ex,eK,Instr.lookup,run_underlying gi,MapKept.run_getObj_map a1,run_checkKey jc ae,run_findKey jc f1,MT NU iR,f2,Result.andThen]
 ·simp[execOp,aY,ex,eK,Instr.lookup,run_underlying gi,MapKept.run_getObj_map a1,run_checkKey jc ae,run_findKey jc f1,f4,Result.andThen]
end
end bF
end Go.Proofs.YtlbppjmekiemiabGreatDoor


/- The executor on data: a list whose last element is given by its cells: how it comes to be. No condition. -/
namespace Go.Proofs.YtlbppjmekiemiabGreatDoor
namespace bF
section
variable {P:Program} {tab:cm} {O bU:dp} {mem fl:eb} {w w':World} {S S':Nat->Prop}

theorem agf{o:Oper}{a:Act}{T base:Nat}{aM:c9}{t:z}{ps:Array (Nat×Operand)}{v:V}{cs:List C}(bI:fs P tab)(aY:o.op=.buildSlice T 1 ps)(bv:ps.toList.map (·.1)=[0])(bm:dQ tab T=some aM)(ae:aM.isSlice t=true)
  (aD:Inv tab O mem w S) (aR:fI tab O mem w S [v] (ps.toList.map fun p=>a.eval p.2)) (aA:v.cells=some cs) (az:cs.length=t.width) (b8:t.width<=16777216) (ay:mem base=none) :
  ec P o a w (eh tab O mem w S [(base,.eE t [] cs)] (.one (.iv base))):=by
 obtain⟨e,i,bg,c0⟩:=j5 bI bm ae;obtain⟨x,rC⟩:∃x,ps=#[(0,x)]:=by
  obtain⟨l⟩:=ps;cases l with
  |nil=>cases bv
  |cons p l=>cases l with
   |nil =>
    obtain⟨k,x⟩:=p;have:k=0:=by simpa using bv
    subst this;exact⟨x,rfl⟩
   |cons q l=>simp at bv
 subst rC;have aG:cl tab O mem w S v (a.eval x):=aR.1;obtain⟨bp,bc⟩:=BL aG aA;have mG:=c0.pos;have Ke:p6 (fun c y=>y.oneCell'=true/\fx tab O mem w S c y) (List.replicate t.width .undef) (madeCells (if 1*t.width=0 then #[]else bg.cells) (1*t.width)).toList:=by
  refine⟨by simp[size_madeCells],fun q c aH=>?_⟩;have vE:q<t.width:=by have:=(List.getElem?_eq_some_iff.1 aH).1;simpa using this
  have AO:c=.undef:=by simpa[vE]using aH.symm
  subst AO;have dj:¬t.width=0:=by omega
  have SQ:q<bg.cells.toList.length:=by simp[c0.gW,vE]
  have vD:(bg.cells.toList[q]).oneCell'=true:=List.all_eq_true.1 c0.N7 _ (List.getElem_mem SQ);have AJ:bg.cells[q%bg.cells.size]! = bg.cells.toList[q]:=by
   rw[c0.gW,Nat.mod_eq_of_lt vE,getElem!_def];have:bg.cells[q]? = some bg.cells.toList[q]:=by
    rw[<- Array.getElem?_toList];exact List.getElem?_eq_getElem SQ
   rw[this]
  exact⟨_,by simp[madeCells,dj,vE,AJ],vD,trivial⟩
 obtain⟨cells,f1,f2⟩:=Jg (R:=fun c y=>y.oneCell'=true/\fx tab O mem w S c y) (place:=fun j=>some (j*t.width,t.width)) [(0,cs)] [0] [(0,a.eval x)] (List.replicate t.width .undef) cs _ Ke (by
   unfold np;have I:Nat.ble (0+cs.length) (List.replicate t.width C.undef).length=true:=by simp[az]
   rw[I];have G:put (List.replicate t.width C.undef) 0 cs=cs:=by
    unfold put;rw[List.drop_of_length_le (by simp[az])];simp
   simp only[G,np]) rfl rfl (fun j f u b6 hu=>by
  cases j with
  |succ j=>simp at b6
  |zero =>
   simp at b6 hu;subst b6 hu;exact⟨by simp[az],by simp[bp],fun q c aH=>by obtain⟨y,cK,cN,dA⟩:=bc q c aH;exact⟨y,by simpa using cK,cN,dA⟩⟩)
 have Se:(Loc.ez (.slice (some (ca w.heap.size 0)) 1 1)).block=some w.heap.size\/(Loc.ez (.slice (some (ca w.heap.size 0)) 1 1)).block=none:=.inl rfl;have a6:=q3 (O:=O) (S:=S) (w:=w) (o:=.cells cells e) (B:=.eE t [] cs) ay Se;have fw:cells.size=t.width:=by
  have:=f2.1;rw[az]at this;simpa using this
 refine lN (s:=Instr.buildSlice T 1 #[(0,a.eval x)]) (x:=.slice (some (ca w.heap.size 0)) 1 1) (w':=w.alloc (.cells cells e)) (by simp only[execOp,aY];simp) (Xd c0 1 (by omega) _ cells f1)
  ⟨mN base (.ez (.slice (some (ca w.heap.size 0)) 1 1)) O,S,a6,?_,⟨rfl,by rw[fm];exact(fun h=>by cases h),fun eI l' eO _=>hA⟩⟩
 refine r4 ay Se aD ⟨w.heap.size,1,cells,e,rfl,heap_alloc_new w _,Nat.le_refl _,by unfold maxLen;omega,by omega,fun i j c hi=>absurd hi (Nat.not_lt_zero _),fun j c aT=>?_⟩;obtain⟨y,cK,cN,dA⟩:=f2.2 j c aT;have iK:=(List.getElem?_eq_some_iff.1 aT).1;exact⟨by omega,y,by simpa using cK,cN,dA.ext a6 aD⟩

theorem O9{o:Oper}{a:Act}{s x:Operand}{T c2 base r:Nat}{aM:c9}{t:z}{e aX:Nat}{i:TypeInfo}{bg:Value}{mem1:eb}{p7:Nat->Prop}{Br:bS}{xs:Value}{l0:List t.den}{cs:List C}{fX:Option Addr}{g4:Nat}{ys:List Value}{m:Mem}
  (aY:o.op=.call { callee:=.builtin .append,args:=#[s,x],argTypes:=#[T,c2] }) (c0:uV P tab T t aM.bytes e i bg) (im:P.underlying c2=some (.slice aX))
  (er:Ext O mem w S O mem1 w p7) (hL:Inv tab O mem1 w p7) (aw:mem1 r=some Br) (ac8:Br.alive) (oF:mem1 base=none) (A7:O r=some (.ez xs))
  (av:(xs=.slice none 0 0/\l0=[])\/∃b cap cur cd,xs=.slice (some (ca b 0)) l0.length cap/\w.heap[b]? = some (.cells cur cd (0,0))/\l0.length<=cap/\cap<=maxLen/\cap*t.width<=cur.size/\Cells tab w p7 t l0 (cur.toList.take (l0.length*t.width)))
  (es:a.eval s=xs) (ex:a.eval x=.slice fX 1 g4) (rE:ys.length=t.width) (Ee:∀u∈ys,u.oneCell'=true)
  (SO:∀(j:Nat) c,cs[j]? = some c->j<t.width/\∃y,ys[j]? = some y/\y.oneCell'=true/\fx tab O mem1 w p7 c y)
  (g0:∀k fb,(Builtin.firstCells t.width 1 (.slice fX k fb)).run P w=.ok ys.toArray w/\(Builtin.firstCells t.width 1 (.slice fX k fb)).run P w.drew=.ok ys.toArray w.drew)
  (vr:(l0.length+1)*aM.bytes<=140737488355328) (aB:cW m mem=cW [(r,.dead),(base,.eE t l0 cs)] mem1) :
  ec P o a w (eh tab O mem w S m (.one (.iv base))):=by
 have dj:base≠r:=fun e=>by subst e;rw[aw]at oF;cases oF
 have fin:∀(e1:Value) (w':World),(Builtin.append_ #[T,c2] o.type #[xs,.slice fX 1 g4]).run P w=.ok e1 w'->eh tab O mem w S m (.one (.iv base)) e1 w'->ec P o a w (eh tab O mem w S m (.one (.iv base))):=fun e1 w' aw bl =>
  g3 (x:=e1) (w':=w') (by simp[execOp,aY,resolve,invoke,builtin,es,ex,aw]) bl
 have bound:l0.length+1<=140737488355328:=Nat.le_trans (Nat.le_mul_of_pos_right _ c0.CG) vr;have fresh:∀(dT:Option Addr) (cap:Nat) (l6:List Value),xs=.slice dT l0.length cap->¬l0.length+1<=cap->Cells tab w p7 t l0 l6->(Builtin.firstCells t.width l0.length (.slice dT l0.length cap)).run P w.drew=.ok l6.toArray w.drew->ec P o a w (eh tab O mem w S m (.one (.iv base))):=by
  intro dT cap l6 ri mI hold sB;have nV:=Xc (P:=P) (w:=w) (ty:=o.type) c0.hJ im c0.info c0.zero c0.size dT l0.length cap 1 fX g4 l6 ys sB (g0 _ g4).2 mI (by rw[c0.bytes];exact vr) (by rw[c0.bytes];exact c0.CG);generalize hG:l6.toArray++ys.toArray++Builtin.zeroCells bg.cells (grownCap w (l0.length+1) cap e-(l0.length+1))=eT at nV;have vx:=grownCap_ge w (l0.length+1) cap e;have qv:=grownCap_le_maxLen w (l0.length+1) cap e (by unfold maxLen;omega);generalize grownCap w (l0.length+1) cap e=uj at nV vx qv hG;have JL:eT.size=uj*t.width:=by
   subst hG;have:l0.length*t.width+t.width=(l0.length+1)*t.width:=by rw[Nat.add_mul];omega
   simp only[Array.size_append,List.size_toArray,size_zeroCells,c0.gW,hold.1,rE];rw[this,<- Nat.add_mul];congr 1;omega
  obtain⟨dO,ig⟩:=Ta hL (r:=r) (by rw[aw];exact(fun h=>by cases h)) False;generalize am9:(fun b=>p7 b\/False/\Live mem1 r/\∃l,O r=some l/\l.block=some b)=nA at dO ig;generalize tT:cW [(r,.dead)] mem1=mem2 at dO ig;have vq:mem2 base=none:=by rw[<- tT,ek dj];exact oF
  have jD:cW m mem=cW [(base,.eE t l0 cs)] mem2:=by
   rw[aB,<- tT];funext q
   by_cases bp:q=r
   ·subst bp;rw[fz,fm,ek (Ne.symm dj),fm]
   ·by_cases bc:q=base
    ·subst bc;rw[fz,ek bp,fm,fm]
    ·rw[fz,ek bp,ek bc,ek bc,ek bp]
  have az:(Loc.ez (.slice (some (ca w.heap.size 0)) (l0.length+1) uj)).block=some w.heap.size\/(Loc.ez (.slice (some (ca w.heap.size 0)) (l0.length+1) uj)).block=none:=.inl rfl;have qY:Ext O mem2 w nA O mem2 w.drew nA:=⟨fun _ h=>h,(Ext.refl (O:=O) (mem:=mem2) (w:=w) (S:=nA)).kinds,fun _ h=>h,Nat.le_refl _,fun _ _ _=>rfl,fun _ h=>.inl h,fun _ h=>.inl h,rfl,rfl,rfl⟩
  have Id:Inv tab O mem2 w.drew nA:=⟨fun q B I G=>by obtain⟨l',aN,aX⟩:=ig.rel q B I G;exact⟨l',aN,aX.ext qY ig fun _ _=>rfl⟩,ig.inj,ig.sep,ig.lt,ig.pow.of_heap rfl⟩
  have gu:=q3 (O:=O) (S:=nA) (w:=w.drew) (o:=.cells eT e) (B:=.eE t l0 cs) vq az;have h0:=(dO.trans qY).trans gu;rw[ri]at fin;refine fin _ _ nV ⟨_,nA,by rw[jD];exact er.trans h0,by
   rw[jD];refine r4 vq az Id ⟨w.heap.size,uj,eT,e,rfl,heap_alloc_new w.drew _,vx,qv,by omega,fun i j c hi aT=>?_,fun j c aT=>?_⟩
   ·obtain⟨y,cK,cN⟩:=hold.2.2 i j c hi aT;have dX:i*t.width+j<l6.length:=(List.getElem?_eq_some_iff.1 cK).1;refine⟨y,?_,cN.Bw,cN.mono h0.sub (h0.keeps hL)⟩;subst hG;rw[Array.getElem?_append_left (by simp;omega),Array.getElem?_append_left (by simpa using dX)];simpa using cK
   ·obtain⟨mZ,y,cK,cN,dA⟩:=SO j c aT;refine⟨mZ,y,?_,cN,dA.ext h0 hL⟩;subst hG;have I:=hold.1;rw[Array.getElem?_append_left (by simp;omega),Array.getElem?_append_right (by simp;omega),<- cK];simp only[List.size_toArray,List.getElem?_toArray];congr 1;omega,rfl,by rw[jD,fm];exact(fun h=>by cases h),fun _ _ _ _=>hA⟩
 rcases av with⟨ri,rfl⟩|⟨b,cap,cur,cd,ri,hbk,DX,JK,fw,hold⟩
 ·exact fresh none 0 [] ri (by simp) ⟨by simp,fun u hu=>by simp at hu,fun i j c hi=>by simp at hi⟩ (by simp[Builtin.firstCells])
 ·by_cases mI:l0.length+1<=cap
  ·-- it fits
   have A4:(l0.length+1)*t.width<=cap*t.width:=Nat.mul_le_mul_right _ mI;rw[Nat.add_mul,Nat.one_mul]at A4;have fL:=run_storeCells_at P b (l0.length*t.width) cd ys 0 cur w hbk (by omega) Ee;simp only[Nat.add_zero]at fL;generalize hG:(cur.toList.take (l0.length*t.width)++ys++cur.toList.drop (l0.length*t.width+ys.length)).toArray=eT at fL;obtain⟨cO,cL,eH,gy⟩:=zh (w:=w) b eT;have nV:=BN (P:=P) (w:=w) (w':=w.setRow b eT) (ty:=o.type) c0.hJ im c0.info c0.size (some (ca b 0)) l0.length cap 1 fX g4 ys (g0 _ g4).1 mI (by simpa[ca,Addr.add_lit]using fL);obtain⟨dO,ry⟩:=EH (B':=.eE t l0 cs) (l':=.ez (.slice (some (ca b 0)) (l0.length+1) cap)) (w':=w.setRow b eT) aw ac8 oF A7 (by rw[ri];rfl) cO (fun k ae=>setRow_other w b k eT (fun e=>ae (by rw[ri,e];rfl))) cL eH gy hL;have kj:eT.size=cur.size:=by
    subst hG;simp;omega
   rw[ri]at fin;refine fin _ _ nV ⟨_,p7,by rw[aB];exact er.trans dO,by
    rw[aB];refine ry ⟨b,cap,eT,cd,rfl,setRow_heap w b cur eT cd (0,0) hbk,mI,JK,by rw[kj];exact fw,fun i j c hi aT=>?_,fun j c aT=>?_⟩
    ·obtain⟨y,cK,cN⟩:=hold.2.2 i j c hi aT;have dX:i*t.width+j<(cur.toList.take (l0.length*t.width)).length:=(List.getElem?_eq_some_iff.1 cK).1;refine⟨y,?_,cN.Bw,cN.mono dO.sub (dO.keeps hL)⟩;subst hG;rw[List.getElem?_toArray,List.append_assoc,List.getElem?_append_left dX];exact cK
    ·obtain⟨mZ,y,cK,cN,dA⟩:=SO j c aT;refine⟨mZ,y,?_,cN,dA.ext dO hL⟩;subst hG;have bm:(cur.toList.take (l0.length*t.width)).length=l0.length*t.width:=by simp;omega
     rw[List.getElem?_toArray,List.append_assoc,List.getElem?_append_right (by omega),bm,List.getElem?_append_left (by omega),<- cK];congr 1;omega,rfl,by rw[aB,fz,ek dj,fm];exact(fun h=>by cases h),fun _ _ _ _=>hA⟩
  ·refine fresh _ cap _ ri mI hold ?_;have:=run_loadCells_list (P:=P) w.drew (ca b 0) (cur.toList.take (l0.length*t.width)) (fun j v aT=>by
    rw[World.cell?_drew,ca,Addr.add_lit,Nat.zero_add];refine cell?_at hbk ?_;have iK:j<l0.length*t.width:=by
     have:=(List.getElem?_eq_some_iff.1 aT).1;simp at this;omega
    rw[List.getElem?_take_of_lt iK]at aT;simpa using aT)
   rw[hold.1]at this;simpa[Builtin.firstCells]using this

theorem aaB{lm:Mem}{c d:C}{ns:List Nat}(h:qh lm c=some (d,ns)):∀q∈ns,∃t l,look lm q=some (.arr t l):=by
 cases c with
 |own r =>
  simp only[qh]at h;split at h<;>try cases h
  rename_i t l az;intro q aH;rw[List.mem_singleton.1 aH];exact⟨t,l,az⟩
 |E t d=>simp only[qh]at h;cases h;exact fun q aH=>by cases aH
 |nil t=>simp only[qh]at h;cases h;exact fun q aH=>by cases aH
 |_=>simp only[qh]at h;cases h
theorem QU{lm:Mem}:∀{cs ds:List C} {ns:List Nat},ti lm cs=some (ds,ns)->∀q∈ns,∃t l,look lm q=some (.arr t l)
 |[],ds,ns,h=>by simp only[ti]at h;cases h;exact fun q aH=>by cases aH
 |c::cs,ds,ns,h=>by
  simp only[ti]at h;split at h<;>try cases h
  rename_i d1 gD I;split at h<;>try cases h
  rename_i Ds ms G;intro q aH;rcases List.mem_append.1 aH with aH|aH
  ·exact aaB I q aH
  ·exact QU G q aH
theorem aeP{lm:Mem}{t:z}{cs:List C}{d:t.den}{ns:List Nat}(h:vM lm t cs=some (d,ns)):∀q∈ns,∃t l,look lm q=some (.arr t l):=by
 unfold vM at h;split at h<;>try cases h
 rename_i ds ms I;split at h<;>try cases h
 exact QU I

theorem af8{o:Oper}{a:Act}{s x:Operand}{T c2 base q:Nat}{aM jJ:c9}{c:C}{lm:Mem}{p:Option Prop}{v:V}{m:Mem}{u:z}(bI:fs P tab)(aY:o.op=.call { callee:=.builtin .append,args:=#[s,x],argTypes:=#[T,c2] })
  (bm:dQ tab T=some aM) (hu:dQ tab c2=some jJ) (vz:jJ.elem=some u) (aD:Inv tab O mem w S) (av:gj lm mem) (ay:mem base=none)
  (dw:cl tab O mem w S (.one c) (a.eval s)) (fV:cl tab O mem w S (.one (.iv q)) (a.eval x)) (h:zO aM base aM.bytes lm c q=some (p,v,m)) (ad:under p True) :
  ec P o a w (eh tab O mem w S m v):=by
 unfold zO at h;split at h<;>try cases h
 rename_i t cs aH;split at h<;>try cases h
 rename_i ae;split at h<;>try cases h
 rename_i kj;have kj:=Nat.eq_of_beq_eq_true kj;obtain⟨e,i,bg,c0⟩:=j5 bI bm ae;have im:∃aX,P.underlying c2=some (.slice aX):=by
  have ef:=(bI.ok c2 jJ hu).kind;unfold c9.elem at vz;cases h7:jJ.hy with
  |slice eI cd=>rw[h7]at ef;exact⟨cd,ef.1⟩
  |_=>rw[h7]at vz;cases vz
 obtain⟨aX,im⟩:=im;obtain⟨D0,CH,aae,vd,eq,Rh,ans,bL,b0,dm,e3,_,jF⟩:=zQ av aD aH fV;have A4:1*t.width<=aae*t.width:=Nat.mul_le_mul_right _ (by simpa using b0);have rE:(vd.toList.take t.width).length=t.width:=by simp;omega
 have g0:∀k fb,(Builtin.firstCells t.width 1 (.slice (some (ca CH 0)) k fb)).run P w=.ok (vd.toList.take t.width).toArray w/\(Builtin.firstCells t.width 1 (.slice (some (ca CH 0)) k fb)).run P w.drew=.ok (vd.toList.take t.width).toArray w.drew:=fun k fb=>by
  have gen:∀jK:World,jK.heap=w.heap->(Builtin.firstCells t.width 1 (.slice (some (ca CH 0)) k fb)).run P jK=.ok (vd.toList.take t.width).toArray jK:=fun jK G=>by
   have:=run_loadCells_list (P:=P) jK (ca CH 0) (vd.toList.take t.width) (fun j v aT=>by
    rw[ca,Addr.add_lit,Nat.zero_add];refine cell?_at (w:=jK) (by rw[G];exact bL) ?_;have iK:j<t.width:=by
     have:=(List.getElem?_eq_some_iff.1 aT).1;simp at this;omega
    rw[List.getElem?_take_of_lt iK]at aT;simpa using aT)
   rw[rE]at this;simpa[Builtin.firstCells]using this
  exact⟨gen w rfl,gen w.drew rfl⟩
 have JZ:∀{p7:Nat->Prop} {mem1:eb},Ext O mem w S O mem1 w p7->∀(j:Nat) c,cs[j]? = some c->j<t.width/\∃y,(vd.toList.take t.width)[j]? = some y/\y.oneCell'=true/\fx tab O mem1 w p7 c y:=fun a6 j c aT=>by
  obtain⟨mZ,y,cK,cN,dA⟩:=jF j c aT;refine⟨mZ,y,?_,cN,dA.ext a6 aD⟩;rw[List.getElem?_take_of_lt mZ];simpa using cK
 have Ee:∀u∈vd.toList.take t.width,u.oneCell'=true:=fun u hu=>by
  obtain⟨j,aT⟩:=List.getElem?_of_mem hu;have iK:=(List.getElem?_eq_some_iff.1 aT).1;rw[rE]at iK;have acF:j<cs.length:=by omega
  obtain⟨_,y,cK,cN,_⟩:=JZ Ext.refl j _ (List.getElem?_eq_getElem acF);rw[aT]at cK;cases cK;exact cN
 cases c with
 |own r =>
  simp only at h;split at h<;>try cases h
  rename_i eI l az;split at h<;>try cases h
  rename_i nd;subst nd;obtain⟨fK,A7,dP⟩:=uo av aD az dw;have Kf:r≠q:=fun e=>by subst e;rw[fK]at D0;cases D0
  obtain⟨er,hL⟩:=rJ (ns:=[q]) aD;have bH:cW (gY [q]) mem=fun p=>if p=q then some .dead else mem p:=by
   funext p;rcases oQ (mem:=mem) [q] p with⟨I,G⟩|⟨I,G⟩
   ·simp at I;rw[G,if_pos I]
   ·simp at I;rw[G,if_neg I]
  have AM:base≠q:=fun e=>by subst e;rw[D0]at ay;cases ay
  have tM:base≠r:=fun e=>by subst e;rw[fK]at ay;cases ay
  refine O9 (Br:=.arr t l) (mem1:=cW (gY [q]) mem) (xs:=a.eval s) (l0:=l) aY c0 im er hL (by rw[bH];simp only[if_neg Kf];exact fK) trivial (by rw[bH];simp only[if_neg AM];exact ay) A7 ?_ rfl Rh rE Ee (JZ er) g0 ad.1 ?_
  ·rcases dP with⟨I,G⟩|⟨b,cap,cur,cd,I,hbk,ck,eP,gg,g6⟩
   ·exact .inl ⟨I,G⟩
   ·have aA:=vW ck gg g6 0 l.length (Nat.zero_le _) (Nat.le_refl _);have dU:aW l 0 l.length=l:=by simp[aW]
    rw[dU]at aA;simp only[Nat.zero_mul,List.drop_zero,Nat.sub_zero]at aA;exact .inr ⟨b,cap,cur,cd,I,hbk,ck,eP,gg,aA.mono er.sub (er.keeps aD)⟩
  ·rw[bH];funext p
   by_cases bp:p=r
   ·subst bp;rw[fz,fm,fz,fm]
   ·by_cases bc:p=base
    ·subst bc;rw[fz,ek tM,fz,ek AM,fm,fz,ek tM,fm]
    ·by_cases cq:p=q
     ·subst cq;rw[fz,ek bp,fz,fm,fz,ek bp,ek bc];simp
     ·rw[fz,ek bp,fz,ek cq,ek bc,fz,ek bp,ek bc];simp[cq]
 |iv r =>
  simp only at h;split at h<;>try cases h
  rename_i adb;split at h<;>try cases h
  rename_i eI l kz az;split at h<;>try cases h
  rename_i nd;subst nd;split at h<;>try cases h
  rename_i d ns vu;have Kf:r≠q:=fun e=>by subst e;simp[Nat.beq_refl]at adb
  obtain⟨fK,b,cap,cur,cd,ri,A7,k6⟩:=zQ av aD az dw;obtain⟨gD,iN⟩:=Pg aD av k6 vu;obtain⟨a1,bf,ck,eP,_,_⟩:=k6;have nV:r∉ns:=fun h=>by
   obtain⟨t2,gI,G⟩:=aeP vu r h;rw[az]at G;cases G
  have JI:base∉ns:=fun h=>gD base h ay
  obtain⟨er,hL⟩:=rJ (ns:=q::ns) aD;have bH:cW (gY (q::ns)) mem=fun p=>if p∈q::ns then some .dead else mem p:=by
   funext p;rcases oQ (mem:=mem) (q::ns) p with⟨I,G⟩|⟨I,G⟩
   ·rw[G,if_pos I]
   ·rw[G,if_neg I]
  have AM:base≠q:=fun e=>by subst e;rw[D0]at ay;cases ay
  have tM:base≠r:=fun e=>by subst e;rw[fK]at ay;cases ay
  have g9:r∉q::ns:=by simp[Kf,nV]
  have gC:base∉q::ns:=by simp[AM,JI]
  have cS:(cat l [d]).length=l.length+1:=by simp[cat]
  refine O9 (Br:=.eE t l kz) (mem1:=cW (gY (q::ns)) mem) (xs:=a.eval s) (l0:=cat l [d]) aY c0 im er hL (by rw[bH];simp only[if_neg g9];exact fK) trivial (by rw[bH];simp only[if_neg gC];exact ay) A7 (.inr ⟨b,cap,cur,cd,by rw[cS];exact ri,a1,by rw[cS];exact bf,ck,eP,?_⟩) rfl Rh rE Ee (JZ er) g0 (by rw[cS];exact ad.1) ?_
  ·have aA:=vW (S:=ga O mem S ns) (by rw[cS];exact bf) eP iN 0 (cat l [d]).length (Nat.zero_le _) (Nat.le_refl _);have dU:aW (cat l [d]) 0 (cat l [d]).length=cat l [d]:=by simp[aW]
   rw[dU]at aA;simp only[Nat.zero_mul,List.drop_zero,Nat.sub_zero]at aA;exact aA.mono (fun b ay=>ay.imp id fun⟨r,aw,h⟩=>⟨r,List.mem_cons_of_mem _ aw,h⟩) (fun _ _=>rfl)
  ·rw[bH];have acb:∀p,cW (gY ns) mem p=if p∈ns then some .dead else mem p:=fun p=>by
    rcases oQ (mem:=mem) ns p with⟨I,G⟩|⟨I,G⟩
    ·rw[G,if_pos I]
    ·rw[G,if_neg I]
   funext p
   by_cases bp:p=r
   ·subst bp;rw[fz,fm,fz,fm]
   ·by_cases bc:p=base
    ·subst bc;rw[fz,ek tM,fz,ek AM,fz,fm,fz,ek tM,fm]
    ·by_cases cq:p=q
     ·subst cq;rw[fz,ek bp,fz,fm,fz,ek bp,ek bc];simp
     ·rw[fz,ek bp,fz,ek cq,fz,ek bc,fz,ek bp,ek bc,acb];simp[cq]
 |_=>simp only at h;cases h
end
end bF
end Go.Proofs.YtlbppjmekiemiabGreatDoor


/- The executor on data: calls, by contracts. No condition. -/
namespace Go.Proofs.YtlbppjmekiemiabGreatDoor
namespace bF
section
variable {P:Program} {tab:cm} {O bU jL gM:dp} {mem fl mem1 mem2:eb} {w w':World} {S S':Nat->Prop}

def cJ(au:List bS):eb:=fun r=>au[r]?

def AC(P:Program)(tab:cm)(f:Nat)(vs:List V)(au:List bS)(v:V)(du:List bS):Prop :=
 ∀(w:World) (S:Nat->Prop) (O:dp) (xs:List Value),Inv tab O (cJ au) w S->fI tab O (cJ au) w S vs xs ->
  Calls P f xs.toArray w fun e w'=>∃x bU S',e=.returned x/\Ext O (cJ au) w S bU (cJ du) w' S'/\Inv tab bU (cJ du) w' S'/\cl tab bU (cJ du) w' S' v x

def jv(P:Program)(tab:cm)(f:Nat)(C:a7):Prop :=
 ∀vs au p v du,C vs au=some (p,v,du)->under p True->AC P tab f vs au v du

def Sound(P : Program)(tab : cm)(Γ : Ctx) : Prop := ∀f C, look Γ f = some C -> jv P tab f C /\ (∃fn, P.funcs[f]? = some fn /\ fn.body.isSome = true /\ (fn.name == "runtime.NumGoroutine") = false)

def Ge:bS->bS->Prop
 |.box _,.box _=>True
 |.arr t _,.arr u _=>t=u
 |.set _,.set _=>True
 |.eE t l _,.eE u k _=>t=u/\l.length=k.length
 |_,_=>False

def r1(jL:dp)(mem1:eb)(gM:dp)(mem2:eb)(f:Nat->Nat)(r:Nat):Prop :=
 mem1 r≠none->mem2 (f r)≠none/\∀iD,mem2 (f r)=some iD->iD.alive->∃gb,mem1 r=some gb/\Ge gb iD/\gM (f r)=jL r

theorem fx.cA{f:Nat->Nat}{c:C}{x:Value}(h:fx tab jL mem1 w S c x)(aw:∀r∈c.names,r1 jL mem1 gM mem2 f r):fx tab gM mem2 w S (c.cA f) x:=by
 cases c with
 |E t d=>exact h
 |nil t=>exact h
 |undef=>trivial
 |any=>trivial
 |mw t l i k=>exact h
 |ptr r o =>
  obtain⟨a2,I⟩:=h;obtain⟨fe,a1⟩:=aw r (by simp[C.names]) a2;refine⟨fe,fun cs en=>?_⟩;obtain⟨gb,aN,aX,cS⟩:=a1 _ en trivial;cases gb with
  |box rb=>obtain⟨b,bL,b0⟩:=I rb aN;exact⟨b,cS.trans bL,b0⟩
  |_=>exact aX.elim
 |mp r =>
  obtain⟨a2,I⟩:=h;obtain⟨fe,a1⟩:=aw r (by simp[C.names]) a2;refine⟨fe,fun cs en=>?_⟩;obtain⟨gb,aN,aX,cS⟩:=a1 _ en trivial;cases gb with
  |set rb=>obtain⟨b,bL,b0⟩:=I rb aN;exact⟨b,cS.trans bL,b0⟩
  |_=>exact aX.elim
 |own r =>
  obtain⟨a2,I⟩:=h;obtain⟨fe,a1⟩:=aw r (by simp[C.names]) a2;refine⟨fe,fun t l en=>?_⟩;obtain⟨gb,aN,aX,cS⟩:=a1 _ en trivial;cases gb with
  |arr t1 dY=>exact cS.trans (I t1 dY aN)
  |_=>exact aX.elim
 |view r off n =>
  obtain⟨a2,I⟩:=h;obtain⟨fe,a1⟩:=aw r (by simp[C.names]) a2;refine⟨fe,fun t l en=>?_⟩;obtain⟨gb,aN,aX,cS⟩:=a1 _ en trivial;cases gb with
  |arr t1 dY =>
   obtain⟨y,bL,b0⟩:=I t1 dY aN;have:t1=t:=aX;subst this;exact⟨y,cS.trans bL,b0⟩
  |_=>exact aX.elim
 |cut r n =>
  obtain⟨a2,I⟩:=h;obtain⟨fe,a1⟩:=aw r (by simp[C.names]) a2;refine⟨fe,fun t l en=>?_⟩;obtain⟨gb,aN,aX,cS⟩:=a1 _ en trivial;cases gb with
  |arr t1 dY =>
   obtain⟨a,m,cap,bL,b0⟩:=I t1 dY aN;exact⟨a,m,cap,cS.trans bL,b0⟩
  |_=>exact aX.elim
 |kn r i k =>
  obtain⟨a2,I⟩:=h;obtain⟨fe,a1⟩:=aw r (by simp[C.names]) a2;refine⟨fe,fun t l en=>?_⟩;obtain⟨gb,aN,aX,cS⟩:=a1 _ en trivial;cases gb with
  |arr t1 dY =>
   obtain⟨b,m,cap,bL,b0⟩:=I t1 dY aN;have:t1=t:=aX;subst this;exact⟨b,m,cap,cS.trans bL,b0⟩
  |_=>exact aX.elim
 |iv r =>
  obtain⟨a2,I⟩:=h;obtain⟨fe,a1⟩:=aw r (by simp[C.names]) a2;refine⟨fe,fun t l cs en=>?_⟩;obtain⟨gb,aN,aX,cS⟩:=a1 _ en trivial;cases gb with
  |eE t1 dY rb=>exact cS.trans (I t1 dY rb aN)
  |_=>exact aX.elim
 |lc r k =>
  obtain⟨a2,I⟩:=h;obtain⟨fe,a1⟩:=aw r (by simp[C.names]) a2;refine⟨fe,fun t l cs en=>?_⟩;obtain⟨gb,aN,aX,cS⟩:=a1 _ en trivial;cases gb with
  |eE t1 dY rb =>
   obtain⟨b,m,cap,bL,b0⟩:=I t1 dY rb aN;obtain⟨bm,az⟩:=aX;subst bm;exact⟨b,m,cap,cS.trans bL,by rw[<- az];exact b0⟩
  |_=>exact aX.elim
 |fn g iG =>
  obtain⟨a2,vs,I,G,Y⟩:=h;refine⟨fun q aH=>?_,vs,I,by simpa using G,fun i q aH=>?_⟩
  ·simp only[List.mem_map]at aH;obtain⟨r,g9,rfl⟩:=aH;exact(aw r g9 (a2 r g9)).1
  ·simp only[List.getElem?_map,Option.map_eq_some_iff]at aH;obtain⟨r,g9,rfl⟩:=aH;have aB:=List.mem_of_getElem? g9;obtain⟨y,cK,cN,dA⟩:=Y i r g9;refine⟨y,cK,cN,fun cs en=>?_⟩;obtain⟨gb,aN,aX,cS⟩:=(aw r aB (a2 r aB)).2 _ en trivial;cases gb with
   |box rb=>obtain⟨b,bL,b0⟩:=dA rb aN;exact⟨b,cS.trans bL,b0⟩
   |_=>exact aX.elim

theorem kd.cA{f:Nat->Nat}{v:V}{x:Value}(h:kd tab jL mem1 w S v x)(aw:∀r∈v.names,r1 jL mem1 gM mem2 f r):kd tab gM mem2 w S (v.cA f) x:=by
 cases v with
 |one c=>exact⟨h.1,h.2.cA aw⟩
 |agg cs =>
  obtain⟨xs,e,I,G⟩:=h;refine⟨xs,e,by simpa using I,fun i c hi=>?_⟩;simp only[List.getElem?_map,Option.map_eq_some_iff]at hi;obtain⟨gX,aA,rfl⟩:=hi;obtain⟨y,cK,cN,dA⟩:=G i gX aA;exact⟨y,cK,cN,dA.cA fun r g9=>aw r (by simp only[V.names,List.mem_flatMap];exact⟨gX,List.mem_of_getElem? aA,g9⟩)⟩
 |ao vs=>exact h.elim

def V.oo:V->List Nat
 |.ao vs=>vs.flatMap V.names
 |v=>v.names

theorem cl.cA{f:Nat->Nat}{v:V}{x:Value}(h:cl tab jL mem1 w S v x)(aw:∀r∈v.oo,r1 jL mem1 gM mem2 f r):cl tab gM mem2 w S (v.cA f) x:=by
 cases v with
 |one c =>
  have:kd tab jL mem1 w S (.one c) x\/c=.undef:=by cases c<;>first|exact .inr rfl|exact .inl h
  rcases this with eu|rfl
  ·have:=eu.cA (gM:=gM) (mem2:=mem2) (f:=f) aw;cases c<;>first|trivial|exact this
  ·trivial
 |agg cs=>exact kd.cA (v:=.agg cs) h aw
 |ao vs =>
  obtain⟨xs,e,I,G⟩:=h;refine⟨xs,e,by simpa using I,fun i u hi=>?_⟩;simp only[List.getElem?_map,Option.map_eq_some_iff]at hi;obtain⟨jb,hu,rfl⟩:=hi;obtain⟨y,cK,cN⟩:=G i jb hu;have aB:∀r∈jb.names,r1 jL mem1 gM mem2 f r:=fun r g9=>aw r (by simp only[V.oo,List.mem_flatMap];exact⟨jb,List.mem_of_getElem? hu,g9⟩)
  refine⟨y,cK,?_⟩;cases jb with
  |one c=>exact kd.cA (v:=.one c) cN aB
  |agg cs=>exact kd.cA (v:=.agg cs) cN aB
  |ao us=>exact cN.elim

theorem p3.cA{f:Nat->Nat}{B:bS}{l:Loc}(h:p3 tab jL mem1 w S B l)(aw:∀r∈B.names,r1 jL mem1 gM mem2 f r):p3 tab gM mem2 w S (B.cA f) l:=by
 cases B with
 |dead=>exact h.elim
 |box cs =>
  cases l with
  |ez x=>exact h.elim
  |gB b =>
   obtain⟨vs,e,I,G,Y⟩:=h;refine⟨vs,e,I,by simpa using G,fun i c hi=>?_⟩;simp only[List.getElem?_map,Option.map_eq_some_iff]at hi;obtain⟨gX,aA,rfl⟩:=hi;obtain⟨y,cK,cN,dA⟩:=Y i gX aA;exact⟨y,cK,cN,dA.cA fun r g9=>aw r (by simp only[bS.names,List.mem_flatMap];exact⟨gX,List.mem_of_getElem? aA,g9⟩)⟩
 |set aF =>
  cases l with
  |ez x=>exact h.elim
  |gB b=>exact h
 |eE t iM cs =>
  cases l with
  |gB b=>exact h.elim
  |ez x =>
   obtain⟨b,cap,cur,e,I,G,Y,aS,bj,bK,c4⟩:=h;refine⟨b,cap,cur,e,I,G,Y,aS,bj,bK,fun j c aT=>?_⟩;simp only[List.getElem?_map,Option.map_eq_some_iff]at aT;obtain⟨gX,aA,rfl⟩:=aT;obtain⟨mZ,y,cK,cN,dA⟩:=c4 j gX aA;exact⟨mZ,y,cK,cN,dA.cA fun r g9=>aw r (by simp only[bS.names,List.mem_flatMap];exact⟨gX,List.mem_of_getElem? aA,g9⟩)⟩
 |arr t iM =>
  cases l with
  |gB b=>exact h.elim
  |ez x=>exact h

theorem Y6{v:V}{x:Value}(h:cl tab O mem w S v x):cl tab O mem w S (pY v) x:=by
 cases v with
 |one c =>
  cases c with
  |nil t=>obtain⟨I,rfl⟩:=h;exact⟨rfl,.empty t none 0⟩
  |_=>exact h
 |agg cs =>
  obtain⟨xs,e,I,G⟩:=h;refine⟨xs,e,by simpa using I,fun i c hi=>?_⟩;simp only[List.getElem?_map,Option.map_eq_some_iff]at hi;obtain⟨gX,aA,rfl⟩:=hi;obtain⟨y,cK,cN,dA⟩:=G i gX aA;refine⟨y,cK,cN,?_⟩;cases gX with
  |nil t =>
   have:y=.slice none 0 0:=dA;subst this;exact dE.empty t none 0
  |_=>exact dA
 |ao vs=>exact h

theorem alL(v:V):∀r∈(pY v).oo,r∈v.oo:=by
 intro r aw;cases v with
 |one c=>cases c<;>exact aw
 |agg cs =>
  simp only[pY,V.oo,V.names,List.mem_flatMap,List.mem_map]at aw |-;obtain⟨c,⟨gX,aA,rfl⟩,G⟩:=aw;refine⟨gX,aA,?_⟩;cases gX<;>exact G
 |ao vs=>exact aw

theorem Tc{f:Nat->Nat}{B:bS}(h:B.alive):Ge B (B.cA f):=by
 cases B with
 |dead=>exact h.elim
 |box cs=>trivial
 |set aF=>trivial
 |arr t l=>exact rfl
 |eE t l cs=>exact⟨rfl,rfl⟩

theorem om{f:Nat->Nat}{B:bS}:(B.cA f).alive↔B.alive:=by cases B<;>exact Iff.rfl
end
end bF
end Go.Proofs.YtlbppjmekiemiabGreatDoor


/- The executor on data: calls, there and back. No condition. -/
namespace Go.Proofs.YtlbppjmekiemiabGreatDoor
namespace bF
section
variable {P:Program} {tab:cm} {O bU jL gM:dp} {mem fl mem1 mem2:eb} {w w':World} {S S':Nat->Prop}

structure Handed(mem:eb)(seen:List Nat)(blks:List bS):Prop where
 nodup:seen.Nodup
 len:blks.length=seen.length
 at_:∀(j r:Nat),seen[j]? = some r->blks[j]? = some ((mem r).getD .dead)
 closed:∀B∈blks,∀r∈B.names,r∈seen

theorem SS{seen:List Nat}(aq:seen.Nodup){j r:Nat}(h:seen[j]? = some r):idx seen r=j:=by
 obtain⟨aT,rfl⟩:=List.getElem?_eq_some_iff.1 h;unfold idx;exact List.Nodup.idxOf_getElem aq j aT

theorem Jw{seen:List Nat}{r:Nat}(h:r∈seen):seen[idx seen r]? = some r:=by
 unfold idx;rw[List.getElem?_eq_getElem (List.idxOf_lt_length_iff.2 h),List.getElem_idxOf]

def h9(seen:List Nat)(O:dp):dp:=fun j=>(seen[j]?).bind O

section
variable {seen:List Nat} {blks:List bS} (aQ:Handed mem seen blks)
include aQ

theorem Handed.rL{j r:Nat}(h:seen[j]? = some r):cJ (blks.map (bS.cA (idx seen))) j=some (((mem r).getD .dead).cA (idx seen)):=by
 simp[cJ,aQ.at_ j r h]

theorem Handed.UI{j:Nat}{B:bS}(h:cJ (blks.map (bS.cA (idx seen))) j=some B):∃r,seen[j]? = some r/\B=((mem r).getD .dead).cA (idx seen):=by
 have aT:j<seen.length:=by
  have:=(List.getElem?_eq_some_iff.1 h).1;rw[<- aQ.len];simpa using this
 refine⟨seen[j],List.getElem?_eq_getElem aT,?_⟩;have:=aQ.rL (List.getElem?_eq_getElem aT);rw[h]at this;exact Option.some.inj this

theorem Handed.cA{r:Nat}(aw:r∈seen):r1 O mem (h9 seen O) (cJ (blks.map (bS.cA (idx seen)))) (idx seen) r:=fun a2=>by
 have aB:=aQ.rL (Jw aw);refine⟨by rw[aB];exact(fun h=>by cases h),fun iD G bl=>?_⟩;rw[aB]at G;cases G;obtain⟨gb,I⟩:=nH a2;rw[I]at bl |-;exact⟨gb,rfl,Tc (om.1 bl),by simp[h9,Jw aw]⟩

theorem Handed.live{j:Nat}(h:Live (cJ (blks.map (bS.cA (idx seen)))) j):∃r B,seen[j]? = some r/\mem r=some B/\B.alive:=by
 obtain⟨B,I,G⟩:=h;obtain⟨r,aw,rfl⟩:=aQ.UI I;have bl:=om.1 G;cases aB:mem r with
 |none=>rw[aB]at bl;exact bl.elim
 |some B=>rw[aB]at bl;exact⟨r,B,aw,aB,bl⟩

theorem Handed.inv(aD:Inv tab O mem w S):Inv tab (h9 seen O) (cJ (blks.map (bS.cA (idx seen)))) w S:=by
 refine⟨fun j B bA bl=>?_,fun j Eh acG I G dY gI b aN aX ay gC=>?_,fun j I dY b aN ay dw=>?_,aD.lt,aD.pow⟩
 ·obtain⟨r,aw,rfl⟩:=aQ.UI bA;have sq:=om.1 bl;cases aB:mem r with
  |none=>rw[aB]at sq;exact sq.elim
  |some hq =>
   rw[aB]at sq;obtain⟨l,aN,aX⟩:=aD.rel r hq aB sq;refine⟨l,by simp[h9,aw,aN],aX.cA fun q aH=>aQ.cA ?_⟩;have:=aQ.at_ j r aw;rw[aB]at this;exact aQ.closed hq (List.mem_of_getElem? this) q aH
 ·obtain⟨r,B,aw,aB,bl⟩:=aQ.live I;obtain⟨fo,B',g9,qy,sq⟩:=aQ.live G;simp only[h9,aw,g9,Option.bind_some]at aN aX;have dj:r≠fo:=fun e=>by
   subst e;exact acG ((SS aQ.nodup aw).symm.trans (SS aQ.nodup g9))
  exact aD.inj r fo dj ⟨B,aB,bl⟩ ⟨B',qy,sq⟩ dY gI b aN aX ay gC
 ·obtain⟨r,B,aw,aB,bl⟩:=aQ.live I;simp only[h9,aw,Option.bind_some]at aN;exact aD.sep r ⟨B,aB,bl⟩ dY b aN ay dw

theorem Handed.own{b:Nat}(h:rY (h9 seen O) (cJ (blks.map (bS.cA (idx seen)))) b):∃r∈seen,∃l,Live mem r/\O r=some l/\l.block=some b:=by
 obtain⟨j,l,I,G,Y⟩:=h;obtain⟨r,B,aw,aB,bl⟩:=aQ.live I;simp only[h9,aw,Option.bind_some]at G;exact⟨r,List.mem_of_getElem? aw,l,⟨B,aB,bl⟩,G,Y⟩

theorem Handed.args:∀{vs:List V} {xs:List Value},fI tab O mem w S vs xs->(∀v∈vs,∀r∈v.oo,r∈seen)->fI tab (h9 seen O) (cJ (blks.map (bS.cA (idx seen)))) w S ((vs.map pY).map (V.cA (idx seen))) xs
 |[],[],_,_=>trivial
 |v::vs,x::xs,h,aq=>⟨(Y6 h.1).cA fun r aw=>aQ.cA (aq v (by simp) r (alL v r aw)),Handed.args h.2 fun u hu=>aq u (by simp[hu])⟩
 |[],_::_,h,_=>h.elim
 |_::_,[],h,_=>h.elim
theorem Handed.raw:∀{vs:List V} {xs:List Value},fI tab O mem w S vs xs->(∀v∈vs,∀r∈v.oo,r∈seen)->fI tab (h9 seen O) (cJ (blks.map (bS.cA (idx seen)))) w S (vs.map (V.cA (idx seen))) xs
 |[],[],_,_=>trivial
 |v::vs,x::xs,h,aq=>⟨h.1.cA fun r aw=>aQ.cA (aq v (by simp) r aw),Handed.raw h.2 fun u hu=>aq u (by simp[hu])⟩
 |[],_::_,h,_=>h.elim
 |_::_,[],h,_=>h.elim

theorem Handed.pick{C:a7}{ins:List bS}{vs:List V}{xs:List Value}(h:fI tab O mem w S vs xs)(aq:∀v∈vs,∀r∈v.oo,r∈seen):fI tab (h9 seen O) (cJ (blks.map (bS.cA (idx seen)))) w S ((Lf C (idx seen) ins vs).map (V.cA (idx seen))) xs:=by
 unfold Lf;split
 ·exact Handed.raw aQ h aq
 ·exact Handed.args aQ h aq
end

theorem Zk{α:Type}:∀(l:List α) (i j:Nat),(ka i l)[j]? = (l[j]?).map fun a=>(i+j,a)
 |[],i,j=>by simp[ka]
 |a::l,i,0=>by simp[ka]
 |a::l,i,j+1=>by
  simp only[ka,List.getElem?_cons_succ,Zk l (i+1) j];congr 1;funext a;congr 1;omega

theorem Tm:∀{m:Mem},(m.map (·.1)).Nodup->∀{j r:Nat} {B:bS},m[j]? = some (r,B)->look m r=some B
 |[],_,j,r,B,h=>by simp at h
 |(q,b7)::m,aq,0,r,B,h=>by simp at h;obtain⟨rfl,rfl⟩:=h;simp[look,Nat.beq_refl]
 |(q,b7)::m,aq,j+1,r,B,h=>by
  simp only[List.getElem?_cons_succ]at h;simp only[List.map_cons,List.nodup_cons]at aq;have aw:r∈m.map (·.1):=List.mem_map.2 ⟨(r,B),List.mem_of_getElem? h,rfl⟩;have dj:r≠q:=fun e=>aq.1 (e▸aw)
  simp only[look,hD dj];exact Tm aq.2 h

theorem xu:∀{m:Mem} {r:Nat} {B:bS},look m r=some B->∃j:Nat,m[j]? = some (r,B)
 |[],r,B,h=>by simp[look]at h
 |(q,b7)::m,r,B,h=>by
  by_cases e:r=q
  ·subst e;simp[look,Nat.beq_refl]at h;subst h;exact⟨0,rfl⟩
  ·simp only[look,hD e]at h;obtain⟨j,aT⟩:=xu h;exact⟨j+1,by simpa using aT⟩

structure lq(mem:eb)(seen:List Nat)(base:Nat)(n:Nat):Prop where
 nodup:seen.Nodup
 below:∀r∈seen,r<base
 le:seen.length<=n
 fresh:∀j,seen.length<=j->j<n->mem (base+(j-seen.length))=none

theorem zT{seen:List Nat}{base j r:Nat}(h:seen[j]? = some r):gF seen base j=r:=by simp[gF,h]
theorem u4{seen:List Nat}{base j:Nat}(h:seen.length<=j):gF seen base j=base+(j-seen.length):=by simp[gF,List.getElem?_eq_none h]

theorem lq.inj{seen:List Nat}{base n:Nat}(K:lq mem seen base n){i j:Nat}(h:gF seen base i=gF seen base j):i=j:=by
 by_cases hi:i<seen.length
 ·rw[zT (List.getElem?_eq_getElem hi)]at h
  by_cases aT:j<seen.length
  ·rw[zT (List.getElem?_eq_getElem aT)]at h;exact(List.getElem_inj K.nodup).1 h
  ·rw[u4 (by omega)]at h;have:=K.below _ (List.getElem_mem hi);omega
 ·rw[u4 (by omega)]at h
  by_cases aT:j<seen.length
  ·rw[zT (List.getElem?_eq_getElem aT)]at h;have:=K.below _ (List.getElem_mem aT);omega
  ·rw[u4 (by omega)]at h;omega

theorem zV(seen:List Nat)(base:Nat)(au:List bS)(j:Nat):(ky seen base au)[j]? = (au[j]?).map fun B=>(gF seen base j,B.cA (gF seen base)):=by
 simp only[ky,List.getElem?_map,Zk];cases au[j]?<;>simp

theorem lq.Tg{seen:List Nat}{base:Nat}{au:List bS}(K:lq mem seen base au.length){j:Nat}{B:bS}(h:au[j]? = some B):look (ky seen base au) (gF seen base j)=some (B.cA (gF seen base)):=by
 have aq:((ky seen base au).map (·.1)).Nodup:=by
  refine List.pairwise_iff_getElem.2 fun i j hi aT Sa=>?_
  simp only[List.length_map]at hi aT;have I:=zV seen base au i;have G:=zV seen base au j;rw[List.getElem?_eq_getElem hi]at I;rw[List.getElem?_eq_getElem aT]at G;simp only[List.getElem_map];cases oF:au[i]? with
  |none=>rw[oF]at I;cases I
  |some gb=>cases vq:au[j]? with
   |none=>rw[vq]at G;cases G
   |some iD =>
    rw[oF]at I;rw[vq]at G;rw[Option.some.inj I,Option.some.inj G];intro e;have:=K.inj e;omega
 exact Tm aq (j:=j) (by rw[zV,h];rfl)

theorem lq.aeY{seen:List Nat}{base:Nat}{au:List bS}{q:Nat}{b7:bS}(h:look (ky seen base au) q=some b7):∃j B,au[j]? = some B/\q=gF seen base j/\b7=B.cA (gF seen base):=by
 obtain⟨j,aT⟩:=xu h;rw[zV]at aT;cases ay:au[j]? with
 |none=>rw[ay]at aT;cases aT
 |some B =>
  rw[ay]at aT;simp only[Option.map_some,Option.some.injEq,Prod.mk.injEq]at aT;exact⟨j,B,ay,aT.1.symm,aT.2.symm⟩

def rM(seen:List Nat)(base:Nat)(au:List bS)(O bU:dp):dp:=fun q =>
 match (List.range au.length).find? fun j=>gF seen base j==q with
 |some j=>bU j
 |none=>O q

theorem lq.ba{seen:List Nat}{base:Nat}{au:List bS}(K:lq mem seen base au.length){j:Nat}(h:j<au.length):rM seen base au O bU (gF seen base j)=bU j:=by
 unfold rM;cases b6:(List.range au.length).find? fun i=>gF seen base i==gF seen base j with
 |none =>
  have:=List.find?_eq_none.1 b6 j (List.mem_range.2 h);simp at this
 |some i =>
  have:=List.find?_some b6;simp only[beq_iff_eq]at this;rw[K.inj this]

theorem lq.Bm{seen:List Nat}{base:Nat}{au:List bS}{q:Nat}(h:∀j,j<au.length->gF seen base j≠q):rM seen base au O bU q=O q:=by
 unfold rM;have:(List.range au.length).find? (fun i=>gF seen base i==q)=none:=by
  rw[List.find?_eq_none];intro j aT;simpa using h j (List.mem_range.1 aT)
 rw[this]
end
end bF
end Go.Proofs.YtlbppjmekiemiabGreatDoor


/- The executor on data: calls, the whole. No condition. -/
namespace Go.Proofs.YtlbppjmekiemiabGreatDoor
namespace bF
section
variable {P:Program} {tab:cm} {O bU jL gM:dp} {mem fl mem1 mem2:eb} {w w':World} {S S':Nat->Prop}

theorem ai7{f g:Nat->Nat}{hp B:bS}(h:je (hp.cA f) B):je hp (B.cA g):=by
 cases hp<;>cases B<;>simp_all[je,bS.cA]

theorem Iy{seen:List Nat}{blks au:List bS}{base:Nat}{v:V}{x:Value}(aD:Inv tab O mem w S)(aQ:Handed mem seen blks)(K:lq mem seen base au.length)
  (a6:Ext (h9 seen O) (cJ (blks.map (bS.cA (idx seen)))) w S bU (cJ au) w' S') (hK:Inv tab bU (cJ au) w' S') (aR:cl tab bU (cJ au) w' S' v x) :
  Ext O mem w S (rM seen base au O bU) (cW (ky seen base au) mem) w' S'/\Inv tab (rM seen base au O bU) (cW (ky seen base au) mem) w' S' /\
   cl tab (rM seen base au O bU) (cW (ky seen base au) mem) w' S' (v.cA (gF seen base)) x:=by
 have kF:∀j B,au[j]? = some B->cW (ky seen base au) mem (gF seen base j)=some (B.cA (gF seen base)):=fun j B h=>by
  simp only[cW,K.Tg h]
 have sC:∀q,(∃j B,au[j]? = some B/\q=gF seen base j)\/((∀j,j<au.length->gF seen base j≠q)/\cW (ky seen base au) mem q=mem q):=fun q=>by
  cases az:look (ky seen base au) q with
  |some b7=>obtain⟨j,B,I,G,_⟩:=lq.aeY az;exact .inl ⟨j,B,I,G⟩
  |none =>
   refine .inr ⟨fun j aT e=>?_,by simp only[cW,az]⟩;have:=K.Tg (List.getElem?_eq_getElem aT);rw[e,az]at this;cases this
 have A0:∀j,r1 bU (cJ au) (rM seen base au O bU) (cW (ky seen base au) mem) (gF seen base) j:=fun j a2=>by
  obtain⟨B,bA⟩:=nH a2;have fG:au[j]? = some B:=bA;have aT:j<au.length:=(List.getElem?_eq_some_iff.1 fG).1;refine⟨by rw[kF j B fG];exact(fun h=>by cases h),fun iD G bl=>?_⟩;rw[kF j B fG]at G;cases G;exact⟨B,bA,Tc (om.1 bl),K.ba aT⟩
 have hold:∀j q,j<au.length->q=gF seen base j->mem q≠none->seen[j]? = some q:=fun j q aT e aH=>by
  by_cases Sc:j<seen.length
  ·rw[zT (List.getElem?_eq_getElem Sc)]at e;rw[e];exact List.getElem?_eq_getElem Sc
  ·rw[u4 (by omega)]at e;exact absurd (K.fresh j (by omega) aT) (e▸aH)
 have ani:∀j r,seen[j]? = some r->Live mem r->Live (cJ (blks.map (bS.cA (idx seen)))) j:=fun j r aw ⟨B,bA,bl⟩=>by
  have:=aQ.rL aw;rw[bA]at this;exact⟨_,this,om.2 bl⟩
 have J9:∀b,rY (h9 seen O) (cJ (blks.map (bS.cA (idx seen)))) b->rY O mem b:=fun b h=>by
  obtain⟨r,_,l,I,G,Y⟩:=aQ.own h;exact⟨r,l,I,G,Y⟩
 have iS:Ext O mem w S (rM seen base au O bU) (cW (ky seen base au) mem) w' S':=by
  refine⟨fun q aH=>?_,fun q B B' h eu=>?_,a6.sub,a6.size,fun b ay aq=>a6.heap b ay fun h=>aq (J9 b h),fun b h=>(a6.only b h).imp id (Or.imp id (J9 b)),fun b h=>?_,a6.os,a6.tape,a6.output⟩
  ·rcases sC q with⟨j,B,I,rfl⟩|⟨_,G⟩
   ·rw[kF j B I];exact(fun h=>by cases h)
   ·rw[G];exact aH
  ·rcases sC q with⟨j,b7,I,e⟩|⟨I,G⟩
   ·have aT:j<au.length:=(List.getElem?_eq_some_iff.1 I).1;have av:=hold j q aT e (by rw[h];exact(fun h=>by cases h));have aB:=aQ.rL av;rw[h]at aB;have ae:=a6.kinds j _ b7 aB I;rw[e,kF j b7 I]at eu;cases eu;refine⟨ai7 ae.1,fun az=>?_⟩;obtain⟨p4,jT,bl⟩:=az;rw[e,kF j b7 I]at jT;cases jT;rw[e,K.ba aT,ae.2 ⟨b7,I,om.1 bl⟩,<- e];simp[h9,av]
   ·rw[G,h]at eu;cases eu;exact⟨je.refl _,fun _=>lq.Bm I⟩
  ·obtain⟨q,l,az,aB,ay⟩:=h;rcases sC q with⟨j,b7,I,rfl⟩|⟨I,G⟩
   ·have aT:j<au.length:=(List.getElem?_eq_some_iff.1 I).1;obtain⟨p4,jT,bl⟩:=az;rw[kF j b7 I]at jT;cases jT;rw[K.ba aT]at aB;exact(a6.own b ⟨j,l,⟨b7,I,om.1 bl⟩,aB,ay⟩).imp (J9 b) id
   ·rw[lq.Bm I]at aB;refine .inl ⟨q,l,?_,aB,ay⟩;obtain⟨p4,jT,bl⟩:=az;rw[G]at jT;exact⟨p4,jT,bl⟩
 have Kg:∀q l b,(∀j,j<au.length->gF seen base j≠q)->Live mem q->O q=some l->l.block=some b->¬rY (h9 seen O) (cJ (blks.map (bS.cA (idx seen)))) b:=fun q l b aH az aB ay h=>by
  obtain⟨r,aw,l',I,G,Y⟩:=aQ.own h;have dj:q≠r:=fun e=>by
   subst e;have:=Jw aw;have aT:idx seen q<seen.length:=(List.getElem?_eq_some_iff.1 this).1;exact aH (idx seen q) (Nat.lt_of_lt_of_le aT K.le) (zT this)
  exact aD.inj q r dj az I l l' b aB G ay Y
 refine⟨iS,⟨fun q B bA bl=>?_,fun q gT mH a1 bf dY gI b aN aX ay gC=>?_,fun q a1 dY b aN ay dw=>?_,hK.lt,hK.pow⟩,aR.cA fun r _=>A0 r⟩
 ·rcases sC q with⟨j,b7,I,rfl⟩|⟨I,G⟩
  ·have aT:j<au.length:=(List.getElem?_eq_some_iff.1 I).1;rw[kF j b7 I]at bA;cases bA;obtain⟨l,bL,b0⟩:=hK.rel j b7 I (om.1 bl);exact⟨l,by rw[K.ba aT];exact bL,b0.cA fun r _=>A0 r⟩
  ·rw[G]at bA;obtain⟨l,bL,b0⟩:=aD.rel q B bA bl;refine⟨l,by rw[lq.Bm I];exact bL,b0.ext iS aD fun b ay=>?_⟩;exact a6.heap b (aD.r5 ⟨B,bA,bl⟩ bL ay) (Kg q l b I ⟨B,bA,bl⟩ bL ay)
 ·have key:∀q l b,Live (cW (ky seen base au) mem) q->rM seen base au O bU q=some l->l.block=some b ->
    (∃j,q=gF seen base j/\Live (cJ au) j/\bU j=some l)\/((∀j,j<au.length->gF seen base j≠q)/\Live mem q/\O q=some l):=fun q l b az aB ay=>by
   rcases sC q with⟨j,b7,I,rfl⟩|⟨I,G⟩
   ·have aT:j<au.length:=(List.getElem?_eq_some_iff.1 I).1;obtain⟨p4,jT,bl⟩:=az;rw[kF j b7 I]at jT;cases jT;rw[K.ba aT]at aB;exact .inl ⟨j,rfl,⟨b7,I,om.1 bl⟩,aB⟩
   ·rw[lq.Bm I]at aB;obtain⟨p4,jT,bl⟩:=az;rw[G]at jT;exact .inr ⟨I,⟨p4,jT,bl⟩,aB⟩
  have mixed:∀j dY cL gI,Live (cJ au) j->bU j=some dY->dY.block=some b->(∀j,j<au.length->gF seen base j≠cL)->Live mem cL->O cL=some gI->gI.block=some b->False:=fun j dY cL gI bL b0 dm e3 h8 jF l1=>by
   rcases a6.own b ⟨j,dY,bL,b0,dm⟩with h|h
   ·exact Kg cL gI b e3 h8 jF l1 h
   ·have:=aD.r5 h8 jF l1;omega
  rcases key q dY b a1 aN ay with⟨j,rfl,bL,b0⟩|⟨bL,b0,dm⟩
  ·rcases key gT gI b bf aX gC with⟨Eh,rfl,xM,vK⟩|⟨xM,vK,Kv⟩
   ·exact hK.inj j Eh (fun e=>mH (by rw[e])) bL xM dY gI b b0 vK ay gC
   ·exact mixed j dY gT gI bL b0 ay xM vK Kv gC
  ·rcases key gT gI b bf aX gC with⟨Eh,rfl,xM,vK⟩|⟨xM,vK,Kv⟩
   ·exact mixed Eh gI q dY xM vK gC bL b0 dm ay
   ·exact aD.inj q gT mH b0 vK dY gI b dm Kv ay gC
 ·rcases sC q with⟨j,b7,I,rfl⟩|⟨I,G⟩
  ·have aT:j<au.length:=(List.getElem?_eq_some_iff.1 I).1;obtain⟨p4,jT,bl⟩:=a1;rw[kF j b7 I]at jT;cases jT;rw[K.ba aT]at aN;exact hK.sep j ⟨b7,I,om.1 bl⟩ dY b aN ay dw
  ·rw[lq.Bm I]at aN;obtain⟨p4,jT,bl⟩:=a1;rw[G]at jT;rcases a6.only b dw with h|h|h
   ·exact aD.sep q ⟨p4,jT,bl⟩ dY b aN ay h
   ·have:=aD.r5 ⟨p4,jT,bl⟩ aN ay;omega
   ·exact Kg q dY b I ⟨p4,jT,bl⟩ aN ay h

theorem Calls.runs{o : Oper}{a : Act}{f : Nat}{xs : Array Value}{fn : Func}{R : Value -> World -> Prop}(b6 : P.funcs[f]? = some fn)(ay : fn.body.isSome = true)(aq : (fn.name == "runtime.NumGoroutine") = false)
  {callee:Operand} {args:Array Operand} {ts:Array TypeId} (aY:o.op=.call { callee:=.value callee,args:=args,argTypes:=ts }) (cs:Array Value) (aA:a.eval callee=.func (.func f) #[] cs) (aG:args.map a.eval++cs=xs)
  (h:Calls P f xs w fun e w'=>∃x,e=.returned x/\R x w'):ec P o a w R:=by
 intro K Q ae;unfold Oper.wp;have g0:(execOp a.eval o).run P w=.ok (.enter f xs) w:=by
  have JI:¬fn.body=none:=by cases abX:fn.body<;>simp[abX]at ay |-
  have nT : ¬fn.name = "runtime.NumGoroutine" := by simpa using aq
  subst aG;simp only[execOp,aY,resolve,aA,Deferred.ofValue,Sem.run_bind,Sem.run_pure,Result.andThen_ok,invoke,callFunc];simp[program,Sem.run,b6];rw[if_neg nT,if_neg JI]
 rw[g0];refine Calls.mono h fun e w' aw=>?_
 obtain⟨x,rfl,g7⟩:=aw;exact ae x w' g7

theorem UK{seen:List Nat}:∀{args:List V},q2 seen (args.flatMap V.names)=true->args.all V.Eu=true->∀v∈args,∀r∈v.oo,r∈seen:=by
 have key:∀l:List Nat,q2 seen l=true->∀r∈l,r∈seen:=fun l=>by
  induction l with
  |nil=>intro _ r aw;simp at aw
  |cons q l de =>
   intro h r aw;simp only[q2]at h;split at h
   ·rename_i aH;simp only[List.mem_cons]at aw;rcases aw with rfl|aw
    ·exact(vQ seen r).1 aH
    ·exact de h r aw
   ·cases h
 intro args h bm v aR r aw;have:r∈v.names:=by
  cases v with
  |ao us=>have:=List.all_eq_true.1 bm _ aR;cases this
  |one c=>exact aw
  |agg cs=>exact aw
 exact key _ h r (List.mem_flatMap.2 ⟨v,aR,this⟩)

theorem O3{seen:List Nat}:∀{l:List Nat},q2 seen l=true->∀r∈l,r∈seen:=by
 intro l
 induction l with
 |nil=>intro _ r aw;simp at aw
 |cons q l de =>
  intro h r aw;simp only[q2]at h;split at h
  ·rename_i aH;simp only[List.mem_cons]at aw;rcases aw with rfl|aw
   ·exact(vQ seen r).1 aH
   ·exact de h r aw
  ·cases h

theorem IP:∀{l:List Nat},distinct l=true->l.Nodup:=by
 intro l
 induction l with
 |nil=>intro _;exact List.nodup_nil
 |cons q l de =>
  intro h;simp only[distinct]at h;split at h
  ·cases h
  ·rename_i aH;exact List.nodup_cons.2 ⟨Bj aH,de h⟩

theorem Cx{base:Nat}:∀{l:List Nat},u0 base l=true->∀r∈l,r<base:=by
 intro l
 induction l with
 |nil=>intro _ r aw;simp at aw
 |cons q l de =>
  intro h r aw;simp only[u0]at h;split at h
  ·cases h
  ·rename_i aH;simp only[List.mem_cons]at aw;rcases aw with rfl|aw
   ·cases hle:Nat.ble base r with
    |true=>rw[hle]at aH;cases aH
    |false =>
     have:¬base<=r:=fun h=>by rw[Nat.ble_eq_true_of_le h]at hle;cases hle
     omega
   ·exact de h r aw

theorem Ky:∀{as au:List bS},ua as au=true->as.length<=au.length/\au.length<=as.length+7
 |[],au,h=>⟨by simp,by simpa using Nat.le_of_ble_eq_true h⟩
 |a::as,[],h=>by simp[ua]at h
 |a::as,b::au,h=>by
  simp only[ua]at h;split at h
  ·have:=Ky h;simp;omega
  ·cases h

def wW(base:Nat)(mem:eb)(names:List Nat)(m:Mem):Prop:=∀r B,(r,B)∈m->(base<=r->mem r=none)/\(r<base->r∈names)

theorem Gv{seen:List Nat}{base:Nat}{au:List bS}{j:Nat}(h:j<au.length):∃B,(gF seen base j,B)∈ky seen base au:=by
 have:=zV seen base au j;rw[List.getElem?_eq_getElem h]at this;exact⟨_,List.mem_of_getElem? this⟩
end
end bF
end Go.Proofs.YtlbppjmekiemiabGreatDoor


/- The executor on data: the operation 'call'. No condition. -/
namespace Go.Proofs.YtlbppjmekiemiabGreatDoor
namespace bF
section
variable {P:Program} {tab:cm} {Γ:Ctx} {O bU jL gM:dp} {mem fl mem1 mem2:eb} {w w':World} {S S':Nat->Prop}

theorem UZ{base:Nat}{seen:List Nat}{args:List V}{au:List bS}(h:Bu base seen args au=true) :
  seen.Nodup/\(∀r∈seen,r<base)/\(∀v∈args,∀r∈v.oo,r∈seen)/\∀B∈au,∀r∈B.names,r∈seen:=by
 unfold Bu at h;split at h<;>try cases h
 rename_i I;split at h<;>try cases h
 rename_i G;split at h<;>try cases h
 rename_i Y;split at h<;>try cases h
 rename_i aS;exact⟨IP I,Cx G,UK Y aS,fun B bA r aw=>O3 h r (List.mem_flatMap.2 ⟨B,bA,aw⟩)⟩

theorem RS{ml:Mem}{names:List Nat}(aB:mem=look ml)(aq:names.Nodup)(aA:∀B∈(fi ml names).map (·.2),∀r∈B.names,r∈names):Handed mem names ((fi ml names).map (·.2)):=by
 subst aB;refine⟨aq,by simp[fi],fun j r aw=>by simp[fi,aw],aA⟩

theorem KR(ml:Mem)(names:List Nat):(fi ml names).map (·.1)=names:=by
 unfold fi;rw[List.map_map];exact(List.map_congr_left (fun _ _=>rfl)).trans (List.map_id names)

theorem DL{ns ms:List Nat}{c:C}{x:Value}(h:dE tab w (ga O mem S ns) c x)(av:∀r∈ns,r∈ms):dE tab w (ga O mem S ms) c x :=
 h.mono (fun _ h=>h.imp id fun⟨r,aw,h⟩=>⟨r,av r aw,h⟩) (fun _ _=>rfl)

theorem IM{lm:Mem}(aD:Inv tab O mem w S)(av:gj lm mem){N:List Nat}:∀{vs ds:List V} {ns:List Nat} {xs:List Value},fI tab O mem w S vs xs->re tab lm vs=some (ds,ns)->(∀r∈ns,r∈N) ->
  ∀{fH:dp} {mem0:eb},fI tab fH mem0 w (ga O mem S N) ds xs
 |[],ds,ns,xs,h,bH,_,fH,mem0=>by
  simp only[re]at bH;cases bH;cases xs with
  |nil=>trivial
  |cons x xs=>exact h.elim
 |v::vs,ds,ns,[],h,bH,_,_,_=>h.elim
 |v::vs,ds,ns,x::xs,h,bH,jU,fH,mem0=>by
  simp only[re]at bH;split at bH<;>try cases bH
  rename_i e1 gD us iN aR pH;refine⟨?_,IM aD av h.2 pH (fun r aw=>jU r (by simp[aw]))⟩;cases v with
  |ao us=>cases aR
  |one c =>
   simp only[Option.map_eq_some_iff]at aR;obtain⟨⟨d,Bp⟩,jl,bv⟩:=aR;cases bv;have aA:c≠.undef:=fun e=>by subst e;simp only[ma]at jl;cases jl
   have aG:x.oneCell'=true/\fx tab O mem w S c x:=by cases c<;>first|exact absurd rfl aA|exact h.1
   obtain⟨_,aw⟩:=FB aD av aG jl;obtain⟨t,e,rfl⟩:=NS jl;exact⟨aG.1,DL aw fun r aw=>jU r (by simp[aw])⟩
  |agg cs =>
   simp only[Option.map_eq_some_iff]at aR;obtain⟨⟨hP,Bp⟩,jl,bv⟩:=aR;cases bv;obtain⟨ys,rfl,I,G⟩:=h.1;obtain⟨_,b0,dm⟩:=FC aD av (fun i=>ys[i]?) G jl;refine⟨ys,rfl,by rw[I,b0],fun i d hi=>?_⟩;obtain⟨y,cK,cN,dA⟩:=dm i d hi;exact⟨y,cK,cN,(DL dA fun r aw=>jU r (by simp[aw])).BK⟩

theorem NV:∀{vs:List V} {xs:List Value},fI tab O mem w S vs xs->fI tab O mem w S (vs.map pY) xs
 |[],[],_=>trivial
 |_::_,_::_,h=>⟨Y6 h.1,NV h.2⟩
 |[],_::_,h=>h.elim
 |_::_,[],h=>h.elim

theorem W3:∀{vs us:List V} {xs ys:List Value},fI tab O mem w S vs xs->fI tab O mem w S us ys->fI tab O mem w S (vs++us) (xs++ys)
 |[],_,[],_,_,h=>h
 |_::_,_,_::_,_,h,eu=>⟨h.1,W3 h.2 eu⟩
 |[],_,_::_,_,h,_=>h.elim
 |_::_,_,[],_,h,_=>h.elim

theorem W5:∀{iG:List Nat} {ys:List Value},ys.length=iG.length->(∀(i r:Nat),iG[i]? = some r->∃y,ys[i]? = some y/\cl tab O mem w S (.one (.ptr r 0)) y) ->
  fI tab O mem w S (iG.map fun r=>.one (.ptr r 0)) ys
 |[],[],_,_=>trivial
 |[],_::_,h,_=>by simp at h
 |_::_,[],h,_=>by simp at h
 |r::iG,y::ys,h,aw=>by
  obtain⟨s5,I,G⟩:=aw 0 r rfl;simp at I;subst I;exact⟨G,W5 (by simpa using h) fun i r hi=>by simpa using aw (i+1) r (by simpa using hi)⟩

theorem Vg{c:C}{y:Value}(aA:c.plain=true)(h:fx tab jL mem1 w S c y):fx tab gM mem2 w' S' c y:=by
 cases c with
 |E t d=>cases t<;>first|(cases aA;done)|(cases h;constructor)
 |any=>trivial
 |_=>cases aA

theorem EI{v:V}{x:Value}(ad:v.Lg=true)(h:kd tab jL mem1 w S v x):kd tab gM mem2 w' S' v x:=by
 cases v with
 |one c=>exact⟨h.1,Vg ad h.2⟩
 |agg cs =>
  obtain⟨xs,e,I,G⟩:=h;refine⟨xs,e,I,fun i c hi=>?_⟩;obtain⟨y,cK,cN,dA⟩:=G i c hi;exact⟨y,cK,cN,Vg (List.all_eq_true.1 ad c (List.mem_of_getElem? hi)) dA⟩
 |ao vs=>cases ad

theorem agO{v:V}{x:Value}(ad:v.plain=true)(h:cl tab jL mem1 w S v x):cl tab gM mem2 w' S' v x:=by
 cases v with
 |one c =>
  cases c with
  |E t d=>exact EI (v:=.one (.E t d)) ad h
  |undef=>trivial
  |any=>exact EI (v:=.one .any) ad h
  |_=>cases ad
 |agg cs=>exact EI (v:=.agg cs) ad h
 |ao vs =>
  obtain⟨xs,e,I,G⟩:=h;refine⟨xs,e,I,fun i u hi=>?_⟩;obtain⟨y,cK,cN⟩:=G i u hi;exact⟨y,cK,EI (List.all_eq_true.1 ad u (List.mem_of_getElem? hi)) cN⟩

theorem MO{mf uh:eb}(a6:Ext O mf w S bU uh w' S')(aD:Inv tab O mf w S):∀{v:V} {x:Value},kd tab O mf w S v x->kd tab bU uh w' S' v x
 |.one _,_,⟨I,G⟩=>⟨I,G.ext a6 aD⟩
 |.agg _,_,⟨xs,I,G,Y⟩=>⟨xs,I,G,fun i c aA=>let ⟨y,cK,cN,dA⟩:=Y i c aA;⟨y,cK,cN,dA.ext a6 aD⟩⟩
 |.ao _,_,h=>h.elim

theorem zd{mf uh:eb}(a6:Ext O mf w S bU uh w' S')(aD:Inv tab O mf w S){v:V}{x:Value}(h:cl tab O mf w S v x):cl tab bU uh w' S' v x:=by
 cases v with
 |one c=>cases c<;>first|trivial|exact MO (v:=.one _) a6 aD h
 |agg cs=>exact MO (v:=.agg cs) a6 aD h
 |ao vs =>
  obtain⟨xs,I,G,Y⟩:=h;exact⟨xs,I,G,fun i v aR=>let ⟨y,cK,cN⟩:=Y i v aR;⟨y,cK,MO a6 aD cN⟩⟩

theorem KU{lm:Mem}(aD:Inv tab O mem w S)(av:gj lm mem){N:List Nat}:∀{vs:List V} {xs:List Value},fI tab O mem w S vs xs->(∀r∈(oR tab lm vs).2,r∈N) ->
  fI tab O (cW (gY N) mem) w (ga O mem S N) (oR tab lm vs).1 xs
 |[],[],_,_=>trivial
 |[],_::_,h,_=>h.elim
 |_::_,[],h,_=>h.elim
 |v::vs,x::xs,h,jU=>by
  obtain⟨a6,_⟩:=rJ (ns:=N) aD;simp only[oR]at jU |-;split at jU
  ·rename_i e1 gD aR;refine⟨?_,KU aD av h.2 fun r aw=>jU r (by simp[aw])⟩;cases v with
   |ao us=>cases aR
   |one c =>
    simp only[Option.map_eq_some_iff]at aR;obtain⟨⟨d,Bp⟩,jl,bv⟩:=aR;cases bv;have aA:c≠.undef:=fun e=>by subst e;simp only[ma]at jl;cases jl
    have aG:x.oneCell'=true/\fx tab O mem w S c x:=by cases c<;>first|exact absurd rfl aA|exact h.1
    obtain⟨_,aw⟩:=FB aD av aG jl;obtain⟨t,e,rfl⟩:=NS jl;exact⟨aG.1,DL aw fun r aw=>jU r (by simp[aw])⟩
   |agg cs =>
    simp only[Option.map_eq_some_iff]at aR;obtain⟨⟨hP,Bp⟩,jl,bv⟩:=aR;cases bv;obtain⟨ys,rfl,I,G⟩:=h.1;obtain⟨_,b0,dm⟩:=FC aD av (fun i=>ys[i]?) G jl;refine⟨ys,rfl,by rw[I,b0],fun i d hi=>?_⟩;obtain⟨y,cK,cN,dA⟩:=dm i d hi;exact⟨y,cK,cN,(DL dA fun r aw=>jU r (by simp[aw])).BK⟩
  ·exact⟨zd a6 aD h.1,KU aD av h.2 jU⟩

theorem ajk{ml:Mem}(aB:mem=look ml)(names:List Nat):gj (fi ml names) mem:=fun r B h lT=>by
 subst aB;obtain⟨j,aT⟩:=xu h;simp only[fi,List.getElem?_map,Option.map_eq_some_iff,Prod.mk.injEq]at aT;obtain⟨q,_,rfl,rfl⟩:=aT;cases aH:look ml q with
 |none=>rw[aH]at lT;exact lT.elim
 |some b7=>rfl

theorem agj{o:Oper}{a:Act}{callee:Operand}{args:Array Operand}{ts:Array TypeId}{f base:Nat}{cs:Array Value}{vs as:List V}{ml:Mem}{p:Option Prop}{v:V}{au:List bS}{C:a7}{fn:Func}(aB:mem=look ml)
  (aY : o.op = .call { callee := .value callee, args := args, argTypes := ts }) (tW : jv P tab f C) (tQ : P.funcs[f]? = some fn) (tR : fn.body.isSome = true) (tS : (fn.name == "runtime.NumGoroutine") = false)
  (aD:Inv tab O mem w S) (dW:a.eval callee=.func (.func f) #[] cs) (rD:args.map a.eval++cs=(args.toList.map a.eval++cs.toList).toArray) {names:List Nat}
  (dP:Handed mem names ((fi ml names).map (·.2))->(∀v∈vs,∀r∈v.oo,r∈names)->fI tab (h9 names O) (cJ (((fi ml names).map (·.2)).map (bS.cA (idx names)))) w S (as.map (V.cA (idx names))) (args.toList.map a.eval++cs.toList))
  (aA:C (as.map (V.cA (idx names))) ((fi ml names).map fun p=>p.2.cA (idx names))=some (p,v,au)) (ae:ua ((fi ml names).map fun p=>p.2.cA (idx names)) au=true)
  (fW:Bu base names vs ((fi ml names).map (·.2))=true) (ad:under p True) (c8:∀r B,(r,B)∈ky names base au->base<=r->mem r=none) :
  ec P o a w (eh tab O mem w S (ky names base au) (v.cA (gF names base))):=by
 obtain⟨gD,iN,jn,n4⟩:=UZ fW;have aQ:=RS aB gD n4;have AW:=(Ky ae).1;rw[List.length_map,show(fi ml names).length=names.length by simp[fi]]at AW;have K:lq mem names base au.length:=⟨gD,iN,by omega,fun j xB sw=>by
  obtain⟨B,bA⟩:=Gv (seen:=names) (base:=base) sw;rw[u4 xB]at bA;exact c8 _ _ bA (by omega)⟩
 have JX:((fi ml names).map fun p=>p.2.cA (idx names))=((fi ml names).map (·.2)).map (bS.cA (idx names)):=by rw[List.map_map];rfl
 rw[JX]at aA;have vp:=tW _ _ _ _ _ aA ad w S (h9 names O) _ (aQ.inv aD) (dP aQ jn);refine Calls.runs tQ tR tS aY cs dW rfl ?_;rw[rD];refine vp.mono fun e w' ⟨x,bU,S',I,G,Y,aS⟩=>⟨x,I,?_⟩
 obtain⟨bL,b0,dm⟩:=Iy aD aQ K G Y aS;exact⟨_,S',bL,b0,dm⟩

theorem Dr{ns:List Nat}:∀{l:List Nat},∀r∈vf ns l,r∈l/\r∉ns
 |[],_,h=>by cases h
 |q::l,r,h=>by
  simp only[vf]at h;split at h
  ·obtain⟨I,G⟩:=Dr r h;exact⟨List.mem_cons_of_mem _ I,G⟩
  ·rename_i aH;rcases List.mem_cons.1 h with rfl|h
   ·exact⟨List.mem_cons_self,Bj aH⟩
   ·obtain⟨I,G⟩:=Dr r h;exact⟨List.mem_cons_of_mem _ I,G⟩

theorem ae9{ml:Mem}{names seen:List Nat}(h:∀r∈seen,r∈names):fi (fi ml names) seen=fi ml seen:=by
 unfold fi;refine List.map_congr_left fun r aw=>?_
 have key:∀ns:List Nat,r∈ns->look (ns.map fun r=>(r,(look ml r).getD .dead)) r=some ((look ml r).getD .dead):=fun ns=>by
  induction ns with
  |nil=>intro h;cases h
  |cons q ns de =>
   intro aB
   by_cases e:r=q
   ·subst e;simp[look,Nat.beq_refl]
   ·simp only[List.map_cons,look,hD e];exact de ((List.mem_cons.1 aB).resolve_left e)
 rw[key names (h r aw)];simp

theorem ae8{ml:Mem}{seen ns:List Nat}(h:∀r∈seen,r∉ns):fi (gY ns++ml) seen=fi ml seen:=by
 unfold fi;refine List.map_congr_left fun r aw=>?_
 rw[n0];rcases Tj ns r with⟨I,_⟩|⟨_,G⟩
 ·exact absurd I (h r aw)
 ·rw[G]

theorem agl{o:Oper}{a:Act}{callee:Operand}{args:Array Operand}{ts:Array TypeId}{f base:Nat}{cs:Array Value}{us:List V}{ml:Mem}{p:Option Prop}{v:V}{m:Mem}{C:a7}{fn:Func}(aB:mem=look ml)
  (aY : o.op = .call { callee := .value callee, args := args, argTypes := ts }) (tW : jv P tab f C) (tQ : P.funcs[f]? = some fn) (tR : fn.body.isSome = true) (tS : (fn.name == "runtime.NumGoroutine") = false)
  (aD:Inv tab O mem w S) (dW:a.eval callee=.func (.func f) #[] cs) (rD:args.map a.eval++cs=(args.toList.map a.eval++cs.toList).toArray) {names:List Nat}
  (tH:fI tab O mem w S us (args.toList.map a.eval++cs.toList))
  (h:Ix tab base (fi ml names) C (oR tab (fi ml names) us).1 (oR tab (fi ml names) us).2=some (p,v,m)) (ad:under p True) (c8:wW base mem names m) :
  ec P o a w (eh tab O mem w S m v):=by
 have Kc:=KU aD (ajk aB names) tH (fun r aw=>aw);generalize ank:(oR tab (fi ml names) us).2=ns at h Kc;generalize has:(oR tab (fi ml names) us).1=as at h Kc;unfold Ix at h;simp only at h;rw[KR,ae9 (seen:=vf ns names) (fun r aw=>(Dr r aw).1)]at h;split at h<;>try cases h
 rename_i vX v0 au aA;split at h<;>try cases h
 rename_i ae fW AL;obtain⟨mi,hL⟩:=rJ (ns:=ns) aD;have qy:cW (gY ns) mem=look (gY ns++ml):=by
  subst aB;funext r;rw[n0];rfl
 have vA:=ae8 (ml:=ml) (seen:=vf ns names) (fun r aw=>(Dr r aw).2);rw[<- vA]at aA ae fW;have k6:=agj (base:=base) (vs:=as) (as:=as) qy aY tW tQ tR tS hL dW rD (fun aQ jn=>Handed.raw aQ Kc jn) aA ae fW ad (fun r B bA aw=>by
  have qA:r∉ns:=fun lY=>by
   have:=Cx AL _ lY;omega
  rcases oQ (mem:=mem) ns r with⟨I,_⟩|⟨_,G⟩
  ·exact absurd I qA
  ·rw[G];exact(c8 _ _ (List.mem_append_left _ bA)).1 aw)
 intro K Q jC;refine k6 K Q fun x w' ⟨bU,S',I,G,Y⟩=>jC x w' ⟨bU,S',?_,?_,?_⟩
 ·rw[vP];exact mi.trans I
 ·rw[vP];exact G
 ·rw[vP];exact Y

theorem agk{o:Oper}{a:Act}{callee:Operand}{args:Array Operand}{ts:Array TypeId}{f base:Nat}{ex:List V}{cs:Array Value}{vs:List V}{ml:Mem}{p:Option Prop}{v:V}{m:Mem}(lZ:Sound P tab Γ)(aB:mem=look ml)
  (aY:o.op=.call { callee:=.value callee,args:=args,argTypes:=ts }) (aD:Inv tab O mem w S) (dW:a.eval callee=.func (.func f) #[] cs) (hex:fI tab O mem w S ex cs.toList) (bl:fI tab O mem w S vs (args.toList.map a.eval))
  {names:List Nat} (h:Dg Γ tab base (fi ml names) f (vs++ex)=some (p,v,m)) (ad:under p True) (c8:wW base mem names m) :
  ec P o a w (eh tab O mem w S m v):=by
 have ad5:gj (fi ml names) mem:=fun r B h lT=>by
  subst aB;obtain⟨j,aT⟩:=xu h;simp only[fi,List.getElem?_map,Option.map_eq_some_iff,Prod.mk.injEq]at aT;obtain⟨q,_,rfl,rfl⟩:=aT;cases aH:look ml q with
  |none=>rw[aH]at lT;exact lT.elim
  |some b7=>rfl
 have tH:fI tab O mem w S (vs++ex) (args.toList.map a.eval++cs.toList):=W3 bl hex;have rD:args.map a.eval++cs=(args.toList.map a.eval++cs.toList).toArray:=by
  apply Array.ext';simp
 unfold Dg at h;split at h
 ·cases h
 rename_i C eC;obtain⟨tW,fn,tQ,tR,tS⟩:=lZ f C eC;simp only at h;split at h
 ·rename_i vX v0 au aA;split at h<;>try cases h
  rename_i ae fW;rw[KR]at aA fW c8 |-;obtain⟨gD,iN,jn,n4⟩:=UZ fW;have aQ:=RS aB gD n4;have AW:=(Ky ae).1;rw[List.length_map,show(fi ml names).length=names.length by simp[fi]]at AW;have K:lq mem names base au.length:=⟨gD,iN,by omega,fun j xB sw=>by
   obtain⟨B,bA⟩:=Gv (seen:=names) (base:=base) sw;rw[u4 xB]at bA;exact(c8 _ _ bA).1 (by omega)⟩
  have JX:((fi ml names).map fun p=>p.2.cA (idx names))=((fi ml names).map (·.2)).map (bS.cA (idx names)):=by rw[List.map_map];rfl
  rw[JX]at aA;have vp:=tW _ _ _ _ _ aA ad w S (h9 names O) _ (aQ.inv aD) (aQ.pick tH jn);refine Calls.runs tQ tR tS aY cs dW rfl ?_;rw[rD];refine vp.mono fun e w' ⟨x,bU,S',I,G,Y,aS⟩=>⟨x,I,?_⟩
  obtain⟨bL,b0,dm⟩:=Iy aD aQ K G Y aS;exact⟨_,S',bL,b0,dm⟩
 ·rename_i aA;split at h
  ·exact agl (us:=(vs++ex).map pY) aB aY tW tQ tR tS aD dW rD (NV tH) h ad c8
  rename_i ds ns tP;split at h<;>try cases h
  rename_i vX v0 au jk;have pb:Inv tab (fun _=>none) (cJ []) w (ga O mem S ns):=by
   obtain⟨_,OV⟩:=rJ (ns:=ns) aD;exact⟨fun r B h=>by simp[cJ]at h,fun r fo _ ⟨B,h,_⟩=>by simp[cJ]at h,fun r ⟨B,h,_⟩=>by simp[cJ]at h,OV.lt,OV.pow⟩
  have dP:=IM (N:=ns) aD ad5 (NV tH) tP (fun r aw=>aw) (fH:=fun _=>none) (mem0:=cJ []);split at h
  ·rename_i jm;cases h;have vp:=tW _ _ _ _ _ jk ad w (ga O mem S ns) (fun _=>none) _ pb dP;refine Calls.runs tQ tR tS aY cs dW rfl ?_;rw[rD];refine vp.mono fun e w' ⟨x,bU,S',I,a6,hK,aS⟩=>⟨x,I,?_⟩
   have k7:∀b,b<w.heap.size->w'.heap[b]? = w.heap[b]?:=fun b ay=>a6.heap b ay fun⟨r,l,⟨B,bA,_⟩,_⟩=>by simp[cJ]at bA
   have er:Ext O mem w S O mem w' S:=⟨fun _ h=>h,(Ext.refl (O:=O) (mem:=mem) (w:=w) (S:=S)).kinds,fun _ h=>h,a6.size,fun b ay _=>k7 b ay,fun _ h=>.inl h,fun _ h=>.inl h,a6.os,a6.tape,a6.output⟩
   refine⟨O,S,er,⟨fun q B bA lT=>?_,aD.inj,aD.sep,fun b ay=>Nat.lt_of_lt_of_le (aD.lt b ay) a6.size,aD.xY er⟩,agO jm aS⟩;obtain⟨l,bL,b0⟩:=aD.rel q B bA lT;exact⟨l,bL,b0.ext er aD fun b ay=>k7 b (aD.r5 ⟨B,bA,lT⟩ bL ay)⟩
  ·split at h<;>try cases h
   rename_i ae AL;obtain⟨mi,hL⟩:=rJ (ns:=ns) aD;have aQ:Handed (cW (gY ns) mem) [] []:=⟨List.nodup_nil,rfl,fun j r h=>by simp at h,fun B bA=>by simp at bA⟩
   have J4:h9 [] O=fun _=>none:=by funext j;simp[h9]
   have K:lq (cW (gY ns) mem) [] base _:=⟨List.nodup_nil,fun r aw=>by simp at aw,Nat.zero_le _,fun j xB sw=>by
    obtain⟨B,bA⟩:=Gv (seen:=[]) (base:=base) sw;rw[u4 xB]at bA;have qA:base+(j-([]:List Nat).length)∉ns:=fun lY=>by
     have:=Cx AL _ lY;omega
    rcases oQ (mem:=mem) ns (base+(j-([]:List Nat).length))with⟨I,_⟩|⟨_,G⟩
    ·exact absurd I qA
    ·rw[G];exact(c8 _ _ (List.mem_append_left _ bA)).1 (by omega)⟩
   have vp:=tW _ _ _ _ _ jk ad w (ga O mem S ns) (fun _=>none) _ pb dP;refine Calls.runs tQ tR tS aY cs dW rfl ?_;rw[rD];refine vp.mono fun e w' ⟨x,bU,S',I,G,Y,aS⟩=>⟨x,I,?_⟩
   obtain⟨bL,b0,dm⟩:=Iy (O:=O) (blks:=[]) hL aQ K (by rw[J4];exact G) Y aS;exact⟨_,S',by rw[vP];exact mi.trans bL,by rw[vP];exact b0,by rw[vP];exact dm⟩

theorem agi{o:Oper}{a:Act}{callee:Operand}{args:Array Operand}{ts:Array TypeId}{f base:Nat}{iG:List Nat}{vs:List V}{ml:Mem}{p:Option Prop}{v:V}{m:Mem}(lZ:Sound P tab Γ)(aB:mem=look ml)
  (aY:o.op=.call { callee:=.value callee,args:=args,argTypes:=ts }) (aD:Inv tab O mem w S) (b6:cl tab O mem w S (.one (.fn f iG)) (a.eval callee)) (bl:fI tab O mem w S vs (args.toList.map a.eval))
  {names:List Nat} (h:Dg Γ tab base (fi ml names) f (vs++iG.map fun r=>.one (.ptr r 0))=some (p,v,m)) (ad:under p True) (c8:wW base mem names m) :
  ec P o a w (eh tab O mem w S m v):=by
 obtain⟨_,hcap,cs,dW,fw,en⟩:=b6;refine agk lZ aB aY aD dW (W5 (by simpa using fw) fun i r hi=>?_) bl h ad c8;obtain⟨y,cK,cN,dA⟩:=en i r hi;exact⟨y,by simpa using cK,cN,hcap r (List.mem_of_getElem? hi),dA⟩

theorem agm{o:Oper}{a:Act}{callee x:Operand}{ts:Array TypeId}{d:Option Int}{n:Int}(bI:fs P tab)(b8:tab.w=true)
  (aY:o.op=.call { callee:=.value callee,args:=#[x],argTypes:=ts }) (aD:Inv tab O mem w S) (b6:cl tab O mem w S (.one (.E .k3 d)) (a.eval callee)) (aG:cl tab O mem w S (.one (.E .int n)) (a.eval x)) :
  ec P o a w (eh tab O mem w S [] (.one (.E .int (pB d n)))):=by
 obtain⟨⟨fe,e0,fj,g2⟩,⟨a1,cO,cL,eH⟩,aih,gm⟩:=bI.k3 b8;have ex:=lL aG;obtain⟨_,b6⟩:=b6;generalize aR:a.eval callee=v at b6;cases b6 with
 |DH =>
  refine Calls.runs e0 fj g2 aY #[] aR rfl ?_;rw[show #[x].map a.eval++#[]=#[.int .i64 n]by simp[ex]];exact(aih n w).mono fun e w' ⟨I,G⟩=>⟨_,I,by rw[G];exact gA aD (pL _)⟩
 |DI m b cur e tC dw ay aA =>
  refine Calls.runs cO cL eH aY _ aR rfl ?_;rw[show #[x].map a.eval++#[Value.pointer (some (ca b 0))]=#[.int .i64 n,.pointer (some (ca b 0))]by simp[ex]];exact(gm n m b w (cell?_at ay aA)).mono fun e w' ⟨I,G⟩=>⟨_,I,by rw[G];exact gA aD (pL _)⟩
end
end bF
end Go.Proofs.YtlbppjmekiemiabGreatDoor


/- The executor on data: one operation, whichever it is. No condition. -/
namespace Go.Proofs.YtlbppjmekiemiabGreatDoor
namespace bF
section
variable {P:Program} {tab:cm} {Γ:Ctx} {O bU:dp} {mem fl:eb} {w w':World} {S S':Nat->Prop}

theorem ajj{ml:Mem}{names:List Nat}(aB:mem=look ml):gj (fi ml names) mem:=fun r B h lT=>by
 subst aB;obtain⟨j,aT⟩:=xu h;simp only[fi,List.getElem?_map,Option.map_eq_some_iff,Prod.mk.injEq]at aT;obtain⟨q,_,rfl,rfl⟩:=aT;cases aH:look ml q with
 |none=>rw[aH]at lT;exact lT.elim
 |some b7=>rfl

theorem Le:∀(ts:List Nat) (os:List Operand),(pairUp ts os).map (·.2)=os
 |t::ts,o::os=>by simp[pairUp,Le ts os]
 |[],o::os=>by simp[pairUp,Le [] os]
 |[],[]=>rfl
 |_::_,[]=>rfl

theorem uq(a:Act)(ts:List Nat)(os:List Operand):(pairUp ts os).map (fun p=>a.eval p.2)=os.map a.eval:=by
 have:=congrArg (List.map a.eval) (Le ts os);rw[<- this,List.map_map];rfl

theorem Vk{r o:Nat}{cs:List C}{x:Value}{lm:Mem}(av:gj lm mem)(aD:Inv tab O mem w S)(h:look lm r=some (.box cs))(aG:cl tab O mem w S (.one (.ptr r o)) x) :
  ∃b k,x=.pointer (some (ca b k)):=by
 obtain⟨b,vs,e,I,_⟩:=BT av aD h aG;exact⟨b,o,I⟩

theorem Va{r i k:Nat}{t:z}{l:List t.den}{x:Value}{lm:Mem}(av:gj lm mem)(aD:Inv tab O mem w S)(h:look lm r=some (.arr t l))(aG:cl tab O mem w S (.one (.kn r i k)) x) :
  ∃b k,x=.pointer (some (ca b k)):=by
 obtain⟨b,cap,cur,e,I,_⟩:=MY av aD h aG;exact⟨b,_,I⟩

theorem Q5{t:z}{l:List t.den}{i k:Nat}{x:Value}(aG:cl tab O mem w S (.one (.mw t l i k)) x):∃b k,x=.pointer (some (ca b k)):=by
 obtain⟨_,b,off,_,I⟩:=aG;exact⟨b,_,I⟩

theorem Vl:∀{vs:List V} {rs:List Nat} {ops:List Operand} {a:Act},BC vs=some rs->fI tab O mem w S vs (ops.map a.eval) ->
  ops.length=rs.length/\∀(i r:Nat),rs[i]? = some r->∃x,ops[i]? = some x/\cl tab O mem w S (.one (.ptr r 0)) (a.eval x)
 |[],rs,[],a,h,aR=>by simp[BC]at h;subst h;simp
 |[],rs,_::_,a,h,aR=>aR.elim
 |v::vs,rs,[],a,h,aR=>aR.elim
 |v::vs,rs,x::ops,a,h,aR=>by
  unfold BC at h;split at h<;>try cases h
  ·rename_i bv;cases bv
  ·rename_i r rest bv;cases bv;split at h<;>try cases h
   rename_i anF aw;obtain⟨I,G⟩:=Vl aw aR.2;refine⟨by simp[I],fun i q aH=>?_⟩;cases i with
   |zero=>simp at aH;subst aH;exact⟨x,rfl,aR.1⟩
   |succ i=>simp at aH |-; exact G i q aH

theorem ai9{x y:Operand}(h:MW x y=true):x=y:=by
 cases x<;>cases y<;>simp[MW]at h;subst h;rfl

theorem Z5{ts:List Nat}{aM:c9}(h:(ts.head?).bind (dQ tab)=some aM):∃T,ts.head? = some T/\dQ tab T=some aM:=by
 cases ts with
 |nil=>cases h
 |cons T ts=>exact⟨T,rfl,h⟩

theorem Du{aM:c9}{t:z}(h:aM.elem=some t):aM.isSlice t=true:=by
 unfold c9.elem at h;unfold c9.isSlice;split at h<;>try cases h
 simp

theorem Gp{args:Array Operand}{a:Act}{v:V}(h:fI tab O mem w S [v] (args.toList.map a.eval)):∃x,args=#[x]/\cl tab O mem w S v (a.eval x):=by
 obtain⟨l⟩:=args;cases l with
 |nil=>exact h.elim
 |cons x l=>cases l with
  |nil=>exact⟨x,rfl,h.1⟩
  |cons y l=>exact h.2.elim

theorem CA{args:Array Operand}{a:Act}{v u:V}(h:fI tab O mem w S [v,u] (args.toList.map a.eval)):∃x y,args=#[x,y]/\cl tab O mem w S v (a.eval x)/\cl tab O mem w S u (a.eval y):=by
 obtain⟨l⟩:=args;cases l with
 |nil=>exact h.elim
 |cons x l=>cases l with
  |nil=>exact h.2.elim
  |cons y l=>cases l with
   |nil=>exact⟨x,y,rfl,h.1,h.2.1⟩
   |cons bg l=>exact h.2.2.elim

theorem ZM{aM:c9}{base bytes:Nat}{lm:Mem}{c d:C}{p:Option Prop}{v:V}{m:Mem}(h:zN aM base bytes lm c d=some (p,v,m)):∃B,(base,B)∈m:=by
 unfold zN at h
 repeat' split at h
 all_goals (try cases h)
 all_goals first
  |exact⟨_,List.mem_cons_self ..⟩
  |exact⟨_,List.mem_cons_of_mem _ (List.mem_cons_self ..)⟩

theorem ZN{aM:c9}{base bytes q:Nat}{lm:Mem}{c:C}{p:Option Prop}{v:V}{m:Mem}(h:zO aM base bytes lm c q=some (p,v,m)):∃B,(base,B)∈m:=by
 unfold zO at h
 repeat' split at h
 all_goals (try cases h)
 all_goals exact⟨_,List.mem_cons_of_mem _ (List.mem_cons_of_mem _ (List.mem_cons_self ..))⟩

theorem K7{lo:Option Operand}{vs FN:List V}{l:Option Int}{a:Act}{xs:List Value}(h:xW lo vs=some (l,FN))(aw:fI tab O mem w S vs (lo.toList.map a.eval++xs)) :
  lo.map a.eval=kJ l/\fI tab O mem w S FN xs:=by
 cases lo with
 |none=>simp only[xW]at h;cases h;exact⟨rfl,aw⟩
 |some op =>
  simp only[xW]at h;split at h<;>try cases h
  obtain⟨I,G⟩:=aw;exact⟨by simp[kJ,lL I],G⟩

theorem af9{o:Oper}{a:Act}{x y:Operand}{op:BinOp}{t eI:TypeId}{u v:V}{p:Option Prop}{bg:V}{m:Mem}(bI:fs P tab)(aY:o.op=.binOp op t x y eI)(aD:Inv tab O mem w S)
  (aG:cl tab O mem w S u (a.eval x)) (cv:cl tab O mem w S v (a.eval y)) (h:zW tab op t u v=some (p,bg,m)) (ad:under p True) :
  ec P o a w (eh tab O mem w S m bg):=by
 have a2:=h;unfold zW at h;split at h
 ·split at h<;>try cases h
  rename_i hi;exact aga aY aD aG cv hi ad
 ·split at h<;>try cases h
  rename_i bm;simp only[Option.map_eq_some_iff]at bm;obtain⟨aM,I,G⟩:=bm;split at h<;>try cases h
  ·exact U5 bI aY I G aD aG cv (.inl ⟨rfl,rfl⟩)
  ·exact U5 bI aY I G aD aG cv (.inr ⟨rfl,rfl⟩)
 ·split at h<;>try cases h
  exact agc aY aD aG cv
 ·exact agb aY aD aG cv a2 ad
 ·split at h<;>try cases h
  rename_i aB aw pJ;split at h<;>try cases h
  rename_i aH;split at h<;>try cases h
  ·exact U4 bI aY aB pJ aH aD aG cv aw (.inl ⟨rfl,rfl⟩)
  ·exact U4 bI aY aB pJ aH aD aG cv aw (.inr ⟨rfl,rfl⟩)
 ·cases h

theorem U6{o:Oper}{a:Act}{x:Operand}{c:Value}{op:BinOp}{t eI:TypeId}{aM:c9}{b:Bool}{v:V}(bI:fs P tab)(aY:o.op=.binOp op t x (.const c) eI)(bm:dQ tab t=some aM)(ae:aM.isIface=true)(aD:Inv tab O mem w S)
  (aG:cl tab O mem w S (.one (.E .err b)) (a.eval x)) (cv:cl tab O mem w S (.one (.E .err true)) (a.eval (.const c)))
  (h:(op=.eql/\v=.one (.E .bool b))\/(op=.neq/\v=.one (.E .bool (!b)))) :
  ec P o a w (eh tab O mem w S [] v):=by
 obtain⟨ms,hu⟩:∃ms,P.underlying t=some (.interface ms):=by
  have jW:=(bI.ok t aM bm).kind;unfold c9.isIface at ae;split at ae
  ·rename_i e;rw[e]at jW;exact jW
  ·cases ae
 have eK:a.eval (.const c)=.nilIface:=by
  obtain⟨bg,dK⟩:∃bg,a.eval (.const c)=bg:=⟨_,rfl⟩
  rw[dK]at cv |-;have G:dE tab w S (.E .err true) bg:=cv.2;cases G;rfl
 have ex:(b=true/\a.eval x=.nilIface)\/(b=false/\∃qV u,a.eval x=.iface qV u):=by
  obtain⟨bg,dK⟩:∃bg,a.eval x=bg:=⟨_,rfl⟩
  rw[dK]at aG |-;have G:dE tab w S (.E .err b) bg:=aG.2;cases G with
  |Dy=>exact .inl ⟨rfl,rfl⟩
  |I6 qV u=>exact .inr ⟨rfl,qV,u,rfl⟩
 have aeK:∀d,(Op.equalIn (d+1) t .nilIface .nilIface).run P w=.ok true w:=fun d=>by simp[Op.equalIn,run_underlying hu]
 have aeL:∀d qV u,(Op.equalIn (d+1) t (.iface qV u) .nilIface).run P w=.ok false w:=fun d qV u=>by simp[Op.equalIn,run_underlying hu]
 have eq:(Op.equal t (a.eval x) .nilIface).run P w=.ok b w:=by
  rcases ex with⟨aN,aX⟩|⟨aN,qV,u,aX⟩
  ·rw[aN,aX];exact aeK 9999
  ·rw[aN,aX];exact aeL 9999 qV u
 have aby:(eqGuard op t x (.const c) (a.eval x) .nilIface).run P w=.ok () w:=by
  unfold eqGuard;rcases ex with⟨_,aX⟩|⟨_,qV,u,aX⟩<;>rw[aX]<;>cases op<;>cases x<;>rfl
 have fin:∀bg:Value,cl tab O mem w S v bg->(binOp op t (a.eval x) .nilIface).run P w=.ok bg w->ec P o a w (eh tab O mem w S [] v):=fun bg dK aw=>by
  refine lN (s:=do eqGuard op t x (.const c) (a.eval x) (a.eval (.const c));binOp op t (a.eval x) (a.eval (.const c))) (x:=bg) (w':=w) (by simp only[execOp,aY]) ?_ (gA aD dK);rw[eK,Sem.run_bind,aby];exact aw
 rcases h with⟨rfl,rfl⟩|⟨rfl,rfl⟩
 ·refine fin (.bool b) (n1 _) ?_;have:binOp .eql t (a.eval x) .nilIface=(do pure (.bool (<- Op.equal t (a.eval x) .nilIface)):Sem Value):=by
   rcases ex with⟨_,aX⟩|⟨_,qV,u,aX⟩<;>rw[aX]<;>rfl
  rw[this,Sem.run_bind,eq];rfl
 ·refine fin (.bool (!b)) (n1 _) ?_;have:binOp .neq t (a.eval x) .nilIface=(do pure (.bool (!(<- Op.equal t (a.eval x) .nilIface))):Sem Value):=by
   rcases ex with⟨_,aX⟩|⟨_,qV,u,aX⟩<;>rw[aX]<;>rfl
  rw[this,Sem.run_bind,eq];rfl
theorem af5{o:Oper}{a:Act}{base:Nat}{vs:List V}{ml:Mem}{names:List Nat}{p:Option Prop}{v:V}{m:Mem}(bI:fs P tab)(lZ:Sound P tab Γ)(aB:mem=look ml)
  (aD:Inv tab O mem w S) (aR:fI tab O mem w S vs ((operands o).map fun p=>a.eval p.2)) (h:Bx Γ tab base o vs (fi ml names)=some (p,v,m)) (ad:under p True) (c8:wW base mem names m) :
  ec P o a w (eh tab O mem w S m v):=by
 have av:gj (fi ml names) mem:=ajj aB;have tK:∀B,(base,B)∈m->mem base=none:=fun B bA=>(c8 _ _ bA).1 (Nat.le_refl _)
 unfold Bx at h;split at h
 all_goals (rename_i aY;try simp only[operands,aY]at aR)
 ·cases h;exact U7 (.inl aY) aD aR.1
 ·cases h;exact U7 (.inr aY) aD aR.1
 ·rename_i c gi jc;cases h;cases c with
  |true=>exact U8 (b:=true) aY aD aR.1 aR.2.1 aR.2.2.1
  |false=>exact U8 (b:=false) aY aD aR.1 aR.2.1 aR.2.2.1
 ·split at h<;>try cases h
  rename_i bm;exact af6 bI aY bm aD (tK _ (List.mem_singleton.2 rfl))
 ·split at h<;>try cases h
  rename_i bm aA;split at h<;>try cases h
  exact agd aY aR.1 aA aD (tK _ (List.mem_singleton.2 rfl))
 ·split at h<;>try cases h
  rename_i bm;split at h<;>try cases h
  rename_i ae;split at h<;>try cases h
  rename_i b6;split at h<;>try cases h
  rename_i jm;exact age bI aY bm ae aD (by simpa[List.map_map,Function.comp_def]using aR) b6 jm
 ·split at h<;>try cases h
  rename_i bm;split at h<;>try cases h
  rename_i ae;split at h
  ·rename_i anc AP;split at h<;>try cases h
   rename_i cs en;split at h<;>try cases h
   rename_i acM xD ;exact agf bI aY AP bm (Du ae) aD (by simpa[List.map_map,Function.comp_def]using aR) en (Nat.eq_of_beq_eq_true acM) (Nat.le_of_ble_eq_true xD) (tK _ (List.mem_singleton.2 rfl))
  split at h<;>try cases h
  rename_i aA bv;split at h<;>try cases h
  rename_i J3;split at aA<;>try cases aA
  rename_i aq;refine agh bI aY bm (Du ae) aD av (by simpa[List.map_map,Function.comp_def]using aR) bv (Nat.le_of_ble_eq_true aq) ?_ (tK _ (List.mem_cons_self ..)) (Bj J3);split at aA
  ·rename_i aH;exact .inl (Nat.eq_of_beq_eq_true aH).symm
  ·exact .inr aA
 ·split at h<;>try cases h
  rename_i bm;exact agx bI aY bm aD av aR.1 h ad
 ·split at h<;>try cases h
  rename_i bm;exact agJ bI aY bm aD av aR.1 aR.2.1 h ad
 ·split at h<;>try cases h
  rename_i ay;obtain⟨b,k,ae⟩:=Vk av aD ay aR.1;exact EE aY aD aR.1 ⟨_,ae⟩
 ·split at h<;>try cases h
  rename_i ay;obtain⟨b,k,ae⟩:=Va av aD ay aR.1;exact EE aY aD aR.1 ⟨_,ae⟩
 ·split at h<;>try cases h
  rename_i ay;obtain⟨b,cap,cur,e,ae,_⟩:=CD av aD ay aR.1;exact EE aY aD aR.1 ⟨_,ae⟩
 ·cases h;obtain⟨b,k,ae⟩:=Q5 aR.1;exact EE aY aD aR.1 ⟨_,ae⟩
 ·cases h;exact agG aY aD aR.1
 ·split at h<;>try cases h
  all_goals
   rename_i I;simp only[Option.map_eq_some_iff]at I;obtain⟨aM,Y,aS⟩:=I
  ·exact U6 bI aY Y aS aD aR.1 aR.2.1 (.inl ⟨rfl,rfl⟩)
  ·exact U6 bI aY Y aS aD aR.1 aR.2.1 (.inr ⟨rfl,rfl⟩)
 ·exact af9 bI aY aD aR.1 aR.2.1 h ad
 ·cases h;exact agH aY aD aR.1
 ·cases h;exact agF aY aD aR.1
 ·split at h<;>try cases h
  ·rename_i I G;simp only[Option.map_eq_some_iff]at I G;obtain⟨aM,Y,aS⟩:=I;obtain⟨jJ,bj,bK⟩:=G;exact agq bI aY Y aS bj bK aD aR.1
  ·rename_i I _;split at h<;>try cases h
   rename_i G;simp only[Option.map_eq_some_iff]at I G;obtain⟨aM,Y,aS⟩:=I;obtain⟨jJ,bj,bK⟩:=G;exact agp bI aY Y aS bj bK aD aR.1
 ·split at h<;>try cases h
  rename_i I G;simp only[Option.map_eq_some_iff]at I G;obtain⟨aM,Y,aS⟩:=I;obtain⟨jJ,bj,bK⟩:=G;exact ago bI aY Y aS bj bK aD aR.1
 ·split at h<;>try cases h
  rename_i acv aw;rename_i c7 cs _ _ _;have acw:c7=#[]:=Array.toList_eq_nil_iff.1 acv;subst acw;obtain⟨I,G⟩:=Vl (ops:=cs.toList) aw (by simpa[Op.operands,List.map_map,Function.comp_def]using aR);exact agz aY rfl aD (by simpa using I) (fun i r aw=>by simpa using G i r aw)
 ·split at h<;>try cases h
  rename_i vG;split at h<;>try cases h
  rename_i bm;split at h<;>try cases h
  rename_i ae;split at h<;>try cases h
  rename_i b6;exact agB bI aY (by rw[ai9 vG]) bm (Du ae) b6 aD aR.1 ad.1.1 ad.1.2.1 ad.1.2.2 (tK _ (List.mem_singleton.2 rfl))
 ·split at h<;>try cases h
  rename_i bm az;split at h<;>try cases h
  rename_i dd;split at h<;>try cases h
  rename_i acV;simp only[Op.operands,Array.toList_append,List.map_append,List.map_map,List.append_assoc,List.cons_append,List.nil_append,Option.toList_toArray,List.map_cons]at aR;have b9:=aR.1;have cT:=aR.2;have e:∀l:List Operand,(l.map ((fun p:Nat×Operand=>a.eval p.2) ∘ fun x=>(0,x)))=l.map a.eval:=fun l=>rfl
  simp only[e]at cT;obtain⟨aN,ed⟩:=K7 az cT;obtain⟨aX,e5⟩:=K7 dd ed;obtain⟨cS,hx⟩:=K7 (xs:=[]) acV (by simpa using e5);exact agI bI aY bm aD av b9 aN aX cS h ad
 ·split at h<;>try cases h
  rename_i bm;split at h<;>try cases h
  rename_i b6;split at b6<;>try cases b6
  rename_i ae;split at h<;>try cases h
  ·split at h<;>try cases h
   rename_i ay;exact ED bI aY bm ae b6 aD aR.1 (.inl ⟨_,_,rfl,rfl⟩) (Vk av aD ay aR.1)
  ·split at h<;>try cases h
   rename_i ay;exact ED bI aY bm ae b6 aD aR.1 (.inr (.inl ⟨_,_,_,rfl,rfl⟩)) (Va av aD ay aR.1)
  ·split at h<;>try cases h
   rename_i ay;obtain⟨b,cap,cur,e,jW,_⟩:=CD av aD ay aR.1;exact ED bI aY bm ae b6 aD aR.1 (.inr (.inr (.inr ⟨_,_,rfl,rfl⟩))) ⟨_,_,jW⟩
  ·exact ED bI aY bm ae b6 aD aR.1 (.inr (.inr (.inl ⟨_,_,_,_,rfl,rfl⟩))) (Q5 aR.1)
 ·split at h<;>try cases h
  rename_i bm;exact agv bI aY bm aD av aR.1 aR.2.1 h ad
 ·split at h<;>try cases h
  rename_i bm;split at h<;>try cases h
  rename_i ae;split at h<;>try cases h
  rename_i G Y;exact agu bI aY bm ae aD aR.1 aR.2.1 ad.1.1 ad.1.2 (Nat.le_of_ble_eq_true G) (Nat.le_of_ble_eq_true Y)
 ·split at h<;>try cases h
  rename_i tT pJ aA;split at h<;>try cases h
  rename_i aH;exact agt bI aY tT pJ aH aA aD aR.1
 ·split at h<;>try cases h
  rename_i ae;exact agA aY aD (tK _ (List.mem_singleton.2 rfl))
 ·split at h<;>try cases h
  rename_i ae rB;exact agC bI aY ae aD av aR.1 aR.2.1 aR.2.2.1 rB
 ·split at h<;>try cases h
  rename_i ae rB;exact agy bI aY ae aD av aR.1 aR.2.1 rB
 ·split at h<;>try cases h
  rename_i hu;exact ags aY aD aR.1 hu
 ·split at h<;>try cases h
  rename_i bm;rw[uq]at aR;obtain⟨x,rfl,aG⟩:=Gp aR;obtain⟨T,I,G⟩:=Z5 bm;exact agw bI aY I G aD av aG h
 ·split at h<;>try cases h
  rename_i oM;split at h<;>try cases h
  rename_i I G;split at h<;>try cases h
  rename_i Y;rw[uq]at aR;obtain⟨x,y,rfl,aG,cv⟩:=CA aR;have A1:=Array.toList_inj.1 (oM.trans (List.toList_toArray (as:=[_,_])).symm);rw[A1]at aY;split at h
  ·exact af8 bI aY I G Y aD av (by
    obtain⟨B,bA⟩:=ZN h;exact tK B bA) aG cv h ad
  ·exact af7 bI aY I G Y aD av (by
    obtain⟨B,bA⟩:=ZM h;exact tK B bA) aG cv h ad
 ·split at h<;>try cases h
  rename_i oM;split at h<;>try cases h
  rename_i I;rw[uq]at aR;obtain⟨x,y,rfl,aG,cv⟩:=CA aR;have A1:=Array.toList_inj.1 (oM.trans (List.toList_toArray (as:=[_,_])).symm);rw[A1]at aY;exact agr bI aY I aD av aG cv h ad
 ·split at h<;>try cases h
  rename_i oM;split at h<;>try cases h
  rename_i I;rw[uq]at aR;obtain⟨x,rfl,aG⟩:=Gp aR;have A1:=Array.toList_inj.1 (oM.trans (List.toList_toArray (as:=[_])).symm);rw[A1]at aY;exact agn bI aY I aD av aG h ad
 ·cases h;rw[uq]at aR;obtain⟨x,y,rfl,aG,cv⟩:=CA aR;exact agE aY aD aG cv
 ·cases h;rw[uq]at aR;obtain⟨x,y,rfl,aG,cv⟩:=CA aR;exact agD aY aD aG cv
 ·refine agi lZ aB aY aD aR.1 ?_ h ad c8;have:=aR.2;rw[uq]at this;exact this
 ·split at h<;>try cases h
  rename_i b8;have:=aR.2;rw[uq]at this;obtain⟨x,rfl,aG⟩:=Gp this;exact agm bI b8 aY aD aR.1 aG
 ·cases h
end
end bF
end Go.Proofs.YtlbppjmekiemiabGreatDoor


/- The executor on data: a state and a frame. No condition. -/
namespace Go.Proofs.YtlbppjmekiemiabGreatDoor
namespace bF

structure fC(tab:cm)(N:Nat)(env:Env)(mem:Mem)(a:Act)(w:World)(O:dp)(S:Nat->Prop):Prop where
 size:a.tmps.size=N
 defers:a.defers=[]
 inv:Inv tab O (look mem) w S
 env:∀t v,look env t=some v->cl tab O (look mem) w S v (a.eval (.tmp t))/\(v=.one .undef->a.eval (.tmp t)=Go.undef)

def jt(n:Nat)(mem:Mem):Prop:=∀r,n<=r->look mem r=none

section
variable {P:Program} {tab:cm} {Γ:Ctx} {N:Nat} {O bU:dp} {env Dv:Env} {mem fl:Mem} {a:Act} {w w':World} {S S':Nat->Prop}

theorem aaz{ty:Nat}{x:Value}{v:V}{mf:eb}(h:Dn tab ty x=some v):cl tab O mf w S v x:=by
 unfold Dn at h;split at h
 ·cases h;exact pL _
 ·cases h;exact Et _
 ·cases h;exact n1 _
 ·cases h;simpa using Bk (tab:=tab) (O:=O) (mem:=mf) (w:=w) (S:=S) _
 ·cases h;exact⟨rfl,dE.Dy⟩
 ·split at h<;>try cases h
  rename_i I G _;split at h<;>try cases h
  have aN:=Nat.eq_of_beq_eq_true I;have aX:=Nat.eq_of_beq_eq_true G;subst aN aX;exact⟨rfl,rfl⟩
 ·cases h

theorem fC.eval(R:fC tab N env mem a w O S){ty:Nat}{o:Operand}{v:V}(h:xo tab env ty o=some v):cl tab O (look mem) w S v (a.eval o):=by
 cases o with
 |tmp t=>exact(R.env t v h).1
 |const x=>exact aaz h
 |global g=>cases h
 |func f =>
  cases h;exact⟨rfl,by simp,#[],rfl,rfl,by simp⟩

theorem fC.lA(R:fC tab N env mem a w O S):∀{l:List (Nat×Operand)} {vs:List V},lA tab env l=some vs->fI tab O (look mem) w S vs (l.map fun p=>a.eval p.2)
 |[],vs,h=>by simp[bF.lA]at h;subst h;trivial
 |(ty,o)::l,vs,h=>by
  simp only[bF.lA]at h;split at h<;>try cases h
  rename_i aR;split at h<;>try cases h
  rename_i A3;exact⟨R.eval aR,R.lA A3⟩

theorem Av{base:Nat}{names:List Nat}:∀{m:Mem},sn base mem names m=true ->
  wW base (look mem) names m/\∀r B,(r,B)∈m->look mem r=none->r<base+8
 |[],_=>⟨fun r B h=>by simp at h,fun r B h=>by simp at h⟩
 |(q,b7)::m,h=>by
  simp only[sn]at h;split at h
  ·rename_i aH;split at h<;>try cases h
   rename_i dJ aq;obtain⟨i1,i2⟩:=Av h;have hle:base<=q:=Nat.le_of_ble_eq_true aH;refine⟨fun r B aw=>?_,fun r B aw=>?_⟩
   ·rcases List.mem_cons.1 aw with e|aw
    ·cases e;exact⟨fun _=>aq,fun dX=>absurd dX (by omega)⟩
    ·exact i1 r B aw
   ·rcases List.mem_cons.1 aw with e|aw
    ·cases e;intro _;have:¬base+8<=q:=fun dd=>by rw[Nat.ble_eq_true_of_le dd]at dJ;cases dJ
     omega
    ·exact i2 r B aw
  ·rename_i aH;split at h<;>try cases h
   rename_i lY;obtain⟨i1,i2⟩:=Av h;have dX:¬base<=q:=fun dd=>by rw[Nat.ble_eq_true_of_le dd]at aH;cases aH
   refine⟨fun r B aw=>?_,fun r B aw=>?_⟩
   ·rcases List.mem_cons.1 aw with e|aw
    ·cases e;exact⟨fun dd=>absurd dd dX,fun _=>(vQ _ _).1 lY⟩
    ·exact i1 r B aw
   ·rcases List.mem_cons.1 aw with e|aw
    ·cases e;intro _;omega
    ·exact i2 r B aw

theorem Bc(m mem:Mem):cW m (look mem)=look (m++mem):=by
 funext r;simp only[cW,n0]

theorem aa1{d:Nat}{x:Value}(h:d<a.tmps.size):(a.put (some d) x).eval (.tmp d)=x:=by
 simp[Act.put,Act.eval,h]

theorem aa0{d t:Nat}{x:Value}(h:t≠d):(a.put (some d) x).eval (.tmp t)=a.eval (.tmp t):=by
 simp[Act.put,Act.eval,Array.getD_eq_getD_getElem?,Ne.symm h]

def l7(d:Option Tmp)(v:V)(env:Env):Env:=match d with|some t=>(t,v)::env|none=>env

theorem fC.put(R:fC tab N env mem a w O S)(a6:Ext O (look mem) w S bU (look fl) w' S')(aD:Inv tab bU (look fl) w' S'){d:Option Tmp}{v:V}{x:Value}
  (aR:cl tab bU (look fl) w' S' v x) (hu:d≠none->v=.one .undef->x=Go.undef) (bH:∀t,d=some t->t<N) :
  fC tab N (l7 d v env) fl (a.put d x) w' bU S':=by
 have hold:∀t u,look env t=some u->cl tab bU (look fl) w' S' u (a.eval (.tmp t)):=fun t u h=>zd a6 R.inv (R.env t u h).1
 refine⟨?_,?_,aD,?_⟩
 ·cases d<;>simp[Act.put,R.size]
 ·cases d<;>simp[Act.put,R.defers]
 ·intro t u h;cases d with
  |none=>exact⟨hold t u h,(R.env t u h).2⟩
  |some d =>
   by_cases e:t=d
   ·subst e;simp only[l7,look,Nat.beq_refl]at h;cases h;have aG:(a.put (some t) x).eval (.tmp t)=x:=aa1 (by rw[R.size];exact bH t rfl);rw[aG];exact⟨aR,hu (by simp)⟩
   ·simp only[l7,look,hD e]at h;rw[aa0 e];exact⟨hold t u h,(R.env t u h).2⟩

theorem YK{o:Oper}{base:Nat}{names:List Nat}{vs:List V}{p:Option Prop}{v:V}{m:Mem}(bI:fs P tab)(lZ:Sound P tab Γ)(R:fC tab N env mem a w O S)
  (lW:lA tab env (operands o)=some vs) (fV:Bx Γ tab base o vs (fi mem names)=some (p,v,m)) (ad:under p True) (c8:wW base (look mem) names m) (tO:IY o.dst v=true) (bH:∀t,o.dst=some t->t<N)
  {K:Act->World->Prop} {Q:Exit->Act->World->Prop} (D:∀ey w' bU S',fC tab N (l7 o.dst v env) (m++mem) ey w' bU S'->Ext O (look mem) w S bU (look (m++mem)) w' S'->K ey w') :
  o.wp P a w K Q:=by
 refine af5 bI lZ rfl R.inv (R.lA lW) fV ad c8 K Q fun x w' aG=>?_
 obtain⟨bU,S',a6,aD,aR⟩:=aG;rw[Bc]at a6 aD aR;refine D _ _ bU S' (R.put a6 aD aR (fun I G=>?_) bH) a6;subst G;cases ss:o.dst with
 |none=>exact absurd ss I
 |some t=>rw[ss]at tO;cases tO
end
end bF
end Go.Proofs.YtlbppjmekiemiabGreatDoor


/- The executor on data: a test against nil; an operation as the executor does it. No condition. -/
namespace Go.Proofs.YtlbppjmekiemiabGreatDoor
namespace bF
section
variable {P:Program} {tab:cm} {Γ:Ctx} {N:Nat} {O bU:dp} {env Dv:Env} {mem fl:Mem} {a:Act} {w w':World} {S S':Nat->Prop}

theorem K5{o:Oper}{T:Nat}{aM:c9}{t:z}{x:Operand}{n m:Nat}{eI:TypeId}{dT:Option Addr}{len cap:Nat}{R:Value->World->Prop}(bI:fs P tab)
  (aY:o.op=.binOp .eql T x (.const (.slice none n m)) eI) (bm:dQ tab T=some aM) (ae:aM.elem=some t) (aG:a.eval x=.slice dT len cap) (g7:R (.bool dT.isNone) w):ec P o a w R:=by
 obtain⟨e,i,bg,av⟩:=j5 bI bm (Du ae);have hu:=av.hJ;refine lN (s:=do eqGuard .eql T x (.const (.slice none n m)) (a.eval x) (.slice none n m);binOp .eql T (a.eval x) (.slice none n m)) (x:=.bool dT.isNone) (w':=w) (by simp only[execOp,aY];rfl) ?_ g7;rw[aG];have AP:∀k,(Op.equalIn (k+1) T (.slice dT len cap) (.slice none n m)).run P w=.ok dT.isNone w:=fun k=>by
  cases dT<;>simp[Op.equalIn,run_underlying hu]
 have bv:(Op.equal T (.slice dT len cap) (.slice none n m)).run P w=.ok dT.isNone w:=AP 9999;have bt:(eqGuard .eql T x (.const (.slice none n m)) (.slice dT len cap) (.slice none n m)).run P w=.ok () w:=by
  simp[eqGuard]
 rw[Sem.run_bind,bt];simp[binOp,bv]

theorem fC.KC(R:fC tab N env mem a w O S)(h:∀t,look Dv t=look env t):fC tab N Dv mem a w O S :=
 ⟨R.size,R.defers,R.inv,fun t v aR=>R.env t v (h t▸aR)⟩

theorem Vm{d:Nat}{v:V}(h:look env d=some v)(t:Nat):look (l7 (some d) v env) t=look env t:=by
 by_cases e:t=d
 ·subst e;simp[l7,look,Nat.beq_refl,h]
 ·simp[l7,look,hD e]

theorem RD{base:Nat}{m:Mem}{n:Nat}(dJ:∀r B,(r,B)∈m->look mem r=none->r<base+8)(aq:jt n mem)(ay:base+8<=n):jt n (m++mem):=by
 intro r aw;rw[n0,aq r aw];cases aB:look m r with
 |none=>rfl
 |some B =>
  obtain⟨j,aT⟩:=xu aB;have:=dJ r B (List.mem_of_getElem? aT) (aq r aw);omega

theorem NZ{ops:List Oper}{o:Oper}{j d:Nat}{want b:Bool}(bt:o.guard=some (j,want))(bH:(ops[j]?).bind (·.dst)=some d)(aG:a.eval (.tmp d)=.bool b) :
  Region.wanted o (yielded ops.toArray a.tmps)=(b==want):=by
 have cv:yielded ops.toArray a.tmps j=some b:=by
  unfold yielded;simp only[List.getElem?_toArray,bH,Option.bind_some];have I:a.tmps[d]? = some (.bool b):=by
   simp only[Act.eval,Array.getD_eq_getD_getElem?]at aG;cases aH:a.tmps[d]? with
   |none=>rw[aH]at aG;cases aG
   |some y=>rw[aH]at aG;simp at aG;rw[aG]
  rw[I]
 simp[Region.wanted,bt,cv]

theorem Zb{ops:List Oper}{o:Oper}{j d:Nat}{want:Bool}(bt:o.guard=some (j,want))(bH:(ops[j]?).bind (·.dst)=some d)(aG:a.eval (.tmp d)=Go.undef) :
  Region.wanted o (yielded ops.toArray a.tmps)=false:=by
 have cv:yielded ops.toArray a.tmps j=none:=by
  unfold yielded;simp only[List.getElem?_toArray,bH,Option.bind_some];simp only[Act.eval,Array.getD_eq_getD_getElem?]at aG;cases aH:a.tmps[d]? with
  |none=>rfl
  |some y=>rw[aH]at aG;simp at aG;rw[aG];rfl
 simp[Region.wanted,bt,cv]

theorem fC.skip(R:fC tab N env mem a w O S){d:Option Tmp}(bH:∀t,d=some t->t<N):fC tab N (l7 d (.one .undef) env) mem (a.put d Go.undef) w O S :=
 R.put Ext.refl R.inv trivial (fun _ _=>rfl) bH

def tf(N:Nat):List Oper->Bool
 |[]=>true
 |o::rest=>match o.dst with
  |none=>tf N rest
  |some t=>match Nat.ble (t+1) N with|true=>tf N rest|false=>false

theorem CF:∀{ops:List Oper},tf N ops=true->∀o∈ops,∀t,o.dst=some t->t<N
 |[],_,o,h=>by cases h
 |q::ops,ay,o,h=>by
  intro t bm;unfold tf at ay;split at ay
  ·rename_i aq;rcases List.mem_cons.1 h with e|h
   ·subst e;rw[aq]at bm;cases bm
   ·exact CF ay o h t bm
  ·rename_i aq;split at ay<;>try cases ay
   rename_i hle;rcases List.mem_cons.1 h with e|h
   ·subst e;rw[aq]at bm;cases bm;exact Nat.le_of_ble_eq_true hle
   ·exact CF ay o h t bm
end
end bF
end Go.Proofs.YtlbppjmekiemiabGreatDoor


/- The executor on data: a list that is written no more. No condition. -/
namespace Go.Proofs.YtlbppjmekiemiabGreatDoor
namespace bF
section
variable {P:Program} {tab:cm} {Γ:Ctx} {N:Nat} {O:dp} {w:World} {S:Nat->Prop}

theorem fx.kinds{fc gJ:eb}{c:C}{x:Value}(h:fx tab O fc w S c x)(a2:∀q,fc q≠none->gJ q≠none)(I:∀q cs,gJ q=some (.box cs)->∃eO,fc q=some (.box eO))(G:∀q t l,gJ q=some (.arr t l)->∃l',fc q=some (.arr t l'))(Y:∀q aF,gJ q=some (.set aF)->∃aeN,fc q=some (.set aeN))(aS:∀q t l cs,gJ q=some (.eE t l cs)->∃eO,fc q=some (.eE t l eO)) :
  fx tab O gJ w S c x:=by
 cases c with
 |E t d=>exact h
 |nil t=>exact h
 |undef=>trivial
 |any=>trivial
 |mw t l i k=>exact h
 |mp r=>exact⟨a2 r h.1,fun cs aA=>by obtain⟨eO,jk⟩:=Y r cs aA;exact h.2 eO jk⟩
 |iv r=>exact⟨a2 r h.1,fun t l cs aA=>by obtain⟨eO,jk⟩:=aS r t l cs aA;exact h.2 t l eO jk⟩
 |lc r k=>exact⟨a2 r h.1,fun t l cs aA=>by obtain⟨eO,jk⟩:=aS r t l cs aA;exact h.2 t l eO jk⟩
 |ptr r o=>exact⟨a2 r h.1,fun cs aA=>by obtain⟨eO,jk⟩:=I r cs aA;exact h.2 eO jk⟩
 |own r=>exact⟨a2 r h.1,fun t l aA=>by obtain⟨l',jk⟩:=G r t l aA;exact h.2 t l' jk⟩
 |view r off n=>exact⟨a2 r h.1,fun t l aA=>by obtain⟨l',jk⟩:=G r t l aA;exact h.2 t l' jk⟩
 |cut r n=>exact⟨a2 r h.1,fun t l aA=>by obtain⟨l',jk⟩:=G r t l aA;exact h.2 t l' jk⟩
 |kn r i k=>exact⟨a2 r h.1,fun t l aA=>by obtain⟨l',jk⟩:=G r t l aA;exact h.2 t l' jk⟩
 |fn f iG =>
  obtain⟨fe,vs,a1,bf,ck⟩:=h;refine⟨fun r aw=>a2 r (fe r aw),vs,a1,bf,fun i r aw=>?_⟩;obtain⟨y,cK,cN,dA⟩:=ck i r aw;exact⟨y,cK,cN,fun cs aA=>by obtain⟨eO,jk⟩:=I r cs aA;exact dA eO jk⟩

theorem KD{f:bS->bS}:∀(m:Mem) (q:Nat),look (m.map fun p=>(p.1,f p.2)) q=(look m q).map f
 |[],q=>rfl
 |(k,b)::m,q=>by
  by_cases e:q=k
  ·subst e;simp[look,Nat.beq_refl]
  ·simp[look,hD e,KD m q]

theorem KE{f:V->V}:∀(m:Env) (q:Nat),look (m.map fun p=>(p.1,f p.2)) q=(look m q).map f
 |[],q=>rfl
 |(k,b)::m,q=>by
  by_cases e:q=k
  ·subst e;simp[look,Nat.beq_refl]
  ·simp[look,hD e,KE m q]

theorem abt{r:Nat}{st:bO}{a:Act}{n:Nat}(R:fC tab N st.env st.mem a w O S)(c8:jt n st.mem) :
  ∃S',fC tab N (vn r st).env (vn r st).mem a w O S'/\jt n (vn r st).mem/\Ext O (look st.mem) w S O (look (vn r st).mem) w S'/\(vn r st).base=st.base:=by
 unfold vn;split
 ·rename_i t l az;obtain⟨a6,aD⟩:=rJ (ns:=[r]) R.inv;have bH:cW (gY [r]) (look st.mem)=fun q=>if q=r then some .dead else look st.mem q:=by
   funext q;rcases oQ (mem:=look st.mem) [r] q with⟨I,G⟩|⟨I,G⟩
   ·simp at I;rw[G,if_pos I]
   ·simp at I;rw[G,if_neg I]
  have aB:look ((r,bS.dead)::st.mem.map fun p=>(p.1,p.2.ik r t l))=fun q=>if q=r then some .dead else(look st.mem q).map (bS.ik r t l):=by
   funext q
   by_cases e:q=r
   ·subst e;simp[look,Nat.beq_refl]
   ·simp[look,hD e,KD,e]
  have cell:∀(c:C) (x:Value),x.oneCell'=true/\fx tab O (look st.mem) w S c x->fx tab O (look ((r,bS.dead)::st.mem.map fun p=>(p.1,p.2.ik r t l))) w (ga O (look st.mem) S [r]) (c.ik r t l) x:=fun c x aG=>by
   have same:∀fN,fx tab O (look st.mem) w S fN x->fx tab O (look ((r,bS.dead)::st.mem.map fun p=>(p.1,p.2.ik r t l))) w (ga O (look st.mem) S [r]) fN x:=fun fN h=>by
    have:=h.ext a6 R.inv;rw[bH]at this;rw[aB];refine this.kinds (fun q aH=>?_) (fun q cs aH=>?_) (fun q eI l' aH=>?_) (fun q aF aH=>?_) (fun q eI l' eO aH=>?_)
    ·by_cases e:q=r
     ·simp[e]
     ·simp only[if_neg e]at aH |-;cases dd:look st.mem q with
      |none=>exact absurd dd aH
      |some b=>simp
    ·by_cases e:q=r
     ·simp[e]at aH
     ·simp only[if_neg e]at aH |-;cases dd:look st.mem q with
      |none=>rw[dd]at aH;cases aH
      |some b=>cases b with
       |box kz=>exact⟨kz,rfl⟩
       |_=>rw[dd]at aH;cases aH
    ·by_cases e:q=r
     ·simp[e]at aH
     ·simp only[if_neg e]at aH |-;cases dd:look st.mem q with
      |none=>rw[dd]at aH;cases aH
      |some b=>cases b with
       |arr t0 l0=>rw[dd]at aH;cases aH;exact⟨_,rfl⟩
       |_=>rw[dd]at aH;cases aH
    ·by_cases e:q=r
     ·simp[e]at aH
     ·simp only[if_neg e]at aH |-;cases dd:look st.mem q with
      |none=>rw[dd]at aH;cases aH
      |some b=>cases b with
       |set ant=>exact⟨_,rfl⟩
       |_=>rw[dd]at aH;cases aH
    ·by_cases e:q=r
     ·simp[e]at aH
     ·simp only[if_neg e]at aH |-;cases dd:look st.mem q with
      |none=>rw[dd]at aH;cases aH
      |some b=>cases b with
       |eE t0 l0 kz=>rw[dd]at aH;cases aH;exact⟨_,rfl⟩
       |_=>rw[dd]at aH;cases aH
   cases c with
   |own q =>
    cases aH:Nat.beq q r with
    |true =>
     simp only[C.ik,aH];have aH:=Nat.eq_of_beq_eq_true aH;subst aH;have:=FB (lm:=st.mem) (c:=.own q) (d:=.E (.list t) l) (ns:=[q]) R.inv (fun _ _ h _=>h) aG (by simp[ma,az]);exact dE.BK this.2
    |false =>
     simp only[C.ik,aH];exact same _ aG.2
   |_=>exact same _ aG.2
  refine⟨ga O (look st.mem) S [r],⟨R.size,R.defers,⟨fun q B bA bl=>?_,fun q gT dj I G=>?_,fun q I=>?_,aD.lt,aD.pow⟩,fun u v aR=>?_⟩,fun q aH=>?_,⟨fun q aH=>?_,fun q B B' I G=>?_,a6.sub,Nat.le_refl _,fun _ _ _=>rfl,a6.only,fun b ay=>?_,rfl,rfl,rfl⟩,rfl⟩
  ·rw[aB]at bA
   by_cases e:q=r
   ·simp[e]at bA;subst bA;exact bl.elim
   ·simp only[if_neg e]at bA;cases dd:look st.mem q with
    |none=>rw[dd]at bA;cases bA
    |some hq =>
     rw[dd]at bA;simp only[Option.map_some,Option.some.injEq]at bA;subst bA;have abR:hq.alive:=by cases hq<;>first|trivial|exact bl
     obtain⟨L,tF,dP⟩:=R.inv.rel q hq dd abR;refine⟨L,tF,?_⟩;cases hq with
     |dead=>exact bl.elim
     |set aF=>cases L<;>exact dP
     |arr t0 l0 =>
      cases L with
      |gB b=>exact dP
      |ez x =>
       rcases dP with h|⟨b,cap,cur,cd,a1,bf,ck,eP,gg,g6⟩
       ·exact .inl h
       ·exact .inr ⟨b,cap,cur,cd,a1,bf,ck,eP,gg,fun i j c hi aA=>let ⟨y,cK,cN,dA⟩:=g6 i j c hi aA;⟨y,cK,cN,sM dA⟩⟩
     |eE t0 l0 cs =>
      cases L with
      |gB b=>exact dP
      |ez x =>
       obtain⟨b,cap,cur,cd,a1,bf,ck,eP,gg,g6,abv⟩:=dP;refine⟨b,cap,cur,cd,a1,bf,ck,eP,gg,fun i j c hi aA=>?_,fun j c aA=>?_⟩
       ·obtain⟨y,cK,cN,dA⟩:=g6 i j c hi aA;exact⟨y,cK,cN,sM dA⟩
       ·rw[List.getElem?_map]at aA;cases pF:cs[j]? with
        |none=>rw[pF]at aA;cases aA
        |some gX =>
         rw[pF]at aA;simp only[Option.map_some,Option.some.injEq]at aA;subst aA;obtain⟨mZ,y,cK,cN,dA⟩:=abv j gX pF;exact⟨mZ,y,cK,cN,cell gX y ⟨cN,dA⟩⟩
     |box cs =>
      cases L with
      |ez x=>exact dP
      |gB b =>
       obtain⟨vs,cd,a1,bf,ck⟩:=dP;refine⟨vs,cd,a1,by simpa using bf,fun i c aA=>?_⟩;rw[List.getElem?_map]at aA;cases pF:cs[i]? with
       |none=>rw[pF]at aA;cases aA
       |some gX =>
        rw[pF]at aA;simp only[Option.map_some,Option.some.injEq]at aA;subst aA;obtain⟨y,cK,cN,dA⟩:=ck i gX pF;exact⟨y,cK,cN,cell gX y ⟨cN,dA⟩⟩
  ·have back:∀bg,Live (look ((r,bS.dead)::st.mem.map fun p=>(p.1,p.2.ik r t l))) bg->Live (look st.mem) bg:=fun bg ⟨B,bA,bl⟩=>by
    rw[aB]at bA
    by_cases e:bg=r
    ·simp[e]at bA;subst bA;exact bl.elim
    ·simp only[if_neg e]at bA;cases dd:look st.mem bg with
     |none=>rw[dd]at bA;cases bA
     |some hq =>
      rw[dd]at bA;simp only[Option.map_some,Option.some.injEq]at bA;subst bA;exact⟨hq,dd,by cases hq<;>first|trivial|exact bl⟩
   exact R.inv.inj q gT dj (back q I) (back gT G)
  ·have aH:Live (cW (gY [r]) (look st.mem)) q:=by
    obtain⟨B,bA,bl⟩:=I;rw[aB]at bA;rw[bH]
    by_cases e:q=r
    ·simp[e]at bA;subst bA;exact bl.elim
    ·simp only[if_neg e]at bA;cases dd:look st.mem q with
     |none=>rw[dd]at bA;cases bA
     |some hq =>
      rw[dd]at bA;simp only[Option.map_some,Option.some.injEq]at bA;subst bA;exact⟨hq,by simp[e,dd],by cases hq<;>first|trivial|exact bl⟩
   exact aD.sep q aH
  ·rw[KE (f:=V.ik r t l)]at aR;cases dd:look st.env u with
   |none=>rw[dd]at aR;cases aR
   |some v0 =>
    rw[dd]at aR;simp only[Option.map_some,Option.some.injEq]at aR;subst aR;obtain⟨bL,b0⟩:=R.env u v0 dd;have one:∀{c:C} {x:Value},kd tab O (look st.mem) w S (.one c) x->kd tab O (look ((r,bS.dead)::st.mem.map fun p=>(p.1,p.2.ik r t l))) w (ga O (look st.mem) S [r]) (.one (c.ik r t l)) x:=fun {c x} h=>⟨h.1,cell c x h⟩
    have agg:∀{cs:List C} {x:Value},kd tab O (look st.mem) w S (.agg cs) x->kd tab O (look ((r,bS.dead)::st.mem.map fun p=>(p.1,p.2.ik r t l))) w (ga O (look st.mem) S [r]) (.agg (cs.map (C.ik r t l))) x:=fun {cs x} h=>by
     obtain⟨xs,a1,bf,ck⟩:=h;refine⟨xs,a1,by simpa using bf,fun i c aA=>?_⟩;rw[List.getElem?_map]at aA;cases pF:cs[i]? with
     |none=>rw[pF]at aA;cases aA
     |some gX =>
      rw[pF]at aA;simp only[Option.map_some,Option.some.injEq]at aA;subst aA;obtain⟨y,cK,cN,dA⟩:=ck i gX pF;exact⟨y,cK,cN,cell gX y ⟨cN,dA⟩⟩
    cases v0 with
    |one c =>
     by_cases hu:c=.undef
     ·subst hu;exact⟨trivial,fun _=>b0 rfl⟩
     ·have b8:kd tab O (look st.mem) w S (.one c) (a.eval (.tmp u)):=by cases c<;>first|exact absurd rfl hu|exact bL
      have I:=one b8;have dj:c.ik r t l≠.undef:=by
       cases c with
       |own q=>cases aH:Nat.beq q r<;>simp[C.ik,aH]
       |undef=>exact absurd rfl hu
       |_=>exact fun h=>by cases h
      refine⟨?_,fun h=>?_⟩
      ·show cl tab O _ w _ (.one (c.ik r t l)) _;generalize c.ik r t l=fN at I dj |-;cases fN<;>first|exact absurd rfl dj|exact I
      ·exact absurd (by injection h) dj
    |agg cs=>exact⟨agg bL,fun h=>by cases h⟩
    |ao vs =>
     obtain⟨xs,a1,bf,ck⟩:=bL;refine⟨⟨xs,a1,by simpa using bf,fun i v aR=>?_⟩,fun h=>by cases h⟩;rw[List.getElem?_map]at aR;cases Kk:vs[i]? with
     |none=>rw[Kk]at aR;cases aR
     |some v0 =>
      rw[Kk]at aR;simp only[Option.map_some,Option.some.injEq]at aR;obtain⟨y,cK,cN⟩:=ck i v0 Kk;refine⟨y,cK,?_⟩;subst aR;cases v0 with
      |one c=>exact one cN
      |agg cs=>exact agg cN
      |ao us=>exact cN.elim
  ·rw[aB];have:=c8 q aH
   by_cases e:q=r
   ·subst e;rw[az]at this;cases this
   ·simp[e,this]
  ·rw[aB]
   by_cases e:q=r
   ·simp[e]
   ·simp only[if_neg e];cases dd:look st.mem q with
    |none=>exact absurd dd aH
    |some b=>simp
  ·rw[aB]at G
   by_cases e:q=r
   ·simp[e]at G;subst G;exact⟨by cases B<;>trivial,fun _=>rfl⟩
   ·simp only[if_neg e,I,Option.map_some,Option.some.injEq]at G;subst G;exact⟨by cases B<;>trivial,fun _=>rfl⟩
  ·obtain⟨q,L,⟨B,bA,bl⟩,G,Y⟩:=ay;refine .inl ⟨q,L,?_,G,Y⟩;rw[aB]at bA
   by_cases e:q=r
   ·simp[e]at bA;subst bA;exact bl.elim
   ·simp only[if_neg e]at bA;cases dd:look st.mem q with
    |none=>rw[dd]at bA;cases bA
    |some hq =>
     rw[dd]at bA;simp only[Option.map_some,Option.some.injEq]at bA;subst bA;exact⟨hq,dd,by cases hq<;>first|trivial|exact bl⟩
 ·exact⟨S,R,c8,Ext.refl,rfl⟩

theorem Jt{a:Act}{n:Nat}:∀(rs:List Nat) {st:bO} {S:Nat->Prop},fC tab N st.env st.mem a w O S->jt n st.mem ->
  ∃S',fC tab N (tB rs st).env (tB rs st).mem a w O S'/\jt n (tB rs st).mem/\Ext O (look st.mem) w S O (look (tB rs st).mem) w S'/\(tB rs st).base=st.base
 |[],st,S,R,c8=>⟨S,R,c8,Ext.refl,rfl⟩
 |r::rs,st,S,R,c8=>by
  obtain⟨p7,wZ,Ga,er,jf⟩:=abt (r:=r) R c8;obtain⟨nA,r0,ta,dO,kf⟩:=Jt rs wZ Ga;exact⟨nA,r0,ta,er.trans dO,kf.trans jf⟩
end
end bF
end Go.Proofs.YtlbppjmekiemiabGreatDoor


/- The executor on data: an operation as the executor does it; a region in order. No condition. -/
namespace Go.Proofs.YtlbppjmekiemiabGreatDoor
namespace bF
section
variable {P:Program} {tab:cm} {Γ:Ctx} {N:Nat} {O bU fH:dp} {env Dv:Env} {mem fl:Mem} {a:Act} {w w' w0:World} {S S' S0:Nat->Prop} {mem0:eb}

theorem afh{o:Oper}{vs:List V}{K:V->Prop}(bI:fs P tab)(R:fC tab N env mem a w O S)(aq:tZ o=true)(lW:lA tab env (xV o)=some vs)(h:Bo vs K) :
  ∃b:Bool,K (.one (.E .bool b))/\ec P o a w fun x w'=>x=.bool b/\w'=w:=by
 unfold tZ at aq;split at aq<;>try cases aq
 rename_i T x n m eI aY;simp only[xV,aY]at lW;simp only[lA]at lW;split at lW<;>try cases lW
 rename_i v aR;split at lW<;>try cases lW
 rename_i us sG;split at sG<;>try cases sG
 rename_i u hu;simp only[xo,Dn]at hu;split at hu<;>try cases hu
 rename_i aM _ _ bm;split at hu<;>try cases hu
 rename_i t ae;have aw:=R.eval aR;unfold Bo at h;split at h
 ·rename_i e;cases e;obtain⟨_,aw⟩:=aw;generalize aG:a.eval x=y at aw;cases aw with
  |empty t0 dT cap=>exact⟨dT.isNone,h _ fun _=>rfl,K5 bI aY bm ae aG ⟨rfl,rfl⟩⟩
  |list t0 l b off cap cs dw hcap aA aw=>exact⟨false,h _ (fun e=>by cases e),K5 bI aY bm ae aG ⟨rfl,rfl⟩⟩
 ·rename_i e;cases e;obtain⟨_,aw⟩:=aw;exact⟨true,h,K5 bI aY bm ae aw ⟨rfl,rfl⟩⟩
 ·exact h.elim

theorem K6{o:Oper}(h:tZ o=false):xV o=operands o:=by
 unfold xV;split
 ·rename_i aY;simp[tZ,aY]at h
 ·rfl

theorem Y9{p:Option Prop}{q:Prop}:under p q↔under p True/\q:=by
 cases p<;>simp[under]

theorem aaI{o:Oper}{i:Nat}{eJ:List hM}{st:bO}{K:List hM->oe}{aU:Act->World->Prop}{Q:Exit->Act->World->Prop}(bI:fs P tab)(lZ:Sound P tab Γ)
  (h:qi Γ tab o i eJ st K) (R:fC tab N st.env st.mem a w O S) (rv:jt (st.base+8*i) st.mem) (bH:∀t,o.dst=some t->t<N)
  (D:∀mc db ey w' bU S',db.base=st.base->fC tab N db.env db.mem ey w' bU S'->jt (st.base+8*(i+1)) db.mem->Ext O (look st.mem) w S bU (look db.mem) w' S'->K mc db->aU ey w') :
  o.wp P a w aU Q:=by
 unfold qi at h;split at h
 ·exact h.elim
 rename_i vs lW;split at h
 ·rename_i aq;obtain⟨b,ay,aw⟩:=afh bI R aq lW h;refine aw _ _ fun x w' aG=>?_
  obtain⟨rfl,rfl⟩:=aG;have ju:=R.put (d:=o.dst) (v:=.one (.E .bool b)) Ext.refl R.inv (n1 b) (fun _ e=>by cases e) bH;refine D eJ (st.put o.dst (.one (.E .bool b))) _ _ O S ?_ ?_ ?_ ?_ ay
  ·cases o.dst<;>rfl
  ·cases ss:o.dst<;>rw[ss]at ju<;>exact ju
  ·cases o.dst<;>exact fun r aw=>rv r (by omega)
  ·cases o.dst<;>exact Ext.refl
 ·rename_i aq;rw[K6 aq]at lW;simp only at h;split at h
  ·exact h.elim
  rename_i p v m fV;split at h
  ·rename_i AQ tO;obtain⟨ad,ae⟩:=Y9.1 h;obtain⟨c8,dJ⟩:=Av AQ;refine YK bI lZ R lW fV ad c8 tO bH fun ey w' bU S' ju a6=>?_
   refine D _ _ _ _ bU S' ?_ ?_ ?_ ?_ ae
   ·cases o.dst<;>rfl
   ·cases ss:o.dst<;>rw[ss]at ju<;>exact ju
   ·have:=RD (n:=st.base+8*(i+1)) dJ (fun r aw=>rv r (by omega)) (by omega);cases o.dst<;>exact this
   ·cases o.dst<;>exact a6
  ·exact h.elim

theorem sQ{st:bO}{d:Option Tmp}{v:V}:st.put d v={ st with env:=l7 d v st.env }:=by cases d<;>rfl

theorem fC.known(R:fC tab N env mem a w O S){d:Nat}{b:Bool}(h:look env d=some (.one (.E .bool b))):a.eval (.tmp d)=.bool b/\fC tab N (l7 (some d) (.one (.E .bool b)) env) mem a w O S :=
 ⟨sU (R.env d _ h).1,R.KC (Vm h)⟩

theorem fC.unknown(R:fC tab N env mem a w O S){d:Nat}(h:look env d=some (.one .undef)):a.eval (.tmp d)=Go.undef:=(R.env d _ h).2 rfl

def Re(Γ:Ctx)(tab:cm)(ops:List Oper)(K:oe)(o:Oper)(rest:List Oper)(i:Nat)(eJ:List hM)(st:bO):Prop :=
  match o.guard with
  |none=>qi Γ tab o i eJ st (jy Γ tab false ops K rest (i+1))
  |some (j,want) =>
   match (ops[j]?).bind (·.dst)with
   |none=>False
   |some d=>match look st.env d with
    |some (.one (.E .bool b)) =>
     J b
      (let qU:=st.put (some d) (.one (.E .bool true))
       match want with
       |true=>qi Γ tab o i eJ qU (jy Γ tab false ops K rest (i+1))
       |false=>jy Γ tab false ops K rest (i+1) eJ (qU.put o.dst (.one .undef)))
      (let qU:=st.put (some d) (.one (.E .bool false))
       match want with
       |false=>qi Γ tab o i eJ qU (jy Γ tab false ops K rest (i+1))
       |true=>jy Γ tab false ops K rest (i+1) eJ (qU.put o.dst (.one .undef)))
    |some (.one .undef)=>jy Γ tab false ops K rest (i+1) eJ (st.put o.dst (.one .undef))
    |_=>False

theorem Rf{ops:List Oper}{Q:Exit->Act->World->Prop}{K:oe}(bI:fs P tab)(lZ:Sound P tab Γ)(bA:tf N ops=true):∀(rest:List Oper) (i:Nat) (eJ:List hM) (st:bO) (a:Act) (w:World) (O:dp) (S:Nat->Prop),
  ops.drop i=rest->i+rest.length=ops.length->jy Γ tab false ops K rest i eJ st->fC tab N st.env st.mem a w O S->jt (st.base+8*i) st.mem ->
  (∀db ey w' bU S',fC tab N db.env db.mem ey w' bU S'->jt db.base db.mem->Ext O (look st.mem) w S bU (look db.mem) w' S'->K db->Q .normal ey w') ->
  wpOps P ops.toArray Q (List.range' i rest.length) a w
 |[],i,eJ,st,a,w,O,S,aw,az,h,R,rv,qs=>by
  refine qs { st with base:=st.base+8*ops.length } a w O S R ?_ Ext.refl h;have:i=ops.length:=by simpa using az
  subst this;exact rv
 |o::rest,i,eJ,oc,a,w,O,S0,aw,az,h,OZ,RO,abN=>by
  obtain⟨S,st,R,rv,mi,qt,h⟩:∃S st,fC tab N st.env st.mem a w O S/\jt (oc.base+8*i) st.mem/\Ext O (look oc.mem) w S0 O (look st.mem) w S/\st.base=oc.base/\Re Γ tab ops K o rest i eJ st:=by
   unfold jy Li at h;simp only at h;split at h
   ·exact⟨S0,oc,OZ,RO,Ext.refl,rfl,h⟩
   ·rename_i r rs _;obtain⟨S,R,rv,mi,qt⟩:=Jt (r::rs) OZ RO;exact⟨S,_,R,rv,mi,qt,h⟩
  have qs:∀db ey w' bU S',fC tab N db.env db.mem ey w' bU S'->jt db.base db.mem->Ext O (look st.mem) w S bU (look db.mem) w' S'->K db->Q .normal ey w':=fun db ey w' bU S' a1 bf ck eP=>abN db ey w' bU S' a1 bf (mi.trans ck) eP
  unfold Re at h;rw[<- qt]at rv;have aY:ops[i]? = some o:=by
   have:=congrArg (fun l=>l[0]?) aw;simpa using this
  have g9:ops.drop (i+1)=rest:=by
   have:=congrArg List.tail aw;simpa using this
  have hf:i+1+rest.length=ops.length:=by simp at az;omega
  have bH:∀t,o.dst=some t->t<N:=CF bA o (List.mem_of_getElem? aY);have next:∀(mc:List hM) (db:bO) (ey:Act) (w':World) (bU:dp) (S':Nat->Prop),db.base=st.base->fC tab N db.env db.mem ey w' bU S'->jt (st.base+8*(i+1)) db.mem->Ext O (look st.mem) w S bU (look db.mem) w' S' ->
    jy Γ tab false ops K rest (i+1) mc db->wpOps P ops.toArray Q (List.range' (i+1) rest.length) ey w':=fun mc db ey w' bU S' ay ju abL iS ae =>
   Rf bI lZ bA rest (i+1) mc db ey w' bU S' g9 hf ae ju (by rw[ay];exact abL) fun uC eD jK gM nA r0 ta dO b0=>qs uC eD jK gM nA r0 ta (iS.trans dO) b0
  have M1:∀(mc:List hM) (db:bO),db.base=st.base->db.mem=st.mem->fC tab N db.env db.mem a w O S->jy Γ tab false ops K rest (i+1) mc (db.put o.dst (.one .undef)) ->
    wpOps P ops.toArray Q (List.range' (i+1) rest.length) (a.put o.dst Go.undef) w:=fun mc db ay aB ju ae=>by
   refine next mc _ _ _ O S ?_ ?_ ?_ ?_ ae
   ·rw[sQ];exact ay
   ·rw[sQ];exact ju.skip bH
   ·rw[sQ,aB];exact fun r aw=>rv r (by omega)
   ·rw[sQ,aB];exact Ext.refl
  have IX:∀(db:bO),db.base=st.base->db.mem=st.mem->fC tab N db.env db.mem a w O S->qi Γ tab o i eJ db (jy Γ tab false ops K rest (i+1)) ->
    o.wp P a w (wpOps P ops.toArray Q (List.range' (i+1) rest.length)) Q:=fun db ay aB ju ae=>by
   refine aaI bI lZ ae ju (by rw[ay,aB];exact rv) bH fun alH uC eD jK gM nA kf r0 ta dO b0=>?_
   exact next alH uC eD jK gM nA (kf.trans ay) r0 (by rw[ay]at ta;exact ta) (by rw[aB]at dO;exact dO) b0
  rw[List.length_cons,List.range'_succ,wpOps_cons];unfold wpOp;simp only[List.getElem?_toArray,aY];split at h
  ·rename_i bt;have b8:Region.wanted o (yielded ops.toArray a.tmps)=true:=by simp[Region.wanted,bt]
   rw[if_pos b8];exact .inl (IX st rfl rfl R h)
  ·rename_i j want bt;split at h
   ·exact h.elim
   rename_i d jl;split at h
   ·rename_i b ay;obtain⟨aG,wZ⟩:=R.known ay;rw[NZ bt jl aG];cases b with
    |true =>
     simp only[J]at h;cases want with
     |true=>rw[if_pos (by rfl)];exact .inl (IX (st.put (some d) _) rfl rfl wZ h)
     |false=>rw[if_neg (by simp)];exact M1 eJ (st.put (some d) _) rfl rfl wZ h
    |false =>
     simp only[J]at h;cases want with
     |true=>rw[if_neg (by simp)];exact M1 eJ (st.put (some d) _) rfl rfl wZ h
     |false=>rw[if_pos (by rfl)];exact .inl (IX (st.put (some d) _) rfl rfl wZ h)
   ·rename_i ay;rw[Zb bt jl (R.unknown ay),if_neg (by simp)];exact M1 eJ st rfl rfl R h
   ·exact h.elim
end
end bF
end Go.Proofs.YtlbppjmekiemiabGreatDoor


/- The executor on data: code, from a loop's head to the next. No condition. -/
namespace Go.Proofs.YtlbppjmekiemiabGreatDoor
namespace bF

theorem DK{α:Type}:∀(l:List Nat) (k:List Nat->α),rq l k=k l
 |[],_=>rfl
 |0::l,k=>by simp only[rq];exact DK l _
 |(m+1)::l,k=>by simp only[rq];exact DK l _

def wX(P:Program)(b:Code)(Q:Exit->Act->World->Prop)(a:Act)(w:World):Prop :=
 ∀(vl:Frame) (k:List Item) (cs:List Frame),∃e ey w',Q e ey w'/\Arrives P (lone (vl.at a (.code b::.inLoop b::k)) cs w) vl k cs e ey w'

section
variable {P:Program} {tab:cm} {Γ:Ctx} {N fy:Nat} {a:Act} {w w':World} {Q:Exit->Act->World->Prop}

theorem ae0{b:Code}(h:b.wp P (Exit.then (wX P b Q) Q) a w):wX P b Q a w:=by
 intro vl k cs;obtain⟨e,zR,Cf,aH,tI⟩:=h vl (.inLoop b::k) cs;cases e with
 |normal =>
  obtain⟨aa6,ZU,alX,ac7,abU⟩:=aH vl k cs;exact⟨aa6,ZU,alX,ac7,.of_steps (Steps.trans tI (.one step_inLoop)) abU⟩
 |exit id=>exact⟨_,zR,Cf,aH,.pass (x:=.inLoop b) rfl (fun _ _=>.inl (by simp)) tI⟩
 |goto l=>exact⟨_,zR,Cf,aH,.pass (x:=.inLoop b) rfl (fun _ _=>.inl (by simp)) tI⟩
 |ret=>exact⟨_,zR,Cf,aH,.pass (x:=.inLoop b) rfl (fun _ _=>.inl (by simp)) tI⟩
 |panic pf=>exact⟨_,zR,Cf,aH,.pass (x:=.inLoop b) rfl (fun _ _=>.inl (by simp)) tI⟩
 |outgrown=>exact⟨_,zR,Cf,aH,.pass (x:=.inLoop b) rfl (fun _ _=>.inl (by simp)) tI⟩

theorem ae1{b:Code}(h:wX P b Q a w):(Code.loop b).wp P Q a w:=fun vl k cs =>
 let ⟨e,ey,w',aH,tI⟩:=h vl k cs
 ⟨e,ey,w',aH,.of_steps (.one step_loop) tI⟩

def qF(P:Program)(Q:Exit->Act->World->Prop):List cu->Exit->Act->World->Prop
 |[]=>Q
 |.code c::k=>Exit.then (c.wp P (qF P Q k)) (qF P Q k)
 |.inBlock id::k=>Exit.inBlock id (qF P Q k)
 |.inLoop _ b::k=>Exit.then (wX P b (qF P Q k)) (qF P Q k)

def lQ(N:Nat):Code->Bool
 |.skip | .exit _ | .ret=>true
 |.region _ ops _=>tf N ops.toList
 |.seq a b=>match lQ N a with|true=>lQ N b|false=>false
 |.cond _ a b=>match lQ N a with|true=>lQ N b|false=>false
 |.block _ b=>lQ N b
 |.loop b=>lQ N b
 |_=>false

def kg(N:Nat):List cu->Bool
 |[]=>true
 |.code c::k=>match lQ N c with|true=>kg N k|false=>false
 |.inBlock _::k=>kg N k
 |.inLoop _ b::k=>match lQ N b with|true=>kg N k|false=>false

def aa3:F9->Exit
 |.normal=>.normal
 |.ret=>.ret
 |.exit id=>.exit id

variable {fH:dp} {mem0:eb} {w0:World} {S0:Nat->Prop}

def Good(tab:cm)(N:Nat)(fH:dp)(mem0:eb)(w0:World)(S0:Nat->Prop)(st:bO)(a:Act)(w:World):Prop :=
 ∃O S,fC tab N st.env st.mem a w O S/\jt st.base st.mem/\Ext fH mem0 w0 S0 O (look st.mem) w S

def zL(P:Program)(tab:cm)(Γ:Ctx)(N:Nat)(fH:dp)(mem0:eb)(w0:World)(S0:Nat->Prop):Prop :=
 ∀(id:Nat) (ops:Array Oper) (draw:Bool) (K:oe) (Q:Exit->Act->World->Prop) (st:bO) (a:Act) (w:World),tf N ops.toList=true->jy Γ tab draw ops.toList K ops.toList 0 [] st->Good tab N fH mem0 w0 S0 st a w ->
  (∀db ey w',Good tab N fH mem0 w0 S0 db ey w'->K db->Q .normal ey w')->(Code.region id ops draw).wp P Q a w

def OP(tab:cm)(N fy:Nat)(fH:dp)(mem0:eb)(w0:World)(S0:Nat->Prop):Prop :=
 ∀(keys:List Nat) (st db:bO) (a:Act) (w:World),canon fy keys st=some db->Good tab N fH mem0 w0 S0 st a w->Good tab N fH mem0 w0 S0 db a w

theorem Ej:∀(k:List cu),Q .ret a w->qF P Q k .ret a w
 |[],h=>h
 |.code _::k,h=>Ej k h
 |.inBlock _::k,h=>Ej k h
 |.inLoop _ _::k,h=>Ej k h

theorem n9(g7:zL P tab Γ N fH mem0 w0 S0)(eC:OP tab N fy fH mem0 w0 S0){res:List Nat}{rec:List cu->bO->Prop}{fin:bO->Prop}
  (nU:∀keys b k st a w,rec (.inLoop keys b::k) st->kg N (.inLoop keys b::k)=true->Good tab N fH mem0 w0 S0 st a w->wX P b (qF P Q k) a w)
  (jV:∀st a w,Good tab N fH mem0 w0 S0 st a w->fin st->Q .normal a w/\Q .ret a w):∀(n:Nat) (todo:List cu) (ex:F9) (st:bO) (a:Act) (w:World),
  kr Γ tab fy res rec fin n todo ex st->kg N todo=true->Good tab N fH mem0 w0 S0 st a w->qF P Q todo (aa3 ex) a w
 |0,todo,ex,st,a,w,h,ay,cx=>by simp[kr]at h
 |n+1,todo,.ret,st,a,w,h,ay,cx=>by simp[kr]at h
 |n+1,todo,.exit id,st,a,w,h,ay,cx=>by
  unfold kr at h;cases todo with
  |nil=>exact h.elim
  |cons x k =>
   cases x with
   |code c =>
    simp only[kg]at ay;split at ay<;>try cases ay
    exact n9 g7 eC nU jV n k (.exit id) st a w h ay cx
   |inLoop keys b =>
    simp only[kg]at ay;split at ay<;>try cases ay
    exact n9 g7 eC nU jV n k (.exit id) st a w h ay cx
   |inBlock j =>
    simp only[kg]at ay;simp only at h;show Exit.inBlock j (qF P Q k) (.exit id) a w;simp only[Exit.inBlock];split at h
    ·rename_i aT;rw[if_pos (Nat.eq_of_beq_eq_true aT).symm];exact n9 g7 eC nU jV n k .normal st a w h ay cx
    ·rename_i aT;rw[if_neg (fun e=>by subst e;rw[Nat.beq_refl]at aT;cases aT)];exact n9 g7 eC nU jV n k (.exit id) st a w h ay cx
 |n+1,todo,.normal,st,a,w,h,ay,cx=>by
  unfold kr at h;cases todo with
  |nil=>exact(jV st a w cx h).1
  |cons x k =>
   cases x with
   |inBlock j =>
    simp only[kg]at ay;exact n9 g7 eC nU jV n k .normal st a w h ay cx
   |inLoop keys b =>
    simp only at h;unfold un at h;split at h
    ·rename_i db aA;exact nU keys b k db a w h ay (eC keys st db a w aA cx)
    ·exact h.elim
   |code c =>
    have hbk:lQ N c=true/\kg N k=true:=by
     simp only[kg]at ay;split at ay<;>try cases ay
     rename_i aA;exact⟨aA,ay⟩
    obtain⟨oG,hbk⟩:=hbk;show c.wp P (qF P Q k) a w;cases c with
    |skip=>exact wp_skip (n9 g7 eC nU jV n k .normal st a w h hbk cx)
    |seq x y =>
     simp only[lQ]at oG;split at oG<;>try cases oG
     rename_i aG;have:=n9 g7 eC nU jV n (.code x::.code y::k) .normal st a w h (by simp[kg,aG,oG,hbk]) cx;exact wp_seq this
    |region id ops draw =>
     exact g7 id ops draw _ _ st a w oG h cx fun db ey w' Zw fb=>n9 g7 eC nU jV n k .normal db ey w' fb hbk Zw
    |cond c x y =>
     simp only[lQ]at oG;split at oG<;>try cases oG
     rename_i aG;simp only at h;split at h
     ·rename_i t lW;obtain⟨O,S,R,c8,a6⟩:=cx;have aA:=sU (R.eval lW);refine wp_cond aA ?_;cases t with
      |true=>exact n9 g7 eC nU jV n (.code x::k) .normal st a w h (by simp[kg,aG,hbk]) ⟨O,S,R,c8,a6⟩
      |false=>exact n9 g7 eC nU jV n (.code y::k) .normal st a w h (by simp[kg,oG,hbk]) ⟨O,S,R,c8,a6⟩
     ·exact h.elim
    |block id b =>
     simp only[lQ]at oG;have:=n9 g7 eC nU jV n (.code b::.inBlock id::k) .normal st a w h (by simp[kg,oG,hbk]) cx;refine wp_block (wp_mono this fun e a w bv=>?_);cases e<;>exact bv
    |loop b =>
     simp only[DK]at h;unfold un at h;split at h
     ·rename_i db aA;exact ae1 (nU _ b k db a w h (by simpa[kg,lQ]using ay) (eC _ st db a w aA cx))
     ·exact h.elim
    |exit id=>exact wp_exit (n9 g7 eC nU jV n k (.exit id) st a w h hbk cx)
    |ret=>exact wp_ret (Ej k (jV st a w cx h).2)
    |_=>exact h.elim

theorem Xi(g7:zL P tab Γ N fH mem0 w0 S0)(eC:OP tab N fy fH mem0 w0 S0){res:List Nat}{fin:bO->Prop}
  (jV:∀st a w,Good tab N fH mem0 w0 S0 st a w->fin st->Q .normal a w/\Q .ret a w):∀(m:Nat),
  (∀keys b k st a w,run Γ tab fy res fin m (.inLoop keys b::k) st->kg N (.inLoop keys b::k)=true->Good tab N fH mem0 w0 S0 st a w->wX P b (qF P Q k) a w) /\
  ∀c st a w,run Γ tab fy res fin m [.code c] st->lQ N c=true->Good tab N fH mem0 w0 S0 st a w->c.wp P Q a w
 |0=>⟨fun keys b k st a w h=>by simp[run]at h,fun c st a w h=>by simp[run]at h⟩
 |m+1=>by
  obtain⟨de,_⟩:=Xi g7 eC jV m;refine⟨fun keys b k st a w h ay cx=>?_,fun c st a w h ay cx=>?_⟩
  ·unfold run at h;have gC:kg N (.code b::.inLoop keys b::k)=true:=by
    have G:=ay;simp only[kg]at G;split at G<;>try cases G
    rename_i aA;simp[kg,aA,G]
   exact ae0 (n9 g7 eC de jV 4000 (.code b::.inLoop keys b::k) .normal st a w h gC cx)
  ·unfold run at h;exact n9 g7 eC de jV 4000 [.code c] .normal st a w h (by simp[kg,ay]) cx
end
end bF
end Go.Proofs.YtlbppjmekiemiabGreatDoor

