/- The executor on data: part 3 of 4. No condition. -/
import Derived.Test.YtlbppjmekiemiaaGreatDoorVmb
import Derived.MapKept
/- The executor on data: maps of numbers to truths. No condition. -/
namespace Go.Proofs.YtlbppjmekiemiaaGreatDoor
namespace bE
section
open Go.MapKept
variable {P:Program} {tab:ci} {O bU:dk} {mem fl:dS} {w w':World} {S S':Nat->Prop}

theorem acg{T:Nat}{tab:ci}(h:(dO tab T).map c7.hl=some .pW):∃aK,dO tab T=some aK/\aK.hl=.pW:=by
 simpa using h
theorem Xo{T:Nat}(bH:fp P tab)(h:(dO tab T).map c7.hl=some .pW) :
  ∃K a5 i,P.underlying T=some (.map K a5)/\P.underlying K=some (.int .i64)/\P.info? a5=some i/\i.zero=some (.bool false):=by
 obtain⟨aK,I,G⟩:=acg h;have:=(bH.ok T aK I).kind;rw[G]at this;exact this

theorem aed{o:Oper}{a:Act}{T base:Nat}(aY:o.op=.makeMap T none)(aD:Inv tab O mem w S)(aA:mem base=none) :
  dU P o a w (ec tab O mem w S [(base,.set [])] (.one (.mp base))):=by
 have ax:(Loc.gz w.heap.size).block=some w.heap.size\/(Loc.gz w.heap.size).block=none:=.inl rfl;have a5:=ql (O:=O) (S:=S) (w:=w) (o:=.map #[] 0) (B:=.set []) aA ax;refine gV (x:=.map (some w.heap.size)) (w':=w.alloc (.map #[] 0)) ?_ ⟨_,S,a5,rj aA ax aD ⟨#[],0,heap_alloc_new w _,rfl,fun i c hi=>by simp at hi⟩,?_⟩
 ·simp[execOp,aY,Instr.makeMap]
 ·refine⟨rfl,?_,fun cs _=>⟨w.heap.size,hn,rfl⟩⟩;rw[fm];exact fun h=>nomatch h

theorem VV{lm:Mem}{r:Nat}{aF:List Int}{x:Value}(av:gi lm mem)(aD:Inv tab O mem w S)(h:w1 lm r=some aF)(aG:ch tab O mem w S (.one (.mp r)) x) :
  mem r=some (.set aF)/\∃b es clock,x=.map (some b)/\O r=some (.gz b)/\w.heap[b]? = some (.map es clock)/\es.size=aF.length /\
   ∀(i:Nat) k,aF[i]? = some k->∃e,es[i]? = some e/\e.key=.int .i64 k/\e.val=.bool true:=by
 unfold w1 at h;split at h<;>try cases h
 rename_i ax;have aB:=av r _ ax trivial;obtain⟨b,dj,rX⟩:=aG.2.2 _ aB;obtain⟨l,aO,aX⟩:=aD.rel r _ aB trivial;rw[dj]at aO;cases aO;obtain⟨es,clock,a1,bf,cj⟩:=aX;exact⟨aB,b,es,clock,rX,dj,a1,bf,cj⟩

theorem RM{es:Array MapEntry}{aF:List Int}(I:es.size=aF.length)(G:∀(i:Nat) k,aF[i]? = some k->∃e,es[i]? = some e/\e.key=.int .i64 k/\e.val=.bool true){x:MapEntry}(aG:x∈es.toList) :
  ∃k∈aF,x.key=.int .i64 k/\x.val=.bool true:=by
 obtain⟨i,hi,rfl⟩:=List.getElem_of_mem aG;have ad:i<aF.length:=by rw[<- I];simpa using hi
 obtain⟨e,aO,aX,cY⟩:=G i aF[i] (by simp[ad]);have:es[i]? = some es.toList[i]:=by simp
 rw[this]at aO;cases aO;exact⟨aF[i],List.getElem_mem ad,aX,cY⟩

theorem P9{es:Array MapEntry}{aF:List Int}(I:es.size=aF.length)(G:∀(i:Nat) k,aF[i]? = some k->∃e,es[i]? = some e/\e.key=.int .i64 k/\e.val=.bool true)(k:Int) :
  (Instr.findNow (.int .i64) (.int .i64 k) es.toList 0=some none/\ln k aF=false) \/
  ∃j e,Instr.findNow (.int .i64) (.int .i64 k) es.toList 0=some (some (j,.bool true))/\es[j]? = some e/\e.key=.int .i64 k/\ln k aF=true:=by
 have ad:IsKey (.int .i64) (.int .i64 k):=rfl;rcases findNow_spec ad es.toList 0 (fun x aG=>by obtain⟨q,_,e,_⟩:=RM I G aG;rw[e];exact rfl)with⟨f1,f2⟩|⟨j,e,f1,f2,f3⟩
 ·refine .inl ⟨f1,decide_eq_false fun aB=>?_⟩;obtain⟨i,hi,rfl⟩:=List.getElem_of_mem aB;obtain⟨e,aO,aX,_⟩:=G i _ (List.getElem?_eq_getElem hi);exact f2 e (by have:=List.mem_of_getElem? (l:=es.toList) (i:=i) (a:=e) (by simpa using aO);exact this) aX
 ·obtain⟨q,cJ,cE,ey⟩:=RM I G (List.mem_of_getElem? f2);rw[f3]at cE;cases cE;refine .inr ⟨j,e,by rw[f1,ey,Nat.zero_add],by simpa using f2,f3,decide_eq_true cJ⟩

theorem aef{o:Oper}{a:Act}{T:Nat}{x y bg:Operand}{r:Nat}{k:Int}{aF:List Int}{lm:Mem}(bH:fp P tab)(aY:o.op=.mapUpdate T x y bg)(bl:(dO tab T).map c7.hl=some .pW)
  (aD:Inv tab O mem w S) (av:gi lm mem) (aG:ch tab O mem w S (.one (.mp r)) (a.eval x)) (ct:ch tab O mem w S (.one (.E .int k)) (a.eval y)) (dR:ch tab O mem w S (.one (.E .bool true)) (a.eval bg))
  (h:w1 lm r=some aF):dU P o a w (ec tab O mem w S [(r,.set (nc k aF))] (.one .undef)):=by
 obtain⟨K,a5,i,gh,jc,Xl,iM⟩:=Xo bH bl;obtain⟨aB,b,es,clock,ex,dj,a1,bf,cj⟩:=VV av aD h aG;have eB:=k9 ct;have Zo:=r8 dR;have ad:IsKey (.int .i64) (.int .i64 k):=rfl;have go:∀(sF:Array MapEntry) (wm:Nat),(Instr.mapUpdate T (.map (some b)) (.int .i64 k) (.bool true)).run P w=.ok () { w with heap:=w.heap.setIfInBounds b (.map sF wm) } ->
   sF.size=(nc k aF).length->(∀(i:Nat) q,(nc k aF)[i]? = some q->∃e,sF[i]? = some e/\e.key=.int .i64 q/\e.val=.bool true)->dU P o a w (ec tab O mem w S [(r,.set (nc k aF))] (.one .undef)):=fun sF wm gR fs kF=>by
  have aA:=heap_set (o':=.map sF wm) a1;have a5:=yD (S:=S) (w':={ w with heap:=w.heap.setIfInBounds b (.map sF wm) }) (B':=.set (nc k aF)) aB trivial dj (b:=b) rfl trivial (by simp) aA.2 rfl rfl rfl;refine Ea (w':={ w with heap:=w.heap.setIfInBounds b (.map sF wm) }) (by simp[execOp,aY,ex,eB,Zo,gR]) ⟨O,S,a5,yE aB trivial dj rfl (by simp) aA.2 a5 aD ⟨sF,wm,aA.1,fs,kF⟩,trivial⟩
 rcases P9 bf cj k with⟨f1,f2⟩|⟨j,e,f1,f2,f3,f4⟩
 ·have hi:nc k aF=aF++[k]:=by unfold nc;rw[f2]
  refine go (es.push { key:=.int .i64 k,val:=.bool true,born:=clock }) (clock+1) ?_ (by rw[hi];simp[bf]) (fun i q aI=>?_)
  ·simp[Instr.mapUpdate,run_underlying gh,MapKept.run_getObj_map a1,run_checkKey jc ad,run_findKey jc f1,run_setObj_map _ a1,Result.andThen]
  ·rw[hi]at aI
   by_cases c:i<aF.length
   ·rw[List.getElem?_append_left c]at aI;obtain⟨e,aO,aX⟩:=cj i q aI;exact⟨e,by rw[Array.getElem?_push,if_neg (by omega)];exact aO,aX⟩
   ·have qK:i=aF.length:=by
     have:=(List.getElem?_eq_some_iff.1 aI).1;simp at this;omega
    subst qK;simp at aI;subst aI;exact⟨_,by rw[Array.getElem?_push,if_pos bf.symm],rfl,rfl⟩
 ·have hi:nc k aF=aF:=by unfold nc;rw[f4]
  refine go (es.modify j fun e=>{ e with key:=.int .i64 k,val:=.bool true }) clock ?_ (by rw[hi];simp[bf]) (fun i q aI=>?_)
  ·simp[Instr.mapUpdate,run_underlying gh,MapKept.run_getObj_map a1,run_checkKey jc ad,run_findKey jc f1,f2,f3,run_keyThatStays ad,run_setObj_map _ a1,Result.andThen]
  ·rw[hi]at aI;obtain⟨b8,aO,aX,cY⟩:=cj i q aI;rw[Array.getElem?_modify]
   by_cases c:j=i
   ·subst c;rw[f2]at aO;cases aO;rw[f2];refine⟨{ e with key:=.int .i64 k,val:=.bool true },by simp,?_,rfl⟩;rw[<- aX,f3]
   ·rw[if_neg c];exact⟨b8,aO,aX,cY⟩

theorem aeb{o:Oper}{a:Act}{T:Nat}{x y:Operand}{r:Nat}{k:Int}{aF:List Int}{lm:Mem}(bH:fp P tab)(aY:o.op=.lookup T x y false)(bl:(dO tab T).map c7.hl=some .pW)
  (aD:Inv tab O mem w S) (av:gi lm mem) (aG:ch tab O mem w S (.one (.mp r)) (a.eval x)) (ct:ch tab O mem w S (.one (.E .int k)) (a.eval y))
  (h:w1 lm r=some aF):dU P o a w (ec tab O mem w S [] (.one (.E .bool (ln k aF)))):=by
 obtain⟨K,a5,i,gh,jc,Xl,iM⟩:=Xo bH bl;obtain⟨aB,b,es,clock,ex,dj,a1,bf,cj⟩:=VV av aD h aG;have eB:=k9 ct;have ad:IsKey (.int .i64) (.int .i64 k):=rfl;refine gV (x:=.bool (ln k aF)) (w':=w) ?_ (gy aD (nh _));rcases P9 bf cj k with⟨f1,f2⟩|⟨j,e,f1,f2,f3,f4⟩
 ·simp[execOp,aY,ex,eB,Instr.lookup,run_underlying gh,MapKept.run_getObj_map a1,run_checkKey jc ad,run_findKey jc f1,LM Xl iM,f2,Result.andThen]
 ·simp[execOp,aY,ex,eB,Instr.lookup,run_underlying gh,MapKept.run_getObj_map a1,run_checkKey jc ad,run_findKey jc f1,f4,Result.andThen]
end
end bE
end Go.Proofs.YtlbppjmekiemiaaGreatDoor


/- The executor on data: a list whose last element is given by its cells: how it comes to be. No condition. -/
namespace Go.Proofs.YtlbppjmekiemiaaGreatDoor
namespace bE
section
variable {P:Program} {tab:ci} {O bU:dk} {mem fl:dS} {w w':World} {S S':Nat->Prop}

theorem adT{o:Oper}{a:Act}{T base:Nat}{aK:c7}{t:z}{ps:Array (Nat×Operand)}{v:V}{cs:List C}(bH:fp P tab)(aY:o.op=.buildSlice T 1 ps)(bp:ps.toList.map (·.1)=[0])(bl:dO tab T=some aK)(ad:aK.isSlice t=true)
  (aD:Inv tab O mem w S) (aQ:fG tab O mem w S [v] (ps.toList.map fun p=>a.eval p.2)) (az:v.cells=some cs) (ax:cs.length=t.width) (cb:t.width<=16777216) (aA:mem base=none) :
  dU P o a w (ec tab O mem w S [(base,.ew t [] cs)] (.one (.ia base))):=by
 obtain⟨e,i,bg,c1⟩:=jQ bH bl ad;obtain⟨x,qM⟩:∃x,ps=#[(0,x)]:=by
  obtain⟨l⟩:=ps;cases l with
  |nil=>cases bp
  |cons p l=>cases l with
   |nil =>
    obtain⟨k,x⟩:=p;have:k=0:=by simpa using bp
    subst this;exact⟨x,rfl⟩
   |cons q l=>simp at bp
 subst qM;have aG:ch tab O mem w S v (a.eval x):=aQ.1;obtain⟨bA,bb⟩:=AK aG az;have lZ:=c1.pos;have I7:pg (fun c y=>y.oneCell'=true/\fv tab O mem w S c y) (List.replicate t.width .undef) (madeCells (if 1*t.width=0 then #[]else bg.cells) (1*t.width)).toList:=by
  refine⟨by simp[size_madeCells],fun q c aI=>?_⟩;have uO:q<t.width:=by have:=(List.getElem?_eq_some_iff.1 aI).1;simpa using this
  have zJ:c=.undef:=by simpa[uO]using aI.symm
  subst zJ;have dz:¬t.width=0:=by omega
  have Rv:q<bg.cells.toList.length:=by simp[c1.gN,uO]
  have uN:(bg.cells.toList[q]).oneCell'=true:=List.all_eq_true.1 c1.MY _ (List.getElem_mem Rv);have zE:bg.cells[q%bg.cells.size]! = bg.cells.toList[q]:=by
   rw[c1.gN,Nat.mod_eq_of_lt uO,getElem!_def];have:bg.cells[q]? = some bg.cells.toList[q]:=by
    rw[<- Array.getElem?_toList];exact List.getElem?_eq_getElem Rv
   rw[this]
  exact⟨_,by simp[madeCells,dz,uO,zE],uN,trivial⟩
 obtain⟨cells,f1,f2⟩:=H1 (R:=fun c y=>y.oneCell'=true/\fv tab O mem w S c y) (place:=fun j=>some (j*t.width,t.width)) [(0,cs)] [0] [(0,a.eval x)] (List.replicate t.width .undef) cs _ I7 (by
   unfold mG;have I:Nat.ble (0+cs.length) (List.replicate t.width C.undef).length=true:=by simp[ax]
   rw[I];have G:put (List.replicate t.width C.undef) 0 cs=cs:=by
    unfold put;rw[List.drop_of_length_le (by simp[ax])];simp
   simp only[G,mG]) rfl rfl (fun j f u b1 hu=>by
  cases j with
  |succ j=>simp at b1
  |zero =>
   simp at b1 hu;subst b1 hu;exact⟨by simp[ax],by simp[bA],fun q c aI=>by obtain⟨y,cC,cI,dA⟩:=bb q c aI;exact⟨y,by simpa using cC,cI,dA⟩⟩)
 have QT:(Loc.eu (.slice (some (b6 w.heap.size 0)) 1 1)).block=some w.heap.size\/(Loc.eu (.slice (some (b6 w.heap.size 0)) 1 1)).block=none:=.inl rfl;have a5:=ql (O:=O) (S:=S) (w:=w) (o:=.cells cells e) (B:=.ew t [] cs) aA QT;have fs:cells.size=t.width:=by
  have:=f2.1;rw[ax]at this;simpa using this
 refine lb (s:=Instr.buildSlice T 1 #[(0,a.eval x)]) (x:=.slice (some (b6 w.heap.size 0)) 1 1) (w':=w.alloc (.cells cells e)) (by simp only[execOp,aY];simp) (VB c1 1 (by omega) _ cells f1)
  ⟨l6 base (.eu (.slice (some (b6 w.heap.size 0)) 1 1)) O,S,a5,?_,⟨rfl,by rw[fm];exact(fun h=>by cases h),fun ez l' eK _=>hn⟩⟩
 refine rj aA QT aD ⟨w.heap.size,1,cells,e,rfl,heap_alloc_new w _,Nat.le_refl _,by unfold maxLen;omega,by omega,fun i j c hi=>absurd hi (Nat.not_lt_zero _),fun j c aR=>?_⟩;obtain⟨y,cC,cI,dA⟩:=f2.2 j c aR;have iv:=(List.getElem?_eq_some_iff.1 aR).1;exact⟨by omega,y,by simpa using cC,cI,dA.ext a5 aD⟩

theorem NT{o:Oper}{a:Act}{s x:Operand}{T cV base r:Nat}{aK:c7}{t:z}{e aX:Nat}{i:TypeInfo}{bg:Value}{mem1:dS}{ph:Nat->Prop}{Br:bQ}{xs:Value}{l0:List t.den}{cs:List C}{fT:Option Addr}{gW:Nat}{ys:List Value}{m:Mem}
  (aY:o.op=.call { callee:=.builtin .append,args:=#[s,x],argTypes:=#[T,cV] }) (c1:tW P tab T t aK.bytes e i bg) (h6:P.underlying cV=some (.slice aX))
  (em:Ext O mem w S O mem1 w ph) (hD:Inv tab O mem1 w ph) (aw:mem1 r=some Br) (abh:Br.alive) (nQ:mem1 base=none) (z6:O r=some (.eu xs))
  (av:(xs=.slice none 0 0/\l0=[])\/∃b cap cur b8,xs=.slice (some (b6 b 0)) l0.length cap/\w.heap[b]? = some (.cells cur b8 (0,0))/\l0.length<=cap/\cap<=maxLen/\cap*t.width<=cur.size/\Cells tab w ph t l0 (cur.toList.take (l0.length*t.width)))
  (es:a.eval s=xs) (ex:a.eval x=.slice fT 1 gW) (qO:ys.length=t.width) (Dh:∀u∈ys,u.oneCell'=true)
  (Rt:∀(j:Nat) c,cs[j]? = some c->j<t.width/\∃y,ys[j]? = some y/\y.oneCell'=true/\fv tab O mem1 w ph c y)
  (gR:∀k e5,(Builtin.firstCells t.width 1 (.slice fT k e5)).run P w=.ok ys.toArray w/\(Builtin.firstCells t.width 1 (.slice fT k e5)).run P w.drew=.ok ys.toArray w.drew)
  (uB:(l0.length+1)*aK.bytes<=140737488355328) (aB:cO m mem=cO [(r,.dead),(base,.ew t l0 cs)] mem1) :
  dU P o a w (ec tab O mem w S m (.one (.ia base))):=by
 have dz:base≠r:=fun e=>by subst e;rw[aw]at nQ;cases nQ
 have fin:∀(eT:Value) (w':World),(Builtin.append_ #[T,cV] o.type #[xs,.slice fT 1 gW]).run P w=.ok eT w'->ec tab O mem w S m (.one (.ia base)) eT w'->dU P o a w (ec tab O mem w S m (.one (.ia base))):=fun eT w' aw bh =>
  gV (x:=eT) (w':=w') (by simp[execOp,aY,resolve,invoke,builtin,es,ex,aw]) bh
 have bound:l0.length+1<=140737488355328:=Nat.le_trans (Nat.le_mul_of_pos_right _ c1.BK) uB;have fresh:∀(dP:Option Addr) (cap:Nat) (lA:List Value),xs=.slice dP l0.length cap->¬l0.length+1<=cap->Cells tab w ph t l0 lA->(Builtin.firstCells t.width l0.length (.slice dP l0.length cap)).run P w.drew=.ok lA.toArray w.drew->dU P o a w (ec tab O mem w S m (.one (.ia base))):=by
  intro dP cap lA qw l2 hold rR;have m8:=VA (P:=P) (w:=w) (ty:=o.type) c1.hA h6 c1.info c1.zero c1.size dP l0.length cap 1 fT gW lA ys rR (gR _ gW).2 l2 (by rw[c1.bytes];exact uB) (by rw[c1.bytes];exact c1.BK);generalize hw:lA.toArray++ys.toArray++Builtin.zeroCells bg.cells (grownCap w (l0.length+1) cap e-(l0.length+1))=eM at m8;have uH:=grownCap_ge w (l0.length+1) cap e;have pK:=grownCap_le_maxLen w (l0.length+1) cap e (by unfold maxLen;omega);generalize grownCap w (l0.length+1) cap e=tj at m8 uH pK hw;have Iy:eM.size=tj*t.width:=by
   subst hw;have:l0.length*t.width+t.width=(l0.length+1)*t.width:=by rw[Nat.add_mul];omega
   simp only[Array.size_append,List.size_toArray,size_zeroCells,c1.gN,hold.1,qO];rw[this,<- Nat.add_mul];congr 1;omega
  obtain⟨dL,h1⟩:=RN hD (r:=r) (by rw[aw];exact(fun h=>by cases h)) False;generalize aj6:(fun b=>ph b\/False/\Live mem1 r/\∃l,O r=some l/\l.block=some b)=mR at dL h1;generalize s3:cO [(r,.dead)] mem1=mem2 at dL h1;have uA:mem2 base=none:=by rw[<- s3,eg dz];exact nQ
  have jo:cO m mem=cO [(base,.ew t l0 cs)] mem2:=by
   rw[aB,<- s3];funext q
   by_cases bA:q=r
   ·subst bA;rw[fx,fm,eg (Ne.symm dz),fm]
   ·by_cases bb:q=base
    ·subst bb;rw[fx,eg bA,fm,fm]
    ·rw[fx,eg bA,eg bb,eg bb,eg bA]
  have ax:(Loc.eu (.slice (some (b6 w.heap.size 0)) (l0.length+1) tj)).block=some w.heap.size\/(Loc.eu (.slice (some (b6 w.heap.size 0)) (l0.length+1) tj)).block=none:=.inl rfl;have qg:Ext O mem2 w mR O mem2 w.drew mR:=⟨fun _ h=>h,(Ext.refl (O:=O) (mem:=mem2) (w:=w) (S:=mR)).kinds,fun _ h=>h,Nat.le_refl _,fun _ _ _=>rfl,fun _ h=>.inl h,fun _ h=>.inl h,rfl,rfl,rfl⟩
  have Id:Inv tab O mem2 w.drew mR:=⟨fun q B I G=>by obtain⟨l',aO,aX⟩:=h1.rel q B I G;exact⟨l',aO,aX.ext qg h1 fun _ _=>rfl⟩,h1.inj,h1.sep,h1.lt,h1.pow.of_heap rfl⟩
  have gr:=ql (O:=O) (S:=mR) (w:=w.drew) (o:=.cells eM e) (B:=.ew t l0 cs) uA ax;have hR:=(dL.trans qg).trans gr;rw[qw]at fin;refine fin _ _ m8 ⟨_,mR,by rw[jo];exact em.trans hR,by
   rw[jo];refine rj uA ax Id ⟨w.heap.size,tj,eM,e,rfl,heap_alloc_new w.drew _,uH,pK,by omega,fun i j c hi aR=>?_,fun j c aR=>?_⟩
   ·obtain⟨y,cC,cI⟩:=hold.2.2 i j c hi aR;have dQ:i*t.width+j<lA.length:=(List.getElem?_eq_some_iff.1 cC).1;refine⟨y,?_,cI.Au,cI.mono hR.sub (hR.keeps hD)⟩;subst hw;rw[Array.getElem?_append_left (by simp;omega),Array.getElem?_append_left (by simpa using dQ)];simpa using cC
   ·obtain⟨mn,y,cC,cI,dA⟩:=Rt j c aR;refine⟨mn,y,?_,cI,dA.ext hR hD⟩;subst hw;have I:=hold.1;rw[Array.getElem?_append_left (by simp;omega),Array.getElem?_append_right (by simp;omega),<- cC];simp only[List.size_toArray,List.getElem?_toArray];congr 1;omega,rfl,by rw[jo,fm];exact(fun h=>by cases h),fun _ _ _ _=>hn⟩
 rcases av with⟨qw,rfl⟩|⟨b,cap,cur,b8,qw,hbk,C0,Ix,fs,hold⟩
 ·exact fresh none 0 [] qw (by simp) ⟨by simp,fun u hu=>by simp at hu,fun i j c hi=>by simp at hi⟩ (by simp[Builtin.firstCells])
 ·by_cases l2:l0.length+1<=cap
  ·-- it fits
   have zY:(l0.length+1)*t.width<=cap*t.width:=Nat.mul_le_mul_right _ l2;rw[Nat.add_mul,Nat.one_mul]at zY;have fJ:=run_storeCells_at P b (l0.length*t.width) b8 ys 0 cur w hbk (by omega) Dh;simp only[Nat.add_zero]at fJ;generalize hw:(cur.toList.take (l0.length*t.width)++ys++cur.toList.drop (l0.length*t.width+ys.length)).toArray=eM at fJ;obtain⟨cJ,cE,ey,gw⟩:=yn (w:=w) b eM;have m8:=AM (P:=P) (w:=w) (w':=w.setRow b eM) (ty:=o.type) c1.hA h6 c1.info c1.size (some (b6 b 0)) l0.length cap 1 fT gW ys (gR _ gW).1 l2 (by simpa[b6,Addr.add_lit]using fJ);obtain⟨dL,qI⟩:=DI (B':=.ew t l0 cs) (l':=.eu (.slice (some (b6 b 0)) (l0.length+1) cap)) (w':=w.setRow b eM) aw abh nQ z6 (by rw[qw];rfl) cJ (fun k ad=>setRow_other w b k eM (fun e=>ad (by rw[qw,e];rfl))) cE ey gw hD;have j2:eM.size=cur.size:=by
    subst hw;simp;omega
   rw[qw]at fin;refine fin _ _ m8 ⟨_,ph,by rw[aB];exact em.trans dL,by
    rw[aB];refine qI ⟨b,cap,eM,b8,rfl,setRow_heap w b cur eM b8 (0,0) hbk,l2,Ix,by rw[j2];exact fs,fun i j c hi aR=>?_,fun j c aR=>?_⟩
    ·obtain⟨y,cC,cI⟩:=hold.2.2 i j c hi aR;have dQ:i*t.width+j<(cur.toList.take (l0.length*t.width)).length:=(List.getElem?_eq_some_iff.1 cC).1;refine⟨y,?_,cI.Au,cI.mono dL.sub (dL.keeps hD)⟩;subst hw;rw[List.getElem?_toArray,List.append_assoc,List.getElem?_append_left dQ];exact cC
    ·obtain⟨mn,y,cC,cI,dA⟩:=Rt j c aR;refine⟨mn,y,?_,cI,dA.ext dL hD⟩;subst hw;have bl:(cur.toList.take (l0.length*t.width)).length=l0.length*t.width:=by simp;omega
     rw[List.getElem?_toArray,List.append_assoc,List.getElem?_append_right (by omega),bl,List.getElem?_append_left (by omega),<- cC];congr 1;omega,rfl,by rw[aB,fx,eg dz,fm];exact(fun h=>by cases h),fun _ _ _ _=>hn⟩
  ·refine fresh _ cap _ qw l2 hold ?_;have:=run_loadCells_list (P:=P) w.drew (b6 b 0) (cur.toList.take (l0.length*t.width)) (fun j v aR=>by
    rw[World.cell?_drew,b6,Addr.add_lit,Nat.zero_add];refine cell?_at hbk ?_;have iv:j<l0.length*t.width:=by
     have:=(List.getElem?_eq_some_iff.1 aR).1;simp at this;omega
    rw[List.getElem?_take_of_lt iv]at aR;simpa using aR)
   rw[hold.1]at this;simpa[Builtin.firstCells]using this

theorem YU{lm:Mem}{c d:C}{ns:List Nat}(h:px lm c=some (d,ns)):∀q∈ns,∃t l,look lm q=some (.arr t l):=by
 cases c with
 |own r =>
  simp only[px]at h;split at h<;>try cases h
  rename_i t l ax;intro q aI;rw[List.mem_singleton.1 aI];exact⟨t,l,ax⟩
 |E t d=>simp only[px]at h;cases h;exact fun q aI=>by cases aI
 |nil t=>simp only[px]at h;cases h;exact fun q aI=>by cases aI
 |_=>simp only[px]at h;cases h
theorem PC{lm:Mem}:∀{cs ds:List C} {ns:List Nat},sx lm cs=some (ds,ns)->∀q∈ns,∃t l,look lm q=some (.arr t l)
 |[],ds,ns,h=>by simp only[sx]at h;cases h;exact fun q aI=>by cases aI
 |c::cs,ds,ns,h=>by
  simp only[sx]at h;split at h<;>try cases h
  rename_i d1 ho I;split at h<;>try cases h
  rename_i Cv ms G;intro q aI;rcases List.mem_append.1 aI with aI|aI
  ·exact YU I q aI
  ·exact PC G q aI
theorem acq{lm:Mem}{t:z}{cs:List C}{d:t.den}{ns:List Nat}(h:uY lm t cs=some (d,ns)):∀q∈ns,∃t l,look lm q=some (.arr t l):=by
 unfold uY at h;split at h<;>try cases h
 rename_i ds ms I;split at h<;>try cases h
 exact PC I

theorem adM{o:Oper}{a:Act}{s x:Operand}{T cV base q:Nat}{aK ju:c7}{c:C}{lm:Mem}{p:Option Prop}{v:V}{m:Mem}{u:z}(bH:fp P tab)(aY:o.op=.call { callee:=.builtin .append,args:=#[s,x],argTypes:=#[T,cV] })
  (bl:dO tab T=some aK) (hu:dO tab cV=some ju) (uJ:ju.elem=some u) (aD:Inv tab O mem w S) (av:gi lm mem) (aA:mem base=none)
  (dw:ch tab O mem w S (.one c) (a.eval s)) (fS:ch tab O mem w S (.one (.ia q)) (a.eval x)) (h:yT aK base aK.bytes lm c q=some (p,v,m)) (ag:under p True) :
  dU P o a w (ec tab O mem w S m v):=by
 unfold yT at h;split at h<;>try cases h
 rename_i t cs aI;split at h<;>try cases h
 rename_i ad;split at h<;>try cases h
 rename_i j2;have j2:=Nat.eq_of_beq_eq_true j2;obtain⟨e,i,bg,c1⟩:=jQ bH bl ad;have h6:∃aX,P.underlying cV=some (.slice aX):=by
  have dX:=(bH.ok cV ju hu).kind;unfold c7.elem at uJ;cases hW:ju.hl with
  |slice ez b8=>rw[hW]at dX;exact⟨b8,dX.1⟩
  |_=>rw[hW]at uJ;cases uJ
 obtain⟨aX,h6⟩:=h6;obtain⟨C3,BL,Yw,uk,eq,PZ,ako,bK,bX,dh,eW,_,jr⟩:=yU av aD aI fS;have zY:1*t.width<=Yw*t.width:=Nat.mul_le_mul_right _ (by simpa using bX);have qO:(uk.toList.take t.width).length=t.width:=by simp;omega
 have gR:∀k e5,(Builtin.firstCells t.width 1 (.slice (some (b6 BL 0)) k e5)).run P w=.ok (uk.toList.take t.width).toArray w/\(Builtin.firstCells t.width 1 (.slice (some (b6 BL 0)) k e5)).run P w.drew=.ok (uk.toList.take t.width).toArray w.drew:=fun k e5=>by
  have gen:∀jv:World,jv.heap=w.heap->(Builtin.firstCells t.width 1 (.slice (some (b6 BL 0)) k e5)).run P jv=.ok (uk.toList.take t.width).toArray jv:=fun jv G=>by
   have:=run_loadCells_list (P:=P) jv (b6 BL 0) (uk.toList.take t.width) (fun j v aR=>by
    rw[b6,Addr.add_lit,Nat.zero_add];refine cell?_at (w:=jv) (by rw[G];exact bK) ?_;have iv:j<t.width:=by
     have:=(List.getElem?_eq_some_iff.1 aR).1;simp at this;omega
    rw[List.getElem?_take_of_lt iv]at aR;simpa using aR)
   rw[qO]at this;simpa[Builtin.firstCells]using this
  exact⟨gen w rfl,gen w.drew rfl⟩
 have IP:∀{ph:Nat->Prop} {mem1:dS},Ext O mem w S O mem1 w ph->∀(j:Nat) c,cs[j]? = some c->j<t.width/\∃y,(uk.toList.take t.width)[j]? = some y/\y.oneCell'=true/\fv tab O mem1 w ph c y:=fun a5 j c aR=>by
  obtain⟨mn,y,cC,cI,dA⟩:=jr j c aR;refine⟨mn,y,?_,cI,dA.ext a5 aD⟩;rw[List.getElem?_take_of_lt mn];simpa using cC
 have Dh:∀u∈uk.toList.take t.width,u.oneCell'=true:=fun u hu=>by
  obtain⟨j,aR⟩:=List.getElem?_of_mem hu;have iv:=(List.getElem?_eq_some_iff.1 aR).1;rw[qO]at iv;have aaO:j<cs.length:=by omega
  obtain⟨_,y,cC,cI,_⟩:=IP Ext.refl j _ (List.getElem?_eq_getElem aaO);rw[aR]at cC;cases cC;exact cI
 cases c with
 |own r =>
  simp only at h;split at h<;>try cases h
  rename_i ez l ax;split at h<;>try cases h
  rename_i mB;subst mB;obtain⟨fI,z6,dN⟩:=tp av aD ax dw;have I8:r≠q:=fun e=>by subst e;rw[fI]at C3;cases C3
  obtain⟨em,hD⟩:=qT (ns:=[q]) aD;have bO:cO (gP [q]) mem=fun p=>if p=q then some .dead else mem p:=by
   funext p;rcases n0 (mem:=mem) [q] p with⟨I,G⟩|⟨I,G⟩
   ·simp at I;rw[G,if_pos I]
   ·simp at I;rw[G,if_neg I]
  have zH:base≠q:=fun e=>by subst e;rw[C3]at aA;cases aA
  have sW:base≠r:=fun e=>by subst e;rw[fI]at aA;cases aA
  refine NT (Br:=.arr t l) (mem1:=cO (gP [q]) mem) (xs:=a.eval s) (l0:=l) aY c1 h6 em hD (by rw[bO];simp only[if_neg I8];exact fI) trivial (by rw[bO];simp only[if_neg zH];exact aA) z6 ?_ rfl PZ qO Dh (IP em) gR ag.1 ?_
  ·rcases dN with⟨I,G⟩|⟨b,cap,cur,b8,I,hbk,cj,eR,gf,gX⟩
   ·exact .inl ⟨I,G⟩
   ·have az:=vb cj gf gX 0 l.length (Nat.zero_le _) (Nat.le_refl _);have dY:a2 l 0 l.length=l:=by simp[a2]
    rw[dY]at az;simp only[Nat.zero_mul,List.drop_zero,Nat.sub_zero]at az;exact .inr ⟨b,cap,cur,b8,I,hbk,cj,eR,gf,az.mono em.sub (em.keeps aD)⟩
  ·rw[bO];funext p
   by_cases bA:p=r
   ·subst bA;rw[fx,fm,fx,fm]
   ·by_cases bb:p=base
    ·subst bb;rw[fx,eg sW,fx,eg zH,fm,fx,eg sW,fm]
    ·by_cases cr:p=q
     ·subst cr;rw[fx,eg bA,fx,fm,fx,eg bA,eg bb];simp
     ·rw[fx,eg bA,fx,eg cr,eg bb,fx,eg bA,eg bb];simp[cr]
 |ia r =>
  simp only at h;split at h<;>try cases h
  rename_i abl;split at h<;>try cases h
  rename_i ez l ke ax;split at h<;>try cases h
  rename_i mB;subst mB;split at h<;>try cases h
  rename_i d ns uD;have I8:r≠q:=fun e=>by subst e;simp[Nat.beq_refl]at abl
  obtain⟨fI,b,cap,cur,b8,qw,z6,kE⟩:=yU av aD ax dw;obtain⟨ho,iX⟩:=N0 aD av kE uD;obtain⟨a1,bf,cj,eR,_,_⟩:=kE;have m8:r∉ns:=fun h=>by
   obtain⟨t2,gT,G⟩:=acq uD r h;rw[ax]at G;cases G
  have Iv:base∉ns:=fun h=>ho base h aA
  obtain⟨em,hD⟩:=qT (ns:=q::ns) aD;have bO:cO (gP (q::ns)) mem=fun p=>if p∈q::ns then some .dead else mem p:=by
   funext p;rcases n0 (mem:=mem) (q::ns) p with⟨I,G⟩|⟨I,G⟩
   ·rw[G,if_pos I]
   ·rw[G,if_neg I]
  have zH:base≠q:=fun e=>by subst e;rw[C3]at aA;cases aA
  have sW:base≠r:=fun e=>by subst e;rw[fI]at aA;cases aA
  have g0:r∉q::ns:=by simp[I8,m8]
  have gA:base∉q::ns:=by simp[zH,Iv]
  have cY:(cat l [d]).length=l.length+1:=by simp[cat]
  refine NT (Br:=.ew t l ke) (mem1:=cO (gP (q::ns)) mem) (xs:=a.eval s) (l0:=cat l [d]) aY c1 h6 em hD (by rw[bO];simp only[if_neg g0];exact fI) trivial (by rw[bO];simp only[if_neg gA];exact aA) z6 (.inr ⟨b,cap,cur,b8,by rw[cY];exact qw,a1,by rw[cY];exact bf,cj,eR,?_⟩) rfl PZ qO Dh (IP em) gR (by rw[cY];exact ag.1) ?_
  ·have az:=vb (S:=fX O mem S ns) (by rw[cY];exact bf) eR iX 0 (cat l [d]).length (Nat.zero_le _) (Nat.le_refl _);have dY:a2 (cat l [d]) 0 (cat l [d]).length=cat l [d]:=by simp[a2]
   rw[dY]at az;simp only[Nat.zero_mul,List.drop_zero,Nat.sub_zero]at az;exact az.mono (fun b aA=>aA.imp id fun⟨r,aw,h⟩=>⟨r,List.mem_cons_of_mem _ aw,h⟩) (fun _ _=>rfl)
  ·rw[bO];have aao:∀p,cO (gP ns) mem p=if p∈ns then some .dead else mem p:=fun p=>by
    rcases n0 (mem:=mem) ns p with⟨I,G⟩|⟨I,G⟩
    ·rw[G,if_pos I]
    ·rw[G,if_neg I]
   funext p
   by_cases bA:p=r
   ·subst bA;rw[fx,fm,fx,fm]
   ·by_cases bb:p=base
    ·subst bb;rw[fx,eg sW,fx,eg zH,fx,fm,fx,eg sW,fm]
    ·by_cases cr:p=q
     ·subst cr;rw[fx,eg bA,fx,fm,fx,eg bA,eg bb];simp
     ·rw[fx,eg bA,fx,eg cr,fx,eg bb,fx,eg bA,eg bb,aao];simp[cr]
 |_=>simp only at h;cases h
end
end bE
end Go.Proofs.YtlbppjmekiemiaaGreatDoor


/- The executor on data: calls, by contracts. No condition. -/
namespace Go.Proofs.YtlbppjmekiemiaaGreatDoor
namespace bE
section
variable {P:Program} {tab:ci} {O bU jw gG:dk} {mem fl mem1 mem2:dS} {w w':World} {S S':Nat->Prop}

def cA(ar:List bQ):dS:=fun r=>ar[r]?

def AC(P:Program)(tab:ci)(f:Nat)(vs:List V)(ar:List bQ)(v:V)(dB:List bQ):Prop :=
 ∀(w:World) (S:Nat->Prop) (O:dk) (xs:List Value),Inv tab O (cA ar) w S->fG tab O (cA ar) w S vs xs ->
  Calls P f xs.toArray w fun e w'=>∃x bU S',e=.returned x/\Ext O (cA ar) w S bU (cA dB) w' S'/\Inv tab bU (cA dB) w' S'/\ch tab bU (cA dB) w' S' v x

def jf(P:Program)(tab:ci)(f:Nat)(C:bd):Prop :=
 ∀vs ar p v dB,C vs ar=some (p,v,dB)->under p True->AC P tab f vs ar v dB

def Sound(P : Program)(tab : ci)(Γ : Ctx) : Prop := ∀f C, look Γ f = some C -> jf P tab f C /\ (∃fn, P.funcs[f]? = some fn /\ fn.body.isSome = true /\ (fn.name == "runtime.NumGoroutine") = false)

def E5:bQ->bQ->Prop
 |.box _,.box _=>True
 |.arr t _,.arr u _=>t=u
 |.set _,.set _=>True
 |.ew t l _,.ew u k _=>t=u/\l.length=k.length
 |_,_=>False

def re(jw:dk)(mem1:dS)(gG:dk)(mem2:dS)(f:Nat->Nat)(r:Nat):Prop :=
 mem1 r≠none->mem2 (f r)≠none/\∀ih,mem2 (f r)=some ih->ih.alive->∃ga,mem1 r=some ga/\E5 ga ih/\gG (f r)=jw r

theorem fv.cx{f:Nat->Nat}{c:C}{x:Value}(h:fv tab jw mem1 w S c x)(aw:∀r∈c.names,re jw mem1 gG mem2 f r):fv tab gG mem2 w S (c.cx f) x:=by
 cases c with
 |E t d=>exact h
 |nil t=>exact h
 |undef=>trivial
 |any=>trivial
 |lS t l i k=>exact h
 |ptr r o =>
  obtain⟨a6,I⟩:=h;obtain⟨e7,a1⟩:=aw r (by simp[C.names]) a6;refine⟨e7,fun cs el=>?_⟩;obtain⟨ga,aO,aX,cY⟩:=a1 _ el trivial;cases ga with
  |box rr=>obtain⟨b,bK,bX⟩:=I rr aO;exact⟨b,cY.trans bK,bX⟩
  |_=>exact aX.elim
 |mp r =>
  obtain⟨a6,I⟩:=h;obtain⟨e7,a1⟩:=aw r (by simp[C.names]) a6;refine⟨e7,fun cs el=>?_⟩;obtain⟨ga,aO,aX,cY⟩:=a1 _ el trivial;cases ga with
  |set rr=>obtain⟨b,bK,bX⟩:=I rr aO;exact⟨b,cY.trans bK,bX⟩
  |_=>exact aX.elim
 |own r =>
  obtain⟨a6,I⟩:=h;obtain⟨e7,a1⟩:=aw r (by simp[C.names]) a6;refine⟨e7,fun t l el=>?_⟩;obtain⟨ga,aO,aX,cY⟩:=a1 _ el trivial;cases ga with
  |arr t1 dV=>exact cY.trans (I t1 dV aO)
  |_=>exact aX.elim
 |view r off n =>
  obtain⟨a6,I⟩:=h;obtain⟨e7,a1⟩:=aw r (by simp[C.names]) a6;refine⟨e7,fun t l el=>?_⟩;obtain⟨ga,aO,aX,cY⟩:=a1 _ el trivial;cases ga with
  |arr t1 dV =>
   obtain⟨y,bK,bX⟩:=I t1 dV aO;have:t1=t:=aX;subst this;exact⟨y,cY.trans bK,bX⟩
  |_=>exact aX.elim
 |cut r n =>
  obtain⟨a6,I⟩:=h;obtain⟨e7,a1⟩:=aw r (by simp[C.names]) a6;refine⟨e7,fun t l el=>?_⟩;obtain⟨ga,aO,aX,cY⟩:=a1 _ el trivial;cases ga with
  |arr t1 dV =>
   obtain⟨a,m,cap,bK,bX⟩:=I t1 dV aO;exact⟨a,m,cap,cY.trans bK,bX⟩
  |_=>exact aX.elim
 |j6 r i k =>
  obtain⟨a6,I⟩:=h;obtain⟨e7,a1⟩:=aw r (by simp[C.names]) a6;refine⟨e7,fun t l el=>?_⟩;obtain⟨ga,aO,aX,cY⟩:=a1 _ el trivial;cases ga with
  |arr t1 dV =>
   obtain⟨b,m,cap,bK,bX⟩:=I t1 dV aO;have:t1=t:=aX;subst this;exact⟨b,m,cap,cY.trans bK,bX⟩
  |_=>exact aX.elim
 |ia r =>
  obtain⟨a6,I⟩:=h;obtain⟨e7,a1⟩:=aw r (by simp[C.names]) a6;refine⟨e7,fun t l cs el=>?_⟩;obtain⟨ga,aO,aX,cY⟩:=a1 _ el trivial;cases ga with
  |ew t1 dV rr=>exact cY.trans (I t1 dV rr aO)
  |_=>exact aX.elim
 |kL r k =>
  obtain⟨a6,I⟩:=h;obtain⟨e7,a1⟩:=aw r (by simp[C.names]) a6;refine⟨e7,fun t l cs el=>?_⟩;obtain⟨ga,aO,aX,cY⟩:=a1 _ el trivial;cases ga with
  |ew t1 dV rr =>
   obtain⟨b,m,cap,bK,bX⟩:=I t1 dV rr aO;obtain⟨bl,ax⟩:=aX;subst bl;exact⟨b,m,cap,cY.trans bK,by rw[<- ax];exact bX⟩
  |_=>exact aX.elim
 |fn g il =>
  obtain⟨a6,vs,I,G,ab⟩:=h;refine⟨fun q aI=>?_,vs,I,by simpa using G,fun i q aI=>?_⟩
  ·simp only[List.mem_map]at aI;obtain⟨r,g0,rfl⟩:=aI;exact(aw r g0 (a6 r g0)).1
  ·simp only[List.getElem?_map,Option.map_eq_some_iff]at aI;obtain⟨r,g0,rfl⟩:=aI;have aB:=List.mem_of_getElem? g0;obtain⟨y,cC,cI,dA⟩:=ab i r g0;refine⟨y,cC,cI,fun cs el=>?_⟩;obtain⟨ga,aO,aX,cY⟩:=(aw r aB (a6 r aB)).2 _ el trivial;cases ga with
   |box rr=>obtain⟨b,bK,bX⟩:=dA rr aO;exact⟨b,cY.trans bK,bX⟩
   |_=>exact aX.elim

theorem jX.cx{f:Nat->Nat}{v:V}{x:Value}(h:jX tab jw mem1 w S v x)(aw:∀r∈v.names,re jw mem1 gG mem2 f r):jX tab gG mem2 w S (v.cx f) x:=by
 cases v with
 |one c=>exact⟨h.1,h.2.cx aw⟩
 |agg cs =>
  obtain⟨xs,e,I,G⟩:=h;refine⟨xs,e,by simpa using I,fun i c hi=>?_⟩;simp only[List.getElem?_map,Option.map_eq_some_iff]at hi;obtain⟨gO,az,rfl⟩:=hi;obtain⟨y,cC,cI,dA⟩:=G i gO az;exact⟨y,cC,cI,dA.cx fun r g0=>aw r (by simp only[V.names,List.mem_flatMap];exact⟨gO,List.mem_of_getElem? az,g0⟩)⟩
 |an vs=>exact h.elim

def V.nB:V->List Nat
 |.an vs=>vs.flatMap V.names
 |v=>v.names

theorem ch.cx{f:Nat->Nat}{v:V}{x:Value}(h:ch tab jw mem1 w S v x)(aw:∀r∈v.nB,re jw mem1 gG mem2 f r):ch tab gG mem2 w S (v.cx f) x:=by
 cases v with
 |one c =>
  have:jX tab jw mem1 w S (.one c) x\/c=.undef:=by cases c<;>first|exact .inr rfl|exact .inl h
  rcases this with er|rfl
  ·have:=er.cx (gG:=gG) (mem2:=mem2) (f:=f) aw;cases c<;>first|trivial|exact this
  ·trivial
 |agg cs=>exact jX.cx (v:=.agg cs) h aw
 |an vs =>
  obtain⟨xs,e,I,G⟩:=h;refine⟨xs,e,by simpa using I,fun i u hi=>?_⟩;simp only[List.getElem?_map,Option.map_eq_some_iff]at hi;obtain⟨iL,hu,rfl⟩:=hi;obtain⟨y,cC,cI⟩:=G i iL hu;have aB:∀r∈iL.names,re jw mem1 gG mem2 f r:=fun r g0=>aw r (by simp only[V.nB,List.mem_flatMap];exact⟨iL,List.mem_of_getElem? hu,g0⟩)
  refine⟨y,cC,?_⟩;cases iL with
  |one c=>exact jX.cx (v:=.one c) cI aB
  |agg cs=>exact jX.cx (v:=.agg cs) cI aB
  |an us=>exact cI.elim

theorem pc.cx{f:Nat->Nat}{B:bQ}{l:Loc}(h:pc tab jw mem1 w S B l)(aw:∀r∈B.names,re jw mem1 gG mem2 f r):pc tab gG mem2 w S (B.cx f) l:=by
 cases B with
 |dead=>exact h.elim
 |box cs =>
  cases l with
  |eu x=>exact h.elim
  |gz b =>
   obtain⟨vs,e,I,G,ab⟩:=h;refine⟨vs,e,I,by simpa using G,fun i c hi=>?_⟩;simp only[List.getElem?_map,Option.map_eq_some_iff]at hi;obtain⟨gO,az,rfl⟩:=hi;obtain⟨y,cC,cI,dA⟩:=ab i gO az;exact⟨y,cC,cI,dA.cx fun r g0=>aw r (by simp only[bQ.names,List.mem_flatMap];exact⟨gO,List.mem_of_getElem? az,g0⟩)⟩
 |set aF =>
  cases l with
  |eu x=>exact h.elim
  |gz b=>exact h
 |ew t iw cs =>
  cases l with
  |gz b=>exact h.elim
  |eu x =>
   obtain⟨b,cap,cur,e,I,G,ab,aV,br,bV,dm⟩:=h;refine⟨b,cap,cur,e,I,G,ab,aV,br,bV,fun j c aR=>?_⟩;simp only[List.getElem?_map,Option.map_eq_some_iff]at aR;obtain⟨gO,az,rfl⟩:=aR;obtain⟨mn,y,cC,cI,dA⟩:=dm j gO az;exact⟨mn,y,cC,cI,dA.cx fun r g0=>aw r (by simp only[bQ.names,List.mem_flatMap];exact⟨gO,List.mem_of_getElem? az,g0⟩)⟩
 |arr t iw =>
  cases l with
  |gz b=>exact h.elim
  |eu x=>exact h

theorem Xn{v:V}{x:Value}(h:ch tab O mem w S v x):ch tab O mem w S (o6 v) x:=by
 cases v with
 |one c =>
  cases c with
  |nil t=>obtain⟨I,rfl⟩:=h;exact⟨rfl,.empty t none 0⟩
  |_=>exact h
 |agg cs =>
  obtain⟨xs,e,I,G⟩:=h;refine⟨xs,e,by simpa using I,fun i c hi=>?_⟩;simp only[List.getElem?_map,Option.map_eq_some_iff]at hi;obtain⟨gO,az,rfl⟩:=hi;obtain⟨y,cC,cI,dA⟩:=G i gO az;refine⟨y,cC,cI,?_⟩;cases gO with
  |nil t =>
   have:y=.slice none 0 0:=dA;subst this;exact dC.empty t none 0
  |_=>exact dA
 |an vs=>exact h

theorem aje(v:V):∀r∈(o6 v).nB,r∈v.nB:=by
 intro r aw;cases v with
 |one c=>cases c<;>exact aw
 |agg cs =>
  simp only[o6,V.nB,V.names,List.mem_flatMap,List.mem_map]at aw |-;obtain⟨c,⟨gO,az,rfl⟩,G⟩:=aw;refine⟨gO,az,?_⟩;cases gO<;>exact G
 |an vs=>exact aw

theorem RP{f:Nat->Nat}{B:bQ}(h:B.alive):E5 B (B.cx f):=by
 cases B with
 |dead=>exact h.elim
 |box cs=>trivial
 |set aF=>trivial
 |arr t l=>exact rfl
 |ew t l cs=>exact⟨rfl,rfl⟩

theorem nA{f:Nat->Nat}{B:bQ}:(B.cx f).alive↔B.alive:=by cases B<;>exact Iff.rfl
end
end bE
end Go.Proofs.YtlbppjmekiemiaaGreatDoor


/- The executor on data: calls, there and back. No condition. -/
namespace Go.Proofs.YtlbppjmekiemiaaGreatDoor
namespace bE
section
variable {P:Program} {tab:ci} {O bU jw gG:dk} {mem fl mem1 mem2:dS} {w w':World} {S S':Nat->Prop}

structure Handed(mem:dS)(seen:List Nat)(blks:List bQ):Prop where
 nodup:seen.Nodup
 len:blks.length=seen.length
 at_:∀(j r:Nat),seen[j]? = some r->blks[j]? = some ((mem r).getD .dead)
 closed:∀B∈blks,∀r∈B.names,r∈seen

theorem Rx{seen:List Nat}(aq:seen.Nodup){j r:Nat}(h:seen[j]? = some r):idx seen r=j:=by
 obtain⟨aR,rfl⟩:=List.getElem?_eq_some_iff.1 h;unfold idx;exact List.Nodup.idxOf_getElem aq j aR

theorem Ii{seen:List Nat}{r:Nat}(h:r∈seen):seen[idx seen r]? = some r:=by
 unfold idx;rw[List.getElem?_eq_getElem (List.idxOf_lt_length_iff.2 h),List.getElem_idxOf]

def hY(seen:List Nat)(O:dk):dk:=fun j=>(seen[j]?).bind O

section
variable {seen:List Nat} {blks:List bQ} (aP:Handed mem seen blks)
include aP

theorem Handed.qV{j r:Nat}(h:seen[j]? = some r):cA (blks.map (bQ.cx (idx seen))) j=some (((mem r).getD .dead).cx (idx seen)):=by
 simp[cA,aP.at_ j r h]

theorem Handed.Tg{j:Nat}{B:bQ}(h:cA (blks.map (bQ.cx (idx seen))) j=some B):∃r,seen[j]? = some r/\B=((mem r).getD .dead).cx (idx seen):=by
 have aR:j<seen.length:=by
  have:=(List.getElem?_eq_some_iff.1 h).1;rw[<- aP.len];simpa using this
 refine⟨seen[j],List.getElem?_eq_getElem aR,?_⟩;have:=aP.qV (List.getElem?_eq_getElem aR);rw[h]at this;exact Option.some.inj this

theorem Handed.cx{r:Nat}(aw:r∈seen):re O mem (hY seen O) (cA (blks.map (bQ.cx (idx seen)))) (idx seen) r:=fun a6=>by
 have aB:=aP.qV (Ii aw);refine⟨by rw[aB];exact(fun h=>by cases h),fun ih G bh=>?_⟩;rw[aB]at G;cases G;obtain⟨ga,I⟩:=mZ a6;rw[I]at bh |-;exact⟨ga,rfl,RP (nA.1 bh),by simp[hY,Ii aw]⟩

theorem Handed.live{j:Nat}(h:Live (cA (blks.map (bQ.cx (idx seen)))) j):∃r B,seen[j]? = some r/\mem r=some B/\B.alive:=by
 obtain⟨B,I,G⟩:=h;obtain⟨r,aw,rfl⟩:=aP.Tg I;have bh:=nA.1 G;cases aB:mem r with
 |none=>rw[aB]at bh;exact bh.elim
 |some B=>rw[aB]at bh;exact⟨r,B,aw,aB,bh⟩

theorem Handed.inv(aD:Inv tab O mem w S):Inv tab (hY seen O) (cA (blks.map (bQ.cx (idx seen)))) w S:=by
 refine⟨fun j B bt bh=>?_,fun j Dj aaP I G dV gT b aO aX aA gA=>?_,fun j I dV b aO aA dw=>?_,aD.lt,aD.pow⟩
 ·obtain⟨r,aw,rfl⟩:=aP.Tg bt;have rH:=nA.1 bh;cases aB:mem r with
  |none=>rw[aB]at rH;exact rH.elim
  |some he =>
   rw[aB]at rH;obtain⟨l,aO,aX⟩:=aD.rel r he aB rH;refine⟨l,by simp[hY,aw,aO],aX.cx fun q aI=>aP.cx ?_⟩;have:=aP.at_ j r aw;rw[aB]at this;exact aP.closed he (List.mem_of_getElem? this) q aI
 ·obtain⟨r,B,aw,aB,bh⟩:=aP.live I;obtain⟨fo,B',g0,pN,rH⟩:=aP.live G;simp only[hY,aw,g0,Option.bind_some]at aO aX;have dz:r≠fo:=fun e=>by
   subst e;exact aaP ((Rx aP.nodup aw).symm.trans (Rx aP.nodup g0))
  exact aD.inj r fo dz ⟨B,aB,bh⟩ ⟨B',pN,rH⟩ dV gT b aO aX aA gA
 ·obtain⟨r,B,aw,aB,bh⟩:=aP.live I;simp only[hY,aw,Option.bind_some]at aO;exact aD.sep r ⟨B,aB,bh⟩ dV b aO aA dw

theorem Handed.own{b:Nat}(h:q9 (hY seen O) (cA (blks.map (bQ.cx (idx seen)))) b):∃r∈seen,∃l,Live mem r/\O r=some l/\l.block=some b:=by
 obtain⟨j,l,I,G,ab⟩:=h;obtain⟨r,B,aw,aB,bh⟩:=aP.live I;simp only[hY,aw,Option.bind_some]at G;exact⟨r,List.mem_of_getElem? aw,l,⟨B,aB,bh⟩,G,ab⟩

theorem Handed.args:∀{vs:List V} {xs:List Value},fG tab O mem w S vs xs->(∀v∈vs,∀r∈v.nB,r∈seen)->fG tab (hY seen O) (cA (blks.map (bQ.cx (idx seen)))) w S ((vs.map o6).map (V.cx (idx seen))) xs
 |[],[],_,_=>trivial
 |v::vs,x::xs,h,aq=>⟨(Xn h.1).cx fun r aw=>aP.cx (aq v (by simp) r (aje v r aw)),Handed.args h.2 fun u hu=>aq u (by simp[hu])⟩
 |[],_::_,h,_=>h.elim
 |_::_,[],h,_=>h.elim
theorem Handed.raw:∀{vs:List V} {xs:List Value},fG tab O mem w S vs xs->(∀v∈vs,∀r∈v.nB,r∈seen)->fG tab (hY seen O) (cA (blks.map (bQ.cx (idx seen)))) w S (vs.map (V.cx (idx seen))) xs
 |[],[],_,_=>trivial
 |v::vs,x::xs,h,aq=>⟨h.1.cx fun r aw=>aP.cx (aq v (by simp) r aw),Handed.raw h.2 fun u hu=>aq u (by simp[hu])⟩
 |[],_::_,h,_=>h.elim
 |_::_,[],h,_=>h.elim

theorem Handed.pick{C:bd}{ins:List bQ}{vs:List V}{xs:List Value}(h:fG tab O mem w S vs xs)(aq:∀v∈vs,∀r∈v.nB,r∈seen):fG tab (hY seen O) (cA (blks.map (bQ.cx (idx seen)))) w S ((J6 C (idx seen) ins vs).map (V.cx (idx seen))) xs:=by
 unfold J6;split
 ·exact Handed.raw aP h aq
 ·exact Handed.args aP h aq
end

theorem XB{α:Type}:∀(l:List α) (i j:Nat),(jU i l)[j]? = (l[j]?).map fun a=>(i+j,a)
 |[],i,j=>by simp[jU]
 |a::l,i,0=>by simp[jU]
 |a::l,i,j+1=>by
  simp only[jU,List.getElem?_cons_succ,XB l (i+1) j];congr 1;funext a;congr 1;omega

theorem RZ:∀{m:Mem},(m.map (·.1)).Nodup->∀{j r:Nat} {B:bQ},m[j]? = some (r,B)->look m r=some B
 |[],_,j,r,B,h=>by simp at h
 |(q,b5)::m,aq,0,r,B,h=>by simp at h;obtain⟨rfl,rfl⟩:=h;simp[look,Nat.beq_refl]
 |(q,b5)::m,aq,j+1,r,B,h=>by
  simp only[List.getElem?_cons_succ]at h;simp only[List.map_cons,List.nodup_cons]at aq;have aw:r∈m.map (·.1):=List.mem_map.2 ⟨(r,B),List.mem_of_getElem? h,rfl⟩;have dz:r≠q:=fun e=>aq.1 (e▸aw)
  simp only[look,hr dz];exact RZ aq.2 h

theorem wF:∀{m:Mem} {r:Nat} {B:bQ},look m r=some B->∃j:Nat,m[j]? = some (r,B)
 |[],r,B,h=>by simp[look]at h
 |(q,b5)::m,r,B,h=>by
  by_cases e:r=q
  ·subst e;simp[look,Nat.beq_refl]at h;subst h;exact⟨0,rfl⟩
  ·simp only[look,hr e]at h;obtain⟨j,aR⟩:=wF h;exact⟨j+1,by simpa using aR⟩

structure kS(mem:dS)(seen:List Nat)(base:Nat)(n:Nat):Prop where
 nodup:seen.Nodup
 below:∀r∈seen,r<base
 le:seen.length<=n
 fresh:∀j,seen.length<=j->j<n->mem (base+(j-seen.length))=none

theorem yX{seen:List Nat}{base j r:Nat}(h:seen[j]? = some r):gC seen base j=r:=by simp[gC,h]
theorem uc{seen:List Nat}{base j:Nat}(h:seen.length<=j):gC seen base j=base+(j-seen.length):=by simp[gC,List.getElem?_eq_none h]

theorem kS.inj{seen:List Nat}{base n:Nat}(K:kS mem seen base n){i j:Nat}(h:gC seen base i=gC seen base j):i=j:=by
 by_cases hi:i<seen.length
 ·rw[yX (List.getElem?_eq_getElem hi)]at h
  by_cases aR:j<seen.length
  ·rw[yX (List.getElem?_eq_getElem aR)]at h;exact(List.getElem_inj K.nodup).1 h
  ·rw[uc (by omega)]at h;have:=K.below _ (List.getElem_mem hi);omega
 ·rw[uc (by omega)]at h
  by_cases aR:j<seen.length
  ·rw[yX (List.getElem?_eq_getElem aR)]at h;have:=K.below _ (List.getElem_mem aR);omega
  ·rw[uc (by omega)]at h;omega

theorem yZ(seen:List Nat)(base:Nat)(ar:List bQ)(j:Nat):(kd seen base ar)[j]? = (ar[j]?).map fun B=>(gC seen base j,B.cx (gC seen base)):=by
 simp only[kd,List.getElem?_map,XB];cases ar[j]?<;>simp

theorem kS.RT{seen:List Nat}{base:Nat}{ar:List bQ}(K:kS mem seen base ar.length){j:Nat}{B:bQ}(h:ar[j]? = some B):look (kd seen base ar) (gC seen base j)=some (B.cx (gC seen base)):=by
 have aq:((kd seen base ar).map (·.1)).Nodup:=by
  refine List.pairwise_iff_getElem.2 fun i j hi aR QP=>?_
  simp only[List.length_map]at hi aR;have I:=yZ seen base ar i;have G:=yZ seen base ar j;rw[List.getElem?_eq_getElem hi]at I;rw[List.getElem?_eq_getElem aR]at G;simp only[List.getElem_map];cases nQ:ar[i]? with
  |none=>rw[nQ]at I;cases I
  |some ga=>cases uA:ar[j]? with
   |none=>rw[uA]at G;cases G
   |some ih =>
    rw[nQ]at I;rw[uA]at G;rw[Option.some.inj I,Option.some.inj G];intro e;have:=K.inj e;omega
 exact RZ aq (j:=j) (by rw[yZ,h];rfl)

theorem kS.acA{seen:List Nat}{base:Nat}{ar:List bQ}{q:Nat}{b5:bQ}(h:look (kd seen base ar) q=some b5):∃j B,ar[j]? = some B/\q=gC seen base j/\b5=B.cx (gC seen base):=by
 obtain⟨j,aR⟩:=wF h;rw[yZ]at aR;cases aA:ar[j]? with
 |none=>rw[aA]at aR;cases aR
 |some B =>
  rw[aA]at aR;simp only[Option.map_some,Option.some.injEq,Prod.mk.injEq]at aR;exact⟨j,B,aA,aR.1.symm,aR.2.symm⟩

def qW(seen:List Nat)(base:Nat)(ar:List bQ)(O bU:dk):dk:=fun q =>
 match (List.range ar.length).find? fun j=>gC seen base j==q with
 |some j=>bU j
 |none=>O q

theorem kS.a8{seen:List Nat}{base:Nat}{ar:List bQ}(K:kS mem seen base ar.length){j:Nat}(h:j<ar.length):qW seen base ar O bU (gC seen base j)=bU j:=by
 unfold qW;cases b1:(List.range ar.length).find? fun i=>gC seen base i==gC seen base j with
 |none =>
  have:=List.find?_eq_none.1 b1 j (List.mem_range.2 h);simp at this
 |some i =>
  have:=List.find?_some b1;simp only[beq_iff_eq]at this;rw[K.inj this]

theorem kS.Al{seen:List Nat}{base:Nat}{ar:List bQ}{q:Nat}(h:∀j,j<ar.length->gC seen base j≠q):qW seen base ar O bU q=O q:=by
 unfold qW;have:(List.range ar.length).find? (fun i=>gC seen base i==q)=none:=by
  rw[List.find?_eq_none];intro j aR;simpa using h j (List.mem_range.1 aR)
 rw[this]
end
end bE
end Go.Proofs.YtlbppjmekiemiaaGreatDoor


/- The executor on data: calls, the whole. No condition. -/
namespace Go.Proofs.YtlbppjmekiemiaaGreatDoor
namespace bE
section
variable {P:Program} {tab:ci} {O bU jw gG:dk} {mem fl mem1 mem2:dS} {w w':World} {S S':Nat->Prop}

theorem agx{f g:Nat->Nat}{hd B:bQ}(h:iP (hd.cx f) B):iP hd (B.cx g):=by
 cases hd<;>cases B<;>simp_all[iP,bQ.cx]

theorem Hl{seen:List Nat}{blks ar:List bQ}{base:Nat}{v:V}{x:Value}(aD:Inv tab O mem w S)(aP:Handed mem seen blks)(K:kS mem seen base ar.length)
  (a5:Ext (hY seen O) (cA (blks.map (bQ.cx (idx seen)))) w S bU (cA ar) w' S') (hC:Inv tab bU (cA ar) w' S') (aQ:ch tab bU (cA ar) w' S' v x) :
  Ext O mem w S (qW seen base ar O bU) (cO (kd seen base ar) mem) w' S'/\Inv tab (qW seen base ar O bU) (cO (kd seen base ar) mem) w' S' /\
   ch tab (qW seen base ar O bU) (cO (kd seen base ar) mem) w' S' (v.cx (gC seen base)) x:=by
 have kl:∀j B,ar[j]? = some B->cO (kd seen base ar) mem (gC seen base j)=some (B.cx (gC seen base)):=fun j B h=>by
  simp only[cO,K.RT h]
 have rS:∀q,(∃j B,ar[j]? = some B/\q=gC seen base j)\/((∀j,j<ar.length->gC seen base j≠q)/\cO (kd seen base ar) mem q=mem q):=fun q=>by
  cases ax:look (kd seen base ar) q with
  |some b5=>obtain⟨j,B,I,G,_⟩:=kS.acA ax;exact .inl ⟨j,B,I,G⟩
  |none =>
   refine .inr ⟨fun j aR e=>?_,by simp only[cO,ax]⟩;have:=K.RT (List.getElem?_eq_getElem aR);rw[e,ax]at this;cases this
 have zS:∀j,re bU (cA ar) (qW seen base ar O bU) (cO (kd seen base ar) mem) (gC seen base) j:=fun j a6=>by
  obtain⟨B,bt⟩:=mZ a6;have fE:ar[j]? = some B:=bt;have aR:j<ar.length:=(List.getElem?_eq_some_iff.1 fE).1;refine⟨by rw[kl j B fE];exact(fun h=>by cases h),fun ih G bh=>?_⟩;rw[kl j B fE]at G;cases G;exact⟨B,bt,RP (nA.1 bh),K.a8 aR⟩
 have hold:∀j q,j<ar.length->q=gC seen base j->mem q≠none->seen[j]? = some q:=fun j q aR e aI=>by
  by_cases QR:j<seen.length
  ·rw[yX (List.getElem?_eq_getElem QR)]at e;rw[e];exact List.getElem?_eq_getElem QR
  ·rw[uc (by omega)]at e;exact absurd (K.fresh j (by omega) aR) (e▸aI)
 have ake:∀j r,seen[j]? = some r->Live mem r->Live (cA (blks.map (bQ.cx (idx seen)))) j:=fun j r aw ⟨B,bt,bh⟩=>by
  have:=aP.qV aw;rw[bt]at this;exact⟨_,this,nA.2 bh⟩
 have I2:∀b,q9 (hY seen O) (cA (blks.map (bQ.cx (idx seen)))) b->q9 O mem b:=fun b h=>by
  obtain⟨r,_,l,I,G,ab⟩:=aP.own h;exact⟨r,l,I,G,ab⟩
 have iz:Ext O mem w S (qW seen base ar O bU) (cO (kd seen base ar) mem) w' S':=by
  refine⟨fun q aI=>?_,fun q B B' h er=>?_,a5.sub,a5.size,fun b aA aq=>a5.heap b aA fun h=>aq (I2 b h),fun b h=>(a5.only b h).imp id (Or.imp id (I2 b)),fun b h=>?_,a5.os,a5.tape,a5.output⟩
  ·rcases rS q with⟨j,B,I,rfl⟩|⟨_,G⟩
   ·rw[kl j B I];exact(fun h=>by cases h)
   ·rw[G];exact aI
  ·rcases rS q with⟨j,b5,I,e⟩|⟨I,G⟩
   ·have aR:j<ar.length:=(List.getElem?_eq_some_iff.1 I).1;have av:=hold j q aR e (by rw[h];exact(fun h=>by cases h));have aB:=aP.qV av;rw[h]at aB;have ad:=a5.kinds j _ b5 aB I;rw[e,kl j b5 I]at er;cases er;refine⟨agx ad.1,fun ax=>?_⟩;obtain⟨pd,jE,bh⟩:=ax;rw[e,kl j b5 I]at jE;cases jE;rw[e,K.a8 aR,ad.2 ⟨b5,I,nA.1 bh⟩,<- e];simp[hY,av]
   ·rw[G,h]at er;cases er;exact⟨iP.refl _,fun _=>kS.Al I⟩
  ·obtain⟨q,l,ax,aB,aA⟩:=h;rcases rS q with⟨j,b5,I,rfl⟩|⟨I,G⟩
   ·have aR:j<ar.length:=(List.getElem?_eq_some_iff.1 I).1;obtain⟨pd,jE,bh⟩:=ax;rw[kl j b5 I]at jE;cases jE;rw[K.a8 aR]at aB;exact(a5.own b ⟨j,l,⟨b5,I,nA.1 bh⟩,aB,aA⟩).imp (I2 b) id
   ·rw[kS.Al I]at aB;refine .inl ⟨q,l,?_,aB,aA⟩;obtain⟨pd,jE,bh⟩:=ax;rw[G]at jE;exact⟨pd,jE,bh⟩
 have I9:∀q l b,(∀j,j<ar.length->gC seen base j≠q)->Live mem q->O q=some l->l.block=some b->¬q9 (hY seen O) (cA (blks.map (bQ.cx (idx seen)))) b:=fun q l b aI ax aB aA h=>by
  obtain⟨r,aw,l',I,G,ab⟩:=aP.own h;have dz:q≠r:=fun e=>by
   subst e;have:=Ii aw;have aR:idx seen q<seen.length:=(List.getElem?_eq_some_iff.1 this).1;exact aI (idx seen q) (Nat.lt_of_lt_of_le aR K.le) (yX this)
  exact aD.inj q r dz ax I l l' b aB G aA ab
 refine⟨iz,⟨fun q B bt bh=>?_,fun q fZ l1 a1 bf dV gT b aO aX aA gA=>?_,fun q a1 dV b aO aA dw=>?_,hC.lt,hC.pow⟩,aQ.cx fun r _=>zS r⟩
 ·rcases rS q with⟨j,b5,I,rfl⟩|⟨I,G⟩
  ·have aR:j<ar.length:=(List.getElem?_eq_some_iff.1 I).1;rw[kl j b5 I]at bt;cases bt;obtain⟨l,bK,bX⟩:=hC.rel j b5 I (nA.1 bh);exact⟨l,by rw[K.a8 aR];exact bK,bX.cx fun r _=>zS r⟩
  ·rw[G]at bt;obtain⟨l,bK,bX⟩:=aD.rel q B bt bh;refine⟨l,by rw[kS.Al I];exact bK,bX.ext iz aD fun b aA=>?_⟩;exact a5.heap b (aD.rk ⟨B,bt,bh⟩ bK aA) (I9 q l b I ⟨B,bt,bh⟩ bK aA)
 ·have key:∀q l b,Live (cO (kd seen base ar) mem) q->qW seen base ar O bU q=some l->l.block=some b ->
    (∃j,q=gC seen base j/\Live (cA ar) j/\bU j=some l)\/((∀j,j<ar.length->gC seen base j≠q)/\Live mem q/\O q=some l):=fun q l b ax aB aA=>by
   rcases rS q with⟨j,b5,I,rfl⟩|⟨I,G⟩
   ·have aR:j<ar.length:=(List.getElem?_eq_some_iff.1 I).1;obtain⟨pd,jE,bh⟩:=ax;rw[kl j b5 I]at jE;cases jE;rw[K.a8 aR]at aB;exact .inl ⟨j,rfl,⟨b5,I,nA.1 bh⟩,aB⟩
   ·rw[kS.Al I]at aB;obtain⟨pd,jE,bh⟩:=ax;rw[G]at jE;exact .inr ⟨I,⟨pd,jE,bh⟩,aB⟩
  have mixed:∀j dV cE gT,Live (cA ar) j->bU j=some dV->dV.block=some b->(∀j,j<ar.length->gC seen base j≠cE)->Live mem cE->O cE=some gT->gT.block=some b->False:=fun j dV cE gT bK bX dh eW hX jr lv=>by
   rcases a5.own b ⟨j,dV,bK,bX,dh⟩with h|h
   ·exact I9 cE gT b eW hX jr lv h
   ·have:=aD.rk hX jr lv;omega
  rcases key q dV b a1 aO aA with⟨j,rfl,bK,bX⟩|⟨bK,bX,dh⟩
  ·rcases key fZ gT b bf aX gA with⟨Dj,rfl,wW,uW⟩|⟨wW,uW,Jm⟩
   ·exact hC.inj j Dj (fun e=>l1 (by rw[e])) bK wW dV gT b bX uW aA gA
   ·exact mixed j dV fZ gT bK bX aA wW uW Jm gA
  ·rcases key fZ gT b bf aX gA with⟨Dj,rfl,wW,uW⟩|⟨wW,uW,Jm⟩
   ·exact mixed Dj gT q dV wW uW gA bK bX dh aA
   ·exact aD.inj q fZ l1 bX uW dV gT b dh Jm aA gA
 ·rcases rS q with⟨j,b5,I,rfl⟩|⟨I,G⟩
  ·have aR:j<ar.length:=(List.getElem?_eq_some_iff.1 I).1;obtain⟨pd,jE,bh⟩:=a1;rw[kl j b5 I]at jE;cases jE;rw[K.a8 aR]at aO;exact hC.sep j ⟨b5,I,nA.1 bh⟩ dV b aO aA dw
  ·rw[kS.Al I]at aO;obtain⟨pd,jE,bh⟩:=a1;rw[G]at jE;rcases a5.only b dw with h|h|h
   ·exact aD.sep q ⟨pd,jE,bh⟩ dV b aO aA h
   ·have:=aD.rk ⟨pd,jE,bh⟩ aO aA;omega
   ·exact I9 q dV b I ⟨pd,jE,bh⟩ aO aA h

theorem Calls.runs{o : Oper}{a : Act}{f : Nat}{xs : Array Value}{fn : Func}{R : Value -> World -> Prop}(b1 : P.funcs[f]? = some fn)(aA : fn.body.isSome = true)(aq : (fn.name == "runtime.NumGoroutine") = false)
  {callee:Operand} {args:Array Operand} {ts:Array TypeId} (aY:o.op=.call { callee:=.value callee,args:=args,argTypes:=ts }) (cs:Array Value) (az:a.eval callee=.func (.func f) #[] cs) (aG:args.map a.eval++cs=xs)
  (h:Calls P f xs w fun e w'=>∃x,e=.returned x/\R x w'):dU P o a w R:=by
 intro K Q ad;unfold Oper.wp;have gR:(execOp a.eval o).run P w=.ok (.enter f xs) w:=by
  have Iv:¬fn.body=none:=by cases aaa:fn.body<;>simp[aaa]at aA |-
  have m6 : ¬fn.name = "runtime.NumGoroutine" := by simpa using aq
  subst aG;simp only[execOp,aY,resolve,az,Deferred.ofValue,Sem.run_bind,Sem.run_pure,Result.andThen_ok,invoke,callFunc];simp[program,Sem.run,b1];rw[if_neg m6,if_neg Iv]
 rw[gR];refine Calls.mono h fun e w' aw=>?_
 obtain⟨x,rfl,gY⟩:=aw;exact ad x w' gY

theorem Ti{seen:List Nat}:∀{args:List V},qk seen (args.flatMap V.names)=true->args.all V.Dv=true->∀v∈args,∀r∈v.nB,r∈seen:=by
 have key:∀l:List Nat,qk seen l=true->∀r∈l,r∈seen:=fun l=>by
  induction l with
  |nil=>intro _ r aw;simp at aw
  |cons q l dd =>
   intro h r aw;simp only[qk]at h;split at h
   ·rename_i aI;simp only[List.mem_cons]at aw;rcases aw with rfl|aw
    ·exact(u2 seen r).1 aI
    ·exact dd h r aw
   ·cases h
 intro args h bl v aQ r aw;have:r∈v.names:=by
  cases v with
  |an us=>have:=List.all_eq_true.1 bl _ aQ;cases this
  |one c=>exact aw
  |agg cs=>exact aw
 exact key _ h r (List.mem_flatMap.2 ⟨v,aQ,this⟩)

theorem NN{seen:List Nat}:∀{l:List Nat},qk seen l=true->∀r∈l,r∈seen:=by
 intro l
 induction l with
 |nil=>intro _ r aw;simp at aw
 |cons q l dd =>
  intro h r aw;simp only[qk]at h;split at h
  ·rename_i aI;simp only[List.mem_cons]at aw;rcases aw with rfl|aw
   ·exact(u2 seen r).1 aI
   ·exact dd h r aw
  ·cases h

theorem HC:∀{l:List Nat},distinct l=true->l.Nodup:=by
 intro l
 induction l with
 |nil=>intro _;exact List.nodup_nil
 |cons q l dd =>
  intro h;simp only[distinct]at h;split at h
  ·cases h
  ·rename_i aI;exact List.nodup_cons.2 ⟨Ai aI,dd h⟩

theorem BA{base:Nat}:∀{l:List Nat},ub base l=true->∀r∈l,r<base:=by
 intro l
 induction l with
 |nil=>intro _ r aw;simp at aw
 |cons q l dd =>
  intro h r aw;simp only[ub]at h;split at h
  ·cases h
  ·rename_i aI;simp only[List.mem_cons]at aw;rcases aw with rfl|aw
   ·cases hle:Nat.ble base r with
    |true=>rw[hle]at aI;cases aI
    |false =>
     have:¬base<=r:=fun h=>by rw[Nat.ble_eq_true_of_le h]at hle;cases hle
     omega
   ·exact dd h r aw

theorem Jo:∀{as ar:List bQ},tc as ar=true->as.length<=ar.length/\ar.length<=as.length+7
 |[],ar,h=>⟨by simp,by simpa using Nat.le_of_ble_eq_true h⟩
 |a::as,[],h=>by simp[tc]at h
 |a::as,b::ar,h=>by
  simp only[tc]at h;split at h
  ·have:=Jo h;simp;omega
  ·cases h

def vW(base:Nat)(mem:dS)(names:List Nat)(m:Mem):Prop:=∀r B,(r,B)∈m->(base<=r->mem r=none)/\(r<base->r∈names)

theorem Fm{seen:List Nat}{base:Nat}{ar:List bQ}{j:Nat}(h:j<ar.length):∃B,(gC seen base j,B)∈kd seen base ar:=by
 have:=yZ seen base ar j;rw[List.getElem?_eq_getElem h]at this;exact⟨_,List.mem_of_getElem? this⟩
end
end bE
end Go.Proofs.YtlbppjmekiemiaaGreatDoor


/- The executor on data: the operation 'call'. No condition. -/
namespace Go.Proofs.YtlbppjmekiemiaaGreatDoor
namespace bE
section
variable {P:Program} {tab:ci} {Γ:Ctx} {O bU jw gG:dk} {mem fl mem1 mem2:dS} {w w':World} {S S':Nat->Prop}

theorem Tu{base:Nat}{seen:List Nat}{args:List V}{ar:List bQ}(h:At base seen args ar=true) :
  seen.Nodup/\(∀r∈seen,r<base)/\(∀v∈args,∀r∈v.nB,r∈seen)/\∀B∈ar,∀r∈B.names,r∈seen:=by
 unfold At at h;split at h<;>try cases h
 rename_i I;split at h<;>try cases h
 rename_i G;split at h<;>try cases h
 rename_i ab;split at h<;>try cases h
 rename_i aV;exact⟨HC I,BA G,Ti ab aV,fun B bt r aw=>NN h r (List.mem_flatMap.2 ⟨B,bt,aw⟩)⟩

theorem Qy{ml:Mem}{names:List Nat}(aB:mem=look ml)(aq:names.Nodup)(az:∀B∈(ff ml names).map (·.2),∀r∈B.names,r∈names):Handed mem names ((ff ml names).map (·.2)):=by
 subst aB;refine⟨aq,by simp[ff],fun j r aw=>by simp[ff,aw],az⟩

theorem JI(ml:Mem)(names:List Nat):(ff ml names).map (·.1)=names:=by
 unfold ff;rw[List.map_map];exact(List.map_congr_left (fun _ _=>rfl)).trans (List.map_id names)

theorem CP{ns ms:List Nat}{c:C}{x:Value}(h:dC tab w (fX O mem S ns) c x)(av:∀r∈ns,r∈ms):dC tab w (fX O mem S ms) c x :=
 h.mono (fun _ h=>h.imp id fun⟨r,aw,h⟩=>⟨r,av r aw,h⟩) (fun _ _=>rfl)

theorem HB{lm:Mem}(aD:Inv tab O mem w S)(av:gi lm mem){N:List Nat}:∀{vs ds:List V} {ns:List Nat} {xs:List Value},fG tab O mem w S vs xs->qu tab lm vs=some (ds,ns)->(∀r∈ns,r∈N) ->
  ∀{fF:dk} {mem0:dS},fG tab fF mem0 w (fX O mem S N) ds xs
 |[],ds,ns,xs,h,bO,_,fF,mem0=>by
  simp only[qu]at bO;cases bO;cases xs with
  |nil=>trivial
  |cons x xs=>exact h.elim
 |v::vs,ds,ns,[],h,bO,_,_,_=>h.elim
 |v::vs,ds,ns,x::xs,h,bO,jF,fF,mem0=>by
  simp only[qu]at bO;split at bO<;>try cases bO
  rename_i eT ho us iX aQ oO;refine⟨?_,HB aD av h.2 oO (fun r aw=>jF r (by simp[aw]))⟩;cases v with
  |an us=>cases aQ
  |one c =>
   simp only[Option.map_eq_some_iff]at aQ;obtain⟨⟨d,Ao⟩,iV,bp⟩:=aQ;cases bp;have az:c≠.undef:=fun e=>by subst e;simp only[lE]at iV;cases iV
   have aG:x.oneCell'=true/\fv tab O mem w S c x:=by cases c<;>first|exact absurd rfl az|exact h.1
   obtain⟨_,aw⟩:=Et aD av aG iV;obtain⟨t,e,rfl⟩:=MF iV;exact⟨aG.1,CP aw fun r aw=>jF r (by simp[aw])⟩
  |agg cs =>
   simp only[Option.map_eq_some_iff]at aQ;obtain⟨⟨hH,Ao⟩,iV,bp⟩:=aQ;cases bp;obtain⟨ys,rfl,I,G⟩:=h.1;obtain⟨_,bX,dh⟩:=Eu aD av (fun i=>ys[i]?) G iV;refine⟨ys,rfl,by rw[I,bX],fun i d hi=>?_⟩;obtain⟨y,cC,cI,dA⟩:=dh i d hi;exact⟨y,cC,cI,(CP dA fun r aw=>jF r (by simp[aw])).AJ⟩

theorem MJ:∀{vs:List V} {xs:List Value},fG tab O mem w S vs xs->fG tab O mem w S (vs.map o6) xs
 |[],[],_=>trivial
 |_::_,_::_,h=>⟨Xn h.1,MJ h.2⟩
 |[],_::_,h=>h.elim
 |_::_,[],h=>h.elim

theorem Vr:∀{vs us:List V} {xs ys:List Value},fG tab O mem w S vs xs->fG tab O mem w S us ys->fG tab O mem w S (vs++us) (xs++ys)
 |[],_,[],_,_,h=>h
 |_::_,_,_::_,_,h,er=>⟨h.1,Vr h.2 er⟩
 |[],_,_::_,_,h,_=>h.elim
 |_::_,_,[],_,h,_=>h.elim

theorem Vt:∀{il:List Nat} {ys:List Value},ys.length=il.length->(∀(i r:Nat),il[i]? = some r->∃y,ys[i]? = some y/\ch tab O mem w S (.one (.ptr r 0)) y) ->
  fG tab O mem w S (il.map fun r=>.one (.ptr r 0)) ys
 |[],[],_,_=>trivial
 |[],_::_,h,_=>by simp at h
 |_::_,[],h,_=>by simp at h
 |r::il,y::ys,h,aw=>by
  obtain⟨sn,I,G⟩:=aw 0 r rfl;simp at I;subst I;exact⟨G,Vt (by simpa using h) fun i r hi=>by simpa using aw (i+1) r (by simpa using hi)⟩

theorem TJ{c:C}{y:Value}(az:c.plain=true)(h:fv tab jw mem1 w S c y):fv tab gG mem2 w' S' c y:=by
 cases c with
 |E t d=>cases t<;>first|(cases az;done)|(cases h;constructor)
 |any=>trivial
 |_=>cases az

theorem DJ{v:V}{x:Value}(ag:v.J7=true)(h:jX tab jw mem1 w S v x):jX tab gG mem2 w' S' v x:=by
 cases v with
 |one c=>exact⟨h.1,TJ ag h.2⟩
 |agg cs =>
  obtain⟨xs,e,I,G⟩:=h;refine⟨xs,e,I,fun i c hi=>?_⟩;obtain⟨y,cC,cI,dA⟩:=G i c hi;exact⟨y,cC,cI,TJ (List.all_eq_true.1 ag c (List.mem_of_getElem? hi)) dA⟩
 |an vs=>cases ag

theorem aer{v:V}{x:Value}(ag:v.plain=true)(h:ch tab jw mem1 w S v x):ch tab gG mem2 w' S' v x:=by
 cases v with
 |one c =>
  cases c with
  |E t d=>exact DJ (v:=.one (.E t d)) ag h
  |undef=>trivial
  |any=>exact DJ (v:=.one .any) ag h
  |_=>cases ag
 |agg cs=>exact DJ (v:=.agg cs) ag h
 |an vs =>
  obtain⟨xs,e,I,G⟩:=h;refine⟨xs,e,I,fun i u hi=>?_⟩;obtain⟨y,cC,cI⟩:=G i u hi;exact⟨y,cC,DJ (List.all_eq_true.1 ag u (List.mem_of_getElem? hi)) cI⟩

theorem LH{mf th:dS}(a5:Ext O mf w S bU th w' S')(aD:Inv tab O mf w S):∀{v:V} {x:Value},jX tab O mf w S v x->jX tab bU th w' S' v x
 |.one _,_,⟨I,G⟩=>⟨I,G.ext a5 aD⟩
 |.agg _,_,⟨xs,I,G,ab⟩=>⟨xs,I,G,fun i c az=>let ⟨y,cC,cI,dA⟩:=ab i c az;⟨y,cC,cI,dA.ext a5 aD⟩⟩
 |.an _,_,h=>h.elim

theorem yj{mf th:dS}(a5:Ext O mf w S bU th w' S')(aD:Inv tab O mf w S){v:V}{x:Value}(h:ch tab O mf w S v x):ch tab bU th w' S' v x:=by
 cases v with
 |one c=>cases c<;>first|trivial|exact LH (v:=.one _) a5 aD h
 |agg cs=>exact LH (v:=.agg cs) a5 aD h
 |an vs =>
  obtain⟨xs,I,G,ab⟩:=h;exact⟨xs,I,G,fun i v aQ=>let ⟨y,cC,cI⟩:=ab i v aQ;⟨y,cC,LH a5 aD cI⟩⟩

theorem JL{lm:Mem}(aD:Inv tab O mem w S)(av:gi lm mem){N:List Nat}:∀{vs:List V} {xs:List Value},fG tab O mem w S vs xs->(∀r∈(n1 tab lm vs).2,r∈N) ->
  fG tab O (cO (gP N) mem) w (fX O mem S N) (n1 tab lm vs).1 xs
 |[],[],_,_=>trivial
 |[],_::_,h,_=>h.elim
 |_::_,[],h,_=>h.elim
 |v::vs,x::xs,h,jF=>by
  obtain⟨a5,_⟩:=qT (ns:=N) aD;simp only[n1]at jF |-;split at jF
  ·rename_i eT ho aQ;refine⟨?_,JL aD av h.2 fun r aw=>jF r (by simp[aw])⟩;cases v with
   |an us=>cases aQ
   |one c =>
    simp only[Option.map_eq_some_iff]at aQ;obtain⟨⟨d,Ao⟩,iV,bp⟩:=aQ;cases bp;have az:c≠.undef:=fun e=>by subst e;simp only[lE]at iV;cases iV
    have aG:x.oneCell'=true/\fv tab O mem w S c x:=by cases c<;>first|exact absurd rfl az|exact h.1
    obtain⟨_,aw⟩:=Et aD av aG iV;obtain⟨t,e,rfl⟩:=MF iV;exact⟨aG.1,CP aw fun r aw=>jF r (by simp[aw])⟩
   |agg cs =>
    simp only[Option.map_eq_some_iff]at aQ;obtain⟨⟨hH,Ao⟩,iV,bp⟩:=aQ;cases bp;obtain⟨ys,rfl,I,G⟩:=h.1;obtain⟨_,bX,dh⟩:=Eu aD av (fun i=>ys[i]?) G iV;refine⟨ys,rfl,by rw[I,bX],fun i d hi=>?_⟩;obtain⟨y,cC,cI,dA⟩:=dh i d hi;exact⟨y,cC,cI,(CP dA fun r aw=>jF r (by simp[aw])).AJ⟩
  ·exact⟨yj a5 aD h.1,JL aD av h.2 jF⟩

theorem agH{ml:Mem}(aB:mem=look ml)(names:List Nat):gi (ff ml names) mem:=fun r B h ll=>by
 subst aB;obtain⟨j,aR⟩:=wF h;simp only[ff,List.getElem?_map,Option.map_eq_some_iff,Prod.mk.injEq]at aR;obtain⟨q,_,rfl,rfl⟩:=aR;cases aI:look ml q with
 |none=>rw[aI]at ll;exact ll.elim
 |some b5=>rfl

theorem adW{o:Oper}{a:Act}{callee:Operand}{args:Array Operand}{ts:Array TypeId}{f base:Nat}{cs:Array Value}{vs as:List V}{ml:Mem}{p:Option Prop}{v:V}{ar:List bQ}{C:bd}{fn:Func}(aB:mem=look ml)
  (aY : o.op = .call { callee := .value callee, args := args, argTypes := ts }) (s5 : jf P tab f C) (s0 : P.funcs[f]? = some fn) (s1 : fn.body.isSome = true) (s2 : (fn.name == "runtime.NumGoroutine") = false)
  (aD:Inv tab O mem w S) (eP:a.eval callee=.func (.func f) #[] cs) (qN:args.map a.eval++cs=(args.toList.map a.eval++cs.toList).toArray) {names:List Nat}
  (dN:Handed mem names ((ff ml names).map (·.2))->(∀v∈vs,∀r∈v.nB,r∈names)->fG tab (hY names O) (cA (((ff ml names).map (·.2)).map (bQ.cx (idx names)))) w S (as.map (V.cx (idx names))) (args.toList.map a.eval++cs.toList))
  (az:C (as.map (V.cx (idx names))) ((ff ml names).map fun p=>p.2.cx (idx names))=some (p,v,ar)) (ad:tc ((ff ml names).map fun p=>p.2.cx (idx names)) ar=true)
  (gg:At base names vs ((ff ml names).map (·.2))=true) (ag:under p True) (c8:∀r B,(r,B)∈kd names base ar->base<=r->mem r=none) :
  dU P o a w (ec tab O mem w S (kd names base ar) (v.cx (gC names base))):=by
 obtain⟨ho,iX,iY,n4⟩:=Tu gg;have aP:=Qy aB ho n4;have zO:=(Jo ad).1;rw[List.length_map,show(ff ml names).length=names.length by simp[ff]]at zO;have K:kS mem names base ar.length:=⟨ho,iX,by omega,fun j wM rM=>by
  obtain⟨B,bt⟩:=Fm (seen:=names) (base:=base) rM;rw[uc wM]at bt;exact c8 _ _ bt (by omega)⟩
 have IL:((ff ml names).map fun p=>p.2.cx (idx names))=((ff ml names).map (·.2)).map (bQ.cx (idx names)):=by rw[List.map_map];rfl
 rw[IL]at az;have uz:=s5 _ _ _ _ _ az ag w S (hY names O) _ (aP.inv aD) (dN aP iY);refine Calls.runs s0 s1 s2 aY cs eP rfl ?_;rw[qN];refine uz.mono fun e w' ⟨x,bU,S',I,G,ab,aV⟩=>⟨x,I,?_⟩
 obtain⟨bK,bX,dh⟩:=Hl aD aP K G ab aV;exact⟨_,S',bK,bX,dh⟩

theorem Cu{ns:List Nat}:∀{l:List Nat},∀r∈un ns l,r∈l/\r∉ns
 |[],_,h=>by cases h
 |q::l,r,h=>by
  simp only[un]at h;split at h
  ·obtain⟨I,G⟩:=Cu r h;exact⟨List.mem_cons_of_mem _ I,G⟩
  ·rename_i aI;rcases List.mem_cons.1 h with rfl|h
   ·exact⟨List.mem_cons_self,Ai aI⟩
   ·obtain⟨I,G⟩:=Cu r h;exact⟨List.mem_cons_of_mem _ I,G⟩

theorem acL{ml:Mem}{names seen:List Nat}(h:∀r∈seen,r∈names):ff (ff ml names) seen=ff ml seen:=by
 unfold ff;refine List.map_congr_left fun r aw=>?_
 have key:∀ns:List Nat,r∈ns->look (ns.map fun r=>(r,(look ml r).getD .dead)) r=some ((look ml r).getD .dead):=fun ns=>by
  induction ns with
  |nil=>intro h;cases h
  |cons q ns dd =>
   intro aB
   by_cases e:r=q
   ·subst e;simp[look,Nat.beq_refl]
   ·simp only[List.map_cons,look,hr e];exact dd ((List.mem_cons.1 aB).resolve_left e)
 rw[key names (h r aw)];simp

theorem acK{ml:Mem}{seen ns:List Nat}(h:∀r∈seen,r∉ns):ff (gP ns++ml) seen=ff ml seen:=by
 unfold ff;refine List.map_congr_left fun r aw=>?_
 rw[ng];rcases RW ns r with⟨I,_⟩|⟨_,G⟩
 ·exact absurd I (h r aw)
 ·rw[G]

theorem adY{o:Oper}{a:Act}{callee:Operand}{args:Array Operand}{ts:Array TypeId}{f base:Nat}{cs:Array Value}{us:List V}{ml:Mem}{p:Option Prop}{v:V}{m:Mem}{C:bd}{fn:Func}(aB:mem=look ml)
  (aY : o.op = .call { callee := .value callee, args := args, argTypes := ts }) (s5 : jf P tab f C) (s0 : P.funcs[f]? = some fn) (s1 : fn.body.isSome = true) (s2 : (fn.name == "runtime.NumGoroutine") = false)
  (aD:Inv tab O mem w S) (eP:a.eval callee=.func (.func f) #[] cs) (qN:args.map a.eval++cs=(args.toList.map a.eval++cs.toList).toArray) {names:List Nat}
  (sR:fG tab O mem w S us (args.toList.map a.eval++cs.toList))
  (h:Hk tab base (ff ml names) C (n1 tab (ff ml names) us).1 (n1 tab (ff ml names) us).2=some (p,v,m)) (ag:under p True) (c8:vW base mem names m) :
  dU P o a w (ec tab O mem w S m v):=by
 have I5:=JL aD (agH aB names) sR (fun r aw=>aw);generalize akg:(n1 tab (ff ml names) us).2=ns at h I5;generalize has:(n1 tab (ff ml names) us).1=as at h I5;unfold Hk at h;simp only at h;rw[JI,acL (seen:=un ns names) (fun r aw=>(Cu r aw).1)]at h;split at h<;>try cases h
 rename_i vc v0 ar az;split at h<;>try cases h
 rename_i ad gg zG;obtain⟨lK,hD⟩:=qT (ns:=ns) aD;have pN:cO (gP ns) mem=look (gP ns++ml):=by
  subst aB;funext r;rw[ng];rfl
 have uK:=acK (ml:=ml) (seen:=un ns names) (fun r aw=>(Cu r aw).2);rw[<- uK]at az ad gg;have kE:=adW (base:=base) (vs:=as) (as:=as) pN aY s5 s0 s1 s2 hD eP qN (fun aP iY=>Handed.raw aP I5 iY) az ad gg ag (fun r B bt aw=>by
  have pP:r∉ns:=fun lr=>by
   have:=BA zG _ lr;omega
  rcases n0 (mem:=mem) ns r with⟨I,_⟩|⟨_,G⟩
  ·exact absurd I pP
  ·rw[G];exact(c8 _ _ (List.mem_append_left _ bt)).1 aw)
 intro K Q jn;refine kE K Q fun x w' ⟨bU,S',I,G,ab⟩=>jn x w' ⟨bU,S',?_,?_,?_⟩
 ·rw[u1];exact lK.trans I
 ·rw[u1];exact G
 ·rw[u1];exact ab

theorem adX{o:Oper}{a:Act}{callee:Operand}{args:Array Operand}{ts:Array TypeId}{f base:Nat}{ex:List V}{cs:Array Value}{vs:List V}{ml:Mem}{p:Option Prop}{v:V}{m:Mem}(ls:Sound P tab Γ)(aB:mem=look ml)
  (aY:o.op=.call { callee:=.value callee,args:=args,argTypes:=ts }) (aD:Inv tab O mem w S) (eP:a.eval callee=.func (.func f) #[] cs) (hex:fG tab O mem w S ex cs.toList) (bh:fG tab O mem w S vs (args.toList.map a.eval))
  {names:List Nat} (h:Cj Γ tab base (ff ml names) f (vs++ex)=some (p,v,m)) (ag:under p True) (c8:vW base mem names m) :
  dU P o a w (ec tab O mem w S m v):=by
 have abH:gi (ff ml names) mem:=fun r B h ll=>by
  subst aB;obtain⟨j,aR⟩:=wF h;simp only[ff,List.getElem?_map,Option.map_eq_some_iff,Prod.mk.injEq]at aR;obtain⟨q,_,rfl,rfl⟩:=aR;cases aI:look ml q with
  |none=>rw[aI]at ll;exact ll.elim
  |some b5=>rfl
 have sR:fG tab O mem w S (vs++ex) (args.toList.map a.eval++cs.toList):=Vr bh hex;have qN:args.map a.eval++cs=(args.toList.map a.eval++cs.toList).toArray:=by
  apply Array.ext';simp
 unfold Cj at h;split at h
 ·cases h
 rename_i C ev;obtain⟨s5,fn,s0,s1,s2⟩:=ls f C ev;simp only at h;split at h
 ·rename_i vc v0 ar az;split at h<;>try cases h
  rename_i ad gg;rw[JI]at az gg c8 |-;obtain⟨ho,iX,iY,n4⟩:=Tu gg;have aP:=Qy aB ho n4;have zO:=(Jo ad).1;rw[List.length_map,show(ff ml names).length=names.length by simp[ff]]at zO;have K:kS mem names base ar.length:=⟨ho,iX,by omega,fun j wM rM=>by
   obtain⟨B,bt⟩:=Fm (seen:=names) (base:=base) rM;rw[uc wM]at bt;exact(c8 _ _ bt).1 (by omega)⟩
  have IL:((ff ml names).map fun p=>p.2.cx (idx names))=((ff ml names).map (·.2)).map (bQ.cx (idx names)):=by rw[List.map_map];rfl
  rw[IL]at az;have uz:=s5 _ _ _ _ _ az ag w S (hY names O) _ (aP.inv aD) (aP.pick sR iY);refine Calls.runs s0 s1 s2 aY cs eP rfl ?_;rw[qN];refine uz.mono fun e w' ⟨x,bU,S',I,G,ab,aV⟩=>⟨x,I,?_⟩
  obtain⟨bK,bX,dh⟩:=Hl aD aP K G ab aV;exact⟨_,S',bK,bX,dh⟩
 ·rename_i az;split at h
  ·exact adY (us:=(vs++ex).map o6) aB aY s5 s0 s1 s2 aD eP qN (MJ sR) h ag c8
  rename_i ds ns sZ;split at h<;>try cases h
  rename_i vc v0 ar iU;have oo:Inv tab (fun _=>none) (cA []) w (fX O mem S ns):=by
   obtain⟨_,NG⟩:=qT (ns:=ns) aD;exact⟨fun r B h=>by simp[cA]at h,fun r fo _ ⟨B,h,_⟩=>by simp[cA]at h,fun r ⟨B,h,_⟩=>by simp[cA]at h,NG.lt,NG.pow⟩
  have dN:=HB (N:=ns) aD abH (MJ sR) sZ (fun r aw=>aw) (fF:=fun _=>none) (mem0:=cA []);split at h
  ·rename_i iW;cases h;have uz:=s5 _ _ _ _ _ iU ag w (fX O mem S ns) (fun _=>none) _ oo dN;refine Calls.runs s0 s1 s2 aY cs eP rfl ?_;rw[qN];refine uz.mono fun e w' ⟨x,bU,S',I,a5,hC,aV⟩=>⟨x,I,?_⟩
   have kF:∀b,b<w.heap.size->w'.heap[b]? = w.heap[b]?:=fun b aA=>a5.heap b aA fun⟨r,l,⟨B,bt,_⟩,_⟩=>by simp[cA]at bt
   have em:Ext O mem w S O mem w' S:=⟨fun _ h=>h,(Ext.refl (O:=O) (mem:=mem) (w:=w) (S:=S)).kinds,fun _ h=>h,a5.size,fun b aA _=>kF b aA,fun _ h=>.inl h,fun _ h=>.inl h,a5.os,a5.tape,a5.output⟩
   refine⟨O,S,em,⟨fun q B bt ll=>?_,aD.inj,aD.sep,fun b aA=>Nat.lt_of_lt_of_le (aD.lt b aA) a5.size,aD.w9 em⟩,aer iW aV⟩;obtain⟨l,bK,bX⟩:=aD.rel q B bt ll;exact⟨l,bK,bX.ext em aD fun b aA=>kF b (aD.rk ⟨B,bt,ll⟩ bK aA)⟩
  ·split at h<;>try cases h
   rename_i ad zG;obtain⟨lK,hD⟩:=qT (ns:=ns) aD;have aP:Handed (cO (gP ns) mem) [] []:=⟨List.nodup_nil,rfl,fun j r h=>by simp at h,fun B bt=>by simp at bt⟩
   have IX:hY [] O=fun _=>none:=by funext j;simp[hY]
   have K:kS (cO (gP ns) mem) [] base _:=⟨List.nodup_nil,fun r aw=>by simp at aw,Nat.zero_le _,fun j wM rM=>by
    obtain⟨B,bt⟩:=Fm (seen:=[]) (base:=base) rM;rw[uc wM]at bt;have pP:base+(j-([]:List Nat).length)∉ns:=fun lr=>by
     have:=BA zG _ lr;omega
    rcases n0 (mem:=mem) ns (base+(j-([]:List Nat).length))with⟨I,_⟩|⟨_,G⟩
    ·exact absurd I pP
    ·rw[G];exact(c8 _ _ (List.mem_append_left _ bt)).1 (by omega)⟩
   have uz:=s5 _ _ _ _ _ iU ag w (fX O mem S ns) (fun _=>none) _ oo dN;refine Calls.runs s0 s1 s2 aY cs eP rfl ?_;rw[qN];refine uz.mono fun e w' ⟨x,bU,S',I,G,ab,aV⟩=>⟨x,I,?_⟩
   obtain⟨bK,bX,dh⟩:=Hl (O:=O) (blks:=[]) hD aP K (by rw[IX];exact G) ab aV;exact⟨_,S',by rw[u1];exact lK.trans bK,by rw[u1];exact bX,by rw[u1];exact dh⟩

theorem adV{o:Oper}{a:Act}{callee:Operand}{args:Array Operand}{ts:Array TypeId}{f base:Nat}{il:List Nat}{vs:List V}{ml:Mem}{p:Option Prop}{v:V}{m:Mem}(ls:Sound P tab Γ)(aB:mem=look ml)
  (aY:o.op=.call { callee:=.value callee,args:=args,argTypes:=ts }) (aD:Inv tab O mem w S) (b1:ch tab O mem w S (.one (.fn f il)) (a.eval callee)) (bh:fG tab O mem w S vs (args.toList.map a.eval))
  {names:List Nat} (h:Cj Γ tab base (ff ml names) f (vs++il.map fun r=>.one (.ptr r 0))=some (p,v,m)) (ag:under p True) (c8:vW base mem names m) :
  dU P o a w (ec tab O mem w S m v):=by
 obtain⟨_,hcap,cs,eP,fs,el⟩:=b1;refine adX ls aB aY aD eP (Vt (by simpa using fs) fun i r hi=>?_) bh h ag c8;obtain⟨y,cC,cI,dA⟩:=el i r hi;exact⟨y,by simpa using cC,cI,hcap r (List.mem_of_getElem? hi),dA⟩

theorem adZ{o:Oper}{a:Act}{callee x:Operand}{ts:Array TypeId}{d:Option Int}{n:Int}(bH:fp P tab)(cb:tab.w=true)
  (aY:o.op=.call { callee:=.value callee,args:=#[x],argTypes:=ts }) (aD:Inv tab O mem w S) (b1:ch tab O mem w S (.one (.E .kC d)) (a.eval callee)) (aG:ch tab O mem w S (.one (.E .int n)) (a.eval x)) :
  dU P o a w (ec tab O mem w S [] (.one (.E .int (oI d n)))):=by
 obtain⟨⟨e7,fg,ft,hx⟩,⟨a1,cJ,cE,ey⟩,afN,gm⟩:=bH.kC cb;have ex:=k9 aG;obtain⟨_,b1⟩:=b1;generalize aQ:a.eval callee=v at b1;cases b1 with
 |CM =>
  refine Calls.runs fg ft hx aY #[] aQ rfl ?_;rw[show #[x].map a.eval++#[]=#[.int .i64 n]by simp[ex]];exact(afN n w).mono fun e w' ⟨I,G⟩=>⟨_,I,by rw[G];exact gy aD (oT _)⟩
 |CN m b cur e sM dw aA az =>
  refine Calls.runs cJ cE ey aY _ aQ rfl ?_;rw[show #[x].map a.eval++#[Value.pointer (some (b6 b 0))]=#[.int .i64 n,.pointer (some (b6 b 0))]by simp[ex]];exact(gm n m b w (cell?_at aA az)).mono fun e w' ⟨I,G⟩=>⟨_,I,by rw[G];exact gy aD (oT _)⟩
end
end bE
end Go.Proofs.YtlbppjmekiemiaaGreatDoor


/- The executor on data: one operation, whichever it is. No condition. -/
namespace Go.Proofs.YtlbppjmekiemiaaGreatDoor
namespace bE
section
variable {P:Program} {tab:ci} {Γ:Ctx} {O bU:dk} {mem fl:dS} {w w':World} {S S':Nat->Prop}

theorem agG{ml:Mem}{names:List Nat}(aB:mem=look ml):gi (ff ml names) mem:=fun r B h ll=>by
 subst aB;obtain⟨j,aR⟩:=wF h;simp only[ff,List.getElem?_map,Option.map_eq_some_iff,Prod.mk.injEq]at aR;obtain⟨q,_,rfl,rfl⟩:=aR;cases aI:look ml q with
 |none=>rw[aI]at ll;exact ll.elim
 |some b5=>rfl

theorem J5:∀(ts:List Nat) (os:List Operand),(pairUp ts os).map (·.2)=os
 |t::ts,o::os=>by simp[pairUp,J5 ts os]
 |[],o::os=>by simp[pairUp,J5 [] os]
 |[],[]=>rfl
 |_::_,[]=>rfl

theorem tq(a:Act)(ts:List Nat)(os:List Operand):(pairUp ts os).map (fun p=>a.eval p.2)=os.map a.eval:=by
 have:=congrArg (List.map a.eval) (J5 ts os);rw[<- this,List.map_map];rfl

theorem TN{r o:Nat}{cs:List C}{x:Value}{lm:Mem}(av:gi lm mem)(aD:Inv tab O mem w S)(h:look lm r=some (.box cs))(aG:ch tab O mem w S (.one (.ptr r o)) x) :
  ∃b k,x=.pointer (some (b6 b k)):=by
 obtain⟨b,vs,e,I,_⟩:=AQ av aD h aG;exact⟨b,o,I⟩

theorem TD{r i k:Nat}{t:z}{l:List t.den}{x:Value}{lm:Mem}(av:gi lm mem)(aD:Inv tab O mem w S)(h:look lm r=some (.arr t l))(aG:ch tab O mem w S (.one (.j6 r i k)) x) :
  ∃b k,x=.pointer (some (b6 b k)):=by
 obtain⟨b,cap,cur,e,I,_⟩:=LQ av aD h aG;exact⟨b,_,I⟩

theorem PN{t:z}{l:List t.den}{i k:Nat}{x:Value}(aG:ch tab O mem w S (.one (.lS t l i k)) x):∃b k,x=.pointer (some (b6 b k)):=by
 obtain⟨_,b,off,_,I⟩:=aG;exact⟨b,_,I⟩

theorem TO:∀{vs:List V} {rs:List Nat} {ops:List Operand} {a:Act},Az vs=some rs->fG tab O mem w S vs (ops.map a.eval) ->
  ops.length=rs.length/\∀(i r:Nat),rs[i]? = some r->∃x,ops[i]? = some x/\ch tab O mem w S (.one (.ptr r 0)) (a.eval x)
 |[],rs,[],a,h,aQ=>by simp[Az]at h;subst h;simp
 |[],rs,_::_,a,h,aQ=>aQ.elim
 |v::vs,rs,[],a,h,aQ=>aQ.elim
 |v::vs,rs,x::ops,a,h,aQ=>by
  unfold Az at h;split at h<;>try cases h
  ·rename_i bp;cases bp
  ·rename_i r rest bp;cases bp;split at h<;>try cases h
   rename_i akz aw;obtain⟨I,G⟩:=TO aw aQ.2;refine⟨by simp[I],fun i q aI=>?_⟩;cases i with
   |zero=>simp at aI;subst aI;exact⟨x,rfl,aQ.1⟩
   |succ i=>simp at aI |-; exact G i q aI

theorem agz{x y:Operand}(h:LO x y=true):x=y:=by
 cases x<;>cases y<;>simp[LO]at h;subst h;rfl

theorem Yn{ts:List Nat}{aK:c7}(h:(ts.head?).bind (dO tab)=some aK):∃T,ts.head? = some T/\dO tab T=some aK:=by
 cases ts with
 |nil=>cases h
 |cons T ts=>exact⟨T,rfl,h⟩

theorem Cx{aK:c7}{t:z}(h:aK.elem=some t):aK.isSlice t=true:=by
 unfold c7.elem at h;unfold c7.isSlice;split at h<;>try cases h
 simp

theorem Fg{args:Array Operand}{a:Act}{v:V}(h:fG tab O mem w S [v] (args.toList.map a.eval)):∃x,args=#[x]/\ch tab O mem w S v (a.eval x):=by
 obtain⟨l⟩:=args;cases l with
 |nil=>exact h.elim
 |cons x l=>cases l with
  |nil=>exact⟨x,rfl,h.1⟩
  |cons y l=>exact h.2.elim

theorem BE{args:Array Operand}{a:Act}{v u:V}(h:fG tab O mem w S [v,u] (args.toList.map a.eval)):∃x y,args=#[x,y]/\ch tab O mem w S v (a.eval x)/\ch tab O mem w S u (a.eval y):=by
 obtain⟨l⟩:=args;cases l with
 |nil=>exact h.elim
 |cons x l=>cases l with
  |nil=>exact h.2.elim
  |cons y l=>cases l with
   |nil=>exact⟨x,y,rfl,h.1,h.2.1⟩
   |cons bg l=>exact h.2.2.elim

theorem X2{aK:c7}{base bytes:Nat}{lm:Mem}{c d:C}{p:Option Prop}{v:V}{m:Mem}(h:yS aK base bytes lm c d=some (p,v,m)):∃B,(base,B)∈m:=by
 unfold yS at h
 repeat' split at h
 all_goals (try cases h)
 all_goals first
  |exact⟨_,List.mem_cons_self ..⟩
  |exact⟨_,List.mem_cons_of_mem _ (List.mem_cons_self ..)⟩

theorem X3{aK:c7}{base bytes q:Nat}{lm:Mem}{c:C}{p:Option Prop}{v:V}{m:Mem}(h:yT aK base bytes lm c q=some (p,v,m)):∃B,(base,B)∈m:=by
 unfold yT at h
 repeat' split at h
 all_goals (try cases h)
 all_goals exact⟨_,List.mem_cons_of_mem _ (List.mem_cons_of_mem _ (List.mem_cons_self ..))⟩

theorem JY{lo:Option Operand}{vs EE:List V}{l:Option Int}{a:Act}{xs:List Value}(h:w7 lo vs=some (l,EE))(aw:fG tab O mem w S vs (lo.toList.map a.eval++xs)) :
  lo.map a.eval=ko l/\fG tab O mem w S EE xs:=by
 cases lo with
 |none=>simp only[w7]at h;cases h;exact⟨rfl,aw⟩
 |some op =>
  simp only[w7]at h;split at h<;>try cases h
  obtain⟨I,G⟩:=aw;exact⟨by simp[ko,k9 I],G⟩

theorem adN{o:Oper}{a:Act}{x y:Operand}{op:BinOp}{t ez:TypeId}{u v:V}{p:Option Prop}{bg:V}{m:Mem}(bH:fp P tab)(aY:o.op=.binOp op t x y ez)(aD:Inv tab O mem w S)
  (aG:ch tab O mem w S u (a.eval x)) (ct:ch tab O mem w S v (a.eval y)) (h:y0 tab op t u v=some (p,bg,m)) (ag:under p True) :
  dU P o a w (ec tab O mem w S m bg):=by
 have a6:=h;unfold y0 at h;split at h
 ·split at h<;>try cases h
  rename_i hi;exact adO aY aD aG ct hi ag
 ·split at h<;>try cases h
  rename_i bl;simp only[Option.map_eq_some_iff]at bl;obtain⟨aK,I,G⟩:=bl;split at h<;>try cases h
  ·exact Ty bH aY I G aD aG ct (.inl ⟨rfl,rfl⟩)
  ·exact Ty bH aY I G aD aG ct (.inr ⟨rfl,rfl⟩)
 ·split at h<;>try cases h
  exact adQ aY aD aG ct
 ·exact adP aY aD aG ct a6 ag
 ·split at h<;>try cases h
  rename_i aB aw oQ;split at h<;>try cases h
  rename_i aI;split at h<;>try cases h
  ·exact Tx bH aY aB oQ aI aD aG ct aw (.inl ⟨rfl,rfl⟩)
  ·exact Tx bH aY aB oQ aI aD aG ct aw (.inr ⟨rfl,rfl⟩)
 ·cases h

theorem Tz{o:Oper}{a:Act}{x:Operand}{c:Value}{op:BinOp}{t ez:TypeId}{aK:c7}{b:Bool}{v:V}(bH:fp P tab)(aY:o.op=.binOp op t x (.const c) ez)(bl:dO tab t=some aK)(ad:aK.isIface=true)(aD:Inv tab O mem w S)
  (aG:ch tab O mem w S (.one (.E .err b)) (a.eval x)) (ct:ch tab O mem w S (.one (.E .err true)) (a.eval (.const c)))
  (h:(op=.eql/\v=.one (.E .bool b))\/(op=.neq/\v=.one (.E .bool (!b)))) :
  dU P o a w (ec tab O mem w S [] v):=by
 obtain⟨ms,hu⟩:∃ms,P.underlying t=some (.interface ms):=by
  have jH:=(bH.ok t aK bl).kind;unfold c7.isIface at ad;split at ad
  ·rename_i e;rw[e]at jH;exact jH
  ·cases ad
 have eB:a.eval (.const c)=.nilIface:=by
  obtain⟨bg,dR⟩:∃bg,a.eval (.const c)=bg:=⟨_,rfl⟩
  rw[dR]at ct |-;have G:dC tab w S (.E .err true) bg:=ct.2;cases G;rfl
 have ex:(b=true/\a.eval x=.nilIface)\/(b=false/\∃qb u,a.eval x=.iface qb u):=by
  obtain⟨bg,dR⟩:∃bg,a.eval x=bg:=⟨_,rfl⟩
  rw[dR]at aG |-;have G:dC tab w S (.E .err b) bg:=aG.2;cases G with
  |CB=>exact .inl ⟨rfl,rfl⟩
  |HR qb u=>exact .inr ⟨rfl,qb,u,rfl⟩
 have ack:∀d,(Op.equalIn (d+1) t .nilIface .nilIface).run P w=.ok true w:=fun d=>by simp[Op.equalIn,run_underlying hu]
 have acm:∀d qb u,(Op.equalIn (d+1) t (.iface qb u) .nilIface).run P w=.ok false w:=fun d qb u=>by simp[Op.equalIn,run_underlying hu]
 have eq:(Op.equal t (a.eval x) .nilIface).run P w=.ok b w:=by
  rcases ex with⟨aO,aX⟩|⟨aO,qb,u,aX⟩
  ·rw[aO,aX];exact ack 9999
  ·rw[aO,aX];exact acm 9999 qb u
 have ZK:(eqGuard op t x (.const c) (a.eval x) .nilIface).run P w=.ok () w:=by
  unfold eqGuard;rcases ex with⟨_,aX⟩|⟨_,qb,u,aX⟩<;>rw[aX]<;>cases op<;>cases x<;>rfl
 have fin:∀bg:Value,ch tab O mem w S v bg->(binOp op t (a.eval x) .nilIface).run P w=.ok bg w->dU P o a w (ec tab O mem w S [] v):=fun bg dR aw=>by
  refine lb (s:=do eqGuard op t x (.const c) (a.eval x) (a.eval (.const c));binOp op t (a.eval x) (a.eval (.const c))) (x:=bg) (w':=w) (by simp only[execOp,aY]) ?_ (gy aD dR);rw[eB,Sem.run_bind,ZK];exact aw
 rcases h with⟨rfl,rfl⟩|⟨rfl,rfl⟩
 ·refine fin (.bool b) (nh _) ?_;have:binOp .eql t (a.eval x) .nilIface=(do pure (.bool (<- Op.equal t (a.eval x) .nilIface)):Sem Value):=by
   rcases ex with⟨_,aX⟩|⟨_,qb,u,aX⟩<;>rw[aX]<;>rfl
  rw[this,Sem.run_bind,eq];rfl
 ·refine fin (.bool (!b)) (nh _) ?_;have:binOp .neq t (a.eval x) .nilIface=(do pure (.bool (!(<- Op.equal t (a.eval x) .nilIface))):Sem Value):=by
   rcases ex with⟨_,aX⟩|⟨_,qb,u,aX⟩<;>rw[aX]<;>rfl
  rw[this,Sem.run_bind,eq];rfl
theorem adJ{o:Oper}{a:Act}{base:Nat}{vs:List V}{ml:Mem}{names:List Nat}{p:Option Prop}{v:V}{m:Mem}(bH:fp P tab)(ls:Sound P tab Γ)(aB:mem=look ml)
  (aD:Inv tab O mem w S) (aQ:fG tab O mem w S vs ((operands o).map fun p=>a.eval p.2)) (h:Av Γ tab base o vs (ff ml names)=some (p,v,m)) (ag:under p True) (c8:vW base mem names m) :
  dU P o a w (ec tab O mem w S m v):=by
 have av:gi (ff ml names) mem:=agG aB;have sU:∀B,(base,B)∈m->mem base=none:=fun B bt=>(c8 _ _ bt).1 (Nat.le_refl _)
 unfold Av at h;split at h
 all_goals (rename_i aY;try simp only[operands,aY]at aQ)
 ·cases h;exact TA (.inl aY) aD aQ.1
 ·cases h;exact TA (.inr aY) aD aQ.1
 ·rename_i c gh jc;cases h;cases c with
  |true=>exact TB (b:=true) aY aD aQ.1 aQ.2.1 aQ.2.2.1
  |false=>exact TB (b:=false) aY aD aQ.1 aQ.2.1 aQ.2.2.1
 ·split at h<;>try cases h
  rename_i bl;exact adK bH aY bl aD (sU _ (List.mem_singleton.2 rfl))
 ·split at h<;>try cases h
  rename_i bl az;split at h<;>try cases h
  exact adR aY aQ.1 az aD (sU _ (List.mem_singleton.2 rfl))
 ·split at h<;>try cases h
  rename_i bl;split at h<;>try cases h
  rename_i ad;split at h<;>try cases h
  rename_i b1;split at h<;>try cases h
  rename_i iW;exact adS bH aY bl ad aD (by simpa[List.map_map,Function.comp_def]using aQ) b1 iW
 ·split at h<;>try cases h
  rename_i bl;split at h<;>try cases h
  rename_i ad;split at h
  ·rename_i aj9 zK;split at h<;>try cases h
   rename_i cs el;split at h<;>try cases h
   rename_i aaV wO ;exact adT bH aY zK bl (Cx ad) aD (by simpa[List.map_map,Function.comp_def]using aQ) el (Nat.eq_of_beq_eq_true aaV) (Nat.le_of_ble_eq_true wO) (sU _ (List.mem_singleton.2 rfl))
  split at h<;>try cases h
  rename_i az bp;split at h<;>try cases h
  rename_i IW;split at az<;>try cases az
  rename_i aq;refine adU bH aY bl (Cx ad) aD av (by simpa[List.map_map,Function.comp_def]using aQ) bp (Nat.le_of_ble_eq_true aq) ?_ (sU _ (List.mem_cons_self ..)) (Ai IW);split at az
  ·rename_i aI;exact .inl (Nat.eq_of_beq_eq_true aI).symm
  ·exact .inr az
 ·split at h<;>try cases h
  rename_i bl;exact aea bH aY bl aD av aQ.1 h ag
 ·split at h<;>try cases h
  rename_i bl;exact aem bH aY bl aD av aQ.1 aQ.2.1 h ag
 ·split at h<;>try cases h
  rename_i aA;obtain⟨b,k,ad⟩:=TN av aD aA aQ.1;exact DF aY aD aQ.1 ⟨_,ad⟩
 ·split at h<;>try cases h
  rename_i aA;obtain⟨b,k,ad⟩:=TD av aD aA aQ.1;exact DF aY aD aQ.1 ⟨_,ad⟩
 ·split at h<;>try cases h
  rename_i aA;obtain⟨b,cap,cur,e,ad,_⟩:=BH av aD aA aQ.1;exact DF aY aD aQ.1 ⟨_,ad⟩
 ·cases h;obtain⟨b,k,ad⟩:=PN aQ.1;exact DF aY aD aQ.1 ⟨_,ad⟩
 ·cases h;exact aej aY aD aQ.1
 ·split at h<;>try cases h
  all_goals
   rename_i I;simp only[Option.map_eq_some_iff]at I;obtain⟨aK,ab,aV⟩:=I
  ·exact Tz bH aY ab aV aD aQ.1 aQ.2.1 (.inl ⟨rfl,rfl⟩)
  ·exact Tz bH aY ab aV aD aQ.1 aQ.2.1 (.inr ⟨rfl,rfl⟩)
 ·exact adN bH aY aD aQ.1 aQ.2.1 h ag
 ·cases h;exact aek aY aD aQ.1
 ·cases h;exact aei aY aD aQ.1
 ·split at h<;>try cases h
  ·rename_i I G;simp only[Option.map_eq_some_iff]at I G;obtain⟨aK,ab,aV⟩:=I;obtain⟨ju,br,bV⟩:=G;exact ad3 bH aY ab aV br bV aD aQ.1
  ·rename_i I _;split at h<;>try cases h
   rename_i G;simp only[Option.map_eq_some_iff]at I G;obtain⟨aK,ab,aV⟩:=I;obtain⟨ju,br,bV⟩:=G;exact ad2 bH aY ab aV br bV aD aQ.1
 ·split at h<;>try cases h
  rename_i I G;simp only[Option.map_eq_some_iff]at I G;obtain⟨aK,ab,aV⟩:=I;obtain⟨ju,br,bV⟩:=G;exact ad1 bH aY ab aV br bV aD aQ.1
 ·split at h<;>try cases h
  rename_i aaF aw;rename_i c4 cs _ _ _;have aaG:c4=#[]:=Array.toList_eq_nil_iff.1 aaF;subst aaG;obtain⟨I,G⟩:=TO (ops:=cs.toList) aw (by simpa[Op.operands,List.map_map,Function.comp_def]using aQ);exact aec aY rfl aD (by simpa using I) (fun i r aw=>by simpa using G i r aw)
 ·split at h<;>try cases h
  rename_i uQ;split at h<;>try cases h
  rename_i bl;split at h<;>try cases h
  rename_i ad;split at h<;>try cases h
  rename_i b1;exact aee bH aY (by rw[agz uQ]) bl (Cx ad) b1 aD aQ.1 ag.1.1 ag.1.2.1 ag.1.2.2 (sU _ (List.mem_singleton.2 rfl))
 ·split at h<;>try cases h
  rename_i bl ax;split at h<;>try cases h
  rename_i dn;split at h<;>try cases h
  rename_i aa4;simp only[Op.operands,Array.toList_append,List.map_append,List.map_map,List.append_assoc,List.cons_append,List.nil_append,Option.toList_toArray,List.map_cons]at aQ;have cd:=aQ.1;have cR:=aQ.2;have e:∀l:List Operand,(l.map ((fun p:Nat×Operand=>a.eval p.2) ∘ fun x=>(0,x)))=l.map a.eval:=fun l=>rfl
  simp only[e]at cR;obtain⟨aO,ef⟩:=JY ax cR;obtain⟨aX,e1⟩:=JY dn ef;obtain⟨cY,g5⟩:=JY (xs:=[]) aa4 (by simpa using e1);exact ael bH aY bl aD av cd aO aX cY h ag
 ·split at h<;>try cases h
  rename_i bl;split at h<;>try cases h
  rename_i b1;split at b1<;>try cases b1
  rename_i ad;split at h<;>try cases h
  ·split at h<;>try cases h
   rename_i aA;exact DE bH aY bl ad b1 aD aQ.1 (.inl ⟨_,_,rfl,rfl⟩) (TN av aD aA aQ.1)
  ·split at h<;>try cases h
   rename_i aA;exact DE bH aY bl ad b1 aD aQ.1 (.inr (.inl ⟨_,_,_,rfl,rfl⟩)) (TD av aD aA aQ.1)
  ·split at h<;>try cases h
   rename_i aA;obtain⟨b,cap,cur,e,jH,_⟩:=BH av aD aA aQ.1;exact DE bH aY bl ad b1 aD aQ.1 (.inr (.inr (.inr ⟨_,_,rfl,rfl⟩))) ⟨_,_,jH⟩
  ·exact DE bH aY bl ad b1 aD aQ.1 (.inr (.inr (.inl ⟨_,_,_,_,rfl,rfl⟩))) (PN aQ.1)
 ·split at h<;>try cases h
  rename_i bl;exact ad8 bH aY bl aD av aQ.1 aQ.2.1 h ag
 ·split at h<;>try cases h
  rename_i bl;split at h<;>try cases h
  rename_i ad;split at h<;>try cases h
  rename_i G ab;exact ad7 bH aY bl ad aD aQ.1 aQ.2.1 ag.1.1 ag.1.2 (Nat.le_of_ble_eq_true G) (Nat.le_of_ble_eq_true ab)
 ·split at h<;>try cases h
  rename_i s3 oQ az;split at h<;>try cases h
  rename_i aI;exact ad6 bH aY s3 oQ aI az aD aQ.1
 ·split at h<;>try cases h
  rename_i ad;exact aed aY aD (sU _ (List.mem_singleton.2 rfl))
 ·split at h<;>try cases h
  rename_i ad qL;exact aef bH aY ad aD av aQ.1 aQ.2.1 aQ.2.2.1 qL
 ·split at h<;>try cases h
  rename_i ad qL;exact aeb bH aY ad aD av aQ.1 aQ.2.1 qL
 ·split at h<;>try cases h
  rename_i hu;exact ad5 aY aD aQ.1 hu
 ·split at h<;>try cases h
  rename_i bl;rw[tq]at aQ;obtain⟨x,rfl,aG⟩:=Fg aQ;obtain⟨T,I,G⟩:=Yn bl;exact ad9 bH aY I G aD av aG h
 ·split at h<;>try cases h
  rename_i nX;split at h<;>try cases h
  rename_i I G;split at h<;>try cases h
  rename_i ab;rw[tq]at aQ;obtain⟨x,y,rfl,aG,ct⟩:=BE aQ;have zU:=Array.toList_inj.1 (nX.trans (List.toList_toArray (as:=[_,_])).symm);rw[zU]at aY;split at h
  ·exact adM bH aY I G ab aD av (by
    obtain⟨B,bt⟩:=X3 h;exact sU B bt) aG ct h ag
  ·exact adL bH aY I G ab aD av (by
    obtain⟨B,bt⟩:=X2 h;exact sU B bt) aG ct h ag
 ·split at h<;>try cases h
  rename_i nX;split at h<;>try cases h
  rename_i I;rw[tq]at aQ;obtain⟨x,y,rfl,aG,ct⟩:=BE aQ;have zU:=Array.toList_inj.1 (nX.trans (List.toList_toArray (as:=[_,_])).symm);rw[zU]at aY;exact ad4 bH aY I aD av aG ct h ag
 ·split at h<;>try cases h
  rename_i nX;split at h<;>try cases h
  rename_i I;rw[tq]at aQ;obtain⟨x,rfl,aG⟩:=Fg aQ;have zU:=Array.toList_inj.1 (nX.trans (List.toList_toArray (as:=[_])).symm);rw[zU]at aY;exact ad0 bH aY I aD av aG h ag
 ·cases h;rw[tq]at aQ;obtain⟨x,y,rfl,aG,ct⟩:=BE aQ;exact aeh aY aD aG ct
 ·cases h;rw[tq]at aQ;obtain⟨x,y,rfl,aG,ct⟩:=BE aQ;exact aeg aY aD aG ct
 ·refine adV ls aB aY aD aQ.1 ?_ h ag c8;have:=aQ.2;rw[tq]at this;exact this
 ·split at h<;>try cases h
  rename_i cb;have:=aQ.2;rw[tq]at this;obtain⟨x,rfl,aG⟩:=Fg this;exact adZ bH cb aY aD aQ.1 aG
 ·cases h
end
end bE
end Go.Proofs.YtlbppjmekiemiaaGreatDoor


/- The executor on data: a state and a frame. No condition. -/
namespace Go.Proofs.YtlbppjmekiemiaaGreatDoor
namespace bE

structure fB(tab:ci)(N:Nat)(env:Env)(mem:Mem)(a:Act)(w:World)(O:dk)(S:Nat->Prop):Prop where
 size:a.tmps.size=N
 defers:a.defers=[]
 inv:Inv tab O (look mem) w S
 env:∀t v,look env t=some v->ch tab O (look mem) w S v (a.eval (.tmp t))/\(v=.one .undef->a.eval (.tmp t)=Go.undef)

def jd(n:Nat)(mem:Mem):Prop:=∀r,n<=r->look mem r=none

section
variable {P:Program} {tab:ci} {Γ:Ctx} {N:Nat} {O bU:dk} {env Cy:Env} {mem fl:Mem} {a:Act} {w w':World} {S S':Nat->Prop}

theorem YS{ty:Nat}{x:Value}{v:V}{mf:dS}(h:Cr tab ty x=some v):ch tab O mf w S v x:=by
 unfold Cr at h;split at h
 ·cases h;exact oT _
 ·cases h;exact Du _
 ·cases h;exact nh _
 ·cases h;simpa using Aj (tab:=tab) (O:=O) (mem:=mf) (w:=w) (S:=S) _
 ·cases h;exact⟨rfl,dC.CB⟩
 ·split at h<;>try cases h
  rename_i I G _;split at h<;>try cases h
  have aO:=Nat.eq_of_beq_eq_true I;have aX:=Nat.eq_of_beq_eq_true G;subst aO aX;exact⟨rfl,rfl⟩
 ·cases h

theorem fB.eval(R:fB tab N env mem a w O S){ty:Nat}{o:Operand}{v:V}(h:wA tab env ty o=some v):ch tab O (look mem) w S v (a.eval o):=by
 cases o with
 |tmp t=>exact(R.env t v h).1
 |const x=>exact YS h
 |global g=>cases h
 |func f =>
  cases h;exact⟨rfl,by simp,#[],rfl,rfl,by simp⟩

theorem fB.k1(R:fB tab N env mem a w O S):∀{l:List (Nat×Operand)} {vs:List V},k1 tab env l=some vs->fG tab O (look mem) w S vs (l.map fun p=>a.eval p.2)
 |[],vs,h=>by simp[bE.k1]at h;subst h;trivial
 |(ty,o)::l,vs,h=>by
  simp only[bE.k1]at h;split at h<;>try cases h
  rename_i aQ;split at h<;>try cases h
  rename_i zX;exact⟨R.eval aQ,R.k1 zX⟩

theorem zu{base:Nat}{names:List Nat}:∀{m:Mem},rE base mem names m=true ->
  vW base (look mem) names m/\∀r B,(r,B)∈m->look mem r=none->r<base+8
 |[],_=>⟨fun r B h=>by simp at h,fun r B h=>by simp at h⟩
 |(q,b5)::m,h=>by
  simp only[rE]at h;split at h
  ·rename_i aI;split at h<;>try cases h
   rename_i dZ aq;obtain⟨i1,i2⟩:=zu h;have hle:base<=q:=Nat.le_of_ble_eq_true aI;refine⟨fun r B aw=>?_,fun r B aw=>?_⟩
   ·rcases List.mem_cons.1 aw with e|aw
    ·cases e;exact⟨fun _=>aq,fun dQ=>absurd dQ (by omega)⟩
    ·exact i1 r B aw
   ·rcases List.mem_cons.1 aw with e|aw
    ·cases e;intro _;have:¬base+8<=q:=fun dn=>by rw[Nat.ble_eq_true_of_le dn]at dZ;cases dZ
     omega
    ·exact i2 r B aw
  ·rename_i aI;split at h<;>try cases h
   rename_i lr;obtain⟨i1,i2⟩:=zu h;have dQ:¬base<=q:=fun dn=>by rw[Nat.ble_eq_true_of_le dn]at aI;cases aI
   refine⟨fun r B aw=>?_,fun r B aw=>?_⟩
   ·rcases List.mem_cons.1 aw with e|aw
    ·cases e;exact⟨fun dn=>absurd dn dQ,fun _=>(u2 _ _).1 lr⟩
    ·exact i1 r B aw
   ·rcases List.mem_cons.1 aw with e|aw
    ·cases e;intro _;omega
    ·exact i2 r B aw

theorem Ac(m mem:Mem):cO m (look mem)=look (m++mem):=by
 funext r;simp only[cO,ng]

theorem Zk{d:Nat}{x:Value}(h:d<a.tmps.size):(a.put (some d) x).eval (.tmp d)=x:=by
 simp[Act.put,Act.eval,h]

theorem Zj{d t:Nat}{x:Value}(h:t≠d):(a.put (some d) x).eval (.tmp t)=a.eval (.tmp t):=by
 simp[Act.put,Act.eval,Array.getD_eq_getD_getElem?,Ne.symm h]

def lB(d:Option Tmp)(v:V)(env:Env):Env:=match d with|some t=>(t,v)::env|none=>env

theorem fB.put(R:fB tab N env mem a w O S)(a5:Ext O (look mem) w S bU (look fl) w' S')(aD:Inv tab bU (look fl) w' S'){d:Option Tmp}{v:V}{x:Value}
  (aQ:ch tab bU (look fl) w' S' v x) (hu:d≠none->v=.one .undef->x=Go.undef) (bO:∀t,d=some t->t<N) :
  fB tab N (lB d v env) fl (a.put d x) w' bU S':=by
 have hold:∀t u,look env t=some u->ch tab bU (look fl) w' S' u (a.eval (.tmp t)):=fun t u h=>yj a5 R.inv (R.env t u h).1
 refine⟨?_,?_,aD,?_⟩
 ·cases d<;>simp[Act.put,R.size]
 ·cases d<;>simp[Act.put,R.defers]
 ·intro t u h;cases d with
  |none=>exact⟨hold t u h,(R.env t u h).2⟩
  |some d =>
   by_cases e:t=d
   ·subst e;simp only[lB,look,Nat.beq_refl]at h;cases h;have aG:(a.put (some t) x).eval (.tmp t)=x:=Zk (by rw[R.size];exact bO t rfl);rw[aG];exact⟨aQ,hu (by simp)⟩
   ·simp only[lB,look,hr e]at h;rw[Zj e];exact⟨hold t u h,(R.env t u h).2⟩

theorem W0{o:Oper}{base:Nat}{names:List Nat}{vs:List V}{p:Option Prop}{v:V}{m:Mem}(bH:fp P tab)(ls:Sound P tab Γ)(R:fB tab N env mem a w O S)
  (lp:k1 tab env (operands o)=some vs) (fS:Av Γ tab base o vs (ff mem names)=some (p,v,m)) (ag:under p True) (c8:vW base (look mem) names m) (sY:HJ o.dst v=true) (bO:∀t,o.dst=some t->t<N)
  {K:Act->World->Prop} {Q:Exit->Act->World->Prop} (D:∀et w' bU S',fB tab N (lB o.dst v env) (m++mem) et w' bU S'->Ext O (look mem) w S bU (look (m++mem)) w' S'->K et w') :
  o.wp P a w K Q:=by
 refine adJ bH ls rfl R.inv (R.k1 lp) fS ag c8 K Q fun x w' aG=>?_
 obtain⟨bU,S',a5,aD,aQ⟩:=aG;rw[Ac]at a5 aD aQ;refine D _ _ bU S' (R.put a5 aD aQ (fun I G=>?_) bO) a5;subst G;cases rJ:o.dst with
 |none=>exact absurd rJ I
 |some t=>rw[rJ]at sY;cases sY
end
end bE
end Go.Proofs.YtlbppjmekiemiaaGreatDoor


/- The executor on data: a test against nil; an operation as the executor does it. No condition. -/
namespace Go.Proofs.YtlbppjmekiemiaaGreatDoor
namespace bE
section
variable {P:Program} {tab:ci} {Γ:Ctx} {N:Nat} {O bU:dk} {env Cy:Env} {mem fl:Mem} {a:Act} {w w':World} {S S':Nat->Prop}

theorem JW{o:Oper}{T:Nat}{aK:c7}{t:z}{x:Operand}{n m:Nat}{ez:TypeId}{dP:Option Addr}{len cap:Nat}{R:Value->World->Prop}(bH:fp P tab)
  (aY:o.op=.binOp .eql T x (.const (.slice none n m)) ez) (bl:dO tab T=some aK) (ad:aK.elem=some t) (aG:a.eval x=.slice dP len cap) (gY:R (.bool dP.isNone) w):dU P o a w R:=by
 obtain⟨e,i,bg,av⟩:=jQ bH bl (Cx ad);have hu:=av.hA;refine lb (s:=do eqGuard .eql T x (.const (.slice none n m)) (a.eval x) (.slice none n m);binOp .eql T (a.eval x) (.slice none n m)) (x:=.bool dP.isNone) (w':=w) (by simp only[execOp,aY];rfl) ?_ gY;rw[aG];have zK:∀k,(Op.equalIn (k+1) T (.slice dP len cap) (.slice none n m)).run P w=.ok dP.isNone w:=fun k=>by
  cases dP<;>simp[Op.equalIn,run_underlying hu]
 have bp:(Op.equal T (.slice dP len cap) (.slice none n m)).run P w=.ok dP.isNone w:=zK 9999;have bs:(eqGuard .eql T x (.const (.slice none n m)) (.slice dP len cap) (.slice none n m)).run P w=.ok () w:=by
  simp[eqGuard]
 rw[Sem.run_bind,bs];simp[binOp,bp]

theorem fB.Js(R:fB tab N env mem a w O S)(h:∀t,look Cy t=look env t):fB tab N Cy mem a w O S :=
 ⟨R.size,R.defers,R.inv,fun t v aQ=>R.env t v (h t▸aQ)⟩

theorem TP{d:Nat}{v:V}(h:look env d=some v)(t:Nat):look (lB (some d) v env) t=look env t:=by
 by_cases e:t=d
 ·subst e;simp[lB,look,Nat.beq_refl,h]
 ·simp[lB,look,hr e]

theorem Qk{base:Nat}{m:Mem}{n:Nat}(dZ:∀r B,(r,B)∈m->look mem r=none->r<base+8)(aq:jd n mem)(aA:base+8<=n):jd n (m++mem):=by
 intro r aw;rw[ng,aq r aw];cases aB:look m r with
 |none=>rfl
 |some B =>
  obtain⟨j,aR⟩:=wF aB;have:=dZ r B (List.mem_of_getElem? aR) (aq r aw);omega

theorem MQ{ops:List Oper}{o:Oper}{j d:Nat}{want b:Bool}(bs:o.guard=some (j,want))(bO:(ops[j]?).bind (·.dst)=some d)(aG:a.eval (.tmp d)=.bool b) :
  Region.wanted o (yielded ops.toArray a.tmps)=(b==want):=by
 have ct:yielded ops.toArray a.tmps j=some b:=by
  unfold yielded;simp only[List.getElem?_toArray,bO,Option.bind_some];have I:a.tmps[d]? = some (.bool b):=by
   simp only[Act.eval,Array.getD_eq_getD_getElem?]at aG;cases aI:a.tmps[d]? with
   |none=>rw[aI]at aG;cases aG
   |some y=>rw[aI]at aG;simp at aG;rw[aG]
  rw[I]
 simp[Region.wanted,bs,ct]

theorem Xs{ops:List Oper}{o:Oper}{j d:Nat}{want:Bool}(bs:o.guard=some (j,want))(bO:(ops[j]?).bind (·.dst)=some d)(aG:a.eval (.tmp d)=Go.undef) :
  Region.wanted o (yielded ops.toArray a.tmps)=false:=by
 have ct:yielded ops.toArray a.tmps j=none:=by
  unfold yielded;simp only[List.getElem?_toArray,bO,Option.bind_some];simp only[Act.eval,Array.getD_eq_getD_getElem?]at aG;cases aI:a.tmps[d]? with
  |none=>rfl
  |some y=>rw[aI]at aG;simp at aG;rw[aG];rfl
 simp[Region.wanted,bs,ct]

theorem fB.skip(R:fB tab N env mem a w O S){d:Option Tmp}(bO:∀t,d=some t->t<N):fB tab N (lB d (.one .undef) env) mem (a.put d Go.undef) w O S :=
 R.put Ext.refl R.inv trivial (fun _ _=>rfl) bO

def sv(N:Nat):List Oper->Bool
 |[]=>true
 |o::rest=>match o.dst with
  |none=>sv N rest
  |some t=>match Nat.ble (t+1) N with|true=>sv N rest|false=>false

theorem BJ:∀{ops:List Oper},sv N ops=true->∀o∈ops,∀t,o.dst=some t->t<N
 |[],_,o,h=>by cases h
 |q::ops,aA,o,h=>by
  intro t bl;unfold sv at aA;split at aA
  ·rename_i aq;rcases List.mem_cons.1 h with e|h
   ·subst e;rw[aq]at bl;cases bl
   ·exact BJ aA o h t bl
  ·rename_i aq;split at aA<;>try cases aA
   rename_i hle;rcases List.mem_cons.1 h with e|h
   ·subst e;rw[aq]at bl;cases bl;exact Nat.le_of_ble_eq_true hle
   ·exact BJ aA o h t bl
end
end bE
end Go.Proofs.YtlbppjmekiemiaaGreatDoor


/- The executor on data: a list that is written no more. No condition. -/
namespace Go.Proofs.YtlbppjmekiemiaaGreatDoor
namespace bE
section
variable {P:Program} {tab:ci} {Γ:Ctx} {N:Nat} {O:dk} {w:World} {S:Nat->Prop}

theorem fv.kinds{e8 gU:dS}{c:C}{x:Value}(h:fv tab O e8 w S c x)(a6:∀q,e8 q≠none->gU q≠none)(I:∀q cs,gU q=some (.box cs)->∃eK,e8 q=some (.box eK))(G:∀q t l,gU q=some (.arr t l)->∃l',e8 q=some (.arr t l'))(ab:∀q aF,gU q=some (.set aF)->∃aco,e8 q=some (.set aco))(aV:∀q t l cs,gU q=some (.ew t l cs)->∃eK,e8 q=some (.ew t l eK)) :
  fv tab O gU w S c x:=by
 cases c with
 |E t d=>exact h
 |nil t=>exact h
 |undef=>trivial
 |any=>trivial
 |lS t l i k=>exact h
 |mp r=>exact⟨a6 r h.1,fun cs az=>by obtain⟨eK,iU⟩:=ab r cs az;exact h.2 eK iU⟩
 |ia r=>exact⟨a6 r h.1,fun t l cs az=>by obtain⟨eK,iU⟩:=aV r t l cs az;exact h.2 t l eK iU⟩
 |kL r k=>exact⟨a6 r h.1,fun t l cs az=>by obtain⟨eK,iU⟩:=aV r t l cs az;exact h.2 t l eK iU⟩
 |ptr r o=>exact⟨a6 r h.1,fun cs az=>by obtain⟨eK,iU⟩:=I r cs az;exact h.2 eK iU⟩
 |own r=>exact⟨a6 r h.1,fun t l az=>by obtain⟨l',iU⟩:=G r t l az;exact h.2 t l' iU⟩
 |view r off n=>exact⟨a6 r h.1,fun t l az=>by obtain⟨l',iU⟩:=G r t l az;exact h.2 t l' iU⟩
 |cut r n=>exact⟨a6 r h.1,fun t l az=>by obtain⟨l',iU⟩:=G r t l az;exact h.2 t l' iU⟩
 |j6 r i k=>exact⟨a6 r h.1,fun t l az=>by obtain⟨l',iU⟩:=G r t l az;exact h.2 t l' iU⟩
 |fn f il =>
  obtain⟨e7,vs,a1,bf,cj⟩:=h;refine⟨fun r aw=>a6 r (e7 r aw),vs,a1,bf,fun i r aw=>?_⟩;obtain⟨y,cC,cI,dA⟩:=cj i r aw;exact⟨y,cC,cI,fun cs az=>by obtain⟨eK,iU⟩:=I r cs az;exact dA eK iU⟩

theorem Jt{f:bQ->bQ}:∀(m:Mem) (q:Nat),look (m.map fun p=>(p.1,f p.2)) q=(look m q).map f
 |[],q=>rfl
 |(k,b)::m,q=>by
  by_cases e:q=k
  ·subst e;simp[look,Nat.beq_refl]
  ·simp[look,hr e,Jt m q]

theorem Ju{f:V->V}:∀(m:Env) (q:Nat),look (m.map fun p=>(p.1,f p.2)) q=(look m q).map f
 |[],q=>rfl
 |(k,b)::m,q=>by
  by_cases e:q=k
  ·subst e;simp[look,Nat.beq_refl]
  ·simp[look,hr e,Ju m q]

theorem ZF{r:Nat}{st:bP}{a:Act}{n:Nat}(R:fB tab N st.env st.mem a w O S)(c8:jd n st.mem) :
  ∃S',fB tab N (ux r st).env (ux r st).mem a w O S'/\jd n (ux r st).mem/\Ext O (look st.mem) w S O (look (ux r st).mem) w S'/\(ux r st).base=st.base:=by
 unfold ux;split
 ·rename_i t l ax;obtain⟨a5,aD⟩:=qT (ns:=[r]) R.inv;have bO:cO (gP [r]) (look st.mem)=fun q=>if q=r then some .dead else look st.mem q:=by
   funext q;rcases n0 (mem:=look st.mem) [r] q with⟨I,G⟩|⟨I,G⟩
   ·simp at I;rw[G,if_pos I]
   ·simp at I;rw[G,if_neg I]
  have aB:look ((r,bQ.dead)::st.mem.map fun p=>(p.1,p.2.h4 r t l))=fun q=>if q=r then some .dead else(look st.mem q).map (bQ.h4 r t l):=by
   funext q
   by_cases e:q=r
   ·subst e;simp[look,Nat.beq_refl]
   ·simp[look,hr e,Jt,e]
  have cell:∀(c:C) (x:Value),x.oneCell'=true/\fv tab O (look st.mem) w S c x->fv tab O (look ((r,bQ.dead)::st.mem.map fun p=>(p.1,p.2.h4 r t l))) w (fX O (look st.mem) S [r]) (c.h4 r t l) x:=fun c x aG=>by
   have same:∀fK,fv tab O (look st.mem) w S fK x->fv tab O (look ((r,bQ.dead)::st.mem.map fun p=>(p.1,p.2.h4 r t l))) w (fX O (look st.mem) S [r]) fK x:=fun fK h=>by
    have:=h.ext a5 R.inv;rw[bO]at this;rw[aB];refine this.kinds (fun q aI=>?_) (fun q cs aI=>?_) (fun q ez l' aI=>?_) (fun q aF aI=>?_) (fun q ez l' eK aI=>?_)
    ·by_cases e:q=r
     ·simp[e]
     ·simp only[if_neg e]at aI |-;cases dn:look st.mem q with
      |none=>exact absurd dn aI
      |some b=>simp
    ·by_cases e:q=r
     ·simp[e]at aI
     ·simp only[if_neg e]at aI |-;cases dn:look st.mem q with
      |none=>rw[dn]at aI;cases aI
      |some b=>cases b with
       |box ke=>exact⟨ke,rfl⟩
       |_=>rw[dn]at aI;cases aI
    ·by_cases e:q=r
     ·simp[e]at aI
     ·simp only[if_neg e]at aI |-;cases dn:look st.mem q with
      |none=>rw[dn]at aI;cases aI
      |some b=>cases b with
       |arr t0 l0=>rw[dn]at aI;cases aI;exact⟨_,rfl⟩
       |_=>rw[dn]at aI;cases aI
    ·by_cases e:q=r
     ·simp[e]at aI
     ·simp only[if_neg e]at aI |-;cases dn:look st.mem q with
      |none=>rw[dn]at aI;cases aI
      |some b=>cases b with
       |set akp=>exact⟨_,rfl⟩
       |_=>rw[dn]at aI;cases aI
    ·by_cases e:q=r
     ·simp[e]at aI
     ·simp only[if_neg e]at aI |-;cases dn:look st.mem q with
      |none=>rw[dn]at aI;cases aI
      |some b=>cases b with
       |ew t0 l0 ke=>rw[dn]at aI;cases aI;exact⟨_,rfl⟩
       |_=>rw[dn]at aI;cases aI
   cases c with
   |own q =>
    cases aI:Nat.beq q r with
    |true =>
     simp only[C.h4,aI];have aI:=Nat.eq_of_beq_eq_true aI;subst aI;have:=Et (lm:=st.mem) (c:=.own q) (d:=.E (.list t) l) (ns:=[q]) R.inv (fun _ _ h _=>h) aG (by simp[lE,ax]);exact dC.AJ this.2
    |false =>
     simp only[C.h4,aI];exact same _ aG.2
   |_=>exact same _ aG.2
  refine⟨fX O (look st.mem) S [r],⟨R.size,R.defers,⟨fun q B bt bh=>?_,fun q fZ dz I G=>?_,fun q I=>?_,aD.lt,aD.pow⟩,fun u v aQ=>?_⟩,fun q aI=>?_,⟨fun q aI=>?_,fun q B B' I G=>?_,a5.sub,Nat.le_refl _,fun _ _ _=>rfl,a5.only,fun b aA=>?_,rfl,rfl,rfl⟩,rfl⟩
  ·rw[aB]at bt
   by_cases e:q=r
   ·simp[e]at bt;subst bt;exact bh.elim
   ·simp only[if_neg e]at bt;cases dn:look st.mem q with
    |none=>rw[dn]at bt;cases bt
    |some he =>
     rw[dn]at bt;simp only[Option.map_some,Option.some.injEq]at bt;subst bt;have Z2:he.alive:=by cases he<;>first|trivial|exact bh
     obtain⟨L,sP,dN⟩:=R.inv.rel q he dn Z2;refine⟨L,sP,?_⟩;cases he with
     |dead=>exact bh.elim
     |set aF=>cases L<;>exact dN
     |arr t0 l0 =>
      cases L with
      |gz b=>exact dN
      |eu x =>
       rcases dN with h|⟨b,cap,cur,b8,a1,bf,cj,eR,gf,gX⟩
       ·exact .inl h
       ·exact .inr ⟨b,cap,cur,b8,a1,bf,cj,eR,gf,fun i j c hi az=>let ⟨y,cC,cI,dA⟩:=gX i j c hi az;⟨y,cC,cI,r0 dA⟩⟩
     |ew t0 l0 cs =>
      cases L with
      |gz b=>exact dN
      |eu x =>
       obtain⟨b,cap,cur,b8,a1,bf,cj,eR,gf,gX,ZH⟩:=dN;refine⟨b,cap,cur,b8,a1,bf,cj,eR,gf,fun i j c hi az=>?_,fun j c az=>?_⟩
       ·obtain⟨y,cC,cI,dA⟩:=gX i j c hi az;exact⟨y,cC,cI,r0 dA⟩
       ·rw[List.getElem?_map]at az;cases oM:cs[j]? with
        |none=>rw[oM]at az;cases az
        |some gO =>
         rw[oM]at az;simp only[Option.map_some,Option.some.injEq]at az;subst az;obtain⟨mn,y,cC,cI,dA⟩:=ZH j gO oM;exact⟨mn,y,cC,cI,cell gO y ⟨cI,dA⟩⟩
     |box cs =>
      cases L with
      |eu x=>exact dN
      |gz b =>
       obtain⟨vs,b8,a1,bf,cj⟩:=dN;refine⟨vs,b8,a1,by simpa using bf,fun i c az=>?_⟩;rw[List.getElem?_map]at az;cases oM:cs[i]? with
       |none=>rw[oM]at az;cases az
       |some gO =>
        rw[oM]at az;simp only[Option.map_some,Option.some.injEq]at az;subst az;obtain⟨y,cC,cI,dA⟩:=cj i gO oM;exact⟨y,cC,cI,cell gO y ⟨cI,dA⟩⟩
  ·have back:∀bg,Live (look ((r,bQ.dead)::st.mem.map fun p=>(p.1,p.2.h4 r t l))) bg->Live (look st.mem) bg:=fun bg ⟨B,bt,bh⟩=>by
    rw[aB]at bt
    by_cases e:bg=r
    ·simp[e]at bt;subst bt;exact bh.elim
    ·simp only[if_neg e]at bt;cases dn:look st.mem bg with
     |none=>rw[dn]at bt;cases bt
     |some he =>
      rw[dn]at bt;simp only[Option.map_some,Option.some.injEq]at bt;subst bt;exact⟨he,dn,by cases he<;>first|trivial|exact bh⟩
   exact R.inv.inj q fZ dz (back q I) (back fZ G)
  ·have aI:Live (cO (gP [r]) (look st.mem)) q:=by
    obtain⟨B,bt,bh⟩:=I;rw[aB]at bt;rw[bO]
    by_cases e:q=r
    ·simp[e]at bt;subst bt;exact bh.elim
    ·simp only[if_neg e]at bt;cases dn:look st.mem q with
     |none=>rw[dn]at bt;cases bt
     |some he =>
      rw[dn]at bt;simp only[Option.map_some,Option.some.injEq]at bt;subst bt;exact⟨he,by simp[e,dn],by cases he<;>first|trivial|exact bh⟩
   exact aD.sep q aI
  ·rw[Ju (f:=V.h4 r t l)]at aQ;cases dn:look st.env u with
   |none=>rw[dn]at aQ;cases aQ
   |some v0 =>
    rw[dn]at aQ;simp only[Option.map_some,Option.some.injEq]at aQ;subst aQ;obtain⟨bK,bX⟩:=R.env u v0 dn;have one:∀{c:C} {x:Value},jX tab O (look st.mem) w S (.one c) x->jX tab O (look ((r,bQ.dead)::st.mem.map fun p=>(p.1,p.2.h4 r t l))) w (fX O (look st.mem) S [r]) (.one (c.h4 r t l)) x:=fun {c x} h=>⟨h.1,cell c x h⟩
    have agg:∀{cs:List C} {x:Value},jX tab O (look st.mem) w S (.agg cs) x->jX tab O (look ((r,bQ.dead)::st.mem.map fun p=>(p.1,p.2.h4 r t l))) w (fX O (look st.mem) S [r]) (.agg (cs.map (C.h4 r t l))) x:=fun {cs x} h=>by
     obtain⟨xs,a1,bf,cj⟩:=h;refine⟨xs,a1,by simpa using bf,fun i c az=>?_⟩;rw[List.getElem?_map]at az;cases oM:cs[i]? with
     |none=>rw[oM]at az;cases az
     |some gO =>
      rw[oM]at az;simp only[Option.map_some,Option.some.injEq]at az;subst az;obtain⟨y,cC,cI,dA⟩:=cj i gO oM;exact⟨y,cC,cI,cell gO y ⟨cI,dA⟩⟩
    cases v0 with
    |one c =>
     by_cases hu:c=.undef
     ·subst hu;exact⟨trivial,fun _=>bX rfl⟩
     ·have cb:jX tab O (look st.mem) w S (.one c) (a.eval (.tmp u)):=by cases c<;>first|exact absurd rfl hu|exact bK
      have I:=one cb;have dz:c.h4 r t l≠.undef:=by
       cases c with
       |own q=>cases aI:Nat.beq q r<;>simp[C.h4,aI]
       |undef=>exact absurd rfl hu
       |_=>exact fun h=>by cases h
      refine⟨?_,fun h=>?_⟩
      ·show ch tab O _ w _ (.one (c.h4 r t l)) _;generalize c.h4 r t l=fK at I dz |-;cases fK<;>first|exact absurd rfl dz|exact I
      ·exact absurd (by injection h) dz
    |agg cs=>exact⟨agg bK,fun h=>by cases h⟩
    |an vs =>
     obtain⟨xs,a1,bf,cj⟩:=bK;refine⟨⟨xs,a1,by simpa using bf,fun i v aQ=>?_⟩,fun h=>by cases h⟩;rw[List.getElem?_map]at aQ;cases Jd:vs[i]? with
     |none=>rw[Jd]at aQ;cases aQ
     |some v0 =>
      rw[Jd]at aQ;simp only[Option.map_some,Option.some.injEq]at aQ;obtain⟨y,cC,cI⟩:=cj i v0 Jd;refine⟨y,cC,?_⟩;subst aQ;cases v0 with
      |one c=>exact one cI
      |agg cs=>exact agg cI
      |an us=>exact cI.elim
  ·rw[aB];have:=c8 q aI
   by_cases e:q=r
   ·subst e;rw[ax]at this;cases this
   ·simp[e,this]
  ·rw[aB]
   by_cases e:q=r
   ·simp[e]
   ·simp only[if_neg e];cases dn:look st.mem q with
    |none=>exact absurd dn aI
    |some b=>simp
  ·rw[aB]at G
   by_cases e:q=r
   ·simp[e]at G;subst G;exact⟨by cases B<;>trivial,fun _=>rfl⟩
   ·simp only[if_neg e,I,Option.map_some,Option.some.injEq]at G;subst G;exact⟨by cases B<;>trivial,fun _=>rfl⟩
  ·obtain⟨q,L,⟨B,bt,bh⟩,G,ab⟩:=aA;refine .inl ⟨q,L,?_,G,ab⟩;rw[aB]at bt
   by_cases e:q=r
   ·simp[e]at bt;subst bt;exact bh.elim
   ·simp only[if_neg e]at bt;cases dn:look st.mem q with
    |none=>rw[dn]at bt;cases bt
    |some he =>
     rw[dn]at bt;simp only[Option.map_some,Option.some.injEq]at bt;subst bt;exact⟨he,dn,by cases he<;>first|trivial|exact bh⟩
 ·exact⟨S,R,c8,Ext.refl,rfl⟩

theorem Ig{a:Act}{n:Nat}:∀(rs:List Nat) {st:bP} {S:Nat->Prop},fB tab N st.env st.mem a w O S->jd n st.mem ->
  ∃S',fB tab N (sL rs st).env (sL rs st).mem a w O S'/\jd n (sL rs st).mem/\Ext O (look st.mem) w S O (look (sL rs st).mem) w S'/\(sL rs st).base=st.base
 |[],st,S,R,c8=>⟨S,R,c8,Ext.refl,rfl⟩
 |r::rs,st,S,R,c8=>by
  obtain⟨ph,vZ,E1,em,iQ⟩:=ZF (r:=r) R c8;obtain⟨mR,rb,so,dL,jY⟩:=Ig rs vZ E1;exact⟨mR,rb,so,em.trans dL,jY.trans iQ⟩
end
end bE
end Go.Proofs.YtlbppjmekiemiaaGreatDoor


/- The executor on data: an operation as the executor does it; a region in order. No condition. -/
namespace Go.Proofs.YtlbppjmekiemiaaGreatDoor
namespace bE
section
variable {P:Program} {tab:ci} {Γ:Ctx} {N:Nat} {O bU fF:dk} {env Cy:Env} {mem fl:Mem} {a:Act} {w w' w0:World} {S S' S0:Nat->Prop} {mem0:dS}

theorem acU{o:Oper}{vs:List V}{K:V->Prop}(bH:fp P tab)(R:fB tab N env mem a w O S)(aq:ta o=true)(lp:k1 tab env (w6 o)=some vs)(h:An vs K) :
  ∃b:Bool,K (.one (.E .bool b))/\dU P o a w fun x w'=>x=.bool b/\w'=w:=by
 unfold ta at aq;split at aq<;>try cases aq
 rename_i T x n m ez aY;simp only[w6,aY]at lp;simp only[k1]at lp;split at lp<;>try cases lp
 rename_i v aQ;split at lp<;>try cases lp
 rename_i us rW;split at rW<;>try cases rW
 rename_i u hu;simp only[wA,Cr]at hu;split at hu<;>try cases hu
 rename_i aK _ _ bl;split at hu<;>try cases hu
 rename_i t ad;have aw:=R.eval aQ;unfold An at h;split at h
 ·rename_i e;cases e;obtain⟨_,aw⟩:=aw;generalize aG:a.eval x=y at aw;cases aw with
  |empty t0 dP cap=>exact⟨dP.isNone,h _ fun _=>rfl,JW bH aY bl ad aG ⟨rfl,rfl⟩⟩
  |list t0 l b off cap cs dw hcap az aw=>exact⟨false,h _ (fun e=>by cases e),JW bH aY bl ad aG ⟨rfl,rfl⟩⟩
 ·rename_i e;cases e;obtain⟨_,aw⟩:=aw;exact⟨true,h,JW bH aY bl ad aw ⟨rfl,rfl⟩⟩
 ·exact h.elim

theorem JX{o:Oper}(h:ta o=false):w6 o=operands o:=by
 unfold w6;split
 ·rename_i aY;simp[ta,aY]at h
 ·rfl

theorem Xq{p:Option Prop}{q:Prop}:under p q↔under p True/\q:=by
 cases p<;>simp[under]

theorem Y2{o:Oper}{i:Nat}{eA:List hF}{st:bP}{K:List hF->nw}{aW:Act->World->Prop}{Q:Exit->Act->World->Prop}(bH:fp P tab)(ls:Sound P tab Γ)
  (h:py Γ tab o i eA st K) (R:fB tab N st.env st.mem a w O S) (qH:jd (st.base+8*i) st.mem) (bO:∀t,o.dst=some t->t<N)
  (D:∀lG da et w' bU S',da.base=st.base->fB tab N da.env da.mem et w' bU S'->jd (st.base+8*(i+1)) da.mem->Ext O (look st.mem) w S bU (look da.mem) w' S'->K lG da->aW et w') :
  o.wp P a w aW Q:=by
 unfold py at h;split at h
 ·exact h.elim
 rename_i vs lp;split at h
 ·rename_i aq;obtain⟨b,aA,aw⟩:=acU bH R aq lp h;refine aw _ _ fun x w' aG=>?_
  obtain⟨rfl,rfl⟩:=aG;have je:=R.put (d:=o.dst) (v:=.one (.E .bool b)) Ext.refl R.inv (nh b) (fun _ e=>by cases e) bO;refine D eA (st.put o.dst (.one (.E .bool b))) _ _ O S ?_ ?_ ?_ ?_ aA
  ·cases o.dst<;>rfl
  ·cases rJ:o.dst<;>rw[rJ]at je<;>exact je
  ·cases o.dst<;>exact fun r aw=>qH r (by omega)
  ·cases o.dst<;>exact Ext.refl
 ·rename_i aq;rw[JX aq]at lp;simp only at h;split at h
  ·exact h.elim
  rename_i p v m fS;split at h
  ·rename_i zL sY;obtain⟨ag,ad⟩:=Xq.1 h;obtain⟨c8,dZ⟩:=zu zL;refine W0 bH ls R lp fS ag c8 sY bO fun et w' bU S' je a5=>?_
   refine D _ _ _ _ bU S' ?_ ?_ ?_ ?_ ad
   ·cases o.dst<;>rfl
   ·cases rJ:o.dst<;>rw[rJ]at je<;>exact je
   ·have:=Qk (n:=st.base+8*(i+1)) dZ (fun r aw=>qH r (by omega)) (by omega);cases o.dst<;>exact this
   ·cases o.dst<;>exact a5
  ·exact h.elim

theorem r4{st:bP}{d:Option Tmp}{v:V}:st.put d v={ st with env:=lB d v st.env }:=by cases d<;>rfl

theorem fB.known(R:fB tab N env mem a w O S){d:Nat}{b:Bool}(h:look env d=some (.one (.E .bool b))):a.eval (.tmp d)=.bool b/\fB tab N (lB (some d) (.one (.E .bool b)) env) mem a w O S :=
 ⟨r8 (R.env d _ h).1,R.Js (TP h)⟩

theorem fB.unknown(R:fB tab N env mem a w O S){d:Nat}(h:look env d=some (.one .undef)):a.eval (.tmp d)=Go.undef:=(R.env d _ h).2 rfl

def PW(Γ:Ctx)(tab:ci)(ops:List Oper)(K:nw)(o:Oper)(rest:List Oper)(i:Nat)(eA:List hF)(st:bP):Prop :=
  match o.guard with
  |none=>py Γ tab o i eA st (jj Γ tab false ops K rest (i+1))
  |some (j,want) =>
   match (ops[j]?).bind (·.dst)with
   |none=>False
   |some d=>match look st.env d with
    |some (.one (.E .bool b)) =>
     J b
      (let p9:=st.put (some d) (.one (.E .bool true))
       match want with
       |true=>py Γ tab o i eA p9 (jj Γ tab false ops K rest (i+1))
       |false=>jj Γ tab false ops K rest (i+1) eA (p9.put o.dst (.one .undef)))
      (let p9:=st.put (some d) (.one (.E .bool false))
       match want with
       |false=>py Γ tab o i eA p9 (jj Γ tab false ops K rest (i+1))
       |true=>jj Γ tab false ops K rest (i+1) eA (p9.put o.dst (.one .undef)))
    |some (.one .undef)=>jj Γ tab false ops K rest (i+1) eA (st.put o.dst (.one .undef))
    |_=>False

theorem PX{ops:List Oper}{Q:Exit->Act->World->Prop}{K:nw}(bH:fp P tab)(ls:Sound P tab Γ)(bt:sv N ops=true):∀(rest:List Oper) (i:Nat) (eA:List hF) (st:bP) (a:Act) (w:World) (O:dk) (S:Nat->Prop),
  ops.drop i=rest->i+rest.length=ops.length->jj Γ tab false ops K rest i eA st->fB tab N st.env st.mem a w O S->jd (st.base+8*i) st.mem ->
  (∀da et w' bU S',fB tab N da.env da.mem et w' bU S'->jd da.base da.mem->Ext O (look st.mem) w S bU (look da.mem) w' S'->K da->Q .normal et w') ->
  wpOps P ops.toArray Q (List.range' i rest.length) a w
 |[],i,eA,st,a,w,O,S,aw,ax,h,R,qH,pH=>by
  refine pH { st with base:=st.base+8*ops.length } a w O S R ?_ Ext.refl h;have:i=ops.length:=by simpa using ax
  subst this;exact qH
 |o::rest,i,eA,nt,a,w,O,S0,aw,ax,h,NK,Qv,ZY=>by
  obtain⟨S,st,R,qH,lK,pI,h⟩:∃S st,fB tab N st.env st.mem a w O S/\jd (nt.base+8*i) st.mem/\Ext O (look nt.mem) w S0 O (look st.mem) w S/\st.base=nt.base/\PW Γ tab ops K o rest i eA st:=by
   unfold jj J9 at h;simp only at h;split at h
   ·exact⟨S0,nt,NK,Qv,Ext.refl,rfl,h⟩
   ·rename_i r rs _;obtain⟨S,R,qH,lK,pI⟩:=Ig (r::rs) NK Qv;exact⟨S,_,R,qH,lK,pI,h⟩
  have pH:∀da et w' bU S',fB tab N da.env da.mem et w' bU S'->jd da.base da.mem->Ext O (look st.mem) w S bU (look da.mem) w' S'->K da->Q .normal et w':=fun da et w' bU S' a1 bf cj eR=>ZY da et w' bU S' a1 bf (lK.trans cj) eR
  unfold PW at h;rw[<- pI]at qH;have aY:ops[i]? = some o:=by
   have:=congrArg (fun l=>l[0]?) aw;simpa using this
  have g0:ops.drop (i+1)=rest:=by
   have:=congrArg List.tail aw;simpa using this
  have g4:i+1+rest.length=ops.length:=by simp at ax;omega
  have bO:∀t,o.dst=some t->t<N:=BJ bt o (List.mem_of_getElem? aY);have next:∀(lG:List hF) (da:bP) (et:Act) (w':World) (bU:dk) (S':Nat->Prop),da.base=st.base->fB tab N da.env da.mem et w' bU S'->jd (st.base+8*(i+1)) da.mem->Ext O (look st.mem) w S bU (look da.mem) w' S' ->
    jj Γ tab false ops K rest (i+1) lG da->wpOps P ops.toArray Q (List.range' (i+1) rest.length) et w':=fun lG da et w' bU S' aA je ZW iz ad =>
   PX bH ls bt rest (i+1) lG da et w' bU S' g0 g4 ad je (by rw[aA];exact ZW) fun tD eU jv gG mR rb so dL bX=>pH tD eU jv gG mR rb so (iz.trans dL) bX
  have LU:∀(lG:List hF) (da:bP),da.base=st.base->da.mem=st.mem->fB tab N da.env da.mem a w O S->jj Γ tab false ops K rest (i+1) lG (da.put o.dst (.one .undef)) ->
    wpOps P ops.toArray Q (List.range' (i+1) rest.length) (a.put o.dst Go.undef) w:=fun lG da aA aB je ad=>by
   refine next lG _ _ _ O S ?_ ?_ ?_ ?_ ad
   ·rw[r4];exact aA
   ·rw[r4];exact je.skip bO
   ·rw[r4,aB];exact fun r aw=>qH r (by omega)
   ·rw[r4,aB];exact Ext.refl
  have HI:∀(da:bP),da.base=st.base->da.mem=st.mem->fB tab N da.env da.mem a w O S->py Γ tab o i eA da (jj Γ tab false ops K rest (i+1)) ->
    o.wp P a w (wpOps P ops.toArray Q (List.range' (i+1) rest.length)) Q:=fun da aA aB je ad=>by
   refine Y2 bH ls ad je (by rw[aA,aB];exact qH) bO fun aja tD eU jv gG mR jY rb so dL bX=>?_
   exact next aja tD eU jv gG mR (jY.trans aA) rb (by rw[aA]at so;exact so) (by rw[aB]at dL;exact dL) bX
  rw[List.length_cons,List.range'_succ,wpOps_cons];unfold wpOp;simp only[List.getElem?_toArray,aY];split at h
  ·rename_i bs;have cb:Region.wanted o (yielded ops.toArray a.tmps)=true:=by simp[Region.wanted,bs]
   rw[if_pos cb];exact .inl (HI st rfl rfl R h)
  ·rename_i j want bs;split at h
   ·exact h.elim
   rename_i d iV;split at h
   ·rename_i b aA;obtain⟨aG,vZ⟩:=R.known aA;rw[MQ bs iV aG];cases b with
    |true =>
     simp only[J]at h;cases want with
     |true=>rw[if_pos (by rfl)];exact .inl (HI (st.put (some d) _) rfl rfl vZ h)
     |false=>rw[if_neg (by simp)];exact LU eA (st.put (some d) _) rfl rfl vZ h
    |false =>
     simp only[J]at h;cases want with
     |true=>rw[if_neg (by simp)];exact LU eA (st.put (some d) _) rfl rfl vZ h
     |false=>rw[if_pos (by rfl)];exact .inl (HI (st.put (some d) _) rfl rfl vZ h)
   ·rename_i aA;rw[Xs bs iV (R.unknown aA),if_neg (by simp)];exact LU eA st rfl rfl R h
   ·exact h.elim
end
end bE
end Go.Proofs.YtlbppjmekiemiaaGreatDoor


/- The executor on data: code, from a loop's head to the next. No condition. -/
namespace Go.Proofs.YtlbppjmekiemiaaGreatDoor
namespace bE

theorem CO{α:Type}:∀(l:List Nat) (k:List Nat->α),qD l k=k l
 |[],_=>rfl
 |0::l,k=>by simp only[qD];exact CO l _
 |(m+1)::l,k=>by simp only[qD];exact CO l _

def vX(P:Program)(b:Code)(Q:Exit->Act->World->Prop)(a:Act)(w:World):Prop :=
 ∀(uv:Frame) (k:List Item) (cs:List Frame),∃e et w',Q e et w'/\Arrives P (lone (uv.at a (.code b::.inLoop b::k)) cs w) uv k cs e et w'

section
variable {P:Program} {tab:ci} {Γ:Ctx} {N fw:Nat} {a:Act} {w w':World} {Q:Exit->Act->World->Prop}

theorem acC{b:Code}(h:b.wp P (Exit.then (vX P b Q) Q) a w):vX P b Q a w:=by
 intro uv k cs;obtain⟨e,yV,Bc,aI,sS⟩:=h uv (.inLoop b::k) cs;cases e with
 |normal =>
  obtain⟨Zp,Yc,ajq,abg,Z7⟩:=aI uv k cs;exact⟨Zp,Yc,ajq,abg,.of_steps (Steps.trans sS (.one step_inLoop)) Z7⟩
 |exit id=>exact⟨_,yV,Bc,aI,.pass (x:=.inLoop b) rfl (fun _ _=>.inl (by simp)) sS⟩
 |goto l=>exact⟨_,yV,Bc,aI,.pass (x:=.inLoop b) rfl (fun _ _=>.inl (by simp)) sS⟩
 |ret=>exact⟨_,yV,Bc,aI,.pass (x:=.inLoop b) rfl (fun _ _=>.inl (by simp)) sS⟩
 |panic rm=>exact⟨_,yV,Bc,aI,.pass (x:=.inLoop b) rfl (fun _ _=>.inl (by simp)) sS⟩
 |outgrown=>exact⟨_,yV,Bc,aI,.pass (x:=.inLoop b) rfl (fun _ _=>.inl (by simp)) sS⟩

theorem acD{b:Code}(h:vX P b Q a w):(Code.loop b).wp P Q a w:=fun uv k cs =>
 let ⟨e,et,w',aI,sS⟩:=h uv k cs
 ⟨e,et,w',aI,.of_steps (.one step_loop) sS⟩

def pU(P:Program)(Q:Exit->Act->World->Prop):List cw->Exit->Act->World->Prop
 |[]=>Q
 |.code c::k=>Exit.then (c.wp P (pU P Q k)) (pU P Q k)
 |.inBlock id::k=>Exit.inBlock id (pU P Q k)
 |.inLoop _ b::k=>Exit.then (vX P b (pU P Q k)) (pU P Q k)

def lh(N:Nat):Code->Bool
 |.skip | .exit _ | .ret=>true
 |.region _ ops _=>sv N ops.toList
 |.seq a b=>match lh N a with|true=>lh N b|false=>false
 |.cond _ a b=>match lh N a with|true=>lh N b|false=>false
 |.block _ b=>lh N b
 |.loop b=>lh N b
 |_=>false

def jZ(N:Nat):List cw->Bool
 |[]=>true
 |.code c::k=>match lh N c with|true=>jZ N k|false=>false
 |.inBlock _::k=>jZ N k
 |.inLoop _ b::k=>match lh N b with|true=>jZ N k|false=>false

def Zm:E0->Exit
 |.normal=>.normal
 |.ret=>.ret
 |.exit id=>.exit id

variable {fF:dk} {mem0:dS} {w0:World} {S0:Nat->Prop}

def Good(tab:ci)(N:Nat)(fF:dk)(mem0:dS)(w0:World)(S0:Nat->Prop)(st:bP)(a:Act)(w:World):Prop :=
 ∃O S,fB tab N st.env st.mem a w O S/\jd st.base st.mem/\Ext fF mem0 w0 S0 O (look st.mem) w S

def yQ(P:Program)(tab:ci)(Γ:Ctx)(N:Nat)(fF:dk)(mem0:dS)(w0:World)(S0:Nat->Prop):Prop :=
 ∀(id:Nat) (ops:Array Oper) (draw:Bool) (K:nw) (Q:Exit->Act->World->Prop) (st:bP) (a:Act) (w:World),sv N ops.toList=true->jj Γ tab draw ops.toList K ops.toList 0 [] st->Good tab N fF mem0 w0 S0 st a w ->
  (∀da et w',Good tab N fF mem0 w0 S0 da et w'->K da->Q .normal et w')->(Code.region id ops draw).wp P Q a w

def NB(tab:ci)(N fw:Nat)(fF:dk)(mem0:dS)(w0:World)(S0:Nat->Prop):Prop :=
 ∀(keys:List Nat) (st da:bP) (a:Act) (w:World),canon fw keys st=some da->Good tab N fF mem0 w0 S0 st a w->Good tab N fF mem0 w0 S0 da a w

theorem Dl:∀(k:List cw),Q .ret a w->pU P Q k .ret a w
 |[],h=>h
 |.code _::k,h=>Dl k h
 |.inBlock _::k,h=>Dl k h
 |.inLoop _ _::k,h=>Dl k h

theorem nr(gY:yQ P tab Γ N fF mem0 w0 S0)(ev:NB tab N fw fF mem0 w0 S0){res:List Nat}{rec:List cw->bP->Prop}{fin:bP->Prop}
  (m7:∀keys b k st a w,rec (.inLoop keys b::k) st->jZ N (.inLoop keys b::k)=true->Good tab N fF mem0 w0 S0 st a w->vX P b (pU P Q k) a w)
  (jG:∀st a w,Good tab N fF mem0 w0 S0 st a w->fin st->Q .normal a w/\Q .ret a w):∀(n:Nat) (todo:List cw) (ex:E0) (st:bP) (a:Act) (w:World),
  ka Γ tab fw res rec fin n todo ex st->jZ N todo=true->Good tab N fF mem0 w0 S0 st a w->pU P Q todo (Zm ex) a w
 |0,todo,ex,st,a,w,h,aA,cP=>by simp[ka]at h
 |n+1,todo,.ret,st,a,w,h,aA,cP=>by simp[ka]at h
 |n+1,todo,.exit id,st,a,w,h,aA,cP=>by
  unfold ka at h;cases todo with
  |nil=>exact h.elim
  |cons x k =>
   cases x with
   |code c =>
    simp only[jZ]at aA;split at aA<;>try cases aA
    exact nr gY ev m7 jG n k (.exit id) st a w h aA cP
   |inLoop keys b =>
    simp only[jZ]at aA;split at aA<;>try cases aA
    exact nr gY ev m7 jG n k (.exit id) st a w h aA cP
   |inBlock j =>
    simp only[jZ]at aA;simp only at h;show Exit.inBlock j (pU P Q k) (.exit id) a w;simp only[Exit.inBlock];split at h
    ·rename_i aR;rw[if_pos (Nat.eq_of_beq_eq_true aR).symm];exact nr gY ev m7 jG n k .normal st a w h aA cP
    ·rename_i aR;rw[if_neg (fun e=>by subst e;rw[Nat.beq_refl]at aR;cases aR)];exact nr gY ev m7 jG n k (.exit id) st a w h aA cP
 |n+1,todo,.normal,st,a,w,h,aA,cP=>by
  unfold ka at h;cases todo with
  |nil=>exact(jG st a w cP h).1
  |cons x k =>
   cases x with
   |inBlock j =>
    simp only[jZ]at aA;exact nr gY ev m7 jG n k .normal st a w h aA cP
   |inLoop keys b =>
    simp only at h;unfold tn at h;split at h
    ·rename_i da az;exact m7 keys b k da a w h aA (ev keys st da a w az cP)
    ·exact h.elim
   |code c =>
    have hbk:lh N c=true/\jZ N k=true:=by
     simp only[jZ]at aA;split at aA<;>try cases aA
     rename_i az;exact⟨az,aA⟩
    obtain⟨nR,hbk⟩:=hbk;show c.wp P (pU P Q k) a w;cases c with
    |skip=>exact wp_skip (nr gY ev m7 jG n k .normal st a w h hbk cP)
    |seq x y =>
     simp only[lh]at nR;split at nR<;>try cases nR
     rename_i aG;have:=nr gY ev m7 jG n (.code x::.code y::k) .normal st a w h (by simp[jZ,aG,nR,hbk]) cP;exact wp_seq this
    |region id ops draw =>
     exact gY id ops draw _ _ st a w nR h cP fun da et w' XN e5=>nr gY ev m7 jG n k .normal da et w' e5 hbk XN
    |cond c x y =>
     simp only[lh]at nR;split at nR<;>try cases nR
     rename_i aG;simp only at h;split at h
     ·rename_i t lp;obtain⟨O,S,R,c8,a5⟩:=cP;have az:=r8 (R.eval lp);refine wp_cond az ?_;cases t with
      |true=>exact nr gY ev m7 jG n (.code x::k) .normal st a w h (by simp[jZ,aG,hbk]) ⟨O,S,R,c8,a5⟩
      |false=>exact nr gY ev m7 jG n (.code y::k) .normal st a w h (by simp[jZ,nR,hbk]) ⟨O,S,R,c8,a5⟩
     ·exact h.elim
    |block id b =>
     simp only[lh]at nR;have:=nr gY ev m7 jG n (.code b::.inBlock id::k) .normal st a w h (by simp[jZ,nR,hbk]) cP;refine wp_block (wp_mono this fun e a w bp=>?_);cases e<;>exact bp
    |loop b =>
     simp only[CO]at h;unfold tn at h;split at h
     ·rename_i da az;exact acD (m7 _ b k da a w h (by simpa[jZ,lh]using aA) (ev _ st da a w az cP))
     ·exact h.elim
    |exit id=>exact wp_exit (nr gY ev m7 jG n k (.exit id) st a w h hbk cP)
    |ret=>exact wp_ret (Dl k (jG st a w cP h).2)
    |_=>exact h.elim

theorem VG(gY:yQ P tab Γ N fF mem0 w0 S0)(ev:NB tab N fw fF mem0 w0 S0){res:List Nat}{fin:bP->Prop}
  (jG:∀st a w,Good tab N fF mem0 w0 S0 st a w->fin st->Q .normal a w/\Q .ret a w):∀(m:Nat),
  (∀keys b k st a w,run Γ tab fw res fin m (.inLoop keys b::k) st->jZ N (.inLoop keys b::k)=true->Good tab N fF mem0 w0 S0 st a w->vX P b (pU P Q k) a w) /\
  ∀c st a w,run Γ tab fw res fin m [.code c] st->lh N c=true->Good tab N fF mem0 w0 S0 st a w->c.wp P Q a w
 |0=>⟨fun keys b k st a w h=>by simp[run]at h,fun c st a w h=>by simp[run]at h⟩
 |m+1=>by
  obtain⟨dd,_⟩:=VG gY ev jG m;refine⟨fun keys b k st a w h aA cP=>?_,fun c st a w h aA cP=>?_⟩
  ·unfold run at h;have gA:jZ N (.code b::.inLoop keys b::k)=true:=by
    have G:=aA;simp only[jZ]at G;split at G<;>try cases G
    rename_i az;simp[jZ,az,G]
   exact acC (nr gY ev dd jG 4000 (.code b::.inLoop keys b::k) .normal st a w h gA cP)
  ·unfold run at h;exact nr gY ev dd jG 4000 [.code c] .normal st a w h (by simp[jZ,aA]) cP
end
end bE
end Go.Proofs.YtlbppjmekiemiaaGreatDoor

