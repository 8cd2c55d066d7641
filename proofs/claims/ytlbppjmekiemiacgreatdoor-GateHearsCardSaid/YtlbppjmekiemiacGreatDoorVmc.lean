/- The executor on data: part 3 of 4. No condition. -/
import Derived.Test.YtlbppjmekiemiacGreatDoorVmb
import Derived.MapKept
/- The executor on data: maps of numbers to truths. No condition. -/
namespace Go.Proofs.YtlbppjmekiemiacGreatDoor
namespace Vm
section
open Go.MapKept
variable {P:Program} {tab:Tab} {μ μ':Mu} {mem mem':MemF} {w w':World} {S S':Nat→Prop}

theorem kd_map {T:Nat} {tab:Tab} (h:(tyAt tab T).map TI.kd=some .mapib):∃ ti,tyAt tab T=some ti∧ti.kd=.mapib:=by
 simpa using h
theorem und_map {T:Nat} (hT:TabOk P tab) (h:(tyAt tab T).map TI.kd=some .mapib) :
  ∃ K E i,P.underlying T=some (.map K E)∧P.underlying K=some (.int .i64)∧P.info? E=some i∧i.zero=some (.bool false):=by
 obtain ⟨ti,h1,h2⟩:=kd_map h
 have:=(hT.ok T ti h1).kind
 rw [h2] at this
 exact this

theorem op_makeMap {o:Oper} {a:Act} {T base:Nat} (ho:o.op=.makeMap T none) (I:Inv tab μ mem w S) (hb:mem base=none) :
  Runs P o a w (After tab μ mem w S [(base,.set [])] (.one (.mp base))):=by
 have hl:(Loc.bx w.heap.size).block=some w.heap.size∨(Loc.bx w.heap.size).block=none:=.inl rfl
 have E:=alloc_E (μ:=μ) (S:=S) (w:=w) (o:=.map #[] 0) (B:=.set []) hb hl
 refine runs_val (x:=.map (some w.heap.size)) (w':=w.alloc (.map #[] 0)) ?_ ⟨_,S,E,alloc_I hb hl I ⟨#[],0,heap_alloc_new w _,rfl,fun i c hi=>by simp at hi⟩,?_⟩
 ·simp [execOp,ho,Instr.makeMap]
 ·refine ⟨rfl,?_,fun cs _=>⟨w.heap.size,muU_eq,rfl⟩⟩
  rw [memU_eq]; exact fun h=>nomatch h

theorem sees_set {lm:Mem} {r:Nat} {ks:List Int} {x:Value} (hs:Sees lm mem) (I:Inv tab μ mem w S) (h:mapX lm r=some ks) (hx:RelV tab μ mem w S (.one (.mp r)) x) :
  mem r=some (.set ks)∧∃ b es clock,x=.map (some b)∧μ r=some (.bx b)∧w.heap[b]? = some (.map es clock)∧es.size=ks.length ∧
   ∀ (i:Nat) k,ks[i]? = some k→∃ e,es[i]? = some e∧e.key=.int .i64 k∧e.val=.bool true:=by
 unfold mapX at h
 split at h<;>try cases h
 rename_i hl
 have hm:=hs r _ hl trivial
 obtain ⟨b,hμ,hxe⟩:=hx.2.2 _ hm
 obtain ⟨l,e1,e2⟩:=I.rel r _ hm trivial
 rw [hμ] at e1; cases e1
 obtain ⟨es,clock,g1,g2,g3⟩:=e2
 exact ⟨hm,b,es,clock,hxe,hμ,g1,g2,g3⟩

theorem keys_int {es:Array MapEntry} {ks:List Int} (h1:es.size=ks.length) (h2:∀ (i:Nat) k,ks[i]? = some k→∃ e,es[i]? = some e∧e.key=.int .i64 k∧e.val=.bool true) {x:MapEntry} (hx:x∈es.toList) :
  ∃ k∈ks,x.key=.int .i64 k∧x.val=.bool true:=by
 obtain ⟨i,hi,rfl⟩:=List.getElem_of_mem hx
 have hk:i<ks.length:=by rw [← h1]; simpa using hi
 obtain ⟨e,e1,e2,e3⟩:=h2 i ks[i] (by simp [hk])
 have:es[i]? = some es.toList[i]:=by simp
 rw [this] at e1
 cases e1
 exact ⟨ks[i],List.getElem_mem hk,e2,e3⟩

theorem find_key {es:Array MapEntry} {ks:List Int} (h1:es.size=ks.length) (h2:∀ (i:Nat) k,ks[i]? = some k→∃ e,es[i]? = some e∧e.key=.int .i64 k∧e.val=.bool true) (k:Int) :
  (Instr.findNow (.int .i64) (.int .i64 k) es.toList 0=some none∧hasK k ks=false) ∨
  ∃ j e,Instr.findNow (.int .i64) (.int .i64 k) es.toList 0=some (some (j,.bool true))∧es[j]? = some e∧e.key=.int .i64 k∧hasK k ks=true:=by
 have hk:IsKey (.int .i64) (.int .i64 k):=rfl
 rcases findNow_spec hk es.toList 0 (fun x hx=>by obtain ⟨q,_,e,_⟩:=keys_int h1 h2 hx; rw [e]; exact rfl) with ⟨f1,f2⟩ | ⟨j,e,f1,f2,f3⟩
 ·refine .inl ⟨f1,decide_eq_false fun hm=>?_⟩
  obtain ⟨i,hi,rfl⟩:=List.getElem_of_mem hm
  obtain ⟨e,e1,e2,_⟩:=h2 i _ (List.getElem?_eq_getElem hi)
  exact f2 e (by have:=List.mem_of_getElem? (l:=es.toList) (i:=i) (a:=e) (by simpa using e1); exact this) e2
 ·obtain ⟨q,q1,q2,q3⟩:=keys_int h1 h2 (List.mem_of_getElem? f2)
  rw [f3] at q2
  cases q2
  refine .inr ⟨j,e,by rw [f1,q3,Nat.zero_add],by simpa using f2,f3,decide_eq_true q1⟩

theorem op_mapUpdate {o:Oper} {a:Act} {T:Nat} {x y z:Operand} {r:Nat} {k:Int} {ks:List Int} {lm:Mem} (hT:TabOk P tab) (ho:o.op=.mapUpdate T x y z) (ht:(tyAt tab T).map TI.kd=some .mapib)
  (I:Inv tab μ mem w S) (hs:Sees lm mem) (hx:RelV tab μ mem w S (.one (.mp r)) (a.eval x)) (hy:RelV tab μ mem w S (.one (.dat .int k)) (a.eval y)) (hz:RelV tab μ mem w S (.one (.dat .bool true)) (a.eval z))
  (h:mapX lm r=some ks):Runs P o a w (After tab μ mem w S [(r,.set (insK k ks))] (.one .undef)):=by
 obtain ⟨K,E,i,u1,u2,u3,u4⟩:=und_map hT ht
 obtain ⟨hm,b,es,clock,ex,hμ,g1,g2,g3⟩:=sees_set hs I h hx
 have ey:=rel_int hy
 have ez:=rel_bool hz
 have hk:IsKey (.int .i64) (.int .i64 k):=rfl
 have go:∀ (es':Array MapEntry) (clock':Nat),(Instr.mapUpdate T (.map (some b)) (.int .i64 k) (.bool true)).run P w=.ok () { w with heap:=w.heap.setIfInBounds b (.map es' clock') } →
   es'.size=(insK k ks).length→(∀ (i:Nat) q,(insK k ks)[i]? = some q→∃ e,es'[i]? = some e∧e.key=.int .i64 q∧e.val=.bool true)→Runs P o a w (After tab μ mem w S [(r,.set (insK k ks))] (.one .undef)):=fun es' clock' hrun hsz hall=>by
  have hb:=heap_set (o':=.map es' clock') g1
  have E:=write_E (S:=S) (w':={ w with heap:=w.heap.setIfInBounds b (.map es' clock') }) (B':=.set (insK k ks)) hm trivial hμ (b:=b) rfl trivial (by simp) hb.2 rfl rfl rfl
  refine runs_skip (w':={ w with heap:=w.heap.setIfInBounds b (.map es' clock') }) (by simp [execOp,ho,ex,ey,ez,hrun]) ⟨μ,S,E,write_I hm trivial hμ rfl (by simp) hb.2 E I ⟨es',clock',hb.1,hsz,hall⟩,trivial⟩
 rcases find_key g2 g3 k with ⟨f1,f2⟩ | ⟨j,e,f1,f2,f3,f4⟩
 ·have hi:insK k ks=ks++[k]:=by unfold insK; rw [f2]
  refine go (es.push { key:=.int .i64 k,val:=.bool true,born:=clock }) (clock+1) ?_ (by rw [hi]; simp [g2]) (fun i q hq=>?_)
  ·simp [Instr.mapUpdate,run_underlying u1,MapKept.run_getObj_map g1,run_checkKey u2 hk,run_findKey u2 f1,run_setObj_map _ g1,Result.andThen]
  ·rw [hi] at hq
   by_cases c:i<ks.length
   ·rw [List.getElem?_append_left c] at hq
    obtain ⟨e,e1,e2⟩:=g3 i q hq
    exact ⟨e,by rw [Array.getElem?_push,if_neg (by omega)]; exact e1,e2⟩
   ·have hi':i=ks.length:=by
     have:=(List.getElem?_eq_some_iff.1 hq).1
     simp at this; omega
    subst hi'
    simp at hq
    subst hq
    exact ⟨_,by rw [Array.getElem?_push,if_pos g2.symm],rfl,rfl⟩
 ·have hi:insK k ks=ks:=by unfold insK; rw [f4]
  refine go (es.modify j fun e=>{ e with key:=.int .i64 k,val:=.bool true }) clock ?_ (by rw [hi]; simp [g2]) (fun i q hq=>?_)
  ·simp [Instr.mapUpdate,run_underlying u1,MapKept.run_getObj_map g1,run_checkKey u2 hk,run_findKey u2 f1,f2,f3,run_keyThatStays hk,run_setObj_map _ g1,Result.andThen]
  ·rw [hi] at hq
   obtain ⟨e',e1,e2,e3⟩:=g3 i q hq
   rw [Array.getElem?_modify]
   by_cases c:j=i
   ·subst c
    rw [f2] at e1; cases e1
    rw [f2]
    refine ⟨{ e with key:=.int .i64 k,val:=.bool true },by simp,?_,rfl⟩
    rw [← e2,f3]
   ·rw [if_neg c]
    exact ⟨e',e1,e2,e3⟩

theorem op_lookup {o:Oper} {a:Act} {T:Nat} {x y:Operand} {r:Nat} {k:Int} {ks:List Int} {lm:Mem} (hT:TabOk P tab) (ho:o.op=.lookup T x y false) (ht:(tyAt tab T).map TI.kd=some .mapib)
  (I:Inv tab μ mem w S) (hs:Sees lm mem) (hx:RelV tab μ mem w S (.one (.mp r)) (a.eval x)) (hy:RelV tab μ mem w S (.one (.dat .int k)) (a.eval y))
  (h:mapX lm r=some ks):Runs P o a w (After tab μ mem w S [] (.one (.dat .bool (hasK k ks)))):=by
 obtain ⟨K,E,i,u1,u2,u3,u4⟩:=und_map hT ht
 obtain ⟨hm,b,es,clock,ex,hμ,g1,g2,g3⟩:=sees_set hs I h hx
 have ey:=rel_int hy
 have hk:IsKey (.int .i64) (.int .i64 k):=rfl
 refine runs_val (x:=.bool (hasK k ks)) (w':=w) ?_ (after_same I (mk_bool _))
 rcases find_key g2 g3 k with ⟨f1,f2⟩ | ⟨j,e,f1,f2,f3,f4⟩
 ·simp [execOp,ho,ex,ey,Instr.lookup,run_underlying u1,MapKept.run_getObj_map g1,run_checkKey u2 hk,run_findKey u2 f1,run_zero u3 u4,f2,Result.andThen]
 ·simp [execOp,ho,ex,ey,Instr.lookup,run_underlying u1,MapKept.run_getObj_map g1,run_checkKey u2 hk,run_findKey u2 f1,f4,Result.andThen]
end
end Vm
end Go.Proofs.YtlbppjmekiemiacGreatDoor


/- The executor on data: a list whose last element is given by its cells: how it comes to be. No condition. -/
namespace Go.Proofs.YtlbppjmekiemiacGreatDoor
namespace Vm
section
variable {P:Program} {tab:Tab} {μ μ':Mu} {mem mem':MemF} {w w':World} {S S':Nat→Prop}

theorem op_build1 {o:Oper} {a:Act} {T base:Nat} {ti:TI} {t:Ty} {ps:Array (Nat × Operand)} {v:V} {cs:List C} (hT:TabOk P tab) (ho:o.op=.buildSlice T 1 ps) (he:ps.toList.map (·.1)=[0]) (ht:tyAt tab T=some ti) (hk:ti.isSlice t=true)
  (I:Inv tab μ mem w S) (hv:RelVs tab μ mem w S [v] (ps.toList.map fun p=>a.eval p.2)) (hc:v.cells=some cs) (hl:cs.length=t.width) (hw:t.width≤16777216) (hb:mem base=none) :
  Runs P o a w (After tab μ mem w S [(base,.arx t [] cs)] (.one (.ownx base))):=by
 obtain ⟨e,i,z,hsl⟩:=und_slice hT ht hk
 obtain ⟨x,hps⟩:∃ x,ps=#[(0,x)]:=by
  obtain ⟨l⟩:=ps
  cases l with
  | nil=>cases he
  | cons p l=>cases l with
   | nil =>
    obtain ⟨k,x⟩:=p
    have:k=0:=by simpa using he
    subst this
    exact ⟨x,rfl⟩
   | cons q l=>simp at he
 subst hps
 have hx:RelV tab μ mem w S v (a.eval x):=hv.1
 obtain ⟨c1,c2⟩:=relV_cells hx hc
 have hpos:=hsl.pos
 have hrow:RelL (fun c y=>y.oneCell'=true∧RelC tab μ mem w S c y) (List.replicate t.width .undef) (madeCells (if 1*t.width=0 then #[] else z.cells) (1*t.width)).toList:=by
  refine ⟨by simp [size_madeCells],fun q c hq=>?_⟩
  have hql:q<t.width:=by have:=(List.getElem?_eq_some_iff.1 hq).1; simpa using this
  have hcu:c=.undef:=by simpa [hql] using hq.symm
  subst hcu
  have hne:¬ t.width=0:=by omega
  have hzl:q<z.cells.toList.length:=by simp [hsl.zs,hql]
  have hone:(z.cells.toList[q]).oneCell'=true:=List.all_eq_true.1 hsl.zone _ (List.getElem_mem hzl)
  have hbang:z.cells[q % z.cells.size]! = z.cells.toList[q]:=by
   rw [hsl.zs,Nat.mod_eq_of_lt hql,getElem!_def]
   have:z.cells[q]? = some z.cells.toList[q]:=by
    rw [← Array.getElem?_toList]
    exact List.getElem?_eq_getElem hzl
   rw [this]
  exact ⟨_,by simp [madeCells,hne,hql,hbang],hone,trivial⟩
 obtain ⟨cells,f1,f2⟩:=fill_rel (R:=fun c y=>y.oneCell'=true∧RelC tab μ mem w S c y) (place:=fun j=>some (j*t.width,t.width)) [(0,cs)] [0] [(0,a.eval x)] (List.replicate t.width .undef) cs _ hrow (by
   unfold placeAll
   have h1:Nat.ble (0+cs.length) (List.replicate t.width C.undef).length=true:=by simp [hl]
   rw [h1]
   have h2:put (List.replicate t.width C.undef) 0 cs=cs:=by
    unfold put
    rw [List.drop_of_length_le (by simp [hl])]
    simp
   simp only [h2,placeAll]) rfl rfl (fun j f u hf hu=>by
  cases j with
  | succ j=>simp at hf
  | zero =>
   simp at hf hu
   subst hf hu
   exact ⟨by simp [hl],by simp [c1],fun q c hq=>by obtain ⟨y,y1,y2,y3⟩:=c2 q c hq; exact ⟨y,by simpa using y1,y2,y3⟩⟩)
 have hloc:(Loc.ar (.slice (some (at0 w.heap.size 0)) 1 1)).block=some w.heap.size∨(Loc.ar (.slice (some (at0 w.heap.size 0)) 1 1)).block=none:=.inl rfl
 have E:=alloc_E (μ:=μ) (S:=S) (w:=w) (o:=.cells cells e) (B:=.arx t [] cs) hb hloc
 have hsz:cells.size=t.width:=by
  have:=f2.1
  rw [hl] at this
  simpa using this
 refine runs_of (s:=Instr.buildSlice T 1 #[(0,a.eval x)]) (x:=.slice (some (at0 w.heap.size 0)) 1 1) (w':=w.alloc (.cells cells e)) (by simp only [execOp,ho]; simp) (run_buildSlice hsl 1 (by omega) _ cells f1)
  ⟨muU base (.ar (.slice (some (at0 w.heap.size 0)) 1 1)) μ,S,E,?_,⟨rfl,by rw [memU_eq]; exact (fun h=>by cases h),fun t' l' cs' _=>muU_eq⟩⟩
 refine alloc_I hb hloc I ⟨w.heap.size,1,cells,e,rfl,heap_alloc_new w _,Nat.le_refl _,by unfold maxLen; omega,by omega,fun i j c hi=>absurd hi (Nat.not_lt_zero _),fun j c hj=>?_⟩
 obtain ⟨y,y1,y2,y3⟩:=f2.2 j c hj
 have hjl:=(List.getElem?_eq_some_iff.1 hj).1
 exact ⟨by omega,y,by simpa using y1,y2,y3.ext E I⟩

theorem append_arx {o:Oper} {a:Act} {s x:Operand} {T U base r:Nat} {ti:TI} {t:Ty} {e e2:Nat} {i:TypeInfo} {z:Value} {mem1:MemF} {S1:Nat→Prop} {Br:Blk} {xs:Value} {l0:List t.den} {cs:List C} {xa:Option Addr} {xc:Nat} {ys:List Value} {m:Mem}
  (ho:o.op=.call { callee:=.builtin .append,args:=#[s,x],argTypes:=#[T,U] }) (hsl:SlT P tab T t ti.bytes e i z) (hU:P.underlying U=some (.slice e2))
  (E1:Ext μ mem w S μ mem1 w S1) (I1:Inv tab μ mem1 w S1) (hr:mem1 r=some Br) (hra:Br.alive) (hb1:mem1 base=none) (hμr:μ r=some (.ar xs))
  (hs:(xs=.slice none 0 0∧l0=[])∨∃ b cap cur e',xs=.slice (some (at0 b 0)) l0.length cap∧w.heap[b]? = some (.cells cur e' (0,0))∧l0.length≤cap∧cap≤maxLen∧cap*t.width≤cur.size∧Cells tab w S1 t l0 (cur.toList.take (l0.length*t.width)))
  (es:a.eval s=xs) (ex:a.eval x=.slice xa 1 xc) (hyl:ys.length=t.width) (hyo:∀ u∈ys,u.oneCell'=true)
  (hyr:∀ (j:Nat) c,cs[j]? = some c→j<t.width∧∃ y,ys[j]? = some y∧y.oneCell'=true∧RelC tab μ mem1 w S1 c y)
  (hrun:∀ k k',(Builtin.firstCells t.width 1 (.slice xa k k')).run P w=.ok ys.toArray w∧(Builtin.firstCells t.width 1 (.slice xa k k')).run P w.drew=.ok ys.toArray w.drew)
  (hby:(l0.length+1)*ti.bytes≤140737488355328) (hm:memU m mem=memU [(r,.dead),(base,.arx t l0 cs)] mem1) :
  Runs P o a w (After tab μ mem w S m (.one (.ownx base))):=by
 have hne:base≠r:=fun e=>by subst e; rw [hr] at hb1; cases hb1
 have fin:∀ (v':Value) (w':World),(Builtin.append_ #[T,U] o.type #[xs,.slice xa 1 xc]).run P w=.ok v' w'→After tab μ mem w S m (.one (.ownx base)) v' w'→Runs P o a w (After tab μ mem w S m (.one (.ownx base))):=fun v' w' hr ha =>
  runs_val (x:=v') (w':=w') (by simp [execOp,ho,resolve,invoke,builtin,es,ex,hr]) ha
 have bound:l0.length+1≤140737488355328:=Nat.le_trans (Nat.le_mul_of_pos_right _ hsl.bpos) hby
 have fresh:∀ (ad:Option Addr) (cap:Nat) (olds:List Value),xs=.slice ad l0.length cap→¬ l0.length+1≤cap→Cells tab w S1 t l0 olds→(Builtin.firstCells t.width l0.length (.slice ad l0.length cap)).run P w.drew=.ok olds.toArray w.drew→Runs P o a w (After tab μ mem w S m (.one (.ownx base))):=by
  intro ad cap olds exs hroom hold hor
  have hrn:=run_append_new (P:=P) (w:=w) (ty:=o.type) hsl.und hU hsl.info hsl.zero hsl.size ad l0.length cap 1 xa xc olds ys hor (hrun _ xc).2 hroom (by rw [hsl.bytes]; exact hby) (by rw [hsl.bytes]; exact hsl.bpos)
  generalize hcur:olds.toArray++ys.toArray++Builtin.zeroCells z.cells (grownCap w (l0.length+1) cap e-(l0.length+1))=cur' at hrn
  have hge:=grownCap_ge w (l0.length+1) cap e
  have hgm:=grownCap_le_maxLen w (l0.length+1) cap e (by unfold maxLen; omega)
  generalize grownCap w (l0.length+1) cap e=ncap at hrn hge hgm hcur
  have hcsz:cur'.size=ncap*t.width:=by
   subst hcur
   have:l0.length*t.width+t.width=(l0.length+1)*t.width:=by rw [Nat.add_mul]; omega
   simp only [Array.size_append,List.size_toArray,size_zeroCells,hsl.zs,hold.1,hyl]
   rw [this,← Nat.add_mul]
   congr 1; omega
  obtain ⟨E2,I2⟩:=kill_EI I1 (r:=r) (by rw [hr]; exact (fun h=>by cases h)) False
  generalize hS2:(fun b=>S1 b∨False∧Live mem1 r∧∃ l,μ r=some l∧l.block=some b)=S2 at E2 I2
  generalize hm2:memU [(r,.dead)] mem1=mem2 at E2 I2
  have hb2:mem2 base=none:=by rw [← hm2,memU_ne hne]; exact hb1
  have hmm:memU m mem=memU [(base,.arx t l0 cs)] mem2:=by
   rw [hm,← hm2]
   funext q
   by_cases c1:q=r
   ·subst c1
    rw [memU_cons,memU_eq,memU_ne (Ne.symm hne),memU_eq]
   ·by_cases c2:q=base
    ·subst c2
     rw [memU_cons,memU_ne c1,memU_eq,memU_eq]
    ·rw [memU_cons,memU_ne c1,memU_ne c2,memU_ne c2,memU_ne c1]
  have hl:(Loc.ar (.slice (some (at0 w.heap.size 0)) (l0.length+1) ncap)).block=some w.heap.size∨(Loc.ar (.slice (some (at0 w.heap.size 0)) (l0.length+1) ncap)).block=none:=.inl rfl
  have Ed:Ext μ mem2 w S2 μ mem2 w.drew S2:=⟨fun _ h=>h,(Ext.refl (μ:=μ) (mem:=mem2) (w:=w) (S:=S2)).kinds,fun _ h=>h,Nat.le_refl _,fun _ _ _=>rfl,fun _ h=>.inl h,fun _ h=>.inl h,rfl,rfl,rfl⟩
  have Id:Inv tab μ mem2 w.drew S2:=⟨fun q B h1 h2=>by obtain ⟨l',e1,e2⟩:=I2.rel q B h1 h2; exact ⟨l',e1,e2.ext Ed I2 fun _ _=>rfl⟩,I2.inj,I2.sep,I2.lt,I2.pow.of_heap rfl⟩
  have E3:=alloc_E (μ:=μ) (S:=S2) (w:=w.drew) (o:=.cells cur' e) (B:=.arx t l0 cs) hb2 hl
  have E12:=(E2.trans Ed).trans E3
  rw [exs] at fin
  refine fin _ _ hrn ⟨_,S2,by rw [hmm]; exact E1.trans E12,by
   rw [hmm]
   refine alloc_I hb2 hl Id ⟨w.heap.size,ncap,cur',e,rfl,heap_alloc_new w.drew _,hge,hgm,by omega,fun i j c hi hj=>?_,fun j c hj=>?_⟩
   ·obtain ⟨y,y1,y2⟩:=hold.2.2 i j c hi hj
    have hlt:i*t.width+j<olds.length:=(List.getElem?_eq_some_iff.1 y1).1
    refine ⟨y,?_,y2.oneCell,y2.mono E12.sub (E12.keeps I1)⟩
    subst hcur
    rw [Array.getElem?_append_left (by simp; omega),Array.getElem?_append_left (by simpa using hlt)]
    simpa using y1
   ·obtain ⟨y0,y,y1,y2,y3⟩:=hyr j c hj
    refine ⟨y0,y,?_,y2,y3.ext E12 I1⟩
    subst hcur
    have h1:=hold.1
    rw [Array.getElem?_append_left (by simp; omega),Array.getElem?_append_right (by simp; omega),← y1]
    simp only [List.size_toArray,List.getElem?_toArray]
    congr 1; omega,rfl,by rw [hmm,memU_eq]; exact (fun h=>by cases h),fun _ _ _ _=>muU_eq⟩
 rcases hs with ⟨exs,rfl⟩ | ⟨b,cap,cur,e',exs,hbk,hlc,hcm,hsz,hold⟩
 ·exact fresh none 0 [] exs (by simp) ⟨by simp,fun u hu=>by simp at hu,fun i j c hi=>by simp at hi⟩ (by simp [Builtin.firstCells])
 ·by_cases hroom:l0.length+1≤cap
  ·-- it fits
   have hw1:(l0.length+1)*t.width≤cap*t.width:=Nat.mul_le_mul_right _ hroom
   rw [Nat.add_mul,Nat.one_mul] at hw1
   have hst:=run_storeCells_at P b (l0.length*t.width) e' ys 0 cur w hbk (by omega) hyo
   simp only [Nat.add_zero] at hst
   generalize hcur:(cur.toList.take (l0.length*t.width)++ys++cur.toList.drop (l0.length*t.width+ys.length)).toArray=cur' at hst
   obtain ⟨q1,q2,q3,q4⟩:=setRow_facts (w:=w) b cur'
   have hrn:=run_append_fit (P:=P) (w:=w) (w':=w.setRow b cur') (ty:=o.type) hsl.und hU hsl.info hsl.size (some (at0 b 0)) l0.length cap 1 xa xc ys (hrun _ xc).1 hroom (by simpa [at0,Addr.add_lit] using hst)
   obtain ⟨E2,hI⟩:=pass_EI (B':=.arx t l0 cs) (l':=.ar (.slice (some (at0 b 0)) (l0.length+1) cap)) (w':=w.setRow b cur') hr hra hb1 hμr (by rw [exs]; rfl) q1 (fun k hk=>setRow_other w b k cur' (fun e=>hk (by rw [exs,e]; rfl))) q2 q3 q4 I1
   have hcl:cur'.size=cur.size:=by
    subst hcur
    simp; omega
   rw [exs] at fin
   refine fin _ _ hrn ⟨_,S1,by rw [hm]; exact E1.trans E2,by
    rw [hm]
    refine hI ⟨b,cap,cur',e',rfl,setRow_heap w b cur cur' e' (0,0) hbk,hroom,hcm,by rw [hcl]; exact hsz,fun i j c hi hj=>?_,fun j c hj=>?_⟩
    ·obtain ⟨y,y1,y2⟩:=hold.2.2 i j c hi hj
     have hlt:i*t.width+j<(cur.toList.take (l0.length*t.width)).length:=(List.getElem?_eq_some_iff.1 y1).1
     refine ⟨y,?_,y2.oneCell,y2.mono E2.sub (E2.keeps I1)⟩
     subst hcur
     rw [List.getElem?_toArray,List.append_assoc,List.getElem?_append_left hlt]
     exact y1
    ·obtain ⟨y0,y,y1,y2,y3⟩:=hyr j c hj
     refine ⟨y0,y,?_,y2,y3.ext E2 I1⟩
     subst hcur
     have ht:(cur.toList.take (l0.length*t.width)).length=l0.length*t.width:=by simp; omega
     rw [List.getElem?_toArray,List.append_assoc,List.getElem?_append_right (by omega),ht,List.getElem?_append_left (by omega),← y1]
     congr 1; omega,rfl,by rw [hm,memU_cons,memU_ne hne,memU_eq]; exact (fun h=>by cases h),fun _ _ _ _=>muU_eq⟩
  ·refine fresh _ cap _ exs hroom hold ?_
   have:=run_loadCells_list (P:=P) w.drew (at0 b 0) (cur.toList.take (l0.length*t.width)) (fun j v hj=>by
    rw [World.cell?_drew,at0,Addr.add_lit,Nat.zero_add]
    refine cell?_at hbk ?_
    have hjl:j<l0.length*t.width:=by
     have:=(List.getElem?_eq_some_iff.1 hj).1
     simp at this; omega
    rw [List.getElem?_take_of_lt hjl] at hj
    simpa using hj)
   rw [hold.1] at this
   simpa [Builtin.firstCells] using this

theorem dat0_arr {lm:Mem} {c d:C} {ns:List Nat} (h:dat0 lm c=some (d,ns)):∀ q∈ns,∃ t l,look lm q=some (.arr t l):=by
 cases c with
 | own r =>
  simp only [dat0] at h
  split at h<;>try cases h
  rename_i t l hl
  intro q hq
  rw [List.mem_singleton.1 hq]
  exact ⟨t,l,hl⟩
 | dat t d=>simp only [dat0] at h; cases h; exact fun q hq=>by cases hq
 | nil t=>simp only [dat0] at h; cases h; exact fun q hq=>by cases hq
 | _=>simp only [dat0] at h; cases h
theorem dats0_arr {lm:Mem}:∀ {cs ds:List C} {ns:List Nat},dats0 lm cs=some (ds,ns)→∀ q∈ns,∃ t l,look lm q=some (.arr t l)
 | [],ds,ns,h=>by simp only [dats0] at h; cases h; exact fun q hq=>by cases hq
 | c::cs,ds,ns,h=>by
  simp only [dats0] at h
  split at h<;>try cases h
  rename_i d1 n1 h1
  split at h<;>try cases h
  rename_i ds' ms h2
  intro q hq
  rcases List.mem_append.1 hq with hq | hq
  ·exact dat0_arr h1 q hq
  ·exact dats0_arr h2 q hq
theorem lastX_arr {lm:Mem} {t:Ty} {cs:List C} {d:t.den} {ns:List Nat} (h:lastX lm t cs=some (d,ns)):∀ q∈ns,∃ t l,look lm q=some (.arr t l):=by
 unfold lastX at h
 split at h<;>try cases h
 rename_i ds ms h1
 split at h<;>try cases h
 exact dats0_arr h1

theorem op_appendY {o:Oper} {a:Act} {s x:Operand} {T U base q:Nat} {ti tj:TI} {c:C} {lm:Mem} {p:Option Prop} {v:V} {m:Mem} {u:Ty} (hT:TabOk P tab) (ho:o.op=.call { callee:=.builtin .append,args:=#[s,x],argTypes:=#[T,U] })
  (ht:tyAt tab T=some ti) (hu:tyAt tab U=some tj) (hju:tj.elem=some u) (I:Inv tab μ mem w S) (hs:Sees lm mem) (hb:mem base=none)
  (hS:RelV tab μ mem w S (.one c) (a.eval s)) (hX:RelV tab μ mem w S (.one (.ownx q)) (a.eval x)) (h:appendY ti base ti.bytes lm c q=some (p,v,m)) (hp:under p True) :
  Runs P o a w (After tab μ mem w S m v):=by
 unfold appendY at h
 split at h<;>try cases h
 rename_i t cs hq
 split at h<;>try cases h
 rename_i hk
 split at h<;>try cases h
 rename_i hcl
 have hcl:=Nat.eq_of_beq_eq_true hcl
 obtain ⟨e,i,z,hsl⟩:=und_slice hT ht hk
 have hU:∃ e2,P.underlying U=some (.slice e2):=by
  have hkind:=(hT.ok U tj hu).kind
  unfold TI.elem at hju
  cases hkd:tj.kd with
  | slice t' e'=>rw [hkd] at hkind; exact ⟨e',hkind.1⟩
  | _=>rw [hkd] at hju; cases hju
 obtain ⟨e2,hU⟩:=hU
 obtain ⟨hmq,bq,capq,curq,eq,exq,hμq,k1,k2,k3,k4,_,k6⟩:=arx_own hs I hq hX
 have hw1:1*t.width≤capq*t.width:=Nat.mul_le_mul_right _ (by simpa using k2)
 have hyl:(curq.toList.take t.width).length=t.width:=by simp; omega
 have hrun:∀ k k',(Builtin.firstCells t.width 1 (.slice (some (at0 bq 0)) k k')).run P w=.ok (curq.toList.take t.width).toArray w∧(Builtin.firstCells t.width 1 (.slice (some (at0 bq 0)) k k')).run P w.drew=.ok (curq.toList.take t.width).toArray w.drew:=fun k k'=>by
  have gen:∀ w2:World,w2.heap=w.heap→(Builtin.firstCells t.width 1 (.slice (some (at0 bq 0)) k k')).run P w2=.ok (curq.toList.take t.width).toArray w2:=fun w2 h2=>by
   have:=run_loadCells_list (P:=P) w2 (at0 bq 0) (curq.toList.take t.width) (fun j v hj=>by
    rw [at0,Addr.add_lit,Nat.zero_add]
    refine cell?_at (w:=w2) (by rw [h2]; exact k1) ?_
    have hjl:j<t.width:=by
     have:=(List.getElem?_eq_some_iff.1 hj).1
     simp at this; omega
    rw [List.getElem?_take_of_lt hjl] at hj
    simpa using hj)
   rw [hyl] at this
   simpa [Builtin.firstCells] using this
  exact ⟨gen w rfl,gen w.drew rfl⟩
 have hlast:∀ {S1:Nat→Prop} {mem1:MemF},Ext μ mem w S μ mem1 w S1→∀ (j:Nat) c,cs[j]? = some c→j<t.width∧∃ y,(curq.toList.take t.width)[j]? = some y∧y.oneCell'=true∧RelC tab μ mem1 w S1 c y:=fun E j c hj=>by
  obtain ⟨y0,y,y1,y2,y3⟩:=k6 j c hj
  refine ⟨y0,y,?_,y2,y3.ext E I⟩
  rw [List.getElem?_take_of_lt y0]
  simpa using y1
 have hyo:∀ u∈curq.toList.take t.width,u.oneCell'=true:=fun u hu=>by
  obtain ⟨j,hj⟩:=List.getElem?_of_mem hu
  have hjl:=(List.getElem?_eq_some_iff.1 hj).1
  rw [hyl] at hjl
  have hjc:j<cs.length:=by omega
  obtain ⟨_,y,y1,y2,_⟩:=hlast Ext.refl j _ (List.getElem?_eq_getElem hjc)
  rw [hj] at y1
  cases y1
  exact y2
 cases c with
 | own r =>
  simp only at h
  split at h<;>try cases h
  rename_i t' l hl
  split at h<;>try cases h
  rename_i ht'
  subst ht'
  obtain ⟨hmr,hμr,hrel⟩:=own_arr hs I hl hS
  have hrq:r≠q:=fun e=>by subst e; rw [hmr] at hmq; cases hmq
  obtain ⟨E1,I1⟩:=kills_EI (ns:=[q]) I
  have hd:memU (deads [q]) mem=fun p=>if p=q then some .dead else mem p:=by
   funext p
   rcases memU_deads (mem:=mem) [q] p with ⟨h1,h2⟩ | ⟨h1,h2⟩
   ·simp at h1; rw [h2,if_pos h1]
   ·simp at h1; rw [h2,if_neg h1]
  have hbq:base≠q:=fun e=>by subst e; rw [hmq] at hb; cases hb
  have hbr:base≠r:=fun e=>by subst e; rw [hmr] at hb; cases hb
  refine append_arx (Br:=.arr t l) (mem1:=memU (deads [q]) mem) (xs:=a.eval s) (l0:=l) ho hsl hU E1 I1 (by rw [hd]; simp only [if_neg hrq]; exact hmr) trivial (by rw [hd]; simp only [if_neg hbq]; exact hb) hμr ?_ rfl exq hyl hyo (hlast E1) hrun hp.1 ?_
  ·rcases hrel with ⟨h1,h2⟩ | ⟨b,cap,cur,e',h1,hbk,g3,g4,g5,g6⟩
   ·exact .inl ⟨h1,h2⟩
   ·have hc:=own_cells g3 g5 g6 0 l.length (Nat.zero_le _) (Nat.le_refl _)
    have e0:slc l 0 l.length=l:=by simp [slc]
    rw [e0] at hc
    simp only [Nat.zero_mul,List.drop_zero,Nat.sub_zero] at hc
    exact .inr ⟨b,cap,cur,e',h1,hbk,g3,g4,g5,hc.mono E1.sub (E1.keeps I)⟩
  ·rw [hd]
   funext p
   by_cases c1:p=r
   ·subst c1
    rw [memU_cons,memU_eq,memU_cons,memU_eq]
   ·by_cases c2:p=base
    ·subst c2
     rw [memU_cons,memU_ne hbr,memU_cons,memU_ne hbq,memU_eq,memU_cons,memU_ne hbr,memU_eq]
    ·by_cases c3:p=q
     ·subst c3
      rw [memU_cons,memU_ne c1,memU_cons,memU_eq,memU_cons,memU_ne c1,memU_ne c2]
      simp
     ·rw [memU_cons,memU_ne c1,memU_cons,memU_ne c3,memU_ne c2,memU_cons,memU_ne c1,memU_ne c2]
      simp [c3]
 | ownx r =>
  simp only at h
  split at h<;>try cases h
  rename_i hrq'
  split at h<;>try cases h
  rename_i t' l cs0 hl
  split at h<;>try cases h
  rename_i ht'
  subst ht'
  split at h<;>try cases h
  rename_i d ns hd0
  have hrq:r≠q:=fun e=>by subst e; simp [Nat.beq_refl] at hrq'
  obtain ⟨hmr,b,cap,cur,e',exs,hμr,hA⟩:=arx_own hs I hl hS
  obtain ⟨n1,n2⟩:=arx_list I hs hA hd0
  obtain ⟨g1,g2,g3,g4,_,_⟩:=hA
  have hrn:r∉ns:=fun h=>by
   obtain ⟨t2,l2,h2⟩:=lastX_arr hd0 r h
   rw [hl] at h2
   cases h2
  have hbn:base∉ns:=fun h=>n1 base h hb
  obtain ⟨E1,I1⟩:=kills_EI (ns:=q::ns) I
  have hd:memU (deads (q::ns)) mem=fun p=>if p∈q::ns then some .dead else mem p:=by
   funext p
   rcases memU_deads (mem:=mem) (q::ns) p with ⟨h1,h2⟩ | ⟨h1,h2⟩
   ·rw [h2,if_pos h1]
   ·rw [h2,if_neg h1]
  have hbq:base≠q:=fun e=>by subst e; rw [hmq] at hb; cases hb
  have hbr:base≠r:=fun e=>by subst e; rw [hmr] at hb; cases hb
  have hr':r∉q::ns:=by simp [hrq,hrn]
  have hb':base∉q::ns:=by simp [hbq,hbn]
  have e3:(cat l [d]).length=l.length+1:=by simp [cat]
  refine append_arx (Br:=.arx t l cs0) (mem1:=memU (deads (q::ns)) mem) (xs:=a.eval s) (l0:=cat l [d]) ho hsl hU E1 I1 (by rw [hd]; simp only [if_neg hr']; exact hmr) trivial (by rw [hd]; simp only [if_neg hb']; exact hb) hμr (.inr ⟨b,cap,cur,e',by rw [e3]; exact exs,g1,by rw [e3]; exact g2,g3,g4,?_⟩) rfl exq hyl hyo (hlast E1) hrun (by rw [e3]; exact hp.1) ?_
  ·have hc:=own_cells (S:=Froz μ mem S ns) (by rw [e3]; exact g2) g4 n2 0 (cat l [d]).length (Nat.zero_le _) (Nat.le_refl _)
   have e0:slc (cat l [d]) 0 (cat l [d]).length=cat l [d]:=by simp [slc]
   rw [e0] at hc
   simp only [Nat.zero_mul,List.drop_zero,Nat.sub_zero] at hc
   exact hc.mono (fun b hb=>hb.imp id fun ⟨r,hr,h⟩=>⟨r,List.mem_cons_of_mem _ hr,h⟩) (fun _ _=>rfl)
  ·rw [hd]
   have hdn:∀ p,memU (deads ns) mem p=if p∈ns then some .dead else mem p:=fun p=>by
    rcases memU_deads (mem:=mem) ns p with ⟨h1,h2⟩ | ⟨h1,h2⟩
    ·rw [h2,if_pos h1]
    ·rw [h2,if_neg h1]
   funext p
   by_cases c1:p=r
   ·subst c1
    rw [memU_cons,memU_eq,memU_cons,memU_eq]
   ·by_cases c2:p=base
    ·subst c2
     rw [memU_cons,memU_ne hbr,memU_cons,memU_ne hbq,memU_cons,memU_eq,memU_cons,memU_ne hbr,memU_eq]
    ·by_cases c3:p=q
     ·subst c3
      rw [memU_cons,memU_ne c1,memU_cons,memU_eq,memU_cons,memU_ne c1,memU_ne c2]
      simp
     ·rw [memU_cons,memU_ne c1,memU_cons,memU_ne c3,memU_cons,memU_ne c2,memU_cons,memU_ne c1,memU_ne c2,hdn]
      simp [c3]
 | _=>simp only at h; cases h
end
end Vm
end Go.Proofs.YtlbppjmekiemiacGreatDoor


/- The executor on data: calls, by contracts. No condition. -/
namespace Go.Proofs.YtlbppjmekiemiacGreatDoor
namespace Vm
section
variable {P:Program} {tab:Tab} {μ μ' μ1 μ2:Mu} {mem mem' mem1 mem2:MemF} {w w':World} {S S':Nat→Prop}

def memL (bs:List Blk):MemF:=fun r=>bs[r]?

def AC (P:Program) (tab:Tab) (f:Nat) (vs:List V) (bs:List Blk) (v:V) (bs':List Blk):Prop :=
 ∀ (w:World) (S:Nat→Prop) (μ:Mu) (xs:List Value),Inv tab μ (memL bs) w S→RelVs tab μ (memL bs) w S vs xs →
  Calls P f xs.toArray w fun e w'=>∃ x μ' S',e=.returned x∧Ext μ (memL bs) w S μ' (memL bs') w' S'∧Inv tab μ' (memL bs') w' S'∧RelV tab μ' (memL bs') w' S' v x

def SoundC (P:Program) (tab:Tab) (f:Nat) (C:Contract):Prop :=
 ∀ vs bs p v bs',C vs bs=some (p,v,bs')→under p True→AC P tab f vs bs v bs'

def Sound (P : Program) (tab : Tab) (Γ : Ctx) : Prop := ∀ f C, look Γ f = some C → SoundC P tab f C ∧ (∃ fn, P.funcs[f]? = some fn ∧ fn.body.isSome = true ∧ (fn.name == "runtime.NumGoroutine") = false)

def KindEq:Blk→Blk→Prop
 | .box _,.box _=>True
 | .arr t _,.arr u _=>t=u
 | .set _,.set _=>True
 | .arx t l _,.arx u k _=>t=u∧l.length=k.length
 | _,_=>False

def Renames (μ1:Mu) (mem1:MemF) (μ2:Mu) (mem2:MemF) (f:Nat→Nat) (r:Nat):Prop :=
 mem1 r≠none→mem2 (f r)≠none∧∀ B2,mem2 (f r)=some B2→B2.alive→∃ B1,mem1 r=some B1∧KindEq B1 B2∧μ2 (f r)=μ1 r

theorem RelC.ren {f:Nat→Nat} {c:C} {x:Value} (h:RelC tab μ1 mem1 w S c x) (hr:∀ r∈c.names,Renames μ1 mem1 μ2 mem2 f r):RelC tab μ2 mem2 w S (c.ren f) x:=by
 cases c with
 | dat t d=>exact h
 | nil t=>exact h
 | undef=>trivial
 | any=>trivial
 | eptr t l i k=>exact h
 | ptr r o =>
  obtain ⟨h0,h1⟩:=h
  obtain ⟨g0,g1⟩:=hr r (by simp [C.names]) h0
  refine ⟨g0,fun cs hcs=>?_⟩
  obtain ⟨B1,e1,e2,e3⟩:=g1 _ hcs trivial
  cases B1 with
  | box cs1=>obtain ⟨b,k1,k2⟩:=h1 cs1 e1; exact ⟨b,e3.trans k1,k2⟩
  | _=>exact e2.elim
 | mp r =>
  obtain ⟨h0,h1⟩:=h
  obtain ⟨g0,g1⟩:=hr r (by simp [C.names]) h0
  refine ⟨g0,fun cs hcs=>?_⟩
  obtain ⟨B1,e1,e2,e3⟩:=g1 _ hcs trivial
  cases B1 with
  | set cs1=>obtain ⟨b,k1,k2⟩:=h1 cs1 e1; exact ⟨b,e3.trans k1,k2⟩
  | _=>exact e2.elim
 | own r =>
  obtain ⟨h0,h1⟩:=h
  obtain ⟨g0,g1⟩:=hr r (by simp [C.names]) h0
  refine ⟨g0,fun t l hcs=>?_⟩
  obtain ⟨B1,e1,e2,e3⟩:=g1 _ hcs trivial
  cases B1 with
  | arr t1 l1=>exact e3.trans (h1 t1 l1 e1)
  | _=>exact e2.elim
 | view r off n =>
  obtain ⟨h0,h1⟩:=h
  obtain ⟨g0,g1⟩:=hr r (by simp [C.names]) h0
  refine ⟨g0,fun t l hcs=>?_⟩
  obtain ⟨B1,e1,e2,e3⟩:=g1 _ hcs trivial
  cases B1 with
  | arr t1 l1 =>
   obtain ⟨y,k1,k2⟩:=h1 t1 l1 e1
   have:t1=t:=e2
   subst this
   exact ⟨y,e3.trans k1,k2⟩
  | _=>exact e2.elim
 | cut r n =>
  obtain ⟨h0,h1⟩:=h
  obtain ⟨g0,g1⟩:=hr r (by simp [C.names]) h0
  refine ⟨g0,fun t l hcs=>?_⟩
  obtain ⟨B1,e1,e2,e3⟩:=g1 _ hcs trivial
  cases B1 with
  | arr t1 l1 =>
   obtain ⟨a,m,cap,k1,k2⟩:=h1 t1 l1 e1
   exact ⟨a,m,cap,e3.trans k1,k2⟩
  | _=>exact e2.elim
 | optr r i k =>
  obtain ⟨h0,h1⟩:=h
  obtain ⟨g0,g1⟩:=hr r (by simp [C.names]) h0
  refine ⟨g0,fun t l hcs=>?_⟩
  obtain ⟨B1,e1,e2,e3⟩:=g1 _ hcs trivial
  cases B1 with
  | arr t1 l1 =>
   obtain ⟨b,m,cap,k1,k2⟩:=h1 t1 l1 e1
   have:t1=t:=e2
   subst this
   exact ⟨b,m,cap,e3.trans k1,k2⟩
  | _=>exact e2.elim
 | ownx r =>
  obtain ⟨h0,h1⟩:=h
  obtain ⟨g0,g1⟩:=hr r (by simp [C.names]) h0
  refine ⟨g0,fun t l cs hcs=>?_⟩
  obtain ⟨B1,e1,e2,e3⟩:=g1 _ hcs trivial
  cases B1 with
  | arx t1 l1 cs1=>exact e3.trans (h1 t1 l1 cs1 e1)
  | _=>exact e2.elim
 | optx r k =>
  obtain ⟨h0,h1⟩:=h
  obtain ⟨g0,g1⟩:=hr r (by simp [C.names]) h0
  refine ⟨g0,fun t l cs hcs=>?_⟩
  obtain ⟨B1,e1,e2,e3⟩:=g1 _ hcs trivial
  cases B1 with
  | arx t1 l1 cs1 =>
   obtain ⟨b,m,cap,k1,k2⟩:=h1 t1 l1 cs1 e1
   obtain ⟨ht,hl⟩:=e2
   subst ht
   exact ⟨b,m,cap,e3.trans k1,by rw [← hl]; exact k2⟩
  | _=>exact e2.elim
 | fn g caps =>
  obtain ⟨h0,vs,h1,h2,h3⟩:=h
  refine ⟨fun q hq=>?_,vs,h1,by simpa using h2,fun i q hq=>?_⟩
  ·simp only [List.mem_map] at hq
   obtain ⟨r,hr',rfl⟩:=hq
   exact (hr r hr' (h0 r hr')).1
  ·simp only [List.getElem?_map,Option.map_eq_some_iff] at hq
   obtain ⟨r,hr',rfl⟩:=hq
   have hm:=List.mem_of_getElem? hr'
   obtain ⟨y,y1,y2,y3⟩:=h3 i r hr'
   refine ⟨y,y1,y2,fun cs hcs=>?_⟩
   obtain ⟨B1,e1,e2,e3⟩:=(hr r hm (h0 r hm)).2 _ hcs trivial
   cases B1 with
   | box cs1=>obtain ⟨b,k1,k2⟩:=y3 cs1 e1; exact ⟨b,e3.trans k1,k2⟩
   | _=>exact e2.elim

theorem RelW.ren {f:Nat→Nat} {v:V} {x:Value} (h:RelW tab μ1 mem1 w S v x) (hr:∀ r∈v.names,Renames μ1 mem1 μ2 mem2 f r):RelW tab μ2 mem2 w S (v.ren f) x:=by
 cases v with
 | one c=>exact ⟨h.1,h.2.ren hr⟩
 | agg cs =>
  obtain ⟨xs,e,h1,h2⟩:=h
  refine ⟨xs,e,by simpa using h1,fun i c hi=>?_⟩
  simp only [List.getElem?_map,Option.map_eq_some_iff] at hi
  obtain ⟨c0,hc,rfl⟩:=hi
  obtain ⟨y,y1,y2,y3⟩:=h2 i c0 hc
  exact ⟨y,y1,y2,y3.ren fun r hr'=>hr r (by simp only [V.names,List.mem_flatMap]; exact ⟨c0,List.mem_of_getElem? hc,hr'⟩)⟩
 | tup vs=>exact h.elim

def V.allNames:V→List Nat
 | .tup vs=>vs.flatMap V.names
 | v=>v.names

theorem RelV.ren {f:Nat→Nat} {v:V} {x:Value} (h:RelV tab μ1 mem1 w S v x) (hr:∀ r∈v.allNames,Renames μ1 mem1 μ2 mem2 f r):RelV tab μ2 mem2 w S (v.ren f) x:=by
 cases v with
 | one c =>
  have:RelW tab μ1 mem1 w S (.one c) x∨c=.undef:=by cases c<;>first | exact .inr rfl | exact .inl h
  rcases this with h' | rfl
  ·have:=h'.ren (μ2:=μ2) (mem2:=mem2) (f:=f) hr
   cases c<;>first | trivial | exact this
  ·trivial
 | agg cs=>exact RelW.ren (v:=.agg cs) h hr
 | tup vs =>
  obtain ⟨xs,e,h1,h2⟩:=h
  refine ⟨xs,e,by simpa using h1,fun i u hi=>?_⟩
  simp only [List.getElem?_map,Option.map_eq_some_iff] at hi
  obtain ⟨u0,hu,rfl⟩:=hi
  obtain ⟨y,y1,y2⟩:=h2 i u0 hu
  have hm:∀ r∈u0.names,Renames μ1 mem1 μ2 mem2 f r:=fun r hr'=>hr r (by simp only [V.allNames,List.mem_flatMap]; exact ⟨u0,List.mem_of_getElem? hu,hr'⟩)
  refine ⟨y,y1,?_⟩
  cases u0 with
  | one c=>exact RelW.ren (v:=.one c) y2 hm
  | agg cs=>exact RelW.ren (v:=.agg cs) y2 hm
  | tup us=>exact y2.elim

theorem BlkRel.ren {f:Nat→Nat} {B:Blk} {l:Loc} (h:BlkRel tab μ1 mem1 w S B l) (hr:∀ r∈B.names,Renames μ1 mem1 μ2 mem2 f r):BlkRel tab μ2 mem2 w S (B.ren f) l:=by
 cases B with
 | dead=>exact h.elim
 | box cs =>
  cases l with
  | ar x=>exact h.elim
  | bx b =>
   obtain ⟨vs,e,h1,h2,h3⟩:=h
   refine ⟨vs,e,h1,by simpa using h2,fun i c hi=>?_⟩
   simp only [List.getElem?_map,Option.map_eq_some_iff] at hi
   obtain ⟨c0,hc,rfl⟩:=hi
   obtain ⟨y,y1,y2,y3⟩:=h3 i c0 hc
   exact ⟨y,y1,y2,y3.ren fun r hr'=>hr r (by simp only [Blk.names,List.mem_flatMap]; exact ⟨c0,List.mem_of_getElem? hc,hr'⟩)⟩
 | set ks =>
  cases l with
  | ar x=>exact h.elim
  | bx b=>exact h
 | arx t ll cs =>
  cases l with
  | bx b=>exact h.elim
  | ar x =>
   obtain ⟨b,cap,cur,e,h1,h2,h3,h4,h5,h6,h7⟩:=h
   refine ⟨b,cap,cur,e,h1,h2,h3,h4,h5,h6,fun j c hj=>?_⟩
   simp only [List.getElem?_map,Option.map_eq_some_iff] at hj
   obtain ⟨c0,hc,rfl⟩:=hj
   obtain ⟨y0,y,y1,y2,y3⟩:=h7 j c0 hc
   exact ⟨y0,y,y1,y2,y3.ren fun r hr'=>hr r (by simp only [Blk.names,List.mem_flatMap]; exact ⟨c0,List.mem_of_getElem? hc,hr'⟩)⟩
 | arr t ll =>
  cases l with
  | bx b=>exact h.elim
  | ar x=>exact h

theorem unNil_rel {v:V} {x:Value} (h:RelV tab μ mem w S v x):RelV tab μ mem w S (unNil v) x:=by
 cases v with
 | one c =>
  cases c with
  | nil t=>obtain ⟨h1,rfl⟩:=h; exact ⟨rfl,.empty t none 0⟩
  | _=>exact h
 | agg cs =>
  obtain ⟨xs,e,h1,h2⟩:=h
  refine ⟨xs,e,by simpa using h1,fun i c hi=>?_⟩
  simp only [List.getElem?_map,Option.map_eq_some_iff] at hi
  obtain ⟨c0,hc,rfl⟩:=hi
  obtain ⟨y,y1,y2,y3⟩:=h2 i c0 hc
  refine ⟨y,y1,y2,?_⟩
  cases c0 with
  | nil t =>
   have:y=.slice none 0 0:=y3
   subst this
   exact RepC.empty t none 0
  | _=>exact y3
 | tup vs=>exact h

theorem unNil_names (v:V):∀ r∈(unNil v).allNames,r∈v.allNames:=by
 intro r hr
 cases v with
 | one c=>cases c<;>exact hr
 | agg cs =>
  simp only [unNil,V.allNames,V.names,List.mem_flatMap,List.mem_map] at hr ⊢
  obtain ⟨c,⟨c0,hc,rfl⟩,h2⟩:=hr
  refine ⟨c0,hc,?_⟩
  cases c0<;>exact h2
 | tup vs=>exact hr

theorem kindEq_ren {f:Nat→Nat} {B:Blk} (h:B.alive):KindEq B (B.ren f):=by
 cases B with
 | dead=>exact h.elim
 | box cs=>trivial
 | set ks=>trivial
 | arr t l=>exact rfl
 | arx t l cs=>exact ⟨rfl,rfl⟩

theorem alive_ren {f:Nat→Nat} {B:Blk}:(B.ren f).alive↔B.alive:=by cases B<;>exact Iff.rfl
end
end Vm
end Go.Proofs.YtlbppjmekiemiacGreatDoor


/- The executor on data: calls, there and back. No condition. -/
namespace Go.Proofs.YtlbppjmekiemiacGreatDoor
namespace Vm
section
variable {P:Program} {tab:Tab} {μ μ' μ1 μ2:Mu} {mem mem' mem1 mem2:MemF} {w w':World} {S S':Nat→Prop}

structure Handed (mem:MemF) (seen:List Nat) (blks:List Blk):Prop where
 nodup:seen.Nodup
 len:blks.length=seen.length
 at_:∀ (j r:Nat),seen[j]? = some r→blks[j]? = some ((mem r).getD .dead)
 closed:∀ B∈blks,∀ r∈B.names,r∈seen

theorem idx_get {seen:List Nat} (hn:seen.Nodup) {j r:Nat} (h:seen[j]? = some r):idx seen r=j:=by
 obtain ⟨hj,rfl⟩:=List.getElem?_eq_some_iff.1 h
 unfold idx
 exact List.Nodup.idxOf_getElem hn j hj

theorem get_idx {seen:List Nat} {r:Nat} (h:r∈seen):seen[idx seen r]? = some r:=by
 unfold idx
 rw [List.getElem?_eq_getElem (List.idxOf_lt_length_iff.2 h),List.getElem_idxOf]

def muC (seen:List Nat) (μ:Mu):Mu:=fun j=>(seen[j]?).bind μ

section
variable {seen:List Nat} {blks:List Blk} (H:Handed mem seen blks)
include H

theorem Handed.memC {j r:Nat} (h:seen[j]? = some r):memL (blks.map (Blk.ren (idx seen))) j=some (((mem r).getD .dead).ren (idx seen)):=by
 simp [memL,H.at_ j r h]

theorem Handed.memC_some {j:Nat} {B:Blk} (h:memL (blks.map (Blk.ren (idx seen))) j=some B):∃ r,seen[j]? = some r∧B=((mem r).getD .dead).ren (idx seen):=by
 have hj:j<seen.length:=by
  have:=(List.getElem?_eq_some_iff.1 h).1
  rw [← H.len]; simpa using this
 refine ⟨seen[j],List.getElem?_eq_getElem hj,?_⟩
 have:=H.memC (List.getElem?_eq_getElem hj)
 rw [h] at this
 exact Option.some.inj this

theorem Handed.ren {r:Nat} (hr:r∈seen):Renames μ mem (muC seen μ) (memL (blks.map (Blk.ren (idx seen)))) (idx seen) r:=fun h0=>by
 have hm:=H.memC (get_idx hr)
 refine ⟨by rw [hm]; exact (fun h=>by cases h),fun B2 h2 ha=>?_⟩
 rw [hm] at h2; cases h2
 obtain ⟨B1,h1⟩:=exists_of_ne h0
 rw [h1] at ha ⊢
 exact ⟨B1,rfl,kindEq_ren (alive_ren.1 ha),by simp [muC,get_idx hr]⟩

theorem Handed.live {j:Nat} (h:Live (memL (blks.map (Blk.ren (idx seen)))) j):∃ r B,seen[j]? = some r∧mem r=some B∧B.alive:=by
 obtain ⟨B,h1,h2⟩:=h
 obtain ⟨r,hr,rfl⟩:=H.memC_some h1
 have ha:=alive_ren.1 h2
 cases hm:mem r with
 | none=>rw [hm] at ha; exact ha.elim
 | some B=>rw [hm] at ha; exact ⟨r,B,hr,hm,ha⟩

theorem Handed.inv (I:Inv tab μ mem w S):Inv tab (muC seen μ) (memL (blks.map (Blk.ren (idx seen)))) w S:=by
 refine ⟨fun j B hB ha=>?_,fun j j' hjj h1 h2 l1 l2 b e1 e2 hb hb'=>?_,fun j h1 l1 b e1 hb hS=>?_,I.lt,I.pow⟩
 ·obtain ⟨r,hr,rfl⟩:=H.memC_some hB
  have ha':=alive_ren.1 ha
  cases hm:mem r with
  | none=>rw [hm] at ha'; exact ha'.elim
  | some B0 =>
   rw [hm] at ha'
   obtain ⟨l,e1,e2⟩:=I.rel r B0 hm ha'
   refine ⟨l,by simp [muC,hr,e1],e2.ren fun q hq=>H.ren ?_⟩
   have:=H.at_ j r hr
   rw [hm] at this
   exact H.closed B0 (List.mem_of_getElem? this) q hq
 ·obtain ⟨r,B,hr,hm,ha⟩:=H.live h1
  obtain ⟨r',B',hr',hm',ha'⟩:=H.live h2
  simp only [muC,hr,hr',Option.bind_some] at e1 e2
  have hne:r≠r':=fun e=>by
   subst e
   exact hjj ((idx_get H.nodup hr).symm.trans (idx_get H.nodup hr'))
  exact I.inj r r' hne ⟨B,hm,ha⟩ ⟨B',hm',ha'⟩ l1 l2 b e1 e2 hb hb'
 ·obtain ⟨r,B,hr,hm,ha⟩:=H.live h1
  simp only [muC,hr,Option.bind_some] at e1
  exact I.sep r ⟨B,hm,ha⟩ l1 b e1 hb hS

theorem Handed.own {b:Nat} (h:OwnB (muC seen μ) (memL (blks.map (Blk.ren (idx seen)))) b):∃ r∈seen,∃ l,Live mem r∧μ r=some l∧l.block=some b:=by
 obtain ⟨j,l,h1,h2,h3⟩:=h
 obtain ⟨r,B,hr,hm,ha⟩:=H.live h1
 simp only [muC,hr,Option.bind_some] at h2
 exact ⟨r,List.mem_of_getElem? hr,l,⟨B,hm,ha⟩,h2,h3⟩

theorem Handed.args:∀ {vs:List V} {xs:List Value},RelVs tab μ mem w S vs xs→(∀ v∈vs,∀ r∈v.allNames,r∈seen)→RelVs tab (muC seen μ) (memL (blks.map (Blk.ren (idx seen)))) w S ((vs.map unNil).map (V.ren (idx seen))) xs
 | [],[],_,_=>trivial
 | v::vs,x::xs,h,hn=>⟨(unNil_rel h.1).ren fun r hr=>H.ren (hn v (by simp) r (unNil_names v r hr)),Handed.args h.2 fun u hu=>hn u (by simp [hu])⟩
 | [],_::_,h,_=>h.elim
 | _::_,[],h,_=>h.elim
theorem Handed.raw:∀ {vs:List V} {xs:List Value},RelVs tab μ mem w S vs xs→(∀ v∈vs,∀ r∈v.allNames,r∈seen)→RelVs tab (muC seen μ) (memL (blks.map (Blk.ren (idx seen)))) w S (vs.map (V.ren (idx seen))) xs
 | [],[],_,_=>trivial
 | v::vs,x::xs,h,hn=>⟨h.1.ren fun r hr=>H.ren (hn v (by simp) r hr),Handed.raw h.2 fun u hu=>hn u (by simp [hu])⟩
 | [],_::_,h,_=>h.elim
 | _::_,[],h,_=>h.elim

theorem Handed.pick {C:Contract} {ins:List Blk} {vs:List V} {xs:List Value} (h:RelVs tab μ mem w S vs xs) (hn:∀ v∈vs,∀ r∈v.allNames,r∈seen):RelVs tab (muC seen μ) (memL (blks.map (Blk.ren (idx seen)))) w S ((pickArgs C (idx seen) ins vs).map (V.ren (idx seen))) xs:=by
 unfold pickArgs
 split
 ·exact Handed.raw H h hn
 ·exact Handed.args H h hn
end

theorem zipFrom_get {α:Type}:∀ (l:List α) (i j:Nat),(zipFrom i l)[j]? = (l[j]?).map fun a=>(i+j,a)
 | [],i,j=>by simp [zipFrom]
 | a::l,i,0=>by simp [zipFrom]
 | a::l,i,j+1=>by
  simp only [zipFrom,List.getElem?_cons_succ,zipFrom_get l (i+1) j]
  congr 1
  funext a; congr 1; omega

theorem look_of_get:∀ {m:Mem},(m.map (·.1)).Nodup→∀ {j r:Nat} {B:Blk},m[j]? = some (r,B)→look m r=some B
 | [],_,j,r,B,h=>by simp at h
 | (q,D)::m,hn,0,r,B,h=>by simp at h; obtain ⟨rfl,rfl⟩:=h; simp [look,Nat.beq_refl]
 | (q,D)::m,hn,j+1,r,B,h=>by
  simp only [List.getElem?_cons_succ] at h
  simp only [List.map_cons,List.nodup_cons] at hn
  have hr:r∈m.map (·.1):=List.mem_map.2 ⟨(r,B),List.mem_of_getElem? h,rfl⟩
  have hne:r≠q:=fun e=>hn.1 (e ▸ hr)
  simp only [look,beq_ne hne]
  exact look_of_get hn.2 h

theorem get_of_look:∀ {m:Mem} {r:Nat} {B:Blk},look m r=some B→∃ j:Nat,m[j]? = some (r,B)
 | [],r,B,h=>by simp [look] at h
 | (q,D)::m,r,B,h=>by
  by_cases e:r=q
  ·subst e
   simp [look,Nat.beq_refl] at h
   subst h
   exact ⟨0,rfl⟩
  ·simp only [look,beq_ne e] at h
   obtain ⟨j,hj⟩:=get_of_look h
   exact ⟨j+1,by simpa using hj⟩

structure Back (mem:MemF) (seen:List Nat) (base:Nat) (n:Nat):Prop where
 nodup:seen.Nodup
 below:∀ r∈seen,r<base
 le:seen.length≤n
 fresh:∀ j,seen.length≤j→j<n→mem (base+(j-seen.length))=none

theorem backName_old {seen:List Nat} {base j r:Nat} (h:seen[j]? = some r):backName seen base j=r:=by simp [backName,h]
theorem backName_new {seen:List Nat} {base j:Nat} (h:seen.length≤j):backName seen base j=base+(j-seen.length):=by simp [backName,List.getElem?_eq_none h]

theorem Back.inj {seen:List Nat} {base n:Nat} (K:Back mem seen base n) {i j:Nat} (h:backName seen base i=backName seen base j):i=j:=by
 by_cases hi:i<seen.length
 ·rw [backName_old (List.getElem?_eq_getElem hi)] at h
  by_cases hj:j<seen.length
  ·rw [backName_old (List.getElem?_eq_getElem hj)] at h
   exact (List.getElem_inj K.nodup).1 h
  ·rw [backName_new (by omega)] at h
   have:=K.below _ (List.getElem_mem hi)
   omega
 ·rw [backName_new (by omega)] at h
  by_cases hj:j<seen.length
  ·rw [backName_old (List.getElem?_eq_getElem hj)] at h
   have:=K.below _ (List.getElem_mem hj)
   omega
  ·rw [backName_new (by omega)] at h
   omega

theorem backs_get (seen:List Nat) (base:Nat) (bs:List Blk) (j:Nat):(backs seen base bs)[j]? = (bs[j]?).map fun B=>(backName seen base j,B.ren (backName seen base)):=by
 simp only [backs,List.getElem?_map,zipFrom_get]
 cases bs[j]?<;>simp

theorem Back.lk {seen:List Nat} {base:Nat} {bs:List Blk} (K:Back mem seen base bs.length) {j:Nat} {B:Blk} (h:bs[j]? = some B):look (backs seen base bs) (backName seen base j)=some (B.ren (backName seen base)):=by
 have hn:((backs seen base bs).map (·.1)).Nodup:=by
  refine List.pairwise_iff_getElem.2 fun i j hi hj hij=>?_
  simp only [List.length_map] at hi hj
  have h1:=backs_get seen base bs i
  have h2:=backs_get seen base bs j
  rw [List.getElem?_eq_getElem hi] at h1
  rw [List.getElem?_eq_getElem hj] at h2
  simp only [List.getElem_map]
  cases hb1:bs[i]? with
  | none=>rw [hb1] at h1; cases h1
  | some B1=>cases hb2:bs[j]? with
   | none=>rw [hb2] at h2; cases h2
   | some B2 =>
    rw [hb1] at h1; rw [hb2] at h2
    rw [Option.some.inj h1,Option.some.inj h2]
    intro e
    have:=K.inj e
    omega
 exact look_of_get hn (j:=j) (by rw [backs_get,h]; rfl)

theorem Back.lk_some {seen:List Nat} {base:Nat} {bs:List Blk} {q:Nat} {D:Blk} (h:look (backs seen base bs) q=some D):∃ j B,bs[j]? = some B∧q=backName seen base j∧D=B.ren (backName seen base):=by
 obtain ⟨j,hj⟩:=get_of_look h
 rw [backs_get] at hj
 cases hb:bs[j]? with
 | none=>rw [hb] at hj; cases hj
 | some B =>
  rw [hb] at hj
  simp only [Option.map_some,Option.some.injEq,Prod.mk.injEq] at hj
  exact ⟨j,B,hb,hj.1.symm,hj.2.symm⟩

def muB (seen:List Nat) (base:Nat) (bs:List Blk) (μ μ':Mu):Mu:=fun q =>
 match (List.range bs.length).find? fun j=>backName seen base j == q with
 | some j=>μ' j
 | none=>μ q

theorem Back.mu {seen:List Nat} {base:Nat} {bs:List Blk} (K:Back mem seen base bs.length) {j:Nat} (h:j<bs.length):muB seen base bs μ μ' (backName seen base j)=μ' j:=by
 unfold muB
 cases hf:(List.range bs.length).find? fun i=>backName seen base i == backName seen base j with
 | none =>
  have:=List.find?_eq_none.1 hf j (List.mem_range.2 h)
  simp at this
 | some i =>
  have:=List.find?_some hf
  simp only [beq_iff_eq] at this
  rw [K.inj this]

theorem Back.mu_other {seen:List Nat} {base:Nat} {bs:List Blk} {q:Nat} (h:∀ j,j<bs.length→backName seen base j≠q):muB seen base bs μ μ' q=μ q:=by
 unfold muB
 have:(List.range bs.length).find? (fun i=>backName seen base i == q)=none:=by
  rw [List.find?_eq_none]
  intro j hj
  simpa using h j (List.mem_range.1 hj)
 rw [this]
end
end Vm
end Go.Proofs.YtlbppjmekiemiacGreatDoor


/- The executor on data: calls, the whole. No condition. -/
namespace Go.Proofs.YtlbppjmekiemiacGreatDoor
namespace Vm
section
variable {P:Program} {tab:Tab} {μ μ' μ1 μ2:Mu} {mem mem' mem1 mem2:MemF} {w w':World} {S S':Nat→Prop}

theorem sameKind_ren {f g:Nat→Nat} {A B:Blk} (h:SameKind (A.ren f) B):SameKind A (B.ren g):=by
 cases A<;>cases B<;>simp_all [SameKind,Blk.ren]

theorem call_back {seen:List Nat} {blks bs:List Blk} {base:Nat} {v:V} {x:Value} (I:Inv tab μ mem w S) (H:Handed mem seen blks) (K:Back mem seen base bs.length)
  (E:Ext (muC seen μ) (memL (blks.map (Blk.ren (idx seen)))) w S μ' (memL bs) w' S') (I':Inv tab μ' (memL bs) w' S') (hv:RelV tab μ' (memL bs) w' S' v x) :
  Ext μ mem w S (muB seen base bs μ μ') (memU (backs seen base bs) mem) w' S'∧Inv tab (muB seen base bs μ μ') (memU (backs seen base bs) mem) w' S' ∧
   RelV tab (muB seen base bs μ μ') (memU (backs seen base bs) mem) w' S' (v.ren (backName seen base)) x:=by
 have hin:∀ j B,bs[j]? = some B→memU (backs seen base bs) mem (backName seen base j)=some (B.ren (backName seen base)):=fun j B h=>by
  simp only [memU,K.lk h]
 have hout:∀ q,(∃ j B,bs[j]? = some B∧q=backName seen base j)∨((∀ j,j<bs.length→backName seen base j≠q)∧memU (backs seen base bs) mem q=mem q):=fun q=>by
  cases hl:look (backs seen base bs) q with
  | some D=>obtain ⟨j,B,h1,h2,_⟩:=Back.lk_some hl; exact .inl ⟨j,B,h1,h2⟩
  | none =>
   refine .inr ⟨fun j hj e=>?_,by simp only [memU,hl]⟩
   have:=K.lk (List.getElem?_eq_getElem hj)
   rw [e,hl] at this; cases this
 have hren:∀ j,Renames μ' (memL bs) (muB seen base bs μ μ') (memU (backs seen base bs) mem) (backName seen base) j:=fun j h0=>by
  obtain ⟨B,hB⟩:=exists_of_ne h0
  have hB':bs[j]? = some B:=hB
  have hj:j<bs.length:=(List.getElem?_eq_some_iff.1 hB').1
  refine ⟨by rw [hin j B hB']; exact (fun h=>by cases h),fun B2 h2 ha=>?_⟩
  rw [hin j B hB'] at h2; cases h2
  exact ⟨B,hB,kindEq_ren (alive_ren.1 ha),K.mu hj⟩
 have hold:∀ j q,j<bs.length→q=backName seen base j→mem q≠none→seen[j]? = some q:=fun j q hj e hq=>by
  by_cases hjs:j<seen.length
  ·rw [backName_old (List.getElem?_eq_getElem hjs)] at e
   rw [e]; exact List.getElem?_eq_getElem hjs
  ·rw [backName_new (by omega)] at e
   exact absurd (K.fresh j (by omega) hj) (e ▸ hq)
 have hliveIn:∀ j r,seen[j]? = some r→Live mem r→Live (memL (blks.map (Blk.ren (idx seen)))) j:=fun j r hr ⟨B,hB,ha⟩=>by
  have:=H.memC hr
  rw [hB] at this
  exact ⟨_,this,alive_ren.2 ha⟩
 have hownIn:∀ b,OwnB (muC seen μ) (memL (blks.map (Blk.ren (idx seen)))) b→OwnB μ mem b:=fun b h=>by
  obtain ⟨r,_,l,h1,h2,h3⟩:=H.own h
  exact ⟨r,l,h1,h2,h3⟩
 have E':Ext μ mem w S (muB seen base bs μ μ') (memU (backs seen base bs) mem) w' S':=by
  refine ⟨fun q hq=>?_,fun q B B' h h'=>?_,E.sub,E.size,fun b hb hn=>E.heap b hb fun h=>hn (hownIn b h),fun b h=>(E.only b h).imp id (Or.imp id (hownIn b)),fun b h=>?_,E.os,E.tape,E.output⟩
  ·rcases hout q with ⟨j,B,h1,rfl⟩ | ⟨_,h2⟩
   ·rw [hin j B h1]; exact (fun h=>by cases h)
   ·rw [h2]; exact hq
  ·rcases hout q with ⟨j,D,h1,e⟩ | ⟨h1,h2⟩
   ·have hj:j<bs.length:=(List.getElem?_eq_some_iff.1 h1).1
    have hs:=hold j q hj e (by rw [h]; exact (fun h=>by cases h))
    have hm:=H.memC hs
    rw [h] at hm
    have hk:=E.kinds j _ D hm h1
    rw [e,hin j D h1] at h'; cases h'
    refine ⟨sameKind_ren hk.1,fun hl=>?_⟩
    obtain ⟨D2,hD2,ha⟩:=hl
    rw [e,hin j D h1] at hD2; cases hD2
    rw [e,K.mu hj,hk.2 ⟨D,h1,alive_ren.1 ha⟩,← e]
    simp [muC,hs]
   ·rw [h2,h] at h'; cases h'
    exact ⟨SameKind.refl _,fun _=>Back.mu_other h1⟩
  ·obtain ⟨q,l,hl,hm,hb⟩:=h
   rcases hout q with ⟨j,D,h1,rfl⟩ | ⟨h1,h2⟩
   ·have hj:j<bs.length:=(List.getElem?_eq_some_iff.1 h1).1
    obtain ⟨D2,hD2,ha⟩:=hl
    rw [hin j D h1] at hD2; cases hD2
    rw [K.mu hj] at hm
    exact (E.own b ⟨j,l,⟨D,h1,alive_ren.1 ha⟩,hm,hb⟩).imp (hownIn b) id
   ·rw [Back.mu_other h1] at hm
    refine .inl ⟨q,l,?_,hm,hb⟩
    obtain ⟨D2,hD2,ha⟩:=hl
    rw [h2] at hD2
    exact ⟨D2,hD2,ha⟩
 have hsep:∀ q l b,(∀ j,j<bs.length→backName seen base j≠q)→Live mem q→μ q=some l→l.block=some b→¬ OwnB (muC seen μ) (memL (blks.map (Blk.ren (idx seen)))) b:=fun q l b hq hl hm hb h=>by
  obtain ⟨r,hr,l',h1,h2,h3⟩:=H.own h
  have hne:q≠r:=fun e=>by
   subst e
   have:=get_idx hr
   have hj:idx seen q<seen.length:=(List.getElem?_eq_some_iff.1 this).1
   exact hq (idx seen q) (Nat.lt_of_lt_of_le hj K.le) (backName_old this)
  exact I.inj q r hne hl h1 l l' b hm h2 hb h3
 refine ⟨E',⟨fun q B hB ha=>?_,fun q q' hqq g1 g2 l1 l2 b e1 e2 hb hb'=>?_,fun q g1 l1 b e1 hb hS=>?_,I'.lt,I'.pow⟩,hv.ren fun r _=>hren r⟩
 ·rcases hout q with ⟨j,D,h1,rfl⟩ | ⟨h1,h2⟩
  ·have hj:j<bs.length:=(List.getElem?_eq_some_iff.1 h1).1
   rw [hin j D h1] at hB; cases hB
   obtain ⟨l,k1,k2⟩:=I'.rel j D h1 (alive_ren.1 ha)
   exact ⟨l,by rw [K.mu hj]; exact k1,k2.ren fun r _=>hren r⟩
  ·rw [h2] at hB
   obtain ⟨l,k1,k2⟩:=I.rel q B hB ha
   refine ⟨l,by rw [Back.mu_other h1]; exact k1,k2.ext E' I fun b hb=>?_⟩
   exact E.heap b (I.blockLt ⟨B,hB,ha⟩ k1 hb) (hsep q l b h1 ⟨B,hB,ha⟩ k1 hb)
 ·have key:∀ q l b,Live (memU (backs seen base bs) mem) q→muB seen base bs μ μ' q=some l→l.block=some b →
    (∃ j,q=backName seen base j∧Live (memL bs) j∧μ' j=some l)∨((∀ j,j<bs.length→backName seen base j≠q)∧Live mem q∧μ q=some l):=fun q l b hl hm hb=>by
   rcases hout q with ⟨j,D,h1,rfl⟩ | ⟨h1,h2⟩
   ·have hj:j<bs.length:=(List.getElem?_eq_some_iff.1 h1).1
    obtain ⟨D2,hD2,ha⟩:=hl
    rw [hin j D h1] at hD2; cases hD2
    rw [K.mu hj] at hm
    exact .inl ⟨j,rfl,⟨D,h1,alive_ren.1 ha⟩,hm⟩
   ·rw [Back.mu_other h1] at hm
    obtain ⟨D2,hD2,ha⟩:=hl
    rw [h2] at hD2
    exact .inr ⟨h1,⟨D2,hD2,ha⟩,hm⟩
  have mixed:∀ j l1 q2 l2,Live (memL bs) j→μ' j=some l1→l1.block=some b→(∀ j,j<bs.length→backName seen base j≠q2)→Live mem q2→μ q2=some l2→l2.block=some b→False:=fun j l1 q2 l2 k1 k2 k3 k4 k5 k6 k7=>by
   rcases E.own b ⟨j,l1,k1,k2,k3⟩ with h | h
   ·exact hsep q2 l2 b k4 k5 k6 k7 h
   ·have:=I.blockLt k5 k6 k7
    omega
  rcases key q l1 b g1 e1 hb with ⟨j,rfl,k1,k2⟩ | ⟨k1,k2,k3⟩
  ·rcases key q' l2 b g2 e2 hb' with ⟨j',rfl,k1',k2'⟩ | ⟨k1',k2',k3'⟩
   ·exact I'.inj j j' (fun e=>hqq (by rw [e])) k1 k1' l1 l2 b k2 k2' hb hb'
   ·exact mixed j l1 q' l2 k1 k2 hb k1' k2' k3' hb'
  ·rcases key q' l2 b g2 e2 hb' with ⟨j',rfl,k1',k2'⟩ | ⟨k1',k2',k3'⟩
   ·exact mixed j' l2 q l1 k1' k2' hb' k1 k2 k3 hb
   ·exact I.inj q q' hqq k2 k2' l1 l2 b k3 k3' hb hb'
 ·rcases hout q with ⟨j,D,h1,rfl⟩ | ⟨h1,h2⟩
  ·have hj:j<bs.length:=(List.getElem?_eq_some_iff.1 h1).1
   obtain ⟨D2,hD2,ha⟩:=g1
   rw [hin j D h1] at hD2; cases hD2
   rw [K.mu hj] at e1
   exact I'.sep j ⟨D,h1,alive_ren.1 ha⟩ l1 b e1 hb hS
  ·rw [Back.mu_other h1] at e1
   obtain ⟨D2,hD2,ha⟩:=g1
   rw [h2] at hD2
   rcases E.only b hS with h | h | h
   ·exact I.sep q ⟨D2,hD2,ha⟩ l1 b e1 hb h
   ·have:=I.blockLt ⟨D2,hD2,ha⟩ e1 hb
    omega
   ·exact hsep q l1 b h1 ⟨D2,hD2,ha⟩ e1 hb h

theorem Calls.runs {o : Oper} {a : Act} {f : Nat} {xs : Array Value} {fn : Func} {R : Value → World → Prop} (hf : P.funcs[f]? = some fn) (hb : fn.body.isSome = true) (hn : (fn.name == "runtime.NumGoroutine") = false)
  {callee:Operand} {args:Array Operand} {ts:Array TypeId} (ho:o.op=.call { callee:=.value callee,args:=args,argTypes:=ts }) (cs:Array Value) (hc:a.eval callee=.func (.func f) #[] cs) (hx:args.map a.eval++cs=xs)
  (h:Calls P f xs w fun e w'=>∃ x,e=.returned x∧R x w'):Runs P o a w R:=by
 intro K Q hk
 unfold Oper.wp
 have hrun:(execOp a.eval o).run P w=.ok (.enter f xs) w:=by
  have hbn:¬ fn.body=none:=by cases hbb:fn.body<;>simp [hbb] at hb ⊢
  have hn' : ¬ fn.name = "runtime.NumGoroutine" := by simpa using hn
  subst hx
  simp only [execOp,ho,resolve,hc,Deferred.ofValue,Sem.run_bind,Sem.run_pure,Result.andThen_ok,invoke,callFunc]
  simp [program,Sem.run,hf]
  rw [if_neg hn',if_neg hbn]
 rw [hrun]
 refine Calls.mono h fun e w' hr=>?_
 obtain ⟨x,rfl,hR⟩:=hr
 exact hk x w' hR

theorem names_of_args {seen:List Nat}:∀ {args:List V},allIn seen (args.flatMap V.names)=true→args.all V.noTup=true→∀ v∈args,∀ r∈v.allNames,r∈seen:=by
 have key:∀ l:List Nat,allIn seen l=true→∀ r∈l,r∈seen:=fun l=>by
  induction l with
  | nil=>intro _ r hr; simp at hr
  | cons q l ih =>
   intro h r hr
   simp only [allIn] at h
   split at h
   ·rename_i hq
    simp only [List.mem_cons] at hr
    rcases hr with rfl | hr
    ·exact (memb_iff seen r).1 hq
    ·exact ih h r hr
   ·cases h
 intro args h ht v hv r hr
 have:r∈v.names:=by
  cases v with
  | tup us=>have:=List.all_eq_true.1 ht _ hv; cases this
  | one c=>exact hr
  | agg cs=>exact hr
 exact key _ h r (List.mem_flatMap.2 ⟨v,hv,this⟩)

theorem allIn_mem {seen:List Nat}:∀ {l:List Nat},allIn seen l=true→∀ r∈l,r∈seen:=by
 intro l
 induction l with
 | nil=>intro _ r hr; simp at hr
 | cons q l ih =>
  intro h r hr
  simp only [allIn] at h
  split at h
  ·rename_i hq
   simp only [List.mem_cons] at hr
   rcases hr with rfl | hr
   ·exact (memb_iff seen r).1 hq
   ·exact ih h r hr
  ·cases h

theorem distinct_nodup:∀ {l:List Nat},distinct l=true→l.Nodup:=by
 intro l
 induction l with
 | nil=>intro _; exact List.nodup_nil
 | cons q l ih =>
  intro h
  simp only [distinct] at h
  split at h
  ·cases h
  ·rename_i hq
   exact List.nodup_cons.2 ⟨memb_no hq,ih h⟩

theorem allBelow_lt {base:Nat}:∀ {l:List Nat},allBelow base l=true→∀ r∈l,r<base:=by
 intro l
 induction l with
 | nil=>intro _ r hr; simp at hr
 | cons q l ih =>
  intro h r hr
  simp only [allBelow] at h
  split at h
  ·cases h
  ·rename_i hq
   simp only [List.mem_cons] at hr
   rcases hr with rfl | hr
   ·cases hle:Nat.ble base r with
    | true=>rw [hle] at hq; cases hq
    | false =>
     have:¬ base≤r:=fun h=>by rw [Nat.ble_eq_true_of_le h] at hle; cases hle
     omega
   ·exact ih h r hr

theorem kindsOk_len:∀ {as bs:List Blk},kindsOk as bs=true→as.length≤bs.length∧bs.length≤as.length+7
 | [],bs,h=>⟨by simp,by simpa using Nat.le_of_ble_eq_true h⟩
 | a::as,[],h=>by simp [kindsOk] at h
 | a::as,b::bs,h=>by
  simp only [kindsOk] at h
  split at h
  ·have:=kindsOk_len h
   simp; omega
  ·cases h

def FreshP (base:Nat) (mem:MemF) (names:List Nat) (m:Mem):Prop:=∀ r B,(r,B)∈m→(base≤r→mem r=none)∧(r<base→r∈names)

theorem backs_mem {seen:List Nat} {base:Nat} {bs:List Blk} {j:Nat} (h:j<bs.length):∃ B,(backName seen base j,B)∈backs seen base bs:=by
 have:=backs_get seen base bs j
 rw [List.getElem?_eq_getElem h] at this
 exact ⟨_,List.mem_of_getElem? this⟩
end
end Vm
end Go.Proofs.YtlbppjmekiemiacGreatDoor


/- The executor on data: the operation 'call'. No condition. -/
namespace Go.Proofs.YtlbppjmekiemiacGreatDoor
namespace Vm
section
variable {P:Program} {tab:Tab} {Γ:Ctx} {μ μ' μ1 μ2:Mu} {mem mem' mem1 mem2:MemF} {w w':World} {S S':Nat→Prop}

theorem okSeen_spec {base:Nat} {seen:List Nat} {args:List V} {bs:List Blk} (h:okSeen base seen args bs=true) :
  seen.Nodup∧(∀ r∈seen,r<base)∧(∀ v∈args,∀ r∈v.allNames,r∈seen)∧∀ B∈bs,∀ r∈B.names,r∈seen:=by
 unfold okSeen at h
 split at h<;>try cases h
 rename_i h1
 split at h<;>try cases h
 rename_i h2
 split at h<;>try cases h
 rename_i h3
 split at h<;>try cases h
 rename_i h4
 exact ⟨distinct_nodup h1,allBelow_lt h2,names_of_args h3 h4,fun B hB r hr=>allIn_mem h r (List.mem_flatMap.2 ⟨B,hB,hr⟩)⟩

theorem handed_of {ml:Mem} {names:List Nat} (hm:mem=look ml) (hn:names.Nodup) (hc:∀ B∈(memAt ml names).map (·.2),∀ r∈B.names,r∈names):Handed mem names ((memAt ml names).map (·.2)):=by
 subst hm
 refine ⟨hn,by simp [memAt],fun j r hr=>by simp [memAt,hr],hc⟩

theorem memAt_fst (ml:Mem) (names:List Nat):(memAt ml names).map (·.1)=names:=by
 unfold memAt
 rw [List.map_map]
 exact (List.map_congr_left (fun _ _=>rfl)).trans (List.map_id names)

theorem froz_sub {ns ms:List Nat} {c:C} {x:Value} (h:RepC tab w (Froz μ mem S ns) c x) (hs:∀ r∈ns,r∈ms):RepC tab w (Froz μ mem S ms) c x :=
 h.mono (fun _ h=>h.imp id fun ⟨r,hr,h⟩=>⟨r,hs r hr,h⟩) (fun _ _=>rfl)

theorem datsOf_rel {lm:Mem} (I:Inv tab μ mem w S) (hs:Sees lm mem) {N:List Nat}:∀ {vs ds:List V} {ns:List Nat} {xs:List Value},RelVs tab μ mem w S vs xs→datsOf tab lm vs=some (ds,ns)→(∀ r∈ns,r∈N) →
  ∀ {μ0:Mu} {mem0:MemF},RelVs tab μ0 mem0 w (Froz μ mem S N) ds xs
 | [],ds,ns,xs,h,hd,_,μ0,mem0=>by
  simp only [datsOf] at hd; cases hd
  cases xs with
  | nil=>trivial
  | cons x xs=>exact h.elim
 | v::vs,ds,ns,[],h,hd,_,_,_=>h.elim
 | v::vs,ds,ns,x::xs,h,hd,hN,μ0,mem0=>by
  simp only [datsOf] at hd
  split at hd<;>try cases hd
  rename_i v' n1 us n2 hv hrest
  refine ⟨?_,datsOf_rel I hs h.2 hrest (fun r hr=>hN r (by simp [hr]))⟩
  cases v with
  | tup us=>cases hv
  | one c =>
   simp only [Option.map_eq_some_iff] at hv
   obtain ⟨⟨d,nn⟩,hd',he⟩:=hv
   cases he
   have hc:c≠.undef:=fun e=>by subst e; simp only [toDat] at hd'; cases hd'
   have hx:x.oneCell'=true∧RelC tab μ mem w S c x:=by cases c<;>first | exact absurd rfl hc | exact h.1
   obtain ⟨_,hr⟩:=toDat_rel I hs hx hd'
   obtain ⟨t,e,rfl⟩:=toDat_isDat hd'
   exact ⟨hx.1,froz_sub hr fun r hr=>hN r (by simp [hr])⟩
  | agg cs =>
   simp only [Option.map_eq_some_iff] at hv
   obtain ⟨⟨dd,nn⟩,hd',he⟩:=hv
   cases he
   obtain ⟨ys,rfl,h1,h2⟩:=h.1
   obtain ⟨_,k2,k3⟩:=toDats_rel I hs (fun i=>ys[i]?) h2 hd'
   refine ⟨ys,rfl,by rw [h1,k2],fun i d hi=>?_⟩
   obtain ⟨y,y1,y2,y3⟩:=k3 i d hi
   exact ⟨y,y1,y2,(froz_sub y3 fun r hr=>hN r (by simp [hr])).relC⟩

theorem unNil_rels:∀ {vs:List V} {xs:List Value},RelVs tab μ mem w S vs xs→RelVs tab μ mem w S (vs.map unNil) xs
 | [],[],_=>trivial
 | _::_,_::_,h=>⟨unNil_rel h.1,unNil_rels h.2⟩
 | [],_::_,h=>h.elim
 | _::_,[],h=>h.elim

theorem relVs_append:∀ {vs us:List V} {xs ys:List Value},RelVs tab μ mem w S vs xs→RelVs tab μ mem w S us ys→RelVs tab μ mem w S (vs++us) (xs++ys)
 | [],_,[],_,_,h=>h
 | _::_,_,_::_,_,h,h'=>⟨h.1,relVs_append h.2 h'⟩
 | [],_,_::_,_,h,_=>h.elim
 | _::_,_,[],_,h,_=>h.elim

theorem relVs_caps:∀ {caps:List Nat} {ys:List Value},ys.length=caps.length→(∀ (i r:Nat),caps[i]? = some r→∃ y,ys[i]? = some y∧RelV tab μ mem w S (.one (.ptr r 0)) y) →
  RelVs tab μ mem w S (caps.map fun r=>.one (.ptr r 0)) ys
 | [],[],_,_=>trivial
 | [],_::_,h,_=>by simp at h
 | _::_,[],h,_=>by simp at h
 | r::caps,y::ys,h,hr=>by
  obtain ⟨y',h1,h2⟩:=hr 0 r rfl
  simp at h1; subst h1
  exact ⟨h2,relVs_caps (by simpa using h) fun i r hi=>by simpa using hr (i+1) r (by simpa using hi)⟩

theorem plain_repC {c:C} {y:Value} (hc:c.plain=true) (h:RelC tab μ1 mem1 w S c y):RelC tab μ2 mem2 w' S' c y:=by
 cases c with
 | dat t d=>cases t<;>first | (cases hc; done) | (cases h; constructor)
 | any=>trivial
 | _=>cases hc

theorem plain_relW {v:V} {x:Value} (hp:v.plain1=true) (h:RelW tab μ1 mem1 w S v x):RelW tab μ2 mem2 w' S' v x:=by
 cases v with
 | one c=>exact ⟨h.1,plain_repC hp h.2⟩
 | agg cs =>
  obtain ⟨xs,e,h1,h2⟩:=h
  refine ⟨xs,e,h1,fun i c hi=>?_⟩
  obtain ⟨y,y1,y2,y3⟩:=h2 i c hi
  exact ⟨y,y1,y2,plain_repC (List.all_eq_true.1 hp c (List.mem_of_getElem? hi)) y3⟩
 | tup vs=>cases hp

theorem plain_rel {v:V} {x:Value} (hp:v.plain=true) (h:RelV tab μ1 mem1 w S v x):RelV tab μ2 mem2 w' S' v x:=by
 cases v with
 | one c =>
  cases c with
  | dat t d=>exact plain_relW (v:=.one (.dat t d)) hp h
  | undef=>trivial
  | any=>exact plain_relW (v:=.one .any) hp h
  | _=>cases hp
 | agg cs=>exact plain_relW (v:=.agg cs) hp h
 | tup vs =>
  obtain ⟨xs,e,h1,h2⟩:=h
  refine ⟨xs,e,h1,fun i u hi=>?_⟩
  obtain ⟨y,y1,y2⟩:=h2 i u hi
  exact ⟨y,y1,plain_relW (List.all_eq_true.1 hp u (List.mem_of_getElem? hi)) y2⟩

theorem relW_ext {mf mf':MemF} (E:Ext μ mf w S μ' mf' w' S') (I:Inv tab μ mf w S):∀ {v:V} {x:Value},RelW tab μ mf w S v x→RelW tab μ' mf' w' S' v x
 | .one _,_,⟨h1,h2⟩=>⟨h1,h2.ext E I⟩
 | .agg _,_,⟨xs,h1,h2,h3⟩=>⟨xs,h1,h2,fun i c hc=>let ⟨y,y1,y2,y3⟩:=h3 i c hc; ⟨y,y1,y2,y3.ext E I⟩⟩
 | .tup _,_,h=>h.elim

theorem relV_ext {mf mf':MemF} (E:Ext μ mf w S μ' mf' w' S') (I:Inv tab μ mf w S) {v:V} {x:Value} (h:RelV tab μ mf w S v x):RelV tab μ' mf' w' S' v x:=by
 cases v with
 | one c=>cases c<;>first | trivial | exact relW_ext (v:=.one _) E I h
 | agg cs=>exact relW_ext (v:=.agg cs) E I h
 | tup vs =>
  obtain ⟨xs,h1,h2,h3⟩:=h
  exact ⟨xs,h1,h2,fun i v hv=>let ⟨y,y1,y2⟩:=h3 i v hv; ⟨y,y1,relW_ext E I y2⟩⟩

theorem mixOf_rel {lm:Mem} (I:Inv tab μ mem w S) (hs:Sees lm mem) {N:List Nat}:∀ {vs:List V} {xs:List Value},RelVs tab μ mem w S vs xs→(∀ r∈(mixOf tab lm vs).2,r∈N) →
  RelVs tab μ (memU (deads N) mem) w (Froz μ mem S N) (mixOf tab lm vs).1 xs
 | [],[],_,_=>trivial
 | [],_::_,h,_=>h.elim
 | _::_,[],h,_=>h.elim
 | v::vs,x::xs,h,hN=>by
  obtain ⟨E,_⟩:=kills_EI (ns:=N) I
  simp only [mixOf] at hN ⊢
  split at hN
  ·rename_i v' n1 hv
   refine ⟨?_,mixOf_rel I hs h.2 fun r hr=>hN r (by simp [hr])⟩
   cases v with
   | tup us=>cases hv
   | one c =>
    simp only [Option.map_eq_some_iff] at hv
    obtain ⟨⟨d,nn⟩,hd',he⟩:=hv
    cases he
    have hc:c≠.undef:=fun e=>by subst e; simp only [toDat] at hd'; cases hd'
    have hx:x.oneCell'=true∧RelC tab μ mem w S c x:=by cases c<;>first | exact absurd rfl hc | exact h.1
    obtain ⟨_,hr⟩:=toDat_rel I hs hx hd'
    obtain ⟨t,e,rfl⟩:=toDat_isDat hd'
    exact ⟨hx.1,froz_sub hr fun r hr=>hN r (by simp [hr])⟩
   | agg cs =>
    simp only [Option.map_eq_some_iff] at hv
    obtain ⟨⟨dd,nn⟩,hd',he⟩:=hv
    cases he
    obtain ⟨ys,rfl,h1,h2⟩:=h.1
    obtain ⟨_,k2,k3⟩:=toDats_rel I hs (fun i=>ys[i]?) h2 hd'
    refine ⟨ys,rfl,by rw [h1,k2],fun i d hi=>?_⟩
    obtain ⟨y,y1,y2,y3⟩:=k3 i d hi
    exact ⟨y,y1,y2,(froz_sub y3 fun r hr=>hN r (by simp [hr])).relC⟩
  ·exact ⟨relV_ext E I h.1,mixOf_rel I hs h.2 hN⟩

theorem sees_memAt' {ml:Mem} (hm:mem=look ml) (names:List Nat):Sees (memAt ml names) mem:=fun r B h hal=>by
 subst hm
 obtain ⟨j,hj⟩:=get_of_look h
 simp only [memAt,List.getElem?_map,Option.map_eq_some_iff,Prod.mk.injEq] at hj
 obtain ⟨q,_,rfl,rfl⟩:=hj
 cases hq:look ml q with
 | none=>rw [hq] at hal; exact hal.elim
 | some D=>rfl

theorem op_callA {o:Oper} {a:Act} {callee:Operand} {args:Array Operand} {ts:Array TypeId} {f base:Nat} {cs:Array Value} {vs as:List V} {ml:Mem} {p:Option Prop} {v:V} {bs:List Blk} {C:Contract} {fn:Func} (hm:mem=look ml)
  (ho : o.op = .call { callee := .value callee, args := args, argTypes := ts }) (hsound : SoundC P tab f C) (hfn1 : P.funcs[f]? = some fn) (hfn2 : fn.body.isSome = true) (hfn3 : (fn.name == "runtime.NumGoroutine") = false)
  (I:Inv tab μ mem w S) (hfn:a.eval callee=.func (.func f) #[] cs) (hxs:args.map a.eval++cs=(args.toList.map a.eval++cs.toList).toArray) {names:List Nat}
  (hrel:Handed mem names ((memAt ml names).map (·.2))→(∀ v∈vs,∀ r∈v.allNames,r∈names)→RelVs tab (muC names μ) (memL (((memAt ml names).map (·.2)).map (Blk.ren (idx names)))) w S (as.map (V.ren (idx names))) (args.toList.map a.eval++cs.toList))
  (hc:C (as.map (V.ren (idx names))) ((memAt ml names).map fun p=>p.2.ren (idx names))=some (p,v,bs)) (hk:kindsOk ((memAt ml names).map fun p=>p.2.ren (idx names)) bs=true)
  (hok:okSeen base names vs ((memAt ml names).map (·.2))=true) (hp:under p True) (hF:∀ r B,(r,B)∈backs names base bs→base≤r→mem r=none) :
  Runs P o a w (After tab μ mem w S (backs names base bs) (v.ren (backName names base))):=by
 obtain ⟨n1,n2,n3,n4⟩:=okSeen_spec hok
 have H:=handed_of hm n1 n4
 have hkl:=(kindsOk_len hk).1
 rw [List.length_map,show (memAt ml names).length=names.length by simp [memAt]] at hkl
 have K:Back mem names base bs.length:=⟨n1,n2,by omega,fun j hj1 hj2=>by
  obtain ⟨B,hB⟩:=backs_mem (seen:=names) (base:=base) hj2
  rw [backName_new hj1] at hB
  exact hF _ _ hB (by omega)⟩
 have hins:((memAt ml names).map fun p=>p.2.ren (idx names))=((memAt ml names).map (·.2)).map (Blk.ren (idx names)):=by rw [List.map_map]; rfl
 rw [hins] at hc
 have hac:=hsound _ _ _ _ _ hc hp w S (muC names μ) _ (H.inv I) (hrel H n3)
 refine Calls.runs hfn1 hfn2 hfn3 ho cs hfn rfl ?_
 rw [hxs]
 refine hac.mono fun e w' ⟨x,μ',S',h1,h2,h3,h4⟩=>⟨x,h1,?_⟩
 obtain ⟨k1,k2,k3⟩:=call_back I H K h2 h3 h4
 exact ⟨_,S',k1,k2,k3⟩

theorem dropN_mem {ns:List Nat}:∀ {l:List Nat},∀ r∈dropN ns l,r∈l∧r∉ns
 | [],_,h=>by cases h
 | q::l,r,h=>by
  simp only [dropN] at h
  split at h
  ·obtain ⟨h1,h2⟩:=dropN_mem r h
   exact ⟨List.mem_cons_of_mem _ h1,h2⟩
  ·rename_i hq
   rcases List.mem_cons.1 h with rfl | h
   ·exact ⟨List.mem_cons_self,memb_no hq⟩
   ·obtain ⟨h1,h2⟩:=dropN_mem r h
    exact ⟨List.mem_cons_of_mem _ h1,h2⟩

theorem memAt_twice {ml:Mem} {names seen:List Nat} (h:∀ r∈seen,r∈names):memAt (memAt ml names) seen=memAt ml seen:=by
 unfold memAt
 refine List.map_congr_left fun r hr=>?_
 have key:∀ ns:List Nat,r∈ns→look (ns.map fun r=>(r,(look ml r).getD .dead)) r=some ((look ml r).getD .dead):=fun ns=>by
  induction ns with
  | nil=>intro h; cases h
  | cons q ns ih =>
   intro hm
   by_cases e:r=q
   ·subst e; simp [look,Nat.beq_refl]
   ·simp only [List.map_cons,look,beq_ne e]
    exact ih ((List.mem_cons.1 hm).resolve_left e)
 rw [key names (h r hr)]
 simp

theorem memAt_deads {ml:Mem} {seen ns:List Nat} (h:∀ r∈seen,r∉ns):memAt (deads ns++ml) seen=memAt ml seen:=by
 unfold memAt
 refine List.map_congr_left fun r hr=>?_
 rw [look_append]
 rcases look_deads ns r with ⟨h1,_⟩ | ⟨_,h2⟩
 ·exact absurd h1 (h r hr)
 ·rw [h2]

theorem op_callM {o:Oper} {a:Act} {callee:Operand} {args:Array Operand} {ts:Array TypeId} {f base:Nat} {cs:Array Value} {us:List V} {ml:Mem} {p:Option Prop} {v:V} {m:Mem} {C:Contract} {fn:Func} (hm:mem=look ml)
  (ho : o.op = .call { callee := .value callee, args := args, argTypes := ts }) (hsound : SoundC P tab f C) (hfn1 : P.funcs[f]? = some fn) (hfn2 : fn.body.isSome = true) (hfn3 : (fn.name == "runtime.NumGoroutine") = false)
  (I:Inv tab μ mem w S) (hfn:a.eval callee=.func (.func f) #[] cs) (hxs:args.map a.eval++cs=(args.toList.map a.eval++cs.toList).toArray) {names:List Nat}
  (hargs:RelVs tab μ mem w S us (args.toList.map a.eval++cs.toList))
  (h:callM tab base (memAt ml names) C (mixOf tab (memAt ml names) us).1 (mixOf tab (memAt ml names) us).2=some (p,v,m)) (hp:under p True) (hF:FreshP base mem names m) :
  Runs P o a w (After tab μ mem w S m v):=by
 have hrel0:=mixOf_rel I (sees_memAt' hm names) hargs (fun r hr=>hr)
 generalize hns:(mixOf tab (memAt ml names) us).2=ns at h hrel0
 generalize has:(mixOf tab (memAt ml names) us).1=as at h hrel0
 unfold callM at h
 simp only at h
 rw [memAt_fst,memAt_twice (seen:=dropN ns names) (fun r hr=>(dropN_mem r hr).1)] at h
 split at h<;>try cases h
 rename_i p0 v0 bs hc
 split at h<;>try cases h
 rename_i hk hok hbel
 obtain ⟨E0,I1⟩:=kills_EI (ns:=ns) I
 have hm':memU (deads ns) mem=look (deads ns++ml):=by
  subst hm
  funext r
  rw [look_append]
  rfl
 have hmd:=memAt_deads (ml:=ml) (seen:=dropN ns names) (fun r hr=>(dropN_mem r hr).2)
 rw [← hmd] at hc hk hok
 have hA:=op_callA (base:=base) (vs:=as) (as:=as) hm' ho hsound hfn1 hfn2 hfn3 I1 hfn hxs (fun H n3=>Handed.raw H hrel0 n3) hc hk hok hp (fun r B hB hr=>by
  have hno:r∉ns:=fun hmem=>by
   have:=allBelow_lt hbel _ hmem
   omega
  rcases memU_deads (mem:=mem) ns r with ⟨h1,_⟩ | ⟨_,h2⟩
  ·exact absurd h1 hno
  ·rw [h2]
   exact (hF _ _ (List.mem_append_left _ hB)).1 hr)
 intro K Q hk'
 refine hA K Q fun x w' ⟨μ',S',h1,h2,h3⟩=>hk' x w' ⟨μ',S',?_,?_,?_⟩
 ·rw [memU_append]; exact E0.trans h1
 ·rw [memU_append]; exact h2
 ·rw [memU_append]; exact h3

theorem op_callG {o:Oper} {a:Act} {callee:Operand} {args:Array Operand} {ts:Array TypeId} {f base:Nat} {ex:List V} {cs:Array Value} {vs:List V} {ml:Mem} {p:Option Prop} {v:V} {m:Mem} (hΓ:Sound P tab Γ) (hm:mem=look ml)
  (ho:o.op=.call { callee:=.value callee,args:=args,argTypes:=ts }) (I:Inv tab μ mem w S) (hfn:a.eval callee=.func (.func f) #[] cs) (hex:RelVs tab μ mem w S ex cs.toList) (ha:RelVs tab μ mem w S vs (args.toList.map a.eval))
  {names:List Nat} (h:callX Γ tab base (memAt ml names) f (vs++ex)=some (p,v,m)) (hp:under p True) (hF:FreshP base mem names m) :
  Runs P o a w (After tab μ mem w S m v):=by
 have hsees:Sees (memAt ml names) mem:=fun r B h hal=>by
  subst hm
  obtain ⟨j,hj⟩:=get_of_look h
  simp only [memAt,List.getElem?_map,Option.map_eq_some_iff,Prod.mk.injEq] at hj
  obtain ⟨q,_,rfl,rfl⟩:=hj
  cases hq:look ml q with
  | none=>rw [hq] at hal; exact hal.elim
  | some D=>rfl
 have hargs:RelVs tab μ mem w S (vs++ex) (args.toList.map a.eval++cs.toList):=relVs_append ha hex
 have hxs:args.map a.eval++cs=(args.toList.map a.eval++cs.toList).toArray:=by
  apply Array.ext'
  simp
 unfold callX at h
 split at h
 ·cases h
 rename_i C hC
 obtain ⟨hsound,fn,hfn1,hfn2,hfn3⟩:=hΓ f C hC
 simp only at h
 split at h
 ·rename_i p0 v0 bs hc
  split at h<;>try cases h
  rename_i hk hok
  rw [memAt_fst] at hc hok hF ⊢
  obtain ⟨n1,n2,n3,n4⟩:=okSeen_spec hok
  have H:=handed_of hm n1 n4
  have hkl:=(kindsOk_len hk).1
  rw [List.length_map,show (memAt ml names).length=names.length by simp [memAt]] at hkl
  have K:Back mem names base bs.length:=⟨n1,n2,by omega,fun j hj1 hj2=>by
   obtain ⟨B,hB⟩:=backs_mem (seen:=names) (base:=base) hj2
   rw [backName_new hj1] at hB
   exact (hF _ _ hB).1 (by omega)⟩
  have hins:((memAt ml names).map fun p=>p.2.ren (idx names))=((memAt ml names).map (·.2)).map (Blk.ren (idx names)):=by rw [List.map_map]; rfl
  rw [hins] at hc
  have hac:=hsound _ _ _ _ _ hc hp w S (muC names μ) _ (H.inv I) (H.pick hargs n3)
  refine Calls.runs hfn1 hfn2 hfn3 ho cs hfn rfl ?_
  rw [hxs]
  refine hac.mono fun e w' ⟨x,μ',S',h1,h2,h3,h4⟩=>⟨x,h1,?_⟩
  obtain ⟨k1,k2,k3⟩:=call_back I H K h2 h3 h4
  exact ⟨_,S',k1,k2,k3⟩
 ·rename_i hc
  split at h
  ·exact op_callM (us:=(vs++ex).map unNil) hm ho hsound hfn1 hfn2 hfn3 I hfn hxs (unNil_rels hargs) h hp hF
  rename_i ds ns hds
  split at h<;>try cases h
  rename_i p0 v0 bs hc'
  have I0:Inv tab (fun _=>none) (memL []) w (Froz μ mem S ns):=by
   obtain ⟨_,Ik⟩:=kills_EI (ns:=ns) I
   exact ⟨fun r B h=>by simp [memL] at h,fun r r' _ ⟨B,h,_⟩=>by simp [memL] at h,fun r ⟨B,h,_⟩=>by simp [memL] at h,Ik.lt,Ik.pow⟩
  have hrel:=datsOf_rel (N:=ns) I hsees (unNil_rels hargs) hds (fun r hr=>hr) (μ0:=fun _=>none) (mem0:=memL [])
  split at h
  ·rename_i hpl
   cases h
   have hac:=hsound _ _ _ _ _ hc' hp w (Froz μ mem S ns) (fun _=>none) _ I0 hrel
   refine Calls.runs hfn1 hfn2 hfn3 ho cs hfn rfl ?_
   rw [hxs]
   refine hac.mono fun e w' ⟨x,μ',S',h1,E,I',h4⟩=>⟨x,h1,?_⟩
   have hall:∀ b,b<w.heap.size→w'.heap[b]? = w.heap[b]?:=fun b hb=>E.heap b hb fun ⟨r,l,⟨B,hB,_⟩,_⟩=>by simp [memL] at hB
   have E1:Ext μ mem w S μ mem w' S:=⟨fun _ h=>h,(Ext.refl (μ:=μ) (mem:=mem) (w:=w) (S:=S)).kinds,fun _ h=>h,E.size,fun b hb _=>hall b hb,fun _ h=>.inl h,fun _ h=>.inl h,E.os,E.tape,E.output⟩
   refine ⟨μ,S,E1,⟨fun q B hB hal=>?_,I.inj,I.sep,fun b hb=>Nat.lt_of_lt_of_le (I.lt b hb) E.size,I.powExt E1⟩,plain_rel hpl h4⟩
   obtain ⟨l,k1,k2⟩:=I.rel q B hB hal
   exact ⟨l,k1,k2.ext E1 I fun b hb=>hall b (I.blockLt ⟨B,hB,hal⟩ k1 hb)⟩
  ·split at h<;>try cases h
   rename_i hk hbel
   obtain ⟨E0,I1⟩:=kills_EI (ns:=ns) I
   have H:Handed (memU (deads ns) mem) [] []:=⟨List.nodup_nil,rfl,fun j r h=>by simp at h,fun B hB=>by simp at hB⟩
   have hmu:muC [] μ=fun _=>none:=by funext j; simp [muC]
   have K:Back (memU (deads ns) mem) [] base _:=⟨List.nodup_nil,fun r hr=>by simp at hr,Nat.zero_le _,fun j hj1 hj2=>by
    obtain ⟨B,hB⟩:=backs_mem (seen:=[]) (base:=base) hj2
    rw [backName_new hj1] at hB
    have hno:base+(j-([]:List Nat).length)∉ns:=fun hmem=>by
     have:=allBelow_lt hbel _ hmem
     omega
    rcases memU_deads (mem:=mem) ns (base+(j-([]:List Nat).length)) with ⟨h1,_⟩ | ⟨_,h2⟩
    ·exact absurd h1 hno
    ·rw [h2]
     exact (hF _ _ (List.mem_append_left _ hB)).1 (by omega)⟩
   have hac:=hsound _ _ _ _ _ hc' hp w (Froz μ mem S ns) (fun _=>none) _ I0 hrel
   refine Calls.runs hfn1 hfn2 hfn3 ho cs hfn rfl ?_
   rw [hxs]
   refine hac.mono fun e w' ⟨x,μ',S',h1,h2,h3,h4⟩=>⟨x,h1,?_⟩
   obtain ⟨k1,k2,k3⟩:=call_back (μ:=μ) (blks:=[]) I1 H K (by rw [hmu]; exact h2) h3 h4
   exact ⟨_,S',by rw [memU_append]; exact E0.trans k1,by rw [memU_append]; exact k2,by rw [memU_append]; exact k3⟩

theorem op_call {o:Oper} {a:Act} {callee:Operand} {args:Array Operand} {ts:Array TypeId} {f base:Nat} {caps:List Nat} {vs:List V} {ml:Mem} {p:Option Prop} {v:V} {m:Mem} (hΓ:Sound P tab Γ) (hm:mem=look ml)
  (ho:o.op=.call { callee:=.value callee,args:=args,argTypes:=ts }) (I:Inv tab μ mem w S) (hf:RelV tab μ mem w S (.one (.fn f caps)) (a.eval callee)) (ha:RelVs tab μ mem w S vs (args.toList.map a.eval))
  {names:List Nat} (h:callX Γ tab base (memAt ml names) f (vs++caps.map fun r=>.one (.ptr r 0))=some (p,v,m)) (hp:under p True) (hF:FreshP base mem names m) :
  Runs P o a w (After tab μ mem w S m v):=by
 obtain ⟨_,hcap,cs,hfn,hsz,hcs⟩:=hf
 refine op_callG hΓ hm ho I hfn (relVs_caps (by simpa using hsz) fun i r hi=>?_) ha h hp hF
 obtain ⟨y,y1,y2,y3⟩:=hcs i r hi
 exact ⟨y,by simpa using y1,y2,hcap r (List.mem_of_getElem? hi),y3⟩

theorem op_callW {o:Oper} {a:Act} {callee x:Operand} {ts:Array TypeId} {d:Option Int} {n:Int} (hT:TabOk P tab) (hw:tab.w=true)
  (ho:o.op=.call { callee:=.value callee,args:=#[x],argTypes:=ts }) (I:Inv tab μ mem w S) (hf:RelV tab μ mem w S (.one (.dat .fnw d)) (a.eval callee)) (hx:RelV tab μ mem w S (.one (.dat .int n)) (a.eval x)) :
  Runs P o a w (After tab μ mem w S [] (.one (.dat .int (fnwApp d n)))):=by
 obtain ⟨⟨g0,p1,p2,p3⟩,⟨g1,q1,q2,q3⟩,r0,r1⟩:=hT.fnw hw
 have ex:=rel_int hx
 obtain ⟨_,hf⟩:=hf
 generalize hv:a.eval callee=v at hf
 cases hf with
 | fnw0 =>
  refine Calls.runs p1 p2 p3 ho #[] hv rfl ?_
  rw [show #[x].map a.eval++#[]=#[.int .i64 n] by simp [ex]]
  exact (r0 n w).mono fun e w' ⟨h1,h2⟩=>⟨_,h1,by rw [h2]; exact after_same I (mk_int _)⟩
 | fnw1 m b cur e fz hS hb hc =>
  refine Calls.runs q1 q2 q3 ho _ hv rfl ?_
  rw [show #[x].map a.eval++#[Value.pointer (some (at0 b 0))]=#[.int .i64 n,.pointer (some (at0 b 0))] by simp [ex]]
  exact (r1 n m b w (cell?_at hb hc)).mono fun e w' ⟨h1,h2⟩=>⟨_,h1,by rw [h2]; exact after_same I (mk_int _)⟩
end
end Vm
end Go.Proofs.YtlbppjmekiemiacGreatDoor


/- The executor on data: one operation, whichever it is. No condition. -/
namespace Go.Proofs.YtlbppjmekiemiacGreatDoor
namespace Vm
section
variable {P:Program} {tab:Tab} {Γ:Ctx} {μ μ':Mu} {mem mem':MemF} {w w':World} {S S':Nat→Prop}

theorem sees_memAt {ml:Mem} {names:List Nat} (hm:mem=look ml):Sees (memAt ml names) mem:=fun r B h hal=>by
 subst hm
 obtain ⟨j,hj⟩:=get_of_look h
 simp only [memAt,List.getElem?_map,Option.map_eq_some_iff,Prod.mk.injEq] at hj
 obtain ⟨q,_,rfl,rfl⟩:=hj
 cases hq:look ml q with
 | none=>rw [hq] at hal; exact hal.elim
 | some D=>rfl

theorem pairUp_snd:∀ (ts:List Nat) (os:List Operand),(pairUp ts os).map (·.2)=os
 | t::ts,o::os=>by simp [pairUp,pairUp_snd ts os]
 | [],o::os=>by simp [pairUp,pairUp_snd [] os]
 | [],[]=>rfl
 | _::_,[]=>rfl

theorem pairUp_eval (a:Act) (ts:List Nat) (os:List Operand):(pairUp ts os).map (fun p=>a.eval p.2)=os.map a.eval:=by
 have:=congrArg (List.map a.eval) (pairUp_snd ts os)
 rw [← this,List.map_map]; rfl

theorem ptr_ad {r o:Nat} {cs:List C} {x:Value} {lm:Mem} (hs:Sees lm mem) (I:Inv tab μ mem w S) (h:look lm r=some (.box cs)) (hx:RelV tab μ mem w S (.one (.ptr r o)) x) :
  ∃ b k,x=.pointer (some (at0 b k)):=by
 obtain ⟨b,vs,e,h1,_⟩:=sees_box_ptr hs I h hx
 exact ⟨b,o,h1⟩

theorem optr_ad {r i k:Nat} {t:Ty} {l:List t.den} {x:Value} {lm:Mem} (hs:Sees lm mem) (I:Inv tab μ mem w S) (h:look lm r=some (.arr t l)) (hx:RelV tab μ mem w S (.one (.optr r i k)) x) :
  ∃ b k,x=.pointer (some (at0 b k)):=by
 obtain ⟨b,cap,cur,e,h1,_⟩:=sees_arr_ptr hs I h hx
 exact ⟨b,_,h1⟩

theorem eptr_ad {t:Ty} {l:List t.den} {i k:Nat} {x:Value} (hx:RelV tab μ mem w S (.one (.eptr t l i k)) x):∃ b k,x=.pointer (some (at0 b k)):=by
 obtain ⟨_,b,off,_,h1⟩:=hx
 exact ⟨b,_,h1⟩

theorem ptrsOf_spec:∀ {vs:List V} {rs:List Nat} {ops:List Operand} {a:Act},ptrsOf vs=some rs→RelVs tab μ mem w S vs (ops.map a.eval) →
  ops.length=rs.length∧∀ (i r:Nat),rs[i]? = some r→∃ x,ops[i]? = some x∧RelV tab μ mem w S (.one (.ptr r 0)) (a.eval x)
 | [],rs,[],a,h,hv=>by simp [ptrsOf] at h; subst h; simp
 | [],rs,_::_,a,h,hv=>hv.elim
 | v::vs,rs,[],a,h,hv=>hv.elim
 | v::vs,rs,x::ops,a,h,hv=>by
  unfold ptrsOf at h
  split at h<;>try cases h
  ·rename_i he; cases he
  ·rename_i r rest he
   cases he
   split at h<;>try cases h
   rename_i rs' hr
   obtain ⟨h1,h2⟩:=ptrsOf_spec hr hv.2
   refine ⟨by simp [h1],fun i q hq=>?_⟩
   cases i with
   | zero=>simp at hq; subst hq; exact ⟨x,rfl,hv.1⟩
   | succ i=>simp at hq ⊢; exact h2 i q hq

theorem sameOp_eq {x y:Operand} (h:sameOp x y=true):x=y:=by
 cases x<;>cases y<;>simp [sameOp] at h
 subst h; rfl

theorem bind_tyAt {ts:List Nat} {ti:TI} (h:(ts.head?).bind (tyAt tab)=some ti):∃ T,ts.head? = some T∧tyAt tab T=some ti:=by
 cases ts with
 | nil=>cases h
 | cons T ts=>exact ⟨T,rfl,h⟩

theorem elem_isSlice {ti:TI} {t:Ty} (h:ti.elem=some t):ti.isSlice t=true:=by
 unfold TI.elem at h
 unfold TI.isSlice
 split at h<;>try cases h
 simp

theorem args1 {args:Array Operand} {a:Act} {v:V} (h:RelVs tab μ mem w S [v] (args.toList.map a.eval)):∃ x,args=#[x]∧RelV tab μ mem w S v (a.eval x):=by
 obtain ⟨l⟩:=args
 cases l with
 | nil=>exact h.elim
 | cons x l=>cases l with
  | nil=>exact ⟨x,rfl,h.1⟩
  | cons y l=>exact h.2.elim

theorem args2 {args:Array Operand} {a:Act} {v u:V} (h:RelVs tab μ mem w S [v,u] (args.toList.map a.eval)):∃ x y,args=#[x,y]∧RelV tab μ mem w S v (a.eval x)∧RelV tab μ mem w S u (a.eval y):=by
 obtain ⟨l⟩:=args
 cases l with
 | nil=>exact h.elim
 | cons x l=>cases l with
  | nil=>exact h.2.elim
  | cons y l=>cases l with
   | nil=>exact ⟨x,y,rfl,h.1,h.2.1⟩
   | cons z l=>exact h.2.2.elim

theorem appendX_base {ti:TI} {base bytes:Nat} {lm:Mem} {c d:C} {p:Option Prop} {v:V} {m:Mem} (h:appendX ti base bytes lm c d=some (p,v,m)):∃ B,(base,B)∈m:=by
 unfold appendX at h
 repeat' split at h
 all_goals (try cases h)
 all_goals first
  | exact ⟨_,List.mem_cons_self ..⟩
  | exact ⟨_,List.mem_cons_of_mem _ (List.mem_cons_self ..)⟩

theorem appendY_base {ti:TI} {base bytes q:Nat} {lm:Mem} {c:C} {p:Option Prop} {v:V} {m:Mem} (h:appendY ti base bytes lm c q=some (p,v,m)):∃ B,(base,B)∈m:=by
 unfold appendY at h
 repeat' split at h
 all_goals (try cases h)
 all_goals exact ⟨_,List.mem_cons_of_mem _ (List.mem_cons_of_mem _ (List.mem_cons_self ..))⟩

theorem optAt_eval {lo:Option Operand} {vs vs':List V} {l:Option Int} {a:Act} {xs:List Value} (h:optAt lo vs=some (l,vs')) (hr:RelVs tab μ mem w S vs (lo.toList.map a.eval++xs)) :
  lo.map a.eval=iv l∧RelVs tab μ mem w S vs' xs:=by
 cases lo with
 | none=>simp only [optAt] at h; cases h; exact ⟨rfl,hr⟩
 | some op =>
  simp only [optAt] at h
  split at h<;>try cases h
  obtain ⟨h1,h2⟩:=hr
  exact ⟨by simp [iv,rel_int h1],h2⟩

theorem op_bin {o:Oper} {a:Act} {x y:Operand} {op:BinOp} {t t':TypeId} {u v:V} {p:Option Prop} {z:V} {m:Mem} (hT:TabOk P tab) (ho:o.op=.binOp op t x y t') (I:Inv tab μ mem w S)
  (hx:RelV tab μ mem w S u (a.eval x)) (hy:RelV tab μ mem w S v (a.eval y)) (h:binX tab op t u v=some (p,z,m)) (hp:under p True) :
  Runs P o a w (After tab μ mem w S m z):=by
 have h0:=h
 unfold binX at h
 split at h
 ·split at h<;>try cases h
  rename_i hi
  exact op_binInt ho I hx hy hi hp
 ·split at h<;>try cases h
  rename_i ht
  simp only [Option.map_eq_some_iff] at ht
  obtain ⟨ti,h1,h2⟩:=ht
  split at h<;>try cases h
  ·exact op_binBool hT ho h1 h2 I hx hy (.inl ⟨rfl,rfl⟩)
  ·exact op_binBool hT ho h1 h2 I hx hy (.inr ⟨rfl,rfl⟩)
 ·split at h<;>try cases h
  exact op_binU64 ho I hx hy
 ·exact op_binStr ho I hx hy h0 hp
 ·split at h<;>try cases h
  rename_i hm hr hti
  split at h<;>try cases h
  rename_i hq
  split at h<;>try cases h
  ·exact op_binAgg hT ho hm hti hq I hx hy hr (.inl ⟨rfl,rfl⟩)
  ·exact op_binAgg hT ho hm hti hq I hx hy hr (.inr ⟨rfl,rfl⟩)
 ·cases h

theorem op_binErr {o:Oper} {a:Act} {x:Operand} {c:Value} {op:BinOp} {t t':TypeId} {ti:TI} {b:Bool} {v:V} (hT:TabOk P tab) (ho:o.op=.binOp op t x (.const c) t') (ht:tyAt tab t=some ti) (hk:ti.isIface=true) (I:Inv tab μ mem w S)
  (hx:RelV tab μ mem w S (.one (.dat .err b)) (a.eval x)) (hy:RelV tab μ mem w S (.one (.dat .err true)) (a.eval (.const c)))
  (h:(op=.eql∧v=.one (.dat .bool b))∨(op=.neq∧v=.one (.dat .bool (!b)))) :
  Runs P o a w (After tab μ mem w S [] v):=by
 obtain ⟨ms,hu⟩:∃ ms,P.underlying t=some (.interface ms):=by
  have hk2:=(hT.ok t ti ht).kind
  unfold TI.isIface at hk
  split at hk
  ·rename_i e; rw [e] at hk2; exact hk2
  ·cases hk
 have ey:a.eval (.const c)=.nilIface:=by
  obtain ⟨z,hz⟩:∃ z,a.eval (.const c)=z:=⟨_,rfl⟩
  rw [hz] at hy ⊢
  have h2:RepC tab w S (.dat .err true) z:=hy.2
  cases h2; rfl
 have ex:(b=true∧a.eval x=.nilIface)∨(b=false∧∃ te u,a.eval x=.iface te u):=by
  obtain ⟨z,hz⟩:∃ z,a.eval x=z:=⟨_,rfl⟩
  rw [hz] at hx ⊢
  have h2:RepC tab w S (.dat .err b) z:=hx.2
  cases h2 with
  | err0=>exact .inl ⟨rfl,rfl⟩
  | err1 te u=>exact .inr ⟨rfl,te,u,rfl⟩
 have key0:∀ d,(Op.equalIn (d+1) t .nilIface .nilIface).run P w=.ok true w:=fun d=>by simp [Op.equalIn,run_underlying hu]
 have key1:∀ d te u,(Op.equalIn (d+1) t (.iface te u) .nilIface).run P w=.ok false w:=fun d te u=>by simp [Op.equalIn,run_underlying hu]
 have eq:(Op.equal t (a.eval x) .nilIface).run P w=.ok b w:=by
  rcases ex with ⟨e1,e2⟩ | ⟨e1,te,u,e2⟩
  ·rw [e1,e2]; exact key0 9999
  ·rw [e1,e2]; exact key1 9999 te u
 have gd:(eqGuard op t x (.const c) (a.eval x) .nilIface).run P w=.ok () w:=by
  unfold eqGuard
  rcases ex with ⟨_,e2⟩ | ⟨_,te,u,e2⟩<;>rw [e2]<;>cases op<;>cases x<;>rfl
 have fin:∀ z:Value,RelV tab μ mem w S v z→(binOp op t (a.eval x) .nilIface).run P w=.ok z w→Runs P o a w (After tab μ mem w S [] v):=fun z hz hr=>by
  refine runs_of (s:=do eqGuard op t x (.const c) (a.eval x) (a.eval (.const c)); binOp op t (a.eval x) (a.eval (.const c))) (x:=z) (w':=w) (by simp only [execOp,ho]) ?_ (after_same I hz)
  rw [ey,Sem.run_bind,gd]
  exact hr
 rcases h with ⟨rfl,rfl⟩ | ⟨rfl,rfl⟩
 ·refine fin (.bool b) (mk_bool _) ?_
  have:binOp .eql t (a.eval x) .nilIface=(do pure (.bool (← Op.equal t (a.eval x) .nilIface)):Sem Value):=by
   rcases ex with ⟨_,e2⟩ | ⟨_,te,u,e2⟩<;>rw [e2]<;>rfl
  rw [this,Sem.run_bind,eq]
  rfl
 ·refine fin (.bool (!b)) (mk_bool _) ?_
  have:binOp .neq t (a.eval x) .nilIface=(do pure (.bool (!(← Op.equal t (a.eval x) .nilIface))):Sem Value):=by
   rcases ex with ⟨_,e2⟩ | ⟨_,te,u,e2⟩<;>rw [e2]<;>rfl
  rw [this,Sem.run_bind,eq]
  rfl
theorem op_X {o:Oper} {a:Act} {base:Nat} {vs:List V} {ml:Mem} {names:List Nat} {p:Option Prop} {v:V} {m:Mem} (hT:TabOk P tab) (hΓ:Sound P tab Γ) (hm:mem=look ml)
  (I:Inv tab μ mem w S) (hv:RelVs tab μ mem w S vs ((operands o).map fun p=>a.eval p.2)) (h:opX Γ tab base o vs (memAt ml names)=some (p,v,m)) (hp:under p True) (hF:FreshP base mem names m) :
  Runs P o a w (After tab μ mem w S m v):=by
 have hs:Sees (memAt ml names) mem:=sees_memAt hm
 have hbase:∀ B,(base,B)∈m→mem base=none:=fun B hB=>(hF _ _ hB).1 (Nat.le_refl _)
 unfold opX at h
 split at h
 all_goals (rename_i ho; try simp only [operands,ho] at hv)
 ·cases h; exact op_move (.inl ho) I hv.1
 ·cases h; exact op_move (.inr ho) I hv.1
 ·rename_i c u1 u2
  cases h
  cases c with
  | true=>exact op_pick (b:=true) ho I hv.1 hv.2.1 hv.2.2.1
  | false=>exact op_pick (b:=false) ho I hv.1 hv.2.1 hv.2.2.1
 ·split at h<;>try cases h
  rename_i ht
  exact op_alloc hT ho ht I (hbase _ (List.mem_singleton.2 rfl))
 ·split at h<;>try cases h
  rename_i ht hc
  split at h<;>try cases h
  exact op_box ho hv.1 hc I (hbase _ (List.mem_singleton.2 rfl))
 ·split at h<;>try cases h
  rename_i ht
  split at h<;>try cases h
  rename_i hk
  split at h<;>try cases h
  rename_i hf
  split at h<;>try cases h
  rename_i hpl
  exact op_build hT ho ht hk I (by simpa [List.map_map,Function.comp_def] using hv) hf hpl
 ·split at h<;>try cases h
  rename_i ht
  split at h<;>try cases h
  rename_i hk
  split at h
  ·rename_i hdu he0
   split at h<;>try cases h
   rename_i cs hcs
   split at h<;>try cases h
   rename_i hl1 hl2 
   exact op_build1 hT ho he0 ht (elem_isSlice hk) I (by simpa [List.map_map,Function.comp_def] using hv) hcs (Nat.eq_of_beq_eq_true hl1) (Nat.le_of_ble_eq_true hl2) (hbase _ (List.mem_singleton.2 rfl))
  split at h<;>try cases h
  rename_i hc he
  split at h<;>try cases h
  rename_i hmb
  split at hc<;>try cases hc
  rename_i hn
  refine op_buildSlice hT ho ht (elem_isSlice hk) I hs (by simpa [List.map_map,Function.comp_def] using hv) he (Nat.le_of_ble_eq_true hn) ?_ (hbase _ (List.mem_cons_self ..)) (memb_no hmb)
  split at hc
  ·rename_i hq
   exact .inl (Nat.eq_of_beq_eq_true hq).symm
  ·exact .inr hc
 ·split at h<;>try cases h
  rename_i ht
  exact op_load hT ho ht I hs hv.1 h hp
 ·split at h<;>try cases h
  rename_i ht
  exact op_store hT ho ht I hs hv.1 hv.2.1 h hp
 ·split at h<;>try cases h
  rename_i hb
  obtain ⟨b,k,hk⟩:=ptr_ad hs I hb hv.1
  exact op_nilCheck ho I hv.1 ⟨_,hk⟩
 ·split at h<;>try cases h
  rename_i hb
  obtain ⟨b,k,hk⟩:=optr_ad hs I hb hv.1
  exact op_nilCheck ho I hv.1 ⟨_,hk⟩
 ·split at h<;>try cases h
  rename_i hb
  obtain ⟨b,cap,cur,e,hk,_⟩:=arx_ptr hs I hb hv.1
  exact op_nilCheck ho I hv.1 ⟨_,hk⟩
 ·cases h
  obtain ⟨b,k,hk⟩:=eptr_ad hv.1
  exact op_nilCheck ho I hv.1 ⟨_,hk⟩
 ·cases h
  exact op_nilCheck_fn ho I hv.1
 ·split at h<;>try cases h
  all_goals
   rename_i h1
   simp only [Option.map_eq_some_iff] at h1
   obtain ⟨ti,h3,h4⟩:=h1
  ·exact op_binErr hT ho h3 h4 I hv.1 hv.2.1 (.inl ⟨rfl,rfl⟩)
  ·exact op_binErr hT ho h3 h4 I hv.1 hv.2.1 (.inr ⟨rfl,rfl⟩)
 ·exact op_bin hT ho I hv.1 hv.2.1 h hp
 ·cases h; exact op_not ho I hv.1
 ·cases h; exact op_neg ho I hv.1
 ·split at h<;>try cases h
  ·rename_i h1 h2
   simp only [Option.map_eq_some_iff] at h1 h2
   obtain ⟨ti,h3,h4⟩:=h1
   obtain ⟨tj,h5,h6⟩:=h2
   exact op_convert hT ho h3 h4 h5 h6 I hv.1
  ·rename_i h1 _
   split at h<;>try cases h
   rename_i h2
   simp only [Option.map_eq_some_iff] at h1 h2
   obtain ⟨ti,h3,h4⟩:=h1
   obtain ⟨tj,h5,h6⟩:=h2
   exact op_convU hT ho h3 h4 h5 h6 I hv.1
 ·split at h<;>try cases h
  rename_i h1 h2
  simp only [Option.map_eq_some_iff] at h1 h2
  obtain ⟨ti,h3,h4⟩:=h1
  obtain ⟨tj,h5,h6⟩:=h2
  exact op_convI hT ho h3 h4 h5 h6 I hv.1
 ·split at h<;>try cases h
  rename_i hfs hr
  rename_i fs cs _ _ _
  have hfs':fs=#[]:=Array.toList_eq_nil_iff.1 hfs
  subst hfs'
  obtain ⟨h1,h2⟩:=ptrsOf_spec (ops:=cs.toList) hr (by simpa [Op.operands,List.map_map,Function.comp_def] using hv)
  exact op_makeFunc ho rfl I (by simpa using h1) (fun i r hr=>by simpa using h2 i r hr)
 ·split at h<;>try cases h
  rename_i hse
  split at h<;>try cases h
  rename_i ht
  split at h<;>try cases h
  rename_i hk
  split at h<;>try cases h
  rename_i hf
  exact op_makeSlice hT ho (by rw [sameOp_eq hse]) ht (elem_isSlice hk) hf I hv.1 hp.1.1 hp.1.2.1 hp.1.2.2 (hbase _ (List.mem_singleton.2 rfl))
 ·split at h<;>try cases h
  rename_i ht hl
  split at h<;>try cases h
  rename_i hh
  split at h<;>try cases h
  rename_i hmx
  simp only [Op.operands,Array.toList_append,List.map_append,List.map_map,List.append_assoc,List.cons_append,List.nil_append,Option.toList_toArray,List.map_cons] at hv
  have hv1:=hv.1
  have hv2:=hv.2
  have e:∀ l:List Operand,(l.map ((fun p:Nat × Operand=>a.eval p.2) ∘ fun x=>(0,x)))=l.map a.eval:=fun l=>rfl
  simp only [e] at hv2
  obtain ⟨e1,hv3⟩:=optAt_eval hl hv2
  obtain ⟨e2,hv4⟩:=optAt_eval hh hv3
  obtain ⟨e3,hv5⟩:=optAt_eval (xs:=[]) hmx (by simpa using hv4)
  exact op_slice hT ho ht I hs hv1 e1 e2 e3 h hp
 ·split at h<;>try cases h
  rename_i ht
  split at h<;>try cases h
  rename_i hf
  split at hf<;>try cases hf
  rename_i hk
  split at h<;>try cases h
  ·split at h<;>try cases h
   rename_i hb
   exact op_fieldAddr hT ho ht hk hf I hv.1 (.inl ⟨_,_,rfl,rfl⟩) (ptr_ad hs I hb hv.1)
  ·split at h<;>try cases h
   rename_i hb
   exact op_fieldAddr hT ho ht hk hf I hv.1 (.inr (.inl ⟨_,_,_,rfl,rfl⟩)) (optr_ad hs I hb hv.1)
  ·split at h<;>try cases h
   rename_i hb
   obtain ⟨b,cap,cur,e,hk2,_⟩:=arx_ptr hs I hb hv.1
   exact op_fieldAddr hT ho ht hk hf I hv.1 (.inr (.inr (.inr ⟨_,_,rfl,rfl⟩))) ⟨_,_,hk2⟩
  ·exact op_fieldAddr hT ho ht hk hf I hv.1 (.inr (.inr (.inl ⟨_,_,_,_,rfl,rfl⟩))) (eptr_ad hv.1)
 ·split at h<;>try cases h
  rename_i ht
  exact op_indexAddr hT ho ht I hs hv.1 hv.2.1 h hp
 ·split at h<;>try cases h
  rename_i ht
  split at h<;>try cases h
  rename_i hk
  split at h<;>try cases h
  rename_i h2 h3
  exact op_index hT ho ht hk I hv.1 hv.2.1 hp.1.1 hp.1.2 (Nat.le_of_ble_eq_true h2) (Nat.le_of_ble_eq_true h3)
 ·split at h<;>try cases h
  rename_i hm2 hti hc
  split at h<;>try cases h
  rename_i hq
  exact op_field hT ho hm2 hti hq hc I hv.1
 ·split at h<;>try cases h
  rename_i hk
  exact op_makeMap ho I (hbase _ (List.mem_singleton.2 rfl))
 ·split at h<;>try cases h
  rename_i hk hks
  exact op_mapUpdate hT ho hk I hs hv.1 hv.2.1 hv.2.2.1 hks
 ·split at h<;>try cases h
  rename_i hk hks
  exact op_lookup hT ho hk I hs hv.1 hv.2.1 hks
 ·split at h<;>try cases h
  rename_i hu
  exact op_extract ho I hv.1 hu
 ·split at h<;>try cases h
  rename_i ht
  rw [pairUp_eval] at hv
  obtain ⟨x,rfl,hx⟩:=args1 hv
  obtain ⟨T,h1,h2⟩:=bind_tyAt ht
  exact op_len hT ho h1 h2 I hs hx h
 ·split at h<;>try cases h
  rename_i hts
  split at h<;>try cases h
  rename_i h1 h2
  split at h<;>try cases h
  rename_i h3
  rw [pairUp_eval] at hv
  obtain ⟨x,y,rfl,hx,hy⟩:=args2 hv
  have hts':=Array.toList_inj.1 (hts.trans (List.toList_toArray (as:=[_,_])).symm)
  rw [hts'] at ho
  split at h
  ·exact op_appendY hT ho h1 h2 h3 I hs (by
    obtain ⟨B,hB⟩:=appendY_base h
    exact hbase B hB) hx hy h hp
  ·exact op_append hT ho h1 h2 h3 I hs (by
    obtain ⟨B,hB⟩:=appendX_base h
    exact hbase B hB) hx hy h hp
 ·split at h<;>try cases h
  rename_i hts
  split at h<;>try cases h
  rename_i h1
  rw [pairUp_eval] at hv
  obtain ⟨x,y,rfl,hx,hy⟩:=args2 hv
  have hts':=Array.toList_inj.1 (hts.trans (List.toList_toArray (as:=[_,_])).symm)
  rw [hts'] at ho
  exact op_copy hT ho h1 I hs hx hy h hp
 ·split at h<;>try cases h
  rename_i hts
  split at h<;>try cases h
  rename_i h1
  rw [pairUp_eval] at hv
  obtain ⟨x,rfl,hx⟩:=args1 hv
  have hts':=Array.toList_inj.1 (hts.trans (List.toList_toArray (as:=[_])).symm)
  rw [hts'] at ho
  exact op_clear hT ho h1 I hs hx h hp
 ·cases h
  rw [pairUp_eval] at hv
  obtain ⟨x,y,rfl,hx,hy⟩:=args2 hv
  exact op_min ho I hx hy
 ·cases h
  rw [pairUp_eval] at hv
  obtain ⟨x,y,rfl,hx,hy⟩:=args2 hv
  exact op_max ho I hx hy
 ·refine op_call hΓ hm ho I hv.1 ?_ h hp hF
  have:=hv.2
  rw [pairUp_eval] at this
  exact this
 ·split at h<;>try cases h
  rename_i hw
  have:=hv.2
  rw [pairUp_eval] at this
  obtain ⟨x,rfl,hx⟩:=args1 this
  exact op_callW hT hw ho I hv.1 hx
 ·cases h
end
end Vm
end Go.Proofs.YtlbppjmekiemiacGreatDoor


/- The executor on data: a state and a frame. No condition. -/
namespace Go.Proofs.YtlbppjmekiemiacGreatDoor
namespace Vm

structure StRel (tab:Tab) (N:Nat) (env:Env) (mem:Mem) (a:Act) (w:World) (μ:Mu) (S:Nat→Prop):Prop where
 size:a.tmps.size=N
 defers:a.defers=[]
 inv:Inv tab μ (look mem) w S
 env:∀ t v,look env t=some v→RelV tab μ (look mem) w S v (a.eval (.tmp t))∧(v=.one .undef→a.eval (.tmp t)=Go.undef)

def Fresh (n:Nat) (mem:Mem):Prop:=∀ r,n≤r→look mem r=none

section
variable {P:Program} {tab:Tab} {Γ:Ctx} {N:Nat} {μ μ':Mu} {env env':Env} {mem mem':Mem} {a:Act} {w w':World} {S S':Nat→Prop}

theorem constC_rel {ty:Nat} {x:Value} {v:V} {mf:MemF} (h:constC tab ty x=some v):RelV tab μ mf w S v x:=by
 unfold constC at h
 split at h
 ·cases h; exact mk_int _
 ·cases h; exact mk_u64 _
 ·cases h; exact mk_bool _
 ·cases h; simpa using mk_str (tab:=tab) (μ:=μ) (mem:=mf) (w:=w) (S:=S) _
 ·cases h; exact ⟨rfl,RepC.err0⟩
 ·split at h<;>try cases h
  rename_i h1 h2 _
  split at h<;>try cases h
  have e1:=Nat.eq_of_beq_eq_true h1
  have e2:=Nat.eq_of_beq_eq_true h2
  subst e1 e2
  exact ⟨rfl,rfl⟩
 ·cases h

theorem StRel.eval (R:StRel tab N env mem a w μ S) {ty:Nat} {o:Operand} {v:V} (h:evalO tab env ty o=some v):RelV tab μ (look mem) w S v (a.eval o):=by
 cases o with
 | tmp t=>exact (R.env t v h).1
 | const x=>exact constC_rel h
 | global g=>cases h
 | func f =>
  cases h
  exact ⟨rfl,by simp,#[],rfl,rfl,by simp⟩

theorem StRel.evalAll (R:StRel tab N env mem a w μ S):∀ {l:List (Nat × Operand)} {vs:List V},evalAll tab env l=some vs→RelVs tab μ (look mem) w S vs (l.map fun p=>a.eval p.2)
 | [],vs,h=>by simp [Vm.evalAll] at h; subst h; trivial
 | (ty,o)::l,vs,h=>by
  simp only [Vm.evalAll] at h
  split at h<;>try cases h
  rename_i hv
  split at h<;>try cases h
  rename_i hvs
  exact ⟨R.eval hv,R.evalAll hvs⟩

theorem freshIn_spec {base:Nat} {names:List Nat}:∀ {m:Mem},freshIn base mem names m=true →
  FreshP base (look mem) names m∧∀ r B,(r,B)∈m→look mem r=none→r<base+8
 | [],_=>⟨fun r B h=>by simp at h,fun r B h=>by simp at h⟩
 | (q,D)::m,h=>by
  simp only [freshIn] at h
  split at h
  ·rename_i hq
   split at h<;>try cases h
   rename_i h8 hn
   obtain ⟨i1,i2⟩:=freshIn_spec h
   have hle:base≤q:=Nat.le_of_ble_eq_true hq
   refine ⟨fun r B hr=>?_,fun r B hr=>?_⟩
   ·rcases List.mem_cons.1 hr with e | hr
    ·cases e; exact ⟨fun _=>hn,fun hlt=>absurd hlt (by omega)⟩
    ·exact i1 r B hr
   ·rcases List.mem_cons.1 hr with e | hr
    ·cases e
     intro _
     have:¬ base+8≤q:=fun hh=>by rw [Nat.ble_eq_true_of_le hh] at h8; cases h8
     omega
    ·exact i2 r B hr
  ·rename_i hq
   split at h<;>try cases h
   rename_i hmem
   obtain ⟨i1,i2⟩:=freshIn_spec h
   have hlt:¬ base≤q:=fun hh=>by rw [Nat.ble_eq_true_of_le hh] at hq; cases hq
   refine ⟨fun r B hr=>?_,fun r B hr=>?_⟩
   ·rcases List.mem_cons.1 hr with e | hr
    ·cases e; exact ⟨fun hh=>absurd hh hlt,fun _=>(memb_iff _ _).1 hmem⟩
    ·exact i1 r B hr
   ·rcases List.mem_cons.1 hr with e | hr
    ·cases e; intro _; omega
    ·exact i2 r B hr

theorem look_memU (m mem:Mem):memU m (look mem)=look (m++mem):=by
 funext r
 simp only [memU,look_append]

theorem eval_put_self {d:Nat} {x:Value} (h:d<a.tmps.size):(a.put (some d) x).eval (.tmp d)=x:=by
 simp [Act.put,Act.eval,h]

theorem eval_put_ne {d t:Nat} {x:Value} (h:t≠d):(a.put (some d) x).eval (.tmp t)=a.eval (.tmp t):=by
 simp [Act.put,Act.eval,Array.getD_eq_getD_getElem?,Ne.symm h]

def putE (d:Option Tmp) (v:V) (env:Env):Env:=match d with | some t=>(t,v)::env | none=>env

theorem StRel.put (R:StRel tab N env mem a w μ S) (E:Ext μ (look mem) w S μ' (look mem') w' S') (I:Inv tab μ' (look mem') w' S') {d:Option Tmp} {v:V} {x:Value}
  (hv:RelV tab μ' (look mem') w' S' v x) (hu:d≠none→v=.one .undef→x=Go.undef) (hd:∀ t,d=some t→t<N) :
  StRel tab N (putE d v env) mem' (a.put d x) w' μ' S':=by
 have hold:∀ t u,look env t=some u→RelV tab μ' (look mem') w' S' u (a.eval (.tmp t)):=fun t u h=>relV_ext E R.inv (R.env t u h).1
 refine ⟨?_,?_,I,?_⟩
 ·cases d<;>simp [Act.put,R.size]
 ·cases d<;>simp [Act.put,R.defers]
 ·intro t u h
  cases d with
  | none=>exact ⟨hold t u h,(R.env t u h).2⟩
  | some d =>
   by_cases e:t=d
   ·subst e
    simp only [putE,look,Nat.beq_refl] at h
    cases h
    have hx:(a.put (some t) x).eval (.tmp t)=x:=eval_put_self (by rw [R.size]; exact hd t rfl)
    rw [hx]
    exact ⟨hv,hu (by simp)⟩
   ·simp only [putE,look,beq_ne e] at h
    rw [eval_put_ne e]
    exact ⟨hold t u h,(R.env t u h).2⟩

theorem step_op {o:Oper} {base:Nat} {names:List Nat} {vs:List V} {p:Option Prop} {v:V} {m:Mem} (hT:TabOk P tab) (hΓ:Sound P tab Γ) (R:StRel tab N env mem a w μ S)
  (hev:evalAll tab env (operands o)=some vs) (hX:opX Γ tab base o vs (memAt mem names)=some (p,v,m)) (hp:under p True) (hF:FreshP base (look mem) names m) (hdo:dstOk o.dst v=true) (hd:∀ t,o.dst=some t→t<N)
  {K:Act→World→Prop} {Q:Exit→Act→World→Prop} (hK:∀ a' w' μ' S',StRel tab N (putE o.dst v env) (m++mem) a' w' μ' S'→Ext μ (look mem) w S μ' (look (m++mem)) w' S'→K a' w') :
  o.wp P a w K Q:=by
 refine op_X hT hΓ rfl R.inv (R.evalAll hev) hX hp hF K Q fun x w' hx=>?_
 obtain ⟨μ',S',E,I,hv⟩:=hx
 rw [look_memU] at E I hv
 refine hK _ _ μ' S' (R.put E I hv (fun h1 h2=>?_) hd) E
 subst h2
 cases hdst:o.dst with
 | none=>exact absurd hdst h1
 | some t=>rw [hdst] at hdo; cases hdo
end
end Vm
end Go.Proofs.YtlbppjmekiemiacGreatDoor


/- The executor on data: a test against nil; an operation as the executor does it. No condition. -/
namespace Go.Proofs.YtlbppjmekiemiacGreatDoor
namespace Vm
section
variable {P:Program} {tab:Tab} {Γ:Ctx} {N:Nat} {μ μ':Mu} {env env':Env} {mem mem':Mem} {a:Act} {w w':World} {S S':Nat→Prop}

theorem op_nilTest {o:Oper} {T:Nat} {ti:TI} {t:Ty} {x:Operand} {n m:Nat} {t':TypeId} {ad:Option Addr} {len cap:Nat} {R:Value→World→Prop} (hT:TabOk P tab)
  (ho:o.op=.binOp .eql T x (.const (.slice none n m)) t') (ht:tyAt tab T=some ti) (hk:ti.elem=some t) (hx:a.eval x=.slice ad len cap) (hR:R (.bool ad.isNone) w):Runs P o a w R:=by
 obtain ⟨e,i,z,hs⟩:=und_slice hT ht (elem_isSlice hk)
 have hu:=hs.und
 refine runs_of (s:=do eqGuard .eql T x (.const (.slice none n m)) (a.eval x) (.slice none n m); binOp .eql T (a.eval x) (.slice none n m)) (x:=.bool ad.isNone) (w':=w) (by simp only [execOp,ho]; rfl) ?_ hR
 rw [hx]
 have he0:∀ k,(Op.equalIn (k+1) T (.slice ad len cap) (.slice none n m)).run P w=.ok ad.isNone w:=fun k=>by
  cases ad<;>simp [Op.equalIn,run_underlying hu]
 have he:(Op.equal T (.slice ad len cap) (.slice none n m)).run P w=.ok ad.isNone w:=he0 9999
 have hg:(eqGuard .eql T x (.const (.slice none n m)) (.slice ad len cap) (.slice none n m)).run P w=.ok () w:=by
  simp [eqGuard]
 rw [Sem.run_bind,hg]
 simp [binOp,he]

theorem StRel.look_env (R:StRel tab N env mem a w μ S) (h:∀ t,look env' t=look env t):StRel tab N env' mem a w μ S :=
 ⟨R.size,R.defers,R.inv,fun t v hv=>R.env t v (h t ▸ hv)⟩

theorem putE_same {d:Nat} {v:V} (h:look env d=some v) (t:Nat):look (putE (some d) v env) t=look env t:=by
 by_cases e:t=d
 ·subst e; simp [putE,look,Nat.beq_refl,h]
 ·simp [putE,look,beq_ne e]

theorem fresh_upd {base:Nat} {m:Mem} {n:Nat} (h8:∀ r B,(r,B)∈m→look mem r=none→r<base+8) (hn:Fresh n mem) (hb:base+8≤n):Fresh n (m++mem):=by
 intro r hr
 rw [look_append,hn r hr]
 cases hm:look m r with
 | none=>rfl
 | some B =>
  obtain ⟨j,hj⟩:=get_of_look hm
  have:=h8 r B (List.mem_of_getElem? hj) (hn r hr)
  omega

theorem wanted_of {ops:List Oper} {o:Oper} {j d:Nat} {want b:Bool} (hg:o.guard=some (j,want)) (hd:(ops[j]?).bind (·.dst)=some d) (hx:a.eval (.tmp d)=.bool b) :
  Region.wanted o (yielded ops.toArray a.tmps)=(b == want):=by
 have hy:yielded ops.toArray a.tmps j=some b:=by
  unfold yielded
  simp only [List.getElem?_toArray,hd,Option.bind_some]
  have h1:a.tmps[d]? = some (.bool b):=by
   simp only [Act.eval,Array.getD_eq_getD_getElem?] at hx
   cases hq:a.tmps[d]? with
   | none=>rw [hq] at hx; cases hx
   | some y=>rw [hq] at hx; simp at hx; rw [hx]
  rw [h1]
 simp [Region.wanted,hg,hy]

theorem unwanted_of {ops:List Oper} {o:Oper} {j d:Nat} {want:Bool} (hg:o.guard=some (j,want)) (hd:(ops[j]?).bind (·.dst)=some d) (hx:a.eval (.tmp d)=Go.undef) :
  Region.wanted o (yielded ops.toArray a.tmps)=false:=by
 have hy:yielded ops.toArray a.tmps j=none:=by
  unfold yielded
  simp only [List.getElem?_toArray,hd,Option.bind_some]
  simp only [Act.eval,Array.getD_eq_getD_getElem?] at hx
  cases hq:a.tmps[d]? with
  | none=>rfl
  | some y=>rw [hq] at hx; simp at hx; rw [hx]; rfl
 simp [Region.wanted,hg,hy]

theorem StRel.skip (R:StRel tab N env mem a w μ S) {d:Option Tmp} (hd:∀ t,d=some t→t<N):StRel tab N (putE d (.one .undef) env) mem (a.put d Go.undef) w μ S :=
 R.put Ext.refl R.inv trivial (fun _ _=>rfl) hd

def boundOps (N:Nat):List Oper→Bool
 | []=>true
 | o::rest=>match o.dst with
  | none=>boundOps N rest
  | some t=>match Nat.ble (t+1) N with | true=>boundOps N rest | false=>false

theorem boundOps_spec:∀ {ops:List Oper},boundOps N ops=true→∀ o∈ops,∀ t,o.dst=some t→t<N
 | [],_,o,h=>by cases h
 | q::ops,hb,o,h=>by
  intro t ht
  unfold boundOps at hb
  split at hb
  ·rename_i hn
   rcases List.mem_cons.1 h with e | h
   ·subst e; rw [hn] at ht; cases ht
   ·exact boundOps_spec hb o h t ht
  ·rename_i hn
   split at hb<;>try cases hb
   rename_i hle
   rcases List.mem_cons.1 h with e | h
   ·subst e; rw [hn] at ht; cases ht
    exact Nat.le_of_ble_eq_true hle
   ·exact boundOps_spec hb o h t ht
end
end Vm
end Go.Proofs.YtlbppjmekiemiacGreatDoor


/- The executor on data: a list that is written no more. No condition. -/
namespace Go.Proofs.YtlbppjmekiemiacGreatDoor
namespace Vm
section
variable {P:Program} {tab:Tab} {Γ:Ctx} {N:Nat} {μ:Mu} {w:World} {S:Nat→Prop}

theorem RelC.kinds {m1 m2:MemF} {c:C} {x:Value} (h:RelC tab μ m1 w S c x) (h0:∀ q,m1 q≠none→m2 q≠none) (h1:∀ q cs,m2 q=some (.box cs)→∃ cs',m1 q=some (.box cs')) (h2:∀ q t l,m2 q=some (.arr t l)→∃ l',m1 q=some (.arr t l')) (h3:∀ q ks,m2 q=some (.set ks)→∃ ks',m1 q=some (.set ks')) (h4:∀ q t l cs,m2 q=some (.arx t l cs)→∃ cs',m1 q=some (.arx t l cs')) :
  RelC tab μ m2 w S c x:=by
 cases c with
 | dat t d=>exact h
 | nil t=>exact h
 | undef=>trivial
 | any=>trivial
 | eptr t l i k=>exact h
 | mp r=>exact ⟨h0 r h.1,fun cs hc=>by obtain ⟨cs',hc'⟩:=h3 r cs hc; exact h.2 cs' hc'⟩
 | ownx r=>exact ⟨h0 r h.1,fun t l cs hc=>by obtain ⟨cs',hc'⟩:=h4 r t l cs hc; exact h.2 t l cs' hc'⟩
 | optx r k=>exact ⟨h0 r h.1,fun t l cs hc=>by obtain ⟨cs',hc'⟩:=h4 r t l cs hc; exact h.2 t l cs' hc'⟩
 | ptr r o=>exact ⟨h0 r h.1,fun cs hc=>by obtain ⟨cs',hc'⟩:=h1 r cs hc; exact h.2 cs' hc'⟩
 | own r=>exact ⟨h0 r h.1,fun t l hc=>by obtain ⟨l',hc'⟩:=h2 r t l hc; exact h.2 t l' hc'⟩
 | view r off n=>exact ⟨h0 r h.1,fun t l hc=>by obtain ⟨l',hc'⟩:=h2 r t l hc; exact h.2 t l' hc'⟩
 | cut r n=>exact ⟨h0 r h.1,fun t l hc=>by obtain ⟨l',hc'⟩:=h2 r t l hc; exact h.2 t l' hc'⟩
 | optr r i k=>exact ⟨h0 r h.1,fun t l hc=>by obtain ⟨l',hc'⟩:=h2 r t l hc; exact h.2 t l' hc'⟩
 | fn f caps =>
  obtain ⟨g0,vs,g1,g2,g3⟩:=h
  refine ⟨fun r hr=>h0 r (g0 r hr),vs,g1,g2,fun i r hr=>?_⟩
  obtain ⟨y,y1,y2,y3⟩:=g3 i r hr
  exact ⟨y,y1,y2,fun cs hc=>by obtain ⟨cs',hc'⟩:=h1 r cs hc; exact y3 cs' hc'⟩

theorem look_map {f:Blk→Blk}:∀ (m:Mem) (q:Nat),look (m.map fun p=>(p.1,f p.2)) q=(look m q).map f
 | [],q=>rfl
 | (k,b)::m,q=>by
  by_cases e:q=k
  ·subst e; simp [look,Nat.beq_refl]
  ·simp [look,beq_ne e,look_map m q]

theorem look_mapV {f:V→V}:∀ (m:Env) (q:Nat),look (m.map fun p=>(p.1,f p.2)) q=(look m q).map f
 | [],q=>rfl
 | (k,b)::m,q=>by
  by_cases e:q=k
  ·subst e; simp [look,Nat.beq_refl]
  ·simp [look,beq_ne e,look_mapV m q]

theorem frz1_sound {r:Nat} {st:St} {a:Act} {n:Nat} (R:StRel tab N st.env st.mem a w μ S) (hF:Fresh n st.mem) :
  ∃ S',StRel tab N (frz1 r st).env (frz1 r st).mem a w μ S'∧Fresh n (frz1 r st).mem∧Ext μ (look st.mem) w S μ (look (frz1 r st).mem) w S'∧(frz1 r st).base=st.base:=by
 unfold frz1
 split
 ·rename_i t l hl
  obtain ⟨E,I⟩:=kills_EI (ns:=[r]) R.inv
  have hd:memU (deads [r]) (look st.mem)=fun q=>if q=r then some .dead else look st.mem q:=by
   funext q
   rcases memU_deads (mem:=look st.mem) [r] q with ⟨h1,h2⟩ | ⟨h1,h2⟩
   ·simp at h1; rw [h2,if_pos h1]
   ·simp at h1; rw [h2,if_neg h1]
  have hm:look ((r,Blk.dead)::st.mem.map fun p=>(p.1,p.2.frz r t l))=fun q=>if q=r then some .dead else (look st.mem q).map (Blk.frz r t l):=by
   funext q
   by_cases e:q=r
   ·subst e; simp [look,Nat.beq_refl]
   ·simp [look,beq_ne e,look_map,e]
  have cell:∀ (c:C) (x:Value),x.oneCell'=true∧RelC tab μ (look st.mem) w S c x→RelC tab μ (look ((r,Blk.dead)::st.mem.map fun p=>(p.1,p.2.frz r t l))) w (Froz μ (look st.mem) S [r]) (c.frz r t l) x:=fun c x hx=>by
   have same:∀ c',RelC tab μ (look st.mem) w S c' x→RelC tab μ (look ((r,Blk.dead)::st.mem.map fun p=>(p.1,p.2.frz r t l))) w (Froz μ (look st.mem) S [r]) c' x:=fun c' h=>by
    have:=h.ext E R.inv
    rw [hd] at this
    rw [hm]
    refine this.kinds (fun q hq=>?_) (fun q cs hq=>?_) (fun q t' l' hq=>?_) (fun q ks hq=>?_) (fun q t' l' cs' hq=>?_)
    ·by_cases e:q=r
     ·simp [e]
     ·simp only [if_neg e] at hq ⊢
      cases hh:look st.mem q with
      | none=>exact absurd hh hq
      | some b=>simp
    ·by_cases e:q=r
     ·simp [e] at hq
     ·simp only [if_neg e] at hq ⊢
      cases hh:look st.mem q with
      | none=>rw [hh] at hq; cases hq
      | some b=>cases b with
       | box cs0=>exact ⟨cs0,rfl⟩
       | _=>rw [hh] at hq; cases hq
    ·by_cases e:q=r
     ·simp [e] at hq
     ·simp only [if_neg e] at hq ⊢
      cases hh:look st.mem q with
      | none=>rw [hh] at hq; cases hq
      | some b=>cases b with
       | arr t0 l0=>rw [hh] at hq; cases hq; exact ⟨_,rfl⟩
       | _=>rw [hh] at hq; cases hq
    ·by_cases e:q=r
     ·simp [e] at hq
     ·simp only [if_neg e] at hq ⊢
      cases hh:look st.mem q with
      | none=>rw [hh] at hq; cases hq
      | some b=>cases b with
       | set ks0=>exact ⟨_,rfl⟩
       | _=>rw [hh] at hq; cases hq
    ·by_cases e:q=r
     ·simp [e] at hq
     ·simp only [if_neg e] at hq ⊢
      cases hh:look st.mem q with
      | none=>rw [hh] at hq; cases hq
      | some b=>cases b with
       | arx t0 l0 cs0=>rw [hh] at hq; cases hq; exact ⟨_,rfl⟩
       | _=>rw [hh] at hq; cases hq
   cases c with
   | own q =>
    cases hq:Nat.beq q r with
    | true =>
     simp only [C.frz,hq]
     have hq:=Nat.eq_of_beq_eq_true hq
     subst hq
     have:=toDat_rel (lm:=st.mem) (c:=.own q) (d:=.dat (.list t) l) (ns:=[q]) R.inv (fun _ _ h _=>h) hx (by simp [toDat,hl])
     exact RepC.relC this.2
    | false =>
     simp only [C.frz,hq]
     exact same _ hx.2
   | _=>exact same _ hx.2
  refine ⟨Froz μ (look st.mem) S [r],⟨R.size,R.defers,⟨fun q B hB ha=>?_,fun q q' hne h1 h2=>?_,fun q h1=>?_,I.lt,I.pow⟩,fun u v hv=>?_⟩,fun q hq=>?_,⟨fun q hq=>?_,fun q B B' h1 h2=>?_,E.sub,Nat.le_refl _,fun _ _ _=>rfl,E.only,fun b hb=>?_,rfl,rfl,rfl⟩,rfl⟩
  ·rw [hm] at hB
   by_cases e:q=r
   ·simp [e] at hB; subst hB; exact ha.elim
   ·simp only [if_neg e] at hB
    cases hh:look st.mem q with
    | none=>rw [hh] at hB; cases hB
    | some B0 =>
     rw [hh] at hB
     simp only [Option.map_some,Option.some.injEq] at hB
     subst hB
     have ha0:B0.alive:=by cases B0<;>first | trivial | exact ha
     obtain ⟨L,hL,hrel⟩:=R.inv.rel q B0 hh ha0
     refine ⟨L,hL,?_⟩
     cases B0 with
     | dead=>exact ha.elim
     | set ks=>cases L<;>exact hrel
     | arr t0 l0 =>
      cases L with
      | bx b=>exact hrel
      | ar x =>
       rcases hrel with h | ⟨b,cap,cur,e',g1,g2,g3,g4,g5,g6⟩
       ·exact .inl h
       ·exact .inr ⟨b,cap,cur,e',g1,g2,g3,g4,g5,fun i j c hi hc=>let ⟨y,y1,y2,y3⟩:=g6 i j c hi hc; ⟨y,y1,y2,mono_froz y3⟩⟩
     | arx t0 l0 cs =>
      cases L with
      | bx b=>exact hrel
      | ar x =>
       obtain ⟨b,cap,cur,e',g1,g2,g3,g4,g5,g6,g7⟩:=hrel
       refine ⟨b,cap,cur,e',g1,g2,g3,g4,g5,fun i j c hi hc=>?_,fun j c hc=>?_⟩
       ·obtain ⟨y,y1,y2,y3⟩:=g6 i j c hi hc
        exact ⟨y,y1,y2,mono_froz y3⟩
       ·rw [List.getElem?_map] at hc
        cases hci:cs[j]? with
        | none=>rw [hci] at hc; cases hc
        | some c0 =>
         rw [hci] at hc
         simp only [Option.map_some,Option.some.injEq] at hc
         subst hc
         obtain ⟨y0,y,y1,y2,y3⟩:=g7 j c0 hci
         exact ⟨y0,y,y1,y2,cell c0 y ⟨y2,y3⟩⟩
     | box cs =>
      cases L with
      | ar x=>exact hrel
      | bx b =>
       obtain ⟨vs,e',g1,g2,g3⟩:=hrel
       refine ⟨vs,e',g1,by simpa using g2,fun i c hc=>?_⟩
       rw [List.getElem?_map] at hc
       cases hci:cs[i]? with
       | none=>rw [hci] at hc; cases hc
       | some c0 =>
        rw [hci] at hc
        simp only [Option.map_some,Option.some.injEq] at hc
        subst hc
        obtain ⟨y,y1,y2,y3⟩:=g3 i c0 hci
        exact ⟨y,y1,y2,cell c0 y ⟨y2,y3⟩⟩
  ·have back:∀ z,Live (look ((r,Blk.dead)::st.mem.map fun p=>(p.1,p.2.frz r t l))) z→Live (look st.mem) z:=fun z ⟨B,hB,ha⟩=>by
    rw [hm] at hB
    by_cases e:z=r
    ·simp [e] at hB; subst hB; exact ha.elim
    ·simp only [if_neg e] at hB
     cases hh:look st.mem z with
     | none=>rw [hh] at hB; cases hB
     | some B0 =>
      rw [hh] at hB
      simp only [Option.map_some,Option.some.injEq] at hB
      subst hB
      exact ⟨B0,hh,by cases B0<;>first | trivial | exact ha⟩
   exact R.inv.inj q q' hne (back q h1) (back q' h2)
  ·have hq:Live (memU (deads [r]) (look st.mem)) q:=by
    obtain ⟨B,hB,ha⟩:=h1
    rw [hm] at hB
    rw [hd]
    by_cases e:q=r
    ·simp [e] at hB; subst hB; exact ha.elim
    ·simp only [if_neg e] at hB
     cases hh:look st.mem q with
     | none=>rw [hh] at hB; cases hB
     | some B0 =>
      rw [hh] at hB
      simp only [Option.map_some,Option.some.injEq] at hB
      subst hB
      exact ⟨B0,by simp [e,hh],by cases B0<;>first | trivial | exact ha⟩
   exact I.sep q hq
  ·rw [look_mapV (f:=V.frz r t l)] at hv
   cases hh:look st.env u with
   | none=>rw [hh] at hv; cases hv
   | some v0 =>
    rw [hh] at hv
    simp only [Option.map_some,Option.some.injEq] at hv
    subst hv
    obtain ⟨k1,k2⟩:=R.env u v0 hh
    have one:∀ {c:C} {x:Value},RelW tab μ (look st.mem) w S (.one c) x→RelW tab μ (look ((r,Blk.dead)::st.mem.map fun p=>(p.1,p.2.frz r t l))) w (Froz μ (look st.mem) S [r]) (.one (c.frz r t l)) x:=fun {c x} h=>⟨h.1,cell c x h⟩
    have agg:∀ {cs:List C} {x:Value},RelW tab μ (look st.mem) w S (.agg cs) x→RelW tab μ (look ((r,Blk.dead)::st.mem.map fun p=>(p.1,p.2.frz r t l))) w (Froz μ (look st.mem) S [r]) (.agg (cs.map (C.frz r t l))) x:=fun {cs x} h=>by
     obtain ⟨xs,g1,g2,g3⟩:=h
     refine ⟨xs,g1,by simpa using g2,fun i c hc=>?_⟩
     rw [List.getElem?_map] at hc
     cases hci:cs[i]? with
     | none=>rw [hci] at hc; cases hc
     | some c0 =>
      rw [hci] at hc
      simp only [Option.map_some,Option.some.injEq] at hc
      subst hc
      obtain ⟨y,y1,y2,y3⟩:=g3 i c0 hci
      exact ⟨y,y1,y2,cell c0 y ⟨y2,y3⟩⟩
    cases v0 with
    | one c =>
     by_cases hu:c=.undef
     ·subst hu; exact ⟨trivial,fun _=>k2 rfl⟩
     ·have hw:RelW tab μ (look st.mem) w S (.one c) (a.eval (.tmp u)):=by cases c<;>first | exact absurd rfl hu | exact k1
      have h1:=one hw
      have hne:c.frz r t l≠.undef:=by
       cases c with
       | own q=>cases hq:Nat.beq q r<;>simp [C.frz,hq]
       | undef=>exact absurd rfl hu
       | _=>exact fun h=>by cases h
      refine ⟨?_,fun h=>?_⟩
      ·show RelV tab μ _ w _ (.one (c.frz r t l)) _
       generalize c.frz r t l=c' at h1 hne ⊢
       cases c'<;>first | exact absurd rfl hne | exact h1
      ·exact absurd (by injection h) hne
    | agg cs=>exact ⟨agg k1,fun h=>by cases h⟩
    | tup vs =>
     obtain ⟨xs,g1,g2,g3⟩:=k1
     refine ⟨⟨xs,g1,by simpa using g2,fun i v hv=>?_⟩,fun h=>by cases h⟩
     rw [List.getElem?_map] at hv
     cases hvi:vs[i]? with
     | none=>rw [hvi] at hv; cases hv
     | some v0 =>
      rw [hvi] at hv
      simp only [Option.map_some,Option.some.injEq] at hv
      obtain ⟨y,y1,y2⟩:=g3 i v0 hvi
      refine ⟨y,y1,?_⟩
      subst hv
      cases v0 with
      | one c=>exact one y2
      | agg cs=>exact agg y2
      | tup us=>exact y2.elim
  ·rw [hm]
   have:=hF q hq
   by_cases e:q=r
   ·subst e; rw [hl] at this; cases this
   ·simp [e,this]
  ·rw [hm]
   by_cases e:q=r
   ·simp [e]
   ·simp only [if_neg e]
    cases hh:look st.mem q with
    | none=>exact absurd hh hq
    | some b=>simp
  ·rw [hm] at h2
   by_cases e:q=r
   ·simp [e] at h2; subst h2
    exact ⟨by cases B<;>trivial,fun _=>rfl⟩
   ·simp only [if_neg e,h1,Option.map_some,Option.some.injEq] at h2
    subst h2
    exact ⟨by cases B<;>trivial,fun _=>rfl⟩
  ·obtain ⟨q,L,⟨B,hB,ha⟩,h2,h3⟩:=hb
   refine .inl ⟨q,L,?_,h2,h3⟩
   rw [hm] at hB
   by_cases e:q=r
   ·simp [e] at hB; subst hB; exact ha.elim
   ·simp only [if_neg e] at hB
    cases hh:look st.mem q with
    | none=>rw [hh] at hB; cases hB
    | some B0 =>
     rw [hh] at hB
     simp only [Option.map_some,Option.some.injEq] at hB
     subst hB
     exact ⟨B0,hh,by cases B0<;>first | trivial | exact ha⟩
 ·exact ⟨S,R,hF,Ext.refl,rfl⟩

theorem frzAll_sound {a:Act} {n:Nat}:∀ (rs:List Nat) {st:St} {S:Nat→Prop},StRel tab N st.env st.mem a w μ S→Fresh n st.mem →
  ∃ S',StRel tab N (frzAll rs st).env (frzAll rs st).mem a w μ S'∧Fresh n (frzAll rs st).mem∧Ext μ (look st.mem) w S μ (look (frzAll rs st).mem) w S'∧(frzAll rs st).base=st.base
 | [],st,S,R,hF=>⟨S,R,hF,Ext.refl,rfl⟩
 | r::rs,st,S,R,hF=>by
  obtain ⟨S1,R1,F1,E1,b1⟩:=frz1_sound (r:=r) R hF
  obtain ⟨S2,R2,F2,E2,b2⟩:=frzAll_sound rs R1 F1
  exact ⟨S2,R2,F2,E1.trans E2,b2.trans b1⟩
end
end Vm
end Go.Proofs.YtlbppjmekiemiacGreatDoor


/- The executor on data: an operation as the executor does it; a region in order. No condition. -/
namespace Go.Proofs.YtlbppjmekiemiacGreatDoor
namespace Vm
section
variable {P:Program} {tab:Tab} {Γ:Ctx} {N:Nat} {μ μ' μ0:Mu} {env env':Env} {mem mem':Mem} {a:Act} {w w' w0:World} {S S' S0:Nat→Prop} {mem0:MemF}

theorem nilTest_sound {o:Oper} {vs:List V} {K:V→Prop} (hT:TabOk P tab) (R:StRel tab N env mem a w μ S) (hn:isNilTest o=true) (hev:evalAll tab env (operandsOf o)=some vs) (h:nilTest vs K) :
  ∃ b:Bool,K (.one (.dat .bool b))∧Runs P o a w fun x w'=>x=.bool b∧w'=w:=by
 unfold isNilTest at hn
 split at hn<;>try cases hn
 rename_i T x n m t' ho
 simp only [operandsOf,ho] at hev
 simp only [evalAll] at hev
 split at hev<;>try cases hev
 rename_i v hv
 split at hev<;>try cases hev
 rename_i us hus
 split at hus<;>try cases hus
 rename_i u hu
 simp only [evalO,constC] at hu
 split at hu<;>try cases hu
 rename_i ti _ _ ht
 split at hu<;>try cases hu
 rename_i t hk
 have hr:=R.eval hv
 unfold nilTest at h
 split at h
 ·rename_i e
  cases e
  obtain ⟨_,hr⟩:=hr
  generalize hx:a.eval x=y at hr
  cases hr with
  | empty t0 ad cap=>exact ⟨ad.isNone,h _ fun _=>rfl,op_nilTest hT ho ht hk hx ⟨rfl,rfl⟩⟩
  | list t0 l b off cap cs hS hcap hc hr=>exact ⟨false,h _ (fun e=>by cases e),op_nilTest hT ho ht hk hx ⟨rfl,rfl⟩⟩
 ·rename_i e
  cases e
  obtain ⟨_,hr⟩:=hr
  exact ⟨true,h,op_nilTest hT ho ht hk hr ⟨rfl,rfl⟩⟩
 ·exact h.elim

theorem operandsOf_eq {o:Oper} (h:isNilTest o=false):operandsOf o=operands o:=by
 unfold operandsOf
 split
 ·rename_i ho
  simp [isNilTest,ho] at h
 ·rfl

theorem under_iff {p:Option Prop} {q:Prop}:under p q↔under p True∧q:=by
 cases p<;>simp [under]

theorem doOp_sound {o:Oper} {i:Nat} {tr:List Tr} {st:St} {K:List Tr→Kont} {KK:Act→World→Prop} {Q:Exit→Act→World→Prop} (hT:TabOk P tab) (hΓ:Sound P tab Γ)
  (h:doOp Γ tab o i tr st K) (R:StRel tab N st.env st.mem a w μ S) (hFr:Fresh (st.base+8*i) st.mem) (hd:∀ t,o.dst=some t→t<N)
  (hK:∀ tr' st' a' w' μ' S',st'.base=st.base→StRel tab N st'.env st'.mem a' w' μ' S'→Fresh (st.base+8*(i+1)) st'.mem→Ext μ (look st.mem) w S μ' (look st'.mem) w' S'→K tr' st'→KK a' w') :
  o.wp P a w KK Q:=by
 unfold doOp at h
 split at h
 ·exact h.elim
 rename_i vs hev
 split at h
 ·rename_i hn
  obtain ⟨b,hb,hr⟩:=nilTest_sound hT R hn hev h
  refine hr _ _ fun x w' hx=>?_
  obtain ⟨rfl,rfl⟩:=hx
  have R':=R.put (d:=o.dst) (v:=.one (.dat .bool b)) Ext.refl R.inv (mk_bool b) (fun _ e=>by cases e) hd
  refine hK tr (st.put o.dst (.one (.dat .bool b))) _ _ μ S ?_ ?_ ?_ ?_ hb
  ·cases o.dst<;>rfl
  ·cases hdst:o.dst<;>rw [hdst] at R'<;>exact R'
  ·cases o.dst<;>exact fun r hr=>hFr r (by omega)
  ·cases o.dst<;>exact Ext.refl
 ·rename_i hn
  rw [operandsOf_eq hn] at hev
  simp only at h
  split at h
  ·exact h.elim
  rename_i p v m hX
  split at h
  ·rename_i hfr hdo
   obtain ⟨hp,hk⟩:=under_iff.1 h
   obtain ⟨hF,h8⟩:=freshIn_spec hfr
   refine step_op hT hΓ R hev hX hp hF hdo hd fun a' w' μ' S' R' E=>?_
   refine hK _ _ _ _ μ' S' ?_ ?_ ?_ ?_ hk
   ·cases o.dst<;>rfl
   ·cases hdst:o.dst<;>rw [hdst] at R'<;>exact R'
   ·have:=fresh_upd (n:=st.base+8*(i+1)) h8 (fun r hr=>hFr r (by omega)) (by omega)
    cases o.dst<;>exact this
   ·cases o.dst<;>exact E
  ·exact h.elim

theorem put_st {st:St} {d:Option Tmp} {v:V}:st.put d v={ st with env:=putE d v st.env }:=by cases d<;>rfl

theorem StRel.known (R:StRel tab N env mem a w μ S) {d:Nat} {b:Bool} (h:look env d=some (.one (.dat .bool b))):a.eval (.tmp d)=.bool b∧StRel tab N (putE (some d) (.one (.dat .bool b)) env) mem a w μ S :=
 ⟨rel_bool (R.env d _ h).1,R.look_env (putE_same h)⟩

theorem StRel.unknown (R:StRel tab N env mem a w μ S) {d:Nat} (h:look env d=some (.one .undef)):a.eval (.tmp d)=Go.undef:=(R.env d _ h).2 rfl

def execBody (Γ:Ctx) (tab:Tab) (ops:List Oper) (K:Kont) (o:Oper) (rest:List Oper) (i:Nat) (tr:List Tr) (st:St):Prop :=
  match o.guard with
  | none=>doOp Γ tab o i tr st (execOps Γ tab false ops K rest (i+1))
  | some (j,want) =>
   match (ops[j]?).bind (·.dst) with
   | none=>False
   | some d=>match look st.env d with
    | some (.one (.dat .bool b)) =>
     br b
      (let st1:=st.put (some d) (.one (.dat .bool true))
       match want with
       | true=>doOp Γ tab o i tr st1 (execOps Γ tab false ops K rest (i+1))
       | false=>execOps Γ tab false ops K rest (i+1) tr (st1.put o.dst (.one .undef)))
      (let st1:=st.put (some d) (.one (.dat .bool false))
       match want with
       | false=>doOp Γ tab o i tr st1 (execOps Γ tab false ops K rest (i+1))
       | true=>execOps Γ tab false ops K rest (i+1) tr (st1.put o.dst (.one .undef)))
    | some (.one .undef)=>execOps Γ tab false ops K rest (i+1) tr (st.put o.dst (.one .undef))
    | _=>False

theorem execOps_sound {ops:List Oper} {Q:Exit→Act→World→Prop} {K:Kont} (hT:TabOk P tab) (hΓ:Sound P tab Γ) (hB:boundOps N ops=true):∀ (rest:List Oper) (i:Nat) (tr:List Tr) (st:St) (a:Act) (w:World) (μ:Mu) (S:Nat→Prop),
  ops.drop i=rest→i+rest.length=ops.length→execOps Γ tab false ops K rest i tr st→StRel tab N st.env st.mem a w μ S→Fresh (st.base+8*i) st.mem →
  (∀ st' a' w' μ' S',StRel tab N st'.env st'.mem a' w' μ' S'→Fresh st'.base st'.mem→Ext μ (look st.mem) w S μ' (look st'.mem) w' S'→K st'→Q .normal a' w') →
  wpOps P ops.toArray Q (List.range' i rest.length) a w
 | [],i,tr,st,a,w,μ,S,hr,hl,h,R,hFr,hQ=>by
  refine hQ { st with base:=st.base+8*ops.length } a w μ S R ?_ Ext.refl h
  have:i=ops.length:=by simpa using hl
  subst this
  exact hFr
 | o::rest,i,tr,st0,a,w,μ,S0,hr,hl,h,R0,hFr0,hQ0=>by
  obtain ⟨S,st,R,hFr,E0,hb0,h⟩:∃ S st,StRel tab N st.env st.mem a w μ S∧Fresh (st0.base+8*i) st.mem∧Ext μ (look st0.mem) w S0 μ (look st.mem) w S∧st.base=st0.base∧execBody Γ tab ops K o rest i tr st:=by
   unfold execOps prepK at h
   simp only at h
   split at h
   ·exact ⟨S0,st0,R0,hFr0,Ext.refl,rfl,h⟩
   ·rename_i r rs _
    obtain ⟨S,R,hFr,E0,hb0⟩:=frzAll_sound (r::rs) R0 hFr0
    exact ⟨S,_,R,hFr,E0,hb0,h⟩
  have hQ:∀ st' a' w' μ' S',StRel tab N st'.env st'.mem a' w' μ' S'→Fresh st'.base st'.mem→Ext μ (look st.mem) w S μ' (look st'.mem) w' S'→K st'→Q .normal a' w':=fun st' a' w' μ' S' g1 g2 g3 g4=>hQ0 st' a' w' μ' S' g1 g2 (E0.trans g3) g4
  unfold execBody at h
  rw [← hb0] at hFr
  have ho:ops[i]? = some o:=by
   have:=congrArg (fun l=>l[0]?) hr
   simpa using this
  have hr':ops.drop (i+1)=rest:=by
   have:=congrArg List.tail hr
   simpa using this
  have hl':i+1+rest.length=ops.length:=by simp at hl; omega
  have hd:∀ t,o.dst=some t→t<N:=boundOps_spec hB o (List.mem_of_getElem? ho)
  have next:∀ (tr':List Tr) (st':St) (a':Act) (w':World) (μ':Mu) (S':Nat→Prop),st'.base=st.base→StRel tab N st'.env st'.mem a' w' μ' S'→Fresh (st.base+8*(i+1)) st'.mem→Ext μ (look st.mem) w S μ' (look st'.mem) w' S' →
    execOps Γ tab false ops K rest (i+1) tr' st'→wpOps P ops.toArray Q (List.range' (i+1) rest.length) a' w':=fun tr' st' a' w' μ' S' hb R' hF' E' hk =>
   execOps_sound hT hΓ hB rest (i+1) tr' st' a' w' μ' S' hr' hl' hk R' (by rw [hb]; exact hF') fun st2 a2 w2 μ2 S2 R2 F2 E2 k2=>hQ st2 a2 w2 μ2 S2 R2 F2 (E'.trans E2) k2
  have skips:∀ (tr':List Tr) (st':St),st'.base=st.base→st'.mem=st.mem→StRel tab N st'.env st'.mem a w μ S→execOps Γ tab false ops K rest (i+1) tr' (st'.put o.dst (.one .undef)) →
    wpOps P ops.toArray Q (List.range' (i+1) rest.length) (a.put o.dst Go.undef) w:=fun tr' st' hb hm R' hk=>by
   refine next tr' _ _ _ μ S ?_ ?_ ?_ ?_ hk
   ·rw [put_st]; exact hb
   ·rw [put_st]; exact R'.skip hd
   ·rw [put_st,hm]; exact fun r hr=>hFr r (by omega)
   ·rw [put_st,hm]; exact Ext.refl
  have does:∀ (st':St),st'.base=st.base→st'.mem=st.mem→StRel tab N st'.env st'.mem a w μ S→doOp Γ tab o i tr st' (execOps Γ tab false ops K rest (i+1)) →
    o.wp P a w (wpOps P ops.toArray Q (List.range' (i+1) rest.length)) Q:=fun st' hb hm R' hk=>by
   refine doOp_sound hT hΓ hk R' (by rw [hb,hm]; exact hFr) hd fun tr2 st2 a2 w2 μ2 S2 b2 R2 F2 E2 k2=>?_
   exact next tr2 st2 a2 w2 μ2 S2 (b2.trans hb) R2 (by rw [hb] at F2; exact F2) (by rw [hm] at E2; exact E2) k2
  rw [List.length_cons,List.range'_succ,wpOps_cons]
  unfold wpOp
  simp only [List.getElem?_toArray,ho]
  split at h
  ·rename_i hg
   have hw:Region.wanted o (yielded ops.toArray a.tmps)=true:=by simp [Region.wanted,hg]
   rw [if_pos hw]
   exact .inl (does st rfl rfl R h)
  ·rename_i j want hg
   split at h
   ·exact h.elim
   rename_i d hd'
   split at h
   ·rename_i b hb
    obtain ⟨hx,R1⟩:=R.known hb
    rw [wanted_of hg hd' hx]
    cases b with
    | true =>
     simp only [br] at h
     cases want with
     | true=>rw [if_pos (by rfl)]; exact .inl (does (st.put (some d) _) rfl rfl R1 h)
     | false=>rw [if_neg (by simp)]; exact skips tr (st.put (some d) _) rfl rfl R1 h
    | false =>
     simp only [br] at h
     cases want with
     | true=>rw [if_neg (by simp)]; exact skips tr (st.put (some d) _) rfl rfl R1 h
     | false=>rw [if_pos (by rfl)]; exact .inl (does (st.put (some d) _) rfl rfl R1 h)
   ·rename_i hb
    rw [unwanted_of hg hd' (R.unknown hb),if_neg (by simp)]
    exact skips tr st rfl rfl R h
   ·exact h.elim
end
end Vm
end Go.Proofs.YtlbppjmekiemiacGreatDoor

