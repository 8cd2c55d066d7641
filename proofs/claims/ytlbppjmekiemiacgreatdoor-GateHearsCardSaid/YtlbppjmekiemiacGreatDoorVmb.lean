/- The executor on data: part 2 of 4. No condition. -/
import Derived.Test.YtlbppjmekiemiacGreatDoorVma
/- The executor on data: stores. No condition. -/
namespace Go.Proofs.YtlbppjmekiemiacGreatDoor
namespace Vm
section
variable {P:Program} {tab:Tab} {μ μ':Mu} {mem mem':MemF} {w w':World} {S S':Nat→Prop}

theorem run_storeVar {T:Nat} {ti:TI} (hT:TabOk P tab) (ht:tyAt tab T=some ti) {b o:Nat} {e:TypeId} {cur:Array Value} {x:Value} (hb:w.heap[b]? = some (.cells cur e (0,0)))
  (hn:x.cells.size=ti.n) (ho:o+ti.n≤cur.size) (h1:∀ u∈x.cells.toList,u.oneCell'=true) :
  (storeVar T (at0 b o) x).run P w=.ok () (w.setRow b (cur.toList.take o++x.cells.toList++cur.toList.drop (o+x.cells.toList.length)).toArray):=by
 obtain ⟨i,z,g1,g2,_⟩:=(hT.ok T ti ht).info
 have hst:=run_storeCells_at P b o e x.cells.toList 0 cur w hb (by simp; omega) h1
 simp only [Nat.add_zero] at hst
 simp only [storeVar,Sem.run_bind,run_sizeOf g1,Result.andThen_ok,g2,hn]
 simpa [at0] using hst

theorem cells_one {x:Value} {n:Nat} {R:Nat→Value→Prop} (hn:x.cells.size=n) (h:∀ i,i<n→∃ y,x.cells[i]? = some y∧y.oneCell'=true∧R i y):∀ u∈x.cells.toList,u.oneCell'=true:=by
 intro u hu
 obtain ⟨i,hi,rfl⟩:=List.getElem_of_mem hu
 obtain ⟨y,h1,h2,_⟩:=h i (by simpa [hn] using hi)
 have:x.cells.toList[i]=y:=by
  have:=Array.getElem?_eq_some_iff.1 h1
  obtain ⟨_,h3⟩:=this
  simpa using h3
 rw [this]; exact h2

theorem setRow_facts (b:Nat) (cs:Array Value):(w.setRow b cs).heap.size=w.heap.size∧(w.setRow b cs).os=w.os∧(w.setRow b cs).tape=w.tape∧(w.setRow b cs).output=w.output :=
 ⟨by simp,rfl,rfl,rfl⟩

theorem len_of_get {α:Type} {l:List α} {n:Nat} (h:l.length=n):∀ i,i<n→∃ c,l[i]? = some c:=fun _ hi=>⟨_,List.getElem?_eq_getElem (h ▸ hi)⟩

theorem op_store {o:Oper} {a:Act} {T:Nat} {ti:TI} {x y:Operand} {c:C} {v v':V} {lm:Mem} {p:Option Prop} {m:Mem} (hT:TabOk P tab) (ho:o.op=.store T x y) (ht:tyAt tab T=some ti)
  (I:Inv tab μ mem w S) (hs:Sees lm mem) (hx:RelV tab μ mem w S (.one c) (a.eval x)) (hy:RelV tab μ mem w S v (a.eval y)) (h:storeX tab ti c v lm=some (p,v',m)) (hp:under p True) :
  Runs P o a w (After tab μ mem w S m v'):=by
 unfold storeX at h
 split at h<;>try cases h
 rename_i cs hcs
 split at h<;>try cases h
 rename_i hbeq
 have hlen:cs.length=ti.n:=Nat.eq_of_beq_eq_true hbeq
 obtain ⟨e1,e2⟩:=relV_cells hy hcs
 have hone:∀ u∈(a.eval y).cells.toList,u.oneCell'=true:=cells_one (R:=fun _ _=>True) e1 fun _ hi=>by
  obtain ⟨c,hc⟩:=len_of_get rfl _ hi
  obtain ⟨y,g1,g2,_⟩:=e2 _ c hc
  exact ⟨y,g1,g2,trivial⟩
 have e3:∀ (i:Nat) c,cs[i]? = some c→∃ u,(a.eval y).cells.toList[i]? = some u∧u.oneCell'=true∧RelC tab μ mem w S c u:=fun i c hi=>by
  obtain ⟨u,g1,g2,g3⟩:=e2 i c hi
  exact ⟨u,by simpa using g1,g2,g3⟩
 cases c with
 | ptr r off =>
  simp only at h
  split at h<;>try cases h
  rename_i old hl
  split at h<;>try cases h
  rename_i hle
  have hle':=Nat.le_of_ble_eq_true hle
  obtain ⟨b,vs,e,f1,f2,f3,f4,f5⟩:=sees_box_ptr hs I hl hx
  have hm:=sees_box hs hl
  have hrun:=run_storeVar hT ht (o:=off) f3 (by rw [e1,hlen]) (by rw [f4]; exact hle') hone
  generalize hcur:(vs.toList.take off++(a.eval y).cells.toList++vs.toList.drop (off+(a.eval y).cells.toList.length)).toArray=cur' at hrun
  obtain ⟨q1,q2,q3,q4⟩:=setRow_facts (w:=w) b cur'
  have hother:∀ k,k≠b→(w.setRow b cur').heap[k]? = w.heap[k]?:=fun k hk=>setRow_other w b k cur' hk
  have E:=write_E (S:=S) (B':=.box (put old off cs)) hm trivial f2 (b:=b) rfl trivial q1 hother q2 q3 q4
  refine runs_skip (w':=w.setRow b cur') (by simp [execOp,ho,Instr.storeAt,Instr.sureAddr,f1,hrun]) ⟨μ,S,E,write_I hm trivial f2 rfl q1 hother E I ⟨cur',e,setRow_heap w b vs cur' e (0,0) f3,?_,fun i c hi=>?_⟩,trivial⟩
  ·subst hcur
   simp [put,e1,f4]<;>omega
  ·have:=put_rel (R:=fun c u=>u.oneCell'=true∧RelC tab μ mem w S c u) (old:=old) (cs:=cs) (cur:=vs.toList) (ys:=(a.eval y).cells.toList) (o:=off) (by omega) (by simp [e1]) (by simp [f4]; omega)
    (fun i c hi=>by obtain ⟨u,g1,g2,g3⟩:=f5 i c hi; exact ⟨u,by simpa using g1,g2,g3⟩) e3 i c hi
   obtain ⟨u,g1,g2,g3⟩:=this
   refine ⟨u,?_,g2,g3.ext E I⟩
   subst hcur
   simpa using g1
 | optr r i k =>
  simp only at h
  split at h<;>try cases h
  rename_i ds ns hds
  split at h<;>try cases h
  rename_i hmb
  split at h<;>try cases h
  rename_i t l hl
  split at h<;>try cases h
  rename_i hle
  split at h<;>try cases h
  rename_i d hd
  have hle':=Nat.le_of_ble_eq_true hle
  have hi:i<l.length:=hp.1
  have hrn:r∉ns:=memb_no hmb
  obtain ⟨k1,k2,k3⟩:=toDats_rel I hs (fun i=>(a.eval y).cells.toList[i]?) e3 hds
  obtain ⟨E1,I1⟩:=kills_EI (ns:=ns) I
  obtain ⟨b,cap,cur,e,f1,f2,f3,f4,f5,f6,f7⟩:=sees_arr_ptr hs I hl hx
  have hm:=sees_arr hs hl
  have hm1:memU (deads ns) mem r=some (.arr t l):=by
   rcases memU_deads (mem:=mem) ns r with ⟨h1,_⟩ | ⟨_,h2⟩
   ·exact absurd h1 hrn
   ·rw [h2]; exact hm
  have hcap:i*t.width+t.width≤cur.size:=by
   have:(i+1)*t.width≤cap*t.width:=Nat.mul_le_mul_right _ (by omega)
   rw [Nat.add_mul] at this; omega
  have hrun:=run_storeVar hT ht (o:=i*t.width+k) f3 (by rw [e1,hlen]) (by omega) hone
  generalize hcur:(cur.toList.take (i*t.width+k)++(a.eval y).cells.toList++cur.toList.drop (i*t.width+k+(a.eval y).cells.toList.length)).toArray=cur' at hrun
  obtain ⟨q1,q2,q3,q4⟩:=setRow_facts (w:=w) b cur'
  have hother:∀ k,k≠b→(w.setRow b cur').heap[k]? = w.heap[k]?:=fun k hk=>setRow_other w b k cur' hk
  have E2:=write_E (S:=Froz μ mem S ns) (B':=.arr t (setAt l i d)) hm1 trivial f2 (b:=b) rfl rfl q1 hother q2 q3 q4
  have hsz:cur'.size=cur.size:=by
   subst hcur
   simp [e1,hlen]; omega
  have hget:∀ q:Nat,cur'[q]? = (cur.toList.take (i*t.width+k)++(a.eval y).cells.toList++cur.toList.drop (i*t.width+k+(a.eval y).cells.toList.length))[q]?:=fun q=>by
   subst hcur; simp
  have hyl:(a.eval y).cells.toList.length=ti.n:=by simp [e1,hlen]
  have hdl:ds.length=ti.n:=by rw [k2,hlen]
  refine runs_skip (w':=w.setRow b cur') (by simp [execOp,ho,Instr.storeAt,Instr.sureAddr,f1,hrun]) ⟨μ,Froz μ mem S ns,?_,?_,trivial⟩
  ·rw [memU_cons]; exact E1.trans E2
  ·rw [memU_cons]
   refine write_I hm1 trivial f2 rfl q1 hother E2 I1 (.inr ⟨b,cap,cur',e,by rw [show (setAt l i d).length=l.length from List.length_set],setRow_heap w b cur cur' e (0,0) f3,by rw [show (setAt l i d).length=l.length from List.length_set]; exact f4,f5,by rw [hsz]; exact f6,fun j q c' hj hq=>?_⟩)
   have hjl:j<l.length:=by simpa [setAt] using hj
   have mono:∀ {c'':C} {u:Value},RepC tab w (Froz μ mem S ns) c'' u→RepC tab (w.setRow b cur') (Froz μ mem S ns) c'' u:=fun h=>h.mono (fun _ h=>h) (E2.keeps I1)
   by_cases hji:j=i
   ·subst hji
    have hn:nth (setAt l j d) j t.dflt=d:=by simp [nth,setAt,hjl]
    rw [hn,ofCells_cells hd] at hq
    have hpl:(put (t.cells (nth l j t.dflt)) k ds).length=t.width:=by
     have:=cells_len t (nth l j t.dflt)
     simp [put,this,hdl]; omega
    have hqw:q<t.width:=by rw [← hpl]; exact (List.getElem?_eq_some_iff.1 hq).1
    have:=put_rel (R:=fun c u=>u.oneCell'=true∧RepC tab w (Froz μ mem S ns) c u) (old:=t.cells (nth l j t.dflt)) (cs:=ds) (cur:=(cur.toList.drop (j*t.width)).take t.width) (ys:=(a.eval y).cells.toList) (o:=k)
     (by rw [cells_len]; omega) (by rw [hyl,hdl]) (by simp; omega)
     (fun q c hq=>by
      have hqw:q<t.width:=by rw [← cells_len t (nth l j t.dflt)]; exact (List.getElem?_eq_some_iff.1 hq).1
      obtain ⟨u,g1,g2,g3⟩:=f7 j q c hjl hq
      refine ⟨u,?_,g2,mono_froz g3⟩
      rw [List.getElem?_take_of_lt hqw,List.getElem?_drop]
      simpa using g1)
     (fun q c hq=>by
      obtain ⟨u,g1,g2,g3⟩:=k3 q c hq
      exact ⟨u,g1,g2,g3⟩) q c' hq
    obtain ⟨u,g1,g2,g3⟩:=this
    refine ⟨u,?_,g2,mono g3⟩
    rw [hget,← g1]
    by_cases c1:q<k
    ·rw [List.append_assoc,List.append_assoc,List.getElem?_append_left (by simp; omega),List.getElem?_append_left (by simp; omega),List.getElem?_take_of_lt (by omega),List.getElem?_take_of_lt c1,List.getElem?_take_of_lt hqw,List.getElem?_drop]
    ·by_cases c2:q<k+ti.n
     ·rw [List.append_assoc,List.append_assoc,List.getElem?_append_right (by simp; omega),List.getElem?_append_left (by simp; omega),List.getElem?_append_right (by simp; omega),List.getElem?_append_left (by simp; omega)]
      congr 1
      simp; omega
     ·rw [List.getElem?_append_right (by simp; omega),List.getElem?_append_right (by simp; omega),List.getElem?_drop,List.getElem?_drop,List.getElem?_take_of_lt (by simp; omega),List.getElem?_drop]
      congr 1
      simp; omega
   ·have hn:nth (setAt l i d) j t.dflt=nth l j t.dflt:=by
     simp [nth,setAt,List.getD,Ne.symm hji]
    rw [hn] at hq
    obtain ⟨u,g1,g2,g3⟩:=f7 j q c' hjl hq
    refine ⟨u,?_,g2,mono (mono_froz g3)⟩
    have hqw:q<t.width:=by rw [← cells_len t (nth l j t.dflt)]; exact (List.getElem?_eq_some_iff.1 hq).1
    rw [hget]
    by_cases c1:j<i
    ·have:(j+1)*t.width≤i*t.width:=Nat.mul_le_mul_right _ (by omega)
     rw [Nat.add_mul] at this
     rw [List.append_assoc,List.getElem?_append_left (by simp; omega),List.getElem?_take_of_lt (by omega)]
     simpa using g1
    ·have:(i+1)*t.width≤j*t.width:=Nat.mul_le_mul_right _ (by omega)
     rw [Nat.add_mul] at this
     rw [List.getElem?_append_right (by simp; omega),List.getElem?_drop]
     have:i*t.width+k+(a.eval y).cells.toList.length+(j*t.width+q-(cur.toList.take (i*t.width+k)++(a.eval y).cells.toList).length)=j*t.width+q:=by
      simp; omega
     rw [this]
     simpa using g1
 | optx r k =>
  simp only at h
  split at h<;>try cases h
  rename_i t l old hl
  split at h<;>try cases h
  rename_i hle
  have hle':=Nat.le_of_ble_eq_true hle
  obtain ⟨b,cap,cur,e,f1,f2,f3,f4,f5,f6,f7,f8⟩:=arx_ptr hs I hl hx
  have hm:=sees_arx hs hl
  have hkw:k+ti.n≤t.width:=by
   by_cases c0:old.length=0
   ·omega
   ·have hj:old.length-1<old.length:=by omega
    have:=(f8 (old.length-1) _ (List.getElem?_eq_getElem hj)).1
    omega
  have hcap:l.length*t.width+t.width≤cur.size:=by
   have:(l.length+1)*t.width≤cap*t.width:=Nat.mul_le_mul_right _ (by omega)
   rw [Nat.add_mul] at this; omega
  have hrun:=run_storeVar hT ht (o:=l.length*t.width+k) f3 (by rw [e1,hlen]) (by omega) hone
  generalize hcur:(cur.toList.take (l.length*t.width+k)++(a.eval y).cells.toList++cur.toList.drop (l.length*t.width+k+(a.eval y).cells.toList.length)).toArray=cur' at hrun
  obtain ⟨q1,q2,q3,q4⟩:=setRow_facts (w:=w) b cur'
  have hother:∀ k,k≠b→(w.setRow b cur').heap[k]? = w.heap[k]?:=fun k hk=>setRow_other w b k cur' hk
  have E:=write_E (S:=S) (B':=.arx t l (put old k cs)) hm trivial f2 (b:=b) rfl ⟨rfl,rfl⟩ q1 hother q2 q3 q4
  have hyl:(a.eval y).cells.toList.length=ti.n:=by simp [e1,hlen]
  have hsz:cur'.size=cur.size:=by
   subst hcur
   simp [e1,hlen]; omega
  refine runs_skip (w':=w.setRow b cur') (by simp [execOp,ho,Instr.storeAt,Instr.sureAddr,f1,hrun]) ⟨μ,S,E,write_I hm trivial f2 rfl q1 hother E I ⟨b,cap,cur',e,rfl,setRow_heap w b cur cur' e (0,0) f3,f4,f5,by rw [hsz]; exact f6,fun i j c hi hj=>?_,fun j c hj=>?_⟩,trivial⟩
  ·obtain ⟨u,g1,g2,g3⟩:=f7 i j c hi hj
   have hjw:j<t.width:=by rw [← cells_len t (nth l i t.dflt)]; exact (List.getElem?_eq_some_iff.1 hj).1
   have hiw:(i+1)*t.width≤l.length*t.width:=Nat.mul_le_mul_right _ (by omega)
   rw [Nat.add_mul] at hiw
   refine ⟨u,?_,g2,g3.mono E.sub (E.keeps I)⟩
   subst hcur
   rw [List.getElem?_toArray,List.append_assoc,List.getElem?_append_left (by simp; omega),List.getElem?_take_of_lt (by omega)]
   simpa using g1
  ·have hpl:(put old k cs).length=old.length:=by simp [put]; omega
   have hjl:j<old.length:=by rw [← hpl]; exact (List.getElem?_eq_some_iff.1 hj).1
   have hjw:j<t.width:=(f8 j _ (List.getElem?_eq_getElem hjl)).1
   refine ⟨hjw,?_⟩
   have:=put_rel (R:=fun c u=>u.oneCell'=true∧RelC tab μ mem w S c u) (old:=old) (cs:=cs) (cur:=cur.toList.drop (l.length*t.width)) (ys:=(a.eval y).cells.toList) (o:=k) (by omega) (by simp [e1]) (by simp; omega)
    (fun i c hi=>by obtain ⟨_,u,g1,g2,g3⟩:=f8 i c hi; exact ⟨u,by rw [List.getElem?_drop]; simpa using g1,g2,g3⟩) e3 j c hj
   obtain ⟨u,g1,g2,g3⟩:=this
   refine ⟨u,?_,g2,g3.ext E I⟩
   rw [← g1]
   subst hcur
   rw [List.getElem?_toArray,← List.getElem?_drop]
   congr 1
   rw [List.append_assoc,List.drop_append_of_le_length (by simp; omega),List.drop_take,show l.length*t.width+k-l.length*t.width=k by omega,List.drop_drop,List.append_assoc]
   congr 3
   omega
 | _=>cases h
end
end Vm
end Go.Proofs.YtlbppjmekiemiacGreatDoor


/- The executor on data: addresses, lengths, pieces, small ones. No condition. -/
namespace Go.Proofs.YtlbppjmekiemiacGreatDoor
namespace Vm
section
variable {P:Program} {tab:Tab} {μ μ':Mu} {mem mem':MemF} {w w':World} {S S':Nat→Prop}

theorem op_nilCheck {o:Oper} {a:Act} {x:Operand} {c:C} (ho:o.op=.nilCheck x) (I:Inv tab μ mem w S) (hx:RelV tab μ mem w S (.one c) (a.eval x)) (hp:∃ ad,a.eval x=.pointer (some ad)) :
  Runs P o a w (After tab μ mem w S [] (.one c)):=by
 obtain ⟨ad,e⟩:=hp
 exact runs_val (x:=a.eval x) (w':=w) (by simp [execOp,ho,e]) (after_same I hx)

theorem op_nilCheck_fn {o:Oper} {a:Act} {x:Operand} {f:Nat} {cs:List Nat} (ho:o.op=.nilCheck x) (I:Inv tab μ mem w S) (hx:RelV tab μ mem w S (.one (.fn f cs)) (a.eval x)) :
  Runs P o a w (After tab μ mem w S [] (.one (.fn f cs))):=by
 have hx':=hx
 obtain ⟨_,_,vs,e,_⟩:=hx'
 exact runs_val (x:=a.eval x) (w':=w) (by simp [execOp,ho,e]) (after_same I hx)

theorem op_not {o:Oper} {a:Act} {x:Operand} {t:TypeId} {b:Bool} (ho:o.op=.unOp .not t x) (I:Inv tab μ mem w S) (hx:RelV tab μ mem w S (.one (.dat .bool b)) (a.eval x)) :
  Runs P o a w (After tab μ mem w S [] (.one (.dat .bool (!b)))):=by
 have e:=rel_bool hx
 exact runs_val (x:=.bool (!b)) (w':=w) (by simp [execOp,ho,e,Op.unary]) (after_same I (mk_bool _))

theorem op_neg {o:Oper} {a:Act} {x:Operand} {t:TypeId} {n:Int} (ho:o.op=.unOp .neg t x) (I:Inv tab μ mem w S) (hx:RelV tab μ mem w S (.one (.dat .int n)) (a.eval x)) :
  Runs P o a w (After tab μ mem w S [] (.one (.dat .int (w64 (-n))))):=by
 have e:=rel_int hx
 exact runs_val (x:=.int .i64 (w64 (-n))) (w':=w) (by simp [execOp,ho,e,Op.unary,Op.intArith,w64]) (after_same I (mk_int _))

theorem und_int {T:Nat} {ti:TI} (hT:TabOk P tab) (ht:tyAt tab T=some ti) (hk:ti.isInt=true):P.underlying T=some (.int .i64):=by
 have:=(hT.ok T ti ht).kind
 unfold TI.isInt at hk
 cases hkd:ti.kd<;>rw [hkd] at hk this<;>first | exact this | cases hk
theorem und_bool {T:Nat} {ti:TI} (hT:TabOk P tab) (ht:tyAt tab T=some ti) (hk:ti.isBool=true):P.underlying T=some .bool:=by
 have:=(hT.ok T ti ht).kind
 unfold TI.isBool at hk
 cases hkd:ti.kd<;>rw [hkd] at hk this<;>first | exact this | cases hk
theorem und_str {T:Nat} {ti:TI} (hT:TabOk P tab) (ht:tyAt tab T=some ti) (hk:ti.isStr=true):P.underlying T=some .string:=by
 have:=(hT.ok T ti ht).kind
 unfold TI.isStr at hk
 cases hkd:ti.kd<;>rw [hkd] at hk this<;>first | exact this | cases hk

structure SlT (P:Program) (tab:Tab) (T:Nat) (t:Ty) (nb:Nat) (e:Nat) (i:TypeInfo) (z:Value):Prop where
 und:P.underlying T=some (.slice e)
 info:P.info? e=some i
 size:i.size=t.width
 bytes:i.bytes=nb
 zero:i.zero=some z
 zs:z.cells.size=t.width
 pos:0<t.width
 bpos:0<nb
 zone:z.cells.toList.all Value.oneCell'=true
 zok:t.noFn=true→ElemZero tab t z.cells.toList

theorem und_slice {T:Nat} {ti:TI} {t:Ty} (hT:TabOk P tab) (ht:tyAt tab T=some ti) (hk:ti.isSlice t=true):∃ e i z,SlT P tab T t ti.bytes e i z:=by
 have:=(hT.ok T ti ht).kind
 unfold TI.isSlice at hk
 cases hkd:ti.kd with
 | slice u e =>
  rw [hkd] at hk this
  simp only [decide_eq_true_eq] at hk
  subst hk
  obtain ⟨h1,i,z,h2,h3,h4,h5,h6,h7,h8,h9,h10⟩:=this
  exact ⟨e,i,z,h1,h2,h3,h4,h5,h6,h7,h8,h9,h10⟩
 | _=>rw [hkd] at hk; cases hk

theorem op_convert {o:Oper} {a:Act} {x:Operand} {s d:TypeId} {n:Int} {ti tj:TI} (hT:TabOk P tab) (ho:o.op=.convert s d x) (hs:tyAt tab s=some tj) (hj:tj.isInt=true) (ht:tyAt tab d=some ti) (hk:ti.isInt=true)
  (I:Inv tab μ mem w S) (hx:RelV tab μ mem w S (.one (.dat .int n)) (a.eval x)) :
  Runs P o a w (After tab μ mem w S [] (.one (.dat .int (w64 n)))):=by
 have e:=rel_int hx
 refine runs_val (x:=.int .i64 (w64 n)) (w':=w) ?_ (after_same I (mk_int _))
 simp only [execOp,ho,convert,Sem.run_bind,run_underlying (und_int hT hs hj),run_underlying (und_int hT ht hk),Result.andThen_ok,e]
 simp [Conv.intToInt,w64]

theorem und_u64 {T:Nat} {ti:TI} (hT:TabOk P tab) (ht:tyAt tab T=some ti) (hk:ti.isU64=true):P.underlying T=some (.int .u64):=by
 have:=(hT.ok T ti ht).kind
 unfold TI.isU64 at hk
 cases hkd:ti.kd<;>rw [hkd] at hk this<;>first | exact this | cases hk

theorem op_convU {o:Oper} {a:Act} {x:Operand} {s d:TypeId} {n:Int} {ti tj:TI} (hT:TabOk P tab) (ho:o.op=.convert s d x) (hs:tyAt tab s=some tj) (hj:tj.isInt=true) (ht:tyAt tab d=some ti) (hk:ti.isU64=true)
  (I:Inv tab μ mem w S) (hx:RelV tab μ mem w S (.one (.dat .int n)) (a.eval x)) :
  Runs P o a w (After tab μ mem w S [] (.one (.dat .u64 (u64w n)))):=by
 have e:=rel_int hx
 refine runs_val (x:=.int .u64 (u64w n)) (w':=w) ?_ (after_same I (mk_u64 _))
 simp only [execOp,ho,convert,Sem.run_bind,run_underlying (und_int hT hs hj),run_underlying (und_u64 hT ht hk),Result.andThen_ok,e]
 simp [Conv.intToInt,u64w]

theorem op_convI {o:Oper} {a:Act} {x:Operand} {s d:TypeId} {n:Int} {ti tj:TI} (hT:TabOk P tab) (ho:o.op=.convert s d x) (hs:tyAt tab s=some tj) (hj:tj.isU64=true) (ht:tyAt tab d=some ti) (hk:ti.isInt=true)
  (I:Inv tab μ mem w S) (hx:RelV tab μ mem w S (.one (.dat .u64 n)) (a.eval x)) :
  Runs P o a w (After tab μ mem w S [] (.one (.dat .int (w64 n)))):=by
 have e:=rel_u64 hx
 refine runs_val (x:=.int .i64 (w64 n)) (w':=w) ?_ (after_same I (mk_int _))
 simp only [execOp,ho,convert,Sem.run_bind,run_underlying (und_u64 hT hs hj),run_underlying (und_int hT ht hk),Result.andThen_ok,e]
 simp [Conv.intToInt,w64]

theorem op_extract {o:Oper} {a:Act} {x:Operand} {i:Nat} {us:List V} {v:V} (ho:o.op=.extract x i) (I:Inv tab μ mem w S) (hx:RelV tab μ mem w S (.tup us) (a.eval x)) (hv:us[i]? = some v) :
  Runs P o a w (After tab μ mem w S [] v):=by
 obtain ⟨xs,e,h1,h2⟩:=hx
 obtain ⟨y,g1,g2⟩:=h2 i v hv
 refine runs_val (x:=y) (w':=w) (by simp [execOp,ho,Instr.extract,e,g1]) (after_same I ?_)
 cases v with
 | one c=>cases c<;>first | trivial | exact g2
 | agg cs=>exact g2
 | tup vs=>exact g2.elim

theorem op_min {o:Oper} {a:Act} {x y:Operand} {ts:Array TypeId} {n m:Int} (ho:o.op=.call { callee:=.builtin .min,args:=#[x,y],argTypes:=ts }) (I:Inv tab μ mem w S)
  (hx:RelV tab μ mem w S (.one (.dat .int n)) (a.eval x)) (hy:RelV tab μ mem w S (.one (.dat .int m)) (a.eval y)) :
  Runs P o a w (After tab μ mem w S [] (.one (.dat .int (min n m)))):=by
 have e1:=rel_int hx
 have e2:=rel_int hy
 refine runs_val (x:=.int .i64 (min n m)) (w':=w) ?_ (after_same I (mk_int _))
 simp [execOp,ho,resolve,invoke,builtin,e1,e2,Builtin.min_,Builtin.min2]
 omega

theorem op_max {o:Oper} {a:Act} {x y:Operand} {ts:Array TypeId} {n m:Int} (ho:o.op=.call { callee:=.builtin .max,args:=#[x,y],argTypes:=ts }) (I:Inv tab μ mem w S)
  (hx:RelV tab μ mem w S (.one (.dat .int n)) (a.eval x)) (hy:RelV tab μ mem w S (.one (.dat .int m)) (a.eval y)) :
  Runs P o a w (After tab μ mem w S [] (.one (.dat .int (max n m)))):=by
 have e1:=rel_int hx
 have e2:=rel_int hy
 refine runs_val (x:=.int .i64 (max n m)) (w':=w) ?_ (after_same I (mk_int _))
 simp [execOp,ho,resolve,invoke,builtin,e1,e2,Builtin.max_,Builtin.max2]
 omega

theorem places_at:∀ {fs:List Field} {ps:List (Nat × Nat)},fs.mapM (fun f=>(P.info? f.type).map fun i=>(f.offset,i.size))=some ps →
  fs.length=ps.length∧∀ (j:Nat) q,ps[j]? = some q→∃ f i,fs[j]? = some f∧P.info? f.type=some i∧f.offset=q.1∧i.size=q.2:=by
 intro fs
 induction fs with
 | nil=>intro ps h; simp at h; subst h; exact ⟨rfl,fun j q hj=>by simp at hj⟩
 | cons f fs ih =>
  intro ps h
  simp only [List.mapM_cons,Option.bind_eq_bind,Option.pure_def] at h
  cases hi:P.info? f.type with
  | none=>simp [hi] at h
  | some i =>
   cases hr:fs.mapM (fun f=>(P.info? f.type).map fun i=>(f.offset,i.size)) with
   | none=>simp [hi,hr] at h
   | some rest =>
    simp [hi,hr] at h
    subst h
    obtain ⟨e,h'⟩:=ih hr
    refine ⟨by simp [e],fun j q hj=>?_⟩
    cases j with
    | zero=>simp at hj; subst hj; exact ⟨f,i,rfl,hi,rfl,rfl⟩
    | succ j=>simp at hj; simpa using h' j q hj

theorem op_fieldAddr {o:Oper} {a:Act} {x:Operand} {T f off:Nat} {ti:TI} {c d:C} (hT:TabOk P tab) (ho:o.op=.fieldAddr T x f) (ht:tyAt tab T=some ti) (hk:ti.isStruct=true) (hf:ti.offs[f]? = some off)
  (I:Inv tab μ mem w S) (hx:RelV tab μ mem w S (.one c) (a.eval x))
  (hd:(∃ r k,c=.ptr r k∧d=.ptr r (k+off))∨(∃ r i k,c=.optr r i k∧d=.optr r i (k+off))∨(∃ e l i k,c=.eptr e l i k∧d=.eptr e l i (k+off))∨(∃ r k,c=.optx r k∧d=.optx r (k+off)))
  (hp:∃ b k,a.eval x=.pointer (some (at0 b k))) :
  Runs P o a w (After tab μ mem w S [] (.one d)):=by
 obtain ⟨b,k,e⟩:=hp
 have hkind:=(hT.ok T ti ht).kind
 unfold TI.isStruct at hk
 cases hkd:ti.kd with
 | struct =>
  rw [hkd] at hkind
  obtain ⟨fs,h1,h2,h3,h4⟩:=hkind
  have hlt:f<ti.offs.length:=(List.getElem?_eq_some_iff.1 hf).1
  obtain ⟨_,hpl⟩:=places_at h2
  have hls:f<ti.sizes.length:=by omega
  obtain ⟨ff,i,q1,g1,hoff,g2⟩:=hpl f (off,ti.sizes[f]) (by
   rw [List.getElem?_zip_eq_some]
   exact ⟨hf,List.getElem?_eq_getElem hls⟩)
  have g3:ti.sizes[f]≠0:=by
   have:=List.all_eq_true.1 h4 ti.sizes[f] (List.getElem_mem hls)
   have:=Nat.le_of_ble_eq_true this
   omega
  have q1':fs[f]? = some ff:=by simpa using q1
  refine runs_val (x:=.pointer (some (at0 b (k+off)))) (w':=w) ?_ (after_same I ?_)
  ·have hsz:i.size≠0:=by rw [g2]; exact g3
   simp only [execOp,ho,Instr.fieldAt,Sem.run_bind,run_underlying h1,Result.andThen_ok]
   simp only at hoff
   simp [q1',e,Instr.sureAddr,fieldPlace,run_sizeOf g1,hsz,hoff,at0,Addr.add_lit]
  ·obtain ⟨_,hx⟩:(a.eval x).oneCell'=true∧RelC tab μ mem w S c (a.eval x):=by
    rcases hd with ⟨r,k',rfl,rfl⟩ | ⟨r,i',k',rfl,rfl⟩ | ⟨e',l,i',k',rfl,rfl⟩ | ⟨r,k',rfl,rfl⟩<;>exact hx
   rcases hd with ⟨r,k',rfl,rfl⟩ | ⟨r,i',k',rfl,rfl⟩ | ⟨e',l,i',k',rfl,rfl⟩ | ⟨r,k',rfl,rfl⟩
   ·refine ⟨rfl,hx.1,fun cs hcs=>?_⟩
    obtain ⟨b',q1,q2⟩:=hx.2 cs hcs
    rw [e] at q2; cases q2
    exact ⟨b,q1,rfl⟩
   ·refine ⟨rfl,hx.1,fun t l hl=>?_⟩
    obtain ⟨b',m,cap,q1,q2⟩:=hx.2 t l hl
    rw [e] at q2; cases q2
    exact ⟨b,m,cap,q1,by rw [Nat.add_assoc]⟩
   ·obtain ⟨b',o',q1,q2⟩:=hx
    rw [e] at q2; cases q2
    exact ⟨rfl,b,o',q1,by rw [Nat.add_assoc]⟩
   ·refine ⟨rfl,hx.1,fun t l cs hl=>?_⟩
    obtain ⟨b',m,cap,q1,q2⟩:=hx.2 t l cs hl
    rw [e] at q2; cases q2
    exact ⟨b,m,cap,q1,by rw [Nat.add_assoc]⟩
 | _=>rw [hkd] at hk; cases hk
end
end Vm
end Go.Proofs.YtlbppjmekiemiacGreatDoor


/- The executor on data: indexes, pieces, lengths. No condition. -/
namespace Go.Proofs.YtlbppjmekiemiacGreatDoor
namespace Vm
section
variable {P:Program} {tab:Tab} {μ μ':Mu} {mem mem':MemF} {w w':World} {S S':Nat→Prop}

theorem run_indexAt {T:Nat} {t:Ty} {nb e:Nat} {i:TypeInfo} {z:Value} (hs:SlT P tab T t nb e i z) (ad:Addr) (n cap:Nat) (j:Int) (h0:0≤j) (h1:j<(n:Nat)) :
  (Instr.indexAt T (.slice (some ad) n cap) (.int .i64 j)).run P w=.ok (.pointer (some (ad.add (j.toNat*t.width)))) w:=by
 simp [Instr.indexAt,asIntOf,run_underlying hs.und,run_sizeOf hs.info,hs.size,h0,h1]

theorem runs_of {o:Oper} {a:Act} {x:Value} {R:Value→World→Prop} {s:Sem Value} (he:execOp a.eval o=(do pure (.value (← s)))) (h:s.run P w=.ok x w') (hR:R x w'):Runs P o a w R :=
 runs_val (by rw [he,Sem.run_bind,h]; rfl) hR

theorem rep_list {t:Ty} {l:List t.den} {x:Value} (h:RepC tab w S (.dat (.list t) l) x) (hl:l≠[]) :
  ∃ b off cap,x=.slice (some (at0 b off)) l.length cap∧l.length≤cap∧∀ i,i<l.length→ElemAt tab w S t (nth l i t.dflt) b (off+i*t.width):=by
 cases h with
 | empty=>exact absurd rfl hl
 | list t l b off cap cs hS hcap hc hr=>exact ⟨b,off,cap,rfl,hcap,fun i hi=>⟨hS,cs i,fun j hj=>hc i j hi hj,fun j c hj=>hr i j c hi hj⟩⟩

theorem rep_slice {t:Ty} {l:List t.den} {x:Value} (h:RepC tab w S (.dat (.list t) l) x):∃ a cap,x=.slice a l.length cap∧l.length≤cap:=by
 cases h with
 | empty t a cap=>exact ⟨a,cap,rfl,by simp⟩
 | list t l b off cap cs hS hcap hc hr=>exact ⟨_,cap,rfl,hcap⟩

theorem own_arr {lm:Mem} {r:Nat} {t:Ty} {l:List t.den} {x:Value} (hs:Sees lm mem) (I:Inv tab μ mem w S) (h:look lm r=some (.arr t l)) (hx:RelV tab μ mem w S (.one (.own r)) x) :
  mem r=some (.arr t l)∧μ r=some (.ar x)∧((x=.slice none 0 0∧l=[]) ∨
   ∃ (b cap:Nat) (cur:Array Value) (e:TypeId),x=.slice (some (at0 b 0)) l.length cap∧w.heap[b]? = some (.cells cur e (0,0))∧l.length≤cap∧cap≤maxLen∧cap*t.width≤cur.size ∧
    ∀ i j c,i<l.length→(t.cells (nth l i t.dflt))[j]? = some c→∃ y,cur[i*t.width+j]? = some y∧y.oneCell'=true∧RepC tab w S c y):=by
 have hm:=sees_arr hs h
 obtain ⟨_,_,hp⟩:=hx
 have hμ:=hp t l hm
 obtain ⟨l',e1,hrel⟩:=I.rel r _ hm trivial
 rw [hμ] at e1; cases e1
 exact ⟨hm,hμ,hrel⟩

theorem view_arr {lm:Mem} {r off n:Nat} {t:Ty} {l:List t.den} {x:Value} (hs:Sees lm mem) (I:Inv tab μ mem w S) (h:look lm r=some (.arr t l)) (hx:RelV tab μ mem w S (.one (.view r off n)) x) :
  mem r=some (.arr t l)∧∃ y,μ r=some (.ar y)∧ViewOf t.width off n y x∧((y=.slice none 0 0∧l=[]) ∨
   ∃ (b cap:Nat) (cur:Array Value) (e:TypeId),y=.slice (some (at0 b 0)) l.length cap∧w.heap[b]? = some (.cells cur e (0,0))∧l.length≤cap∧cap≤maxLen∧cap*t.width≤cur.size ∧
    ∀ i j c,i<l.length→(t.cells (nth l i t.dflt))[j]? = some c→∃ y,cur[i*t.width+j]? = some y∧y.oneCell'=true∧RepC tab w S c y):=by
 have hm:=sees_arr hs h
 obtain ⟨_,_,hp⟩:=hx
 obtain ⟨y,hμ,hv⟩:=hp t l hm
 obtain ⟨l',e1,hrel⟩:=I.rel r _ hm trivial
 rw [hμ] at e1; cases e1
 exact ⟨hm,y,hμ,hv,hrel⟩

theorem op_indexAddr {o:Oper} {a:Act} {x y:Operand} {T:Nat} {ti:TI} {c:C} {j:Int} {lm:Mem} {p:Option Prop} {v:V} {m:Mem} (hT:TabOk P tab) (ho:o.op=.indexAddr T x y) (ht:tyAt tab T=some ti)
  (I:Inv tab μ mem w S) (hs:Sees lm mem) (hx:RelV tab μ mem w S (.one c) (a.eval x)) (hy:RelV tab μ mem w S (.one (.dat .int j)) (a.eval y)) (h:indexX ti lm c j=some (p,v,m)) (hp:under p True) :
  Runs P o a w (After tab μ mem w S m v):=by
 have ey:=rel_int hy
 cases c with
 | dat t' d =>
  cases t' with
  | list t =>
   simp only [indexX] at h
   split at h<;>try cases h
   rename_i hk
   obtain ⟨h0,h1⟩:0≤j∧j<(((d:List t.den).length:Nat):Int):=hp.1
   obtain ⟨e,i,z,hsl⟩:=und_slice hT ht hk
   have hne:(d:List t.den)≠[]:=fun e=>by subst e; simp at h1; omega
   obtain ⟨b,off,cap,ex,hcap,hel⟩:=rep_list hx.2 hne
   refine runs_of (x:=.pointer (some (at0 b (off+j.toNat*t.width)))) (w':=w) (s:=Instr.indexAt T (a.eval x) (a.eval y)) (by simp only [execOp,ho]) ?_ (after_same I ⟨rfl,b,off+j.toNat*t.width,hel _ (by omega),by simp⟩)
   rw [ex,ey,run_indexAt hsl _ _ _ j h0 h1,at0,Addr.add_lit]
   rfl
  | _=>simp only [indexX] at h; cases h
 | own r =>
  simp only [indexX] at h
  split at h<;>try cases h
  rename_i t l hl
  split at h<;>try cases h
  rename_i hk
  obtain ⟨h0,h1⟩:0≤j∧j<((l.length:Nat):Int):=hp.1
  obtain ⟨e,i,z,hsl⟩:=und_slice hT ht hk
  obtain ⟨hm,hμ,hrel⟩:=own_arr hs I hl hx
  rcases hrel with ⟨_,rfl⟩ | ⟨b,cap,cur,e',ex,hb,h3,h4,h5,h6⟩
  ·simp at h1; omega
  ·refine runs_of (x:=.pointer (some (at0 b (j.toNat*t.width)))) (w':=w) (s:=Instr.indexAt T (a.eval x) (a.eval y)) (by simp only [execOp,ho]) ?_ (after_same I ⟨rfl,by rw [hm]; exact (fun h=>by cases h),fun t' l' hl'=>?_⟩)
   ·rw [ex,ey,run_indexAt hsl _ _ _ j h0 h1,at0,Addr.add_lit,Nat.zero_add]
    rfl
   ·rw [hm] at hl'; cases hl'
    exact ⟨b,l.length,cap,by rw [hμ,ex],by simp⟩
 | view r off n =>
  simp only [indexX] at h
  split at h<;>try cases h
  rename_i t l hl
  split at h<;>try cases h
  rename_i hk
  obtain ⟨h0,h1,h2⟩:0≤j∧j<((n:Nat):Int)∧off+n≤l.length:=hp.1
  obtain ⟨e,i,z,hsl⟩:=und_slice hT ht hk
  obtain ⟨hm,y',hμ,hv,hrel⟩:=view_arr hs I hl hx
  rcases hrel with ⟨_,rfl⟩ | ⟨b,cap,cur,e',ex,hb,h3,h4,h5,h6⟩
  ·simp at h2; omega
  ·obtain ⟨a0,m0,cap0,a1,cap1,g1,g2,g3,g4,g5,g6⟩:=hv
   rw [ex] at g1; cases g1
   have hn:0<n:=by omega
   have:=g4 hn
   subst this
   refine runs_of (x:=.pointer (some (at0 b ((off+j.toNat)*t.width)))) (w':=w) (s:=Instr.indexAt T (a.eval x) (a.eval y)) (by simp only [execOp,ho]) ?_ (after_same I ⟨rfl,by rw [hm]; exact (fun h=>by cases h),fun t' l' hl'=>?_⟩)
   ·rw [g2,ey,Option.map_some,run_indexAt hsl _ _ _ j h0 h1]
    simp only [at0,Addr.add_lit,Nat.zero_add,Nat.add_mul]
   ·rw [hm] at hl'; cases hl'
    exact ⟨b,l.length,cap,by rw [hμ,ex],by simp⟩
 | ownx r =>
  simp only [indexX] at h
  split at h<;>try cases h
  rename_i t l cs hl
  split at h<;>try cases h
  rename_i hk
  have h1:j=((l.length:Nat):Int):=hp.1
  obtain ⟨e,i,z,hsl⟩:=und_slice hT ht hk
  obtain ⟨hm,b,cap,cur,e',ex,hμ,_⟩:=arx_own hs I hl hx
  refine runs_of (x:=.pointer (some (at0 b (j.toNat*t.width)))) (w':=w) (s:=Instr.indexAt T (a.eval x) (a.eval y)) (by simp only [execOp,ho]) ?_ (after_same I ⟨rfl,by rw [hm]; exact (fun h=>by cases h),fun t' l' cs' hl'=>?_⟩)
  ·rw [ex,ey,run_indexAt hsl _ _ _ j (by omega) (by omega),at0,Addr.add_lit,Nat.zero_add]
   rfl
  ·rw [hm] at hl'; cases hl'
   exact ⟨b,l.length+1,cap,by rw [hμ,ex],by simp [h1]⟩
 | nil t =>
  simp only [indexX] at h; cases h
  exact hp.1.elim
 | ptr r off =>
  simp only [indexX] at h
  split at h<;>try cases h
  rename_i n sz cs hkd hl
  obtain ⟨h0,h1⟩:0≤j∧j<((n:Nat):Int):=hp.1
  have hkind:=(hT.ok T ti ht).kind
  rw [hkd] at hkind
  obtain ⟨e,i,k1,k2,k3,k4,_⟩:=hkind
  obtain ⟨b,vs,e',ex,hμ,_⟩:=sees_box_ptr hs I hl hx
  have hm:=sees_box hs hl
  refine runs_val (x:=.pointer (some (at0 b (off+j.toNat*sz)))) (w':=w) ?_ (after_same I ⟨rfl,by rw [hm]; exact (fun h=>by cases h),fun cs' hcs=>⟨b,hμ,rfl⟩⟩)
  simp only [execOp,ho,Sem.run_bind,ex,ey,Instr.indexAt,asIntOf,run_underlying k1,Result.andThen_ok]
  simp [Instr.sureAddr,h0,h1,run_sizeOf k2,k3,at0,Addr.add_lit]
 | _=>simp only [indexX] at h; cases h
end
end Vm
end Go.Proofs.YtlbppjmekiemiacGreatDoor


/- The executor on data: pieces, lengths, sums. No condition. -/
namespace Go.Proofs.YtlbppjmekiemiacGreatDoor
namespace Vm
section
variable {P:Program} {tab:Tab} {μ μ':Mu} {mem mem':MemF} {w w':World} {S S':Nat→Prop}

theorem op_len {o:Oper} {a:Act} {x:Operand} {ts:Array TypeId} {T:Nat} {ti:TI} {c:C} {lm:Mem} {p:Option Prop} {v:V} {m:Mem} (hT:TabOk P tab)
  (ho:o.op=.call { callee:=.builtin .len,args:=#[x],argTypes:=ts }) (hts:ts.toList.head? = some T) (ht:tyAt tab T=some ti)
  (I:Inv tab μ mem w S) (hs:Sees lm mem) (hx:RelV tab μ mem w S (.one c) (a.eval x)) (h:lenX ti lm c=some (p,v,m)):Runs P o a w (After tab μ mem w S m v):=by
 have h0:ts[0]? = some T:=by
  rw [← Array.getElem?_toList]
  cases hl:ts.toList with
  | nil=>rw [hl] at hts; cases hts
  | cons u us=>rw [hl] at hts; simpa using hts
 have fin:∀ n:Nat,v=.one (.dat .int (n:Nat))→m=[]→(∃ e,P.underlying T=some (.slice e)∧∃ ad cap,a.eval x=.slice ad n cap)→Runs P o a w (After tab μ mem w S m v):=fun n e1 e2 ⟨e,hu,ad,cap,ex⟩=>by
  subst e1; subst e2
  refine runs_val (x:=.int .i64 (n:Nat)) (w':=w) ?_ (after_same I (mk_int _))
  simp [execOp,ho,resolve,invoke,builtin,Builtin.len_,h0,run_underlying hu,ex,goInt]
 have fin2:∀ {t:Ty} (l:List t.den),ti.isSlice t=true→(∃ ad cap,a.eval x=.slice ad l.length cap)→some (none,V.one (.dat .int ((len l:Nat):Int)),[])=some (p,v,m)→Runs P o a w (After tab μ mem w S m v):=fun l hk hex h=>by
  cases h
  obtain ⟨e,i,z,hsl⟩:=und_slice hT ht hk
  exact fin _ rfl rfl ⟨e,hsl.und,hex⟩
 cases c with
 | dat t d =>
  cases t with
  | str =>
   simp only [lenX] at h
   split at h<;>try cases h
   rename_i hk
   have ex:=rel_str hx
   refine runs_val (x:=.int .i64 ((len d:Nat):Int)) (w':=w) ?_ (after_same I (mk_int _))
   obtain ⟨bs,ex',hz⟩:∃ bs:ByteArray,a.eval x=.string bs∧(bs.size:Int)=((len d:Nat):Int):=⟨_,ex,rfl⟩
   rw [← hz]
   simp [execOp,ho,resolve,invoke,builtin,Builtin.len_,h0,run_underlying (und_str hT ht hk),ex',goInt]
  | list t =>
   simp only [lenX,readL] at h
   split at h<;>try cases h
   rename_i hk
   obtain ⟨ad,cap,ex,_⟩:=rep_slice hx.2
   exact fin2 (t:=t) d hk ⟨ad,cap,ex⟩ rfl
  | _=>simp only [lenX,readL] at h; cases h
 | nil t =>
  simp only [lenX,readL] at h
  split at h<;>try cases h
  rename_i hk
  obtain ⟨_,ex⟩:=hx
  exact fin2 (t:=t) [] hk ⟨none,0,ex⟩ rfl
 | own r =>
  simp only [lenX,readL] at h
  split at h<;>try cases h
  rename_i p0 t l hl
  split at hl<;>try cases hl
  rename_i hl'
  split at h<;>try cases h
  rename_i hk
  obtain ⟨_,_,hrel⟩:=own_arr hs I hl' hx
  refine fin2 (t:=t) l hk ?_ rfl
  rcases hrel with ⟨ex,rfl⟩ | ⟨b,cap,cur,e,ex,_⟩
  ·exact ⟨none,0,ex⟩
  ·exact ⟨_,cap,ex⟩
 | view r off n =>
  simp only [lenX] at h
  split at h<;>try cases h
  rename_i t l hl'
  split at h<;>try cases h
  rename_i hk
  obtain ⟨_,y,_,⟨a0,m0,cap0,a1,cap1,_,g2,_⟩,_⟩:=view_arr hs I hl' hx
  obtain ⟨e,i,z,hsl⟩:=und_slice hT ht hk
  exact fin n rfl rfl ⟨e,hsl.und,a1,cap1,g2⟩
 | ownx r =>
  simp only [lenX] at h
  split at h<;>try cases h
  rename_i t l cs hl'
  split at h<;>try cases h
  rename_i hk
  obtain ⟨_,b,cap,cur,e',ex,_⟩:=arx_own hs I hl' hx
  obtain ⟨e,i,z,hsl⟩:=und_slice hT ht hk
  exact fin (len l+1) rfl rfl ⟨e,hsl.und,_,cap,ex⟩
 | _=>simp only [lenX,readL] at h; cases h

theorem w64_and (a b:Int):(Op.intBits .and .i64 a b).run P w=.ok (.int .i64 (andi a b)) w:=by
 rfl
theorem w64_or (a b:Int):(Op.intBits .or .i64 a b).run P w=.ok (.int .i64 (ori a b)) w:=by
 rfl
theorem w64_xor (a b:Int):(Op.intBits .xor .i64 a b).run P w=.ok (.int .i64 (xori a b)) w:=by
 rfl

theorem op_binInt {o:Oper} {a:Act} {x y:Operand} {op:BinOp} {t t':TypeId} {n m:Int} {p:Option Prop} {c:C} (ho:o.op=.binOp op t x y t') (I:Inv tab μ mem w S)
  (hx:RelV tab μ mem w S (.one (.dat .int n)) (a.eval x)) (hy:RelV tab μ mem w S (.one (.dat .int m)) (a.eval y)) (h:intOp op n m=some (p,c)) (hp:under p True) :
  Runs P o a w (After tab μ mem w S [] (.one c)):=by
 have e1:=rel_int hx
 have e2:=rel_int hy
 have fin:∀ z:Value,RelV tab μ mem w S (.one c) z→(binOp op t (.int .i64 n) (.int .i64 m)).run P w=.ok z w→Runs P o a w (After tab μ mem w S [] (.one c)):=fun z hz hr=>by
  refine runs_of (s:=do eqGuard op t x y (a.eval x) (a.eval y); binOp op t (a.eval x) (a.eval y)) (x:=z) (w':=w) (by simp only [execOp,ho]) ?_ (after_same I hz)
  rw [e1,e2,Sem.run_bind]
  have:(eqGuard op t x y (.int .i64 n) (.int .i64 m)).run P w=.ok () w:=by
   unfold eqGuard
   cases op<;>rfl
  rw [this]
  exact hr
 cases op<;>simp only [intOp] at h<;>cases h<;>first
  | (refine fin _ (mk_int _) ?_; first | rfl | (have hm:m≠0:=hp.1; simp [binOp,Op.intDiv,hm,w64]) | exact w64_and n m | exact w64_or n m | exact w64_xor n m)
  | (refine fin _ (mk_bool _) ?_; first | rfl | simp [binOp,Op.intCmp,lti,lei,eqi,bne,Int.beq'])

theorem op_binU64 {o:Oper} {a:Act} {x y:Operand} {t t':TypeId} {n m:Int} (ho:o.op=.binOp .gtr t x y t') (I:Inv tab μ mem w S)
  (hx:RelV tab μ mem w S (.one (.dat .u64 n)) (a.eval x)) (hy:RelV tab μ mem w S (.one (.dat .u64 m)) (a.eval y)) :
  Runs P o a w (After tab μ mem w S [] (.one (.dat .bool (lti m n)))):=by
 have e1:=rel_u64 hx
 have e2:=rel_u64 hy
 refine runs_of (s:=do eqGuard .gtr t x y (a.eval x) (a.eval y); binOp .gtr t (a.eval x) (a.eval y)) (x:=.bool (lti m n)) (w':=w) (by simp only [execOp,ho]) ?_ (after_same I (mk_bool _))
 rw [e1,e2,Sem.run_bind]
 have:(eqGuard .gtr t x y (.int .u64 n) (.int .u64 m)).run P w=.ok () w:=by
  unfold eqGuard
  rfl
 rw [this]
 simp [binOp,Op.intCmp,lti]

theorem eqs_iff (s t:List UInt8):((⟨s.toArray⟩:ByteArray).toList == (⟨t.toArray⟩:ByteArray).toList)=eqs s t:=by
 rw [ByteArray.toList_eq,ByteArray.toList_eq,Bool.eq_iff_iff]
 simp [eqs]

theorem op_binStr {o:Oper} {a:Act} {x y:Operand} {op:BinOp} {t t':TypeId} {s u:List UInt8} {p:Option Prop} {v:V} {m:Mem} (ho:o.op=.binOp op t x y t') (I:Inv tab μ mem w S)
  (hx:RelV tab μ mem w S (.one (.dat .str s)) (a.eval x)) (hy:RelV tab μ mem w S (.one (.dat .str u)) (a.eval y)) (h:binX tab op t (.one (.dat .str s)) (.one (.dat .str u))=some (p,v,m)) (hp:under p True) :
  Runs P o a w (After tab μ mem w S m v):=by
 have e1:=rel_str hx
 have e2:=rel_str hy
 have fin:∀ z:Value,RelV tab μ mem w S v z→m=[]→(binOp op t (.string ⟨s.toArray⟩) (.string ⟨u.toArray⟩)).run P w=.ok z w→Runs P o a w (After tab μ mem w S m v):=fun z hz hm hr=>by
  subst hm
  refine runs_of (s:=do eqGuard op t x y (a.eval x) (a.eval y); binOp op t (a.eval x) (a.eval y)) (x:=z) (w':=w) (by simp only [execOp,ho]) ?_ (after_same I hz)
  rw [e1,e2,Sem.run_bind]
  have:(eqGuard op t x y (.string ⟨s.toArray⟩) (.string ⟨u.toArray⟩)).run P w=.ok () w:=by
   unfold eqGuard
   cases op<;>rfl
  rw [this]
  exact hr
 cases op<;>simp only [binX] at h<;>cases h
 ·refine fin (.string ⟨(cat s u).toArray⟩) (mk_str _) rfl ?_
  have hl:s.length+u.length≤140737488355328:=hp.1
  have h1:(⟨s.toArray⟩:ByteArray).size=s.length:=rfl
  have h2:(⟨u.toArray⟩:ByteArray).size=u.length:=rfl
  have h3:¬ (((⟨s.toArray⟩:ByteArray).size+(⟨u.toArray⟩:ByteArray).size:Nat):Int) > IntKind.i64.max:=by
   rw [h1,h2]
   have:IntKind.i64.max=9223372036854775807:=by rfl
   rw [this]; omega
  have h4:(⟨s.toArray⟩:ByteArray)++⟨u.toArray⟩=⟨(cat s u).toArray⟩:=by
   apply ByteArray.ext
   simp [cat]
  simp only [binOp,Op.stringOp,if_neg h3,h4]
  rfl
 ·refine fin (.bool (eqs s u)) (mk_bool _) rfl ?_
  rw [← eqs_iff]; rfl
 ·refine fin (.bool (!eqs s u)) (mk_bool _) rfl ?_
  rw [← eqs_iff]; rfl

theorem op_binBool {o:Oper} {a:Act} {x y:Operand} {op:BinOp} {t t':TypeId} {ti:TI} {b d:Bool} {v:V} (hT:TabOk P tab) (ho:o.op=.binOp op t x y t') (ht:tyAt tab t=some ti) (hk:ti.isBool=true) (I:Inv tab μ mem w S)
  (hx:RelV tab μ mem w S (.one (.dat .bool b)) (a.eval x)) (hy:RelV tab μ mem w S (.one (.dat .bool d)) (a.eval y))
  (h:(op=.eql∧v=.one (.dat .bool (eqb b d)))∨(op=.neq∧v=.one (.dat .bool (!eqb b d)))) :
  Runs P o a w (After tab μ mem w S [] v):=by
 have e1:=rel_bool hx
 have e2:=rel_bool hy
 have hu:=und_bool hT ht hk
 have he0:∀ k,(Op.equalIn (k+1) t (.bool b) (.bool d)).run P w=.ok (eqb b d) w:=fun k=>by
  have:(b == d)=eqb b d:=by cases b<;>cases d<;>rfl
  rw [← this]
  simp [Op.equalIn,run_underlying hu]
 have he:(Op.equal t (.bool b) (.bool d)).run P w=.ok (eqb b d) w:=he0 9999
 have fin:∀ z:Value,RelV tab μ mem w S v z→(binOp op t (.bool b) (.bool d)).run P w=.ok z w→(eqGuard op t x y (.bool b) (.bool d)).run P w=.ok () w→Runs P o a w (After tab μ mem w S [] v):=fun z hz hr hg=>by
  refine runs_of (s:=do eqGuard op t x y (a.eval x) (a.eval y); binOp op t (a.eval x) (a.eval y)) (x:=z) (w':=w) (by simp only [execOp,ho]) ?_ (after_same I hz)
  rw [e1,e2,Sem.run_bind,hg]
  exact hr
 rcases h with ⟨rfl,rfl⟩ | ⟨rfl,rfl⟩
 ·refine fin _ (mk_bool _) ?_ rfl
  simp [binOp,he]
 ·refine fin _ (mk_bool _) ?_ rfl
  simp [binOp,he]
end
end Vm
end Go.Proofs.YtlbppjmekiemiacGreatDoor


/- The executor on data: structs held against each other, pieces, closures, made slices. No condition. -/
namespace Go.Proofs.YtlbppjmekiemiacGreatDoor
namespace Vm
section
variable {P:Program} {tab:Tab} {μ μ':Mu} {mem mem':MemF} {w w':World} {S S':Nat→Prop}

theorem eqCs_plain:∀ {cs ds:List C} {r:Bool},eqCs cs ds=some r→∀ (i:Nat) c,cs[i]? = some c→∀ y,RelC tab μ mem w S c y→RepC tab w (fun _=>False) c y:=by
 intro cs
 induction cs with
 | nil=>intro ds r _ i c hi; simp at hi
 | cons c cs ih =>
  intro ds r h i c' hi y hy
  cases ds with
  | nil=>simp only [eqCs] at h; cases h
  | cons d ds =>
   simp only [eqCs] at h
   split at h<;>try cases h
   rename_i x hx
   split at h<;>try cases h
   rename_i r' hr
   cases i with
   | zero =>
    simp at hi; subst hi
    unfold eqC at hx
    split at hx<;>first | cases hx | skip
    all_goals (cases hy; constructor)
   | succ i=>simp at hi; exact ih hr i c' hi y hy

theorem eqC_symm {c d:C} {r:Bool} (h:eqC c d=some r):∃ r',eqC d c=some r':=by
 unfold eqC at h
 split at h<;>first | cases h | skip
 all_goals exact ⟨_,rfl⟩

theorem eqCs_symm:∀ {cs ds:List C} {r:Bool},eqCs cs ds=some r→∃ r',eqCs ds cs=some r':=by
 intro cs
 induction cs with
 | nil=>intro ds r h; cases ds with
  | nil=>exact ⟨true,rfl⟩
  | cons d ds=>simp only [eqCs] at h; cases h
 | cons c cs ih =>
  intro ds r h
  cases ds with
  | nil=>simp only [eqCs] at h; cases h
  | cons d ds =>
   simp only [eqCs] at h
   split at h<;>try cases h
   rename_i x hx
   split at h<;>try cases h
   rename_i r' hr
   obtain ⟨a,ha⟩:=eqC_symm hx
   obtain ⟨b,hb⟩:=ih hr
   exact ⟨a && b,by simp only [eqCs,ha,hb]⟩

theorem op_binAgg {o:Oper} {a:Act} {x y:Operand} {op:BinOp} {t t':TypeId} {cs ds:List C} {q r:Bool} {ti:TI} {v:V} (hT:TabOk P tab) (ho:o.op=.binOp op t x y t') (hm:memb tab.eqs t=true) (hti:tyAt tab t=some ti) (hq:eqCs ti.zero cs=some q) (I:Inv tab μ mem w S)
  (hx:RelV tab μ mem w S (.agg cs) (a.eval x)) (hy:RelV tab μ mem w S (.agg ds) (a.eval y)) (hr:eqCs cs ds=some r)
  (h:(op=.eql∧v=.one (.dat .bool r))∨(op=.neq∧v=.one (.dat .bool (!r)))) :
  Runs P o a w (After tab μ mem w S [] v):=by
 obtain ⟨xs,e1,f1,g1⟩:=hx
 obtain ⟨ys,e2,f2,g2⟩:=hy
 obtain ⟨r',hr'⟩:=eqCs_symm hr
 obtain ⟨k1,k2⟩:=hT.eqs t ti hm hti cs ds xs ys q r w hq hr f1 f2
  (fun i c hi=>by obtain ⟨z,q1,q2,q3⟩:=g1 i c hi; exact ⟨z,q1,eqCs_plain hr i c hi z q3⟩)
  (fun i c hi=>by obtain ⟨z,q1,q2,q3⟩:=g2 i c hi; exact ⟨z,q1,eqCs_plain hr' i c hi z q3⟩)
 have fin:∀ z:Value,RelV tab μ mem w S v z→(binOp op t (.agg xs) (.agg ys)).run P w=.ok z w→Runs P o a w (After tab μ mem w S [] v):=fun z hz hr=>by
  refine runs_of (s:=do eqGuard op t x y (a.eval x) (a.eval y); binOp op t (a.eval x) (a.eval y)) (x:=z) (w':=w) (by simp only [execOp,ho]) ?_ (after_same I hz)
  rw [e1,e2,Sem.run_bind,k1 op x y]
  exact hr
 rcases h with ⟨rfl,rfl⟩ | ⟨rfl,rfl⟩
 ·exact fin _ (mk_bool _) (by simp [binOp,k2])
 ·exact fin _ (mk_bool _) (by simp [binOp,k2])

theorem op_makeFunc {o:Oper} {a:Act} {f:Nat} {fs cs:Array Operand} {rs:List Nat} (ho:o.op=.makeFunc (.func f) fs cs) (hf:fs=#[]) (I:Inv tab μ mem w S)
  (h:cs.size=rs.length) (hr:∀ (i r:Nat),rs[i]? = some r→∃ x,cs[i]? = some x∧RelV tab μ mem w S (.one (.ptr r 0)) (a.eval x)) :
  Runs P o a w (After tab μ mem w S [] (.one (.fn f rs))):=by
 subst hf
 refine runs_val (x:=.func (.func f) #[] (cs.map a.eval)) (w':=w) (by simp [execOp,ho,Instr.makeFunc]) (after_same I ⟨rfl,fun r hrr=>?_,cs.map a.eval,rfl,by simpa using h,fun i r hi=>?_⟩)
 ·obtain ⟨i,hi,rfl⟩:=List.getElem_of_mem hrr
  obtain ⟨x,_,hx⟩:=hr i _ (List.getElem?_eq_getElem hi)
  exact hx.2.1
 ·obtain ⟨x,hx,h1,_,hp⟩:=hr i r hi
  exact ⟨a.eval x,by simp [hx],h1,fun bs hb=>hp bs hb⟩

theorem op_index {o:Oper} {a:Act} {x y:Operand} {T n size:Nat} {ti:TI} {cs:List C} {j:Int} (hT:TabOk P tab) (ho:o.op=.index T x y) (ht:tyAt tab T=some ti) (hk:ti.kd=.array n size)
  (I:Inv tab μ mem w S) (hx:RelV tab μ mem w S (.agg cs) (a.eval x)) (hy:RelV tab μ mem w S (.one (.dat .int j)) (a.eval y)) (h0:0≤j) (h1:j<(n:Nat)) (h2:2≤size) (h3:j.toNat*size+size≤cs.length) :
  Runs P o a w (After tab μ mem w S [] (.agg (slc cs (j.toNat*size) (j.toNat*size+size)))):=by
 have ey:=rel_int hy
 obtain ⟨xs,ex,f1,f2⟩:=hx
 have hkind:=(hT.ok T ti ht).kind
 rw [hk] at hkind
 obtain ⟨e,i,k1,k2,k3,k4,k5,k6,k7⟩:=hkind
 have hag:(isAgg e).run P w=.ok true w:=by
  rw [k7 w,Nat.ble_eq_true_of_le h2]
 refine runs_of (s:=Instr.index T (a.eval x) (a.eval y)) (x:=.agg (xs.extract (j.toNat*size) (j.toNat*size+size))) (w':=w) (by simp only [execOp,ho]) ?_ (after_same I ⟨_,rfl,?_,fun q c hq=>?_⟩)
 ·rw [ex,ey]
  simp [Instr.index,asIntOf,run_underlying k1,h0,h1,run_sizeOf k2,k3,part,hag]
 ·rw [slc_len _ _ _ h3]
  simp [f1]; omega
 ·obtain ⟨q1,q2⟩:=slc_get _ _ _ _ _ hq
  obtain ⟨z,r1,r2,r3⟩:=f2 _ c q2
  refine ⟨z,?_,r2,r3⟩
  rw [Array.getElem?_extract]
  rw [if_pos (by simp [f1]; omega)]
  exact r1

theorem eqCs_real {as bs:List C} {r:Bool} (h:eqCs as bs=some r):∀ (i:Nat) c,bs[i]? = some c→c≠.undef:=by
 obtain ⟨r',h'⟩:=eqCs_symm h
 intro i c hc e
 subst e
 have key:∀ {as bs:List C} {r:Bool},eqCs as bs=some r→∀ (i:Nat),as[i]?≠some .undef:=by
  intro as
  induction as with
  | nil=>intro bs r _ i hi; simp at hi
  | cons a as ih =>
   intro bs r h i hi
   cases bs with
   | nil=>simp only [eqCs] at h; cases h
   | cons b bs =>
    simp only [eqCs] at h
    split at h<;>try cases h
    rename_i x hx
    split at h<;>try cases h
    rename_i y hy
    cases i with
    | zero=>simp at hi; subst hi; simp [eqC] at hx
    | succ i=>exact ih hy i (by simpa using hi)
 exact key h' i hc

theorem op_field {o:Oper} {a:Act} {x:Operand} {T f:Nat} {ti:TI} {cs:List C} {q:Bool} {c:C} (hT:TabOk P tab) (ho:o.op=.field T x f) (hm:memb tab.eqs T=true) (hti:tyAt tab T=some ti) (hq:eqCs ti.zero cs=some q) (hc:cs[f]? = some c)
  (I:Inv tab μ mem w S) (hx:RelV tab μ mem w S (.agg cs) (a.eval x)):Runs P o a w (After tab μ mem w S [] (.one c)):=by
 obtain ⟨xs,ex,f1,f2⟩:=hx
 obtain ⟨y,y1,y2,y3⟩:=f2 f c hc
 have hne:=eqCs_real hq f c hc
 refine runs_of (s:=Instr.field T (a.eval x) f) (x:=y) (w':=w) (by simp only [execOp,ho]) ?_ (after_same I ?_)
 ·rw [ex]; exact hT.flds T ti hm hti cs xs q f c y w hq hc y1
 ·cases c<;>first | exact absurd rfl hne | exact ⟨y2,y3⟩

theorem op_makeSlice {o:Oper} {a:Act} {x y:Operand} {T base:Nat} {ti:TI} {t:Ty} {n:Int} (hT:TabOk P tab) (ho:o.op=.makeSlice T x y) (hxy:a.eval x=a.eval y) (ht:tyAt tab T=some ti) (hk:ti.isSlice t=true) (hf:t.noFn=true)
  (I:Inv tab μ mem w S) (hx:RelV tab μ mem w S (.one (.dat .int n)) (a.eval x)) (h0:0≤n) (h1:n*ti.bytes≤140737488355328) (h2:n≤140737488355328) (hb:mem base=none) :
  Runs P o a w (After tab μ mem w S [(base,.arr t (zeros n.toNat t.dflt))] (.one (.own base))):=by
 have ex:=rel_int hx
 obtain ⟨e,i,z,hs⟩:=und_slice hT ht hk
 obtain ⟨k,rfl⟩:=Int.eq_ofNat_of_zero_le h0
 have hrun:(Instr.makeSlice T (.int .i64 (k:Int)) (.int .i64 (k:Int))).run P w=.ok (.slice (some (at0 w.heap.size 0)) k k) (w.alloc (.cells (madeCells z.cells (k*t.width)) e)):=by
  have:=run_make (P:=P) w T e i z hs.und hs.info hs.zero .i64 .i64 (k:Int) (k:Int) h0 (Int.le_refl _) (by rw [hs.bytes,Int.mul_comm]; omega) (by omega)
  simpa [hs.size,at0] using this
 have hcs:(madeCells z.cells (k*t.width)).size=k*t.width:=size_madeCells _ _
 have hl:(Loc.ar (.slice (some (at0 w.heap.size 0)) k k)).block=some w.heap.size∨(Loc.ar (.slice (some (at0 w.heap.size 0)) k k)).block=none:=.inl rfl
 have E:=alloc_E (μ:=μ) (S:=S) (w:=w) (o:=.cells (madeCells z.cells (k*t.width)) e) (B:=.arr t (zeros (k:Int).toNat t.dflt)) hb hl
 refine runs_of (s:=Instr.makeSlice T (a.eval x) (a.eval y)) (x:=.slice (some (at0 w.heap.size 0)) k k) (w':=w.alloc (.cells (madeCells z.cells (k*t.width)) e)) (by simp only [execOp,ho]) (by rw [← hxy,ex]; exact hrun) ⟨_,S,E,alloc_I hb hl I (.inr ⟨w.heap.size,k,_,e,?_,heap_alloc_new w _,?_,?_,?_,fun q j c hq hj=>?_⟩),?_⟩
 ·simp [zeros]
 ·simp [zeros]
 ·unfold maxLen; omega
 ·omega
 ·have hqk:q<k:=by simpa [zeros] using hq
  have hn:nth (zeros (k:Int).toNat t.dflt) q t.dflt=t.dflt:=by
   simp [nth,zeros,List.getD,hqk]
  rw [hn] at hj
  obtain ⟨y',r1,r2,r3⟩:=hs.zok hf j c hj
  have hjw:j<t.width:=by rw [← cells_len t t.dflt]; exact (List.getElem?_eq_some_iff.1 hj).1
  refine ⟨y',?_,r2,r3 _ _⟩
  have hlt:q*t.width+j<k*t.width:=by
   have:(q+1)*t.width≤k*t.width:=Nat.mul_le_mul_right _ (by omega)
   rw [Nat.add_mul] at this; omega
  have hmod:(q*t.width+j) % z.cells.size=j:=by
   rw [hs.zs,Nat.add_comm,Nat.add_mul_mod_self_right,Nat.mod_eq_of_lt hjw]
  have hget:z.cells[j]? = some y':=by simpa using r1
  have hbang:z.cells[j]! = y':=by
   rw [getElem!_def,hget]
  simp [madeCells,hlt,hmod,hbang]
 ·exact ⟨rfl,by rw [memU_eq]; exact (fun h=>by cases h),fun t' l' _=>muU_eq⟩
end
end Vm
end Go.Proofs.YtlbppjmekiemiacGreatDoor


/- The executor on data: pieces of slices. No condition. -/
namespace Go.Proofs.YtlbppjmekiemiacGreatDoor
namespace Vm
section
variable {P:Program} {tab:Tab} {μ μ':Mu} {mem mem':MemF} {w w':World} {S S':Nat→Prop}

def iv (o:Option Int):Option Value:=o.map (Value.int .i64)

theorem run_sliceAt {T:Nat} {t:Ty} {nb e:Nat} {i:TypeInfo} {z:Value} (hs:SlT P tab T t nb e i z) (ad:Option Addr) (n cap:Nat) (lo hi:Option Int) (h0:0≤lo.getD 0) (h1:lo.getD 0≤hi.getD (n:Nat)) (h2:hi.getD (n:Nat)≤(cap:Nat)) :
  (Instr.sliceAt T (.slice ad n cap) (iv lo) (iv hi) none).run P w =
   .ok (.slice (if cap=(lo.getD 0).toNat then ad else ad.map (·.add ((lo.getD 0).toNat*t.width))) ((hi.getD (n:Nat)).toNat-(lo.getD 0).toNat) (cap-(lo.getD 0).toNat)) w:=by
 cases lo<;>cases hi<;>simp only [Option.getD_some,Option.getD_none] at h0 h1 h2 ⊢
 ·simp [Instr.sliceAt,Instr.slice,Instr.sliceBounds,iv,run_underlying hs.und,run_sizeOf hs.info]
 ·rename_i h
  have hh:h≤((cap:Nat):Int):=h2
  have:0≤h:=by omega
  simp [Instr.sliceAt,Instr.slice,Instr.sliceBounds,Instr.sliceBound,asIntOf,iv,run_underlying hs.und,run_sizeOf hs.info,this,hh]
 ·rename_i l
  have hl:l≤((n:Nat):Int):=h1
  simp [Instr.sliceAt,Instr.slice,Instr.sliceBounds,Instr.sliceBound,asIntOf,iv,run_underlying hs.und,run_sizeOf hs.info,hs.size,h0,hl]
 ·rename_i l h
  have hh:h≤((cap:Nat):Int):=h2
  have h0':0≤h:=by omega
  have hl:l≤max h 0:=by omega
  simp [Instr.sliceAt,Instr.slice,Instr.sliceBounds,Instr.sliceBound,asIntOf,iv,run_underlying hs.und,run_sizeOf hs.info,hs.size,h0,hh,h0',hl]

theorem run_sliceAt3 {T:Nat} {t:Ty} {nb e:Nat} {i:TypeInfo} {z:Value} (hs:SlT P tab T t nb e i z) (ad:Option Addr) (n cap:Nat) (lo:Option Int) (h m:Int) (h0:0≤lo.getD 0) (h1:lo.getD 0≤h) (h2:h≤m) (h3:m≤(cap:Nat)) :
  (Instr.sliceAt T (.slice ad n cap) (iv lo) (iv (some h)) (iv (some m))).run P w =
   .ok (.slice (if m.toNat=(lo.getD 0).toNat then ad else ad.map (·.add ((lo.getD 0).toNat*t.width))) (h.toNat-(lo.getD 0).toNat) (m.toNat-(lo.getD 0).toNat)) w:=by
 have a1:0≤h:=by omega
 have a2:0≤m:=by omega
 have a3:h≤max m 0:=by omega
 cases lo<;>simp only [Option.getD_some,Option.getD_none] at h0 h1 ⊢
 ·simp [Instr.sliceAt,Instr.slice,Instr.sliceBounds,Instr.sliceBound,asIntOf,iv,run_underlying hs.und,run_sizeOf hs.info,a1,a2,a3,h3]
 ·rename_i l
  have hl:l≤max h 0:=by omega
  simp [Instr.sliceAt,Instr.slice,Instr.sliceBounds,Instr.sliceBound,asIntOf,iv,run_underlying hs.und,run_sizeOf hs.info,hs.size,a1,a2,a3,h0,h3,hl]

theorem slc_get' {α:Type} (l:List α) (lo hi i:Nat) (d:α) (h:i<hi-lo):nth (slc l lo hi) i d=nth l (lo+i) d:=by
 have h1:(slc l lo hi)[i]? = l[lo+i]?:=by
  unfold slc
  simp only [List.getElem?_drop,List.getElem?_take]
  rw [if_pos (by omega)]
 simp only [nth,List.getD,h1]

theorem slc_len' {α:Type} (l:List α) (lo hi:Nat) (h:hi≤l.length):(slc l lo hi).length=hi-lo:=by
 unfold slc
 simp; omega

theorem rep_slc {t:Ty} {l:List t.den} {ad:Option Addr} {n cap lo hi:Nat} (h:RepC tab w S (.dat (.list t) l) (.slice ad n cap)) (h1:lo≤hi) (h2:hi≤l.length) :
  RepC tab w S (.dat (.list t) (slc l lo hi)) (.slice (if cap=lo then ad else ad.map (·.add (lo*t.width))) (hi-lo) (cap-lo)):=by
 have hlen:=slc_len' l lo hi h2
 by_cases he:hi-lo=0
 ·have:slc l lo hi=[]:=List.eq_nil_of_length_eq_zero (by omega)
  rw [this,he]
  exact .empty t _ _
 ·cases h with
  | empty t a cap=>simp at h2; omega
  | list t l b off cap cs hS hcap hc hr =>
   have hne:¬ cap=lo:=by omega
   rw [if_neg hne,Option.map_some,at0,Addr.add_lit,← hlen]
   refine .list t (slc l lo hi) b (off+lo*t.width) (cap-lo) (fun i j=>cs (lo+i) j) hS (by omega) (fun i j hi' hj=>?_) (fun i j c hi' hj=>?_)
   ·have:=hc (lo+i) j (by omega) hj
    rw [Nat.add_mul] at this
    rw [← this]
    congr 2
    omega
   ·rw [slc_get' l lo hi i t.dflt (by omega)] at hj
    exact hr (lo+i) j c (by omega) hj

theorem op_slice {o:Oper} {a:Act} {T:Nat} {ti:TI} {x:Operand} {lo hi mx:Option Operand} {c:C} {l h m:Option Int} {lm:Mem} {p:Option Prop} {v:V} {mm:Mem} (hT:TabOk P tab) (ho:o.op=.slice T x lo hi mx) (ht:tyAt tab T=some ti)
  (I:Inv tab μ mem w S) (hs:Sees lm mem) (hx:RelV tab μ mem w S (.one c) (a.eval x)) (hl:lo.map a.eval=iv l) (hh:hi.map a.eval=iv h) (hm:mx.map a.eval=iv m) (hX:sliceX ti lm c l h m=some (p,v,mm)) (hp:under p True) :
  Runs P o a w (After tab μ mem w S mm v):=by
 have fin:∀ y,(Instr.sliceAt T (a.eval x) (iv l) (iv h) (iv m)).run P w=.ok y w→RelV tab μ mem w S v y→mm=[]→Runs P o a w (After tab μ mem w S mm v):=fun y hr hv e=>by
  subst e
  exact runs_of (s:=Instr.sliceAt T (a.eval x) (lo.map a.eval) (hi.map a.eval) (mx.map a.eval)) (by simp only [execOp,ho]) (by rw [hl,hh,hm]; exact hr) (after_same I hv)
 cases c with
 | dat t' d =>
  cases t' with
  | list t =>
   simp only [sliceX] at hX
   split at hX<;>try cases hX
   rename_i hk
   obtain ⟨g0,g1,g2⟩:0≤l.getD 0∧l.getD 0≤h.getD ((d:List t.den).length:Nat)∧h.getD ((d:List t.den).length:Nat)≤((d:List t.den).length:Nat):=hp.1
   obtain ⟨e,i,z,hsl⟩:=und_slice hT ht hk
   obtain ⟨ad,cap,ex,hcap⟩:=rep_slice hx.2
   rw [ex] at hx
   refine fin _ (by rw [ex]; exact run_sliceAt hsl ad _ cap l h g0 g1 (by omega)) ⟨rfl,?_⟩ rfl
   exact rep_slc (lo:=(l.getD 0).toNat) (hi:=(h.getD (((d:List t.den).length:Nat):Int)).toNat) hx.2 (by omega) (by omega)
  | _=>simp only [sliceX] at hX; cases hX
 | nil t =>
  simp only [sliceX] at hX
  split at hX<;>try cases hX
  rename_i hk
  obtain ⟨g0,g1⟩:=hp.1
  obtain ⟨e,i,z,hsl⟩:=und_slice hT ht hk
  obtain ⟨_,ex⟩:=hx
  refine fin (.slice none 0 0) ?_ ⟨rfl,rfl⟩ rfl
  rw [ex]
  have:=run_sliceAt (P:=P) (w:=w) hsl none 0 0 l h (by omega) (by rw [g0]; simpa using Int.le_of_eq g1.symm) (by simpa using Int.le_of_eq g1)
  rw [g0] at this
  simp only [Int.toNat_zero] at this
  simpa [iv,g1] using this
 | own r =>
  simp only [sliceX] at hX
  split at hX<;>try cases hX
  rename_i t ll hll
  split at hX<;>try cases hX
  rename_i hk
  obtain ⟨e,i,z,hsl⟩:=und_slice hT ht hk
  obtain ⟨hmem,hμ,hrel⟩:=own_arr hs I hll hx
  obtain ⟨ad,cap,ex,hcap,had⟩:∃ ad cap,a.eval x=.slice ad ll.length cap∧ll.length≤cap∧(∀ k,ad.map (·.add k)=ad.map fun q=>at0 q.block (q.off+k)):=by
   rcases hrel with ⟨ex,rfl⟩ | ⟨b,cap,cur,e',ex,hb,h3,_⟩
   ·exact ⟨none,0,ex,Nat.le_refl _,fun _=>rfl⟩
   ·exact ⟨_,cap,ex,h3,fun k=>by simp [at0,Addr.add_lit]⟩
  have done:∀ (lo' hi' mx':Nat),lo'≤hi'→hi'≤mx'→mx'≤cap→ll.length≤mx' →
    RelV tab μ mem w S (.one (.view r lo' (hi'-lo'))) (.slice (if mx'=lo' then ad else ad.map (·.add (lo'*t.width))) (hi'-lo') (mx'-lo')):=fun lo' hi' mx' q1 q2 q3 q4=>by
   refine ⟨rfl,by rw [hmem]; exact (fun h=>by cases h),fun t' l' hl'=>?_⟩
   rw [hmem] at hl'; cases hl'
   refine ⟨_,hμ,ad,ll.length,cap,_,mx'-lo',ex,rfl,fun h0=>?_,fun hpos=>?_,by omega,by omega,by omega⟩
   ·subst h0
    split
    ·rfl
    ·cases ad with
     | none=>rfl
     | some q=>simp [Addr.add_zero']
   ·rw [if_neg (by omega),had]
  cases m with
  | none =>
   cases hX
   obtain ⟨g0,g1,g2⟩:0≤l.getD 0∧l.getD 0≤h.getD (ll.length:Nat)∧h.getD (ll.length:Nat)≤(ll.length:Nat):=hp.1
   refine fin _ (by rw [ex]; exact run_sliceAt hsl ad _ cap l h g0 g1 (by omega)) ?_ rfl
   have:=done (l.getD 0).toNat (h.getD (ll.length:Nat)).toNat cap (by omega) (by omega) (Nat.le_refl _) hcap
   have e1:(h.getD ((len ll:Nat):Int)-l.getD 0).toNat=(h.getD (ll.length:Nat)).toNat-(l.getD 0).toNat:=by
    show (h.getD (ll.length:Nat)-l.getD 0).toNat=_
    omega
   rw [e1]
   exact this
  | some m =>
   simp only at hX
   split at hX<;>try cases hX
   ·rename_i h
    obtain ⟨g0,g1,g2⟩:0≤h∧h=m∧m≤(ll.length:Nat):=hp.1
    subst g1
    have hr:=run_sliceAt3 (P:=P) (w:=w) hsl ad ll.length cap none h h (by simp) (by simpa using g0) (Int.le_refl _) (by omega)
    refine fin (.slice ad h.toNat h.toNat) (by rw [ex,hr]; congr 2; simp only [Option.getD_none,Int.toNat_zero,Nat.zero_mul]; split; rfl; cases ad with | none=>rfl | some q=>simp [Addr.add_zero']) ⟨rfl,by rw [hmem]; exact (fun h=>by cases h),fun t' l' hl'=>⟨ad,_,cap,by rw [hμ,ex],rfl⟩⟩ rfl
   rename_i l0 h
   obtain ⟨g0,g1,g2,g3⟩:0≤(some l0:Option Int).getD 0∧(some l0:Option Int).getD 0≤h∧h≤m∧m=(ll.length:Nat):=hp.1
   refine fin _ (by rw [ex]; exact run_sliceAt3 hsl ad _ cap (some l0) h m g0 g1 g2 (by omega)) ?_ rfl
   have:=done ((some l0:Option Int).getD 0).toNat h.toNat m.toNat (by omega) (by omega) (by omega) (by omega)
   have e1:(h-(some l0:Option Int).getD 0).toNat=h.toNat-((some l0:Option Int).getD 0).toNat:=by omega
   rw [e1]
   exact this
 | view r off n =>
  cases off with
  | succ off=>simp only [sliceX] at hX; cases hX
  | zero =>
   simp only [sliceX] at hX
   split at hX<;>try cases hX
   rename_i t ll hll
   split at hX<;>try cases hX
   rename_i hk
   obtain ⟨e,i,z,hsl⟩:=und_slice hT ht hk
   obtain ⟨hmem,y,hμ,⟨a0,m0,cap0,a1,cap1,k1,k2,k3,k4,k5,k6,k7⟩,hrel⟩:=view_arr hs I hll hx
   have ha:=k3 rfl
   subst ha
   obtain ⟨g0,g1,g2⟩:0≤l.getD 0∧l.getD 0≤h.getD (n:Nat)∧h.getD (n:Nat)≤(ll.length:Nat):=hp.1
   have had:m0=ll.length∧(∀ k,a1.map (·.add k)=a1.map fun q=>at0 q.block (q.off+k)):=by
    rcases hrel with ⟨ey,rfl⟩ | ⟨b,cap,cur,e',ey,_⟩
    ·rw [ey] at k1; cases k1; exact ⟨rfl,fun _=>rfl⟩
    ·rw [ey] at k1; cases k1; exact ⟨rfl,fun k=>by simp [at0,Addr.add_lit]⟩
   obtain ⟨rfl,had⟩:=had
   refine fin _ (by rw [k2]; exact run_sliceAt hsl a1 _ cap1 l h g0 g1 (by omega)) ⟨rfl,by rw [hmem]; exact (fun h=>by cases h),fun t' l' hl'=>?_⟩ rfl
   rw [hmem] at hl'; cases hl'
   have e1:(h.getD (n:Nat)-l.getD 0).toNat=(h.getD (n:Nat)).toNat-(l.getD 0).toNat:=by omega
   rw [e1]
   refine ⟨_,hμ,a1,ll.length,cap0,_,_,k1,rfl,fun h0=>?_,fun hpos=>?_,by omega,by omega,by omega⟩
   ·rw [h0]
    split
    ·rfl
    ·cases a1 with
     | none=>rfl
     | some q=>simp [Addr.add_zero']
   ·rw [if_neg (by omega),had]
 | _=>simp only [sliceX] at hX; cases hX
end
end Vm
end Go.Proofs.YtlbppjmekiemiacGreatDoor


/- The executor on data: structs and slices that are written out. No condition. -/
namespace Go.Proofs.YtlbppjmekiemiacGreatDoor
namespace Vm
section
variable {P:Program} {tab:Tab} {μ μ':Mu} {mem mem':MemF} {w w':World} {S S':Nat→Prop}

def RelL (R:C→Value→Prop) (cs:List C) (xs:List Value):Prop:=xs.length=cs.length∧∀ (i:Nat) c,cs[i]? = some c→∃ y,xs[i]? = some y∧R c y

theorem fill_fold (off:Nat):∀ (ys:List Value) (k:Nat) (cells:Array Value),off+k+ys.length≤cells.size →
  ((ys.zipIdx k).foldl (fun cs (c,j)=>cs.setIfInBounds (off+j) c) cells).toList=cells.toList.take (off+k)++ys++cells.toList.drop (off+k+ys.length):=by
 intro ys
 induction ys with
 | nil=>intro k cells _; simp
 | cons y ys ih =>
  intro k cells h
  simp only [List.length_cons] at h
  simp only [List.zipIdx_cons,List.foldl_cons]
  rw [ih (k+1) _ (by simp; omega)]
  apply List.ext_getElem?
  intro i
  have e1:(List.take (off+(k+1)) (cells.setIfInBounds (off+k) y).toList).length=off+(k+1):=by simp; omega
  have e2:(List.take (off+k) cells.toList).length=off+k:=by simp; omega
  simp only [List.append_assoc]
  by_cases h1:i<off+k
  ·rw [List.getElem?_append_left (by omega),List.getElem?_append_left (by omega),List.getElem?_take_of_lt (by omega),List.getElem?_take_of_lt h1]
   simp only [Array.toList_setIfInBounds]
   rw [List.getElem?_set_ne (by omega)]
  ·by_cases h2:i=off+k
   ·subst h2
    rw [List.getElem?_append_left (by omega),List.getElem?_take_of_lt (by omega),List.getElem?_append_right (by omega),e2]
    simp [show off+k<cells.size by omega]
   ·have L:(List.take (off+(k+1)) (cells.setIfInBounds (off+k) y).toList++(ys++List.drop (off+(k+1)+ys.length) (cells.setIfInBounds (off+k) y).toList))[i]? =
      (ys++List.drop (off+(k+1)+ys.length) (cells.setIfInBounds (off+k) y).toList)[i-(off+(k+1))]?:=by
     rw [List.getElem?_append_right (by omega),e1]
    have R:(List.take (off+k) cells.toList++(y::ys++List.drop (off+k+(y::ys).length) cells.toList))[i]? =
      (ys++List.drop (off+k+(y::ys).length) cells.toList)[i-(off+(k+1))]?:=by
     rw [List.getElem?_append_right (by omega),e2,show i-(off+k)=(i-(off+(k+1)))+1 by omega,List.cons_append,List.getElem?_cons_succ]
    rw [L,R]
    by_cases h3:i-(off+(k+1))<ys.length
    ·rw [List.getElem?_append_left h3,List.getElem?_append_left h3]
    ·rw [List.getElem?_append_right (by omega),List.getElem?_append_right (by omega),List.getElem?_drop,List.getElem?_drop]
     simp only [Array.toList_setIfInBounds]
     rw [List.getElem?_set_ne (by omega)]
     congr 1
     simp only [List.length_cons]
     omega

theorem put_RelL {R:C→Value→Prop} {old cs:List C} {cur ys:List Value} {o:Nat} (ho:o+cs.length≤old.length) (h1:RelL R old cur) (h2:RelL R cs ys) :
  RelL R (put old o cs) (cur.take o++ys++cur.drop (o+ys.length)):=by
 refine ⟨?_,put_rel ho h2.1 (by rw [h1.1]; exact ho) h1.2 h2.2⟩
 simp [put,h1.1,h2.1]

theorem fill_rel {R:C→Value→Prop} {place:Nat→Option (Nat × Nat)}:∀ (fs:List (Nat × List C)) (ixs:List Nat) (vs:List (Nat × Value)) (old new:List C) (cells:Array Value),
  RelL R old cells.toList→placeAll old fs=some new→vs.map (·.1)=ixs→fs.length=vs.length →
  (∀ (i:Nat) f v,fs[i]? = some f→vs[i]? = some v→place v.1=some (f.1,f.2.length)∧RelL R f.2 v.2.cells.toList) →
  ∃ cells',Instr.fill place cells vs=some cells'∧RelL R new cells'.toList:=by
 intro fs
 induction fs with
 | nil =>
  intro ixs vs old new cells hr hp _ hl _
  cases vs with
  | nil=>simp only [placeAll] at hp; cases hp; exact ⟨cells,rfl,hr⟩
  | cons v vs=>simp at hl
 | cons f fs ih =>
  intro ixs vs old new cells hr hp hix hl hall
  cases vs with
  | nil=>simp at hl
  | cons v vs =>
   obtain ⟨off,cs⟩:=f
   simp only [placeAll] at hp
   split at hp<;>try cases hp
   rename_i hle
   have hle':=Nat.le_of_ble_eq_true hle
   obtain ⟨e1,e2⟩:=hall 0 _ _ rfl rfl
   have hcs:v.2.cells.size=cs.length:=by have:=e2.1; simpa using this
   have hfit:off+v.2.cells.toList.length≤cells.size:=by
    have:=hr.1
    simp at this ⊢
    omega
   have hset:=fill_fold off v.2.cells.toList 0 cells (by simpa using hfit)
   simp only [Nat.add_zero] at hset
   have hrel:=put_RelL hle' hr e2
   rw [← hset] at hrel
   obtain ⟨cells',k1,k2⟩:=ih (vs.map (·.1)) vs (put old off cs) new _ hrel hp rfl (by simpa using hl) (fun i f v hf hv=>hall (i+1) f v hf hv)
   refine ⟨cells',?_,k2⟩
   have hz:(v.2.cells.zipIdx).foldl (fun cs (c,j)=>cs.setIfInBounds (off+j) c) cells=(v.2.cells.toList.zipIdx 0).foldl (fun cs (c,j)=>cs.setIfInBounds (off+j) c) cells:=by
    rw [← Array.foldl_toList]
    simp
   simp only [Instr.fill,e1,hcs]
   rw [if_neg (by
    have:=hfit
    simp at this
    simp; omega),hz]
   exact k1

theorem placeAll_len:∀ {fs:List (Nat × List C)} {z new:List C},placeAll z fs=some new→new.length=z.length:=by
 intro fs
 induction fs with
 | nil=>intro z new h; simp only [placeAll] at h; cases h; rfl
 | cons f fs ih =>
  intro z new h
  obtain ⟨off,cs⟩:=f
  simp only [placeAll] at h
  split at h<;>try cases h
  rename_i hle
  have hle':=Nat.le_of_ble_eq_true hle
  rw [ih h]
  simp [put]; omega

theorem fieldsAt_get:∀ {offs sizes ixs:List Nat} {vs:List V} {fs:List (Nat × List C)},fieldsAt offs sizes ixs vs=some fs →
  fs.length=ixs.length∧ixs.length=vs.length∧∀ (j:Nat) f,fs[j]? = some f→∃ i v,ixs[j]? = some i∧vs[j]? = some v∧offs[i]? = some f.1∧sizes[i]? = some f.2.length∧v.cells=some f.2:=by
 intro offs sizes ixs
 induction ixs with
 | nil =>
  intro vs fs h
  cases vs with
  | nil=>simp only [fieldsAt] at h; cases h; exact ⟨rfl,rfl,fun j f hj=>by simp at hj⟩
  | cons v vs=>simp only [fieldsAt] at h; cases h
 | cons i ixs ih =>
  intro vs fs h
  cases vs with
  | nil=>simp only [fieldsAt] at h; cases h
  | cons v vs =>
   simp only [fieldsAt] at h
   split at h<;>try cases h
   rename_i o n cs r h1 h2 h3 h4
   split at h<;>try cases h
   rename_i hb
   have hb':=Nat.eq_of_beq_eq_true hb
   obtain ⟨e1,e2,e3⟩:=ih h4
   refine ⟨by simp [e1],by simp [e2],fun j f hj=>?_⟩
   cases j with
   | zero=>simp at hj; subst hj; exact ⟨i,v,rfl,rfl,h1,by rw [hb']; exact h2,h3⟩
   | succ j=>simp at hj; simpa using e3 j f hj

theorem relVs_get:∀ {vs:List V} {xs:List Value},RelVs tab μ mem w S vs xs→∀ (i:Nat) v,vs[i]? = some v→∃ x,xs[i]? = some x∧RelV tab μ mem w S v x
 | [],[],_,i,v,h=>by simp at h
 | _::vs,x::xs,hr,0,v,h=>by simp at h; subst h; exact ⟨x,rfl,hr.1⟩
 | _::vs,_::xs,hr,i+1,v,h=>by simpa using relVs_get hr.2 i v (by simpa using h)
 | [],_::_,hr,_,_,_=>hr.elim
 | _::_,[],hr,_,_,_=>hr.elim

theorem op_build {o:Oper} {a:Act} {T:Nat} {ti:TI} {ps:Array (Nat × Operand)} {vs:List V} {fs:List (Nat × List C)} {cs:List C} (hT:TabOk P tab) (ho:o.op=.build T ps) (ht:tyAt tab T=some ti) (hk:ti.agg=true)
  (I:Inv tab μ mem w S) (hv:RelVs tab μ mem w S vs (ps.toList.map fun p=>a.eval p.2)) (hf:fieldsAt ti.offs ti.sizes (ps.toList.map (·.1)) vs=some fs) (hp:placeAll ti.zero fs=some cs) :
  Runs P o a w (After tab μ mem w S [] (.agg cs)):=by
 obtain ⟨i,z,h1,h2,h3,h4,_⟩:=(hT.ok T ti ht).info
 have hkind:=(hT.ok T ti ht).kind
 obtain ⟨q1,q2⟩:=zero_rel (tab:=tab) (μ:=μ) (mem:=mem) (w:=w) (S:=S) h4
 obtain ⟨e1,e2,e3⟩:=fieldsAt_get hf
 have hmap:(ps.map fun p=>(p.1,a.eval p.2)).toList.map (·.1)=ps.toList.map (·.1):=by simp
 have key:∀ place:Nat→Option (Nat × Nat),(∀ (j o' n:Nat),ti.offs[j]? = some o'→ti.sizes[j]? = some n→place j=some (o',n)) →
   ∃ cells',Instr.fill place z.cells (ps.map fun p=>(p.1,a.eval p.2)).toList=some cells'∧RelL (fun c y=>y.oneCell'=true∧RelC tab μ mem w S c y) cs cells'.toList:=fun place hpl=>by
  refine fill_rel fs _ _ ti.zero cs z.cells ⟨q1,q2⟩ hp hmap (by simp [e1]) (fun j f v hf' hv'=>?_)
  obtain ⟨ix,v',g1,g2,g3,g4,g5⟩:=e3 j f hf'
  obtain ⟨x,k1,k2⟩:=relVs_get hv j v' g2
  simp only [List.getElem?_map,Option.map_eq_some_iff] at g1 k1
  obtain ⟨p1,r1,r2⟩:=g1
  obtain ⟨p2,r3,r4⟩:=k1
  rw [r1] at r3; cases r3
  have hv2:v=(p1.1,a.eval p1.2):=by
   simp only [Array.toList_map,List.getElem?_map,r1,Option.map_some] at hv'
   exact (Option.some.inj hv').symm
  subst hv2
  refine ⟨by rw [r2]; exact hpl ix f.1 f.2.length g3 g4,?_⟩
  obtain ⟨c1,c2⟩:=relV_cells (r4 ▸ k2) g5
  exact ⟨by simpa using c1,fun i c hi=>by obtain ⟨y,y1,y2,y3⟩:=c2 i c hi; exact ⟨y,by simpa using y1,y2,y3⟩⟩
 have fin:∀ cells',P.built T (ps.map fun p=>(p.1,a.eval p.2)).toList=some cells'→RelL (fun c y=>y.oneCell'=true∧RelC tab μ mem w S c y) cs cells'.toList→Runs P o a w (After tab μ mem w S [] (.agg cs)):=fun cells' hb hr=>by
  refine runs_of (s:=Instr.build T (ps.map fun p=>(p.1,a.eval p.2))) (x:=.agg cells') (w':=w) (by simp only [execOp,ho]) (run_build w T _ cells' hb) (after_same I ⟨cells',rfl,by have:=hr.1; simpa using this,fun i c hi=>?_⟩)
  obtain ⟨y,y1,y2,y3⟩:=hr.2 i c hi
  exact ⟨y,by simpa using y1,y2,y3⟩
 unfold TI.agg at hk
 cases hkd:ti.kd with
 | struct =>
  rw [hkd] at hkind
  obtain ⟨ff,k1,k2,k3,k4⟩:=hkind
  obtain ⟨cells',g1,g2⟩:=key (fun j=>(ti.offs.zip ti.sizes).toArray[j]?) (fun j o' n g1 g2=>by
   simp only [List.getElem?_toArray]
   rw [List.getElem?_zip_eq_some]
   exact ⟨g1,g2⟩)
  refine fin cells' ?_ g2
  simp only [Program.built,h1,k1,h3,k2]
  exact g1
 | array n sz =>
  rw [hkd] at hkind
  obtain ⟨e,ie,k1,k2,k3,k4,k5,k6,_⟩:=hkind
  have hlen:ti.offs.length=n∧ti.sizes.length=n:=by rw [k5,k6]; simp
  obtain ⟨cells',g1,g2⟩:=key (fun j=>some (j*ie.size,ie.size)) (fun j o' n' g1 g2=>by
   rw [k5] at g1; rw [k6] at g2
   have hj:j<n:=by have:=(List.getElem?_eq_some_iff.1 g1).1; simpa using this
   simp [hj] at g1
   simp [hj] at g2
   rw [k3,← g1,← g2])
  refine fin cells' ?_ g2
  simp only [Program.built,h1,k1,h3,k2]
  exact g1
 | _=>rw [hkd] at hk; cases hk
end
end Vm
end Go.Proofs.YtlbppjmekiemiacGreatDoor


/- The executor on data: slices that are written out. No condition. -/
namespace Go.Proofs.YtlbppjmekiemiacGreatDoor
namespace Vm
section
variable {P:Program} {tab:Tab} {μ μ':Mu} {mem mem':MemF} {w w':World} {S S':Nat→Prop}

def rep (n:Nat) (zc:List C):List C:=(List.replicate n zc).flatten

theorem rep_len (n:Nat) (zc:List C):(rep n zc).length=n*zc.length:=by simp [rep]

theorem rep_succ (n:Nat) (zc:List C):rep (n+1) zc=zc++rep n zc:=by simp [rep,List.replicate_succ]

theorem flat_get {α β:Type} {wd:Nat} {f:α→List β} (hf:∀ a,(f a).length=wd):∀ (l:List α) (q j:Nat) (h:q<l.length),j<wd→(l.flatMap f)[q*wd+j]? = (f l[q])[j]?
 | [],q,j,h,_=>by simp at h
 | a::l,0,j,_,hj=>by simp [List.flatMap_cons,List.getElem?_append_left,hf,hj]
 | a::l,q+1,j,h,hj=>by
  have:=flat_get hf l q j (by simpa using h) hj
  rw [List.flatMap_cons,List.getElem?_append_right (by rw [hf,Nat.add_mul]; omega),hf,show (q+1)*wd+j-wd=q*wd+j by rw [Nat.add_mul]; omega]
  simpa using this

theorem elems_le {lm:Mem} {t:Ty}:∀ {n i:Nat} {ixs:List Nat} {vs:List V} {l:List t.den} {ns:List Nat},elemsAt tab lm t n i ixs vs=some (l,ns)→vs.length≤n:=by
 intro n
 induction n with
 | zero=>intro i ixs vs l ns h; cases ixs<;>cases vs<;>simp only [elemsAt] at h<;>first | cases h; done | simp
 | succ n ih =>
  intro i ixs vs l ns h
  cases ixs with
  | nil=>cases vs with
   | nil=>simp
   | cons v us=>simp only [elemsAt] at h; cases h
  | cons j js=>cases vs with
   | nil=>simp
   | cons v us =>
    simp only [elemsAt] at h
    split at h
    ·split at h<;>try cases h
     split at h<;>try cases h
     split at h<;>try cases h
     split at h<;>try cases h
     rename_i h'
     have:=ih h'
     simp; omega
    ·split at h<;>try cases h
     rename_i h'
     have:=ih h'
     omega

theorem elems_place {lm:Mem} {t:Ty} {zc:List C} (hz:zc.length=t.width):∀ (n i:Nat) (ixs:List Nat) (vs:List V) (l:List t.den) (ns:List Nat),
  elemsAt tab lm t n i ixs vs=some (l,ns)→(vs.length=n∨zc=t.cells t.dflt)→∀ pre:List C,pre.length=i*t.width →
  ∃ fs:List (Nat × List C),placeAll (pre++rep n zc) fs=some (pre++l.flatMap t.cells)∧fs.length=vs.length∧ixs.length=vs.length∧l.length=n ∧
   ∀ (k:Nat) f,fs[k]? = some f→∃ ix v cs ds nk,ixs[k]? = some ix∧vs[k]? = some v∧f=(ix*t.width,ds)∧ds.length=t.width∧v.cells=some cs∧toDats tab lm cs=some (ds,nk)∧∀ r∈nk,r∈ns:=by
 intro n
 induction n with
 | zero =>
  intro i ixs vs l ns h _ pre _
  cases ixs<;>cases vs<;>simp only [elemsAt] at h<;>cases h
  exact ⟨[],by simp [placeAll,rep],rfl,rfl,rfl,fun k f hf=>by simp at hf⟩
 | succ n ih =>
  intro i ixs vs l ns h hm pre hpre
  have miss:∀ l',elemsAt tab lm t n (i+1) ixs vs=some (l',ns)→l=t.dflt::l'→∃ fs:List (Nat × List C),placeAll (pre++rep (n+1) zc) fs=some (pre++l.flatMap t.cells)∧fs.length=vs.length∧ixs.length=vs.length∧l.length=n+1 ∧
   ∀ (k:Nat) f,fs[k]? = some f→∃ ix v cs ds nk,ixs[k]? = some ix∧vs[k]? = some v∧f=(ix*t.width,ds)∧ds.length=t.width∧v.cells=some cs∧toDats tab lm cs=some (ds,nk)∧∀ r∈nk,r∈ns:=fun l' h' e=>by
   subst e
   have hle:=elems_le h'
   have hzc:zc=t.cells t.dflt:=hm.resolve_left (by omega)
   obtain ⟨fs,g1,g2,g3,g4,g6⟩:=ih (i+1) ixs vs l' ns h' (.inr hzc) (pre++zc) (by simp [hpre,hz,Nat.add_mul])
   refine ⟨fs,?_,g2,g3,by simp [g4],g6⟩
   rw [rep_succ,← List.append_assoc,g1]
   simp [hzc]
  cases ixs with
  | nil=>cases vs with
   | nil =>
    simp only [elemsAt] at h
    split at h<;>try cases h
    rename_i h'
    exact miss _ h' rfl
   | cons v us=>simp only [elemsAt] at h; cases h
  | cons j js=>cases vs with
   | nil=>simp only [elemsAt] at h; cases h
   | cons v us =>
    simp only [elemsAt] at h
    split at h
    ·rename_i hij
     have hij':=Nat.eq_of_beq_eq_true hij
     split at h<;>try cases h
     rename_i cs hcs
     split at h<;>try cases h
     rename_i ds nk hds
     split at h<;>try cases h
     rename_i d hd
     split at h<;>try cases h
     rename_i l' ms h'
     have hdl:ds.length=t.width:=by rw [← ofCells_cells hd,cells_len]
     obtain ⟨fs,g1,g2,g3,g4,g6⟩:=ih (i+1) js us l' ms h' (hm.imp (fun e=>by simpa using e) id) (pre++t.cells d) (by simp [hpre,cells_len,Nat.add_mul])
     refine ⟨(i*t.width,ds)::fs,?_,by simp [g2],by simp [g3],by simp [g4],fun k f hf=>?_⟩
     ·simp only [placeAll]
      have hb:Nat.ble (i*t.width+ds.length) (pre++rep (n+1) zc).length=true:=by
       rw [Nat.ble_eq]
       simp [hpre,rep_len,hz,hdl,Nat.add_mul]<;>omega
      rw [hb]
      have hput:put (pre++rep (n+1) zc) (i*t.width) ds=pre++t.cells d++rep n zc:=by
       rw [ofCells_cells hd,rep_succ,← hpre]
       unfold put
       have e1:(pre++(zc++rep n zc)).take pre.length=pre:=by simp
       have e2:(pre++(zc++rep n zc)).drop (pre.length+ds.length)=rep n zc:=by
        rw [hdl,← hz,← List.append_assoc]
        have:(pre++zc).length=pre.length+zc.length:=by simp
        rw [← this,List.drop_left]
       rw [e1,e2]
      simp only [hput]
      rw [g1]
      simp
     ·cases k with
      | zero=>simp at hf; subst hf; exact ⟨j,v,cs,ds,nk,rfl,rfl,by rw [hij'],hdl,hcs,hds,fun r hr=>by simp [hr]⟩
      | succ k =>
       simp at hf
       obtain ⟨ix,v',cs',ds',nk',q1,q2,q3,q4,q5,q6,q7⟩:=g6 k f hf
       exact ⟨ix,v',cs',ds',nk',by simpa using q1,by simpa using q2,q3,q4,q5,q6,fun r hr=>by simp [q7 r hr]⟩
    ·split at h<;>try cases h
     rename_i h'
     exact miss _ h' rfl

theorem run_buildSlice {T:Nat} {t:Ty} {nb e:Nat} {i:TypeInfo} {z:Value} (hs:SlT P tab T t nb e i z) (n:Nat) (hn:n*t.width≤16777216) (parts:Array (Nat × Value)) (cells:Array Value)
  (h:Instr.fill (fun j=>some (j*t.width,t.width)) (madeCells (if n*t.width=0 then #[] else z.cells) (n*t.width)) parts.toList=some cells) :
  (Instr.buildSlice T n parts).run P w=.ok (.slice (some (at0 w.heap.size 0)) n n) (w.alloc (.cells cells e)):=by
 have hn':¬ 2 ^ 24<n*t.width:=by omega
 by_cases hz:n*t.width=0
 ·simp only [hz,if_true] at h
  simp only [Instr.buildSlice,Sem.run_bind,run_underlying hs.und,Result.andThen_ok,run_sizeOf hs.info,hs.size]
  simp [hz,madeCells] at h ⊢
  simp [h,newRow,at0]
 ·simp only [hz,if_false] at h
  simp only [Instr.buildSlice,Sem.run_bind,run_underlying hs.und,Result.andThen_ok,run_sizeOf hs.info,hs.size]
  simp [hz,hn',run_zero hs.info hs.zero]
  simp only [madeCells] at h
  simp [h,newRow,at0]

theorem op_buildSlice {o:Oper} {a:Act} {T n base:Nat} {ti:TI} {t:Ty} {ps:Array (Nat × Operand)} {vs:List V} {l:List t.den} {ns:List Nat} {lm:Mem} (hT:TabOk P tab) (ho:o.op=.buildSlice T n ps) (ht:tyAt tab T=some ti) (hk:ti.isSlice t=true)
  (I:Inv tab μ mem w S) (hs:Sees lm mem) (hv:RelVs tab μ mem w S vs (ps.toList.map fun p=>a.eval p.2)) (he:elemsAt tab lm t n 0 (ps.toList.map (·.1)) vs=some (l,ns)) (hn:n*t.width≤16777216) (hm:vs.length=n∨t.noFn=true)
  (hb:mem base=none) (hne:base∉ns):Runs P o a w (After tab μ mem w S ((base,.arr t l)::deads ns) (.one (.own base))):=by
 obtain ⟨e,i,z,hsl⟩:=und_slice hT ht hk
 obtain ⟨zc,hz1,hz2,hz3⟩:∃ zc:List C,zc.length=t.width∧(vs.length=n∨zc=t.cells t.dflt)∧RelL (fun c y=>y.oneCell'=true∧(c=.undef∨RepC tab w (Froz μ mem S ns) c y)) zc z.cells.toList:=by
  by_cases hf:t.noFn=true
  ·refine ⟨t.cells t.dflt,cells_len _ _,.inr rfl,by simp [cells_len,hsl.zs],fun j c hj=>?_⟩
   obtain ⟨y,h1,h2,h3⟩:=hsl.zok hf j c hj
   exact ⟨y,h1,h2,.inr (h3 _ _)⟩
  ·refine ⟨List.replicate t.width .undef,by simp,.inl (hm.resolve_right hf),by simp [hsl.zs],fun j c hj=>?_⟩
   have hjw:j<t.width:=by have:=(List.getElem?_eq_some_iff.1 hj).1; simpa using this
   simp [hjw] at hj
   have hjz:j<z.cells.toList.length:=by simp [hsl.zs,hjw]
   exact ⟨z.cells.toList[j],List.getElem?_eq_getElem hjz,List.all_eq_true.1 hsl.zone _ (List.getElem_mem hjz),.inl hj.symm⟩
 obtain ⟨fs,g1,g2,g3,g4,g5⟩:=elems_place (lm:=lm) hz1 n 0 _ vs l ns he hz2 [] (by simp)
 simp only [List.nil_append] at g1
 have hrow:RelL (fun c y=>y.oneCell'=true∧(c=.undef∨RepC tab w (Froz μ mem S ns) c y)) (rep n zc) (madeCells (if n*t.width=0 then #[] else z.cells) (n*t.width)).toList:=by
  refine ⟨by simp [rep_len,hz1,size_madeCells],fun q c hq=>?_⟩
  have hql:q<n*t.width:=by have:=(List.getElem?_eq_some_iff.1 hq).1; rwa [rep_len,hz1] at this
  have hpos:=hsl.pos
  have hne:¬ n*t.width=0:=by omega
  have hqd:q=q / t.width*t.width+q % t.width:=by rw [Nat.mul_comm]; exact (Nat.div_add_mod q t.width).symm
  have hqm:q % t.width<t.width:=Nat.mod_lt _ hpos
  have hqn:q / t.width<n:=Nat.div_lt_of_lt_mul (by rw [Nat.mul_comm]; exact hql)
  have hc:zc[q % t.width]? = some c:=by
   have:=flat_get (f:=fun (_:Unit)=>zc) (wd:=t.width) (fun _=>hz1) (List.replicate n ()) (q / t.width) (q % t.width) (by simpa using hqn) hqm
   rw [← hqd] at this
   have hfl:(List.replicate n ()).flatMap (fun _=>zc)=rep n zc:=by
    unfold rep
    rw [List.flatMap_def,List.map_replicate]
   rw [hfl,hq] at this
   exact this.symm
  obtain ⟨y,h1,h2⟩:=hz3.2 _ c hc
  have hget:z.cells[q % t.width]? = some y:=by simpa using h1
  have hbang:z.cells[q % z.cells.size]! = y:=by rw [hsl.zs,getElem!_def,hget]
  exact ⟨y,by simp [madeCells,hne,hql,hbang],h2⟩
 obtain ⟨cells,f1,f2⟩:=fill_rel (place:=fun j=>some (j*t.width,t.width)) fs _ (ps.map fun p=>(p.1,a.eval p.2)).toList (rep n zc) _ _ hrow g1 (by simp:_=ps.toList.map (·.1)) (by
   have:=hv.len
   simp [g2,this]) (fun j f v hf' hv'=>by
  obtain ⟨ix,v',cs,ds,nk,q1,q2,rfl,q4,q5,q6,q7⟩:=g5 j f hf'
  obtain ⟨x,k1,k2⟩:=relVs_get hv j v' q2
  simp only [List.getElem?_map,Option.map_eq_some_iff] at q1 k1
  obtain ⟨p1,r1,r2⟩:=q1
  obtain ⟨p2,r3,r4⟩:=k1
  rw [r1] at r3; cases r3
  have hv2:v=(p1.1,a.eval p1.2):=by
   simp only [Array.toList_map,List.getElem?_map,r1,Option.map_some] at hv'
   exact (Option.some.inj hv').symm
  subst hv2
  obtain ⟨c1,c2⟩:=relV_cells (r4 ▸ k2) q5
  obtain ⟨_,d2,d3⟩:=toDats_rel I hs (fun i=>(a.eval p1.2).cells.toList[i]?) (fun i c hi=>by obtain ⟨y,y1,y2,y3⟩:=c2 i c hi; exact ⟨y,by simpa using y1,y2,y3⟩) q6
  refine ⟨by simp [r2,q4],by simp [c1,d2],fun i c hi=>?_⟩
  obtain ⟨y,y1,y2,y3⟩:=d3 i c hi
  exact ⟨y,y1,y2,.inr (y3.mono (fun b hb=>hb.imp id fun ⟨r,hr,h⟩=>⟨r,q7 r hr,h⟩) (fun _ _=>rfl))⟩)
 obtain ⟨E1,I1⟩:=kills_EI (ns:=ns) I
 have hb1:memU (deads ns) mem base=none:=by
  rcases memU_deads (mem:=mem) ns base with ⟨h1,_⟩ | ⟨_,h2⟩
  ·exact absurd h1 hne
  ·rw [h2]; exact hb
 have hl:(Loc.ar (.slice (some (at0 w.heap.size 0)) n n)).block=some w.heap.size∨(Loc.ar (.slice (some (at0 w.heap.size 0)) n n)).block=none:=.inl rfl
 have E2:=alloc_E (μ:=μ) (S:=Froz μ mem S ns) (w:=w) (o:=.cells cells e) (B:=.arr t l) hb1 hl
 have hsz:cells.size=n*t.width:=by
  have:=f2.1
  have h2:=placeAll_len g1
  rw [rep_len,hz1] at h2
  simp only [Array.length_toList] at this
  omega
 refine runs_of (s:=Instr.buildSlice T n (ps.map fun p=>(p.1,a.eval p.2))) (x:=.slice (some (at0 w.heap.size 0)) n n) (w':=w.alloc (.cells cells e)) (by simp only [execOp,ho]) (run_buildSlice hsl n hn _ cells f1)
  ⟨muU base (.ar (.slice (some (at0 w.heap.size 0)) n n)) μ,Froz μ mem S ns,?_,?_,?_⟩
 ·rw [memU_cons]; exact E1.trans E2
 ·rw [memU_cons]
  refine alloc_I hb1 hl I1 (.inr ⟨w.heap.size,n,cells,e,by rw [g4],heap_alloc_new w _,by omega,?_,by omega,fun q j c hq hj=>?_⟩)
  ·have hpos:=hsl.pos
   have:n*1≤n*t.width:=Nat.mul_le_mul_left n hpos
   unfold maxLen; omega
  ·have hjw:j<t.width:=by rw [← cells_len t (nth l q t.dflt)]; exact (List.getElem?_eq_some_iff.1 hj).1
   have hfl:=flat_get (f:=t.cells) (wd:=t.width) (fun a=>cells_len t a) l q j hq hjw
   rw [nth_get l q t.dflt hq] at hj
   rw [hj] at hfl
   obtain ⟨y,y1,y2,y3⟩:=f2.2 _ c hfl
   refine ⟨y,by simpa using y1,y2,(y3.resolve_left fun e=>?_).mono E2.sub (E2.keeps I1)⟩
   subst e
   have:=List.mem_of_getElem? hj
   revert this
   cases t<;>simp [Ty.cells]
 ·refine ⟨rfl,by rw [memU_cons,memU_eq]; exact (fun h=>by cases h),fun t' l' _=>muU_eq⟩
end
end Vm
end Go.Proofs.YtlbppjmekiemiacGreatDoor


/- The executor on data: what is read out of a slice; append. No condition. -/
namespace Go.Proofs.YtlbppjmekiemiacGreatDoor
namespace Vm
section
variable {P:Program} {tab:Tab} {μ μ':Mu} {mem mem':MemF} {w w':World} {S S':Nat→Prop}

def Cells (tab:Tab) (w:World) (S:Nat→Prop) (t:Ty) (l:List t.den) (ys:List Value):Prop :=
 ys.length=l.length*t.width∧(∀ u∈ys,u.oneCell'=true)∧∀ i j c,i<l.length→(t.cells (nth l i t.dflt))[j]? = some c→∃ y,ys[i*t.width+j]? = some y∧RepC tab w S c y

theorem Cells.mono {t:Ty} {l:List t.den} {ys:List Value} (h:Cells tab w S t l ys) (hs:∀ b,S b→S' b) (hh:∀ b,S b→w'.heap[b]? = w.heap[b]?):Cells tab w' S' t l ys :=
 ⟨h.1,h.2.1,fun i j c hi hj=>by obtain ⟨y,h1,h2⟩:=h.2.2 i j c hi hj; exact ⟨y,h1,h2.mono hs hh⟩⟩

theorem cells_of {t:Ty} {l:List t.den} (f:Nat→Value) (hpos:0<t.width) (h:∀ i j c,i<l.length→(t.cells (nth l i t.dflt))[j]? = some c→(f (i*t.width+j)).oneCell'=true∧RepC tab w S c (f (i*t.width+j))) :
  Cells tab w S t l ((List.range (l.length*t.width)).map f):=by
 have idx:∀ q,q<l.length*t.width→q / t.width<l.length∧q % t.width<t.width∧q / t.width*t.width+q % t.width=q:=fun q hq =>
  ⟨Nat.div_lt_of_lt_mul (by rw [Nat.mul_comm]; exact hq),Nat.mod_lt _ hpos,by rw [Nat.mul_comm]; exact Nat.div_add_mod q t.width⟩
 have cell:∀ i j,i<l.length→j<t.width→∃ c,(t.cells (nth l i t.dflt))[j]? = some c:=fun i j _ hj=>len_of_get (cells_len t _) j hj
 refine ⟨by simp,fun u hu=>?_,fun i j c hi hj=>?_⟩
 ·simp only [List.mem_map,List.mem_range] at hu
  obtain ⟨q,hq,rfl⟩:=hu
  obtain ⟨h1,h2,h3⟩:=idx q hq
  obtain ⟨c,hc⟩:=cell _ _ h1 h2
  have:=(h _ _ c h1 hc).1
  rwa [h3] at this
 ·have hjw:j<t.width:=by rw [← cells_len t (nth l i t.dflt)]; exact (List.getElem?_eq_some_iff.1 hj).1
  have hlt:i*t.width+j<l.length*t.width:=by
   have:(i+1)*t.width≤l.length*t.width:=Nat.mul_le_mul_right _ (by omega)
   rw [Nat.add_mul] at this; omega
  exact ⟨f (i*t.width+j),by simp [hlt],(h i j c hi hj).2⟩

theorem width_pos (t:Ty):0<t.width:=by cases t<;>simp [Ty.width]

theorem own_cells {t:Ty} {l:List t.den} {cap:Nat} {cur:Array Value} (hcap:l.length≤cap) (hsz:cap*t.width≤cur.size)
  (h:∀ i j c,i<l.length→(t.cells (nth l i t.dflt))[j]? = some c→∃ y,cur[i*t.width+j]? = some y∧y.oneCell'=true∧RepC tab w S c y) (lo hi:Nat) (h1:lo≤hi) (h2:hi≤l.length) :
  Cells tab w S t (slc l lo hi) ((cur.toList.drop (lo*t.width)).take ((hi-lo)*t.width)):=by
 have hlen:=slc_len' l lo hi h2
 have hm1:lo*t.width+(hi-lo)*t.width=hi*t.width:=by rw [← Nat.add_mul]; congr 1; omega
 have hm2:hi*t.width≤cap*t.width:=Nat.mul_le_mul_right _ (by omega)
 refine ⟨by simp [hlen]; omega,fun u hu=>?_,fun i j c hi' hj=>?_⟩
 ·obtain ⟨q,hq,rfl⟩:=List.getElem_of_mem hu
  simp at hq
  have hq1:q<(hi-lo)*t.width:=by omega
  have hpos:=width_pos t
  have e1:q / t.width<hi-lo:=Nat.div_lt_of_lt_mul (by rw [Nat.mul_comm]; exact hq1)
  have e2:q / t.width*t.width+q % t.width=q:=by rw [Nat.mul_comm]; exact Nat.div_add_mod q t.width
  obtain ⟨c,hc⟩:=len_of_get (cells_len t (nth l (lo+q / t.width) t.dflt)) (q % t.width) (Nat.mod_lt _ hpos)
  obtain ⟨y,y1,y2,_⟩:=h _ _ c (by omega) hc
  have:((cur.toList.drop (lo*t.width)).take ((hi-lo)*t.width))[q]? = some y:=by
   rw [List.getElem?_take_of_lt hq1,List.getElem?_drop,← y1,Nat.add_mul,Nat.add_assoc,e2]
   simp
  rw [List.getElem?_eq_getElem (by simp; omega)] at this
  rw [Option.some.inj this]
  exact y2
 ·have hjw:j<t.width:=by rw [← cells_len t (nth (slc l lo hi) i t.dflt)]; exact (List.getElem?_eq_some_iff.1 hj).1
  rw [slc_get' l lo hi i t.dflt (by omega)] at hj
  obtain ⟨y,y1,_,y3⟩:=h _ _ c (by omega) hj
  have hlt:i*t.width+j<(hi-lo)*t.width:=by
   have:(i+1)*t.width≤(hi-lo)*t.width:=Nat.mul_le_mul_right _ (by omega)
   rw [Nat.add_mul] at this; omega
  refine ⟨y,?_,y3⟩
  rw [List.getElem?_take_of_lt hlt,List.getElem?_drop,← y1,Nat.add_mul,Nat.add_assoc]
  simp

theorem readL_srcQ {lm:Mem} {c:C} {x:Value} {rd:RdL} (hs:Sees lm mem) (I:Inv tab μ mem w S) (hx:RelV tab μ mem w S (.one c) x) (h:readL lm c=some rd) (hp:under rd.pre True) :
  ∃ xa cap ys,x=.slice xa rd.l.length cap∧Cells tab w S rd.t rd.l ys∧∀ q,q≤rd.l.length→∀ k k',(Builtin.firstCells rd.t.width q (.slice xa k k')).run P w=.ok (ys.take (q*rd.t.width)).toArray w∧(Builtin.firstCells rd.t.width q (.slice xa k k')).run P w.drew=.ok (ys.take (q*rd.t.width)).toArray w.drew:=by
 have empty:∀ (xa:Option Addr) (cap:Nat) (t:Ty),∃ ys,Cells tab w S t ([]:List t.den) ys∧∀ q,q≤0→∀ k k',(Builtin.firstCells t.width q (.slice xa k k')).run P w=.ok (ys.take (q*t.width)).toArray w∧(Builtin.firstCells t.width q (.slice xa k k')).run P w.drew=.ok (ys.take (q*t.width)).toArray w.drew:=fun xa cap t=>by
  refine ⟨[],⟨by simp,fun u hu=>by simp at hu,fun i j c hi=>by simp at hi⟩,fun q hq k k'=>?_⟩
  have hq0:q=0:=by omega
  subst hq0
  cases xa<;>simp [Builtin.firstCells,loadCells,loadCellsFrom]
 have cellsRun:∀ (b off n:Nat) (wd:Nat) (ys:List Value),ys.length=n*wd→(∀ (j:Nat) v,ys[j]? = some v→w.cell? (at0 b (off+j))=some v)→∀ q,q≤n→(loadCells (at0 b off) (q*wd)).run P w=.ok (ys.take (q*wd)).toArray w∧(loadCells (at0 b off) (q*wd)).run P w.drew=.ok (ys.take (q*wd)).toArray w.drew:=fun b off n wd ys0 hn0 hc0 q hq=>by
  have hle:q*wd≤n*wd:=Nat.mul_le_mul_right _ hq
  have hc:∀ (j:Nat) v,(ys0.take (q*wd))[j]? = some v→w.cell? (at0 b (off+j))=some v:=fun j v hj=>by
   have hjl:j<q*wd:=by have:=(List.getElem?_eq_some_iff.1 hj).1; simp at this; omega
   rw [List.getElem?_take_of_lt hjl] at hj
   exact hc0 j v hj
  have hl:(ys0.take (q*wd)).length=q*wd:=by simp; omega
  generalize ys0.take (q*wd)=ys at hc hl ⊢
  rw [← hl]
  have hc':∀ (j:Nat) v,ys[j]? = some v→w.cell? ((at0 b off).add j)=some v:=fun j v hj=>by rw [at0,Addr.add_lit]; exact hc j v hj
  exact ⟨run_loadCells_list w _ ys hc',run_loadCells_list w.drew _ ys (fun j v hj=>by rw [World.cell?_drew]; exact hc' j v hj)⟩
 cases c with
 | dat t' d =>
  cases t' with
  | list t =>
   simp only [readL] at h; cases h
   simp only
   cases hx.2 with
   | empty t a cap =>
    obtain ⟨ys,h1,h2⟩:=empty a cap t
    exact ⟨a,cap,ys,rfl,h1,h2⟩
   | list t l b off cap cs hS hcap hc hr =>
    have hpos:=width_pos t
    let f:Nat→Value:=fun q=>cs (q / t.width) (q % t.width)
    have hf:∀ i j,j<t.width→f (i*t.width+j)=cs i j:=fun i j hj=>by
     simp only [f]
     rw [Nat.mul_comm,Nat.mul_add_div hpos,Nat.div_eq_of_lt hj,Nat.mul_add_mod,Nat.mod_eq_of_lt hj,Nat.add_zero]
    have hcells:Cells tab w S t d ((List.range ((d:List t.den).length*t.width)).map f):=cells_of f hpos fun i j c hi hj=>by
     have hjw:j<t.width:=by rw [← cells_len t (nth d i t.dflt)]; exact (List.getElem?_eq_some_iff.1 hj).1
     rw [hf i j hjw]
     exact ⟨(hr i j c hi hj).oneCell,hr i j c hi hj⟩
    refine ⟨_,cap,_,rfl,hcells,fun q hq k k'=>?_⟩
    have:=cellsRun b off (d:List t.den).length t.width ((List.range ((d:List t.den).length*t.width)).map f) (by simp) (fun j v hj=>by
     have hjl:j<(d:List t.den).length*t.width:=by have:=(List.getElem?_eq_some_iff.1 hj).1; simpa using this
     simp [hjl] at hj
     rw [← hj]
     have e1:j / t.width<(d:List t.den).length:=Nat.div_lt_of_lt_mul (by rw [Nat.mul_comm]; exact hjl)
     have e2:j / t.width*t.width+j % t.width=j:=by rw [Nat.mul_comm]; exact Nat.div_add_mod j t.width
     have:=hc (j / t.width) (j % t.width) e1 (Nat.mod_lt _ hpos)
     rw [Nat.add_assoc,e2] at this
     exact this) q hq
    exact this
  | _=>simp only [readL] at h; cases h
 | nil t =>
  simp only [readL] at h; cases h
  obtain ⟨_,ex⟩:=hx
  obtain ⟨ys,h1,h2⟩:=empty none 0 t
  exact ⟨none,0,ys,ex,h1,h2⟩
 | own r =>
  simp only [readL] at h
  split at h<;>try cases h
  rename_i t l hl
  simp only
  obtain ⟨_,_,hrel⟩:=own_arr hs I hl hx
  rcases hrel with ⟨ex,rfl⟩ | ⟨b,cap,cur,e,ex,hb,h3,h4,h5,h6⟩
  ·obtain ⟨ys,h1,h2⟩:=empty none 0 t
   exact ⟨none,0,ys,ex,h1,h2⟩
  ·have hcells:=own_cells h3 h5 h6 0 l.length (Nat.zero_le _) (Nat.le_refl _)
   have e0:slc l 0 l.length=l:=by simp [slc]
   rw [e0] at hcells
   refine ⟨_,cap,_,ex,hcells,fun q hq k k'=>?_⟩
   have hll:=hcells.1
   exact cellsRun b 0 l.length t.width _ hll (fun j v hj=>by
    have hjl:j<l.length*t.width:=by rw [← hll]; exact (List.getElem?_eq_some_iff.1 hj).1
    refine cell?_at hb ?_
    simp only [Nat.zero_mul,List.drop_zero,Nat.sub_zero] at hj
    rw [List.getElem?_take_of_lt hjl] at hj
    simpa using hj) q hq
 | view r off n =>
  simp only [readL] at h
  split at h<;>try cases h
  rename_i t l hl
  simp only at hp ⊢
  have hle:off+n≤l.length:=hp.1
  obtain ⟨_,y,_,⟨a0,m0,cap0,a1,cap1,g1,g2,g3,g4,g5,g6⟩,hrel⟩:=view_arr hs I hl hx
  have hlen:=slc_len l off n hle
  by_cases hn:n=0
  ·have he:slc l off (off+n)=[]:=List.eq_nil_of_length_eq_zero (by omega)
   rw [he]
   subst hn
   obtain ⟨ys,h1,h2⟩:=empty a1 cap1 t
   exact ⟨a1,cap1,ys,g2,h1,h2⟩
  ·rcases hrel with ⟨_,rfl⟩ | ⟨b,cap,cur,e,ey,hb,h3,h4,h5,h6⟩
   ·simp at hle; omega
   ·rw [ey] at g1; cases g1
    have ha:=g4 (by omega)
    subst ha
    have hcells:=own_cells h3 h5 h6 off (off+n) (by omega) hle
    have hll:=hcells.1
    rw [hlen]
    refine ⟨_,cap1,_,g2,hcells,fun q hq k k'=>?_⟩
    rw [hlen] at hll
    have:=cellsRun b (0+off*t.width) n t.width _ hll (fun j v hj=>by
     have hjl:j<n*t.width:=by rw [← hll]; exact (List.getElem?_eq_some_iff.1 hj).1
     refine cell?_at hb ?_
     rw [List.getElem?_take_of_lt (by rw [show off+n-off=n by omega]; exact hjl),List.getElem?_drop] at hj
     simpa using hj) q hq
    simpa [Builtin.firstCells,at0] using this
 | _=>simp only [readL] at h; cases h

theorem readL_src {lm:Mem} {c:C} {x:Value} {rd:RdL} (hs:Sees lm mem) (I:Inv tab μ mem w S) (hx:RelV tab μ mem w S (.one c) x) (h:readL lm c=some rd) (hp:under rd.pre True) :
  ∃ xa cap ys,x=.slice xa rd.l.length cap∧Cells tab w S rd.t rd.l ys∧∀ k k',(Builtin.firstCells rd.t.width rd.l.length (.slice xa k k')).run P w=.ok ys.toArray w∧(Builtin.firstCells rd.t.width rd.l.length (.slice xa k k')).run P w.drew=.ok ys.toArray w.drew:=by
 obtain ⟨xa,cap,ys,h1,h2,h3⟩:=readL_srcQ (P:=P) hs I hx h hp
 refine ⟨xa,cap,ys,h1,h2,fun k k'=>?_⟩
 have:=h3 rd.l.length (Nat.le_refl _) k k'
 rwa [List.take_of_length_le (by rw [h2.1]; exact Nat.le_refl _)] at this
end
end Vm
end Go.Proofs.YtlbppjmekiemiacGreatDoor


/- The executor on data: append. No condition. -/
namespace Go.Proofs.YtlbppjmekiemiacGreatDoor
namespace Vm
section
variable {P:Program} {tab:Tab} {μ μ':Mu} {mem mem':MemF} {w w':World} {S S':Nat→Prop}

theorem run_append_fit {T U e e2 wd:Nat} {ty:TypeId} {i:TypeInfo} (hT:P.underlying T=some (.slice e)) (hU:P.underlying U=some (.slice e2)) (hi:P.info? e=some i) (hsz:i.size=wd) (base:Option Addr) (k cap m:Nat) (xa:Option Addr) (xc:Nat)
  (ys:List Value) (hf:(Builtin.firstCells wd m (.slice xa m xc)).run P w=.ok ys.toArray w) (hroom:k+m≤cap) (hst:match base with | some a=>(storeCells (a.add (k*wd)) ys).run P w=.ok () w' | none=>w'=w) :
  (Builtin.append_ #[T,U] ty #[.slice base k cap,.slice xa m xc]).run P w=.ok (.slice base (k+m) cap) w':=by
 subst hsz
 cases base with
 | none =>
  simp only at hst
  subst hst
  simp [Builtin.append_,run_underlying hT,run_underlying hU,sizeOf,typeInfo,hi,Builtin.lenOf,hroom,hf]
 | some a =>
  simp only at hst
  simp [Builtin.append_,run_underlying hT,run_underlying hU,sizeOf,typeInfo,hi,Builtin.lenOf,hroom,hf,hst]

theorem run_append_new {T U e e2 wd:Nat} {ty:TypeId} {i:TypeInfo} {z:Value} (hT:P.underlying T=some (.slice e)) (hU:P.underlying U=some (.slice e2)) (hi:P.info? e=some i) (hz:i.zero=some z) (hsz:i.size=wd) (base:Option Addr) (k cap m:Nat) (xa:Option Addr) (xc:Nat)
  (olds ys:List Value) (ho:(Builtin.firstCells wd k (.slice base k cap)).run P w.drew=.ok olds.toArray w.drew) (hf:(Builtin.firstCells wd m (.slice xa m xc)).run P w.drew=.ok ys.toArray w.drew) (hroom:¬ k+m≤cap)
  (hbytes:(k+m)*i.bytes≤140737488355328) (hpos:0<i.bytes) :
  (Builtin.append_ #[T,U] ty #[.slice base k cap,.slice xa m xc]).run P w=.ok (.slice (some (at0 w.heap.size 0)) (k+m) (grownCap w (k+m) cap e))
   (w.drew.alloc (.cells (olds.toArray++ys.toArray++Builtin.zeroCells z.cells (grownCap w (k+m) cap e-(k+m))) e)):=by
 subst hsz
 have h63:k+m≤140737488355328:=Nat.le_trans (Nat.le_mul_of_pos_right _ hpos) hbytes
 have h63':¬ (9223372036854775807<((k:Int)+(m:Int))):=by omega
 have hfit:=growslice_fits (bytes:=i.bytes) (show cap<k+m by omega) hbytes
 have h48':¬ (281474976710656<Builtin.nextslicecap (k+m) cap*i.bytes):=by omega
 simp [Builtin.append_,run_underlying hT,run_underlying hU,sizeOf,typeInfo,zeroValue,hi,hz,Builtin.lenOf,hroom,h63',h48',Question.forced,ho,hf,newRow,grownCap,at0]
 congr 2
 apply Array.ext'
 simp [List.append_assoc]

theorem name_EI {r:Nat} {t:Ty} (I:Inv tab μ mem w S) (hr:mem r=none) :
  Ext μ mem w S (muU r (.ar (.slice none 0 0)) μ) (memU [(r,.arr t [])] mem) w S∧Inv tab (muU r (.ar (.slice none 0 0)) μ) (memU [(r,.arr t [])] mem) w S:=by
 have E:Ext μ mem w S (muU r (.ar (.slice none 0 0)) μ) (memU [(r,.arr t [])] mem) w S:=by
  refine ⟨fun q hq=>?_,fun q B1 B2 h1 h2=>?_,fun _ h=>h,Nat.le_refl _,fun _ _ _=>rfl,fun _ h=>.inl h,fun b hb=>?_,rfl,rfl,rfl⟩
  ·by_cases e:q=r
   ·subst e; exact absurd hr hq
   ·rw [memU_ne e]; exact hq
  ·by_cases e:q=r
   ·subst e; rw [hr] at h1; cases h1
   ·rw [memU_ne e,h1] at h2; cases h2
    exact ⟨SameKind.refl _,fun _=>muU_ne e⟩
  ·obtain ⟨q,l',h1,h2,h3⟩:=hb
   by_cases e:q=r
   ·subst e; rw [muU_eq] at h2; cases h2; cases h3
   ·rw [muU_ne e] at h2
    exact .inl ⟨q,l',(live_ne e).1 h1,h2,h3⟩
 refine ⟨E,fun q B' hB' ha=>?_,fun q q' hqq h1 h2 l1 l2 b e1 e2 hb hb'=>?_,fun q h1 l1 b e1 hb hS=>?_,I.lt,I.pow⟩
 ·by_cases e:q=r
  ·subst e
   rw [memU_eq] at hB'; cases hB'
   exact ⟨_,muU_eq,.inl ⟨rfl,rfl⟩⟩
  ·rw [memU_ne e] at hB'
   obtain ⟨l',e1,e2⟩:=I.rel q B' hB' ha
   exact ⟨l',(muU_ne e).trans e1,e2.ext E I fun _ _=>rfl⟩
 ·by_cases e:q=r
  ·subst e; rw [muU_eq] at e1; cases e1; cases hb
  ·by_cases e':q'=r
   ·subst e'; rw [muU_eq] at e2; cases e2; cases hb'
   ·rw [muU_ne e] at e1; rw [muU_ne e'] at e2
    exact I.inj q q' hqq ((live_ne e).1 h1) ((live_ne e').1 h2) l1 l2 b e1 e2 hb hb'
 ·by_cases e:q=r
  ·subst e; rw [muU_eq] at e1; cases e1; cases hb
  ·rw [muU_ne e] at e1
   exact I.sep q ((live_ne e).1 h1) l1 b e1 hb hS

theorem Cells.append {t:Ty} {l m:List t.den} {xs ys:List Value} (h1:Cells tab w S t l xs) (h2:Cells tab w S t m ys):Cells tab w S t (cat l m) (xs++ys):=by
 refine ⟨by simp [cat,h1.1,h2.1,Nat.add_mul],fun u hu=>?_,fun i j c hi hj=>?_⟩
 ·simp only [List.mem_append] at hu
  exact hu.elim (h1.2.1 u) (h2.2.1 u)
 ·have hjw:j<t.width:=by rw [← cells_len t (nth (cat l m) i t.dflt)]; exact (List.getElem?_eq_some_iff.1 hj).1
  by_cases hil:i<l.length
  ·have e:nth (cat l m) i t.dflt=nth l i t.dflt:=by simp [nth,cat,List.getD,List.getElem?_append_left hil]
   rw [e] at hj
   obtain ⟨y,y1,y2⟩:=h1.2.2 i j c hil hj
   have hlt:i*t.width+j<xs.length:=(List.getElem?_eq_some_iff.1 y1).1
   exact ⟨y,by rw [List.getElem?_append_left hlt]; exact y1,y2⟩
  ·have e:nth (cat l m) i t.dflt=nth m (i-l.length) t.dflt:=by simp [nth,cat,List.getD,List.getElem?_append_right (Nat.le_of_not_lt hil)]
   rw [e] at hj
   obtain ⟨y,y1,y2⟩:=h2.2.2 (i-l.length) j c (by simp [cat] at hi; omega) hj
   have hm:l.length*t.width+(i-l.length)*t.width=i*t.width:=by rw [← Nat.add_mul]; congr 1; omega
   refine ⟨y,?_,y2⟩
   rw [List.getElem?_append_right (by rw [h1.1]; omega),h1.1,← y1]
   congr 1; omega

theorem arr_of_cells {t:Ty} {l:List t.den} {xs:List Value} {b cap:Nat} {cur:Array Value} {e:TypeId} (h:Cells tab w S t l xs) (hb:w.heap[b]? = some (.cells cur e (0,0))) (h1:l.length≤cap) (h2:cap≤maxLen) (h3:cap*t.width≤cur.size)
  (h4:∀ q,q<xs.length→cur[q]? = xs[q]?):BlkRel tab μ mem w S (.arr t l) (.ar (.slice (some (at0 b 0)) l.length cap)):=by
 refine .inr ⟨b,cap,cur,e,rfl,hb,h1,h2,h3,fun i j c hi hj=>?_⟩
 obtain ⟨y,y1,y2⟩:=h.2.2 i j c hi hj
 have hlt:i*t.width+j<xs.length:=(List.getElem?_eq_some_iff.1 y1).1
 exact ⟨y,by rw [h4 _ hlt]; exact y1,y2.oneCell,y2⟩

theorem put_nth {α:Type} (l m:List α) (off i:Nat) (d:α) (h:off+m.length≤l.length) (hi:i<l.length):nth (put l off m) i d=if off≤i∧i<off+m.length then nth m (i-off) d else nth l i d:=by
 simp only [nth,List.getD_eq_getElem?_getD,put]
 congr 1
 by_cases c1:i<off
 ·rw [if_neg (by omega),List.append_assoc,List.getElem?_append_left (by simp; omega),List.getElem?_take_of_lt c1]
 ·by_cases c2:i<off+m.length
  ·rw [if_pos ⟨by omega,c2⟩,List.append_assoc,List.getElem?_append_right (by simp; omega),List.getElem?_append_left (by simp; omega),show i-(l.take off).length=i-off by simp; omega]
  ·rw [if_neg (by omega),List.getElem?_append_right (by simp; omega),List.getElem?_drop,show off+m.length+(i-(l.take off++m).length)=i by simp; omega]

theorem put_length {α:Type} (l m:List α) (off:Nat) (h:off+m.length≤l.length):(put l off m).length=l.length:=by simp [put]; omega

theorem over_arr {r b off cap:Nat} {t:Ty} {l k:List t.den} {cur:Array Value} {e:TypeId} {ys:List Value} (hmr:mem r=some (.arr t l)) (hμ:μ r=some (.ar (.slice (some (at0 b 0)) l.length cap))) (hb:w.heap[b]? = some (.cells cur e (0,0)))
  (h1:l.length≤cap) (h2:cap≤maxLen) (h3:cap*t.width≤cur.size) (h4:∀ i j c,i<l.length→(t.cells (nth l i t.dflt))[j]? = some c→∃ y,cur[i*t.width+j]? = some y∧y.oneCell'=true∧RepC tab w S c y)
  (hk:Cells tab w S t k ys) (hle:off+k.length≤l.length) (I:Inv tab μ mem w S) :
  ∃ w',(storeCells (at0 b (off*t.width)) ys).run P w=.ok () w'∧Ext μ mem w S μ (memU [(r,.arr t (put l off k))] mem) w' S∧Inv tab μ (memU [(r,.arr t (put l off k))] mem) w' S:=by
 have hfit:off*t.width+ys.length≤cur.size:=by
  rw [hk.1,← Nat.add_mul]
  exact Nat.le_trans (Nat.mul_le_mul_right _ (by omega)) h3
 have hst:=run_storeCells_at P b (off*t.width) e ys 0 cur w hb (by simpa using hfit) hk.2.1
 simp only [Nat.add_zero] at hst
 generalize hcur:(cur.toList.take (off*t.width)++ys++cur.toList.drop (off*t.width+ys.length)).toArray=cur' at hst
 obtain ⟨q1,q2,q3,q4⟩:=setRow_facts (w:=w) b cur'
 have hother:∀ k,k≠b→(w.setRow b cur').heap[k]? = w.heap[k]?:=fun k hk=>setRow_other w b k cur' hk
 have E:=write_E (S:=S) (B':=.arr t (put l off k)) hmr trivial hμ (b:=b) rfl rfl q1 hother q2 q3 q4
 have hpl:=put_length l k off hle
 have hsz:cur'.size=cur.size:=by subst hcur; simp; omega
 refine ⟨_,hst,E,write_I hmr trivial hμ rfl q1 hother E I (.inr ⟨b,cap,cur',e,by rw [hpl],setRow_heap w b cur cur' e (0,0) hb,by rw [hpl]; exact h1,h2,by rw [hsz]; exact h3,fun i j c hi hc=>?_⟩)⟩
 rw [hpl] at hi
 have hjw:j<t.width:=by rw [← cells_len t (nth (put l off k) i t.dflt)]; exact (List.getElem?_eq_some_iff.1 hc).1
 rw [put_nth l k off i t.dflt hle hi] at hc
 have mono:∀ {c'':C} {u:Value},RepC tab w S c'' u→RepC tab (w.setRow b cur') S c'' u:=fun h=>h.mono (fun _ h=>h) (E.keeps I)
 have hget:∀ q:Nat,cur'[q]? = (cur.toList.take (off*t.width)++ys++cur.toList.drop (off*t.width+ys.length))[q]?:=fun q=>by subst hcur; simp
 rw [hget]
 have hyl:=hk.1
 by_cases hin:off≤i∧i<off+k.length
 ·rw [if_pos hin] at hc
  obtain ⟨y,g1,g2⟩:=hk.2.2 (i-off) j c (by omega) hc
  have hrep:(i-off)*t.width+j<ys.length:=(List.getElem?_eq_some_iff.1 g1).1
  have e1:off*t.width+((i-off)*t.width+j)=i*t.width+j:=by
   rw [← Nat.add_assoc,← Nat.add_mul]; congr 2; omega
  refine ⟨y,?_,hk.2.1 y (List.mem_of_getElem? g1),mono g2⟩
  have hoff:off*t.width≤cur.size:=by omega
  rw [← e1,List.append_assoc,List.getElem?_append_right (by simp; omega),List.getElem?_append_left (by simp; omega)]
  rw [← g1]; congr 1; simp; omega
 ·rw [if_neg hin] at hc
  obtain ⟨y,g1,g2,g3⟩:=h4 i j c hi hc
  refine ⟨y,?_,g2,mono g3⟩
  have hlt:i*t.width+j<cur.size:=(Array.getElem?_eq_some_iff.1 g1).1
  by_cases c1:i<off
  ·have:(i+1)*t.width≤off*t.width:=Nat.mul_le_mul_right _ (by omega)
   rw [Nat.add_mul] at this
   rw [List.append_assoc,List.getElem?_append_left (by simp; omega),List.getElem?_take_of_lt (by omega)]
   simpa using g1
  ·have:(off+k.length)*t.width≤i*t.width:=Nat.mul_le_mul_right _ (by omega)
   rw [Nat.add_mul] at this
   rw [List.getElem?_append_right (by simp; omega),List.getElem?_drop]
   have e1:off*t.width+ys.length+(i*t.width+j-(cur.toList.take (off*t.width)++ys).length)=i*t.width+j:=by simp; omega
   rw [e1]
   simpa using g1

theorem op_append {o:Oper} {a:Act} {s x:Operand} {T U base:Nat} {ti tj:TI} {c d:C} {lm:Mem} {p:Option Prop} {v:V} {m:Mem} {u:Ty} (hT:TabOk P tab) (ho:o.op=.call { callee:=.builtin .append,args:=#[s,x],argTypes:=#[T,U] })
  (ht:tyAt tab T=some ti) (hu:tyAt tab U=some tj) (hju:tj.elem=some u) (I:Inv tab μ mem w S) (hs:Sees lm mem) (hb:mem base=none)
  (hS:RelV tab μ mem w S (.one c) (a.eval s)) (hX:RelV tab μ mem w S (.one d) (a.eval x)) (h:appendX ti base ti.bytes lm c d=some (p,v,m)) (hp:under p True) :
  Runs P o a w (After tab μ mem w S m v):=by
 unfold appendX at h
 split at h<;>try cases h
 rename_i pr t rl hrd
 split at h<;>try cases h
 rename_i hk
 obtain ⟨e,i,z,hsl⟩:=und_slice hT ht hk
 have hU:∃ e2,P.underlying U=some (.slice e2):=by
  have hkind:=(hT.ok U tj hu).kind
  unfold TI.elem at hju
  cases hkd:tj.kd with
  | slice t' e'=>rw [hkd] at hkind; exact ⟨e',hkind.1⟩
  | _=>rw [hkd] at hju; cases hju
 obtain ⟨e2,hU⟩:=hU
 have wpos:=width_pos t
 have main:∀ (l0:List t.den) (ad:Option Addr) (cap:Nat),a.eval s=.slice ad l0.length cap→under pr True→(l0.length+rl.length)*ti.bytes≤140737488355328 →
   ((ad=none∧l0=[]∧cap=0∧(m=[(base,.arr t (cat l0 rl))]∨∃ r l,mem r=some (.arr t l)∧μ r=some (.ar (.slice none 0 0))∧m=[(r,.dead),(base,.arr t (cat l0 rl))])) ∨
    (∃ r l b cap0 cur e',mem r=some (.arr t l)∧μ r=some (.ar (.slice (some (at0 b 0)) l.length cap0))∧m=[(r,.dead),(base,.arr t (cat l0 rl))]∧ad=some (at0 b 0)∧cap≤cap0∧l0.length≤cap∧cap0≤maxLen ∧
     w.heap[b]? = some (.cells cur e' (0,0))∧cap0*t.width≤cur.size∧Cells tab w S t l0 (cur.toList.take (l0.length*t.width)))) →
   v=.one (.own base)→Runs P o a w (After tab μ mem w S m v):=by
  intro l0 ad cap es hpr hby hcase hv
  subst hv
  obtain ⟨xa,xc,ys,ex,hcells,hrun⟩:=readL_src (P:=P) hs I hX hrd hpr
  simp only at ex hcells hrun
  have fin:∀ (v':Value) (w':World),(Builtin.append_ #[T,U] o.type #[.slice ad l0.length cap,.slice xa rl.length xc]).run P w=.ok v' w'→After tab μ mem w S m (.one (.own base)) v' w'→Runs P o a w (After tab μ mem w S m (.one (.own base))):=fun v' w' hr ha =>
   runs_val (x:=v') (w':=w') (by simp [execOp,ho,resolve,invoke,builtin,es,ex,hr]) ha
  have bound:l0.length+rl.length≤140737488355328:=Nat.le_trans (Nat.le_mul_of_pos_right _ hsl.bpos) hby
  by_cases hroom:l0.length+rl.length≤cap
  ·rcases hcase with ⟨rfl,rfl,rfl,hm⟩ | ⟨r,l,b,cap0,cur,e',hmr,hμ,rfl,rfl,hc0,hlc,hcm,hbk,hsz,hold⟩
   ·-- nothing goes to nothing
    have hrl:rl=[]:=List.eq_nil_of_length_eq_zero (by simpa using hroom)
    subst hrl
    have hr:=run_append_fit (P:=P) (w:=w) (ty:=o.type) hsl.und hU hsl.info hsl.size none 0 0 0 xa xc ys (hrun 0 xc).1 (by omega) rfl
    rcases hm with rfl | ⟨r,l,hmr,hμ,rfl⟩
    ·obtain ⟨E,I'⟩:=name_EI (t:=t) I hb
     exact fin _ _ hr ⟨_,S,E,I',rfl,by rw [memU_eq]; exact (fun h=>by cases h),fun _ _ _=>muU_eq⟩
    ·obtain ⟨E,hI⟩:=pass_EI (B':=.arr t (cat [] [])) (l':=.ar (.slice none 0 0)) (w':=w) hmr trivial hb hμ rfl rfl (fun _ _=>rfl) rfl rfl rfl I
     refine fin _ _ hr ⟨_,S,E,hI (.inl ⟨rfl,rfl⟩),rfl,?_,fun _ _ _=>muU_eq⟩
     have hne:base≠r:=fun e=>by subst e; rw [hmr] at hb; cases hb
     rw [memU_cons,memU_ne hne,memU_eq]; exact (fun h=>by cases h)
   ·-- it fits
    have hfit:l0.length*t.width+ys.length≤cur.size:=by
     rw [hcells.1,← Nat.add_mul]
     exact Nat.le_trans (Nat.mul_le_mul_right _ (by omega)) hsz
    have hst:=run_storeCells_at P b (l0.length*t.width) e' ys 0 cur w hbk (by simpa using hfit) hcells.2.1
    simp only [Nat.add_zero] at hst
    generalize hcur:(cur.toList.take (l0.length*t.width)++ys++cur.toList.drop (l0.length*t.width+ys.length)).toArray=cur' at hst
    obtain ⟨q1,q2,q3,q4⟩:=setRow_facts (w:=w) b cur'
    have hr:=run_append_fit (P:=P) (w:=w) (w':=w.setRow b cur') (ty:=o.type) hsl.und hU hsl.info hsl.size (some (at0 b 0)) l0.length cap rl.length xa xc ys (hrun _ xc).1 hroom (by simpa [at0,Addr.add_lit] using hst)
    obtain ⟨E,hI⟩:=pass_EI (B':=.arr t (cat l0 rl)) (l':=.ar (.slice (some (at0 b 0)) (l0.length+rl.length) cap)) (w':=w.setRow b cur') hmr trivial hb hμ rfl q1 (fun k hk=>setRow_other w b k cur' (fun e=>hk (by rw [e]; rfl))) q2 q3 q4 I
    have hne:base≠r:=fun e=>by subst e; rw [hmr] at hb; cases hb
    refine fin _ _ hr ⟨_,S,E,hI ?_,rfl,?_,fun _ _ _=>muU_eq⟩
    ·have hc:=(hold.append hcells).mono (S':=S) (w':=w.setRow b cur') E.sub (E.keeps I)
     have e3:(cat l0 rl).length=l0.length+rl.length:=by simp [cat]
     rw [← e3]
     refine arr_of_cells hc (setRow_heap w b cur cur' e' (0,0) hbk) (by rw [e3]; exact hroom) (by omega) ?_ (fun q hq=>?_)
     ·have:cur'.size=cur.size:=by
       subst hcur
       have:=hold.1
       simp at this ⊢
       omega
      rw [this]
      exact Nat.le_trans (Nat.mul_le_mul_right _ hc0) hsz
     ·subst hcur
      rw [List.getElem?_toArray,List.getElem?_append_left hq]
    ·rw [memU_cons,memU_ne hne,memU_eq]; exact (fun h=>by cases h)
  ·-- a new array
   obtain ⟨olds,hold,hor⟩:∃ olds,Cells tab w S t l0 olds∧(Builtin.firstCells t.width l0.length (.slice ad l0.length cap)).run P w.drew=.ok olds.toArray w.drew:=by
    rcases hcase with ⟨rfl,rfl,rfl,_⟩ | ⟨r,l,b,cap0,cur,e',hmr,hμ,_,rfl,hc0,hlc,hcm,hbk,hsz,hold⟩
    ·exact ⟨[],⟨by simp,fun u hu=>by simp at hu,fun i j c hi=>by simp at hi⟩,by simp [Builtin.firstCells]⟩
    ·refine ⟨_,hold,?_⟩
     have:=run_loadCells_list (P:=P) w.drew (at0 b 0) (cur.toList.take (l0.length*t.width)) (fun j v hj=>by
      rw [World.cell?_drew,at0,Addr.add_lit,Nat.zero_add]
      refine cell?_at hbk ?_
      have hjl:j<l0.length*t.width:=by
       have:=(List.getElem?_eq_some_iff.1 hj).1
       simp at this; omega
      rw [List.getElem?_take_of_lt hjl] at hj
      simpa using hj)
     rw [hold.1] at this
     simpa [Builtin.firstCells] using this
   have hr:=run_append_new (P:=P) (w:=w) (ty:=o.type) hsl.und hU hsl.info hsl.zero hsl.size ad l0.length cap rl.length xa xc olds ys hor (hrun _ xc).2 hroom (by rw [hsl.bytes]; exact hby) (by rw [hsl.bytes]; exact hsl.bpos)
   generalize hcur:olds.toArray++ys.toArray++Builtin.zeroCells z.cells (grownCap w (l0.length+rl.length) cap e-(l0.length+rl.length))=cur' at hr
   have hge:=grownCap_ge w (l0.length+rl.length) cap e
   have hgm:=grownCap_le_maxLen w (l0.length+rl.length) cap e (by unfold maxLen; omega)
   generalize grownCap w (l0.length+rl.length) cap e=ncap at hr hge hgm hcur
   have e3:(cat l0 rl).length=l0.length+rl.length:=by simp [cat]
   have hcsz:cur'.size=ncap*t.width:=by
    subst hcur
    simp only [Array.size_append,List.size_toArray,size_zeroCells,hsl.zs,hold.1,hcells.1,← Nat.add_mul]
    congr 1; omega
   have hget:∀ q,q<(olds++ys).length→cur'[q]? = (olds++ys)[q]?:=fun q hq=>by
    subst hcur
    rw [Array.getElem?_append_left (by simpa using hq)]
    simp
   have done:∀ (S0:Nat→Prop) (mem0:MemF),Ext μ mem w S μ mem0 w S0→Inv tab μ mem0 w S0→mem0 base=none→memU m mem=memU [(base,.arr t (cat l0 rl))] mem0→Runs P o a w (After tab μ mem w S m (.one (.own base))):=fun S0 mem0 E0 I0 hb0 hmm=>by
    have hl:(Loc.ar (.slice (some (at0 w.heap.size 0)) (l0.length+rl.length) ncap)).block=some w.heap.size∨(Loc.ar (.slice (some (at0 w.heap.size 0)) (l0.length+rl.length) ncap)).block=none:=.inl rfl
    have hsame:(w.drew.alloc (.cells cur' e)).heap=(w.alloc (.cells cur' e)).heap:=rfl
    have Ed:Ext μ mem0 w S0 μ mem0 w.drew S0:=⟨fun _ h=>h,(Ext.refl (μ:=μ) (mem:=mem0) (w:=w) (S:=S0)).kinds,fun _ h=>h,Nat.le_refl _,fun _ _ _=>rfl,fun _ h=>.inl h,fun _ h=>.inl h,rfl,rfl,rfl⟩
    have Id:Inv tab μ mem0 w.drew S0:=⟨fun q B h1 h2=>by obtain ⟨l',e1,e2⟩:=I0.rel q B h1 h2; exact ⟨l',e1,e2.ext Ed I0 fun _ _=>rfl⟩,I0.inj,I0.sep,I0.lt,I0.pow.of_heap rfl⟩
    have E1:=alloc_E (μ:=μ) (S:=S0) (w:=w.drew) (o:=.cells cur' e) (B:=.arr t (cat l0 rl)) hb0 hl
    refine fin _ _ hr ⟨_,S0,by rw [hmm]; exact (E0.trans Ed).trans E1,by
     rw [hmm]
     refine alloc_I hb0 hl Id ?_
     have hc:=(((hold.append hcells).mono (S':=S0) (w':=w) E0.sub (E0.keeps I)).mono (S':=S0) (w':=w.drew) Ed.sub (Ed.keeps I0)).mono (S':=S0) (w':=w.drew.alloc (.cells cur' e)) E1.sub (E1.keeps Id)
     rw [← e3]
     exact arr_of_cells hc (heap_alloc_new w.drew _) (by rw [e3]; exact hge) hgm (by omega) hget,rfl,by rw [hmm,memU_eq]; exact (fun h=>by cases h),fun _ _ _=>muU_eq⟩
   have spent:∀ r l,mem r=some (.arr t l)→m=[(r,.dead),(base,.arr t (cat l0 rl))]→Runs P o a w (After tab μ mem w S m (.one (.own base))):=fun r l hmr hm=>by
    have hne:base≠r:=fun e=>by subst e; rw [hmr] at hb; cases hb
    obtain ⟨E0,I0⟩:=kill_EI I (r:=r) (by rw [hmr]; exact (fun h=>by cases h)) False
    refine done _ _ E0 I0 (by rw [memU_ne hne]; exact hb) ?_
    subst hm
    funext q
    by_cases c1:q=r
    ·subst c1
     rw [memU_cons,memU_eq,memU_ne (Ne.symm hne),memU_eq]
    ·by_cases c2:q=base
     ·subst c2
      rw [memU_cons,memU_ne c1,memU_eq,memU_eq]
     ·rw [memU_cons,memU_ne c1,memU_ne c2,memU_ne c2,memU_ne c1]
   rcases hcase with ⟨_,_,_,hm⟩ | ⟨r,l,b,cap0,cur,e',hmr,hμ,hm,_⟩
   ·rcases hm with hm | ⟨r,l,hmr,_,hm⟩
    ·exact done S mem Ext.refl I hb (by rw [hm])
    ·exact spent r l hmr hm
   ·exact spent r l hmr hm
 have both_iff:∀ {pr:Option Prop} {q:Prop},under (some (both pr q)) True→under pr True∧q:=fun {pr q} h=>by
  cases pr with
  | none=>exact ⟨trivial,h.1⟩
  | some p=>exact ⟨⟨h.1.1,trivial⟩,h.1.2⟩
 cases c with
 | nil t' =>
  simp only at h
  split at h<;>try cases h
  rename_i ht'
  subst ht'
  obtain ⟨h1,h2⟩:=both_iff hp
  obtain ⟨_,es⟩:=hS
  exact main [] none 0 es h1 (by simpa [len] using h2) (.inl ⟨rfl,rfl,rfl,.inl rfl⟩) rfl
 | own r =>
  simp only at h
  split at h<;>try cases h
  rename_i t' l hl
  split at h<;>try cases h
  rename_i ht'
  subst ht'
  obtain ⟨h1,h2⟩:=both_iff hp
  obtain ⟨hmr,hμ,hrel⟩:=own_arr hs I hl hS
  rcases hrel with ⟨es,rfl⟩ | ⟨b,cap,cur,e',es,hbk,g3,g4,g5,g6⟩
  ·exact main [] none 0 es h1 (by simpa [len] using h2) (.inl ⟨rfl,rfl,rfl,.inr ⟨r,[],hmr,by rw [hμ,es],rfl⟩⟩) rfl
  ·have hc:=own_cells g3 g5 g6 0 l.length (Nat.zero_le _) (Nat.le_refl _)
   have e0:slc l 0 l.length=l:=by simp [slc]
   rw [e0] at hc
   simp only [Nat.zero_mul,List.drop_zero,Nat.sub_zero] at hc
   exact main l _ cap es h1 (by simpa [len] using h2) (.inr ⟨r,l,b,cap,cur,e',hmr,by rw [hμ,es],rfl,rfl,Nat.le_refl _,g3,g4,hbk,g5,hc⟩) rfl
 | cut r n =>
  simp only at h
  split at h<;>try cases h
  rename_i t' l hl
  split at h<;>try cases h
  rename_i ht'
  subst ht'
  obtain ⟨h1,h2,h3⟩:=both_iff hp
  have hnl:n≤l.length:=h2
  have hlen:(slc l 0 n).length=n:=by rw [slc_len' l 0 n hnl]; omega
  have hm:=sees_arr hs hl
  obtain ⟨_,_,hx⟩:=hS
  obtain ⟨a0,m0,cap0,hμ,es⟩:=hx _ l hm
  obtain ⟨l',e1,hrel⟩:=I.rel r _ hm trivial
  rw [hμ] at e1; cases e1
  rcases hrel with ⟨ey,rfl⟩ | ⟨b,cap,cur,e',ey,hbk,g3,g4,g5,g6⟩
  ·cases ey
   have hn0:n=0:=by simpa using hnl
   subst hn0
   exact main [] none 0 (by simpa using es) h1 (by simpa [len] using h3) (.inl ⟨rfl,rfl,rfl,.inr ⟨r,[],hm,hμ,rfl⟩⟩) rfl
  ·cases ey
   have hc:=own_cells g3 g5 g6 0 n (Nat.zero_le _) hnl
   simp only [Nat.zero_mul,List.drop_zero,Nat.sub_zero] at hc
   exact main _ _ n (by rw [hlen]; exact es) h1 (by rw [hlen]; exact h3) (.inr ⟨r,l,b,_,cur,e',hm,hμ,rfl,rfl,by omega,by rw [hlen]; exact Nat.le_refl _,g4,hbk,g5,by rw [hlen]; exact hc⟩) rfl
 | view r off n =>
  cases off with
  | succ off=>simp only at h; cases h
  | zero =>
   simp only at h
   split at h<;>try cases h
   rename_i t' l hl
   split at h<;>try cases h
   rename_i ht'
   subst ht'
   obtain ⟨hmr,y,hμ,⟨a0,m0,cap0,a1,cap1,k1,k2,k3,k4,k5,k6,k7⟩,hrel⟩:=view_arr hs I hl hS
   have ha:=k3 rfl
   subst ha
   split at h<;>cases h
   ·-- a piece of the same array: in place
    obtain ⟨h1,h2⟩:=both_iff hp
    have h2:n+rl.length≤l.length:=h2
    obtain ⟨xa,xc,ys,ex,hcells,hrun⟩:=readL_src (P:=P) hs I hX hrd h1
    simp only at ex hcells hrun
    have hne:base≠r:=fun e=>by subst e; rw [hmr] at hb; cases hb
    have hmm:memU [(r,Blk.arr t (put l n rl)),(base,.arr t [])] mem=memU [(base,.arr t [])] (memU [(r,.arr t (put l n rl))] mem):=by
     funext q
     by_cases c1:q=r
     ·subst c1
      rw [memU_cons,memU_eq,memU_ne (Ne.symm hne),memU_eq]
     ·by_cases c2:q=base
      ·subst c2
       rw [memU_cons,memU_ne c1,memU_eq,memU_eq]
      ·rw [memU_cons,memU_ne c1,memU_ne c2,memU_ne c2,memU_ne c1]
    have fin:∀ (w':World),(Builtin.append_ #[T,U] o.type #[.slice a1 n cap1,.slice xa rl.length xc]).run P w=.ok (.slice a1 (n+rl.length) cap1) w' →
      Ext μ mem w S μ (memU [(r,.arr t (put l n rl))] mem) w' S→Inv tab μ (memU [(r,.arr t (put l n rl))] mem) w' S →
      Runs P o a w (After tab μ mem w S [(r,.arr t (put l n rl)),(base,.arr t [])] (.one (.view r 0 (n+rl.length)))):=fun w' hr E I'=>by
     have hb':memU [(r,Blk.arr t (put l n rl))] mem base=none:=by rw [memU_ne hne]; exact hb
     obtain ⟨E2,I2⟩:=name_EI (t:=t) I' hb'
     refine runs_val (x:=.slice a1 (n+rl.length) cap1) (w':=w') (by simp [execOp,ho,resolve,invoke,builtin,k2,ex,hr]) ⟨_,S,by rw [hmm]; exact E.trans E2,by rw [hmm]; exact I2,rfl,?_⟩
     have hget:memU [(r,Blk.arr t (put l n rl)),(base,.arr t [])] mem r=some (.arr t (put l n rl)):=by rw [memU_cons,memU_eq]
     refine ⟨by rw [hget]; exact (fun h=>by cases h),fun t' l' hl'=>?_⟩
     rw [hget] at hl'; cases hl'
     have hm0:m0=l.length:=by
      rcases hrel with ⟨ey,rfl⟩ | ⟨b,cap,cur,e',ey,_⟩
      ·rw [ey] at k1; cases k1; rfl
      ·rw [ey] at k1; cases k1; rfl
     subst hm0
     refine ⟨y,by rw [muU_ne (Ne.symm hne)]; exact hμ,a1,l.length,cap0,a1,cap1,k1,rfl,fun _=>rfl,fun hp=>?_,by omega,by omega,by omega⟩
     rcases hrel with ⟨ey,rfl⟩ | ⟨b,cap,cur,e',ey,_⟩
     ·rw [ey] at k1; cases k1; rfl
     ·rw [ey] at k1; cases k1; simp [at0]
    rcases hrel with ⟨ey,e0⟩ | ⟨b,cap,cur,e',ey,hbk,g3,g4,g5,g6⟩
    ·subst e0
     simp at h2
     obtain ⟨rfl,hr0⟩:=h2
     have hr0:rl=[]:=by simpa using hr0
     subst hr0
     rw [ey] at k1; cases k1
     have e1:memU [(r,Blk.arr t (put ([]:List t.den) 0 []))] mem=mem:=by
      funext q
      by_cases eq:q=r
      ·subst eq; rw [memU_eq,hmr]; rfl
      ·rw [memU_ne eq]
     refine fin w (run_append_fit (P:=P) (w:=w) (ty:=o.type) hsl.und hU hsl.info hsl.size none 0 cap1 0 xa xc ys (hrun 0 xc).1 (by omega) rfl) ?_ ?_
     ·rw [e1]; exact Ext.refl
     ·rw [e1]; exact I
    ·rw [ey] at k1; cases k1
     obtain ⟨w',q1,q2,q3⟩:=over_arr (P:=P) (off:=n) hmr (by rw [hμ,ey]) hbk g3 g4 g5 g6 hcells h2 I
     exact fin w' (run_append_fit (P:=P) (w:=w) (w':=w') (ty:=o.type) hsl.und hU hsl.info hsl.size (some (at0 b 0)) n cap1 rl.length xa xc ys (hrun _ xc).1 (by omega) (by simpa [at0,Addr.add_lit] using q1)) q2 q3
   ·obtain ⟨h1,h2,h3⟩:=both_iff hp
    have hnl:n≤l.length:=h2
    have hlen:(slc l 0 n).length=n:=by rw [slc_len' l 0 n hnl]; omega
    rcases hrel with ⟨ey,rfl⟩ | ⟨b,cap,cur,e',ey,hbk,g3,g4,g5,g6⟩
    ·have hn0:n=0:=by simpa using hnl
     subst hn0
     rw [ey] at k1; cases k1
     have hc0:cap1=0:=by omega
     subst hc0
     exact main [] none 0 (by simpa using k2) h1 (by simpa [len] using h3) (.inl ⟨rfl,rfl,rfl,.inr ⟨r,[],hmr,by rw [hμ,ey],rfl⟩⟩) rfl
    ·rw [ey] at k1; cases k1
     have hc:=own_cells g3 g5 g6 0 n (Nat.zero_le _) hnl
     simp only [Nat.zero_mul,List.drop_zero,Nat.sub_zero] at hc
     exact main _ _ cap1 (by rw [hlen]; exact k2) h1 (by rw [hlen]; exact h3) (.inr ⟨r,l,b,_,cur,e',hmr,by rw [hμ,ey],rfl,rfl,by omega,by rw [hlen]; exact k5,g4,hbk,g5,by rw [hlen]; exact hc⟩) rfl
 | _=>simp only at h; cases h
end
end Vm
end Go.Proofs.YtlbppjmekiemiacGreatDoor


/- The executor on data: copy, clear. No condition. -/
namespace Go.Proofs.YtlbppjmekiemiacGreatDoor
namespace Vm
section
variable {P:Program} {tab:Tab} {μ μ':Mu} {mem mem':MemF} {w w':World} {S S':Nat→Prop}

theorem run_copy_at {T e wd:Nat} {ts:Array TypeId} {ty:TypeId} {i:TypeInfo} (hts:ts[0]? = some T) (hT:P.underlying T=some (.slice e)) (hi:P.info? e=some i) (hsz:i.size=wd) (base:Option Addr) (dl dc:Nat) (xa:Option Addr) (m xc:Nat)
  (ys:List Value) (hf:(Builtin.firstCells wd (Nat.min m dl) (.slice xa m xc)).run P w=.ok ys.toArray w) (hst:match base with | some a=>(storeCells a ys).run P w=.ok () w' | none=>w'=w) :
  (Builtin.copy_ ts ty #[.slice base dl dc,.slice xa m xc]).run P w=.ok (.int .i64 ((Nat.min m dl:Nat):Int)) w':=by
 subst hsz
 cases base with
 | none =>
  simp only at hst
  subst hst
  simp [Builtin.copy_,hts,run_underlying hT,sizeOf,typeInfo,hi,Builtin.lenOf,hf,goInt]
 | some a =>
  simp only at hst
  simp [Builtin.copy_,hts,run_underlying hT,sizeOf,typeInfo,hi,Builtin.lenOf,hf,hst,goInt]

theorem Cells.take {t:Ty} {m:List t.den} {ys:List Value} (h:Cells tab w S t m ys) (q:Nat) (hq:q≤m.length):Cells tab w S t (slc m 0 q) (ys.take (q*t.width)):=by
 obtain ⟨h1,h2,h3⟩:=h
 have hl:=slc_len' m 0 q hq
 have hle:q*t.width≤m.length*t.width:=Nat.mul_le_mul_right _ hq
 refine ⟨by rw [hl]; simp; omega,fun u hu=>h2 u (List.mem_of_mem_take hu),fun i j c hi hc=>?_⟩
 rw [hl] at hi
 rw [slc_get' m 0 q i t.dflt (by omega),Nat.zero_add] at hc
 have hjw:j<t.width:=by rw [← cells_len t (nth m i t.dflt)]; exact (List.getElem?_eq_some_iff.1 hc).1
 obtain ⟨y,g1,g2⟩:=h3 i j c (by omega) hc
 have hlt:i*t.width+j<q*t.width:=by
  have:(i+1)*t.width≤q*t.width:=Nat.mul_le_mul_right _ (by omega)
  rw [Nat.add_mul] at this; omega
 exact ⟨y,by rw [List.getElem?_take_of_lt hlt]; exact g1,g2⟩

theorem slc_nil' {α:Type} (l:List α) (lo:Nat):slc l lo 0=[]:=by simp [slc]
theorem put_nil {α:Type} (l:List α) (off:Nat):put l off []=l:=by simp [put]

theorem op_copy {o:Oper} {a:Act} {s x:Operand} {T U:Nat} {ti:TI} {c d:C} {lm:Mem} {p:Option Prop} {v:V} {m:Mem} (hT:TabOk P tab) (ho:o.op=.call { callee:=.builtin .copy,args:=#[s,x],argTypes:=#[T,U] })
  (ht:tyAt tab T=some ti) (I:Inv tab μ mem w S) (hs:Sees lm mem)
  (hS:RelV tab μ mem w S (.one c) (a.eval s)) (hX:RelV tab μ mem w S (.one d) (a.eval x)) (h:copyX ti lm c d=some (p,v,m)) (hp:under p True) :
  Runs P o a w (After tab μ mem w S m v):=by
 unfold copyX at h
 split at h<;>try cases h
 rename_i pr t rl hrd
 split at h<;>try cases h
 rename_i hk
 obtain ⟨e,i,z,hsl⟩:=und_slice hT ht hk
 have main:∀ (r off n:Nat) (l:List t.den) (ad:Option Addr) (cap:Nat),a.eval s=.slice ad n cap→under pr True→mem r=some (.arr t l)→off+n≤l.length →
   ((min n rl.length=0)∨∃ b cap0 cur e',μ r=some (.ar (.slice (some (at0 b 0)) l.length cap0))∧ad=some (at0 b (off*t.width))∧l.length≤cap0∧cap0≤maxLen∧w.heap[b]? = some (.cells cur e' (0,0))∧cap0*t.width≤cur.size ∧
     ∀ i j c,i<l.length→(t.cells (nth l i t.dflt))[j]? = some c→∃ y,cur[i*t.width+j]? = some y∧y.oneCell'=true∧RepC tab w S c y) →
   Runs P o a w (After tab μ mem w S [(r,.arr t (put l off (slc rl 0 (min n rl.length))))] (.one (.dat .int ((min n rl.length:Nat):Int)))):=by
  intro r off n l ad cap es hpr hmr hle hcase
  obtain ⟨xa,xc,ys,ex,hcells,hrun⟩:=readL_srcQ (P:=P) hs I hX hrd hpr
  simp only at ex hcells hrun
  have hmin:Nat.min rl.length n=min n rl.length:=Nat.min_comm _ _
  have fin:∀ (w':World),(Builtin.copy_ #[T,U] o.type #[.slice ad n cap,.slice xa rl.length xc]).run P w=.ok (.int .i64 ((Nat.min rl.length n:Nat):Int)) w' →
    Ext μ mem w S μ (memU [(r,.arr t (put l off (slc rl 0 (min n rl.length))))] mem) w' S→Inv tab μ (memU [(r,.arr t (put l off (slc rl 0 (min n rl.length))))] mem) w' S →
    Runs P o a w (After tab μ mem w S [(r,.arr t (put l off (slc rl 0 (min n rl.length))))] (.one (.dat .int ((min n rl.length:Nat):Int)))):=fun w' hr E I' =>
   runs_val (x:=.int .i64 ((Nat.min rl.length n:Nat):Int)) (w':=w') (by simp [execOp,ho,resolve,invoke,builtin,es,ex,hr]) ⟨μ,S,E,I',by rw [hmin]; exact mk_int _⟩
  have hf:=(hrun (Nat.min rl.length n) (Nat.min_le_left _ _) rl.length xc).1
  by_cases hz:min n rl.length=0
  ·have e0:put l off (slc rl 0 (min n rl.length))=l:=by rw [hz,slc_nil',put_nil]
   have hmm:memU [(r,.arr t l)] mem=mem:=by
    funext q
    by_cases eq:q=r
    ·subst eq; rw [memU_eq,hmr]
    ·rw [memU_ne eq]
   refine fin w (run_copy_at (ts:=#[T,U]) rfl hsl.und hsl.info hsl.size ad n cap xa rl.length xc _ hf ?_) ?_ ?_
   ·have:ys.take (Nat.min rl.length n*t.width)=[]:=by rw [hmin,hz]; simp
    rw [this]
    cases ad with
    | none=>rfl
    | some ad=>simp [storeCells]
   ·rw [e0,hmm]; exact Ext.refl
   ·rw [e0,hmm]; exact I
  ·rcases hcase with hz' | ⟨b,cap0,cur,e',hμ,rfl,h1,h2,hb,h3,h4⟩
   ·exact absurd hz' hz
   ·have hk':(slc rl 0 (min n rl.length)).length=min n rl.length:=by rw [slc_len' _ _ _ (Nat.min_le_right _ _)]; omega
    have hc:=hcells.take (min n rl.length) (Nat.min_le_right _ _)
    obtain ⟨w',g1,g2,g3⟩:=over_arr (P:=P) (off:=off) hmr hμ hb h1 h2 h3 h4 hc (by rw [hk']; have:=Nat.min_le_left n rl.length; omega) I
    refine fin w' (run_copy_at (ts:=#[T,U]) rfl hsl.und hsl.info hsl.size _ n cap xa rl.length xc _ hf ?_) g2 g3
    rw [hmin]
    exact g1
 have both_iff:∀ {pr:Option Prop} {q:Prop},under (some (both pr q)) True→under pr True∧q:=fun {pr q} h=>by
  cases pr with
  | none=>exact ⟨trivial,h.1⟩
  | some p=>exact ⟨⟨h.1.1,trivial⟩,h.1.2⟩
 cases c with
 | own r =>
  simp only at h
  split at h<;>try cases h
  rename_i t' l hl
  split at h<;>try cases h
  rename_i ht'
  subst ht'
  obtain ⟨hmr,hμ,hrel⟩:=own_arr hs I hl hS
  rcases hrel with ⟨es,rfl⟩ | ⟨b,cap,cur,e',es,hbk,g3,g4,g5,g6⟩
  ·exact main r 0 0 [] none 0 es hp hmr (by simp) (.inl (by simp))
  ·refine main r 0 l.length l _ cap es hp hmr (by omega) (.inr ⟨b,cap,cur,e',by rw [hμ,es],by rw [Nat.zero_mul],g3,g4,hbk,g5,g6⟩)
 | view r off n =>
  simp only at h
  split at h<;>try cases h
  rename_i t' l hl
  split at h<;>try cases h
  rename_i ht'
  subst ht'
  obtain ⟨h1,h2⟩:=both_iff hp
  have hnl:off+n≤l.length:=h2
  obtain ⟨hmr,y,hμ,⟨a0,m0,cap0,a1,cap1,k1,k2,k3,k4,k5,k6⟩,hrel⟩:=view_arr hs I hl hS
  refine main r off n l a1 cap1 k2 h1 hmr hnl ?_
  by_cases hn:n=0
  ·exact .inl (by rw [hn]; simp)
  ·rcases hrel with ⟨ey,rfl⟩ | ⟨b,cap,cur,e',ey,hbk,g3,g4,g5,g6⟩
   ·simp at hnl; omega
   ·rw [ey] at k1; cases k1
    have ha:=k4 (by omega)
    subst ha
    exact .inr ⟨b,_,cur,e',by rw [hμ,ey],by simp [at0],g3,g4,hbk,g5,g6⟩
 | _=>simp only at h; cases h
end
end Vm
end Go.Proofs.YtlbppjmekiemiacGreatDoor


/- The executor on data: clear. No condition. -/
namespace Go.Proofs.YtlbppjmekiemiacGreatDoor
namespace Vm
section
variable {P:Program} {tab:Tab} {μ μ':Mu} {mem mem':MemF} {w w':World} {S S':Nat→Prop}

theorem zeros_cells {e:Nat} {i:TypeInfo} {z:Value} {T nb:Nat} {t:Ty} (hs:SlT P tab T t nb e i z) (hf:t.noFn=true) (n:Nat):Cells tab w S t (zeros n t.dflt) (Builtin.zeroCells z.cells n).toList:=by
 have hsz:(Builtin.zeroCells z.cells n).size=n*t.width:=by rw [size_zeroCells,hs.zs]
 have hget:∀ q,q<n*t.width→(Builtin.zeroCells z.cells n).toList[q]? = z.cells[q % t.width]?:=fun q hq=>by
  have hm:q % t.width<z.cells.size:=by rw [hs.zs]; exact Nat.mod_lt _ hs.pos
  have hg:=Array.getElem?_eq_getElem hm
  simp [Builtin.zeroCells,hs.zs,hq,getElem!_def,hg]
 refine ⟨by simp [zeros,hsz],fun u hu=>?_,fun q j c hq hj=>?_⟩
 ·obtain ⟨q,hq,rfl⟩:=List.getElem_of_mem hu
  have hq':q<n*t.width:=by rw [← hsz]; simpa using hq
  have h1:=hget q hq'
  rw [List.getElem?_eq_getElem hq] at h1
  have h2:(Builtin.zeroCells z.cells n).toList[q]∈z.cells.toList:=by
   have:=List.mem_of_getElem? (l:=z.cells.toList) (i:=q % t.width) (a:=(Builtin.zeroCells z.cells n).toList[q]) (by rw [h1]; simp)
   exact this
  exact List.all_eq_true.1 hs.zone _ h2
 ·have hqk:q<n:=by simpa [zeros] using hq
  have hn:nth (zeros n t.dflt) q t.dflt=t.dflt:=by simp [nth,zeros,List.getD,hqk]
  rw [hn] at hj
  obtain ⟨y,r1,r2,r3⟩:=hs.zok hf j c hj
  have hjw:j<t.width:=by rw [← cells_len t t.dflt]; exact (List.getElem?_eq_some_iff.1 hj).1
  have hlt:q*t.width+j<n*t.width:=by
   have:(q+1)*t.width≤n*t.width:=Nat.mul_le_mul_right _ (by omega)
   rw [Nat.add_mul] at this; omega
  refine ⟨y,?_,r3 _ _⟩
  rw [hget _ hlt,show (q*t.width+j) % t.width=j by rw [Nat.add_comm,Nat.add_mul_mod_self_right,Nat.mod_eq_of_lt hjw]]
  simpa using r1

theorem op_clear {o:Oper} {a:Act} {s:Operand} {T:Nat} {ti:TI} {c:C} {lm:Mem} {p:Option Prop} {v:V} {m:Mem} (hT:TabOk P tab) (ho:o.op=.call { callee:=.builtin .clear,args:=#[s],argTypes:=#[T] })
  (ht:tyAt tab T=some ti) (I:Inv tab μ mem w S) (hs:Sees lm mem) (hS:RelV tab μ mem w S (.one c) (a.eval s)) (h:clearX ti lm c=some (p,v,m)) (hp:under p True) :
  Runs P o a w (After tab μ mem w S m v):=by
 have rel0:∀ {μ':Mu} {mem':MemF} {w':World},RelV tab μ' mem' w' S (.tup []) (.tuple #[]):=⟨#[],rfl,rfl,fun i v hv=>by simp at hv⟩
 cases c with
 | own r =>
  simp only [clearX] at h
  split at h<;>try cases h
  rename_i t l hl
  split at h<;>try cases h
  rename_i hk hf
  obtain ⟨e,i,z,hsl⟩:=und_slice hT ht hk
  obtain ⟨hmr,hμ,hrel⟩:=own_arr hs I hl hS
  have hz:put l 0 (zeros (len l) t.dflt)=zeros (len l) t.dflt:=by simp [put,zeros,len]
  have hmm:l=[]→memU [(r,.arr t (zeros (len l) t.dflt))] mem=mem:=fun e=>by
   subst e
   funext q
   by_cases eq:q=r
   ·subst eq; rw [memU_eq,hmr]; rfl
   ·rw [memU_ne eq]
  rcases hrel with ⟨es,e0⟩ | ⟨b,cap,cur,e',es,hbk,g3,g4,g5,g6⟩
  ·refine runs_val (x:=.tuple #[]) (w':=w) (by simp [execOp,ho,resolve,invoke,builtin,es,Builtin.clear_,run_underlying hsl.und]) ?_
   exact ⟨μ,S,by rw [hmm e0]; exact Ext.refl,by rw [hmm e0]; exact I,rel0⟩
  ·by_cases hn:l.length=0
   ·refine runs_val (x:=.tuple #[]) (w':=w) (by simp [execOp,ho,resolve,invoke,builtin,es,hn,Builtin.clear_,run_underlying hsl.und]) ?_
    have e0:=hmm (List.length_eq_zero_iff.1 hn)
    exact ⟨μ,S,by rw [e0]; exact Ext.refl,by rw [e0]; exact I,rel0⟩
   ·have hc:=zeros_cells (w:=w) (S:=S) hsl hf l.length
    obtain ⟨w',q1,q2,q3⟩:=over_arr (P:=P) (off:=0) hmr (by rw [hμ,es]) hbk g3 g4 g5 g6 hc (by simp [zeros]) I
    rw [show put l 0 (zeros l.length t.dflt)=zeros (len l) t.dflt from hz] at q2 q3
    rw [Nat.zero_mul] at q1
    obtain ⟨k,hk'⟩:∃ k,l.length=k+1:=⟨l.length-1,by omega⟩
    have hzv:(zeroValue e).run P w=.ok z w:=by simp [zeroValue,typeInfo,hsl.info,hsl.zero]
    refine runs_val (x:=.tuple #[]) (w':=w') ?_ ⟨μ,S,q2,q3,rel0⟩
    rw [hk'] at q1 es
    simp [execOp,ho,resolve,invoke,builtin,es,Builtin.clear_,run_underlying hsl.und,hzv,q1]
 | nil t =>
  simp only [clearX] at h
  split at h<;>try cases h
  rename_i hk
  obtain ⟨e,i,z,hsl⟩:=und_slice hT ht hk
  have es:a.eval s=.slice none 0 0:=hS.2
  refine runs_val (x:=.tuple #[]) (w':=w) (by simp [execOp,ho,resolve,invoke,builtin,es,Builtin.clear_,run_underlying hsl.und]) (after_same I rel0)
 | view r off n =>
  simp only [clearX] at h
  split at h<;>try cases h
  rename_i t l hl
  split at h<;>try cases h
  rename_i hk hf
  have hle:off+n≤l.length:=hp.1
  obtain ⟨e,i,z,hsl⟩:=und_slice hT ht hk
  obtain ⟨hmr,y,hμ,⟨a0,m0,cap0,a1,cap1,k1,k2,k3,k4,k5,k6,k7⟩,hrel⟩:=view_arr hs I hl hS
  by_cases hn:n=0
  ·subst hn
   have e0:memU [(r,Blk.arr t (put l off (zeros 0 t.dflt)))] mem=mem:=by
    funext q
    by_cases eq:q=r
    ·subst eq; rw [memU_eq,hmr]; simp [put,zeros]
    ·rw [memU_ne eq]
   refine runs_val (x:=.tuple #[]) (w':=w) (by cases a1<;>simp [execOp,ho,resolve,invoke,builtin,k2,Builtin.clear_,run_underlying hsl.und]) ?_
   exact ⟨μ,S,by rw [e0]; exact Ext.refl,by rw [e0]; exact I,rel0⟩
  ·rcases hrel with ⟨ey,e0⟩ | ⟨b,cap,cur,e',ey,hbk,g3,g4,g5,g6⟩
   ·subst e0; simp at hle; omega
   ·rw [ey] at k1; cases k1
    have ha:=k4 (by omega)
    subst ha
    have hc:=zeros_cells (w:=w) (S:=S) hsl hf n
    obtain ⟨w',q1,q2,q3⟩:=over_arr (P:=P) (off:=off) hmr (by rw [hμ,ey]) hbk g3 g4 g5 g6 hc (by simpa [zeros] using hle) I
    obtain ⟨k,hk'⟩:∃ k,n=k+1:=⟨n-1,by omega⟩
    have hzv:(zeroValue e).run P w=.ok z w:=by simp [zeroValue,typeInfo,hsl.info,hsl.zero]
    refine runs_val (x:=.tuple #[]) (w':=w') ?_ ⟨μ,S,q2,q3,rel0⟩
    rw [hk'] at q1 k2
    simp only [Option.map_some,at0,Nat.zero_add] at k2 q1
    simp [execOp,ho,resolve,invoke,builtin,k2,Builtin.clear_,run_underlying hsl.und,hzv,q1]
 | _=>simp only [clearX] at h; cases h
end
end Vm
end Go.Proofs.YtlbppjmekiemiacGreatDoor

