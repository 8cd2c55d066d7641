/- The executor on data: part 4 of 4. No condition. -/
import Derived.Test.YtlbppjmekiemiacGreatDoorVmc
import Derived.Laws.StructEq
import Derived.ChangeKeysEq
import Derived.ChangeArms
import Derived.SizedLaws
import Derived.ProofKit
/- The executor on data: code, from a loop's head to the next. No condition. -/
namespace Go.Proofs.YtlbppjmekiemiacGreatDoor
namespace Vm

theorem forceL_eq {α:Type}:∀ (l:List Nat) (k:List Nat→α),forceL l k=k l
 | [],_=>rfl
 | 0::l,k=>by simp only [forceL]; exact forceL_eq l _
 | (m+1)::l,k=>by simp only [forceL]; exact forceL_eq l _

def LoopW (P:Program) (b:Code) (Q:Exit→Act→World→Prop) (a:Act) (w:World):Prop :=
 ∀ (fr:Frame) (k:List Item) (cs:List Frame),∃ e a' w',Q e a' w'∧Arrives P (lone (fr.at a (.code b::.inLoop b::k)) cs w) fr k cs e a' w'

section
variable {P:Program} {tab:Tab} {Γ:Ctx} {N k0:Nat} {a:Act} {w w':World} {Q:Exit→Act→World→Prop}

theorem loopW_round {b:Code} (h:b.wp P (Exit.then (LoopW P b Q) Q) a w):LoopW P b Q a w:=by
 intro fr k cs
 obtain ⟨e,a₁,w₁,hq,harr⟩:=h fr (.inLoop b::k) cs
 cases e with
 | normal =>
  obtain ⟨e₂,a₂,w₂,hq₂,harr₂⟩:=hq fr k cs
  exact ⟨e₂,a₂,w₂,hq₂,.of_steps (Steps.trans harr (.one step_inLoop)) harr₂⟩
 | exit id=>exact ⟨_,a₁,w₁,hq,.pass (x:=.inLoop b) rfl (fun _ _=>.inl (by simp)) harr⟩
 | goto l=>exact ⟨_,a₁,w₁,hq,.pass (x:=.inLoop b) rfl (fun _ _=>.inl (by simp)) harr⟩
 | ret=>exact ⟨_,a₁,w₁,hq,.pass (x:=.inLoop b) rfl (fun _ _=>.inl (by simp)) harr⟩
 | panic ch=>exact ⟨_,a₁,w₁,hq,.pass (x:=.inLoop b) rfl (fun _ _=>.inl (by simp)) harr⟩
 | outgrown=>exact ⟨_,a₁,w₁,hq,.pass (x:=.inLoop b) rfl (fun _ _=>.inl (by simp)) harr⟩

theorem loopW_wp {b:Code} (h:LoopW P b Q a w):(Code.loop b).wp P Q a w:=fun fr k cs =>
 let ⟨e,a',w',hq,harr⟩:=h fr k cs
 ⟨e,a',w',hq,.of_steps (.one step_loop) harr⟩

def kwp (P:Program) (Q:Exit→Act→World→Prop):List It→Exit→Act→World→Prop
 | []=>Q
 | .code c::k=>Exit.then (c.wp P (kwp P Q k)) (kwp P Q k)
 | .inBlock id::k=>Exit.inBlock id (kwp P Q k)
 | .inLoop _ b::k=>Exit.then (LoopW P b (kwp P Q k)) (kwp P Q k)

def boundC (N:Nat):Code→Bool
 | .skip | .exit _ | .ret=>true
 | .region _ ops _=>boundOps N ops.toList
 | .seq a b=>match boundC N a with | true=>boundC N b | false=>false
 | .cond _ a b=>match boundC N a with | true=>boundC N b | false=>false
 | .block _ b=>boundC N b
 | .loop b=>boundC N b
 | _=>false

def boundI (N:Nat):List It→Bool
 | []=>true
 | .code c::k=>match boundC N c with | true=>boundI N k | false=>false
 | .inBlock _::k=>boundI N k
 | .inLoop _ b::k=>match boundC N b with | true=>boundI N k | false=>false

def exOf:Ex→Exit
 | .normal=>.normal
 | .ret=>.ret
 | .exit id=>.exit id

variable {μ0:Mu} {mem0:MemF} {w0:World} {S0:Nat→Prop}

def Good (tab:Tab) (N:Nat) (μ0:Mu) (mem0:MemF) (w0:World) (S0:Nat→Prop) (st:St) (a:Act) (w:World):Prop :=
 ∃ μ S,StRel tab N st.env st.mem a w μ S∧Fresh st.base st.mem∧Ext μ0 mem0 w0 S0 μ (look st.mem) w S

def RegionOk (P:Program) (tab:Tab) (Γ:Ctx) (N:Nat) (μ0:Mu) (mem0:MemF) (w0:World) (S0:Nat→Prop):Prop :=
 ∀ (id:Nat) (ops:Array Oper) (draw:Bool) (K:Kont) (Q:Exit→Act→World→Prop) (st:St) (a:Act) (w:World),boundOps N ops.toList=true→execOps Γ tab draw ops.toList K ops.toList 0 [] st→Good tab N μ0 mem0 w0 S0 st a w →
  (∀ st' a' w',Good tab N μ0 mem0 w0 S0 st' a' w'→K st'→Q .normal a' w')→(Code.region id ops draw).wp P Q a w

def CanonOk (tab:Tab) (N k0:Nat) (μ0:Mu) (mem0:MemF) (w0:World) (S0:Nat→Prop):Prop :=
 ∀ (keys:List Nat) (st st':St) (a:Act) (w:World),canon k0 keys st=some st'→Good tab N μ0 mem0 w0 S0 st a w→Good tab N μ0 mem0 w0 S0 st' a w

theorem kwp_ret:∀ (k:List It),Q .ret a w→kwp P Q k .ret a w
 | [],h=>h
 | .code _::k,h=>kwp_ret k h
 | .inBlock _::k,h=>kwp_ret k h
 | .inLoop _ _::k,h=>kwp_ret k h

theorem seg_sound (hR:RegionOk P tab Γ N μ0 mem0 w0 S0) (hC:CanonOk tab N k0 μ0 mem0 w0 S0) {res:List Nat} {rec:List It→St→Prop} {fin:St→Prop}
  (hrec:∀ keys b k st a w,rec (.inLoop keys b::k) st→boundI N (.inLoop keys b::k)=true→Good tab N μ0 mem0 w0 S0 st a w→LoopW P b (kwp P Q k) a w)
  (hfin:∀ st a w,Good tab N μ0 mem0 w0 S0 st a w→fin st→Q .normal a w∧Q .ret a w):∀ (n:Nat) (todo:List It) (ex:Ex) (st:St) (a:Act) (w:World),
  seg Γ tab k0 res rec fin n todo ex st→boundI N todo=true→Good tab N μ0 mem0 w0 S0 st a w→kwp P Q todo (exOf ex) a w
 | 0,todo,ex,st,a,w,h,hb,G=>by simp [seg] at h
 | n+1,todo,.ret,st,a,w,h,hb,G=>by simp [seg] at h
 | n+1,todo,.exit id,st,a,w,h,hb,G=>by
  unfold seg at h
  cases todo with
  | nil=>exact h.elim
  | cons x k =>
   cases x with
   | code c =>
    simp only [boundI] at hb
    split at hb<;>try cases hb
    exact seg_sound hR hC hrec hfin n k (.exit id) st a w h hb G
   | inLoop keys b =>
    simp only [boundI] at hb
    split at hb<;>try cases hb
    exact seg_sound hR hC hrec hfin n k (.exit id) st a w h hb G
   | inBlock j =>
    simp only [boundI] at hb
    simp only at h
    show Exit.inBlock j (kwp P Q k) (.exit id) a w
    simp only [Exit.inBlock]
    split at h
    ·rename_i hj
     rw [if_pos (Nat.eq_of_beq_eq_true hj).symm]
     exact seg_sound hR hC hrec hfin n k .normal st a w h hb G
    ·rename_i hj
     rw [if_neg (fun e=>by subst e; rw [Nat.beq_refl] at hj; cases hj)]
     exact seg_sound hR hC hrec hfin n k (.exit id) st a w h hb G
 | n+1,todo,.normal,st,a,w,h,hb,G=>by
  unfold seg at h
  cases todo with
  | nil=>exact (hfin st a w G h).1
  | cons x k =>
   cases x with
   | inBlock j =>
    simp only [boundI] at hb
    exact seg_sound hR hC hrec hfin n k .normal st a w h hb G
   | inLoop keys b =>
    simp only at h
    unfold onSome at h
    split at h
    ·rename_i st' hc
     exact hrec keys b k st' a w h hb (hC keys st st' a w hc G)
    ·exact h.elim
   | code c =>
    have hbk:boundC N c=true∧boundI N k=true:=by
     simp only [boundI] at hb
     split at hb<;>try cases hb
     rename_i hc
     exact ⟨hc,hb⟩
    obtain ⟨hbc,hbk⟩:=hbk
    show c.wp P (kwp P Q k) a w
    cases c with
    | skip=>exact wp_skip (seg_sound hR hC hrec hfin n k .normal st a w h hbk G)
    | seq x y =>
     simp only [boundC] at hbc
     split at hbc<;>try cases hbc
     rename_i hx
     have:=seg_sound hR hC hrec hfin n (.code x::.code y::k) .normal st a w h (by simp [boundI,hx,hbc,hbk]) G
     exact wp_seq this
    | region id ops draw =>
     exact hR id ops draw _ _ st a w hbc h G fun st' a' w' G' k'=>seg_sound hR hC hrec hfin n k .normal st' a' w' k' hbk G'
    | cond c x y =>
     simp only [boundC] at hbc
     split at hbc<;>try cases hbc
     rename_i hx
     simp only at h
     split at h
     ·rename_i t hev
      obtain ⟨μ,S,R,hF,E⟩:=G
      have hc:=rel_bool (R.eval hev)
      refine wp_cond hc ?_
      cases t with
      | true=>exact seg_sound hR hC hrec hfin n (.code x::k) .normal st a w h (by simp [boundI,hx,hbk]) ⟨μ,S,R,hF,E⟩
      | false=>exact seg_sound hR hC hrec hfin n (.code y::k) .normal st a w h (by simp [boundI,hbc,hbk]) ⟨μ,S,R,hF,E⟩
     ·exact h.elim
    | block id b =>
     simp only [boundC] at hbc
     have:=seg_sound hR hC hrec hfin n (.code b::.inBlock id::k) .normal st a w h (by simp [boundI,hbc,hbk]) G
     refine wp_block (wp_mono this fun e a w he=>?_)
     cases e<;>exact he
    | loop b =>
     simp only [forceL_eq] at h
     unfold onSome at h
     split at h
     ·rename_i st' hc
      exact loopW_wp (hrec _ b k st' a w h (by simpa [boundI,boundC] using hb) (hC _ st st' a w hc G))
     ·exact h.elim
    | exit id=>exact wp_exit (seg_sound hR hC hrec hfin n k (.exit id) st a w h hbk G)
    | ret=>exact wp_ret (kwp_ret k (hfin st a w G h).2)
    | _=>exact h.elim

theorem run_sound (hR:RegionOk P tab Γ N μ0 mem0 w0 S0) (hC:CanonOk tab N k0 μ0 mem0 w0 S0) {res:List Nat} {fin:St→Prop}
  (hfin:∀ st a w,Good tab N μ0 mem0 w0 S0 st a w→fin st→Q .normal a w∧Q .ret a w):∀ (m:Nat),
  (∀ keys b k st a w,run Γ tab k0 res fin m (.inLoop keys b::k) st→boundI N (.inLoop keys b::k)=true→Good tab N μ0 mem0 w0 S0 st a w→LoopW P b (kwp P Q k) a w) ∧
  ∀ c st a w,run Γ tab k0 res fin m [.code c] st→boundC N c=true→Good tab N μ0 mem0 w0 S0 st a w→c.wp P Q a w
 | 0=>⟨fun keys b k st a w h=>by simp [run] at h,fun c st a w h=>by simp [run] at h⟩
 | m+1=>by
  obtain ⟨ih,_⟩:=run_sound hR hC hfin m
  refine ⟨fun keys b k st a w h hb G=>?_,fun c st a w h hb G=>?_⟩
  ·unfold run at h
   have hb':boundI N (.code b::.inLoop keys b::k)=true:=by
    have h2:=hb
    simp only [boundI] at h2
    split at h2<;>try cases h2
    rename_i hc
    simp [boundI,hc,h2]
   exact loopW_round (seg_sound hR hC ih hfin 4000 (.code b::.inLoop keys b::k) .normal st a w h hb' G)
  ·unfold run at h
   exact seg_sound hR hC ih hfin 4000 [.code c] .normal st a w h (by simp [boundI,hb]) G
end
end Vm
end Go.Proofs.YtlbppjmekiemiacGreatDoor


/- The executor on data: a loop's head is reached with a state in order. No condition. -/
namespace Go.Proofs.YtlbppjmekiemiacGreatDoor
namespace Vm
section
variable {P:Program} {tab:Tab} {Γ:Ctx} {N k0:Nat} {a:Act} {w w':World} {Q:Exit→Act→World→Prop} {μ μ':Mu} {S S':Nat→Prop}

theorem rel_own {mf:MemF} {b:Nat} {e:Ty} {x:Value} (hx:x=.slice none 0 0):RelV tab (muU b (.ar (.slice none 0 0)) μ) (memU [(b,.arr e [])] mf) w S (.one (.own b)) x:=by
 subst hx
 refine ⟨rfl,?_,fun t l _=>muU_eq⟩
 rw [memU_eq]; simp

def NilsOk (tab:Tab) (μ:Mu) (mem:Mem) (w:World) (S:Nat→Prop) (a:Act) (b:Nat) (q:Env × Mem):Prop :=
 ∃ μ',Ext μ (look mem) w S μ' (look (q.2++mem)) w S∧Inv tab μ' (look (q.2++mem)) w S∧Fresh (b+q.2.length) (q.2++mem)∧(∀ r,r<b→look q.2 r=none) ∧
  ∀ p∈q.1,RelV tab μ' (look (q.2++mem)) w S p.2 (a.eval (.tmp p.1))∧(p.2=.one .undef→a.eval (.tmp p.1)=Go.undef)

theorem ownNils_sound {mem:Mem} (I:Inv tab μ (look mem) w S):∀ {env:Env} {b:Nat},Fresh b mem→(∀ p∈env,RelV tab μ (look mem) w S p.2 (a.eval (.tmp p.1))∧(p.2=.one .undef→a.eval (.tmp p.1)=Go.undef)) →
  NilsOk tab μ mem w S a b (ownNils b env)
 | [],b,hF,h=>⟨μ,Ext.refl,I,hF,fun _ _=>rfl,fun p hp=>by cases hp⟩
 | (t,v)::env,b,hF,h=>by
  have hrest:∀ p∈env,RelV tab μ (look mem) w S p.2 (a.eval (.tmp p.1))∧(p.2=.one .undef→a.eval (.tmp p.1)=Go.undef):=fun p hp=>h p (List.mem_cons_of_mem _ hp)
  have keep:ownNils b ((t,v)::env)=((t,v)::(ownNils b env).1,(ownNils b env).2)→NilsOk tab μ mem w S a b (ownNils b ((t,v)::env)):=fun he=>by
   obtain ⟨μ',E,I',F',hlt,hr⟩:=ownNils_sound I hF hrest
   rw [he]
   refine ⟨μ',E,I',F',hlt,fun q hq=>?_⟩
   rcases List.mem_cons.1 hq with rfl | hq
   ·have:=h (t,v) (List.mem_cons_self ..)
    exact ⟨relV_ext E I this.1,this.2⟩
   ·exact hr q hq
  have nils:∀ e,v=.one (.nil e)→NilsOk tab μ mem w S a b (ownNils b ((t,v)::env)):=fun e hv=>by
   subst hv
   have hF1:Fresh (b+1) mem:=fun r hr=>hF r (by omega)
   obtain ⟨μ',E,I',F',hlt,hr⟩:=ownNils_sound (b:=b+1) I hF1 hrest
   have hb:look ((ownNils (b+1) env).2++mem) b=none:=by
    rw [look_append,hlt b (by omega)]
    exact hF b (Nat.le_refl _)
   obtain ⟨E2,I2⟩:=name_EI (t:=e) I' hb
   rw [show memU [(b,.arr e [])] (look ((ownNils (b+1) env).2++mem))=look (((b,.arr e [])::(ownNils (b+1) env).2)++mem) from look_memU _ _] at E2 I2
   have hd:(ownNils b ((t,.one (.nil e))::env))=((t,.one (.own b))::(ownNils (b+1) env).1,(b,.arr e [])::(ownNils (b+1) env).2):=rfl
   rw [hd]
   refine ⟨_,E.trans E2,I2,?_,?_,fun q hq=>?_⟩
   ·intro r hr'
    simp only [List.length_cons] at hr'
    have hne:r≠b:=by omega
    show look ((b,_)::((ownNils (b+1) env).2++mem)) r=none
    simp only [look,beq_ne hne]
    exact F' r (by omega)
   ·intro r hr'
    have hne:r≠b:=by omega
    simp only [look,beq_ne hne]
    exact hlt r (by omega)
   ·rcases List.mem_cons.1 hq with rfl | hq
    ·have:=(h (t,.one (.nil e)) (List.mem_cons_self ..)).1
     have h2:=rel_own (tab:=tab) (μ:=μ') (w:=w) (S:=S) (mf:=look ((ownNils (b+1) env).2++mem)) (b:=b) (e:=e) this.2
     rw [show memU [(b,.arr e [])] (look ((ownNils (b+1) env).2++mem))=look (((b,.arr e [])::(ownNils (b+1) env).2)++mem) from look_memU _ _] at h2
     exact ⟨h2,fun hh=>by cases hh⟩
    ·exact ⟨relV_ext E2 I' (hr q hq).1,(hr q hq).2⟩
  cases v with
  | one c=>cases c<;>first | exact keep rfl | exact nils _ rfl
  | agg cs=>exact keep rfl
  | tup vs=>exact keep rfl
end
end Vm
end Go.Proofs.YtlbppjmekiemiacGreatDoor


/- The executor on data: nil slices in blocks get names. No condition. -/
namespace Go.Proofs.YtlbppjmekiemiacGreatDoor
namespace Vm
section
variable {P:Program} {tab:Tab} {Γ:Ctx} {N k0:Nat} {a:Act} {w w':World} {Q:Exit→Act→World→Prop} {μ μ':Mu} {S S':Nat→Prop}

def CellOk (tab:Tab) (μ:Mu) (mf:MemF) (w:World) (S:Nat→Prop) (c:C) (o:Option Value):Prop:=∃ y,o=some y∧y.oneCell'=true∧RelC tab μ mf w S c y

def NilCOk (tab:Tab) (μ:Mu) (mem:Mem) (w:World) (S:Nat→Prop) (b:Nat) (cs:List C) (q:List C × Mem):Prop :=
 ∃ μ',Ext μ (look mem) w S μ' (look (q.2++mem)) w S∧Inv tab μ' (look (q.2++mem)) w S∧(∀ r,look q.2 r≠none→b≤r∧r<b+q.2.length)∧q.1.length=cs.length ∧
  ∀ ys:Nat→Option Value,(∀ (i:Nat) c,cs[i]? = some c→CellOk tab μ (look mem) w S c (ys i))→∀ (i:Nat) c,q.1[i]? = some c→CellOk tab μ' (look (q.2++mem)) w S c (ys i)

theorem CellOk.ext {mf mf':MemF} (E:Ext μ mf w S μ' mf' w' S') (I:Inv tab μ mf w S) {c:C} {o:Option Value} (h:CellOk tab μ mf w S c o):CellOk tab μ' mf' w' S' c o :=
 let ⟨y,h1,h2,h3⟩:=h
 ⟨y,h1,h2,h3.ext E I⟩

theorem ownNilC_sound {mem:Mem} (I:Inv tab μ (look mem) w S):∀ {cs:List C} {b:Nat},(∀ r,b≤r→r<b+(ownNilC b cs).2.length→look mem r=none)→NilCOk tab μ mem w S b cs (ownNilC b cs)
 | [],b,hF=>⟨μ,Ext.refl,I,fun r h=>absurd rfl h,rfl,fun ys h=>h⟩
 | c::cs,b,hF=>by
  have keep:ownNilC b (c::cs)=(c::(ownNilC b cs).1,(ownNilC b cs).2)→NilCOk tab μ mem w S b (c::cs) (ownNilC b (c::cs)):=fun he=>by
   rw [he] at hF ⊢
   obtain ⟨μ',E,I',hlt,hl,hr⟩:=ownNilC_sound I (b:=b) hF
   refine ⟨μ',E,I',hlt,by simp [hl],fun ys h i c' hc=>?_⟩
   cases i with
   | zero=>simp at hc; subst hc; exact (h 0 _ rfl).ext E I
   | succ i=>exact hr (fun j=>ys (j+1)) (fun j c hj=>h (j+1) c hj) i c' hc
  have nils:∀ e,c=.nil e→NilCOk tab μ mem w S b (c::cs) (ownNilC b (c::cs)):=fun e hv=>by
   subst hv
   have hd:ownNilC b (.nil e::cs)=(.own b::(ownNilC (b+1) cs).1,(b,.arr e [])::(ownNilC (b+1) cs).2):=rfl
   rw [hd] at hF ⊢
   simp only [List.length_cons] at hF
   obtain ⟨μ',E,I',hlt,hl,hr⟩:=ownNilC_sound I (cs:=cs) (b:=b+1) (fun r h1 h2=>hF r (by omega) (by omega))
   have hb:look ((ownNilC (b+1) cs).2++mem) b=none:=by
    rw [look_append]
    cases hq:look (ownNilC (b+1) cs).2 b with
    | none=>exact hF b (Nat.le_refl _) (by omega)
    | some B=>have:=(hlt b (by rw [hq]; simp)).1; omega
   obtain ⟨E2,I2⟩:=name_EI (t:=e) I' hb
   have hlk:memU [(b,.arr e [])] (look ((ownNilC (b+1) cs).2++mem))=look (((b,.arr e [])::(ownNilC (b+1) cs).2)++mem):=look_memU _ _
   have h2:∀ x,x=.slice none 0 0→RelV tab _ _ w S (.one (.own b)) x:=fun x hx=>rel_own (tab:=tab) (μ:=μ') (w:=w) (S:=S) (mf:=look ((ownNilC (b+1) cs).2++mem)) (b:=b) (e:=e) hx
   rw [hlk] at E2 I2
   refine ⟨_,E.trans E2,I2,?_,by simp [hl],fun ys h i c' hc=>?_⟩
   ·intro r hr'
    by_cases e1:r=b
    ·subst e1; simp only [List.length_cons]; omega
    ·simp only [look,beq_ne e1] at hr'
     have:=hlt r hr'
     simp only [List.length_cons]; omega
   ·cases i with
    | zero =>
     simp at hc; subst hc
     obtain ⟨y,y1,y2,y3⟩:=h 0 _ rfl
     have h3:=h2 y y3
     rw [hlk] at h3
     exact ⟨y,y1,y2,h3.2⟩
    | succ i =>
     exact (hr (fun j=>ys (j+1)) (fun j c hj=>h (j+1) c hj) i c' hc).ext E2 I'
  cases c<;>first | exact keep rfl | exact nils _ rfl

def NilMOk (tab:Tab) (μ:Mu) (mem:Mem) (w:World) (S:Nat→Prop) (b:Nat) (m0 m1:Mem):Prop :=
 ∃ μ',Ext μ (look mem) w S μ' (look (m1++mem)) w S∧Inv tab μ' (look (m1++mem)) w S∧∀ r,look m1 r≠none→r∈m0.map (·.1)∨b≤r

theorem ownNilM_sound {mem:Mem} (I:Inv tab μ (look mem) w S):∀ {m0:Mem} {b:Nat},Fresh b mem→(∀ p∈m0,look mem p.1=some p.2)→(m0.map (·.1)).Nodup→NilMOk tab μ mem w S b m0 (ownNilM b m0)
 | [],b,hF,h,hn=>⟨μ,Ext.refl,I,fun r h=>absurd rfl h⟩
 | (r,B)::m0,b,hF,h,hn=>by
  have hB:look mem r=some B:=h (r,B) (List.mem_cons_self ..)
  have hrest:∀ p∈m0,look mem p.1=some p.2:=fun p hp=>h p (List.mem_cons_of_mem _ hp)
  have hn':(m0.map (·.1)).Nodup:=(List.nodup_cons.1 hn).2
  have hnr:r∉m0.map (·.1):=(List.nodup_cons.1 hn).1
  have hrb:r<b:=by
   apply Nat.lt_of_not_le
   intro hle
   rw [hF r hle] at hB; cases hB
  have keep:ownNilM b ((r,B)::m0)=(r,B)::ownNilM b m0→NilMOk tab μ mem w S b ((r,B)::m0) (ownNilM b ((r,B)::m0)):=fun he=>by
   rw [he]
   obtain ⟨μ',E,I',hlt⟩:=ownNilM_sound I hF hrest hn'
   have hno:look (ownNilM b m0) r=none:=by
    cases hq:look (ownNilM b m0) r with
    | none=>rfl
    | some D=>rcases hlt r (by rw [hq]; simp) with h1 | h1
              ·exact absurd h1 hnr
              ·omega
   have hsame:look (((r,B)::ownNilM b m0)++mem)=look (ownNilM b m0++mem):=by
    funext q
    by_cases e:q=r
    ·subst e
     rw [look_append (ownNilM b m0),hno]
     simp [look,Nat.beq_refl,hB]
    ·simp [look,beq_ne e]
   refine ⟨μ',by rw [hsame]; exact E,by rw [hsame]; exact I',fun q hq=>?_⟩
   by_cases e:q=r
   ·subst e; exact .inl (by simp)
   ·simp only [look,beq_ne e] at hq
    rcases hlt q hq with h1 | h1
    ·exact .inl (by simp only [List.map_cons,List.mem_cons]; exact .inr h1)
    ·exact .inr h1
  cases B with
  | arr t l=>exact keep rfl
  | dead=>exact keep rfl
  | set ks=>exact keep rfl
  | arx t l cs=>exact keep rfl
  | box cs =>
   have hd:ownNilM b ((r,.box cs)::m0)=(r,.box (ownNilC b cs).1)::(ownNilC b cs).2++ownNilM (b+(ownNilC b cs).2.length) m0:=rfl
   rw [hd]
   generalize hb':b+(ownNilC b cs).2.length=b'
   obtain ⟨μ1,E1,I1,hlt1⟩:=ownNilM_sound (b:=b') I (fun q hq=>hF q (by omega)) hrest hn'
   have hknown:∀ q,q∈m0.map (·.1)→q<b:=fun q hq=>by
    obtain ⟨p,hp,rfl⟩:=List.mem_map.1 hq
    apply Nat.lt_of_not_le
    intro hle
    have:=hrest p hp
    rw [hF _ hle] at this; cases this
   have hfree:∀ q,b≤q→q<b+(ownNilC b cs).2.length→look (ownNilM b' m0++mem) q=none:=fun q h1 h2=>by
    rw [look_append]
    cases hq:look (ownNilM b' m0) q with
    | none=>exact hF q h1
    | some D=>rcases hlt1 q (by rw [hq]; simp) with h3 | h3
              ·have:=hknown q h3; omega
              ·omega
   obtain ⟨μ2,E2,I2,hlt2,hl2,hr2⟩:=ownNilC_sound I1 (cs:=cs) (b:=b) hfree
   have hat1:look (ownNilM b' m0++mem) r=some (.box cs):=by
    rw [look_append]
    cases hq:look (ownNilM b' m0) r with
    | none=>exact hB
    | some D=>rcases hlt1 r (by rw [hq]; simp) with h3 | h3
              ·exact absurd h3 hnr
              ·omega
   have hat2:look ((ownNilC b cs).2++(ownNilM b' m0++mem)) r=some (.box cs):=by
    rw [look_append]
    cases hq:look (ownNilC b cs).2 r with
    | none=>exact hat1
    | some D=>have:=(hlt2 r (by rw [hq]; simp)).1; omega
   obtain ⟨l,hμ,hbr⟩:=I1.rel r _ hat1 trivial
   cases l with
   | ar x=>exact hbr.elim
   | bx blk =>
    obtain ⟨vs,e,hh,hsz,hcells⟩:=hbr
    have hμ2:μ2 r=some (.bx blk):=(E2.kinds r _ _ hat1 hat2).2 ⟨_,hat2,trivial⟩ ▸ hμ
    have E3:=write_E (μ:=μ2) (mem:=look ((ownNilC b cs).2++(ownNilM b' m0++mem))) (w:=w) (w':=w) (S:=S) (r:=r) (b:=blk) (B:=.box cs) (B':=.box (ownNilC b cs).1) (l:=.bx blk) hat2 trivial hμ2 rfl trivial rfl (fun _ _=>rfl) rfl rfl rfl
    have I3:=write_I hat2 trivial hμ2 rfl rfl (fun _ _=>rfl) E3 I2 ⟨vs,e,hh,by rw [hl2]; exact hsz,fun i c hc=>(hr2 (fun i=>vs[i]?) (fun i c hc=>hcells i c hc) i c hc).ext E3 I2⟩
    have hlk:memU [(r,.box (ownNilC b cs).1)] (look ((ownNilC b cs).2++(ownNilM b' m0++mem)))=look (((r,.box (ownNilC b cs).1)::(ownNilC b cs).2++ownNilM b' m0)++mem):=by
     rw [look_memU]; simp
    rw [hlk] at E3 I3
    refine ⟨μ2,(E1.trans E2).trans E3,I3,fun q hq=>?_⟩
    by_cases e1:q=r
    ·subst e1; exact .inl (by simp)
    ·rw [look_append] at hq
     simp only [look,beq_ne e1] at hq
     cases hq2:look (ownNilC b cs).2 q with
     | some D=>exact .inr (hlt2 q (by rw [hq2]; simp)).1
     | none =>
      rw [hq2] at hq
      rcases hlt1 q hq with h3 | h3
      ·exact .inl (by simp only [List.map_cons,List.mem_cons]; exact .inr h3)
      ·exact .inr (by omega)
end
end Vm
end Go.Proofs.YtlbppjmekiemiacGreatDoor


/- The executor on data: a loop's head. No condition. -/
namespace Go.Proofs.YtlbppjmekiemiacGreatDoor
namespace Vm
section
variable {P:Program} {tab:Tab} {Γ:Ctx} {N k0:Nat} {a:Act} {w w':World} {Q:Exit→Act→World→Prop} {μ μ':Mu} {S S':Nat→Prop} {μ0:Mu} {w0:World} {S0:Nat→Prop}

theorem allKnown_spec {mem:Mem}:∀ {l:List Nat},allKnown mem l=true→∀ r∈l,∃ B,look mem r=some B
 | [],_,r,h=>by cases h
 | q::l,hk,r,h=>by
  simp only [allKnown] at hk
  split at hk<;>try cases hk
  rename_i B hB
  rcases List.mem_cons.1 h with rfl | h
  ·exact ⟨B,hB⟩
  ·exact allKnown_spec hk r h

theorem prefixOk_spec:∀ {l:List Nat} {i k:Nat},prefixOk i k l=true→∀ j,j<k→l[j]? = some (i+j)
 | _,i,0,_,j,hj=>by omega
 | [],i,k+1,h,j,hj=>by simp [prefixOk] at h
 | r::l,i,k+1,h,j,hj=>by
  simp only [prefixOk] at h
  split at h<;>try cases h
  rename_i hr
  have:=Nat.eq_of_beq_eq_true hr
  subst this
  cases j with
  | zero=>rfl
  | succ j=>simp only [List.getElem?_cons_succ]; rw [prefixOk_spec h j (by omega)]; congr 1; omega

theorem mem_keepEnv {env:Env}:∀ {keys:List Nat} {p:Nat × V},p∈keepEnv env keys→look env p.1=some p.2
 | [],p,h=>by cases h
 | q::keys,p,h=>by
  simp only [keepEnv] at h
  split at h
  ·rename_i u hu
   rcases List.mem_cons.1 h with rfl | h
   ·exact hu
   ·exact mem_keepEnv h
  ·exact mem_keepEnv h

theorem mem_of_look {env:Env} {t:Nat} {v:V} (h:look env t=some v):(t,v)∈env:=by
 induction env with
 | nil=>simp [look] at h
 | cons p env ih =>
  obtain ⟨q,u⟩:=p
  by_cases e:t=q
  ·subst e; simp [look,Nat.beq_refl] at h; subst h; simp
  ·simp only [look,beq_ne e] at h
   exact List.mem_cons_of_mem _ (ih h)

theorem canonOk_spec {k:Nat} {mem m1:Mem} {names seen:List Nat} {vs:List V} {bs:List Blk} (h:canonOk k mem m1 names seen vs bs=true) :
  names.Nodup∧(∀ r∈names,∃ B,look mem r=some B)∧seen.Nodup∧(∀ r∈seen,∃ B,look m1 r=some B)∧(∀ j,j<k→seen[j]? = some j) ∧
   (∀ v∈vs,∀ r∈v.allNames,r∈seen)∧∀ B∈bs,∀ r∈B.names,r∈seen:=by
 unfold canonOk at h
 split at h
 ·rename_i h1 h2 h3 h4 h5
  split at h
  ·rename_i h6 h7 h8
   exact ⟨distinct_nodup h1,allKnown_spec h2,distinct_nodup h3,allKnown_spec h4,fun j hj=>by simpa using prefixOk_spec h5 j hj,names_of_args h7 h6,
    fun B hB r hr=>allIn_mem h8 r (List.mem_flatMap.2 ⟨B,hB,hr⟩)⟩
  ·cases h
 ·cases h

theorem look_zipFrom (bs:List Blk):look (zipFrom 0 bs)=memL bs:=by
 funext r
 have key:∀ (bs:List Blk) (i r:Nat),look (zipFrom i bs) r=if i≤r then bs[r-i]? else none:=by
  intro bs
  induction bs with
  | nil=>intro i r; simp [zipFrom,look]
  | cons B bs ih =>
   intro i r
   by_cases e:r=i
   ·subst e; simp [zipFrom,look,Nat.beq_refl]
   ·simp only [zipFrom,look,beq_ne e,ih]
    by_cases h:i≤r
    ·have h1:i+1≤r:=by omega
     rw [if_pos h,if_pos h1,show r-i=(r-(i+1))+1 by omega]
     simp
    ·rw [if_neg h,if_neg (by omega)]
 rw [key]
 simp [memL]

theorem canon_sound {bs0:List Blk} {keys:List Nat} {st st':St} (hk:bs0.length=k0) (h:canon k0 keys st=some st') (G:Good tab N μ0 (memL bs0) w0 S0 st a w):Good tab N μ0 (memL bs0) w0 S0 st' a w:=by
 obtain ⟨μ,S,R,hF,E⟩:=G
 unfold canon at h
 simp only [forceL_eq] at h
 generalize hq:ownNils st.base (keepEnv st.env keys)=q at h
 generalize hnm:reachK k0 (q.2++st.mem) (q.1.map (·.2))=names at h
 generalize hm1:ownNilM (st.base+q.2.length) (memAt (q.2++st.mem) names)=m1 at h
 generalize hsn:reachK k0 m1 (q.1.map (·.2))=seen at h
 split at h<;>try cases h
 rename_i hok
 obtain ⟨c1,c2,c3,c4,c5,c6,c7⟩:=canonOk_spec hok
 obtain ⟨μ1,E1,I1,F1,_,hr1⟩:=hq ▸ ownNils_sound (a:=a) R.inv (env:=keepEnv st.env keys) hF (fun p hp=>R.env p.1 p.2 (mem_keepEnv hp))
 have hmm:∀ p∈memAt (q.2++st.mem) names,look (q.2++st.mem) p.1=some p.2:=fun p hp=>by
  obtain ⟨r,hr,rfl⟩:=List.mem_map.1 hp
  obtain ⟨B,hB⟩:=c2 r hr
  simp [hB]
 obtain ⟨μ2,E2,I2,_⟩:=hm1 ▸ ownNilM_sound I1 (m0:=memAt (q.2++st.mem) names) F1 hmm (by rw [memAt_fst]; exact c1)
 have H:Handed (look (m1++(q.2++st.mem))) seen (seen.map fun r=>(look m1 r).getD .dead):=by
  refine ⟨c3,by simp,fun j r hj=>?_,c7⟩
  obtain ⟨B,hB⟩:=c4 r (List.mem_of_getElem? hj)
  simp [hj,hB,look_append]
 have E12:=E.trans (E1.trans E2)
 have hlk:=look_zipFrom ((seen.map fun r=>(look m1 r).getD .dead).map (Blk.ren (idx seen)))
 refine ⟨muC seen μ2,S,⟨R.size,R.defers,?_,?_⟩,?_,?_⟩
 ·show Inv tab (muC seen μ2) (look (zipFrom 0 _)) w S
  rw [hlk]; exact H.inv I2
 ·intro t v hv
  have hv':=mem_of_look hv
  obtain ⟨p,hp,he⟩:=List.mem_map.1 hv'
  obtain ⟨p1,p2⟩:=p
  cases he
  obtain ⟨r1,r2⟩:=hr1 _ hp
  show RelV tab (muC seen μ2) (look (zipFrom 0 _)) w S _ _∧_
  rw [hlk]
  refine ⟨(relV_ext E2 I1 r1).ren fun r hr=>H.ren (c6 p2 (List.mem_map.2 ⟨_,hp,rfl⟩) r hr),fun hu=>?_⟩
  apply r2
  cases p2 with
  | one c=>cases c<;>simp [V.ren,C.ren] at hu ⊢
  | agg cs=>simp [V.ren] at hu
  | tup vs=>simp [V.ren] at hu
 ·intro r hr
  show look (zipFrom 0 _) r=none
  rw [hlk]
  simp only [memL,List.map_map,List.getElem?_eq_none_iff,List.length_map]
  exact hr
 ·show Ext μ0 (memL bs0) w0 S0 (muC seen μ2) (look (zipFrom 0 _)) w S
  rw [hlk]
  refine ⟨fun r h0=>?_,fun r B B' hB hB'=>?_,E12.sub,E12.size,E12.heap,E12.only,fun b hb=>?_,E12.os,E12.tape,E12.output⟩
  ·have hlt:r<k0:=by
    rw [← hk]
    apply Nat.lt_of_not_le
    intro hle
    exact h0 (by simp [memL,hle])
   rw [H.memC (c5 r hlt)]; simp
  ·have hlt:r<k0:=by
    rw [← hk]
    exact (List.getElem?_eq_some_iff.1 hB).1
   have hs:=c5 r hlt
   rw [H.memC hs] at hB'
   cases hB'
   obtain ⟨D,hD⟩:=c4 r (List.mem_of_getElem? hs)
   have hD':look (m1++(q.2++st.mem)) r=some D:=by rw [look_append,hD]
   have hkind:=E12.kinds r B D hB hD'
   rw [hD']
   refine ⟨?_,fun hl=>?_⟩
   ·have h1:=hkind.1
    cases B<;>cases D<;>first | exact h1 | trivial
   ·have hl':Live (look (m1++(q.2++st.mem))) r:=by
     obtain ⟨B2,hB2,ha⟩:=hl
     rw [H.memC hs,hD'] at hB2
     cases hB2
     exact ⟨D,hD',alive_ren.1 ha⟩
    have:=hkind.2 hl'
    simp only [muC,hs]
    exact this
  ·obtain ⟨r,hr,l,hl,hμ,hb⟩:=H.own hb
   exact E12.own b ⟨r,l,hl,hμ,hb⟩
end
end Vm
end Go.Proofs.YtlbppjmekiemiacGreatDoor


/- The executor on data: a function's end, and the contract from its run. No condition. -/
namespace Go.Proofs.YtlbppjmekiemiacGreatDoor
namespace Vm
section
variable {P:Program} {tab:Tab} {Γ:Ctx} {N k0:Nat} {a:Act} {w w':World} {Q:Exit→Act→World→Prop} {μ μ':Mu} {S S':Nat→Prop} {μ0:Mu} {w0:World} {S0:Nat→Prop}

def resOne (a:Act):ResultVar→Sem Value
 | .tmp t=>pure (a.tmps.getD t Go.undef)
 | .cell p t=>do loadVar t (← asAddr (a.tmps.getD p Go.undef))

theorem retV_sound (hT:TabOk P tab) {st:St} (R:StRel tab N st.env st.mem a w μ S):∀ {l:List ResultVar} {vs:List V},retV tab st l=some vs →
  ∃ xs:List Value,(l.mapM (resOne a)).run P w=.ok xs w∧RelVs tab μ (look st.mem) w S vs xs
 | [],vs,h=>by simp [retV] at h; subst h; exact ⟨[],rfl,trivial⟩
 | .tmp t::l,vs,h=>by
  simp only [retV] at h
  split at h<;>try cases h
  rename_i v us hv hus
  obtain ⟨xs,h1,h2⟩:=retV_sound hT R hus
  refine ⟨a.eval (.tmp t)::xs,?_,(R.env t v hv).1,h2⟩
  rw [List.mapM_cons]
  simp [h1,Act.eval,resOne]
 | .cell p t::l,vs,h=>by
  simp only [retV] at h
  split at h<;>try cases h
  rename_i r o ti us hv ht hus
  split at h<;>try cases h
  rename_i v m hl
  obtain ⟨xs,h1,h2⟩:=retV_sound hT R hus
  simp only [loadX] at hl
  split at hl<;>try cases hl
  rename_i cs hb
  split at hl<;>try cases hl
  rename_i v' hmk
  split at hl<;>try cases hl
  rename_i hle
  obtain ⟨b,vs',e,hx,_,hh,hsz,hc⟩:=sees_box_ptr (lm:=st.mem) (fun _ _ h _=>h) R.inv hb (R.env p _ hv).1
  have hle':=Nat.le_of_ble_eq_true hle
  obtain ⟨x,h3,h4⟩:=run_loadVar (μ:=μ) (mem:=look st.mem) (w:=w) (S:=S) hT ht b o (fun j=>(vs'[o+j]?).getD Go.undef) (slc cs o (o+ti.n)) (slc_len _ _ _ hle') (fun j c hj=>by
   obtain ⟨hj1,hj2⟩:=slc_get _ _ _ _ _ hj
   obtain ⟨y,y1,y2,y3⟩:=hc _ _ hj2
   exact ⟨cell?_at hh (by simp [y1]),by simp [y1,y2],by simpa [y1] using y3⟩) v hmk
  refine ⟨x::xs,?_,h4,h2⟩
  rw [List.mapM_cons]
  have hx':a.tmps.getD p Go.undef=.pointer (some (at0 b o)):=hx
  simp [Sem.run_bind,h1,hx',asAddr,h3,resOne]

theorem relW_solid {mf:MemF} {v:V} {x:Value} (h:RelV tab μ mf w S v x) (h1:v≠.one .undef) (h2:∀ us,v≠.tup us):RelW tab μ mf w S v x:=by
 cases v with
 | one c=>cases c<;>first | exact absurd rfl h1 | exact h
 | agg cs=>exact h
 | tup us=>exact absurd rfl (h2 us)

theorem solid_spec:∀ {vs:List V},solid vs=true→∀ v∈vs,v≠.one .undef∧∀ us,v≠.tup us
 | [],_,v,h=>by cases h
 | u::vs,hs,v,h=>by
  have key:solid vs=true→u≠.one .undef→(∀ us,u≠.tup us)→v≠.one .undef∧∀ us,v≠.tup us:=fun h1 h2 h3=>by
   rcases List.mem_cons.1 h with rfl | h
   ·exact ⟨h2,h3⟩
   ·exact solid_spec h1 v h
  cases u with
  | one c=>cases c<;>first | (cases hs; done) | exact key hs (fun e=>by cases e) (fun us e=>by cases e)
  | agg cs=>exact key hs (fun e=>by cases e) (fun us e=>by cases e)
  | tup us=>cases hs

theorem packV_rel {mf:MemF} {vs:List V} {xs:List Value} (h:RelVs tab μ mf w S vs xs) (hs:∀ v∈vs,v≠.one .undef∧∀ us,v≠.tup us) :
  RelV tab μ mf w S (packV vs) (if h:xs.toArray.size=1 then xs.toArray[0] else .tuple xs.toArray):=by
 have hlen:=h.len
 have tup:vs.length≠1→RelV tab μ mf w S (.tup vs) (.tuple xs.toArray):=fun _=>by
  refine ⟨xs.toArray,rfl,by simp [hlen],fun i v hv=>?_⟩
  have key:∀ {vs:List V} {xs:List Value},RelVs tab μ mf w S vs xs→∀ (i:Nat) v,vs[i]? = some v→∃ y,xs[i]? = some y∧RelV tab μ mf w S v y:=by
   intro vs
   induction vs with
   | nil=>intro xs _ i v hv; simp at hv
   | cons u vs ih =>
    intro xs h i v hv
    cases xs with
    | nil=>exact h.elim
    | cons x xs =>
     cases i with
     | zero=>simp at hv; subst hv; exact ⟨x,rfl,h.1⟩
     | succ i=>simp at hv ⊢; exact ih h.2 i v hv
  obtain ⟨y,y1,y2⟩:=key h i v hv
  have:=hs v (List.mem_of_getElem? hv)
  exact ⟨y,by simpa using y1,relW_solid y2 this.1 this.2⟩
 match vs,xs,h with
 | [],[],h=>exact tup (by simp)
 | [v],[x],h=>exact h.1
 | v::u::vs,x::y::xs,h=>exact tup (by simp)

theorem results_run {fn:Func} {l:List Value} (h:(fn.results.toList.mapM (resOne a)).run P w=.ok l w) :
  (results fn a.tmps).run P w=.ok (if h:l.toArray.size=1 then l.toArray[0] else .tuple l.toArray) w:=by
 unfold results
 rw [Array.mapM_eq_mapM_toList]
 have e:∀ g:ResultVar→Sem Value,(∀ x,g x=resOne a x)→(List.mapM g fn.results.toList).run P w=.ok l w:=fun g hg=>by
  have hg':g=resOne a:=funext hg
  rw [hg']; exact h
 simp only [Sem.run_bind,Sem.run_map]
 rw [e _ (fun x=>by cases x<;>rfl)]
 rfl
end
end Vm
end Go.Proofs.YtlbppjmekiemiacGreatDoor


/- The executor on data: a function's end, with blocks of its own. No condition. -/
namespace Go.Proofs.YtlbppjmekiemiacGreatDoor
namespace Vm
section
variable {P:Program} {tab:Tab} {Γ:Ctx} {N k0:Nat} {a:Act} {w w':World} {Q:Exit→Act→World→Prop} {μ μ':Mu} {S S':Nat→Prop} {μ0:Mu} {w0:World} {S0:Nat→Prop}

theorem ext_handed {bs0 blks:List Blk} {seen:List Nat} {mem:MemF} (E:Ext μ0 (memL bs0) w0 S0 μ mem w S) (H:Handed mem seen blks) (c4:∀ r∈seen,∃ B,mem r=some B) (c5:∀ j,j<bs0.length→seen[j]? = some j) :
  Ext μ0 (memL bs0) w0 S0 (muC seen μ) (memL (blks.map (Blk.ren (idx seen)))) w S:=by
 refine ⟨fun r h0=>?_,fun r B B' hB hB'=>?_,E.sub,E.size,E.heap,E.only,fun b hb=>?_,E.os,E.tape,E.output⟩
 ·have hlt:r<bs0.length:=by
   apply Nat.lt_of_not_le
   intro hle
   exact h0 (by simp [memL,hle])
  rw [H.memC (c5 r hlt)]; simp
 ·have hlt:r<bs0.length:=(List.getElem?_eq_some_iff.1 hB).1
  have hs:=c5 r hlt
  rw [H.memC hs] at hB'
  cases hB'
  obtain ⟨D,hD⟩:=c4 r (List.mem_of_getElem? hs)
  have hkind:=E.kinds r B D hB hD
  rw [hD]
  refine ⟨?_,fun hl=>?_⟩
  ·have h1:=hkind.1
   cases B<;>cases D<;>first | exact h1 | trivial
  ·have hl':Live mem r:=by
    obtain ⟨B2,hB2,ha⟩:=hl
    rw [H.memC hs,hD] at hB2
    cases hB2
    exact ⟨D,hD,alive_ren.1 ha⟩
   have:=hkind.2 hl'
   simp only [muC,hs]
   exact this
 ·obtain ⟨r,hr,l,hl,hμ,hb⟩:=H.own hb
  exact E.own b ⟨r,l,hl,hμ,hb⟩

def Ends (P:Program) (tab:Tab) (fn:Func) (μ0:Mu) (bs0:List Blk) (w0:World) (S0:Nat→Prop) (v:V) (bs':List Blk) (a:Act) (w:World):Prop :=
 ∃ x μ' S',(results fn a.tmps).run P w=.ok x w∧Ext μ0 (memL bs0) w0 S0 μ' (memL bs') w S'∧Inv tab μ' (memL bs') w S'∧RelV tab μ' (memL bs') w S' v x

theorem relVs_ren {f:Nat→Nat} {μ1 μ2:Mu} {m1 m2:MemF}:∀ {vs:List V} {xs:List Value},RelVs tab μ1 m1 w S vs xs→(∀ v∈vs,∀ r∈v.allNames,Renames μ1 m1 μ2 m2 f r)→RelVs tab μ2 m2 w S (vs.map (V.ren f)) xs
 | [],[],_,_=>trivial
 | v::_vs,_x::_xs,h,hn=>⟨h.1.ren (hn v (List.mem_cons_self ..)),relVs_ren h.2 fun u hu=>hn u (List.mem_cons_of_mem _ hu)⟩
 | [],_::_,h,_=>h.elim
 | _::_,[],h,_=>h.elim

theorem finO_sound (hT:TabOk P tab) {fn:Func} {bs0:List Blk} {K:V→List Blk→Prop} {st:St} (h:finO tab fn.results.toList bs0.length K st) (G:Good tab N μ0 (memL bs0) w0 S0 st a w) :
  ∃ v bs',K v bs'∧Ends P tab fn μ0 bs0 w0 S0 v bs' a w:=by
 obtain ⟨μ,S,R,hF,E⟩:=G
 unfold finO at h
 split at h
 ·exact h.elim
 rename_i vs hvs
 simp only at h
 generalize hsn:closure st.mem 200 0 (addNew (List.range bs0.length) (vs.flatMap V.names))=seen at h
 split at h
 ·rename_i hok hso
  obtain ⟨_,_,c3,c4,c5,c6,c7⟩:=canonOk_spec hok
  obtain ⟨xs,h1,h2⟩:=retV_sound hT R hvs
  have H:Handed (look st.mem) seen (seen.map fun r=>(look st.mem r).getD .dead):=⟨c3,by simp,fun j r hj=>by simp [hj],c7⟩
  refine ⟨_,_,h,_,muC seen μ,S,results_run h1,ext_handed E H c4 c5,H.inv R.inv,packV_rel (relVs_ren h2 fun v hv r hr=>H.ren (c6 v hv r hr)) fun v hv=>?_⟩
  obtain ⟨u,hu,rfl⟩:=List.mem_map.1 hv
  obtain ⟨s1,s2⟩:=solid_spec hso u hu
  cases u with
  | one c=>exact ⟨fun e=>by cases c<;>simp [V.ren,C.ren] at e s1,fun us e=>by simp [V.ren] at e⟩
  | agg cs=>exact ⟨fun e=>by simp [V.ren] at e,fun us e=>by simp [V.ren] at e⟩
  | tup us=>exact absurd rfl (s2 us)
 ·exact h.elim
end
end Vm
end Go.Proofs.YtlbppjmekiemiacGreatDoor


/- The executor on data: a function's end, as data; the contract from the run. No condition. -/
namespace Go.Proofs.YtlbppjmekiemiacGreatDoor
namespace Vm
section
variable {P:Program} {tab:Tab} {Γ:Ctx} {N k0:Nat} {a:Act} {w w':World} {Q:Exit→Act→World→Prop} {μ μ':Mu} {S S':Nat→Prop} {μ0:Mu} {w0:World} {S0:Nat→Prop}

theorem datsOf_plain {m:Mem}:∀ {vs ds:List V} {ns:List Nat},datsOf tab m vs=some (ds,ns)→∀ v∈ds,v≠.one .undef∧∀ us,v≠.tup us
 | [],ds,ns,h=>by simp only [datsOf] at h; cases h; intro v hv; cases hv
 | u::vs,ds,ns,h=>by
  simp only [datsOf] at h
  split at h<;>try cases h
  rename_i v' n1 us n2 hv hrest
  intro v hvm
  rcases List.mem_cons.1 hvm with rfl | hvm
  ·cases u with
   | tup us=>cases hv
   | one c =>
    simp only [Option.map_eq_some_iff] at hv
    obtain ⟨⟨d,nn⟩,hd',he⟩:=hv
    cases he
    obtain ⟨t,e,rfl⟩:=toDat_isDat hd'
    exact ⟨fun h=>(by cases h),fun us h=>(by cases h)⟩
   | agg cs =>
    simp only [Option.map_eq_some_iff] at hv
    obtain ⟨⟨d,nn⟩,hd',he⟩:=hv
    cases he
    exact ⟨fun h=>(by cases h),fun us h=>(by cases h)⟩
  ·exact datsOf_plain hrest v hvm

theorem c_ren_id (c:C):c.ren id=c:=by cases c<;>simp [C.ren]
theorem blk_ren_id (B:Blk):B.ren id=B:=by
 cases B with
 | box cs =>
  simp only [Blk.ren]
  congr 1
  have:(C.ren id)=id:=by funext c; exact c_ren_id c
  rw [this]; simp
 | arx t l cs =>
  simp only [Blk.ren]
  congr 1
  have:(C.ren id)=id:=by funext c; exact c_ren_id c
  rw [this]; simp
 | arr t l=>rfl
 | set ks=>rfl
 | dead=>rfl

theorem finD_sound (hT:TabOk P tab) {fn:Func} {bs0:List Blk} {K:V→List Blk→Prop} {st:St} (h:finD tab fn.results.toList bs0.length K st) (G:Good tab N μ0 (memL bs0) w0 S0 st a w) :
  ∃ v bs',K v bs'∧Ends P tab fn μ0 bs0 w0 S0 v bs' a w:=by
 obtain ⟨μ,S,R,hF,E⟩:=G
 unfold finD at h
 split at h
 ·exact h.elim
 rename_i vs hvs
 split at h
 ·rename_i ds ns hds hso
  simp only at h
  generalize hbs:(List.range bs0.length).map (fun r=>match memb ns r with | true=>Blk.dead | false=>(look st.mem r).getD .dead)=bs at h
  split at h
  ·rename_i hbel
   obtain ⟨xs,h1,h2⟩:=retV_sound hT R hvs
   obtain ⟨E2,I2⟩:=kills_EI (ns:=ns) R.inv
   have E12:=E.trans E2
   have hget:∀ r,r<bs0.length→memL bs r=some (match memb ns r with | true=>Blk.dead | false=>(look st.mem r).getD .dead):=fun r hr=>by
    subst hbs
    simp [memL,hr]
   have hnone:∀ r,bs0.length≤r→memL bs r=none:=fun r hr=>by
    subst hbs
    simp [memL,hr]
   have hlive:∀ r B,memL bs r=some B→B.alive→r<bs0.length∧memU (deads ns) (look st.mem) r=some B:=fun r B hB ha=>by
    have hr:r<bs0.length:=by
     apply Nat.lt_of_not_le
     intro hle
     rw [hnone r hle] at hB; cases hB
    rw [hget r hr] at hB
    cases hm:memb ns r with
    | true=>rw [hm] at hB; cases hB; exact ha.elim
    | false =>
     rw [hm] at hB
     rcases memU_deads (mem:=look st.mem) ns r with ⟨h3,_⟩ | ⟨_,h3⟩
     ·exact absurd h3 (memb_no hm)
     ·refine ⟨hr,?_⟩
      rw [h3]
      cases hl:look st.mem r with
      | none=>rw [hl] at hB; cases hB; exact ha.elim
      | some D=>rw [hl] at hB; simpa using hB
   have hlive':∀ r,Live (memL bs) r→Live (memU (deads ns) (look st.mem)) r:=fun r ⟨B,hB,ha⟩=>⟨B,(hlive r B hB ha).2,ha⟩
   refine ⟨_,_,h,_,μ,_,results_run h1,⟨fun r h0=>?_,fun r B B' hB hB'=>?_,E12.sub,E12.size,E12.heap,E12.only,fun b ⟨r,l,hl,hμ,hb⟩=>E12.own b ⟨r,l,hlive' r hl,hμ,hb⟩,E12.os,E12.tape,E12.output⟩,
    ⟨fun r B hB ha=>?_,fun r r' hne hl hl'=>I2.inj r r' hne (hlive' r hl) (hlive' r' hl'),fun r hl=>I2.sep r (hlive' r hl),I2.lt,I2.pow⟩,packV_rel (datsOf_rel R.inv (fun _ _ h _=>h) h2 hds (fun r hr=>hr)) (datsOf_plain hds)⟩
   ·have hlt:r<bs0.length:=by
     apply Nat.lt_of_not_le
     intro hle
     exact h0 (by simp [memL,hle])
    rw [hget r hlt]; simp
   ·refine ⟨?_,fun ⟨B2,hB2,ha⟩=>(E12.kinds r B B2 hB (hlive r B2 hB2 ha).2).2 ⟨B2,(hlive r B2 hB2 ha).2,ha⟩⟩
    cases B' with
    | dead=>cases B<;>trivial
    | box cs=>exact (E12.kinds r B _ hB (hlive r _ hB' trivial).2).1
    | arr t l=>exact (E12.kinds r B _ hB (hlive r _ hB' trivial).2).1
    | set ks=>exact (E12.kinds r B _ hB (hlive r _ hB' trivial).2).1
    | arx t l cs=>exact (E12.kinds r B _ hB (hlive r _ hB' trivial).2).1
   ·obtain ⟨hr,hm⟩:=hlive r B hB ha
    obtain ⟨l,hμ,hrel⟩:=I2.rel r B hm ha
    refine ⟨l,hμ,?_⟩
    have hB':B∈bs:=List.mem_of_getElem? hB
    have:=hrel.ren (f:=id) (μ2:=μ) (mem2:=memL bs) fun q hq=>?_
    ·rw [blk_ren_id] at this; exact this
    ·have hq':q<bs0.length:=allBelow_lt hbel q (List.mem_flatMap.2 ⟨B,hB',hq⟩)
     intro h0
     refine ⟨by rw [id,hget q hq']; simp,fun B2 h2 ha2=>?_⟩
     obtain ⟨_,hq2⟩:=hlive q B2 h2 ha2
     exact ⟨B2,hq2,by cases B2<;>simp [KindEq,Blk.alive] at ha2 ⊢,rfl⟩
  ·exact h.elim
 ·exact h.elim
end
end Vm
end Go.Proofs.YtlbppjmekiemiacGreatDoor


/- The executor on data: lists of one's own under new names. No condition. -/
namespace Go.Proofs.YtlbppjmekiemiacGreatDoor
namespace Vm

def frN (r n q:Nat):Nat:=match Nat.beq q r with | true=>n | false=>q
def fresh1 (r:Nat) (st:St):St :=
 match look st.mem r with
 | some (.arr t l)=>{ env:=st.env.map fun p=>(p.1,p.2.ren (frN r st.base)),mem:=(r,.dead)::(st.base,.arr t l)::st.mem.map (fun p=>(p.1,p.2.ren (frN r st.base))),base:=st.base+1 }
 | _=>st
def freshAll:List Nat→St→St
 | [],st=>st
 | r::rs,st=>freshAll rs (fresh1 r st)
def ownIn:List C→List Nat
 | []=>[]
 | .own q::rest=>q::ownIn rest
 | _::rest=>ownIn rest
def boxOwns:List Blk→List Nat
 | []=>[]
 | .box cs::rest=>ownIn cs++boxOwns rest
 | _::rest=>boxOwns rest
def initN (vs:List V) (bs:List Blk):St:=freshAll (boxOwns bs) (initSt vs bs)

section
variable {P:Program} {tab:Tab} {Γ:Ctx} {N:Nat} {μ:Mu} {w:World} {S:Nat→Prop}

theorem fresh1_sound {r:Nat} {st:St} {a:Act} (R:StRel tab N st.env st.mem a w μ S) (hF:Fresh st.base st.mem) :
  ∃ μ',StRel tab N (fresh1 r st).env (fresh1 r st).mem a w μ' S∧Fresh (fresh1 r st).base (fresh1 r st).mem∧Ext μ (look st.mem) w S μ' (look (fresh1 r st).mem) w S:=by
 unfold fresh1
 split
 ·rename_i t l hl
  obtain ⟨n,hn⟩:∃ n,st.base=n:=⟨_,rfl⟩
  rw [hn] at hF ⊢
  have hrn:r≠n:=fun e=>by
   have:=hF n (Nat.le_refl n)
   rw [← e,hl] at this; cases this
  have hm:look ((r,Blk.dead)::(n,.arr t l)::st.mem.map fun p=>(p.1,p.2.ren (frN r n)))=fun q=>if q=r then some .dead else if q=n then some (.arr t l) else (look st.mem q).map (Blk.ren (frN r n)):=by
   funext q
   by_cases e:q=r
   ·subst e; simp [look,Nat.beq_refl]
   ·by_cases e2:q=n
    ·subst e2; simp [look,Nat.beq_refl,beq_ne e,e]
    ·simp [look,beq_ne e,beq_ne e2,look_map,e,e2]
  have hfr:frN r n r=n:=by unfold frN; simp
  have hfo:∀ q,q≠r→frN r n q=q:=fun q h=>by unfold frN; rw [beq_ne (r:=q) (q:=r) (Ne.symm h)]
  have hren:∀ q,Renames μ (look st.mem) (fun q=>if q=n then μ r else μ q) (fun q=>if q=r then some .dead else if q=n then some (.arr t l) else (look st.mem q).map (Blk.ren (frN r n))) (frN r n) q:=by
   intro q h0
   by_cases e:q=r
   ·subst e
    rw [hfr]
    simp only [if_neg (Ne.symm hrn),if_true]
    exact ⟨fun h=>by simp at h,fun B2 h _=>by cases h; exact ⟨_,hl,rfl,trivial⟩⟩
   ·rw [hfo q e]
    have e2:q≠n:=fun e2=>h0 (by rw [e2]; exact hF n (Nat.le_refl n))
    simp only [if_neg e,if_neg e2]
    obtain ⟨B,hB⟩:=exists_of_ne h0
    rw [hB]
    refine ⟨fun h=>by simp at h,fun B2 h ha=>?_⟩
    cases h
    refine ⟨B,rfl,?_,trivial⟩
    cases B with
    | box cs=>trivial
    | arr t l=>rfl
    | arx t l cs=>exact ⟨rfl,rfl⟩
    | set ks=>trivial
    | dead=>exact ha.elim
  have hback:∀ q B,(if q=r then some Blk.dead else if q=n then some (.arr t l) else (look st.mem q).map (Blk.ren (frN r n)))=some B→B.alive→∃ q0 B0,q0=(if q=n then r else q)∧look st.mem q0=some B0∧B0.alive∧B=B0.ren (frN r n)∧(if q=n then μ r else μ q)=μ q0:=by
   intro q B h ha
   by_cases e:q=r
   ·rw [if_pos e] at h; cases h; exact ha.elim
   ·rw [if_neg e] at h
    by_cases e2:q=n
    ·rw [if_pos e2] at h; cases h
     exact ⟨r,_,by rw [if_pos e2],hl,trivial,rfl,by rw [if_pos e2]⟩
    ·rw [if_neg e2] at h
     cases hB:look st.mem q with
     | none=>rw [hB] at h; cases h
     | some B0 =>
      rw [hB] at h; cases h
      exact ⟨q,B0,by rw [if_neg e2],hB,alive_ren.1 ha,rfl,by rw [if_neg e2]⟩
  refine ⟨fun q=>if q=n then μ r else μ q,⟨R.size,R.defers,?_,?_⟩,?_,?_⟩
  ·rw [hm]
   refine ⟨fun q B hB ha=>?_,fun q q' hne hq hq' lo lo' b h1 h2 h3=>?_,fun q hq lo b h1 h2=>?_,R.inv.lt,R.inv.pow⟩
   ·obtain ⟨q0,B0,_,h1,h2,h3,h4⟩:=hback q B hB ha
    obtain ⟨lo,g1,g2⟩:=R.inv.rel q0 B0 h1 h2
    refine ⟨lo,h4.trans g1,?_⟩
    rw [h3]
    exact g2.ren fun q _=>hren q
   ·obtain ⟨B,hB,ha⟩:=hq
    obtain ⟨B',hB',ha'⟩:=hq'
    obtain ⟨q0,B0,e1,f1,f2,_,f4⟩:=hback q B hB ha
    obtain ⟨q1,B1,e2,g1,g2,_,g4⟩:=hback q' B' hB' ha'
    have nr:q≠r:=fun e=>by simp only [if_pos e] at hB; cases hB; exact ha.elim
    have nr':q'≠r:=fun e=>by simp only [if_pos e] at hB'; cases hB'; exact ha'.elim
    refine R.inv.inj q0 q1 (fun e=>?_) ⟨B0,f1,f2⟩ ⟨B1,g1,g2⟩ lo lo' b (f4.symm.trans h1) (g4.symm.trans h2) h3
    rw [e1,e2] at e
    by_cases c:q=n
    ·rw [if_pos c] at e
     by_cases c':q'=n
     ·exact hne (c.trans c'.symm)
     ·rw [if_neg c'] at e; exact nr' e.symm
    ·rw [if_neg c] at e
     by_cases c':q'=n
     ·rw [if_pos c'] at e; exact nr e
     ·rw [if_neg c'] at e; exact hne e
   ·obtain ⟨B,hB,ha⟩:=hq
    obtain ⟨q0,B0,_,f1,f2,_,f4⟩:=hback q B hB ha
    exact R.inv.sep q0 ⟨B0,f1,f2⟩ lo b (f4.symm.trans h1) h2
  ·intro q v hv
   rw [look_mapV] at hv
   cases hv0:look st.env q with
   | none=>rw [hv0] at hv; cases hv
   | some v0 =>
    rw [hv0] at hv; cases hv
    obtain ⟨g1,g2⟩:=R.env q v0 hv0
    rw [hm]
    refine ⟨g1.ren fun q _=>hren q,fun hu=>g2 ?_⟩
    cases v0 with
    | one c=>cases c<;>simp [V.ren,C.ren] at hu ⊢
    | agg cs=>simp [V.ren] at hu
    | tup vs=>simp [V.ren] at hu
  ·intro q hq
   rw [hm]
   have h1:q≠r:=fun e=>by
    have hq':n+1≤q:=hq
    have:=hF q (by omega)
    rw [e,hl] at this; cases this
   have hq':n+1≤q:=hq
   show (if q=r then some Blk.dead else if q=n then some (.arr t l) else (look st.mem q).map (Blk.ren (frN r n)))=none
   rw [if_neg h1,if_neg (by omega),hF q (by omega)]; rfl
  ·rw [hm]
   refine ⟨fun q h0=>?_,fun q B B' hB hB'=>?_,fun _ h=>h,Nat.le_refl _,fun _ _ _=>rfl,fun _ h=>.inl h,fun b hb=>.inl ?_,rfl,rfl,rfl⟩
   ·by_cases e:q=r
    ·simp [e]
    ·by_cases e2:q=n
     ·simp [e2,Ne.symm hrn]
     ·simp only [if_neg e,if_neg e2]
      obtain ⟨B,hB⟩:=exists_of_ne h0
      rw [hB]; simp
   ·have e2:q≠n:=fun e=>by rw [e,hF n (Nat.le_refl n)] at hB; cases hB
    by_cases e:q=r
    ·simp only [if_pos e] at hB'
     cases hB'
     refine ⟨by cases B<;>trivial,fun hlv=>?_⟩
     obtain ⟨B2,h2,ha⟩:=hlv
     simp only [if_pos e] at h2
     cases h2; exact ha.elim
    ·simp only [if_neg e,if_neg e2] at hB'
     rw [hB] at hB'; cases hB'
     refine ⟨?_,fun _=>by simp only [if_neg e2]⟩
     cases B<;>trivial
   ·obtain ⟨q,lo,⟨B,hB,ha⟩,h1,h2⟩:=hb
    obtain ⟨q0,B0,_,f1,f2,_,f4⟩:=hback q B hB ha
    exact ⟨q0,lo,⟨B0,f1,f2⟩,f4.symm.trans h1,h2⟩
 ·exact ⟨μ,R,hF,Ext.refl⟩

theorem freshAll_good {μ0:Mu} {mem0:MemF} {w0:World} {S0:Nat→Prop} {a:Act}:∀ (rs:List Nat) {st:St},Good tab N μ0 mem0 w0 S0 st a w→Good tab N μ0 mem0 w0 S0 (freshAll rs st) a w
 | [],_,G=>G
 | r::rs,st,⟨μ,S,R,hF,E⟩=>by
  obtain ⟨μ',R',F',E'⟩:=fresh1_sound (r:=r) R hF
  exact freshAll_good rs ⟨μ',S,R',F',E.trans E'⟩
end
end Vm
end Go.Proofs.YtlbppjmekiemiacGreatDoor


/- The executor on data: a function's contract from its run. No condition. -/
namespace Go.Proofs.YtlbppjmekiemiacGreatDoor
namespace Vm
section
variable {P:Program} {tab:Tab} {Γ:Ctx} {N:Nat}

def notUndef:List V→Bool
 | []=>true
 | .one .undef::_=>false
 | _::rest=>notUndef rest

theorem look_initEnv:∀ (vs:List V) (i t:Nat),look (initEnv i vs) t=if i≤t then vs[t-i]? else none
 | [],i,t=>by simp [initEnv,look]
 | v::vs,i,t=>by
  by_cases e:t=i
  ·subst e; simp [initEnv,look,Nat.beq_refl]
  ·simp only [initEnv,look,beq_ne e,look_initEnv vs]
   by_cases h:i≤t
   ·have h1:i+1≤t:=by omega
    rw [if_pos h,if_pos h1,show t-i=(t-(i+1))+1 by omega]
    simp
   ·rw [if_neg h,if_neg (by omega)]

theorem notUndef_spec:∀ {vs:List V},notUndef vs=true→∀ v∈vs,v≠.one .undef
 | [],_,v,h=>by cases h
 | u::vs,hs,v,h=>by
  have key:notUndef vs=true→u≠.one .undef→v≠.one .undef:=fun h1 h2=>by
   rcases List.mem_cons.1 h with rfl | h
   ·exact h2
   ·exact notUndef_spec h1 v h
  cases u with
  | one c=>cases c<;>first | (cases hs; done) | exact key hs (fun e=>by cases e)
  | agg cs=>exact key hs (fun e=>by cases e)
  | tup us=>exact key hs (fun e=>by cases e)

theorem relVs_at {μ:Mu} {mf:MemF} {w:World} {S:Nat→Prop}:∀ {vs:List V} {xs:List Value},RelVs tab μ mf w S vs xs→∀ (i:Nat) v,vs[i]? = some v→∃ x,xs[i]? = some x∧RelV tab μ mf w S v x
 | [],_,_,i,v,hv=>by simp at hv
 | u::vs,[],h,i,v,hv=>h.elim
 | u::vs,x::xs,h,0,v,hv=>by simp at hv; subst hv; exact ⟨x,rfl,h.1⟩
 | u::vs,x::xs,h,i+1,v,hv=>by simp at hv ⊢; exact relVs_at h.2 i v hv

theorem fn_sound {f:Nat} {fn:Func} {c:Code} {vs:List V} {bs:List Blk} {fin:St→Prop} {K:V→List Blk→Prop} {m:Nat} {w:World} {S:Nat→Prop} {μ:Mu} {xs:List Value} {res:List Nat} {st0:St}
  (hst:∀ a w',Good tab fn.ntmps μ (memL bs) w S (initSt vs bs) a w'→Good tab fn.ntmps μ (memL bs) w S st0 a w')
  (hR:RegionOk P tab Γ fn.ntmps μ (memL bs) w S) (hf:P.funcs[f]? = some fn) (hb:fn.body=some c) (hB:boundC fn.ntmps c=true) (hn:vs.length≤fn.ntmps) (hu:notUndef vs=true)
  (hfin:∀ st a w1,Good tab fn.ntmps μ (memL bs) w S st a w1→fin st→∃ v bs',K v bs'∧Ends P tab fn μ bs w S v bs' a w1)
  (h:run Γ tab bs.length res fin m [.code c] st0) (I:Inv tab μ (memL bs) w S) (hx:RelVs tab μ (memL bs) w S vs xs) :
  Calls P f xs.toArray w fun e w'=>∃ v bs',K v bs'∧∃ x μ' S',e=.returned x∧Ext μ (memL bs) w S μ' (memL bs') w' S'∧Inv tab μ' (memL bs') w' S'∧RelV tab μ' (memL bs') w' S' v x:=by
 refine calls_of_wp hf hb ?_
 have hlen:=hx.len
 have hlk:look (zipFrom 0 bs)=memL bs:=look_zipFrom bs
 refine (run_sound (Q:=bodyPost P fn _) hR (fun keys st st' a w1 hc G=>canon_sound rfl hc G) (fun st a w1 G hq=>?_) m).2 c st0 _ w h hB (hst _ _ ?_)
 ·obtain ⟨v,bs',hK,x,μ',S',h1,h2,h3,h4⟩:=hfin st a w1 G hq
  obtain ⟨_,_,R,_,_⟩:=G
  have:bodyPost P fn (fun e w'=>∃ v bs',K v bs'∧∃ x μ' S',e=.returned x∧Ext μ (memL bs) w S μ' (memL bs') w' S'∧Inv tab μ' (memL bs') w' S'∧RelV tab μ' (memL bs') w' S' v x) .ret a w1 :=
   ⟨R.defers,x,h1,v,bs',hK,x,μ',S',rfl,h2,h3,h4⟩
  exact ⟨this,this⟩
 ·refine ⟨μ,S,⟨?_,rfl,?_,fun t v hv=>?_⟩,fun r hr=>?_,?_⟩
  ·simp; omega
  ·show Inv tab μ (look (zipFrom 0 bs)) w S
   rw [hlk]; exact I
  ·have hv':vs[t]? = some v:=by
    have:=look_initEnv vs 0 t
    simp only [Nat.zero_le,if_true,Nat.sub_zero] at this
    rw [← this]; exact hv
   obtain ⟨x,hx1,hx2⟩:=relVs_at hx t v hv'
   have he:Act.eval { tmps:=xs.toArray++Array.replicate (fn.ntmps-xs.toArray.size) Go.undef,defers:=[] } (.tmp t)=x:=by
    have hlt:=(List.getElem?_eq_some_iff.1 hx1).1
    simp only [Act.eval,Array.getD_eq_getD_getElem?]
    rw [Array.getElem?_append_left (by simpa using hlt)]
    simp [hx1]
   rw [he]
   show RelV tab μ (look (zipFrom 0 bs)) w S v x∧_
   rw [hlk]
   exact ⟨hx2,fun e=>absurd e (notUndef_spec hu v (List.mem_of_getElem? hv'))⟩
  ·show look (zipFrom 0 bs) r=none
   rw [hlk]
   have:bs.length≤r:=hr
   simp [memL,this]
  ·show Ext μ (memL bs) w S μ (look (zipFrom 0 bs)) w S
   rw [hlk]; exact Ext.refl
end
end Vm
end Go.Proofs.YtlbppjmekiemiacGreatDoor


/- The executor on data: what a region did, in the text's order. No condition. -/
namespace Go.Proofs.YtlbppjmekiemiacGreatDoor
namespace Vm

structure Dl where
 dst:Option Tmp
 v:V
 m:Mem
 did:Bool
 reads:List Nat

def applyD (d:Dl) (s:Env × Mem):Env × Mem:=(putE d.dst d.v s.1,d.m++s.2)

def foldD (D:Nat→Bool):Nat→List Dl→Env × Mem→Env × Mem
 | _,[],s=>s
 | i,d::ds,s=>foldD D (i+1) ds (match D i with | true=>applyD d s | false=>s)

def trsOf:Nat→List Tr→List Dl→List Tr
 | _,tr,[]=>tr
 | i,tr,d::ds=>trsOf (i+1) (match d.did with | true=>⟨i,d.reads,namesOf d.m⟩::tr | false=>tr) ds

def Wants (ops:List Oper) (o:Oper) (e:Env):Prop :=
 match o.guard with
 | none=>True
 | some (j,want)=>∃ d,(ops[j]?).bind (·.dst)=some d∧look e d=some (.one (.dat .bool want))

def Shuns (ops:List Oper) (o:Oper) (e:Env):Prop :=
 match o.guard with
 | none=>False
 | some (j,want)=>∃ d,(ops[j]?).bind (·.dst)=some d∧(look e d=some (.one (.dat .bool (!want)))∨look e d=some (.one .undef))

def Did (Γ:Ctx) (tab:Tab) (ops:List Oper) (base:Nat) (s:Env × Mem) (i:Nat) (o:Oper) (d:Dl):Prop :=
 d.dst=o.dst∧match d.did with
 | false=>d.v=.one .undef∧d.m=[]∧d.reads=[]∧Shuns ops o s.1
 | true=>Wants ops o s.1∧∃ vs p,evalAll tab s.1 (operands o)=some vs∧opX Γ tab (base+8*i) o vs (memAt s.2 d.reads)=some (p,d.v,d.m)∧under p True∧freshIn (base+8*i) s.2 d.reads d.m=true∧dstOk o.dst d.v=true

def Chain (Γ:Ctx) (tab:Tab) (ops:List Oper) (base:Nat):Nat→List Oper→List Dl→Env × Mem→Prop
 | _,[],[],_=>True
 | i,o::rest,d::ds,s=>Did Γ tab ops base s i o d∧Chain Γ tab ops base (i+1) rest ds (applyD d s)
 | _,_,_,_=>False

section
variable {P:Program} {tab:Tab} {Γ:Ctx} {N:Nat}

theorem look_putE_cong {e e':Env} (h:∀ t,look e t=look e' t) (d:Option Tmp) (v:V) (t:Nat):look (putE d v e) t=look (putE d v e') t:=by
 cases d with
 | none=>exact h t
 | some d =>
  by_cases q:t=d
  ·subst q; simp [putE,look,Nat.beq_refl]
  ·simp [putE,look,beq_ne q,h t]

theorem evalAll_cong {e e':Env}:∀ {l:List (Nat × Operand)},(∀ t∈tmpsOf (l.map (·.2)),look e t=look e' t)→evalAll tab e l=evalAll tab e' l
 | [],_=>rfl
 | (ty,o)::l,h=>by
  have h1:evalO tab e ty o=evalO tab e' ty o:=by
   cases o with
   | tmp t=>exact h t (by simp [tmpsOf])
   | _=>rfl
  have h2:evalAll tab e l=evalAll tab e' l:=evalAll_cong fun t ht=>h t (by
   cases o<;>simp [tmpsOf]<;>first | exact .inr ht | exact ht)
  simp only [evalAll,h1,h2]

theorem Wants.cong {ops:List Oper} {o:Oper} {e e':Env} (h:∀ t,look e t=look e' t) (w:Wants ops o e):Wants ops o e':=by
 unfold Wants at *
 split at w
 ·trivial
 ·obtain ⟨d,h1,h2⟩:=w
  exact ⟨d,h1,(h d).symm.trans h2⟩

theorem Shuns.cong {ops:List Oper} {o:Oper} {e e':Env} (h:∀ t,look e t=look e' t) (w:Shuns ops o e):Shuns ops o e':=by
 unfold Shuns at *
 split at w
 ·exact w
 ·obtain ⟨d,h1,h2⟩:=w
  exact ⟨d,h1,h2.imp (fun q=>(h d).symm.trans q) (fun q=>(h d).symm.trans q)⟩

theorem Did.cong {ops:List Oper} {base i:Nat} {o:Oper} {d:Dl} {e e':Env} {mm:Mem} (h:∀ t,look e t=look e' t) (w:Did Γ tab ops base (e,mm) i o d):Did Γ tab ops base (e',mm) i o d:=by
 unfold Did at *
 refine ⟨w.1,?_⟩
 have w2:=w.2
 split at w2
 ·exact ⟨w2.1,w2.2.1,w2.2.2.1,w2.2.2.2.cong h⟩
 ·obtain ⟨h0,vs,p,h1,h2⟩:=w2
  exact ⟨h0.cong h,vs,p,(evalAll_cong fun t _=>(h t).symm).trans h1,h2⟩

theorem Chain.cong {ops:List Oper} {base:Nat}:∀ {rest:List Oper} {ds:List Dl} {i:Nat} {e e':Env} {mm:Mem},(∀ t,look e t=look e' t)→Chain Γ tab ops base i rest ds (e,mm)→Chain Γ tab ops base i rest ds (e',mm)
 | [],[],_,_,_,_,_,_=>trivial
 | _o::_rest,_d::_ds,_i,_e,_e',_mm,h,w=>⟨w.1.cong h,Chain.cong (look_putE_cong h _ _) w.2⟩
 | [],_::_,_,_,_,_,_,w=>w.elim
 | _::_,[],_,_,_,_,_,w=>w.elim

def lastD:List Dl→Env × Mem→Env × Mem
 | [],s=>s
 | d::ds,s=>lastD ds (applyD d s)

theorem lastD_cong:∀ {ds:List Dl} {e e':Env} {mm:Mem},(∀ t,look e t=look e' t)→(∀ t,look (lastD ds (e,mm)).1 t=look (lastD ds (e',mm)).1 t)∧(lastD ds (e,mm)).2=(lastD ds (e',mm)).2
 | [],_,_,_,h=>⟨h,rfl⟩
 | _d::ds,_e,_e',_mm,h=>lastD_cong (ds:=ds) (look_putE_cong h _ _)
end
end Vm
end Go.Proofs.YtlbppjmekiemiacGreatDoor


/- The executor on data: from a region's condition, what each of its operations did. No condition. -/
namespace Go.Proofs.YtlbppjmekiemiacGreatDoor
namespace Vm
section
variable {P:Program} {tab:Tab} {Γ:Ctx} {N:Nat}

def Tail (Γ:Ctx) (tab:Tab) (ops:List Oper) (K:Kont) (rest:List Oper) (i:Nat) (tr:List Tr) (st:St):Prop :=
 ∃ ds,Chain Γ tab ops st.base i rest ds (st.env,st.mem)∧orderOk ops (trsOf i tr ds)=true ∧
  ∃ st',K st'∧st'.base=st.base+8*ops.length∧(∀ t,look st'.env t=look (lastD ds (st.env,st.mem)).1 t)∧st'.mem=(lastD ds (st.env,st.mem)).2

theorem Tail.cong {ops:List Oper} {K:Kont} {rest:List Oper} {i:Nat} {tr:List Tr} {st st2:St} (h:∀ t,look st.env t=look st2.env t) (hm:st.mem=st2.mem) (hb:st.base=st2.base) (H:Tail Γ tab ops K rest i tr st) :
  Tail Γ tab ops K rest i tr st2:=by
 obtain ⟨ds,h1,h2,st',k,b,e,m⟩:=H
 obtain ⟨c1,c2⟩:=lastD_cong (ds:=ds) (mm:=st.mem) h
 refine ⟨ds,?_,h2,st',k,b.trans (by rw [hb]),fun t=>(e t).trans ?_,m.trans ?_⟩
 ·rw [← hb,← hm]; exact h1.cong h
 ·rw [← hm]; exact c1 t
 ·rw [← hm]; exact c2

theorem nilTest_some {vs:List V} {K:V→Prop} (h:nilTest vs K):∃ v,K v:=by
 unfold nilTest at h
 split at h
 ·exact ⟨_,h false (fun e=>by cases e)⟩
 ·exact ⟨_,h⟩
 ·exact h.elim

theorem noNil_of:∀ {ops:List Oper},noNilTest ops=true→∀ o∈ops,isNilTest o=false
 | [],_,o,h=>by cases h
 | q::ops,hn,o,h=>by
  simp only [noNilTest] at hn
  split at hn<;>try cases hn
  rename_i hq
  rcases List.mem_cons.1 h with rfl | h
  ·exact hq
  ·exact noNil_of hn o h

theorem orderOk_spec {ops:List Oper} {tr:List Tr} (h:orderOk ops tr=true):tmpsOk ops (befores [] ops) 0 ops=true∧noNilTest ops=true∧trOk (befores [] ops) tr=true∧backOk 0 ops=true:=by
 unfold orderOk at h
 simp only at h
 split at h
 ·rename_i h1
  split at h
  ·rename_i h2
   split at h
   ·rename_i h3
    exact ⟨h1,h2,h,h3⟩
   ·cases h
  ·cases h
 ·cases h

theorem doOp_tail {ops:List Oper} {K:Kont} {o:Oper} {rest:List Oper} {i:Nat} {tr:List Tr} {st:St} {KK:List Tr→Kont} (hn:o∈ops) (h:doOp Γ tab o i tr st KK) (hw:Wants ops o st.env)
  (hK:∀ tr' st',KK tr' st'→Tail Γ tab ops K rest (i+1) tr' st'):Tail Γ tab ops K (o::rest) i tr st:=by
 unfold doOp at h
 split at h
 ·exact h.elim
 rename_i vs hev
 split at h
 ·rename_i hnil
  obtain ⟨v,hv⟩:=nilTest_some h
  obtain ⟨ds,_,h2,_⟩:=hK _ _ hv
  rw [noNil_of (orderOk_spec h2).2.1 o hn] at hnil
  cases hnil
 rename_i hnil
 rw [operandsOf_eq hnil] at hev
 simp only at h
 split at h
 ·exact h.elim
 rename_i p v m hX
 split at h
 ·rename_i hfr hdo
  obtain ⟨hp,hk⟩:=under_iff.1 h
  obtain ⟨ds,h1,h2,st',k,b,e,mm⟩:=hK _ _ hk
  have hst:(St.upd st m).put o.dst v=⟨putE o.dst v st.env,m++st.mem,st.base⟩:=by rw [put_st]; rfl
  rw [hst] at h1 b e mm
  exact ⟨⟨o.dst,v,m,true,touch o vs st.mem⟩::ds,⟨⟨rfl,hw,vs,p,hev,hX,hp,hfr,hdo⟩,h1⟩,h2,st',k,b,e,mm⟩
 ·exact h.elim

theorem skip_tail {ops:List Oper} {K:Kont} {o:Oper} {rest:List Oper} {i:Nat} {tr:List Tr} {st:St} (hw:Shuns ops o st.env) (hK:Tail Γ tab ops K rest (i+1) tr (st.put o.dst (.one .undef))):Tail Γ tab ops K (o::rest) i tr st:=by
 obtain ⟨ds,h1,h2,st',k,b,e,mm⟩:=hK
 rw [put_st] at h1 b e mm
 exact ⟨⟨o.dst,.one .undef,[],false,[]⟩::ds,⟨⟨rfl,rfl,rfl,rfl,hw⟩,h1⟩,h2,st',k,b,e,mm⟩

theorem execOps_tail {ops:List Oper} {K:Kont}:∀ (rest:List Oper) (i:Nat) (tr:List Tr) (st:St),(∀ o∈rest,o∈ops)→execOps Γ tab true ops K rest i tr st→Tail Γ tab ops K rest i tr st
 | [],i,tr,st,hn,h=>by
  unfold execOps at h
  simp only at h
  split at h
  ·rename_i ho
   exact ⟨[],trivial,ho,_,h,rfl,fun _=>rfl,rfl⟩
  ·exact h.elim
 | o::rest,i,tr,st,hn,h=>by
  have hno:=hn o (List.mem_cons_self ..)
  have next:∀ tr' st',execOps Γ tab true ops K rest (i+1) tr' st'→Tail Γ tab ops K rest (i+1) tr' st':=fun tr' st' hk=>execOps_tail rest (i+1) tr' st' (fun q hq=>hn q (List.mem_cons_of_mem _ hq)) hk
  unfold execOps prepK at h
  simp only at h
  split at h
  ·rename_i hg
   exact doOp_tail hno h (by simp [Wants,hg]) next
  ·rename_i j want hg
   split at h
   ·exact h.elim
   rename_i d hd
   split at h
   ·rename_i b hb
    have hsame:∀ b',look st.env d=some (.one (.dat .bool b'))→∀ t,look (st.put (some d) (.one (.dat .bool b'))).env t=look st.env t:=fun b' hb' t=>by
     rw [put_st]; exact putE_same hb' t
    have back:∀ b',look st.env d=some (.one (.dat .bool b'))→Tail Γ tab ops K (o::rest) i tr (st.put (some d) (.one (.dat .bool b')))→Tail Γ tab ops K (o::rest) i tr st:=fun b' hb' H =>
     H.cong (hsame b' hb') (by rw [put_st]) (by rw [put_st])
    cases b with
    | true =>
     simp only [br] at h
     refine back true hb ?_
     cases want with
     | true=>exact doOp_tail hno h (by simp only [Wants,hg]; exact ⟨d,hd,(hsame true hb d).trans hb⟩) next
     | false=>exact skip_tail (by simp only [Shuns,hg]; exact ⟨d,hd,.inl ((hsame true hb d).trans hb)⟩) (next _ _ h)
    | false =>
     simp only [br] at h
     refine back false hb ?_
     cases want with
     | true=>exact skip_tail (by simp only [Shuns,hg]; exact ⟨d,hd,.inl ((hsame false hb d).trans hb)⟩) (next _ _ h)
     | false=>exact doOp_tail hno h (by simp only [Wants,hg]; exact ⟨d,hd,(hsame false hb d).trans hb⟩) next
   ·rename_i hb
    exact skip_tail (by simp only [Shuns,hg]; exact ⟨d,hd,.inr hb⟩) (next _ _ h)
   ·exact h.elim
end
end Vm
end Go.Proofs.YtlbppjmekiemiacGreatDoor


/- The executor on data: a region whose order is drawn: plain facts of folds and of what must come before what. No condition. -/
namespace Go.Proofs.YtlbppjmekiemiacGreatDoor
namespace Vm

def foldP {α:Type} (D:Nat→Bool):Nat→List (List (Nat × α))→List (Nat × α)→List (Nat × α)
 | _,[],s=>s
 | i,p::ps,s=>foldP D (i+1) ps (match D i with | true=>p++s | false=>s)

section
variable {α:Type} {D D':Nat→Bool} {t:Nat}

theorem look_app:∀ (m s:List (Nat × α)) (r:Nat),look (m++s) r=match look m r with | some v=>some v | none=>look s r
 | [],s,r=>rfl
 | (q,b)::m,s,r=>by
  by_cases e:r=q
  ·subst e; simp [look,Nat.beq_refl]
  ·simp [look,beq_ne e,look_app m s r]

theorem foldP_cong:∀ {ps:List (List (Nat × α))} {i:Nat} {s s':List (Nat × α)},(∀ k p,ps[k]? = some p→look p t≠none→D (i+k)=D' (i+k))→look s t=look s' t→look (foldP D i ps s) t=look (foldP D' i ps s') t
 | [],_,_,_,_,hs=>hs
 | p::ps,i,s,s',h,hs=>by
  unfold foldP
  refine foldP_cong (fun k q hk hq=>?_) ?_
  ·have:=h (k+1) q (by simpa using hk) hq
   rwa [show i+(k+1)=i+1+k by omega] at this
  ·cases e:look p t with
   | none =>
    have key:∀ x:List (Nat × α),look (p++x) t=look x t:=fun x=>by rw [look_app,e]
    cases D i<;>cases D' i<;>simp [key,hs]
   | some v =>
    have h0:=h 0 p rfl (by simp [e])
    simp only [Nat.add_zero] at h0
    rw [h0]
    cases D' i
    ·exact hs
    ·show look (p++s) t=look (p++s') t
     rw [look_app,look_app,e]

theorem foldP_none:∀ {ps:List (List (Nat × α))} {i:Nat} {s:List (Nat × α)},foldP (fun _=>false) i ps s=s
 | [],_,_=>rfl
 | _::ps,i,s=>by unfold foldP; exact foldP_none

theorem foldP_ins:∀ {ps:List (List (Nat × α))} {i j:Nat} {p:List (Nat × α)} {s:List (Nat × α)},ps[j]? = some p→(∀ x,x≠i+j→D' x=D x)→D (i+j)=false→D' (i+j)=true →
  (∀ k q,j<k→ps[k]? = some q→look q t≠none→look p t≠none→D (i+k)=false)→look (foldP D' i ps s) t=look (p++foldP D i ps s) t
 | [],i,j,p,s,hj,_,_,_,_=>by simp at hj
 | q::ps,i,0,p,s,hj,hD,h0,h1,hk=>by
  simp only [List.getElem?_cons_zero,Option.some.injEq] at hj
  subst hj
  simp only [Nat.add_zero] at h0 h1 hD
  unfold foldP
  simp only [h0,h1]
  rw [look_app]
  cases e:look q t with
  | none =>
   show _=look (foldP D (i+1) ps s) t
   refine foldP_cong (fun k x hx he=>hD _ (by omega)) ?_
   rw [look_app,e]
  | some v =>
   show _=some v
   have:look (foldP D' (i+1) ps (q++s)) t=look (foldP (fun _=>false) (i+1) ps (q++s)) t:=by
    refine foldP_cong (fun k x hx he=>?_) rfl
    rw [hD _ (by omega)]
    have:=hk (k+1) x (by omega) (by simpa using hx) he (by simp [e])
    rwa [show i+(k+1)=i+1+k by omega] at this
   rw [this,foldP_none,look_app,e]
 | q::ps,i,j+1,p,s,hj,hD,h0,h1,hk=>by
  unfold foldP
  rw [hD i (by omega)]
  rw [show i+(j+1)=i+1+j by omega] at h0 h1 hD
  refine foldP_ins (by simpa using hj) hD h0 h1 (fun k x hlt hx h2 h3=>?_)
  have:=hk (k+1) x (by omega) (by simpa using hx) h2 h3
  rwa [show i+(k+1)=i+1+k by omega] at this
end

def pE (d:Dl):Env:=match d.dst with | some t=>[(t,d.v)] | none=>[]

theorem applyD_1 (d:Dl) (s:Env × Mem):(applyD d s).1=pE d++s.1:=by
 cases h:d.dst<;>simp [applyD,pE,putE,h]

theorem foldD_1 (D:Nat→Bool):∀ (ds:List Dl) (i:Nat) (s:Env × Mem),(foldD D i ds s).1=foldP D i (ds.map pE) s.1
 | [],_,_=>rfl
 | d::ds,i,s=>by
  unfold foldD
  rw [foldD_1 D ds]
  simp only [List.map_cons,foldP]
  cases D i
  ·rfl
  ·rw [applyD_1]

theorem foldD_2 (D:Nat→Bool):∀ (ds:List Dl) (i:Nat) (s:Env × Mem),(foldD D i ds s).2=foldP D i (ds.map (·.m)) s.2
 | [],_,_=>rfl
 | d::ds,i,s=>by
  unfold foldD
  rw [foldD_2 D ds]
  simp only [List.map_cons,foldP]
  cases D i<;>rfl

theorem look_pE (d:Dl) (t:Nat):look (pE d) t≠none→d.dst=some t:=by
 intro h
 cases hd:d.dst with
 | none=>simp [pE,hd,look] at h
 | some u =>
  by_cases e:t=u
  ·rw [e]
  ·simp [pE,hd,look,beq_ne e] at h

theorem look_names {α:Type}:∀ (m:List (Nat × α)) (r:Nat),look m r≠none↔r∈m.map (·.1)
 | [],r=>by simp [look]
 | (q,b)::m,r=>by
  by_cases e:r=q
  ·subst e; simp [look,Nat.beq_refl]
  ·simp [look,beq_ne e,look_names m r,e]

theorem foldD_all:∀ (ds:List Dl) (i:Nat) (D:Nat→Bool) (s:Env × Mem),(∀ k,k<ds.length→D (i+k)=true)→foldD D i ds s=lastD ds s
 | [],_,_,_,_=>rfl
 | d::ds,i,D,s,h=>by
  unfold foldD lastD
  have:=h 0 (by simp)
  simp only [Nat.add_zero] at this
  rw [this]
  exact foldD_all ds (i+1) D _ fun k hk=>by
   have:=h (k+1) (by simpa using hk)
   rwa [show i+(k+1)=i+1+k by omega] at this

theorem foldD_none:∀ (ds:List Dl) (i:Nat) (D:Nat→Bool) (s:Env × Mem),(∀ k,k<ds.length→D (i+k)=false)→foldD D i ds s=s
 | [],_,_,_,_=>rfl
 | d::ds,i,D,s,h=>by
  unfold foldD
  have:=h 0 (by simp)
  simp only [Nat.add_zero] at this
  rw [this]
  exact foldD_none ds (i+1) D _ fun k hk=>by
   have:=h (k+1) (by simpa using hk)
   rwa [show i+(k+1)=i+1+k by omega] at this

section
variable {P:Program} {tab:Tab} {Γ:Ctx} {N:Nat}

theorem Chain.len {ops:List Oper} {base:Nat}:∀ {rest:List Oper} {ds:List Dl} {i:Nat} {s:Env × Mem},Chain Γ tab ops base i rest ds s→ds.length=rest.length
 | [],[],_,_,_=>rfl
 | o::rest,d::ds,i,s,h=>by simp [Chain.len h.2]
 | [],_::_,_,_,h=>h.elim
 | _::_,[],_,_,h=>h.elim

theorem Chain.at {ops:List Oper} {base:Nat}:∀ {rest:List Oper} {ds:List Dl} {i:Nat} {s:Env × Mem},Chain Γ tab ops base i rest ds s→∀ k o d,rest[k]? = some o→ds[k]? = some d →
  Did Γ tab ops base (foldD (fun x=>decide (x<i+k)) i ds s) (i+k) o d
 | [],_,_,_,_,k,o,d,ho,hd=>by simp at ho
 | _::_,[],_,_,h,k,o,d,ho,hd=>h.elim
 | o'::rest,d'::ds,i,s,h,0,o,d,ho,hd=>by
  simp only [List.getElem?_cons_zero,Option.some.injEq] at ho hd
  subst ho hd
  rw [foldD_none _ _ _ _ (fun k hk=>by simp)]
  exact h.1
 | o'::rest,d'::ds,i,s,h,k+1,o,d,ho,hd=>by
  have:=Chain.at h.2 k o d (by simpa using ho) (by simpa using hd)
  unfold foldD
  rw [show i+(k+1)=i+1+k by omega]
  have hi:decide (i<i+1+k)=true:=by simp; omega
  rw [hi]
  exact this

theorem memAt_cong {m m':Mem}:∀ {ns:List Nat},(∀ r∈ns,look m r=look m' r)→memAt m ns=memAt m' ns
 | [],_=>rfl
 | r::ns,h=>by
  have h1:=h r (List.mem_cons_self ..)
  have h2:=memAt_cong (ns:=ns) fun q hq=>h q (List.mem_cons_of_mem _ hq)
  simp only [memAt,List.map_cons] at *
  rw [h1,h2]

theorem freshIn_cong {base:Nat} {names:List Nat} {m m':Mem}:∀ {x:Mem},(∀ r∈x.map (·.1),look m r=look m' r)→freshIn base m names x=freshIn base m' names x
 | [],_=>rfl
 | (r,b)::x,h=>by
  simp only [freshIn]
  rw [h r (by simp),freshIn_cong (x:=x) fun q hq=>h q (by simp at hq ⊢; exact .inr hq)]

theorem Did.move {ops:List Oper} {base j:Nat} {o:Oper} {d:Dl} {s s':Env × Mem} (hn:isNilTest o=false) (h:Did Γ tab ops base s j o d) (he:∀ t∈usedBy ops o,look s.1 t=look s'.1 t)
  (hm:d.did=true→∀ r∈d.reads++namesOf d.m,look s.2 r=look s'.2 r):Did Γ tab ops base s' j o d:=by
 have hop:=operandsOf_eq hn
 have hg:∀ jj want dd,o.guard=some (jj,want)→(ops[jj]?).bind (·.dst)=some dd→look s.1 dd=look s'.1 dd:=fun jj want dd h1 h2=>he dd (by
  unfold usedBy
  rw [h1]
  simp [h2])
 unfold Did at *
 refine ⟨h.1,?_⟩
 have h2:=h.2
 cases hdid:d.did with
 | false =>
  rw [hdid] at h2
  refine ⟨h2.1,h2.2.1,h2.2.2.1,?_⟩
  have hs:=h2.2.2.2
  unfold Shuns at *
  split at hs
  ·exact hs
  ·rename_i jj want hgu
   obtain ⟨dd,q1,q2⟩:=hs
   refine ⟨dd,q1,?_⟩
   rw [← hg jj want dd hgu q1]
   exact q2
 | true =>
  rw [hdid] at h2
  obtain ⟨hw,vs,p,h3,h4,h5,h6,h7⟩:=h2
  have hm':=hm hdid
  refine ⟨?_,vs,p,?_,?_,h5,?_,h7⟩
  ·unfold Wants at *
   split at hw
   ·trivial
   ·rename_i jj want hgu
    obtain ⟨dd,q1,q2⟩:=hw
    exact ⟨dd,q1,by rw [← hg jj want dd hgu q1]; exact q2⟩
  ·rw [← h3]
   exact (evalAll_cong fun t ht=>he t (by unfold usedBy; rw [hop]; exact List.mem_append_left _ ht)).symm
  ·rw [← h4,memAt_cong fun r hr=>hm' r (List.mem_append_left _ hr)]
  ·rw [← h6,freshIn_cong fun r hr=>hm' r (List.mem_append_right _ hr)]

theorem meets_iff:∀ (a l:List Nat),meets a l=true↔∃ r∈a,r∈l
 | [],l=>by simp [meets]
 | r::a,l=>by
  simp only [meets]
  cases h:memb l r with
  | true=>simp [(memb_iff l r).1 h]
  | false =>
   have:r∉l:=fun hr=>by rw [(memb_iff l r).2 hr] at h; cases h
   simp [meets_iff a l,this]

theorem clash_iff (ops:List Oper) (a b:Oper):clash ops a b=true↔(∃ t∈a.dst.toList,t∈usedBy ops b++b.dst.toList)∨∃ t∈b.dst.toList,t∈usedBy ops a:=by
 unfold clash
 split
 ·rename_i h; rw [← meets_iff,h]; simp
 ·rename_i h; rw [← meets_iff,← meets_iff,h]; simp

theorem trClash_iff (a b:Tr):trClash a b=true↔(∃ t∈a.writes,t∈b.reads++b.writes)∨∃ t∈b.writes,t∈a.reads:=by
 unfold trClash
 split
 ·rename_i h; rw [← meets_iff,h]; simp
 ·rename_i h; rw [← meets_iff,← meets_iff,h]; simp

theorem tmpsOkAt_spec {ops:List Oper} {ms:List Nat} {o:Oper} {j:Nat}:∀ {l:List Oper} {i:Nat},tmpsOkAt ops ms o j i l=true→∀ k a,l[k]? = some a→i+k<j→clash ops a o=true→isBefore ms (i+k) j=true
 | [],i,_,k,a,ha,_,_=>by simp at ha
 | b::l,i,h,k,a,ha,hlt,hc=>by
  simp only [tmpsOkAt] at h
  split at h
  ·rename_i hle; have:=Nat.le_of_ble_eq_true hle; omega
  ·have hrest:clash ops b o=true→isBefore ms i j=true:=fun hcb=>by
    rw [hcb] at h
    simp only at h
    split at h
    ·assumption
    ·cases h
   have hnext:tmpsOkAt ops ms o j (i+1) l=true:=by
    split at h
    ·split at h
     ·exact h
     ·cases h
    ·exact h
   cases k with
   | zero=>simp at ha; subst ha; exact hrest hc
   | succ k =>
    have:=tmpsOkAt_spec hnext k a (by simpa using ha) (by omega) hc
    rwa [show i+(k+1)=i+1+k by omega]

theorem tmpsOk_spec {ops:List Oper} {ms:List Nat}:∀ {l:List Oper} {j:Nat},tmpsOk ops ms j l=true→∀ k o,l[k]? = some o→tmpsOkAt ops ms o (j+k) 0 ops=true
 | [],_,_,k,o,ho=>by simp at ho
 | a::l,j,h,k,o,ho=>by
  simp only [tmpsOk] at h
  split at h
  ·rename_i h1
   cases k with
   | zero=>simp at ho; subst ho; exact h1
   | succ k =>
    have:=tmpsOk_spec h k o (by simpa using ho)
    rwa [show j+(k+1)=j+1+k by omega]
  ·cases h

theorem trOkAt_spec {ms:List Nat} {b:Tr}:∀ {l:List Tr},trOkAt ms b l=true→∀ a∈l,trClash a b=true→isBefore ms a.i b.i=true
 | [],_,a,ha,_=>by cases ha
 | q::l,h,a,ha,hc=>by
  simp only [trOkAt] at h
  split at h
  ·rename_i hq
   split at h
   ·rename_i hb
    rcases List.mem_cons.1 ha with rfl | ha
    ·exact hb
    ·exact trOkAt_spec h a ha hc
   ·cases h
  ·rename_i hq
   rcases List.mem_cons.1 ha with rfl | ha
   ·rw [hc] at hq; cases hq
   ·exact trOkAt_spec h a ha hc

theorem trOk_tail {ms:List Nat} {b:Tr} {l:List Tr} (h:trOk ms (b::l)=true):trOk ms l=true∧trOkAt ms b l=true:=by
 simp only [trOk] at h
 split at h
 ·rename_i h1; exact ⟨h,h1⟩
 ·cases h

theorem trOk_of {ms:List Nat}:∀ {ds:List Dl} {i:Nat} {tr:List Tr},trOk ms (trsOf i tr ds)=true→trOk ms tr=true ∧
  (∀ a∈tr,∀ k d,ds[k]? = some d→d.did=true→trClash a ⟨i+k,d.reads,namesOf d.m⟩=true→isBefore ms a.i (i+k)=true) ∧
  ∀ k k' d d',k<k'→ds[k]? = some d→ds[k']? = some d'→d.did=true→d'.did=true→trClash ⟨i+k,d.reads,namesOf d.m⟩ ⟨i+k',d'.reads,namesOf d'.m⟩=true→isBefore ms (i+k) (i+k')=true
 | [],i,tr,h=>⟨h,fun a _ k d hd=>by simp at hd,fun k k' d d' _ hd=>by simp at hd⟩
 | d0::ds,i,tr,h=>by
  unfold trsOf at h
  obtain ⟨h1,h2,h3⟩:=trOk_of h
  cases hd0:d0.did with
  | false =>
   rw [hd0] at h1 h2
   refine ⟨h1,fun a ha k d hd hdid hc=>?_,fun k k' d d' hlt hd hd' e e' hc=>?_⟩
   ·cases k with
    | zero=>simp at hd; subst hd; rw [hd0] at hdid; cases hdid
    | succ k =>
     rw [show i+(k+1)=i+1+k by omega] at hc ⊢
     exact h2 a ha k d (by simpa using hd) hdid hc
   ·cases k' with
    | zero=>omega
    | succ k' =>
     cases k with
     | zero=>simp at hd; subst hd; rw [hd0] at e; cases e
     | succ k =>
      rw [show i+(k+1)=i+1+k by omega,show i+(k'+1)=i+1+k' by omega] at hc ⊢
      exact h3 k k' d d' (by omega) (by simpa using hd) (by simpa using hd') e e' hc
  | true =>
   rw [hd0] at h1 h2
   obtain ⟨h4,h5⟩:=trOk_tail h1
   refine ⟨h4,fun a ha k d hd hdid hc=>?_,fun k k' d d' hlt hd hd' e e' hc=>?_⟩
   ·cases k with
    | zero=>simp at hd; subst hd; exact trOkAt_spec h5 a ha hc
    | succ k =>
     rw [show i+(k+1)=i+1+k by omega] at hc ⊢
     exact h2 a (List.mem_cons_of_mem _ ha) k d (by simpa using hd) hdid hc
   ·cases k' with
    | zero=>omega
    | succ k' =>
     cases k with
     | zero =>
      simp at hd; subst hd
      simp only [Nat.add_zero] at hc ⊢
      rw [show i+(k'+1)=i+1+k' by omega] at hc ⊢
      exact h2 _ (List.mem_cons_self ..) k' d' (by simpa using hd') e' hc
     | succ k =>
      rw [show i+(k+1)=i+1+k by omega,show i+(k'+1)=i+1+k' by omega] at hc ⊢
      exact h3 k k' d d' (by omega) (by simpa using hd) (by simpa using hd') e e' hc

theorem forced_eq {β:Type} (n:Nat) (k:Nat→β):forced n k=k n:=by cases n<;>rfl

theorem bitsOf_spec {ms:List Nat} {i:Nat}:∀ {es:List Edge} {acc:Nat},Nat.testBit (bitsOf acc ms es) i=true→Nat.testBit acc i=true∨∃ e∈es,Region.binds .any e=true∧(i=e.on∨Nat.testBit ((ms[e.on]?).getD 0) i=true)
 | [],acc,h=>.inl h
 | e::es,acc,h=>by
  simp only [bitsOf] at h
  split at h
  ·rename_i hb
   rcases bitsOf_spec h with h | ⟨e',h1,h2⟩
   ·rw [Nat.testBit_or,Nat.testBit_or,Bool.or_eq_true,Bool.or_eq_true] at h
    rcases h with (h | h) | h
    ·exact .inl h
    ·rw [Nat.testBit_two_pow] at h
     simp at h
     exact .inr ⟨e,List.mem_cons_self ..,hb,.inl h.symm⟩
    ·exact .inr ⟨e,List.mem_cons_self ..,hb,.inr h⟩
   ·exact .inr ⟨e',List.mem_cons_of_mem _ h1,h2⟩
  ·rcases bitsOf_spec h with h | ⟨e',h1,h2⟩
   ·exact .inl h
   ·exact .inr ⟨e',List.mem_cons_of_mem _ h1,h2⟩

theorem befores_pre:∀ {l:List Oper} {ms:List Nat},(befores ms l).length=ms.length+l.length∧∀ k,k<ms.length→(befores ms l)[k]? = ms[k]?
 | [],ms=>⟨by simp [befores],fun _ _=>rfl⟩
 | o::l,ms=>by
  simp only [befores,forced_eq]
  obtain ⟨h1,h2⟩:=befores_pre (l:=l) (ms:=ms++[bitsOf 0 ms o.after.toList])
  refine ⟨by rw [h1]; simp; omega,fun k hk=>?_⟩
  rw [h2 k (by simp; omega),List.getElem?_append_left hk]

theorem befores_spec:∀ {l:List Oper} {ms:List Nat},∀ k o,l[k]? = some o→∀ i,isBefore (befores ms l) i (ms.length+k)=true →
  ∃ e∈o.after,Region.binds .any e=true∧(i=e.on∨isBefore (befores ms l) i e.on=true)
 | [],ms,k,o,ho,i,h=>by simp at ho
 | o'::l,ms,0,o,ho,i,h=>by
  simp at ho; subst ho
  simp only [befores,forced_eq] at h ⊢
  obtain ⟨h1,h2⟩:=befores_pre (l:=l) (ms:=ms++[bitsOf 0 ms o'.after.toList])
  unfold isBefore at h
  rw [Nat.add_zero,h2 ms.length (by simp)] at h
  simp at h
  rcases bitsOf_spec h with h | ⟨e,he,hb,hi⟩
  ·simp at h
  ·refine ⟨e,by simpa using he,hb,hi.imp id fun hi=>?_⟩
   unfold isBefore
   by_cases hlt:e.on<ms.length
   ·rw [h2 e.on (by simp; omega),List.getElem?_append_left hlt]; exact hi
   ·rw [List.getElem?_eq_none (by omega)] at hi; simp at hi
 | o'::l,ms,k+1,o,ho,i,h=>by
  simp only [befores,forced_eq] at h ⊢
  have:=befores_spec (l:=l) (ms:=ms++[bitsOf 0 ms o'.after.toList]) k o (by simpa using ho) i (by
   rw [show (ms++[bitsOf 0 ms o'.after.toList]).length+k=ms.length+(k+1) by simp; omega]; exact h)
  exact this

theorem backE_spec {j:Nat}:∀ {es:List Edge},backE j es=true→∀ e∈es,Region.binds .any e=true→e.on<j
 | [],_,e,he,_=>by cases he
 | q::es,h,e,he,hb=>by
  simp only [backE] at h
  split at h
  ·split at h
   ·rename_i h1
    rcases List.mem_cons.1 he with rfl | he
    ·exact Nat.le_of_ble_eq_true h1
    ·exact backE_spec h e he hb
   ·cases h
  ·rename_i hq
   rcases List.mem_cons.1 he with rfl | he
   ·rw [hb] at hq; cases hq
   ·exact backE_spec h e he hb

theorem backOk_spec:∀ {l:List Oper} {j:Nat},backOk j l=true→∀ k o,l[k]? = some o→∀ e∈o.after,Region.binds .any e=true→e.on<j+k
 | [],_,_,k,o,ho=>by simp at ho
 | q::l,j,h,k,o,ho=>by
  simp only [backOk] at h
  split at h
  ·rename_i h1
   cases k with
   | zero=>simp at ho; subst ho; intro e he hb; exact backE_spec h1 e (by simpa using he) hb
   | succ k =>
    intro e he hb
    have:=backOk_spec h k o (by simpa using ho) e he hb
    omega
  ·cases h
end
end Vm
end Go.Proofs.YtlbppjmekiemiacGreatDoor


/- The executor on data: a region, whatever its order: the premise RegionOk. No condition. -/
namespace Go.Proofs.YtlbppjmekiemiacGreatDoor
namespace Vm
section
variable {P:Program} {tab:Tab} {Γ:Ctx} {N:Nat} {μ0:Mu} {w0:World} {S0:Nat→Prop}

theorem StRel.look_mem {env:Env} {mem mem':Mem} {a:Act} {w:World} {μ:Mu} {S:Nat→Prop} (R:StRel tab N env mem a w μ S) (h:look mem'=look mem):StRel tab N env mem' a w μ S :=
 ⟨R.size,R.defers,h ▸ R.inv,fun t v hv=>by rw [h]; exact R.env t v hv⟩

theorem Did.dst_eq {ops:List Oper} {base j:Nat} {o:Oper} {d:Dl} {s:Env × Mem} (h:Did Γ tab ops base s j o d):d.dst=o.dst:=h.1

theorem Did.m_nil {ops:List Oper} {base j:Nat} {o:Oper} {d:Dl} {s:Env × Mem} (h:Did Γ tab ops base s j o d) (hd:d.did=false):d.m=[]:=by
 unfold Did at h
 rw [hd] at h
 exact h.2.2.1

def setD (D:Nat→Bool) (j:Nat):Nat→Bool:=fun x=>D x || decide (x=j)

theorem due {ops:List Oper} {base:Nat} {ds:List Dl} {s0:Env × Mem} {D:Nat→Bool} {j:Nat} {o:Oper} {d:Dl} (hch:Chain Γ tab ops base 0 ops ds s0) (hok:orderOk ops (trsOf 0 [] ds)=true)
  (hcl:∀ i k,D k=true→isBefore (befores [] ops) i k=true→D i=true) (hj:D j=false) (hbef:∀ i,isBefore (befores [] ops) i j=true→D i=true) (ho:ops[j]? = some o) (hd:ds[j]? = some d) :
  Did Γ tab ops base (foldD D 0 ds s0) j o d∧(∀ t,look (applyD d (foldD D 0 ds s0)).1 t=look (foldD (setD D j) 0 ds s0).1 t)∧∀ r,look (applyD d (foldD D 0 ds s0)).2 r=look (foldD (setD D j) 0 ds s0).2 r:=by
 obtain ⟨h1,h2,h3,_⟩:=orderOk_spec hok
 have hlen:=hch.len
 have hops:∀ (k:Nat) (dk:Dl),ds[k]? = some dk→∃ ok:Oper,ops[k]? = some ok∧dk.dst=ok.dst∧(dk.did=false→dk.m=[]):=fun k dk hk=>by
  have hlt:k<ops.length:=by have:=(List.getElem?_eq_some_iff.1 hk).1; omega
  have ho:ops[k]? = some ops[k]:=List.getElem?_eq_getElem hlt
  have:=hch.at k _ dk ho hk
  exact ⟨_,ho,this.dst_eq,this.m_nil⟩
 have H1:∀ (i k:Nat) (oi ok:Oper),ops[i]? = some oi→ops[k]? = some ok→i<k→clash ops oi ok=true→isBefore (befores [] ops) i k=true:=fun i k oi ok hi hk hlt hc=>by
  have:=tmpsOkAt_spec (tmpsOk_spec h1 k ok hk) i oi hi (by omega) hc
  simpa using this
 have H2:=(trOk_of h3).2.2
 simp only [Nat.zero_add] at H2
 have hn:=noNil_of h2 o (List.mem_of_getElem? ho)
 have hdo:d.dst=o.dst:=by
  obtain ⟨o',e1,e2,_⟩:=hops j d hd
  rw [ho] at e1; cases e1; exact e2
 have T:∀ t,t∈usedBy ops o∨o.dst=some t→∀ (k:Nat) (dk:Dl),ds[k]? = some dk→dk.dst=some t→k≠j→D k=decide (k<j):=fun t ht k dk hk hdk hne=>by
  obtain ⟨ok,e1,e2,_⟩:=hops k dk hk
  have hokt:ok.dst=some t:=e2 ▸ hdk
  rcases Nat.lt_or_gt_of_ne hne with hlt | hgt
  ·have:isBefore (befores [] ops) k j=true:=H1 k j ok o e1 ho hlt ((clash_iff ops ok o).2 (.inl ⟨t,by simp [hokt],by
    rcases ht with ht | ht
    ·exact List.mem_append_left _ ht
    ·exact List.mem_append_right _ (by simp [ht])⟩))
   rw [hbef k this]; simp [hlt]
  ·have:isBefore (befores [] ops) j k=true:=H1 j k o ok ho e1 hgt ((clash_iff ops o ok).2 (by
    rcases ht with ht | ht
    ·exact .inr ⟨t,by simp [hokt],ht⟩
    ·exact .inl ⟨t,by simp [ht],List.mem_append_right _ (by simp [hokt])⟩))
   have hnot:decide (k<j)=false:=by simp; omega
   rw [hnot]
   cases hDk:D k with
   | false=>rfl
   | true=>rw [hcl j k hDk this] at hj; cases hj
 have M:∀ r,d.did=true→r∈d.reads++namesOf d.m→∀ (k:Nat) (dk:Dl),ds[k]? = some dk→r∈namesOf dk.m→k≠j→D k=decide (k<j):=fun r hdid hr k dk hk hrk hne=>by
  obtain ⟨ok,e1,e2,e3⟩:=hops k dk hk
  have hkd:dk.did=true:=by
   cases h:dk.did with
   | true=>rfl
   | false=>rw [e3 h] at hrk; simp [namesOf] at hrk
  rcases Nat.lt_or_gt_of_ne hne with hlt | hgt
  ·have:isBefore (befores [] ops) k j=true:=H2 k j dk d hlt hk hd hkd hdid ((trClash_iff _ _).2 (.inl ⟨r,hrk,hr⟩))
   rw [hbef k this]; simp [hlt]
  ·have:isBefore (befores [] ops) j k=true:=H2 j k d dk hgt hd hk hdid hkd ((trClash_iff _ _).2 (by
    rcases List.mem_append.1 hr with hr | hr
    ·exact .inr ⟨r,hrk,hr⟩
    ·exact .inl ⟨r,hr,List.mem_append_right _ hrk⟩))
   have hnot:decide (k<j)=false:=by simp; omega
   rw [hnot]
   cases hDk:D k with
   | false=>rfl
   | true=>rw [hcl j k hDk this] at hj; cases hj
 have hmap:∀ {β:Type} (f:Dl→β) (k:Nat) (p:β),(ds.map f)[k]? = some p→∃ dk,ds[k]? = some dk∧f dk=p:=fun f k p hp=>by
  rw [List.getElem?_map] at hp
  cases hk:ds[k]? with
  | none=>rw [hk] at hp; cases hp
  | some dk=>rw [hk] at hp; exact ⟨dk,rfl,by simpa using hp⟩
 refine ⟨?_,fun t=>?_,fun r=>?_⟩
 ·have hat:=hch.at j o d ho hd
  simp only [Nat.zero_add] at hat
  refine hat.move hn (fun t ht=>?_) (fun hdid r hr=>?_)
  ·rw [foldD_1,foldD_1]
   refine (foldP_cong (fun k p hp hl=>?_) rfl).symm
   obtain ⟨dk,q1,q2⟩:=hmap _ k p hp
   subst q2
   simp only [Nat.zero_add]
   by_cases e:k=j
   ·subst e; simp [hj]
   ·exact T t (.inl ht) k dk q1 (look_pE dk t hl) e
  ·rw [foldD_2,foldD_2]
   refine (foldP_cong (fun k p hp hl=>?_) rfl).symm
   obtain ⟨dk,q1,q2⟩:=hmap _ k p hp
   subst q2
   simp only [Nat.zero_add]
   by_cases e:k=j
   ·subst e; simp [hj]
   ·exact M r hdid hr k dk q1 ((look_names _ _).1 hl) e
 ·rw [applyD_1,foldD_1,foldD_1]
  refine (foldP_ins (D':=setD D j) (j:=j) (p:=pE d) (by rw [List.getElem?_map,hd]; rfl) (fun x hx=>?_) (by simpa using hj) (by simp [setD]) (fun k q hlt hq h5 h6=>?_)).symm
  ·simp only [Nat.zero_add] at hx
   simp [setD,hx]
  ·obtain ⟨dk,q1,q2⟩:=hmap _ k q hq
   subst q2
   simp only [Nat.zero_add]
   rw [T t (.inr (hdo ▸ look_pE d t h6)) k dk q1 (look_pE dk t h5) (by omega)]
   simp; omega
 ·show look (d.m++(foldD D 0 ds s0).2) r=_
  rw [foldD_2,foldD_2]
  refine (foldP_ins (D':=setD D j) (j:=j) (p:=d.m) (by rw [List.getElem?_map,hd]; rfl) (fun x hx=>?_) (by simpa using hj) (by simp [setD]) (fun k q hlt hq h5 h6=>?_)).symm
  ·simp only [Nat.zero_add] at hx
   simp [setD,hx]
  ·obtain ⟨dk,q1,q2⟩:=hmap _ k q hq
   subst q2
   simp only [Nat.zero_add]
   have hdid:d.did=true:=by
    cases h:d.did with
    | true=>rfl
    | false =>
     obtain ⟨_,_,_,e3⟩:=hops j d hd
     rw [e3 h] at h6; simp [look] at h6
   rw [M r hdid (List.mem_append_right _ ((look_names _ _).1 h6)) k dk q1 ((look_names _ _).1 h5) (by omega)]
   simp; omega

theorem any_sound {ops:List Oper} {base:Nat} {ds:List Dl} {s0:Env × Mem} {Q:Exit→Act→World→Prop} (hT:TabOk P tab) (hΓ:Sound P tab Γ) (hB:boundOps N ops=true) (hch:Chain Γ tab ops base 0 ops ds s0) (hok:orderOk ops (trsOf 0 [] ds)=true)
  (hQ:∀ a' w' μ' S',StRel tab N (lastD ds s0).1 (lastD ds s0).2 a' w' μ' S'→Ext μ0 (look s0.2) w0 S0 μ' (look (lastD ds s0).2) w' S'→Q .normal a' w') :
  ∀ (fuel:Nat) (listed:Array Bool) (L:List Nat) (a:Act) (w:World) (μ:Mu) (S:Nat→Prop) (D:Nat→Bool),(∀ i,D i=listed.getD i false)→listed.size=ops.length→L.length=fuel→(∀ i,i<ops.length→D i=false→i∈L) →
   (∀ i k,D k=true→isBefore (befores [] ops) i k=true→D i=true)→StRel tab N (foldD D 0 ds s0).1 (foldD D 0 ds s0).2 a w μ S→Ext μ0 (look s0.2) w0 S0 μ (look (foldD D 0 ds s0).2) w S →
   wpAny P .any ops.toArray Q fuel listed a w:=by
 obtain ⟨_,_,_,h4⟩:=orderOk_spec hok
 have hlen:=hch.len
 intro fuel
 induction fuel with
 | zero =>
  intro listed L a w μ S D hD hsz hL hin hcl R E
  have hall:∀ i,i<ops.length→D i=true:=fun i hi=>by
   cases h:D i with
   | true=>rfl
   | false =>
    have:=hin i hi h
    have:L=[]:=List.length_eq_zero_iff.1 hL
    simp_all
  rw [foldD_all _ _ _ _ (fun k hk=>by rw [Nat.zero_add]; exact hall k (by omega))] at R E
  refine ⟨?_,hQ a w μ S R E⟩
  cases hr:Region.ready .any ops.toArray listed with
  | nil=>rfl
  | cons i rest =>
   have hi:i∈Region.ready .any ops.toArray listed:=by rw [hr]; exact List.mem_cons_self ..
   obtain ⟨q1,o,q2,_⟩:=mem_ready.1 hi
   have hlt:i<ops.length:=by simpa using (List.getElem?_eq_some_iff.1 (by simpa using q2)).1
   have:=hall i hlt
   rw [hD i] at this
   simp only [Array.getD_eq_getD_getElem?,Array.getElem?_eq_getElem (show i<listed.size by omega),Option.getD_some] at q1 this
   rw [q1] at this; cases this
 | succ fuel ih =>
  intro listed L a w μ S D hD hsz hL hin hcl R E
  refine ⟨fun hr=>?_,fun j hj=>?_⟩
  ·have hall:∀ n i,i<n→i<ops.length→D i=true:=by
    intro n
    induction n with
    | zero=>intro i h; omega
    | succ n ihn =>
     intro i _ hi
     cases h:D i with
     | true=>rfl
     | false =>
      have:i∈Region.ready .any ops.toArray listed:=by
       rw [hD i] at h
       refine mem_ready.2 ⟨?_,ops[i],by simp [hi],fun e he hb=>?_⟩
       ·simp only [Array.getD_eq_getD_getElem?,Array.getElem?_eq_getElem (show i<listed.size by omega),Option.getD_some] at h ⊢
        exact h
       ·have:=backOk_spec h4 i ops[i] (List.getElem?_eq_getElem hi) e he hb
        rw [← hD]
        exact ihn e.on (by omega) (by omega)
      rw [hr] at this; cases this
   rw [foldD_all _ _ _ _ (fun k hk=>by rw [Nat.zero_add]; exact hall (k+1) k (by omega) (by omega))] at R E
   exact hQ a w μ S R E
  ·obtain ⟨q1,o,q2,q3⟩:=mem_ready.1 hj
   have hlt:j<ops.length:=by simpa using (List.getElem?_eq_some_iff.1 (by simpa using q2)).1
   have ho:ops[j]? = some o:=by simpa using q2
   have hdj:ds[j]? = some ds[j]:=List.getElem?_eq_getElem (by omega)
   generalize hdd:ds[j]=d at hdj
   have hDj:D j=false:=by
    rw [hD j]
    simp only [Array.getD_eq_getD_getElem?,Array.getElem?_eq_getElem (show j<listed.size by omega),Option.getD_some] at q1 ⊢
    exact q1
   have hbef:∀ i,isBefore (befores [] ops) i j=true→D i=true:=fun i hi=>by
    obtain ⟨e,e1,e2,e3⟩:=befores_spec (ms:=[]) j o ho i (by simpa using hi)
    have hDe:D e.on=true:=by rw [hD]; exact q3 e e1 e2
    rcases e3 with rfl | e3
    ·exact hDe
    ·exact hcl i e.on hDe e3
   obtain ⟨hdid,hE,hM⟩:=due hch hok hcl hDj hbef ho hdj
   have hDs:∀ i,setD D j i=(listed.setIfInBounds j true).getD i false:=fun i=>by
    by_cases e:i=j
    ·subst e; simp [setD,Array.getD_eq_getD_getElem?,show i<listed.size by omega]
    ·rw [getD_set_ne false (Ne.symm e),← hD i]; simp [setD,e]
   have hcl':∀ i k,setD D j k=true→isBefore (befores [] ops) i k=true→setD D j i=true:=fun i k hk hi=>by
    by_cases e:k=j
    ·subst e; simp [setD,hbef i hi]
    ·have:D k=true:=by simpa [setD,e] using hk
     simp [setD,hcl i k this hi]
   have next:∀ a' w' μ' S',StRel tab N (applyD d (foldD D 0 ds s0)).1 (applyD d (foldD D 0 ds s0)).2 a' w' μ' S'→Ext μ (look (foldD D 0 ds s0).2) w S μ' (look (applyD d (foldD D 0 ds s0)).2) w' S' →
     wpAny P .any ops.toArray Q fuel (listed.setIfInBounds j true) a' w':=fun a' w' μ' S' R' E'=>by
    have hm:=funext hM
    refine ih (listed.setIfInBounds j true) (L.erase j) a' w' μ' S' (setD D j) hDs (by simpa using hsz) ?_ (fun i hi hd=>?_) hcl' ((R'.look_mem hm.symm).look_env fun t=>(hE t).symm) ?_
    ·rw [List.length_erase_of_mem (hin j hlt hDj)]; omega
    ·have hne:i≠j:=fun e=>by subst e; simp [setD] at hd
     have:D i=false:=by simpa [setD,hne] using hd
     exact (List.mem_erase_of_ne hne).2 (hin i hi this)
    ·rw [← hm]; exact E.trans E'
   have hbnd:∀ t,o.dst=some t→t<N:=boundOps_spec hB o (List.mem_of_getElem? ho)
   unfold wpOp
   rw [q2]
   simp only
   have hdst:=hdid.dst_eq
   unfold Did at hdid
   have h2:=hdid.2
   cases hc:d.did with
   | true =>
    rw [hc] at h2
    obtain ⟨hw,vs,p,e1,e2,e3,e4,e5⟩:=h2
    have hwant:Region.wanted o (yielded ops.toArray a.tmps)=true:=by
     unfold Wants at hw
     split at hw
     ·rename_i hg; simp [Region.wanted,hg]
     ·rename_i jj want hg
      obtain ⟨dd,d1,d2⟩:=hw
      rw [wanted_of hg d1 (rel_bool (R.env dd _ d2).1)]; simp
    rw [if_pos hwant]
    refine .inl (step_op hT hΓ R e1 e2 e3 (freshIn_spec e4).1 e5 hbnd fun a' w' μ' S' R' E'=>?_)
    refine next a' w' μ' S' ?_ E'
    unfold applyD
    rw [hdst]
    exact R'
   | false =>
    rw [hc] at h2
    obtain ⟨e1,e2,e3,hs⟩:=h2
    have hwant:Region.wanted o (yielded ops.toArray a.tmps)=false:=by
     unfold Shuns at hs
     split at hs
     ·exact hs.elim
     ·rename_i jj want hg
      obtain ⟨dd,d1,d2 | d2⟩:=hs
      ·rw [wanted_of hg d1 (rel_bool (R.env dd _ d2).1)]; simp
      ·exact unwanted_of hg d1 ((R.env dd _ d2).2 rfl)
    rw [if_neg (by simp [hwant])]
    refine next (a.put o.dst Go.undef) w μ S ?_ ?_
    ·unfold applyD
     rw [hdst,e1,e2]
     exact R.skip hbnd
    ·unfold applyD
     rw [e2]; exact Ext.refl

theorem lastD_fresh {ops:List Oper} {base:Nat}:∀ {rest:List Oper} {ds:List Dl} {i n:Nat} {s:Env × Mem},Chain Γ tab ops base i rest ds s→base+8*(i+rest.length)≤n→Fresh n s.2→Fresh n (lastD ds s).2
 | [],[],_,_,_,_,_,h=>h
 | o::rest,d::ds,i,n,s,hc,hn,h=>by
  unfold lastD
  simp only [List.length_cons] at hn
  refine lastD_fresh hc.2 (by omega) ?_
  have hdid:=hc.1
  unfold Did at hdid
  have h2:=hdid.2
  cases hd:d.did with
  | false =>
   rw [hd] at h2
   show Fresh n (d.m++s.2)
   rw [h2.2.1]; exact h
  | true =>
   rw [hd] at h2
   obtain ⟨_,vs,p,_,_,_,e4,_⟩:=h2
   exact fresh_upd (freshIn_spec e4).2 h (by omega)
 | [],_::_,_,_,_,hc,_,_=>hc.elim
 | _::_,[],_,_,_,hc,_,_=>hc.elim

theorem Ext.ofDrawn {μ:Mu} {mem:MemF} {w:World} {S:Nat→Prop} {n:Nat} {μ':Mu} {mem':MemF} {w':World} {S':Nat→Prop} (E:Ext μ mem { w with drawn:=n } S μ' mem' w' S'):Ext μ mem w S μ' mem' w' S' :=
 ⟨E.names,E.kinds,E.sub,E.size,E.heap,E.only,E.own,E.os,E.tape,E.output⟩

theorem RepC.ofDrawn {w:World} {S:Nat→Prop} {n:Nat} {c:C} {x:Value} (h:RepC tab w S c x):RepC tab { w with drawn:=n } S c x :=
 h.mono (fun _ h=>h) (fun _ _=>rfl)

theorem StRel.drawn {env:Env} {mem:Mem} {a:Act} {w:World} {μ:Mu} {S:Nat→Prop} (R:StRel tab N env mem a w μ S) (n:Nat):StRel tab N env mem a { w with drawn:=n } μ S:=by
 have E:Ext μ (look mem) w S μ (look mem) { w with drawn:=n } S:=by
  have e:Ext μ (look mem) w S μ (look mem) w S:=Ext.refl
  exact ⟨e.names,e.kinds,e.sub,e.size,e.heap,e.only,e.own,e.os,e.tape,e.output⟩
 have C:∀ {c x},RelC tab μ (look mem) w S c x→RelC tab μ (look mem) { w with drawn:=n } S c x:=fun h=>h.ext E R.inv
 refine ⟨R.size,R.defers,⟨fun r B h1 h2=>?_,R.inv.inj,R.inv.sep,R.inv.lt,R.inv.pow.of_heap rfl⟩,fun t v hv=>⟨relV_ext E R.inv (R.env t v hv).1,(R.env t v hv).2⟩⟩
 obtain ⟨l,e1,e2⟩:=R.inv.rel r B h1 h2
 refine ⟨l,e1,?_⟩
 cases B with
 | dead=>cases l<;>exact e2
 | box cs =>
  cases l with
  | ar x=>exact e2
  | bx b =>
   obtain ⟨vs,e,a1,a2,a3⟩:=e2
   exact ⟨vs,e,a1,a2,fun i c hc=>let ⟨y,y1,y2,y3⟩:=a3 i c hc; ⟨y,y1,y2,C y3⟩⟩
 | set ks=>cases l<;>exact e2
 | arx t l' cs =>
  cases l with
  | bx b=>exact e2
  | ar x =>
   obtain ⟨b,cap,cur,e,a1,a2,a3,a4,a5,a6,a7⟩:=e2
   exact ⟨b,cap,cur,e,a1,a2,a3,a4,a5,fun i j c hi hc=>let ⟨y,y1,y2,y3⟩:=a6 i j c hi hc; ⟨y,y1,y2,y3.ofDrawn⟩,fun j c hc=>let ⟨y0,y,y1,y2,y3⟩:=a7 j c hc; ⟨y0,y,y1,y2,C y3⟩⟩
 | arr t l' =>
  cases l with
  | bx b=>exact e2
  | ar x =>
   rcases e2 with e2 | ⟨b,cap,cur,e,a1,a2,a3,a4,a5,a6⟩
   ·exact .inl e2
   ·exact .inr ⟨b,cap,cur,e,a1,a2,a3,a4,a5,fun i j c hi hc=>let ⟨y,y1,y2,y3⟩:=a6 i j c hi hc; ⟨y,y1,y2,y3.ofDrawn⟩⟩

theorem regionOk {mem0:MemF} (hT:TabOk P tab) (hΓ:Sound P tab Γ) (hm:P.follows .mixedOrders=true):RegionOk P tab Γ N μ0 mem0 w0 S0:=by
 intro id ops draw K Q st a w hB h G hQ
 obtain ⟨μ,S,R,hF,E⟩:=G
 cases draw with
 | false =>
  refine wp_region ?_
  have:=execOps_sound hT hΓ hB ops.toList 0 [] st a w μ S rfl (by simp) h R (by simpa using hF) (fun st' a' w' μ' S' R' F' E' k'=>hQ st' a' w' ⟨μ',S',R',F',E.trans E'⟩ k')
  rw [List.range_eq_range']
  simpa using this
 | true =>
  obtain ⟨ds,hch,hok,st',hK,hb,he,hmm⟩:=execOps_tail ops.toList 0 [] st (fun _ h=>h) h
  refine wp_region_any hm ?_
  have hnone:foldD (fun _=>false) 0 ds (st.env,st.mem)=(st.env,st.mem):=foldD_none _ _ _ _ (fun _ _=>rfl)
  have R':=R.drawn (w.drawn+1)
  have:=any_sound (μ0:=μ) (S0:=S) (w0:={ w with drawn:=w.drawn+1 }) (ops:=ops.toList) (Q:=Q) hT hΓ hB hch hok (fun a' w' μ' S' R2 E2=>by
    refine hQ st' a' w' ⟨μ',S',(R2.look_mem (by rw [hmm])).look_env he,?_,E.trans ?_⟩ hK
    ·rw [hmm,hb]
     exact lastD_fresh hch (by simp) (fun r hr=>hF r (by have:st.base+8*ops.toList.length≤r:=hr; omega))
    ·rw [hmm]; exact E2.ofDrawn) ops.size (Array.replicate ops.size false) (List.range ops.size) a { w with drawn:=w.drawn+1 } μ S (fun _=>false)
   (fun i=>by simp only [Array.getD_eq_getD_getElem?,Array.getElem?_replicate]; split<;>rfl) (by simp) (by simp) (fun i hi _=>by simpa using hi) (fun i k h=>by cases h) (by rw [hnone]; exact R') (by rw [hnone]; exact Ext.refl)
  simpa using this
end
end Vm
end Go.Proofs.YtlbppjmekiemiacGreatDoor


/- The executor on data: the table of types, checked. No condition. -/
namespace Go.Proofs.YtlbppjmekiemiacGreatDoor
namespace Vm

def zeroB:List C→List Value→Bool
 | [],[]=>true
 | .dat .int n::cs,.int .i64 m::xs=>decide ((n:Int)=0) && decide (m=0) && zeroB cs xs
 | .dat .bool b::cs,.bool c::xs=>(!b) && (!c) && zeroB cs xs
 | .dat .str s::cs,.string t::xs=>List.isEmpty s && List.isEmpty t.data.toList && zeroB cs xs
 | .nil _::cs,.slice none n m::xs=>Nat.beq n 0 && Nat.beq m 0 && zeroB cs xs
 | .undef::cs,x::xs=>x.oneCell' && zeroB cs xs
 | _,_=>false

theorem byteArray_nil {t:ByteArray} (h:List.isEmpty t.data.toList=true):t=⟨#[]⟩:=by
 cases t with
 | mk d =>
  congr 1
  have:d.toList=[]:=List.isEmpty_iff.1 h
  exact Array.toList_inj.1 this

theorem zeroB_spec:∀ {cs:List C} {xs:List Value},zeroB cs xs=true→ZeroOk cs xs:=by
 intro cs xs h
 fun_induction zeroB cs xs with
 | case1=>trivial
 | case2 n cs m xs ih =>
  simp only [Bool.and_eq_true,decide_eq_true_eq] at h
  obtain ⟨⟨h1,h2⟩,h3⟩:=h
  exact ⟨h1,by rw [h2],ih h3⟩
 | case3 b cs c xs ih =>
  simp only [Bool.and_eq_true,Bool.not_eq_true'] at h
  obtain ⟨⟨h1,h2⟩,h3⟩:=h
  exact ⟨h1,by rw [h2],ih h3⟩
 | case4 s cs t xs ih =>
  simp only [Bool.and_eq_true] at h
  obtain ⟨⟨h1,h2⟩,h3⟩:=h
  exact ⟨List.isEmpty_iff.1 h1,by rw [byteArray_nil h2],ih h3⟩
 | case5 t cs n m xs ih =>
  simp only [Bool.and_eq_true] at h
  obtain ⟨⟨h1,h2⟩,h3⟩:=h
  exact ⟨by rw [Nat.eq_of_beq_eq_true h1,Nat.eq_of_beq_eq_true h2],ih h3⟩
 | case6 cs x xs ih =>
  simp only [Bool.and_eq_true] at h
  exact ⟨h.1,ih h.2⟩
 | case7=>cases h

def datB:C→Value→Bool
 | .dat .int n,.int .i64 m=>decide ((n:Int)=m)
 | .dat .bool b,.bool c=>b == c
 | .dat .str s,.string t=>List.isEmpty s && List.isEmpty t.data.toList
 | .dat (.list _) l,.slice none n m=>List.isEmpty l && Nat.beq n 0 && Nat.beq m 0
 | _,_=>false

def datsB:List C→List Value→Bool
 | [],_=>true
 | c::cs,x::xs=>datB c x && x.oneCell' && datsB cs xs
 | _,_=>false

theorem datB_spec {tab:Tab} {c:C} {x:Value} (h:datB c x=true) (w:World) (S:Nat→Prop):RepC tab w S c x:=by
 unfold datB at h
 split at h
 ·have:(_:Int)=_:=of_decide_eq_true h
  rw [← this]; exact .int _
 ·have:=beq_iff_eq.1 h
  rw [← this]; exact .bool _
 ·simp only [Bool.and_eq_true] at h
  rw [List.isEmpty_iff.1 h.1,byteArray_nil h.2]
  exact .str []
 ·simp only [Bool.and_eq_true] at h
  obtain ⟨⟨h1,h2⟩,h3⟩:=h
  rw [List.isEmpty_iff.1 h1,Nat.eq_of_beq_eq_true h2]
  exact .empty _ _ _
 ·cases h

theorem datsB_spec {tab:Tab}:∀ {cs:List C} {xs:List Value},datsB cs xs=true→∀ (j:Nat) c,cs[j]? = some c→∃ y,xs[j]? = some y∧y.oneCell'=true∧∀ w S,RepC tab w S c y
 | [],_,_,j,c,hc=>by simp at hc
 | _::_,[],h,j,c,hc=>by simp [datsB] at h
 | c::cs,x::xs,h,0,d,hd=>by
  simp only [datsB,Bool.and_eq_true] at h
  simp at hd; subst hd
  exact ⟨x,rfl,h.1.2,fun w S=>datB_spec h.1.1 w S⟩
 | c::cs,x::xs,h,j+1,d,hd=>by
  simp only [datsB,Bool.and_eq_true] at h
  simp at hd ⊢
  exact datsB_spec h.2 j d hd

def aggB:Bool→Value→Bool
 | true,.agg _=>true
 | true,_=>false
 | false,.agg _=>false
 | false,_=>true

def isAggB:TypeDesc→Bool
 | .struct _ | .array _ _=>true
 | _=>false

def natPairs:List (Nat × Nat)→List Nat→List Nat→Bool
 | [],[],[]=>true
 | (a,b)::r,x::xs,y::ys=>Nat.beq a x && Nat.beq b y && natPairs r xs ys
 | _,_,_=>false

theorem natPairs_spec:∀ {l:List (Nat × Nat)} {xs ys:List Nat},natPairs l xs ys=true→l=xs.zip ys∧ys.length=xs.length
 | [],[],[],_=>⟨rfl,rfl⟩
 | (a,b)::r,x::xs,y::ys,h=>by
  simp only [natPairs,Bool.and_eq_true] at h
  obtain ⟨⟨h1,h2⟩,h3⟩:=h
  obtain ⟨e1,e2⟩:=natPairs_spec h3
  exact ⟨by rw [e1,Nat.eq_of_beq_eq_true h1,Nat.eq_of_beq_eq_true h2]; rfl,by simp [e2]⟩
 | [],[],_::_,h=>by simp [natPairs] at h
 | [],_::_,_,h=>by simp [natPairs] at h
 | _::_,[],_,h=>by simp [natPairs] at h
 | _::_,_::_,[],h=>by simp [natPairs] at h

def natsB:List Nat→List Nat→Bool
 | [],[]=>true
 | a::as,b::bs=>Nat.beq a b && natsB as bs
 | _,_=>false

theorem natsB_spec:∀ {l m:List Nat},natsB l m=true→l=m
 | [],[],_=>rfl
 | a::as,b::bs,h=>by
  simp only [natsB,Bool.and_eq_true] at h
  rw [Nat.eq_of_beq_eq_true h.1,natsB_spec h.2]
 | [],_::_,h=>by simp [natsB] at h
 | _::_,[],h=>by simp [natsB] at h

def kindB (P:Program) (ti:TI) (d:TypeDesc):Bool :=
 match ti.kd,d with
 | .int,.int .i64=>true
 | .bool,.bool=>true
 | .str,.string=>true
 | .u64,.int .u64=>true
 | .slice t e,.slice e'=>Nat.beq e' e && (match P.info? e with
  | some i=>Nat.beq i.size t.width && Nat.beq i.bytes ti.bytes && Nat.ble 1 t.width && Nat.ble 1 ti.bytes && (match i.zero with
   | some z=>Nat.beq z.cells.size t.width && z.cells.toList.all Value.oneCell' && (match t.noFn with | true=>datsB (t.cells t.dflt) z.cells.toList | false=>true)
   | none=>false)
  | none=>false)
 | .struct,.struct fs=>(match fs.toList.mapM (fun f=>(P.info? f.type).map fun i=>(f.offset,i.size)) with
  | some l=>natPairs l ti.offs ti.sizes
  | none=>false) && ti.sizes.all (fun n=>Nat.ble 1 n)
 | .array n sz,.array n' e=>Nat.beq n' n && (match P.info? e,P.underlying e with
  | some i,some d=>Nat.beq i.size sz && Nat.ble 1 sz && natsB ti.offs ((List.range n).map (·*sz)) && natsB ti.sizes (List.replicate n sz) && (isAggB d == Nat.ble 2 sz)
  | _,_=>false)
 | .mapib,.map K E=>(match P.underlying K with | some (.int .i64)=>true | _=>false) && (match P.info? E with | some i=>(match i.zero with | some (.bool b)=>!b | _=>false) | none=>false)
 | .iface,.interface _=>true
 | .other,_=>true
 | _,_=>false

def tiB (P:Program) (T:Nat) (ti:TI):Bool :=
 match P.info? T,P.underlying T with
 | some i,some d=>Nat.beq i.size ti.n && (match i.zero with | some z=>zeroB ti.zero z.cells.toList && aggB ti.agg z | none=>false) && Nat.beq ti.zero.length ti.n && (isAggB d == ti.agg) && kindB P ti d
 | _,_=>false

theorem run_isAggB {P:Program} {T:Nat} {d:TypeDesc} (h:P.underlying T=some d) (w:World):(isAgg T).run P w=.ok (isAggB d) w:=by
 cases d<;>simp [isAgg,run_underlying h,isAggB]

theorem aggB_t {z:Value} (h:aggB true z=true):∃ cs,z=.agg cs:=by
 cases z<;>first | (cases h; done) | exact ⟨_,rfl⟩

theorem aggB_f {z:Value} (h:aggB false z=true):z.cells=#[z]:=by
 cases z<;>first | (cases h; done) | rfl

theorem tiB_spec {P:Program} {tab:Tab} {T:Nat} {ti:TI} (h:tiB P T ti=true):TIok P tab T ti:=by
 unfold tiB at h
 split at h
 ·rename_i i d hi hd
  simp only [Bool.and_eq_true] at h
  obtain ⟨⟨⟨⟨h1,h2⟩,h3⟩,h4⟩,h5⟩:=h
  cases hz:i.zero with
  | none=>rw [hz] at h2; cases h2
  | some z =>
   rw [hz] at h2
   simp only [Bool.and_eq_true] at h2
   refine ⟨⟨i,z,hi,Nat.eq_of_beq_eq_true h1,hz,zeroB_spec h2.1,by
    have h6:=h2.2
    split
    ·rename_i e; rw [e] at h6; exact aggB_t h6
    ·rename_i e; rw [e] at h6; exact aggB_f h6⟩,Nat.eq_of_beq_eq_true h3,fun w=>by rw [run_isAggB hd,beq_iff_eq.1 h4],?_⟩
   unfold kindB at h5
   split at h5
   ·rename_i hk; rw [hk]; exact hd
   ·rename_i hk; rw [hk]; exact hd
   ·rename_i hk; rw [hk]; exact hd
   ·rename_i hk; rw [hk]; exact hd
   ·rename_i t e e' hk
    rw [hk]
    simp only [Bool.and_eq_true] at h5
    obtain ⟨g1,g2⟩:=h5
    split at g2
    ·rename_i ie hie
     simp only [Bool.and_eq_true] at g2
     obtain ⟨⟨⟨⟨k1,k2⟩,k3⟩,k4⟩,k5⟩:=g2
     split at k5
     ·rename_i ze hze
      simp only [Bool.and_eq_true] at k5
      obtain ⟨⟨m1,m2⟩,m3⟩:=k5
      refine ⟨by rw [hd,Nat.eq_of_beq_eq_true g1],ie,ze,hie,Nat.eq_of_beq_eq_true k1,Nat.eq_of_beq_eq_true k2,hze,Nat.eq_of_beq_eq_true m1,Nat.le_of_ble_eq_true k3,Nat.le_of_ble_eq_true k4,m2,fun hn=>?_⟩
      rw [hn] at m3
      exact datsB_spec m3
     ·cases k5
    ·cases g2
   ·rename_i fs hk
    rw [hk]
    simp only [Bool.and_eq_true] at h5
    obtain ⟨g1,g2⟩:=h5
    split at g1
    ·rename_i l hl
     obtain ⟨e1,e2⟩:=natPairs_spec g1
     exact ⟨fs,hd,by rw [hl,e1],e2,g2⟩
    ·cases g1
   ·rename_i n sz n' e hk
    rw [hk]
    simp only [Bool.and_eq_true] at h5
    obtain ⟨g1,g2⟩:=h5
    split at g2
    ·rename_i ie de hie hde
     simp only [Bool.and_eq_true] at g2
     obtain ⟨⟨⟨⟨k1,k2⟩,k3⟩,k4⟩,k5⟩:=g2
     exact ⟨e,ie,by rw [hd,Nat.eq_of_beq_eq_true g1],hie,Nat.eq_of_beq_eq_true k1,by have:=Nat.le_of_ble_eq_true k2; omega,natsB_spec k3,natsB_spec k4,fun w=>by rw [run_isAggB hde,beq_iff_eq.1 k5]⟩
    ·cases g2
   ·rename_i K E hk
    rw [hk]
    simp only [Bool.and_eq_true] at h5
    obtain ⟨g1,g2⟩:=h5
    split at g1<;>try cases g1
    rename_i hK
    split at g2<;>try cases g2
    rename_i ie hE
    split at g2<;>try cases g2
    rename_i b hb
    have hb0:b=false:=by simpa using g2
    subst hb0
    exact ⟨K,E,ie,hd,hK,hE,hb⟩
   ·rename_i hk; rw [hk]; exact ⟨_,hd⟩
   ·rename_i hk; rw [hk]; trivial
   ·cases h5
 ·cases h

def tisB (P:Program):List (Nat × TI)→Bool
 | []=>true
 | (T,ti)::rest=>match tiB P T ti with | true=>tisB P rest | false=>false

theorem tisB_spec {P:Program} {tab:Tab}:∀ {l:List (Nat × TI)},tisB P l=true→∀ T ti,look l T=some ti→TIok P tab T ti
 | [],_,T,ti,h=>by simp [look] at h
 | (U,ui)::rest,hb,T,ti,h=>by
  simp only [tisB] at hb
  split at hb
  ·rename_i h1
   by_cases e:T=U
   ·subst e
    simp [look,Nat.beq_refl] at h
    subst h; exact tiB_spec h1
   ·simp only [look,beq_ne e] at h
    exact tisB_spec hb T ti h
  ·cases hb

def eqFldB (P:Program):Nat→List C→List Field→Bool
 | _,[],[]=>true
 | i, z :: zs, f :: fs => Nat.beq f.offset i && !(f.name == "_") && (match z with
   | .dat .int _=>match P.underlying f.type with | some (.int .i64)=>true | _=>false
   | .dat .bool _=>match P.underlying f.type with | some .bool=>true | _=>false
   | _=>false) && eqFldB P (i+1) zs fs
 | _,_,_=>false
def eqTyB (P:Program) (tab:Tab) (T:Nat):Bool:=match tyAt tab T,P.underlying T with
 | some ti,some (.struct fs)=>eqFldB P 0 ti.zero fs.toList && !P.stoodInHeld T && !P.eqGuardType P.depth T
 | _,_=>false
def eqsB (P:Program) (tab:Tab):List Nat→Bool
 | []=>true
 | T::r=>eqTyB P tab T && eqsB P tab r
theorem eqsB_at {P:Program} {tab:Tab}:∀ {l:List Nat} {T:Nat},eqsB P tab l=true→memb l T=true→eqTyB P tab T=true
 | [],_,_,h=>by cases h
 | U::r,T,hb,h=>by
  simp only [eqsB,Bool.and_eq_true] at hb
  simp only [memb] at h
  split at h
  ·rename_i e
   rw [← Nat.eq_of_beq_eq_true e]; exact hb.1
  ·exact eqsB_at hb.2 h

theorem eqC_int {n:Int} {c:C} {r:Bool} (h:eqC (.dat .int n) c=some r):∃ m:Int,c=.dat .int m∧eqi n m=r:=by
 cases c with
 | dat t d=>cases t<;>first | exact ⟨d,rfl,Option.some.inj h⟩ | (cases h; done)
 | _=>cases h
theorem eqC_bool {n:Bool} {c:C} {r:Bool} (h:eqC (.dat .bool n) c=some r):∃ m:Bool,c=.dat .bool m∧eqb n m=r:=by
 cases c with
 | dat t d=>cases t<;>first | exact ⟨d,rfl,Option.some.inj h⟩ | (cases h; done)
 | _=>cases h
theorem eqFields_run {P:Program} {tab:Tab} {d:Nat} {w:World} {S:Nat→Prop} {xs ys:Array Value}:∀ (fs:List Field) (zs as bs:List C) (i:Nat) (q r:Bool),eqFldB P i zs fs=true→eqCs zs as=some q→eqCs as bs=some r →
  (∀ (j:Nat) c,as[j]? = some c→∃ y,xs[i+j]? = some y∧RepC tab w S c y)→(∀ (j:Nat) c,bs[j]? = some c→∃ y,ys[i+j]? = some y∧RepC tab w S c y) →
  (Op.eqFields (d+1) xs ys fs).run P w=.ok r w
 | [],zs,as,bs,i,q,r,hf,hq,hr,hx,hy=>by
  cases zs with
  | cons z zs=>cases hf
  | nil =>
   cases as with
   | cons a as=>cases hq
   | nil =>
    cases bs with
    | cons b bs=>cases hr
    | nil =>
     have:r=true:=by simpa [eqCs] using hr.symm
     subst this
     rfl
 | f::fs,zs,as,bs,i,q,r,hf,hq,hr,hx,hy=>by
  cases zs with
  | nil=>cases hf
  | cons z zs =>
   cases as with
   | nil=>cases hq
   | cons a as =>
    cases bs with
    | nil=>cases hr
    | cons b bs =>
     simp only [eqFldB,Bool.and_eq_true] at hf
     obtain ⟨⟨⟨f1,f2⟩,f3⟩,f4⟩:=hf
     simp only [eqCs] at hq hr
     split at hq<;>try cases hq
     rename_i q1 hq1
     split at hq<;>try cases hq
     rename_i q2 hq2
     split at hr<;>try cases hr
     rename_i r1 hr1
     split at hr<;>try cases hr
     rename_i r2 hr2
     have ih:=eqFields_run (d:=d) fs zs as bs (i+1) q2 r2 f4 hq2 hr2 (fun j c hj=>by have:=hx (j+1) c (by simpa using hj); rwa [show i+(j+1)=i+1+j by omega] at this) (fun j c hj=>by have:=hy (j+1) c (by simpa using hj); rwa [show i+(j+1)=i+1+j by omega] at this)
     obtain ⟨u,hu,hur⟩:=hx 0 a rfl
     obtain ⟨v,hv,hvr⟩:=hy 0 b rfl
     have ho:f.offset=i:=Nat.eq_of_beq_eq_true f1
     have hn : f.name ≠ "_" := by simpa using f2
     rw [Nat.add_zero,← ho] at hu hv
     simp only [Op.eqFields,if_pos hn]
     have key:∀ (e:TypeId) (hp:P.plainKey e=true) (he:f.type=e) (hq:(Op.equalIn (d+1) e u v).run P w=.ok r1 w),(do
       let a ← part f.type xs f.offset
       let b ← part f.type ys f.offset
       let r ← Op.equalIn (d+1) f.type a b
       if (!r)=true then pure false else Op.eqFields (d+1) xs ys fs:Sem Bool).run P w=.ok (r1 && r2) w:=fun e hp he hq=>by
      subst he
      rw [Sem.run_bind,run_part_plain w hp hu]
      simp only [Result.andThen_ok]
      rw [Sem.run_bind,run_part_plain w hp hv]
      simp only [Result.andThen_ok]
      rw [Sem.run_bind,hq]
      simp only [Result.andThen_ok]
      cases r1
      ·rfl
      ·simpa using ih
     split at f3
     ·split at f3<;>try cases f3
      rename_i hT
      obtain ⟨n,rfl,_⟩:=eqC_int hq1
      obtain ⟨m,rfl,hm⟩:=eqC_int hr1
      cases hur; cases hvr
      refine key _ (by unfold Program.plainKey; rw [hT]) rfl ?_
      rw [run_equalIn_int w d _ _ _ _ _ hT,← hm]
      rfl
     ·split at f3<;>try cases f3
      rename_i hT
      obtain ⟨n,rfl,_⟩:=eqC_bool hq1
      obtain ⟨m,rfl,hm⟩:=eqC_bool hr1
      cases hur; cases hvr
      refine key _ (by unfold Program.plainKey; rw [hT]) rfl ?_
      rw [run_equalIn_bool' w d _ _ _ hT,← hm]
      rfl
     ·cases f3

theorem field_run {P:Program} {w:World} {xs:Array Value} {y:Value}:∀ (fs:List Field) (zs as:List C) (i f:Nat) (q:Bool) (c:C),eqFldB P i zs fs=true→eqCs zs as=some q→as[f]? = some c→xs[i+f]? = some y →
  ∃ fd,fs[f]? = some fd∧(part fd.type xs fd.offset).run P w=.ok y w
 | [],zs,as,i,f,q,c,hf,hq,hc,hy=>by
  cases zs with
  | cons z zs=>cases hf
  | nil =>
   cases as with
   | cons a as=>cases hq
   | nil=>simp at hc
 | fd::fs,zs,as,i,f,q,c,hf,hq,hc,hy=>by
  cases zs with
  | nil=>cases hf
  | cons z zs =>
   cases as with
   | nil=>cases hq
   | cons a as =>
    simp only [eqFldB,Bool.and_eq_true] at hf
    obtain ⟨⟨⟨f1,f2⟩,f3⟩,f4⟩:=hf
    simp only [eqCs] at hq
    split at hq<;>try cases hq
    rename_i q1 hq1
    split at hq<;>try cases hq
    rename_i q2 hq2
    cases f with
    | succ f=>exact field_run (w:=w) fs zs as (i+1) f q2 c f4 hq2 (by simpa using hc) (by rwa [show i+(f+1)=i+1+f by omega] at hy)
    | zero =>
     have ho:fd.offset=i:=Nat.eq_of_beq_eq_true f1
     rw [Nat.add_zero,← ho] at hy
     refine ⟨fd,rfl,run_part_plain w ?_ hy⟩
     split at f3
     ·split at f3<;>try cases f3
      rename_i hT
      unfold Program.plainKey; rw [hT]
     ·split at f3<;>try cases f3
      rename_i hT
      unfold Program.plainKey; rw [hT]
     ·cases f3

theorem tabOk_plain {P:Program} {tab:Tab} (h:tisB P tab.types=true) (he:eqsB P tab tab.eqs=true) (hw:tab.w=true→FnwOk P tab):TabOk P tab :=
 ⟨hw,fun T ti hT=>tisB_spec h T ti hT,fun T ti hm hti as xs q f c y w hq hc hy=>(by
  have hb:=eqsB_at he hm
  unfold eqTyB at hb
  rw [hti] at hb
  split at hb
  ·rename_i ti' fs ht hs
   cases ht
   simp only [Bool.and_eq_true,Bool.not_eq_true'] at hb
   obtain ⟨⟨b1,b2⟩,b3⟩:=hb
   obtain ⟨fd,k1,k2⟩:=field_run (w:=w) fs.toList ti.zero as 0 f q c b1 hq hc (by rw [Nat.zero_add]; exact hy)
   simp only [Instr.field,Sem.run_bind,run_underlying hs,Result.andThen_ok]
   rw [show fs[f]? = some fd by rw [← Array.getElem?_toList]; exact k1]
   simp only [asAgg,Sem.run_bind,Sem.run_pure,Result.andThen_ok]
   exact k2
  ·cases hb),
  fun T ti hm hti as bs xs ys q r w hq hr _ _ hx hy=>by
  have hb:=eqsB_at he hm
  unfold eqTyB at hb
  rw [hti] at hb
  split at hb
  ·rename_i ti' fs ht hs
   cases ht
   simp only [Bool.and_eq_true,Bool.not_eq_true'] at hb
   obtain ⟨⟨b1,b2⟩,b3⟩:=hb
   have hfo:P.fieldsOf T=fs:=by unfold Program.fieldsOf; rw [hs]
   refine ⟨fun op x y=>run_eqGuard_agg w op T x y xs ys b3,?_⟩
   have e:Op.equal T (.agg xs) (.agg ys)=Op.equalIn 10000 T (.agg xs) (.agg ys):=rfl
   rw [e,run_equalIn_struct w 9999 T xs ys (by rw [hfo]; exact hs) b2,hfo]
   exact eqFields_run (d:=9998) fs.toList ti.zero as bs 0 q r b1 hq hr (fun j c hj=>by rw [Nat.zero_add]; exact hx j c hj) (fun j c hj=>by rw [Nat.zero_add]; exact hy j c hj)
  ·cases hb⟩
end Vm
end Go.Proofs.YtlbppjmekiemiacGreatDoor


/- The executor on data: a function's contract, for use. No condition. -/
namespace Go.Proofs.YtlbppjmekiemiacGreatDoor
namespace Vm

def bodyOf (fn:Func):Code:=fn.body.getD .skip
def resT (fn:Func):List Nat:=resUses [] fn.results.toList

def goD (Γ:Ctx) (tab:Tab) (fn:Func) (k:Nat) (K:V→List Blk→Prop) (m:Nat) (todo:List It) (st:St):Prop:=run Γ tab k (resT fn) (finD tab fn.results.toList k K) m todo st
def finC (tab:Tab) (fn:Func) (k:Nat) (K:V→List Blk→Prop) (st:St):Prop:=onSome (canon k (resT fn) st) (finO tab fn.results.toList k K)

def goO (Γ:Ctx) (tab:Tab) (fn:Func) (k:Nat) (K:V→List Blk→Prop) (m:Nat) (todo:List It) (st:St):Prop:=run Γ tab k (resT fn) (finC tab fn k K) m todo st

def finP (tab:Tab) (fn:Func) (k:Nat) (K:V→List Blk→Prop) (st:St):Prop:=onSome (canon k (resT fn) st) fun st=>finO tab fn.results.toList k K (frzAll (texts st.mem) st)
def goP (Γ:Ctx) (tab:Tab) (fn:Func) (k:Nat) (K:V→List Blk→Prop) (m:Nat) (todo:List It) (st:St):Prop:=run Γ tab k (resT fn) (finP tab fn k K) m todo st
def segD (Γ:Ctx) (tab:Tab) (fn:Func) (k:Nat) (K:V→List Blk→Prop) (rec:List It→St→Prop) (todo:List It) (st:St):Prop:=seg Γ tab k (resT fn) rec (finD tab fn.results.toList k K) 4000 todo .normal st
def segO (Γ:Ctx) (tab:Tab) (fn:Func) (k:Nat) (K:V→List Blk→Prop) (rec:List It→St→Prop) (todo:List It) (st:St):Prop:=seg Γ tab k (resT fn) rec (finC tab fn k K) 4000 todo .normal st

section
variable {P:Program} {tab:Tab} {Γ:Ctx} {fn:Func} {k:Nat} {K:V→List Blk→Prop} {m:Nat}

theorem goD_code {st:St} {c:Code}:goD Γ tab fn k K (m+1) [.code c] st=segD Γ tab fn k K (goD Γ tab fn k K m) [.code c] st:=rfl
theorem goO_code {st:St} {c:Code}:goO Γ tab fn k K (m+1) [.code c] st=segO Γ tab fn k K (goO Γ tab fn k K m) [.code c] st:=rfl
def ent:List It→List It
 | .inLoop keys b::t=>.code b::.inLoop keys b::t
 | t=>t
theorem goD_in {L:List It} {st:St}:goD Γ tab fn k K (m+1) L st=segD Γ tab fn k K (goD Γ tab fn k K m) (ent L) st:=by
 cases L with
 | nil=>rfl
 | cons a t=>cases a<;>rfl
theorem goO_in {L:List It} {st:St}:goO Γ tab fn k K (m+1) L st=segO Γ tab fn k K (goO Γ tab fn k K m) (ent L) st:=by
 cases L with
 | nil=>rfl
 | cons a t=>cases a<;>rfl

def fnB (fn:Func):Bool:=match fn.body with
 | some c => boundC fn.ntmps c && !(fn.name == "runtime.NumGoroutine")
 | none=>false

structure Ok (P:Program) (tab:Tab) (Γ:Ctx):Prop where
 table:TabOk P tab
 sound:Sound P tab Γ
 mixed:P.follows .mixedOrders=true

theorem fnB_spec (h : fnB fn = true) : ∃ c, fn.body = some c ∧ bodyOf fn = c ∧ boundC fn.ntmps c = true ∧ (fn.name == "runtime.NumGoroutine") = false := by
 unfold fnB at h
 split at h
 ·rename_i c hc
  simp only [Bool.and_eq_true,Bool.not_eq_true'] at h
  exact ⟨c,hc,by simp [bodyOf,hc],h.1,h.2⟩
 ·cases h

def Meets (Γ:Ctx) (tab:Tab) (fn:Func) (C:Contract):Prop :=
 ∀ vs bs p v bs',C vs bs=some (p,v,bs')→under p True→Nat.ble vs.length fn.ntmps=true∧notUndef vs=true ∧
  ((∃ m,goD Γ tab fn bs.length (fun v' bs''=>v'=v∧bs''=bs') m [.code (bodyOf fn)] (initSt vs bs))∨(∃ m,goO Γ tab fn bs.length (fun v' bs''=>v'=v∧bs''=bs') m [.code (bodyOf fn)] (initSt vs bs))∨(∃ m,goO Γ tab fn bs.length (fun v' bs''=>v'=v∧bs''=bs') m [.code (bodyOf fn)] (initN vs bs))∨∃ m,goP Γ tab fn bs.length (fun v' bs''=>v'=v∧bs''=bs') m [.code (bodyOf fn)] (initSt vs bs))

theorem soundC_of {f:Nat} {C:Contract} (O:Ok P tab Γ) (hf:P.funcs[f]? = some fn) (hB:fnB fn=true) (hC:Meets Γ tab fn C):SoundC P tab f C:=by
 obtain ⟨c,hb,hbo,hbc,_⟩:=fnB_spec hB
 intro vs bs p v bs' h hp w S μ xs I hx
 obtain ⟨h1,h2,h3⟩:=hC vs bs p v bs' h hp
 have hR:RegionOk P tab Γ fn.ntmps μ (memL bs) w S:=regionOk O.table O.sound O.mixed
 rw [hbo] at h3
 have key:∀ (fin:St→Prop) (m:Nat) (st0:St),(∀ a w',Good tab fn.ntmps μ (memL bs) w S (initSt vs bs) a w'→Good tab fn.ntmps μ (memL bs) w S st0 a w')→(∀ st a w1,Good tab fn.ntmps μ (memL bs) w S st a w1→fin st→∃ v' bs'',(v'=v∧bs''=bs')∧Ends P tab fn μ bs w S v' bs'' a w1) →
   run Γ tab bs.length (resT fn) fin m [.code c] st0→Calls P f xs.toArray w fun e w'=>∃ x μ' S',e=.returned x∧Ext μ (memL bs) w S μ' (memL bs') w' S'∧Inv tab μ' (memL bs') w' S'∧RelV tab μ' (memL bs') w' S' v x:=fun fin m st0 hst hfin hrun =>
  (fn_sound hst hR hf hb hbc (Nat.le_of_ble_eq_true h1) h2 hfin hrun I hx).mono fun e w' ⟨v',bs'',⟨e1,e2⟩,x,μ',S',q⟩=>by subst e1 e2; exact ⟨x,μ',S',q⟩
 have hO:∀ st a w1,Good tab fn.ntmps μ (memL bs) w S st a w1→finC tab fn bs.length (fun v' bs''=>v'=v∧bs''=bs') st→∃ v' bs'',(v'=v∧bs''=bs')∧Ends P tab fn μ bs w S v' bs'' a w1:=fun st a w1 G hq=>by
  unfold finC onSome at hq
  split at hq
  ·rename_i st' hc
   exact finO_sound O.table hq (canon_sound rfl hc G)
  ·exact hq.elim
 rcases h3 with ⟨m,h3⟩ | ⟨m,h3⟩ | ⟨m,h3⟩ | ⟨m,h3⟩
 ·exact key _ m _ (fun _ _ G=>G) (fun st a w1 G hq=>finD_sound O.table hq G) h3
 ·exact key _ m _ (fun _ _ G=>G) hO h3
 ·exact key _ m _ (fun _ _ G=>freshAll_good _ G) hO h3
 ·refine key _ m _ (fun _ _ G=>G) (fun st a w1 G hq=>?_) h3
  unfold finP onSome at hq
  split at hq
  ·rename_i st' hc
   obtain ⟨μ',S',R',F',E'⟩:=canon_sound rfl hc G
   obtain ⟨S2,R2,F2,E2,hb⟩:=frzAll_sound (texts st'.mem) R' F'
   exact finO_sound O.table hq ⟨μ',S2,R2,by rw [hb]; exact F2,E'.trans E2⟩
  ·exact hq.elim

theorem Ok.nil (hT:TabOk P tab) (hm:P.follows .mixedOrders=true):Ok P tab []:=⟨hT,fun g D hg=>by simp [look] at hg,hm⟩

theorem Ok.consC {f:Nat} {C:Contract} (O:Ok P tab Γ) (hf:P.funcs[f]? = some fn) (hB:fnB fn=true) (hC:SoundC P tab f C):Ok P tab ((f,C)::Γ):=by
 refine ⟨O.table,fun g D hg=>?_,O.mixed⟩
 by_cases e:g=f
 ·subst e
  simp [look,Nat.beq_refl] at hg
  subst hg
  obtain ⟨c,hb,_,_,hn⟩:=fnB_spec hB
  exact ⟨hC,fn,hf,by simp [hb],hn⟩
 ·simp only [look,beq_ne e] at hg
  exact O.sound g D hg

structure FnOk (P:Program) (f:Nat) (fn:Func):Prop where
 hf:P.funcs[f]? = some fn
 hB:fnB fn=true
theorem soundC_f {f:Nat} {C:Contract} (O:Ok P tab Γ) (h:FnOk P f fn) (hC:Meets Γ tab fn C):SoundC P tab f C:=soundC_of O h.hf h.hB hC
theorem Ok.c {f:Nat} {C:Contract} (O:Ok P tab Γ) (h:FnOk P f fn) (hC:SoundC P tab f C):Ok P tab ((f,C)::Γ):=O.consC h.hf h.hB hC

end
theorem soundC_mark {P:Program} {tab:Tab} {f:Nat}:SoundC P tab f markC:=fun vs _ _ _ _ h hp=>by
 cases vs with
 | nil=>cases h; exact hp.1.elim
 | cons _ _=>cases h
def orC (C D:Contract):Contract:=fun vs bs=>match C vs bs with
 | some x=>some x
 | none=>D vs bs
theorem soundC_or {P:Program} {tab:Tab} {f:Nat} {C D:Contract} (h1:SoundC P tab f C) (h2:SoundC P tab f D):SoundC P tab f (orC C D):=by
 intro vs bs p v bs' h hp
 unfold orC at h
 split at h
 ·rename_i x hx
  cases h
  exact h1 vs bs p v bs' hx hp
 ·exact h2 vs bs p v bs' h hp
def V.weak:V→V
 | .tup (.one (.dat (.list _) _)::rest)=>.tup (.one .any::rest)
 | v=>v
theorem relV_weak {tab:Tab} {μ:Mu} {mem:MemF} {w:World} {S:Nat→Prop} {v:V} {x:Value} (h:RelV tab μ mem w S v x):RelV tab μ mem w S v.weak x:=by
 unfold V.weak
 split
 ·obtain ⟨xs,e,hs,h⟩:=h
  refine ⟨xs,e,by simpa using hs,fun i v hi=>?_⟩
  cases i with
  | zero =>
   obtain ⟨y,h1,h2⟩:=h 0 _ rfl
   simp at hi
   subst hi
   exact ⟨y,h1,h2.1,trivial⟩
  | succ i=>exact h (i+1) v (by simpa using hi)
 ·exact h
def weakC (C:Contract):Contract:=fun vs bs=>match C vs bs with
 | some (p,v,bs')=>some (p,v.weak,bs')
 | none=>none
theorem soundC_weak {P:Program} {tab:Tab} {f:Nat} {C:Contract} (h:SoundC P tab f C):SoundC P tab f (weakC C):=by
 intro vs bs p v bs' e hp
 unfold weakC at e
 split at e
 ·rename_i p0 v0 bs0 hx
  cases e
  intro w S μ xs I hx'
  exact (h vs bs _ _ _ hx hp w S μ xs I hx').mono fun e w' ⟨x,μ',S',h1,h2,h3,h4⟩=>⟨x,μ',S',h1,h2,h3,relV_weak h4⟩
 ·cases e
end Vm
end Go.Proofs.YtlbppjmekiemiacGreatDoor


/- The executor on data: what a claim's form reads is the executor's data. No condition. -/
namespace Go.Proofs.YtlbppjmekiemiacGreatDoor
namespace Vm

def Ty.lay:Ty→List Ty
 | .signed=>[.int,.int]
 | .target=>[.int,.int,.int]
 | .root=>[.int,.list .int,.int]
 | .message=>[.int,.int,.int,.int,.int,.list .int,.bool]
 | .unitd=>[.list .int,.int,.bool,.int,.int]
 | .campaign=>[.int,.int,.int,.list .target,.list (.list .int)]
 | .happening=>[.int,.int,.int,.list .root,.list (.list .int),.int,.int,.list .target,.list .int,.list (.list .int)]
 | .offer=>[.list .root,.list (.list .int),.int,.int,.list .target,.list .int,.list (.list .int)]
 | .change=>[.int,.fnw]
 | .flash=>[.list .int,.int]
 | t=>[t]

def Ty.bytes:Ty→Nat
 | .int=>8
 | .bool=>1
 | .str=>16
 | .fnw=>8
 | .u64=>8
 | .err=>16
 | .list _=>24
 | .signed=>16
 | .target=>24
 | .root=>40
 | .message=>72
 | .unitd=>56
 | .campaign=>72
 | .happening=>160
 | .offer=>136
 | .change=>16
 | .flash=>32

def I64 (n:Int):Prop:=-9223372036854775808≤n∧n≤9223372036854775807

inductive SzC:C→Prop
 | int (n:Int) (h:I64 n):SzC (.dat .int n)
 | bool (b:Bool):SzC (.dat .bool b)
 | str (s:List UInt8) (h:s.length≤140737488351232):SzC (.dat .str s)
 | list (t:Ty) (l:List t.den) (h:l.length*t.bytes≤140737488351232) (he:∀ (i j:Nat) (c:C),i<l.length→(t.cells (nth l i t.dflt))[j]? = some c→SzC c):SzC (.dat (.list t) l)

def Shapes:List Ty→List C→Prop
 | [],[]=>True
 | t::ts,c::cs=>(∃ d:t.den,c=.dat t d)∧Shapes ts cs
 | _,_=>False

set_option maxHeartbeats 1000000 in
theorem cells_of_shapes:∀ (t:Ty) (cs:List C),Shapes t.lay cs→∃ d:t.den,t.cells d=cs:=by
 intro t cs h
 cases t
 case signed =>
  match cs,h with
  | [_,_],⟨⟨a,rfl⟩,⟨b,rfl⟩,_⟩=>exact ⟨⟨a,b⟩,rfl⟩
 case target =>
  match cs,h with
  | [_,_,_],⟨⟨a,rfl⟩,⟨b,rfl⟩,⟨c,rfl⟩,_⟩=>exact ⟨⟨a,b,c⟩,rfl⟩
 case root =>
  match cs,h with
  | [_,_,_],⟨⟨a,rfl⟩,⟨b,rfl⟩,⟨c,rfl⟩,_⟩=>exact ⟨⟨a,b,c⟩,rfl⟩
 case message =>
  match cs,h with
  | [_,_,_,_,_,_,_],⟨⟨a,rfl⟩,⟨b,rfl⟩,⟨c,rfl⟩,⟨d,rfl⟩,⟨e,rfl⟩,⟨f,rfl⟩,⟨g,rfl⟩,_⟩=>exact ⟨⟨a,b,c,d,e,f,g⟩,rfl⟩
 case unitd =>
  match cs,h with
  | [_,_,_,_,_],⟨⟨a,rfl⟩,⟨b,rfl⟩,⟨c,rfl⟩,⟨d,rfl⟩,⟨e,rfl⟩,_⟩=>exact ⟨⟨⟨a,b⟩,c,d,e⟩,rfl⟩
 case campaign =>
  match cs,h with
  | [_,_,_,_,_],⟨⟨a,rfl⟩,⟨b,rfl⟩,⟨c,rfl⟩,⟨d,rfl⟩,⟨e,rfl⟩,_⟩=>exact ⟨⟨a,⟨b,c,d⟩,e⟩,rfl⟩
 case happening =>
  match cs,h with
  | [_,_,_,_,_,_,_,_,_,_],⟨⟨a,rfl⟩,⟨b,rfl⟩,⟨c,rfl⟩,⟨d,rfl⟩,⟨e,rfl⟩,⟨f,rfl⟩,⟨g,rfl⟩,⟨i,rfl⟩,⟨j,rfl⟩,⟨k,rfl⟩,_⟩=>exact ⟨⟨a,b,c,⟨d,e,⟨f,g,i⟩,j,k⟩⟩,rfl⟩
 case offer =>
  match cs,h with
  | [_,_,_,_,_,_,_],⟨⟨a,rfl⟩,⟨b,rfl⟩,⟨c,rfl⟩,⟨d,rfl⟩,⟨e,rfl⟩,⟨f,rfl⟩,⟨g,rfl⟩,_⟩=>exact ⟨⟨a,b,⟨c,d,e⟩,f,g⟩,rfl⟩
 case change =>
  match cs,h with
  | [_,_],⟨⟨a,rfl⟩,⟨b,rfl⟩,_⟩=>exact ⟨⟨a,b⟩,rfl⟩
 case flash =>
  match cs,h with
  | [_,_],⟨⟨a,rfl⟩,⟨b,rfl⟩,_⟩=>exact ⟨⟨a,b⟩,rfl⟩
 all_goals
  match cs,h with
  | [_],⟨⟨a,rfl⟩,_⟩=>exact ⟨a,rfl⟩

theorem lay_width (t:Ty):t.lay.length=t.width:=by cases t<;>rfl

def fitsW (P:Program) (g:List Ty→Nat→Bool):List Ty→Nat→List Field→Bool
 | L,_,[]=>L.isEmpty
 | L,o,f::fs=>Nat.beq f.offset o && Nat.ble (P.cellsOf f.type) L.length && g (L.take (P.cellsOf f.type)) f.type && fitsW P g (L.drop (P.cellsOf f.type)) (o+P.cellsOf f.type) fs

def fitB (P:Program):Nat→List Ty→Nat→Bool
 | 0,_,_=>false
 | m+1,L,t=>match P.underlying t with
  | some (.int .i64)=>match L with | [.int]=>true | _=>false
  | some .bool=>match L with | [.bool]=>true | _=>false
  | some .string=>match L with | [.str]=>true | _=>false
  | some (.slice e)=>match L with
   | [.list u]=>fitB P m u.lay e && Nat.beq (P.cellsOf e) u.width && Nat.beq (P.bytesOf e) u.bytes && Nat.ble 1 u.width
   | _=>false
  | some (.struct fs)=>Nat.beq (P.cellsOf t) L.length && fitsW P (fitB P m) L 0 fs.toList
  | _=>false

theorem shapes_append:∀ {L M:List Ty} {cs ds:List C},Shapes L cs→Shapes M ds→Shapes (L++M) (cs++ds)
 | [],_,[],_,_,h=>h
 | _t::_L,_,_c::_cs,_,h,h'=>⟨h.1,shapes_append h.2 h'⟩
 | [],_,_::_,_,h,_=>h.elim
 | _::_,_,[],_,h,_=>h.elim

theorem shapes_len:∀ {L:List Ty} {cs:List C},Shapes L cs→cs.length=L.length
 | [],[],_=>rfl
 | _::L,_::cs,h=>by simp [shapes_len h.2]
 | [],_::_,h=>h.elim
 | _::_,[],h=>h.elim

section
variable {H:Type} {enc:TypeId × Value→H} {P:Program} {tab:Tab} {w:World} {sp:Nat→Bool} {held:Bool}

def CellsAre (tab:Tab) (w:World) (ds:List C) (cs:List Value):Prop :=
 ∀ (j:Nat) c,ds[j]? = some c→∃ y,cs[j]? = some y∧y.oneCell'=true∧RepC tab w (fun b=>b<w.heap.size) c y∧SzC c

theorem cellsAre_append {ds es:List C} {cs xs:List Value} (h:CellsAre tab w ds cs) (h':CellsAre tab w es xs) (hl:ds.length=cs.length):CellsAre tab w (ds++es) (cs++xs):=by
 intro j c hc
 by_cases hj:j<ds.length
 ·rw [List.getElem?_append_left hj] at hc
  obtain ⟨y,h1,h2⟩:=h j c hc
  exact ⟨y,by rw [List.getElem?_append_left (by omega)]; exact h1,h2⟩
 ·rw [List.getElem?_append_right (by omega)] at hc
  obtain ⟨y,h1,h2⟩:=h' _ c hc
  exact ⟨y,by rw [List.getElem?_append_right (by omega),← hl]; exact h1,h2⟩

theorem weightsAll_mem:∀ {e:TypeId} {l:List (DataW H)} {i:Nat} {d:DataW H},l[i]? = some d→∀ n∈d.weights P e,n∈DataW.weightsAll P e l
 | e,[],i,d,h,_,_=>by simp at h
 | e,x::l,0,d,h,n,hn=>by simp at h; subst h; simp [DataW.weightsAll,hn]
 | e,x::l,i+1,d,h,n,hn=>by simp at h; simp [DataW.weightsAll,weightsAll_mem h n hn]

theorem fits_rep {m n:Nat} (ih:∀ (L:List Ty) (t:Nat) (cs:List Value) (x:DataW H × List MemPlace),fitB P m L t=true→DataW.trod enc P w 0 sp held n t cs=some x→(∀ k∈x.1.weights P t,k≤reachBytes) →
   ∃ ds,Shapes L ds∧cs.length=ds.length∧CellsAre tab w ds cs):∀ (fs:List Field) (L:List Ty) (o:Nat) (cs:List Value) (xs:List (DataW H × List MemPlace)),fitsW P (fitB P m) L o fs=true→cs.length=o+L.length→xs.length=fs.length →
   (∀ (i:Nat) (f:Field),fs[i]? = some f→DataW.trod enc P w 0 sp held n f.type ((cs.drop f.offset).take (P.cellsOf f.type))=xs[i]?)→(∀ k∈DataW.weightsEach P (fs.map (·.type)) (xs.map (·.1)),k≤reachBytes) →
   ∃ ds,Shapes L ds∧(cs.drop o).length=ds.length∧CellsAre tab w ds (cs.drop o)
 | [],L,o,cs,xs,hf,hl,hx,_,_=>by
  simp only [fitsW,List.isEmpty_iff] at hf
  subst hf
  exact ⟨[],trivial,by simp at hl ⊢; omega,fun j c hc=>by simp at hc⟩
 | f::fs,L,o,cs,[],hf,hl,hx,_,_=>by simp at hx
 | f::fs,L,o,cs,x::xs,hf,hl,hx,hd,hw=>by
  simp only [fitsW,Bool.and_eq_true] at hf
  obtain ⟨⟨⟨f1,f2⟩,f3⟩,f4⟩:=hf
  have e1:=Nat.eq_of_beq_eq_true f1
  have e2:=Nat.le_of_ble_eq_true f2
  have h0:=hd 0 f rfl
  simp only [List.getElem?_cons_zero] at h0
  rw [e1] at h0
  obtain ⟨ds,g1,g2,g3⟩:=ih _ _ _ _ f3 h0 (fun k hk=>hw k (by simp [DataW.weightsEach,hk]))
  obtain ⟨es,k1,k2,k3⟩:=fits_rep ih fs (L.drop (P.cellsOf f.type)) (o+P.cellsOf f.type) cs xs f4 (by simp; omega) (by simpa using hx) (fun i g hg=>by have:=hd (i+1) g (by simpa using hg); simpa using this)
   (fun k hk=>hw k (by simp [DataW.weightsEach,hk]))
  refine ⟨ds++es,by have:=shapes_append g1 k1; rwa [List.take_append_drop] at this,?_,?_⟩
  ·have a1:=shapes_len g1
   have a2:=shapes_len k1
   simp at a1 a2 ⊢; omega
  ·have:=cellsAre_append g3 k3 (by rw [g2])
   rwa [← List.drop_drop,List.take_append_drop] at this

theorem read_rep:∀ (n m:Nat) (L:List Ty) (t:Nat) (cs:List Value) (x:DataW H × List MemPlace),fitB P m L t=true→DataW.trod enc P w 0 sp held n t cs=some x→(∀ k∈x.1.weights P t,k≤reachBytes) →
  ∃ ds,Shapes L ds∧cs.length=ds.length∧CellsAre tab w ds cs
 | 0,m,L,t,cs,x,hf,h,hw=>by simp [DataW.trod] at h
 | n+1,0,L,t,cs,x,hf,h,hw=>by simp [fitB] at hf
 | n+1,m+1,L,t,cs,x,hf,h,hw=>by
  have one:∀ (τ:Ty) (d:τ.den) (v:Value),L=[τ]→cs=[v]→v.oneCell'=true→RepC tab w (fun b=>b<w.heap.size) (.dat τ d) v→SzC (.dat τ d)→∃ ds,Shapes L ds∧cs.length=ds.length∧CellsAre tab w ds cs:=fun τ d v hL hcs h1 h2 h3=>by
   subst hL hcs
   refine ⟨[.dat τ d],⟨⟨d,rfl⟩,trivial⟩,rfl,fun j c hc=>?_⟩
   cases j with
   | zero=>simp at hc; subst hc; exact ⟨v,rfl,h1,h2,h3⟩
   | succ j=>simp at hc
  unfold fitB at hf
  split at hf
  ·rename_i hu
   split at hf
   ·obtain ⟨k,rfl,rfl,hwf⟩:=DataW.trod_int hu h
    refine one .int k _ rfl rfl rfl (.int k) (.int k ?_)
    simp only [Lit.wf,Bool.and_eq_true,decide_eq_true_eq,IntKind.min,IntKind.max,IntKind.signed,IntKind.bits] at hwf
    simp at hwf
    exact ⟨by omega,by omega⟩
   ·cases hf
  ·rename_i hu
   split at hf
   ·obtain ⟨b,rfl,rfl⟩:=DataW.trod_bool hu h
    exact one .bool b _ rfl rfl rfl (.bool b) (.bool b)
   ·cases hf
  ·rename_i hu
   split at hf
   ·obtain ⟨s,rfl,rfl,hs⟩:=DataW.trod_string hu h
    refine one .str s.data.toList _ rfl rfl rfl ?_ (.str _ ?_)
    ·have:RepC tab w (fun b=>b<w.heap.size) (.dat .str s.data.toList) (.string ⟨s.data.toList.toArray⟩):=.str _
     simpa using this
    ·have:=hw s.data.toList.length (by simp [DataW.weights])
     unfold reachBytes at this
     exact this
   ·cases hf
  ·rename_i e hu
   split at hf
   ·rename_i u
    simp only [Bool.and_eq_true] at hf
    obtain ⟨⟨⟨f1,f2⟩,f3⟩,f4⟩:=hf
    have e2:=Nat.eq_of_beq_eq_true f2
    have e3:=Nat.eq_of_beq_eq_true f3
    have e4:=Nat.le_of_ble_eq_true f4
    rcases DataW.trod_slice hu h with ⟨rfl,rfl⟩ | ⟨a,len,cap,elems,rest,n',hn,rfl,rfl,_,hlc,_,hel,hat,_,_⟩
    ·exact one (.list u) [] _ rfl rfl rfl (.empty u none 0) (.list u [] (by simp) (fun i j c hi=>by simp at hi))
    ·have hn':n'=n:=by omega
     subst hn'
     have hwl:len*u.bytes≤reachBytes:=by
      have:=hw ((elems.length+rest.length)*P.bytesOf e) (by simp [DataW.weights,hu])
      rw [hel,e3] at this
      exact Nat.le_trans (Nat.mul_le_mul_right _ (Nat.le_add_right _ _)) this
     by_cases hz:len=0
     ·subst hz
      exact one (.list u) [] _ rfl rfl rfl (.empty u (some a) cap) (.list u [] (by simp) (fun i j c hi=>by simp at hi))
     ·-- each element
      have each:∀ i,i<len→∃ (d:u.den),∃ cs',w.cells? 0 (a.add (i*u.width)) u.width=some cs'∧CellsAre tab w (u.cells d) cs'∧(u.cells d).length=u.width:=fun i hi=>by
       have h1:=hat i hi
       rw [e2] at h1
       cases hc:w.cells? 0 (a.add (i*u.width)) u.width with
       | none=>rw [hc] at h1; simp at h1; omega
       | some cs' =>
        rw [hc] at h1
        simp only [Option.bind_some] at h1
        have hei:i<elems.length:=by omega
        rw [List.getElem?_eq_getElem hei] at h1
        obtain ⟨ds,k1,k2,k3⟩:=read_rep n' m _ _ _ _ f1 h1 (fun k hk=>hw k (by
         simp only [DataW.weights,hu,List.mem_cons,List.mem_append]
         exact .inr (.inl (weightsAll_mem (i:=i) (by simp [hei]) k hk))))
        obtain ⟨d,hd⟩:=cells_of_shapes u ds k1
        subst hd
        exact ⟨d,cs',rfl,k3,by rw [shapes_len k1,lay_width]⟩
      have hspot:a.spot=none:=by
       obtain ⟨d,cs',hc,_,_⟩:=each 0 (by omega)
       obtain ⟨_,_,h3⟩:=World.cells?_some hc
       have h4:=h3 0 (by omega)
       simp only [Nat.zero_mul,Addr.add,if_true] at h4
       have hlen:0<cs'.length:=by
        obtain ⟨_,h5,_⟩:=World.cells?_some hc; omega
       rw [List.getElem?_eq_getElem hlen] at h4
       unfold World.cell? at h4
       cases hs:a.spot with
       | none=>rfl
       | some q =>
        rw [hs] at h4
        split at h4<;>simp at h4
      have hbl:a.block<w.heap.size:=by
       obtain ⟨d,cs',hc,_,_⟩:=each 0 (by omega)
       have:=World.cells?_block hc (by omega)
       simpa [Addr.add] using this
      have haddr:∀ k,a.add k=at0 a.block (a.off+k):=fun k=>by
       unfold Addr.add at0
       split
       ·rename_i hk; subst hk
        cases a; simp at hspot ⊢; exact hspot
       ·rfl
      obtain ⟨f,hf'⟩:∃ f:Nat→u.den,∀ i,i<len→∃ cs',w.cells? 0 (a.add (i*u.width)) u.width=some cs'∧CellsAre tab w (u.cells (f i)) cs'∧(u.cells (f i)).length=u.width :=
       ⟨fun i=>if hi:i<len then Classical.choose (each i hi) else u.dflt,fun i hi=>by
        simp only [hi,dif_pos]
        exact Classical.choose_spec (each i hi)⟩
      have hcell:∀ i j,i<len→j<u.width→∃ y,w.cell? (at0 a.block (a.off+i*u.width+j))=some y∧∀ c,(u.cells (f i))[j]? = some c→y.oneCell'=true∧RepC tab w (fun b=>b<w.heap.size) c y∧SzC c:=fun i j hi hj=>by
       obtain ⟨cs',h1,h2,h3⟩:=hf' i hi
       obtain ⟨_,h4,h5⟩:=World.cells?_some h1
       have h6:=h5 j hj
       rw [haddr] at h6
       have hadd:(at0 a.block (a.off+i*u.width)).add j=at0 a.block (a.off+i*u.width+j):=by
        unfold Addr.add at0
        split
        ·rename_i hk; subst hk; rfl
        ·rfl
       rw [hadd,List.getElem?_eq_getElem (by omega)] at h6
       refine ⟨_,h6,fun c hc=>?_⟩
       obtain ⟨y,y1,y2,y3,y4⟩:=h2 j c hc
       rw [List.getElem?_eq_getElem (by omega)] at y1
       cases y1
       exact ⟨y2,y3,y4⟩
      have hl:((List.range len).map f).length=len:=by simp
      have hnth:∀ i,i<len→nth ((List.range len).map f) i u.dflt=f i:=fun i hi=>by
       simp [nth,List.getD_eq_getElem?_getD,hi]
      refine one (.list u) ((List.range len).map f) _ rfl rfl rfl ?_ ?_
      ·have hrep:RepC tab w (fun b=>b<w.heap.size) (.dat (.list u) ((List.range len).map f)) (.slice (some (at0 a.block a.off)) ((List.range len).map f).length cap):=by
        refine .list u _ a.block a.off cap (fun i j=>(w.cell? (at0 a.block (a.off+i*u.width+j))).getD Go.undef) hbl (by rw [hl]; exact hlc) (fun i j hi hj=>?_) (fun i j c hi hc=>?_)
        ·rw [hl] at hi
         obtain ⟨y,h1,_⟩:=hcell i j hi hj
         rw [h1]; rfl
        ·rw [hl] at hi
         rw [hnth i hi] at hc
         have hj:j<u.width:=by
          obtain ⟨_,_,_,h3⟩:=hf' i hi
          have:=(List.getElem?_eq_some_iff.1 hc).1
          omega
         obtain ⟨y,h1,h2⟩:=hcell i j hi hj
         rw [h1]
         exact (h2 c hc).2.1
       rw [hl] at hrep
       have:at0 a.block a.off=a:=by cases a; simp [at0] at hspot ⊢; exact hspot.symm
       rwa [this] at hrep
      ·refine .list u _ (by rw [hl]; unfold reachBytes at hwl; exact hwl) (fun i j c hi hc=>?_)
       rw [hl] at hi
       rw [hnth i hi] at hc
       have hj:j<u.width:=by
        obtain ⟨_,_,_,h3⟩:=hf' i hi
        have:=(List.getElem?_eq_some_iff.1 hc).1
        omega
       obtain ⟨y,h1,h2⟩:=hcell i j hi hj
       exact (h2 c hc).2.2
   ·cases hf
  ·rename_i fs hu
   obtain ⟨xs,n',hn,rfl,hlen,hxl,hall⟩:=DataW.trod_struct hu h
   have hn':n'=n:=by omega
   subst hn'
   simp only [Bool.and_eq_true] at hf
   obtain ⟨hc,hf⟩:=hf
   have hlenL:cs.length=0+L.length:=by
    rw [hlen,Nat.eq_of_beq_eq_true hc]; omega
   obtain ⟨ds,k1,k2,k3⟩:=fits_rep (fun L t cs x=>read_rep n' m L t cs x) fs.toList L 0 cs xs hf hlenL (by simpa using hxl) (fun i f hi=>hall i f (by simpa using hi)) (fun k hk=>hw k (by simpa [DataW.weights,hu] using hk))
   exact ⟨ds,k1,by simpa using k2,by simpa using k3⟩
  ·cases hf
end
end Vm
end Go.Proofs.YtlbppjmekiemiacGreatDoor


/- The executor on data: from a law's contract to what its row asks. No condition. -/
namespace Go.Proofs.YtlbppjmekiemiacGreatDoor
namespace Vm
open Go.ChangeShapes Go.WideShapes Go.RowKit

abbrev Par:=Bool × List Ty

def structB (P:Program) (t:Nat):Option Bool :=
 match P.underlying t with
 | some (.struct _)=>some true
 | some (.int .i64) | some .bool | some .string | some (.slice _)=>some false
 | _=>none

def parsB (P:Program) (m:Nat):List Par→List Nat→Bool
 | [],[]=>true
 | (b,L)::ps,t::ts=>fitB P m L t && (match structB P t with | some b'=>b == b' | none=>false) && P.readableRec t && decide (t<P.types.size) && parsB P m ps ts
 | _,_=>false

def ArgIs:Par→V→Prop
 | (true,L),.agg cs=>Shapes L cs∧∀ c∈cs,SzC c
 | (false,L),.one c=>Shapes L [c]∧SzC c
 | _,_=>False

def ArgsAre:List Par→List V→Prop
 | [],[]=>True
 | p::ps,v::vs=>ArgIs p v∧ArgsAre ps vs
 | _,_=>False

section
variable {H:Type} {enc:TypeId × Value→H} {P:Program} {tab:Tab} {w:World} {sp:Nat→Bool} {held:Bool} {base:Nat}

theorem structB_false {t:Nat} {v:Value} (hs:structB P t=some false) (h:Value.okWide P w .any base t v):v.oneCell'=true∧v.cells.toList=[v]:=by
 unfold structB at hs
 split at hs<;>try cases hs
 ·rename_i hu; obtain ⟨n,rfl⟩:=okWide_int hu h; exact ⟨rfl,rfl⟩
 ·rename_i hu; obtain ⟨n,rfl⟩:=okWide_bool hu h; exact ⟨rfl,rfl⟩
 ·rename_i hu; obtain ⟨n,rfl⟩:=okWide_string hu h; exact ⟨rfl,rfl⟩
 ·rename_i hu; obtain ⟨a,b,c,rfl⟩:=okWide_slice hu h; exact ⟨rfl,rfl⟩

theorem structB_true {t:Nat} {v:Value} (hs:structB P t=some true) (h:Value.okWide P w .any base t v):∃ cs,v=.agg cs:=by
 unfold structB at hs
 split at hs<;>try cases hs
 rename_i hu
 obtain ⟨cs,h1,_⟩:=okWide_struct hu h
 exact ⟨cs,h1⟩

theorem relV_dat {μ:Mu} {mf:MemF} {S:Nat→Prop} {ds:List C} {xs:Array Value} (h:CellsAre tab w ds xs.toList) (hl:xs.size=ds.length) (hd:∀ c∈ds,∃ τ d,c=.dat τ d) (hS:S=fun b=>b<w.heap.size):RelV tab μ mf w S (.agg ds) (.agg xs):=by
 subst hS
 refine ⟨xs,rfl,hl,fun i c hc=>?_⟩
 obtain ⟨y,y1,y2,y3,_⟩:=h i c hc
 obtain ⟨τ,d,rfl⟩:=hd c (List.mem_of_getElem? hc)
 exact ⟨y,by simpa using y1,y2,y3⟩

theorem shapes_dat:∀ {L:List Ty} {cs:List C},Shapes L cs→∀ c∈cs,∃ τ d,c=.dat τ d
 | _::_,c::_,h,x,hx=>by
  rcases List.mem_cons.1 hx with rfl | hx
  ·obtain ⟨d,hd⟩:=h.1; exact ⟨_,d,hd⟩
  ·exact shapes_dat h.2 x hx
 | [],[],_,x,hx=>by cases hx
 | [],_::_,h,_,_=>h.elim
 | _::_,[],h,_,_=>h.elim

theorem arg_rel {m:Nat} {L:List Ty} {b:Bool} {t:Nat} {v:Value} {d:DataW H} {p:List MemPlace} (hf:fitB P m L t=true) (hs:structB P t=some b) (hv:Value.okWide P w .any base t v) (h:DataW.Trod enc P w 0 sp held t v d p)
  (hw:∀ k∈d.weights P t,k≤reachBytes):∃ u,ArgIs (b,L) u∧RelV tab (fun _=>none) (memL []) w (fun b=>b<w.heap.size) u v:=by
 obtain ⟨n,hn⟩:=h
 obtain ⟨ds,h1,h2,h3⟩:=read_rep (tab:=tab) n m L t _ _ hf hn hw
 cases b with
 | true =>
  obtain ⟨cs,rfl⟩:=structB_true hs hv
  refine ⟨.agg ds,⟨h1,fun c hc=>?_⟩,relV_dat h3 (by simpa [Value.cells] using h2) (shapes_dat h1) rfl⟩
  obtain ⟨i,hi⟩:=List.getElem?_of_mem hc
  obtain ⟨y,_,_,_,y4⟩:=h3 i c hi
  exact y4
 | false =>
  obtain ⟨g1,g2⟩:=structB_false hs hv
  rw [g2] at h2 h3
  match ds,h1,h2,h3 with
  | [c],h1,_,h3 =>
   obtain ⟨y,y1,y2,y3,y4⟩:=h3 0 c rfl
   simp at y1; subst y1
   refine ⟨.one c,⟨h1,y4⟩,?_⟩
   obtain ⟨τ,dd,rfl⟩:=shapes_dat h1 c (List.mem_cons_self ..)
   exact ⟨y2,y3⟩

theorem args_rel {m:Nat}:∀ {ps:List Par} {ts:List Nat} {vs:List Value} {ds:List (DataW H)} {p:List MemPlace},parsB P m ps ts=true→(∀ (j:Nat) t v,ts[j]? = some t→vs[j]? = some v→Value.okWide P w .any base t v) →
  DataW.TrodAll enc P w 0 sp held ts vs ds p→(∀ k∈DataW.weightsEach P ts ds,k≤reachBytes)→∃ us,ArgsAre ps us∧RelVs tab (fun _=>none) (memL []) w (fun b=>b<w.heap.size) us vs
 | [],[],vs,ds,p,_,_,h,_=>by
  match vs,ds,h with
  | [],[],_=>exact ⟨[],trivial,trivial⟩
 | (b,L)::ps,t::ts,vs,ds,p,hp,hv,h,hw=>by
  match vs,ds,h with
  | v::vs,d::ds,h =>
   simp only [parsB,Bool.and_eq_true] at hp
   obtain ⟨⟨⟨⟨f1,f2⟩,_⟩,_⟩,f3⟩:=hp
   obtain ⟨p1,p2,h1,h2,_⟩:=h
   have hs:structB P t=some b:=by
    split at f2
    ·rename_i b' hb; rw [hb,beq_iff_eq.1 f2]
    ·cases f2
   obtain ⟨u,u1,u2⟩:=arg_rel (tab:=tab) f1 hs (hv 0 t v rfl rfl) h1 (fun k hk=>hw k (by simp [DataW.weightsEach,hk]))
   obtain ⟨us,k1,k2⟩:=args_rel f3 (fun j t v ht hv'=>hv (j+1) t v (by simpa using ht) (by simpa using hv')) h2 (fun k hk=>hw k (by simp [DataW.weightsEach,hk]))
   exact ⟨u::us,⟨u1,k1⟩,u2,k2⟩
 | [],_::_,_,_,_,hp,_,_,_=>by simp [parsB] at hp
 | _::_,[],_,_,_,hp,_,_,_=>by simp [parsB] at hp

theorem trodAll_stays {m:Nat} {W W':World} (hl:laidOutB P=true) (hb:Below W.heap.size W W') {sp':Nat→Bool}:∀ {ps:List Par} {ts:List Nat} {vs:List Value} {ds:List (DataW H)} {p:List MemPlace},parsB P m ps ts=true →
  DataW.TrodAll enc P W 0 (fun _=>true) true ts vs ds p→(∀ x∈p,x.block<W.heap.size)→(∀ x∈p,sp' x.block=true)→DataW.TrodAll enc P W' 0 sp' true ts vs ds p
 | [],[],vs,ds,p,_,h,_,_=>by
  match vs,ds,h with
  | [],[],h=>exact h
 | (b,L)::ps,t::ts,vs,ds,p,hp,h,h1,h2=>by
  match vs,ds,h with
  | v::vs,d::ds,h =>
   simp only [parsB,Bool.and_eq_true,decide_eq_true_eq] at hp
   obtain ⟨⟨⟨⟨_,_⟩,f1⟩,f2⟩,f3⟩:=hp
   obtain ⟨p1,p2,g1,g2,rfl⟩:=h
   exact ⟨p1,p2,Go.WideElems.Trod_stays hl f1 f2 g1 (fun x hx=>hb.same (h1 x (List.mem_append_left _ hx))) (fun x hx=>h2 x (List.mem_append_left _ hx)),
    trodAll_stays hl hb f3 g2 (fun x hx=>h1 x (List.mem_append_right _ hx)) (fun x hx=>h2 x (List.mem_append_right _ hx)),rfl⟩
 | [],_::_,_,_,_,hp,_,_,_=>by simp [parsB] at hp
 | _::_,[],_,_,_,hp,_,_,_=>by simp [parsB] at hp

theorem post_of_below {f:Func} {s:ChangeSpec} {apart fresh handsOn again:Bool} {W W':World} {args:Array Value} {v:Value} {ds gs:List (DataW H)} {before pa pv:List MemPlace}
  (hW:DataW.Whole enc P f.params.toList s.vars apart W args.toList ds gs before)
  (hres:∀ (b:Nat) (sp:Nat→Bool) (hd:Bool),DataW.TrodAll enc P W' b sp hd f.resultTypes.toList (v.resultList f.resultTypes.size) (s.fn H (ds++gs)).results [])
  (hargs:∀ sp:Nat→Bool,(∀ p∈before,sp p.block=true)→DataW.TrodAll enc P W' 0 sp true f.params.toList args.toList (s.fn H (ds++gs)).args pa)
  (hvars:∀ sp:Nat→Bool,(∀ p∈before,sp p.block=true)→DataW.TrodVars enc P W' sp s.vars (s.fn H (ds++gs)).vars pv)
  (hps:before=pa++pv) (hb:Below W.heap.size W W')
  (hok:∀ (j:Nat) (t:TypeId) (r:Value),f.resultTypes[j]? = some t→(v.resultList f.resultTypes.size)[j]? = some r→Value.okWide P W' .any 0 t r) :
  s.post enc P f apart fresh handsOn again W args v W':=by
 have hlt:∀ p∈before,p.block<W.heap.size:=fun p hp=>hW.lt p hp
 have hold:∀ p∈before,(fun b=>decide (b<W.heap.size)) p.block=true:=fun p hp=>by simpa using hlt p hp
 refine ⟨ds,gs,before,[],pa,pv,hW,hres _ _ _,hargs _ hold,hvars _ hold,World.keptBut_mono (fun p hp=>⟨hp,?_⟩) (hb.frame (·∈before)),fun _=>?_⟩
 ·rw [hps,List.mem_append] at hp
  exact Or.inr hp
 ·obtain ⟨_,_,_,_,_,hz,hn⟩:=hW
  refine ⟨hok,_,_,([]++pa)++pv,⟨[]++pa,pv,trodAll_append (hargs _ (fun _ _=>rfl)) (hres _ _ _),hvars _ (fun _ _=>rfl),rfl,?_,?_⟩,?_⟩
  ·intro b off hp
   have hin:MemPlace.cell b off∈before:=by rw [hps]; simpa using hp
   rw [hb.frozen (hlt _ hin)]
   exact hz b off hin
  ·intro ha
   have:=hn ha
   rw [hps] at this
   simpa using this
  ·intro p hp _
   rw [hps]
   simpa using hp

theorem args_cons {p:Par} {ps:List Par} {us:List V} (h:ArgsAre (p::ps) us):∃ u us',us=u::us'∧ArgIs p u∧ArgsAre ps us':=by
 match us,h with
 | u::us',h=>exact ⟨u,us',rfl,h.1,h.2⟩

theorem args_nil {us:List V} (h:ArgsAre [] us):us=[]:=by
 match us,h with
 | [],_=>rfl

theorem shapes_cons {τ:Ty} {L:List Ty} {cs:List C} (h:Shapes (τ::L) cs):∃ (d:τ.den) (cs':List C),cs=.dat τ d::cs'∧Shapes L cs':=by
 match cs,h with
 | _::cs',⟨⟨d,rfl⟩,h⟩=>exact ⟨d,cs',rfl,h⟩

theorem shapes_nil {cs:List C} (h:Shapes [] cs):cs=[]:=by
 match cs,h with
 | [],_=>rfl

theorem arg_one {τ:Ty} {u:V} (h:ArgIs (false,[τ]) u):∃ d:τ.den,u=.one (.dat τ d)∧SzC (.dat τ d):=by
 match u,h with
 | .one c,⟨h1,h2⟩ =>
  obtain ⟨d,cs',e,_⟩:=shapes_cons h1
  cases e
  exact ⟨d,rfl,h2⟩

theorem arg_agg {L:List Ty} {u:V} (h:ArgIs (true,L) u):∃ cs,u=.agg cs∧Shapes L cs∧∀ c∈cs,SzC c:=by
 match u,h with
 | .agg cs,⟨h1,h2⟩=>exact ⟨cs,rfl,h1,h2⟩

theorem szc_list {t:Ty} {l:List t.den} (h:SzC (.dat (.list t) l)):l.length*t.bytes≤140737488351232∧∀ (i j:Nat) (c:C),i<l.length→(t.cells (nth l i t.dflt))[j]? = some c→SzC c:=by
 cases h with
 | list _ _ h he=>exact ⟨h,he⟩

theorem law_calls {f:Nat} {fn:Func} {s:ChangeSpec} {apart fresh handsOn again:Bool} {m tb:Nat} {ps:List Par} (hlo:laidOutB P=true) (hps:parsB P m ps fn.params.toList=true) (hrt:fn.resultTypes=#[tb]) (hbu:P.underlying tb=some .bool) (hvars:s.vars=[])
  (hsp:∀ ds:List (DataW H),ds.length=ps.length→(s.fn H (ds++[])).results=[.lit (.bool true)]∧(s.fn H (ds++[])).args=ds∧(s.fn H (ds++[])).vars=[])
  (hC:∀ us,ArgsAre ps us→AC P tab f us [] (.one (.dat .bool true)) [])
  {W:World} {args:Array Value} {ds gs:List (DataW H)} {before:List MemPlace} (hval:∀ (j:Nat) t v,fn.params[j]? = some t→args[j]? = some v→Value.okWide P W .any base t v)
  (hW:DataW.Whole enc P fn.params.toList s.vars apart W args.toList ds gs before) (hsz:(DataW.weightsEach P (fn.params.toList++s.plain.varTypes P) (ds++gs)).all (·≤reachBytes)=true)
  (hpow:PowIs tab W (fun b=>b<W.heap.size)) :
  Calls P f args W fun e W'=>∃ v,e=.returned v∧s.post enc P fn apart fresh handsOn again W args v W':=by
 have hW':=hW
 obtain ⟨p,q,hA,hV,rfl,hfz,hnd⟩:=hW
 have hgs:gs=[]∧q=[]:=by rw [hvars] at hV; exact trodVars_none hV
 obtain ⟨rfl,rfl⟩:=hgs
 have hlen:∀ {ps:List Par} {ts:List Nat} {vs:List Value} {ds:List (DataW H)} {p:List MemPlace},parsB P m ps ts=true→DataW.TrodAll enc P W 0 (fun _=>true) true ts vs ds p→ds.length=ps.length:=by
  intro ps
  induction ps with
  | nil=>intro ts vs ds p hp h; cases ts<;>cases vs<;>cases ds<;>simp_all [parsB,DataW.TrodAll]
  | cons a ps ih =>
   intro ts vs ds p hp h
   match ts,vs,ds,h with
   | t::ts,v::vs,d::ds,h =>
    simp only [parsB,Bool.and_eq_true] at hp
    obtain ⟨_,_,_,h2,_⟩:=h
    simp [ih hp.2 h2]
   | [],_,_,_=>simp [parsB] at hp
 have hl:=hlen hps hA
 obtain ⟨us,u1,u2⟩:=args_rel (tab:=tab) hps (fun j t v ht hv=>hval j t v (by simpa using ht) (by simpa using hv)) hA (fun k hk=>by
  have:=List.all_eq_true.1 hsz k (by
   have:∀ (ts:List Nat) (xs:List (DataW H)) (ts':List Nat),k∈DataW.weightsEach P ts xs→k∈DataW.weightsEach P (ts++ts') (xs++[]):=by
    intro ts
    induction ts with
    | nil=>intro xs ts' h; cases xs<;>simp [DataW.weightsEach] at h
    | cons t ts ih =>
     intro xs ts' h
     cases xs with
     | nil=>simp [DataW.weightsEach] at h
     | cons x xs =>
      simp only [DataW.weightsEach,List.mem_append,List.cons_append] at h ⊢
      exact h.imp id (ih xs ts')
   exact this _ _ _ hk)
  simpa using this)
 have hI:Inv tab (fun _=>none) (memL []) W (fun b=>b<W.heap.size):=⟨fun r B h=>by simp [memL] at h,fun r r' _ ⟨B,hB,_⟩=>by simp [memL] at hB,fun r ⟨B,hB,_⟩=>by simp [memL] at hB,fun b hb=>hb,hpow⟩
 have:=hC us u1 W _ _ args.toList hI u2
 rw [Array.toArray_toList] at this
 refine this.mono fun e W1 ⟨x,μ',S',h1,h2,_,h4⟩=>?_
 have hx:x=.bool true:=by
  obtain ⟨_,h4⟩:=h4
  cases h4; rfl
 subst hx
 have hb:Below W.heap.size W W1:=⟨h2.os,h2.tape,h2.output,h2.size,fun k hk=>h2.heap k hk fun ⟨r,l,⟨B,hB,_⟩,_⟩=>by simp [memL] at hB⟩
 obtain ⟨s1,s2,s3⟩:=hsp ds hl
 simp only [List.append_nil] at hW'
 have hlt:∀ y∈p,y.block<W.heap.size:=fun y hy=>hW'.lt y hy
 refine ⟨_,h1,post_of_below (pa:=p) (pv:=[]) hW' (fun b sp hd=>?_) (fun sp hsp'=>?_) (fun _ _=>?_) (by simp) hb (ok_one hrt (by rfl) (okWide_bool_mk hbu _))⟩
 ·rw [s1,hrt]
  exact trodAll_mk1 (shut_bool hbu _)
 ·rw [s2]
  exact trodAll_stays hlo hb hps hA hlt (fun y hy=>hsp' y (by simpa using hy))
 ·rw [s3,hvars]; rfl
end
end Vm
end Go.Proofs.YtlbppjmekiemiacGreatDoor
