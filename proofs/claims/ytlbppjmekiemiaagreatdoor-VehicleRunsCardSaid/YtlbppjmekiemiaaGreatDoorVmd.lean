/- The executor on data: part 4 of 4. No condition. -/
import Derived.Test.YtlbppjmekiemiaaGreatDoorVmc
import Derived.Laws.StructEq
import Derived.ChangeKeysEq
import Derived.ChangeArms
import Derived.SizedLaws
import Derived.ProofKit
/- The executor on data: a loop's head is reached with a state in order. No condition. -/
namespace Go.Proofs.YtlbppjmekiemiaaGreatDoor
namespace bE
section
variable {P:Program} {tab:ci} {Γ:Ctx} {N fw:Nat} {a:Act} {w w':World} {Q:Exit->Act->World->Prop} {O bU:dk} {S S':Nat->Prop}

theorem Vv{mf:dS}{b:Nat}{e:z}{x:Value}(aG:x=.slice none 0 0):ch tab (l6 b (.eu (.slice none 0 0)) O) (cO [(b,.arr e [])] mf) w S (.one (.own b)) x:=by
 subst aG;refine⟨rfl,?_,fun t l _=>hn⟩;rw[fm];simp

def E9(tab:ci)(O:dk)(mem:Mem)(w:World)(S:Nat->Prop)(a:Act)(b:Nat)(q:Env×Mem):Prop :=
 ∃bU,Ext O (look mem) w S bU (look (q.2++mem)) w S/\Inv tab bU (look (q.2++mem)) w S/\jd (b+q.2.length) (q.2++mem)/\(∀r,r<b->look q.2 r=none) /\
  ∀p∈q.1,ch tab bU (look (q.2++mem)) w S p.2 (a.eval (.tmp p.1))/\(p.2=.one .undef->a.eval (.tmp p.1)=Go.undef)

theorem J3{mem:Mem}(aD:Inv tab O (look mem) w S):∀{env:Env} {b:Nat},jd b mem->(∀p∈env,ch tab O (look mem) w S p.2 (a.eval (.tmp p.1))/\(p.2=.one .undef->a.eval (.tmp p.1)=Go.undef)) ->
  E9 tab O mem w S a b (kr b env)
 |[],b,c8,h=>⟨O,Ext.refl,aD,c8,fun _ _=>rfl,fun p ag=>by cases ag⟩
 |(t,v)::env,b,c8,h=>by
  have oO:∀p∈env,ch tab O (look mem) w S p.2 (a.eval (.tmp p.1))/\(p.2=.one .undef->a.eval (.tmp p.1)=Go.undef):=fun p ag=>h p (List.mem_cons_of_mem _ ag)
  have b3:kr b ((t,v)::env)=((t,v)::(kr b env).1,(kr b env).2)->E9 tab O mem w S a b (kr b ((t,v)::env)):=fun bp=>by
   obtain⟨bU,a5,hC,q8,dQ,aw⟩:=J3 aD c8 oO;rw[bp];refine⟨bU,a5,hC,q8,dQ,fun q aI=>?_⟩;rcases List.mem_cons.1 aI with rfl|aI
   ·have:=h (t,v) (List.mem_cons_self ..);exact⟨yj a5 aD this.1,this.2⟩
   ·exact aw q aI
  have JQ:∀e,v=.one (.nil e)->E9 tab O mem w S a b (kr b ((t,v)::env)):=fun e aQ=>by
   subst aQ;have ZX:jd (b+1) mem:=fun r aw=>c8 r (by omega)
   obtain⟨bU,a5,hC,q8,dQ,aw⟩:=J3 (b:=b+1) aD ZX oO;have aA:look ((kr (b+1) env).2++mem) b=none:=by
    rw[ng,dQ b (by omega)];exact c8 b (Nat.le_refl _)
   obtain⟨dL,h1⟩:=Am (t:=e) hC aA;rw[show cO [(b,.arr e [])] (look ((kr (b+1) env).2++mem))=look (((b,.arr e [])::(kr (b+1) env).2)++mem)from Ac _ _]at dL h1;have bO:(kr b ((t,.one (.nil e))::env))=((t,.one (.own b))::(kr (b+1) env).1,(b,.arr e [])::(kr (b+1) env).2):=rfl;rw[bO];refine⟨_,a5.trans dL,h1,?_,?_,fun q aI=>?_⟩
   ·intro r g0;simp only[List.length_cons]at g0;have dz:r≠b:=by omega
    show look ((b,_)::((kr (b+1) env).2++mem)) r=none;simp only[look,hr dz];exact q8 r (by omega)
   ·intro r g0;have dz:r≠b:=by omega
    simp only[look,hr dz];exact dQ r (by omega)
   ·rcases List.mem_cons.1 aI with rfl|aI
    ·have:=(h (t,.one (.nil e)) (List.mem_cons_self ..)).1;have G:=Vv (tab:=tab) (O:=bU) (w:=w) (S:=S) (mf:=look ((kr (b+1) env).2++mem)) (b:=b) (e:=e) this.2;rw[show cO [(b,.arr e [])] (look ((kr (b+1) env).2++mem))=look (((b,.arr e [])::(kr (b+1) env).2)++mem)from Ac _ _]at G;exact⟨G,fun dn=>by cases dn⟩
    ·exact⟨yj dL hC (aw q aI).1,(aw q aI).2⟩
  cases v with
  |one c=>cases c<;>first|exact b3 rfl|exact JQ _ rfl
  |agg cs=>exact b3 rfl
  |an vs=>exact b3 rfl
end
end bE
end Go.Proofs.YtlbppjmekiemiaaGreatDoor


/- The executor on data: nil slices in blocks get names. No condition. -/
namespace Go.Proofs.YtlbppjmekiemiaaGreatDoor
namespace bE
section
variable {P:Program} {tab:ci} {Γ:Ctx} {N fw:Nat} {a:Act} {w w':World} {Q:Exit->Act->World->Prop} {O bU:dk} {S S':Nat->Prop}

def yL(tab:ci)(O:dk)(mf:dS)(w:World)(S:Nat->Prop)(c:C)(o:Option Value):Prop:=∃y,o=some y/\y.oneCell'=true/\fv tab O mf w S c y

def E8(tab:ci)(O:dk)(mem:Mem)(w:World)(S:Nat->Prop)(b:Nat)(cs:List C)(q:List C×Mem):Prop :=
 ∃bU,Ext O (look mem) w S bU (look (q.2++mem)) w S/\Inv tab bU (look (q.2++mem)) w S/\(∀r,look q.2 r≠none->b<=r/\r<b+q.2.length)/\q.1.length=cs.length /\
  ∀ys:Nat->Option Value,(∀(i:Nat) c,cs[i]? = some c->yL tab O (look mem) w S c (ys i))->∀(i:Nat) c,q.1[i]? = some c->yL tab bU (look (q.2++mem)) w S c (ys i)

theorem yL.ext{mf th:dS}(a5:Ext O mf w S bU th w' S')(aD:Inv tab O mf w S){c:C}{o:Option Value}(h:yL tab O mf w S c o):yL tab bU th w' S' c o :=
 let ⟨y,I,G,ab⟩:=h
 ⟨y,I,G,ab.ext a5 aD⟩

theorem J1{mem:Mem}(aD:Inv tab O (look mem) w S):∀{cs:List C} {b:Nat},(∀r,b<=r->r<b+(g7 b cs).2.length->look mem r=none)->E8 tab O mem w S b cs (g7 b cs)
 |[],b,c8=>⟨O,Ext.refl,aD,fun r h=>absurd rfl h,rfl,fun ys h=>h⟩
 |c::cs,b,c8=>by
  have b3:g7 b (c::cs)=(c::(g7 b cs).1,(g7 b cs).2)->E8 tab O mem w S b (c::cs) (g7 b (c::cs)):=fun bp=>by
   rw[bp]at c8 |-;obtain⟨bU,a5,hC,dQ,ax,aw⟩:=J1 aD (b:=b) c8;refine⟨bU,a5,hC,dQ,by simp[ax],fun ys h i fK az=>?_⟩;cases i with
   |zero=>simp at az;subst az;exact(h 0 _ rfl).ext a5 aD
   |succ i=>exact aw (fun j=>ys (j+1)) (fun j c aR=>h (j+1) c aR) i fK az
  have JQ:∀e,c=.nil e->E8 tab O mem w S b (c::cs) (g7 b (c::cs)):=fun e aQ=>by
   subst aQ;have bO:g7 b (.nil e::cs)=(.own b::(g7 (b+1) cs).1,(b,.arr e [])::(g7 (b+1) cs).2):=rfl;rw[bO]at c8 |-;simp only[List.length_cons]at c8;obtain⟨bU,a5,hC,dQ,ax,aw⟩:=J1 aD (cs:=cs) (b:=b+1) (fun r I G=>c8 r (by omega) (by omega));have aA:look ((g7 (b+1) cs).2++mem) b=none:=by
    rw[ng];cases aI:look (g7 (b+1) cs).2 b with
    |none=>exact c8 b (Nat.le_refl _) (by omega)
    |some B=>have:=(dQ b (by rw[aI];simp)).1;omega
   obtain⟨dL,h1⟩:=Am (t:=e) hC aA;have lq:cO [(b,.arr e [])] (look ((g7 (b+1) cs).2++mem))=look (((b,.arr e [])::(g7 (b+1) cs).2)++mem):=Ac _ _;have G:∀x,x=.slice none 0 0->ch tab _ _ w S (.one (.own b)) x:=fun x aG=>Vv (tab:=tab) (O:=bU) (w:=w) (S:=S) (mf:=look ((g7 (b+1) cs).2++mem)) (b:=b) (e:=e) aG
   rw[lq]at dL h1;refine⟨_,a5.trans dL,h1,?_,by simp[ax],fun ys h i fK az=>?_⟩
   ·intro r g0
    by_cases aO:r=b
    ·subst aO;simp only[List.length_cons];omega
    ·simp only[look,hr aO]at g0;have:=dQ r g0;simp only[List.length_cons];omega
   ·cases i with
    |zero =>
     simp at az;subst az;obtain⟨y,cC,cI,dA⟩:=h 0 _ rfl;have ab:=G y dA;rw[lq]at ab;exact⟨y,cC,cI,ab.2⟩
    |succ i =>
     exact(aw (fun j=>ys (j+1)) (fun j c aR=>h (j+1) c aR) i fK az).ext dL hC
  cases c<;>first|exact b3 rfl|exact JQ _ rfl

def NI(tab:ci)(O:dk)(mem:Mem)(w:World)(S:Nat->Prop)(b:Nat)(m0 e8:Mem):Prop :=
 ∃bU,Ext O (look mem) w S bU (look (e8++mem)) w S/\Inv tab bU (look (e8++mem)) w S/\∀r,look e8 r≠none->r∈m0.map (·.1)\/b<=r

theorem J2{mem:Mem}(aD:Inv tab O (look mem) w S):∀{m0:Mem} {b:Nat},jd b mem->(∀p∈m0,look mem p.1=some p.2)->(m0.map (·.1)).Nodup->NI tab O mem w S b m0 (js b m0)
 |[],b,c8,h,aq=>⟨O,Ext.refl,aD,fun r h=>absurd rfl h⟩
 |(r,B)::m0,b,c8,h,aq=>by
  have bt:look mem r=some B:=h (r,B) (List.mem_cons_self ..);have oO:∀p∈m0,look mem p.1=some p.2:=fun p ag=>h p (List.mem_cons_of_mem _ ag)
  have m6:(m0.map (·.1)).Nodup:=(List.nodup_cons.1 aq).2;have QY:r∉m0.map (·.1):=(List.nodup_cons.1 aq).1;have akj:r<b:=by
   apply Nat.lt_of_not_le;intro hle;rw[c8 r hle]at bt;cases bt
  have b3:js b ((r,B)::m0)=(r,B)::js b m0->NI tab O mem w S b ((r,B)::m0) (js b ((r,B)::m0)):=fun bp=>by
   rw[bp];obtain⟨bU,a5,hC,dQ⟩:=J2 aD c8 oO m6;have pP:look (js b m0) r=none:=by
    cases aI:look (js b m0) r with
    |none=>rfl
    |some b5=>rcases dQ r (by rw[aI];simp)with I|I
              ·exact absurd I QY
              ·omega
   have rU:look (((r,B)::js b m0)++mem)=look (js b m0++mem):=by
    funext q
    by_cases e:q=r
    ·subst e;rw[ng (js b m0),pP];simp[look,Nat.beq_refl,bt]
    ·simp[look,hr e]
   refine⟨bU,by rw[rU];exact a5,by rw[rU];exact hC,fun q aI=>?_⟩
   by_cases e:q=r
   ·subst e;exact .inl (by simp)
   ·simp only[look,hr e]at aI;rcases dQ q aI with I|I
    ·exact .inl (by simp only[List.map_cons,List.mem_cons];exact .inr I)
    ·exact .inr I
  cases B with
  |arr t l=>exact b3 rfl
  |dead=>exact b3 rfl
  |set aF=>exact b3 rfl
  |ew t l cs=>exact b3 rfl
  |box cs =>
   have bO:js b ((r,.box cs)::m0)=(r,.box (g7 b cs).1)::(g7 b cs).2++js (b+(g7 b cs).2.length) m0:=rfl;rw[bO];generalize gA:b+(g7 b cs).2.length=fq;obtain⟨jw,em,hD,IU⟩:=J2 (b:=fq) aD (fun q aI=>c8 q (by omega)) oO m6;have aaT:∀q,q∈m0.map (·.1)->q<b:=fun q aI=>by
    obtain⟨p,ag,rfl⟩:=List.mem_map.1 aI;apply Nat.lt_of_not_le;intro hle;have:=oO p ag;rw[c8 _ hle]at this;cases this
   have aaE:∀q,b<=q->q<b+(g7 b cs).2.length->look (js fq m0++mem) q=none:=fun q I G=>by
    rw[ng];cases aI:look (js fq m0) q with
    |none=>exact c8 q I
    |some b5=>rcases IU q (by rw[aI];simp)with ab|ab
              ·have:=aaT q ab;omega
              ·omega
   obtain⟨gG,dL,h1,QU,wO,Db⟩:=J1 hD (cs:=cs) (b:=b) aaE;have Iu:look (js fq m0++mem) r=some (.box cs):=by
    rw[ng];cases aI:look (js fq m0) r with
    |none=>exact bt
    |some b5=>rcases IU r (by rw[aI];simp)with ab|ab
              ·exact absurd ab QY
              ·omega
   have CT:look ((g7 b cs).2++(js fq m0++mem)) r=some (.box cs):=by
    rw[ng];cases aI:look (g7 b cs).2 r with
    |none=>exact Iu
    |some b5=>have:=(QU r (by rw[aI];simp)).1;omega
   obtain⟨l,dj,sW⟩:=hD.rel r _ Iu trivial;cases l with
   |eu x=>exact sW.elim
   |gz Fu =>
    obtain⟨vs,e,dn,fs,hcells⟩:=sW;have Rw:gG r=some (.gz Fu):=(dL.kinds r _ _ Iu CT).2 ⟨_,CT,trivial⟩▸dj;have gr:=yD (O:=gG) (mem:=look ((g7 b cs).2++(js fq m0++mem))) (w:=w) (w':=w) (S:=S) (r:=r) (b:=Fu) (B:=.box cs) (B':=.box (g7 b cs).1) (l:=.gz Fu) CT trivial Rw rfl trivial rfl (fun _ _=>rfl) rfl rfl rfl;have NF:=yE CT trivial Rw rfl rfl (fun _ _=>rfl) gr h1 ⟨vs,e,dn,by rw[wO];exact fs,fun i c az=>(Db (fun i=>vs[i]?) (fun i c az=>hcells i c az) i c az).ext gr h1⟩;have lq:cO [(r,.box (g7 b cs).1)] (look ((g7 b cs).2++(js fq m0++mem)))=look (((r,.box (g7 b cs).1)::(g7 b cs).2++js fq m0)++mem):=by
     rw[Ac];simp
    rw[lq]at gr NF;refine⟨gG,(em.trans dL).trans gr,NF,fun q aI=>?_⟩
    by_cases aO:q=r
    ·subst aO;exact .inl (by simp)
    ·rw[ng]at aI;simp only[look,hr aO]at aI;cases pR:look (g7 b cs).2 q with
     |some b5=>exact .inr (QU q (by rw[pR];simp)).1
     |none =>
      rw[pR]at aI;rcases IU q aI with ab|ab
      ·exact .inl (by simp only[List.map_cons,List.mem_cons];exact .inr ab)
      ·exact .inr (by omega)
end
end bE
end Go.Proofs.YtlbppjmekiemiaaGreatDoor


/- The executor on data: a loop's head. No condition. -/
namespace Go.Proofs.YtlbppjmekiemiaaGreatDoor
namespace bE
section
variable {P:Program} {tab:ci} {Γ:Ctx} {N fw:Nat} {a:Act} {w w':World} {Q:Exit->Act->World->Prop} {O bU:dk} {S S':Nat->Prop} {fF:dk} {w0:World} {S0:Nat->Prop}

theorem Fe{mem:Mem}:∀{l:List Nat},allKnown mem l=true->∀r∈l,∃B,look mem r=some B
 |[],_,r,h=>by cases h
 |q::l,ad,r,h=>by
  simp only[allKnown]at ad;split at ad<;>try cases ad
  rename_i B bt;rcases List.mem_cons.1 h with rfl|h
  ·exact⟨B,bt⟩
  ·exact Fe ad r h

theorem TL:∀{l:List Nat} {i k:Nat},Ay i k l=true->∀j,j<k->l[j]? = some (i+j)
 |_,i,0,_,j,aR=>by omega
 |[],i,k+1,h,j,aR=>by simp[Ay]at h
 |r::l,i,k+1,h,j,aR=>by
  simp only[Ay]at h;split at h<;>try cases h
  rename_i aw;have:=Nat.eq_of_beq_eq_true aw;subst this;cases j with
  |zero=>rfl
  |succ j=>simp only[List.getElem?_cons_succ];rw[TL h j (by omega)];congr 1;omega

theorem JK{env:Env}:∀{keys:List Nat} {p:Nat×V},p∈uX env keys->look env p.1=some p.2
 |[],p,h=>by cases h
 |q::keys,p,h=>by
  simp only[uX]at h;split at h
  ·rename_i u hu;rcases List.mem_cons.1 h with rfl|h
   ·exact hu
   ·exact JK h
  ·exact JK h

theorem acN{env:Env}{t:Nat}{v:V}(h:look env t=some v):(t,v)∈env:=by
 induction env with
 |nil=>simp[look]at h
 |cons p env dd =>
  obtain⟨q,u⟩:=p
  by_cases e:t=q
  ·subst e;simp[look,Nat.beq_refl]at h;subst h;simp
  ·simp only[look,hr e]at h;exact List.mem_cons_of_mem _ (dd h)

theorem Pl{k:Nat}{mem e8:Mem}{names seen:List Nat}{vs:List V}{ar:List bQ}(h:Ck k mem e8 names seen vs ar=true) :
  names.Nodup/\(∀r∈names,∃B,look mem r=some B)/\seen.Nodup/\(∀r∈seen,∃B,look e8 r=some B)/\(∀j,j<k->seen[j]? = some j) /\
   (∀v∈vs,∀r∈v.nB,r∈seen)/\∀B∈ar,∀r∈B.names,r∈seen:=by
 unfold Ck at h;split at h
 ·rename_i I G ab aV br;split at h
  ·rename_i bV dm dZ;exact⟨HC I,Fe G,HC ab,Fe aV,fun j aR=>by simpa using TL br j aR,Ti dm bV,
    fun B bt r aw=>NN dZ r (List.mem_flatMap.2 ⟨B,bt,aw⟩)⟩
  ·cases h
 ·cases h

theorem R1(ar:List bQ):look (jU 0 ar)=cA ar:=by
 funext r;have key:∀(ar:List bQ) (i r:Nat),look (jU i ar) r=if i<=r then ar[r-i]? else none:=by
  intro ar
  induction ar with
  |nil=>intro i r;simp[jU,look]
  |cons B ar dd =>
   intro i r
   by_cases e:r=i
   ·subst e;simp[jU,look,Nat.beq_refl]
   ·simp only[jU,look,hr e,dd]
    by_cases h:i<=r
    ·have I:i+1<=r:=by omega
     rw[if_pos h,if_pos I,show r-i=(r-(i+1))+1 by omega];simp
    ·rw[if_neg h,if_neg (by omega)]
 rw[key];simp[cA]

theorem Hm{hG:List bQ}{keys:List Nat}{st da:bP}(ad:hG.length=fw)(h:canon fw keys st=some da)(cP:Good tab N fF (cA hG) w0 S0 st a w):Good tab N fF (cA hG) w0 S0 da a w:=by
 obtain⟨O,S,R,c8,a5⟩:=cP;unfold canon at h;simp only[CO]at h;generalize aI:kr st.base (uX st.env keys)=q at h;generalize IY:D1 fw (q.2++st.mem) (q.1.map (·.2))=names at h;generalize rP:js (st.base+q.2.length) (ff (q.2++st.mem) names)=e8 at h;generalize abI:D1 fw e8 (q.1.map (·.2))=seen at h;split at h<;>try cases h
 rename_i gg;obtain⟨bA,bb,cr,du,hs,gu,rl⟩:=Pl gg;obtain⟨jw,em,hD,E1,_,zR⟩:=aI▸J3 (a:=a) R.inv (env:=uX st.env keys) c8 (fun p ag=>R.env p.1 p.2 (JK ag));have jo:∀p∈ff (q.2++st.mem) names,look (q.2++st.mem) p.1=some p.2:=fun p ag=>by
  obtain⟨r,aw,rfl⟩:=List.mem_map.1 ag;obtain⟨B,bt⟩:=bb r aw;simp[bt]
 obtain⟨gG,dL,h1,_⟩:=rP▸J2 hD (m0:=ff (q.2++st.mem) names) E1 jo (by rw[JI];exact bA);have aP:Handed (look (e8++(q.2++st.mem))) seen (seen.map fun r=>(look e8 r).getD .dead):=by
  refine⟨cr,by simp,fun j r aR=>?_,rl⟩;obtain⟨B,bt⟩:=du r (List.mem_of_getElem? aR);simp[aR,bt,ng]
 have hR:=a5.trans (em.trans dL);have lq:=R1 ((seen.map fun r=>(look e8 r).getD .dead).map (bQ.cx (idx seen)));refine⟨hY seen gG,S,⟨R.size,R.defers,?_,?_⟩,?_,?_⟩
 ·show Inv tab (hY seen gG) (look (jU 0 _)) w S;rw[lq];exact aP.inv h1
 ·intro t v aQ;have kH:=acN aQ;obtain⟨p,ag,bp⟩:=List.mem_map.1 kH;obtain⟨fg,ft⟩:=p;cases bp;obtain⟨gm,hy⟩:=zR _ ag;show ch tab (hY seen gG) (look (jU 0 _)) w S _ _/\_;rw[lq];refine⟨(yj dL hD gm).cx fun r aw=>aP.cx (gu ft (List.mem_map.2 ⟨_,ag,rfl⟩) r aw),fun hu=>?_⟩;apply hy;cases ft with
  |one c=>cases c<;>simp[V.cx,C.cx]at hu |-
  |agg cs=>simp[V.cx]at hu
  |an vs=>simp[V.cx]at hu
 ·intro r aw;show look (jU 0 _) r=none;rw[lq];simp only[cA,List.map_map,List.getElem?_eq_none_iff,List.length_map];exact aw
 ·show Ext fF (cA hG) w0 S0 (hY seen gG) (look (jU 0 _)) w S;rw[lq];refine⟨fun r a6=>?_,fun r B B' bt fE=>?_,hR.sub,hR.size,hR.heap,hR.only,fun b aA=>?_,hR.os,hR.tape,hR.output⟩
  ·have dQ:r<fw:=by
    rw[<- ad];apply Nat.lt_of_not_le;intro hle;exact a6 (by simp[cA,hle])
   rw[aP.qV (hs r dQ)];simp
  ·have dQ:r<fw:=by
    rw[<- ad];exact(List.getElem?_eq_some_iff.1 bt).1
   have av:=hs r dQ;rw[aP.qV av]at fE;cases fE;obtain⟨b5,iF⟩:=du r (List.mem_of_getElem? av);have CQ:look (e8++(q.2++st.mem)) r=some b5:=by rw[ng,iF]
   have dX:=hR.kinds r B b5 bt CQ;rw[CQ];refine⟨?_,fun ax=>?_⟩
   ·have I:=dX.1;cases B<;>cases b5<;>first|exact I|trivial
   ·have g4:Live (look (e8++(q.2++st.mem))) r:=by
     obtain⟨ih,sO,bh⟩:=ax;rw[aP.qV av,CQ]at sO;cases sO;exact⟨b5,CQ,nA.1 bh⟩
    have:=dX.2 g4;simp only[hY,av];exact this
  ·obtain⟨r,aw,l,ax,dj,aA⟩:=aP.own aA;exact hR.own b ⟨r,l,ax,dj,aA⟩
end
end bE
end Go.Proofs.YtlbppjmekiemiaaGreatDoor


/- The executor on data: a function's end, and the contract from its run. No condition. -/
namespace Go.Proofs.YtlbppjmekiemiaaGreatDoor
namespace bE
section
variable {P:Program} {tab:ci} {Γ:Ctx} {N fw:Nat} {a:Act} {w w':World} {Q:Exit->Act->World->Prop} {O bU:dk} {S S':Nat->Prop} {fF:dk} {w0:World} {S0:Nat->Prop}

def yk(a:Act):ResultVar->Sem Value
 |.tmp t=>pure (a.tmps.getD t Go.undef)
 |.cell p t=>do loadVar t (<- asAddr (a.tmps.getD p Go.undef))

theorem D5(bH:fp P tab){st:bP}(R:fB tab N st.env st.mem a w O S):∀{l:List ResultVar} {vs:List V},tz tab st l=some vs ->
  ∃xs:List Value,(l.mapM (yk a)).run P w=.ok xs w/\fG tab O (look st.mem) w S vs xs
 |[],vs,h=>by simp[tz]at h;subst h;exact⟨[],rfl,trivial⟩
 |.tmp t::l,vs,h=>by
  simp only[tz]at h;split at h<;>try cases h
  rename_i v us aQ rW;obtain⟨xs,I,G⟩:=D5 bH R rW;refine⟨a.eval (.tmp t)::xs,?_,(R.env t v aQ).1,G⟩;rw[List.mapM_cons];simp[I,Act.eval,yk]
 |.cell p t::l,vs,h=>by
  simp only[tz]at h;split at h<;>try cases h
  rename_i r o aK us aQ bl rW;split at h<;>try cases h
  rename_i v m ax;obtain⟨xs,I,G⟩:=D5 bH R rW;simp only[te]at ax;split at ax<;>try cases ax
  rename_i cs aA;split at ax<;>try cases ax
  rename_i eT aa1;split at ax<;>try cases ax
  rename_i hle;obtain⟨b,EE,e,aG,_,dn,fs,az⟩:=AQ (lm:=st.mem) (fun _ _ h _=>h) R.inv aA (R.env p _ aQ).1;have lY:=Nat.le_of_ble_eq_true hle;obtain⟨x,ab,aV⟩:=VE (O:=O) (mem:=look st.mem) (w:=w) (S:=S) bH bl b o (fun j=>(EE[o+j]?).getD Go.undef) (a2 cs o (o+aK.n)) (o5 _ _ _ lY) (fun j c aR=>by
   obtain⟨wM,rM⟩:=yo _ _ _ _ _ aR;obtain⟨y,cC,cI,dA⟩:=az _ _ rM;exact⟨cell?_at dn (by simp[cC]),by simp[cC,cI],by simpa[cC]using dA⟩) v aa1
  refine⟨x::xs,?_,aV,G⟩;rw[List.mapM_cons];have zZ:a.tmps.getD p Go.undef=.pointer (some (b6 b o)):=aG;simp[Sem.run_bind,I,zZ,asAddr,ab,yk]

theorem afW{mf:dS}{v:V}{x:Value}(h:ch tab O mf w S v x)(I:v≠.one .undef)(G:∀us,v≠.an us):jX tab O mf w S v x:=by
 cases v with
 |one c=>cases c<;>first|exact absurd rfl I|exact h
 |agg cs=>exact h
 |an us=>exact absurd rfl (G us)

theorem V8:∀{vs:List V},AU vs=true->∀v∈vs,v≠.one .undef/\∀us,v≠.an us
 |[],_,v,h=>by cases h
 |u::vs,av,v,h=>by
  have key:AU vs=true->u≠.one .undef->(∀us,u≠.an us)->v≠.one .undef/\∀us,v≠.an us:=fun I G ab=>by
   rcases List.mem_cons.1 h with rfl|h
   ·exact⟨G,ab⟩
   ·exact V8 I v h
  cases u with
  |one c=>cases c<;>first|(cases av;done)|exact key av (fun e=>by cases e) (fun us e=>by cases e)
  |agg cs=>exact key av (fun e=>by cases e) (fun us e=>by cases e)
  |an us=>cases av

theorem TF{mf:dS}{vs:List V}{xs:List Value}(h:fG tab O mf w S vs xs)(av:∀v∈vs,v≠.one .undef/\∀us,v≠.an us) :
  ch tab O mf w S (J4 vs) (if h:xs.toArray.size=1 then xs.toArray[0]else .tuple xs.toArray):=by
 have hlen:=h.len;have an:vs.length≠1->ch tab O mf w S (.an vs) (.tuple xs.toArray):=fun _=>by
  refine⟨xs.toArray,rfl,by simp[hlen],fun i v aQ=>?_⟩;have key:∀{vs:List V} {xs:List Value},fG tab O mf w S vs xs->∀(i:Nat) v,vs[i]? = some v->∃y,xs[i]? = some y/\ch tab O mf w S v y:=by
   intro vs
   induction vs with
   |nil=>intro xs _ i v aQ;simp at aQ
   |cons u vs dd =>
    intro xs h i v aQ;cases xs with
    |nil=>exact h.elim
    |cons x xs =>
     cases i with
     |zero=>simp at aQ;subst aQ;exact⟨x,rfl,h.1⟩
     |succ i=>simp at aQ |-; exact dd h.2 i v aQ
  obtain⟨y,cC,cI⟩:=key h i v aQ;have:=av v (List.mem_of_getElem? aQ);exact⟨y,by simpa using cC,afW cI this.1 this.2⟩
 match vs,xs,h with
 |[],[],h=>exact an (by simp)
 |[v],[x],h=>exact h.1
 |v::u::vs,x::y::xs,h=>exact an (by simp)

theorem Vz{fn:Func}{l:List Value}(h:(fn.results.toList.mapM (yk a)).run P w=.ok l w) :
  (results fn a.tmps).run P w=.ok (if h:l.toArray.size=1 then l.toArray[0]else .tuple l.toArray) w:=by
 unfold results;rw[Array.mapM_eq_mapM_toList];have e:∀g:ResultVar->Sem Value,(∀x,g x=yk a x)->(List.mapM g fn.results.toList).run P w=.ok l w:=fun g bs=>by
  have ID:g=yk a:=funext bs;rw[ID];exact h
 simp only[Sem.run_bind,Sem.run_map];rw[e _ (fun x=>by cases x<;>rfl)];rfl
end
end bE
end Go.Proofs.YtlbppjmekiemiaaGreatDoor


/- The executor on data: a function's end, with blocks of its own. No condition. -/
namespace Go.Proofs.YtlbppjmekiemiaaGreatDoor
namespace bE
section
variable {P:Program} {tab:ci} {Γ:Ctx} {N fw:Nat} {a:Act} {w w':World} {Q:Exit->Act->World->Prop} {O bU:dk} {S S':Nat->Prop} {fF:dk} {w0:World} {S0:Nat->Prop}

theorem Zn{hG blks:List bQ}{seen:List Nat}{mem:dS}(a5:Ext fF (cA hG) w0 S0 O mem w S)(aP:Handed mem seen blks)(du:∀r∈seen,∃B,mem r=some B)(hs:∀j,j<hG.length->seen[j]? = some j) :
  Ext fF (cA hG) w0 S0 (hY seen O) (cA (blks.map (bQ.cx (idx seen)))) w S:=by
 refine⟨fun r a6=>?_,fun r B B' bt fE=>?_,a5.sub,a5.size,a5.heap,a5.only,fun b aA=>?_,a5.os,a5.tape,a5.output⟩
 ·have dQ:r<hG.length:=by
   apply Nat.lt_of_not_le;intro hle;exact a6 (by simp[cA,hle])
  rw[aP.qV (hs r dQ)];simp
 ·have dQ:r<hG.length:=(List.getElem?_eq_some_iff.1 bt).1;have av:=hs r dQ;rw[aP.qV av]at fE;cases fE;obtain⟨b5,iF⟩:=du r (List.mem_of_getElem? av);have dX:=a5.kinds r B b5 bt iF;rw[iF];refine⟨?_,fun ax=>?_⟩
  ·have I:=dX.1;cases B<;>cases b5<;>first|exact I|trivial
  ·have g4:Live mem r:=by
    obtain⟨ih,sO,bh⟩:=ax;rw[aP.qV av,iF]at sO;cases sO;exact⟨b5,iF,nA.1 bh⟩
   have:=dX.2 g4;simp only[hY,av];exact this
 ·obtain⟨r,aw,l,ax,dj,aA⟩:=aP.own aA;exact a5.own b ⟨r,l,ax,dj,aA⟩

def Ends(P:Program)(tab:ci)(fn:Func)(fF:dk)(hG:List bQ)(w0:World)(S0:Nat->Prop)(v:V)(dB:List bQ)(a:Act)(w:World):Prop :=
 ∃x bU S',(results fn a.tmps).run P w=.ok x w/\Ext fF (cA hG) w0 S0 bU (cA dB) w S'/\Inv tab bU (cA dB) w S'/\ch tab bU (cA dB) w S' v x

theorem Vu{f:Nat->Nat}{jw gG:dk}{e8 gU:dS}:∀{vs:List V} {xs:List Value},fG tab jw e8 w S vs xs->(∀v∈vs,∀r∈v.nB,re jw e8 gG gU f r)->fG tab gG gU w S (vs.map (V.cx f)) xs
 |[],[],_,_=>trivial
 |v::_vs,_x::_xs,h,aq=>⟨h.1.cx (aq v (List.mem_cons_self ..)),Vu h.2 fun u hu=>aq u (List.mem_cons_of_mem _ hu)⟩
 |[],_::_,h,_=>h.elim
 |_::_,[],h,_=>h.elim

theorem P8(bH:fp P tab){fn:Func}{hG:List bQ}{K:V->List bQ->Prop}{st:bP}(h:CK tab fn.results.toList hG.length K st)(cP:Good tab N fF (cA hG) w0 S0 st a w) :
  ∃v dB,K v dB/\Ends P tab fn fF hG w0 S0 v dB a w:=by
 obtain⟨O,S,R,c8,a5⟩:=cP;unfold CK at h;split at h
 ·exact h.elim
 rename_i vs zX;simp only at h;generalize abI:closure st.mem 200 0 (qj (List.range hG.length) (vs.flatMap V.names))=seen at h;split at h
 ·rename_i gg Q4;obtain⟨_,_,cr,du,hs,gu,rl⟩:=Pl gg;obtain⟨xs,I,G⟩:=D5 bH R zX;have aP:Handed (look st.mem) seen (seen.map fun r=>(look st.mem r).getD .dead):=⟨cr,by simp,fun j r aR=>by simp[aR],rl⟩
  refine⟨_,_,h,_,hY seen O,S,Vz I,Zn a5 aP du hs,aP.inv R.inv,TF (Vu G fun v aQ r aw=>aP.cx (gu v aQ r aw)) fun v aQ=>?_⟩;obtain⟨u,hu,rfl⟩:=List.mem_map.1 aQ;obtain⟨ix,jb⟩:=V8 Q4 u hu;cases u with
  |one c=>exact⟨fun e=>by cases c<;>simp[V.cx,C.cx]at e ix,fun us e=>by simp[V.cx]at e⟩
  |agg cs=>exact⟨fun e=>by simp[V.cx]at e,fun us e=>by simp[V.cx]at e⟩
  |an us=>exact absurd rfl (jb us)
 ·exact h.elim
end
end bE
end Go.Proofs.YtlbppjmekiemiaaGreatDoor


/- The executor on data: a function's end, as data; the contract from the run. No condition. -/
namespace Go.Proofs.YtlbppjmekiemiaaGreatDoor
namespace bE
section
variable {P:Program} {tab:ci} {Γ:Ctx} {N fw:Nat} {a:Act} {w w':World} {Q:Exit->Act->World->Prop} {O bU:dk} {S S':Nat->Prop} {fF:dk} {w0:World} {S0:Nat->Prop}

theorem PE{m:Mem}:∀{vs ds:List V} {ns:List Nat},qu tab m vs=some (ds,ns)->∀v∈ds,v≠.one .undef/\∀us,v≠.an us
 |[],ds,ns,h=>by simp only[qu]at h;cases h;intro v aQ;cases aQ
 |u::vs,ds,ns,h=>by
  simp only[qu]at h;split at h<;>try cases h
  rename_i eT ho us iX aQ oO;intro v Je;rcases List.mem_cons.1 Je with rfl|Je
  ·cases u with
   |an us=>cases aQ
   |one c =>
    simp only[Option.map_eq_some_iff]at aQ;obtain⟨⟨d,Ao⟩,iV,bp⟩:=aQ;cases bp;obtain⟨t,e,rfl⟩:=MF iV;exact⟨fun h=>(by cases h),fun us h=>(by cases h)⟩
   |agg cs =>
    simp only[Option.map_eq_some_iff]at aQ;obtain⟨⟨d,Ao⟩,iV,bp⟩:=aQ;cases bp;exact⟨fun h=>(by cases h),fun us h=>(by cases h)⟩
  ·exact PE oO v Je

theorem Pj(c:C):c.cx id=c:=by cases c<;>simp[C.cx]
theorem Yo(B:bQ):B.cx id=B:=by
 cases B with
 |box cs =>
  simp only[bQ.cx];congr 1;have:(C.cx id)=id:=by funext c;exact Pj c
  rw[this];simp
 |ew t l cs =>
  simp only[bQ.cx];congr 1;have:(C.cx id)=id:=by funext c;exact Pj c
  rw[this];simp
 |arr t l=>rfl
 |set aF=>rfl
 |dead=>rfl

theorem Zz(bH:fp P tab){fn:Func}{hG:List bQ}{K:V->List bQ->Prop}{st:bP}(h:CJ tab fn.results.toList hG.length K st)(cP:Good tab N fF (cA hG) w0 S0 st a w) :
  ∃v dB,K v dB/\Ends P tab fn fF hG w0 S0 v dB a w:=by
 obtain⟨O,S,R,c8,a5⟩:=cP;unfold CJ at h;split at h
 ·exact h.elim
 rename_i vs zX;split at h
 ·rename_i ds ns sZ Q4;simp only at h;generalize QC:(List.range hG.length).map (fun r=>match g6 ns r with|true=>bQ.dead|false=>(look st.mem r).getD .dead)=ar at h;split at h
  ·rename_i zG;obtain⟨xs,I,G⟩:=D5 bH R zX;obtain⟨dL,h1⟩:=qT (ns:=ns) R.inv;have hR:=a5.trans dL;have kk:∀r,r<hG.length->cA ar r=some (match g6 ns r with|true=>bQ.dead|false=>(look st.mem r).getD .dead):=fun r aw=>by
    subst QC;simp[cA,aw]
   have C5:∀r,hG.length<=r->cA ar r=none:=fun r aw=>by
    subst QC;simp[cA,aw]
   have rN:∀r B,cA ar r=some B->B.alive->r<hG.length/\cO (gP ns) (look st.mem) r=some B:=fun r B bt bh=>by
    have aw:r<hG.length:=by
     apply Nat.lt_of_not_le;intro hle;rw[C5 r hle]at bt;cases bt
    rw[kk r aw]at bt;cases aB:g6 ns r with
    |true=>rw[aB]at bt;cases bt;exact bh.elim
    |false =>
     rw[aB]at bt;rcases n0 (mem:=look st.mem) ns r with⟨ab,_⟩|⟨_,ab⟩
     ·exact absurd ab (Ai aB)
     ·refine⟨aw,?_⟩;rw[ab];cases ax:look st.mem r with
      |none=>rw[ax]at bt;cases bt;exact bh.elim
      |some b5=>rw[ax]at bt;simpa using bt
   have C1:∀r,Live (cA ar) r->Live (cO (gP ns) (look st.mem)) r:=fun r ⟨B,bt,bh⟩=>⟨B,(rN r B bt bh).2,bh⟩
   refine⟨_,_,h,_,O,_,Vz I,⟨fun r a6=>?_,fun r B B' bt fE=>?_,hR.sub,hR.size,hR.heap,hR.only,fun b ⟨r,l,ax,dj,aA⟩=>hR.own b ⟨r,l,C1 r ax,dj,aA⟩,hR.os,hR.tape,hR.output⟩,
    ⟨fun r B bt bh=>?_,fun r fo dz ax g4=>h1.inj r fo dz (C1 r ax) (C1 fo g4),fun r ax=>h1.sep r (C1 r ax),h1.lt,h1.pow⟩,TF (HB R.inv (fun _ _ h _=>h) G sZ (fun r aw=>aw)) (PE sZ)⟩
   ·have dQ:r<hG.length:=by
     apply Nat.lt_of_not_le;intro hle;exact a6 (by simp[cA,hle])
    rw[kk r dQ];simp
   ·refine⟨?_,fun⟨ih,sO,bh⟩=>(hR.kinds r B ih bt (rN r ih sO bh).2).2 ⟨ih,(rN r ih sO bh).2,bh⟩⟩;cases B' with
    |dead=>cases B<;>trivial
    |box cs=>exact(hR.kinds r B _ bt (rN r _ fE trivial).2).1
    |arr t l=>exact(hR.kinds r B _ bt (rN r _ fE trivial).2).1
    |set aF=>exact(hR.kinds r B _ bt (rN r _ fE trivial).2).1
    |ew t l cs=>exact(hR.kinds r B _ bt (rN r _ fE trivial).2).1
   ·obtain⟨aw,aB⟩:=rN r B bt bh;obtain⟨l,dj,dN⟩:=h1.rel r B aB bh;refine⟨l,dj,?_⟩;have fE:B∈ar:=List.mem_of_getElem? bt;have:=dN.cx (f:=id) (gG:=O) (mem2:=cA ar) fun q aI=>?_
    ·rw[Yo]at this;exact this
    ·have nT:q<hG.length:=BA zG q (List.mem_flatMap.2 ⟨B,fE,aI⟩);intro a6;refine⟨by rw[id,kk q nT];simp,fun ih G Qx=>?_⟩;obtain⟨_,pR⟩:=rN q ih G Qx;exact⟨ih,pR,by cases ih<;>simp[E5,bQ.alive]at Qx |-,rfl⟩
  ·exact h.elim
 ·exact h.elim
end
end bE
end Go.Proofs.YtlbppjmekiemiaaGreatDoor


/- The executor on data: lists of one's own under new names. No condition. -/
namespace Go.Proofs.YtlbppjmekiemiaaGreatDoor
namespace bE

def nM(r n q:Nat):Nat:=match Nat.beq q r with|true=>n|false=>q
def uw(r:Nat)(st:bP):bP :=
 match look st.mem r with
 |some (.arr t l)=>{ env:=st.env.map fun p=>(p.1,p.2.cx (nM r st.base)),mem:=(r,.dead)::(st.base,.arr t l)::st.mem.map (fun p=>(p.1,p.2.cx (nM r st.base))),base:=st.base+1 }
 |_=>st
def Ib:List Nat->bP->bP
 |[],st=>st
 |r::rs,st=>Ib rs (uw r st)
def J0:List C->List Nat
 |[]=>[]
 |.own q::rest=>q::J0 rest
 |_::rest=>J0 rest
def Fv:List bQ->List Nat
 |[]=>[]
 |.box cs::rest=>J0 cs++Fv rest
 |_::rest=>Fv rest
def qQ(vs:List V)(ar:List bQ):bP:=Ib (Fv ar) (df vs ar)

section
variable {P:Program} {tab:ci} {Γ:Ctx} {N:Nat} {O:dk} {w:World} {S:Nat->Prop}

theorem ZD{r:Nat}{st:bP}{a:Act}(R:fB tab N st.env st.mem a w O S)(c8:jd st.base st.mem) :
  ∃bU,fB tab N (uw r st).env (uw r st).mem a w bU S/\jd (uw r st).base (uw r st).mem/\Ext O (look st.mem) w S bU (look (uw r st).mem) w S:=by
 unfold uw;split
 ·rename_i t l ax;obtain⟨n,aq⟩:∃n,st.base=n:=⟨_,rfl⟩
  rw[aq]at c8 |-;have m8:r≠n:=fun e=>by
   have:=c8 n (Nat.le_refl n);rw[<- e,ax]at this;cases this
  have aB:look ((r,bQ.dead)::(n,.arr t l)::st.mem.map fun p=>(p.1,p.2.cx (nM r n)))=fun q=>if q=r then some .dead else if q=n then some (.arr t l)else(look st.mem q).map (bQ.cx (nM r n)):=by
   funext q
   by_cases e:q=r
   ·subst e;simp[look,Nat.beq_refl]
   ·by_cases aX:q=n
    ·subst aX;simp[look,Nat.beq_refl,hr e,e]
    ·simp[look,hr e,hr aX,Jt,e,aX]
  have zL:nM r n r=n:=by unfold nM;simp
  have CY:∀q,q≠r->nM r n q=q:=fun q h=>by unfold nM;rw[hr (r:=q) (q:=r) (Ne.symm h)]
  have zS:∀q,re O (look st.mem) (fun q=>if q=n then O r else O q) (fun q=>if q=r then some .dead else if q=n then some (.arr t l)else(look st.mem q).map (bQ.cx (nM r n))) (nM r n) q:=by
   intro q a6
   by_cases e:q=r
   ·subst e;rw[zL];simp only[if_neg (Ne.symm m8),if_true];exact⟨fun h=>by simp at h,fun ih h _=>by cases h;exact⟨_,ax,rfl,trivial⟩⟩
   ·rw[CY q e];have aX:q≠n:=fun aX=>a6 (by rw[aX];exact c8 n (Nat.le_refl n))
    simp only[if_neg e,if_neg aX];obtain⟨B,bt⟩:=mZ a6;rw[bt];refine⟨fun h=>by simp at h,fun ih h bh=>?_⟩;cases h;refine⟨B,rfl,?_,trivial⟩;cases B with
    |box cs=>trivial
    |arr t l=>rfl
    |ew t l cs=>exact⟨rfl,rfl⟩
    |set aF=>trivial
    |dead=>exact bh.elim
  have zD:∀q B,(if q=r then some bQ.dead else if q=n then some (.arr t l)else(look st.mem q).map (bQ.cx (nM r n)))=some B->B.alive->∃mH he,mH=(if q=n then r else q)/\look st.mem mH=some he/\he.alive/\B=he.cx (nM r n)/\(if q=n then O r else O q)=O mH:=by
   intro q B h bh
   by_cases e:q=r
   ·rw[if_pos e]at h;cases h;exact bh.elim
   ·rw[if_neg e]at h
    by_cases aX:q=n
    ·rw[if_pos aX]at h;cases h;exact⟨r,_,by rw[if_pos aX],ax,trivial,rfl,by rw[if_pos aX]⟩
    ·rw[if_neg aX]at h;cases bt:look st.mem q with
     |none=>rw[bt]at h;cases h
     |some he =>
      rw[bt]at h;cases h;exact⟨q,he,by rw[if_neg aX],bt,nA.1 bh,rfl,by rw[if_neg aX]⟩
  refine⟨fun q=>if q=n then O r else O q,⟨R.size,R.defers,?_,?_⟩,?_,?_⟩
  ·rw[aB];refine⟨fun q B bt bh=>?_,fun q fZ dz aI nT lo pV b I G ab=>?_,fun q aI lo b I G=>?_,R.inv.lt,R.inv.pow⟩
   ·obtain⟨mH,he,_,I,G,ab,aV⟩:=zD q B bt bh;obtain⟨lo,a1,bf⟩:=R.inv.rel mH he I G;refine⟨lo,aV.trans a1,?_⟩;rw[ab];exact bf.cx fun q _=>zS q
   ·obtain⟨B,bt,bh⟩:=aI;obtain⟨B',fE,rH⟩:=nT;obtain⟨mH,he,aO,f1,f2,_,f4⟩:=zD q B bt bh;obtain⟨cJ,ga,aX,a1,bf,_,eR⟩:=zD fZ B' fE rH;have acX:q≠r:=fun e=>by simp only[if_pos e]at bt;cases bt;exact bh.elim
    have acY:fZ≠r:=fun e=>by simp only[if_pos e]at fE;cases fE;exact rH.elim
    refine R.inv.inj mH cJ (fun e=>?_) ⟨he,f1,f2⟩ ⟨ga,a1,bf⟩ lo pV b (f4.symm.trans I) (eR.symm.trans G) ab;rw[aO,aX]at e
    by_cases c:q=n
    ·rw[if_pos c]at e
     by_cases fK:fZ=n
     ·exact dz (c.trans fK.symm)
     ·rw[if_neg fK]at e;exact acY e.symm
    ·rw[if_neg c]at e
     by_cases fK:fZ=n
     ·rw[if_pos fK]at e;exact acX e
     ·rw[if_neg fK]at e;exact dz e
   ·obtain⟨B,bt,bh⟩:=aI;obtain⟨mH,he,_,f1,f2,_,f4⟩:=zD q B bt bh;exact R.inv.sep mH ⟨he,f1,f2⟩ lo b (f4.symm.trans I) G
  ·intro q v aQ;rw[Ju]at aQ;cases b0:look st.env q with
   |none=>rw[b0]at aQ;cases aQ
   |some v0 =>
    rw[b0]at aQ;cases aQ;obtain⟨a1,bf⟩:=R.env q v0 b0;rw[aB];refine⟨a1.cx fun q _=>zS q,fun hu=>bf ?_⟩;cases v0 with
    |one c=>cases c<;>simp[V.cx,C.cx]at hu |-
    |agg cs=>simp[V.cx]at hu
    |an vs=>simp[V.cx]at hu
  ·intro q aI;rw[aB];have I:q≠r:=fun e=>by
    have nT:n+1<=q:=aI;have:=c8 q (by omega);rw[e,ax]at this;cases this
   have nT:n+1<=q:=aI;show(if q=r then some bQ.dead else if q=n then some (.arr t l)else(look st.mem q).map (bQ.cx (nM r n)))=none;rw[if_neg I,if_neg (by omega),c8 q (by omega)];rfl
  ·rw[aB];refine⟨fun q a6=>?_,fun q B B' bt fE=>?_,fun _ h=>h,Nat.le_refl _,fun _ _ _=>rfl,fun _ h=>.inl h,fun b aA=>.inl ?_,rfl,rfl,rfl⟩
   ·by_cases e:q=r
    ·simp[e]
    ·by_cases aX:q=n
     ·simp[aX,Ne.symm m8]
     ·simp only[if_neg e,if_neg aX];obtain⟨B,bt⟩:=mZ a6;rw[bt];simp
   ·have aX:q≠n:=fun e=>by rw[e,c8 n (Nat.le_refl n)]at bt;cases bt
    by_cases e:q=r
    ·simp only[if_pos e]at fE;cases fE;refine⟨by cases B<;>trivial,fun aaZ=>?_⟩;obtain⟨ih,G,bh⟩:=aaZ;simp only[if_pos e]at G;cases G;exact bh.elim
    ·simp only[if_neg e,if_neg aX]at fE;rw[bt]at fE;cases fE;refine⟨?_,fun _=>by simp only[if_neg aX]⟩;cases B<;>trivial
   ·obtain⟨q,lo,⟨B,bt,bh⟩,I,G⟩:=aA;obtain⟨mH,he,_,f1,f2,_,f4⟩:=zD q B bt bh;exact⟨mH,lo,⟨he,f1,f2⟩,f4.symm.trans I,G⟩
 ·exact⟨O,R,c8,Ext.refl⟩

theorem Qi{fF:dk}{mem0:dS}{w0:World}{S0:Nat->Prop}{a:Act}:∀(rs:List Nat) {st:bP},Good tab N fF mem0 w0 S0 st a w->Good tab N fF mem0 w0 S0 (Ib rs st) a w
 |[],_,cP=>cP
 |r::rs,st,⟨O,S,R,c8,a5⟩=>by
  obtain⟨bU,je,q8,iz⟩:=ZD (r:=r) R c8;exact Qi rs ⟨bU,S,je,q8,a5.trans iz⟩
end
end bE
end Go.Proofs.YtlbppjmekiemiaaGreatDoor


/- The executor on data: a function's contract from its run. No condition. -/
namespace Go.Proofs.YtlbppjmekiemiaaGreatDoor
namespace bE
section
variable {P:Program} {tab:ci} {Γ:Ctx} {N:Nat}

def r2:List V->Bool
 |[]=>true
 |.one .undef::_=>false
 |_::rest=>r2 rest

theorem RX:∀(vs:List V) (i t:Nat),look (wU i vs) t=if i<=t then vs[t-i]? else none
 |[],i,t=>by simp[wU,look]
 |v::vs,i,t=>by
  by_cases e:t=i
  ·subst e;simp[wU,look,Nat.beq_refl]
  ·simp only[wU,look,hr e,RX vs]
   by_cases h:i<=t
   ·have I:i+1<=t:=by omega
    rw[if_pos h,if_pos I,show t-i=(t-(i+1))+1 by omega];simp
   ·rw[if_neg h,if_neg (by omega)]

theorem Tm:∀{vs:List V},r2 vs=true->∀v∈vs,v≠.one .undef
 |[],_,v,h=>by cases h
 |u::vs,av,v,h=>by
  have key:r2 vs=true->u≠.one .undef->v≠.one .undef:=fun I G=>by
   rcases List.mem_cons.1 h with rfl|h
   ·exact G
   ·exact Tm I v h
  cases u with
  |one c=>cases c<;>first|(cases av;done)|exact key av (fun e=>by cases e)
  |agg cs=>exact key av (fun e=>by cases e)
  |an us=>exact key av (fun e=>by cases e)

theorem Vs{O:dk}{mf:dS}{w:World}{S:Nat->Prop}:∀{vs:List V} {xs:List Value},fG tab O mf w S vs xs->∀(i:Nat) v,vs[i]? = some v->∃x,xs[i]? = some x/\ch tab O mf w S v x
 |[],_,_,i,v,aQ=>by simp at aQ
 |u::vs,[],h,i,v,aQ=>h.elim
 |u::vs,x::xs,h,0,v,aQ=>by simp at aQ;subst aQ;exact⟨x,rfl,h.1⟩
 |u::vs,x::xs,h,i+1,v,aQ=>by simp at aQ |-; exact Vs h.2 i v aQ

theorem ZB{f:Nat}{fn:Func}{c:Code}{vs:List V}{ar:List bQ}{fin:bP->Prop}{K:V->List bQ->Prop}{m:Nat}{w:World}{S:Nat->Prop}{O:dk}{xs:List Value}{res:List Nat}{nt:bP}
  (fJ:∀a w',Good tab fn.ntmps O (cA ar) w S (df vs ar) a w'->Good tab fn.ntmps O (cA ar) w S nt a w')
  (gY:yQ P tab Γ fn.ntmps O (cA ar) w S) (b1:P.funcs[f]? = some fn) (aA:fn.body=some c) (bt:lh fn.ntmps c=true) (aq:vs.length<=fn.ntmps) (hu:r2 vs=true)
  (jG:∀st a ku,Good tab fn.ntmps O (cA ar) w S st a ku->fin st->∃v dB,K v dB/\Ends P tab fn O ar w S v dB a ku)
  (h:run Γ tab ar.length res fin m [.code c] nt) (aD:Inv tab O (cA ar) w S) (aG:fG tab O (cA ar) w S vs xs) :
  Calls P f xs.toArray w fun e w'=>∃v dB,K v dB/\∃x bU S',e=.returned x/\Ext O (cA ar) w S bU (cA dB) w' S'/\Inv tab bU (cA dB) w' S'/\ch tab bU (cA dB) w' S' v x:=by
 refine calls_of_wp b1 aA ?_;have hlen:=aG.len;have lq:look (jU 0 ar)=cA ar:=R1 ar;refine(VG (Q:=bodyPost P fn _) gY (fun keys st da a ku az cP=>Hm rfl az cP) (fun st a ku cP aI=>?_) m).2 c nt _ w h bt (fJ _ _ ?_)
 ·obtain⟨v,dB,D,x,bU,S',I,G,ab,aV⟩:=jG st a ku cP aI;obtain⟨_,_,R,_,_⟩:=cP;have:bodyPost P fn (fun e w'=>∃v dB,K v dB/\∃x bU S',e=.returned x/\Ext O (cA ar) w S bU (cA dB) w' S'/\Inv tab bU (cA dB) w' S'/\ch tab bU (cA dB) w' S' v x) .ret a ku :=
   ⟨R.defers,x,I,v,dB,D,x,bU,S',rfl,G,ab,aV⟩
  exact⟨this,this⟩
 ·refine⟨O,S,⟨?_,rfl,?_,fun t v aQ=>?_⟩,fun r aw=>?_,?_⟩
  ·simp;omega
  ·show Inv tab O (look (jU 0 ar)) w S;rw[lq];exact aD
  ·have kH:vs[t]? = some v:=by
    have:=RX vs 0 t;simp only[Nat.zero_le,if_true,Nat.sub_zero]at this;rw[<- this];exact aQ
   obtain⟨x,Rr,abW⟩:=Vs aG t v kH;have bp:Act.eval { tmps:=xs.toArray++Array.replicate (fn.ntmps-xs.toArray.size) Go.undef,defers:=[] } (.tmp t)=x:=by
    have dQ:=(List.getElem?_eq_some_iff.1 Rr).1;simp only[Act.eval,Array.getD_eq_getD_getElem?];rw[Array.getElem?_append_left (by simpa using dQ)];simp[Rr]
   rw[bp];show ch tab O (look (jU 0 ar)) w S v x/\_;rw[lq];exact⟨abW,fun e=>absurd e (Tm hu v (List.mem_of_getElem? kH))⟩
  ·show look (jU 0 ar) r=none;rw[lq];have:ar.length<=r:=aw;simp[cA,this]
  ·show Ext O (cA ar) w S O (look (jU 0 ar)) w S;rw[lq];exact Ext.refl
end
end bE
end Go.Proofs.YtlbppjmekiemiaaGreatDoor


/- The executor on data: what a region did, in the text's order. No condition. -/
namespace Go.Proofs.YtlbppjmekiemiaaGreatDoor
namespace bE

structure hp where
 dst:Option Tmp
 v:V
 m:Mem
 did:Bool
 reads:List Nat

def nC(d:hp)(s:Env×Mem):Env×Mem:=(lB d.dst d.v s.1,d.m++s.2)

def iD(b5:Nat->Bool):Nat->List hp->Env×Mem->Env×Mem
 |_,[],s=>s
 |i,d::ds,s=>iD b5 (i+1) ds (match b5 i with|true=>nC d s|false=>s)

def yy:Nat->List hF->List hp->List hF
 |_,eA,[]=>eA
 |i,eA,d::ds=>yy (i+1) (match d.did with|true=>⟨i,d.reads,r1 d.m⟩::eA|false=>eA) ds

def pr(ops:List Oper)(o:Oper)(e:Env):Prop :=
 match o.guard with
 |none=>True
 |some (j,want)=>∃d,(ops[j]?).bind (·.dst)=some d/\look e d=some (.one (.E .bool want))

def pj(ops:List Oper)(o:Oper)(e:Env):Prop :=
 match o.guard with
 |none=>False
 |some (j,want)=>∃d,(ops[j]?).bind (·.dst)=some d/\(look e d=some (.one (.E .bool (!want)))\/look e d=some (.one .undef))

def kT(Γ:Ctx)(tab:ci)(ops:List Oper)(base:Nat)(s:Env×Mem)(i:Nat)(o:Oper)(d:hp):Prop :=
 d.dst=o.dst/\match d.did with
 |false=>d.v=.one .undef/\d.m=[]/\d.reads=[]/\pj ops o s.1
 |true=>pr ops o s.1/\∃vs p,k1 tab s.1 (operands o)=some vs/\Av Γ tab (base+8*i) o vs (ff s.2 d.reads)=some (p,d.v,d.m)/\under p True/\rE (base+8*i) s.2 d.reads d.m=true/\HJ o.dst d.v=true

def mq(Γ:Ctx)(tab:ci)(ops:List Oper)(base:Nat):Nat->List Oper->List hp->Env×Mem->Prop
 |_,[],[],_=>True
 |i,o::rest,d::ds,s=>kT Γ tab ops base s i o d/\mq Γ tab ops base (i+1) rest ds (nC d s)
 |_,_,_,_=>False

section
variable {P:Program} {tab:ci} {Γ:Ctx} {N:Nat}

theorem R0{e b8:Env}(h:∀t,look e t=look b8 t)(d:Option Tmp)(v:V)(t:Nat):look (lB d v e) t=look (lB d v b8) t:=by
 cases d with
 |none=>exact h t
 |some d =>
  by_cases q:t=d
  ·subst q;simp[lB,look,Nat.beq_refl]
  ·simp[lB,look,hr q,h t]

theorem HT{e b8:Env}:∀{l:List (Nat×Operand)},(∀t∈tmpsOf (l.map (·.2)),look e t=look b8 t)->k1 tab e l=k1 tab b8 l
 |[],_=>rfl
 |(ty,o)::l,h=>by
  have I:wA tab e ty o=wA tab b8 ty o:=by
   cases o with
   |tmp t=>exact h t (by simp[tmpsOf])
   |_=>rfl
  have G:k1 tab e l=k1 tab b8 l:=HT fun t bl=>h t (by
   cases o<;>simp[tmpsOf]<;>first|exact .inr bl|exact bl)
  simp only[k1,I,G]

theorem pr.qt{ops:List Oper}{o:Oper}{e b8:Env}(h:∀t,look e t=look b8 t)(w:pr ops o e):pr ops o b8:=by
 unfold pr at *;split at w
 ·trivial
 ·obtain⟨d,I,G⟩:=w;exact⟨d,I,(h d).symm.trans G⟩

theorem pj.qt{ops:List Oper}{o:Oper}{e b8:Env}(h:∀t,look e t=look b8 t)(w:pj ops o e):pj ops o b8:=by
 unfold pj at *;split at w
 ·exact w
 ·obtain⟨d,I,G⟩:=w;exact⟨d,I,G.imp (fun q=>(h d).symm.trans q) (fun q=>(h d).symm.trans q)⟩

theorem kT.qt{ops:List Oper}{base i:Nat}{o:Oper}{d:hp}{e b8:Env}{mm:Mem}(h:∀t,look e t=look b8 t)(w:kT Γ tab ops base (e,mm) i o d):kT Γ tab ops base (b8,mm) i o d:=by
 unfold kT at *;refine⟨w.1,?_⟩;have jv:=w.2;split at jv
 ·exact⟨jv.1,jv.2.1,jv.2.2.1,jv.2.2.2.qt h⟩
 ·obtain⟨a6,vs,p,I,G⟩:=jv;exact⟨a6.qt h,vs,p,(HT fun t _=>(h t).symm).trans I,G⟩

theorem mq.qt{ops:List Oper}{base:Nat}:∀{rest:List Oper} {ds:List hp} {i:Nat} {e b8:Env} {mm:Mem},(∀t,look e t=look b8 t)->mq Γ tab ops base i rest ds (e,mm)->mq Γ tab ops base i rest ds (b8,mm)
 |[],[],_,_,_,_,_,_=>trivial
 |_o::_rest,_d::_ds,_i,_e,_e',_mm,h,w=>⟨w.1.qt h,mq.qt (R0 h _ _) w.2⟩
 |[],_::_,_,_,_,_,_,w=>w.elim
 |_::_,[],_,_,_,_,_,w=>w.elim

def nf:List hp->Env×Mem->Env×Mem
 |[],s=>s
 |d::ds,s=>nf ds (nC d s)

theorem RQ:∀{ds:List hp} {e b8:Env} {mm:Mem},(∀t,look e t=look b8 t)->(∀t,look (nf ds (e,mm)).1 t=look (nf ds (b8,mm)).1 t)/\(nf ds (e,mm)).2=(nf ds (b8,mm)).2
 |[],_,_,_,h=>⟨h,rfl⟩
 |_d::ds,_e,_e',_mm,h=>RQ (ds:=ds) (R0 h _ _)
end
end bE
end Go.Proofs.YtlbppjmekiemiaaGreatDoor


/- The executor on data: from a region's condition, what each of its operations did. No condition. -/
namespace Go.Proofs.YtlbppjmekiemiaaGreatDoor
namespace bE
section
variable {P:Program} {tab:ci} {Γ:Ctx} {N:Nat}

def pk(Γ:Ctx)(tab:ci)(ops:List Oper)(K:nw)(rest:List Oper)(i:Nat)(eA:List hF)(st:bP):Prop :=
 ∃ds,mq Γ tab ops st.base i rest ds (st.env,st.mem)/\w8 ops (yy i eA ds)=true /\
  ∃da,K da/\da.base=st.base+8*ops.length/\(∀t,look da.env t=look (nf ds (st.env,st.mem)).1 t)/\da.mem=(nf ds (st.env,st.mem)).2

theorem pk.qt{ops:List Oper}{K:nw}{rest:List Oper}{i:Nat}{eA:List hF}{st tD:bP}(h:∀t,look st.env t=look tD.env t)(aB:st.mem=tD.mem)(aA:st.base=tD.base)(aP:pk Γ tab ops K rest i eA st) :
  pk Γ tab ops K rest i eA tD:=by
 obtain⟨ds,I,G,da,k,b,e,m⟩:=aP;obtain⟨bA,bb⟩:=RQ (ds:=ds) (mm:=st.mem) h;refine⟨ds,?_,G,da,k,b.trans (by rw[aA]),fun t=>(e t).trans ?_,m.trans ?_⟩
 ·rw[<- aA,<- aB];exact I.qt h
 ·rw[<- aB];exact bA t
 ·rw[<- aB];exact bb

theorem acT{vs:List V}{K:V->Prop}(h:An vs K):∃v,K v:=by
 unfold An at h;split at h
 ·exact⟨_,h false (fun e=>by cases e)⟩
 ·exact⟨_,h⟩
 ·exact h.elim

theorem JR:∀{ops:List Oper},Ap ops=true->∀o∈ops,ta o=false
 |[],_,o,h=>by cases h
 |q::ops,aq,o,h=>by
  simp only[Ap]at aq;split at aq<;>try cases aq
  rename_i aI;rcases List.mem_cons.1 h with rfl|h
  ·exact aI
  ·exact JR aq o h

theorem JZ{ops:List Oper}{eA:List hF}(h:w8 ops eA=true):A3 ops (jA [] ops) 0 ops=true/\Ap ops=true/\tH (jA [] ops) eA=true/\yY 0 ops=true:=by
 unfold w8 at h;simp only at h;split at h
 ·rename_i I;split at h
  ·rename_i G;split at h
   ·rename_i ab;exact⟨I,G,h,ab⟩
   ·cases h
  ·cases h
 ·cases h

theorem HH{ops:List Oper}{K:nw}{o:Oper}{rest:List Oper}{i:Nat}{eA:List hF}{st:bP}{aW:List hF->nw}(aq:o∈ops)(h:py Γ tab o i eA st aW)(cb:pr ops o st.env)
  (D:∀lG da,aW lG da->pk Γ tab ops K rest (i+1) lG da):pk Γ tab ops K (o::rest) i eA st:=by
 unfold py at h;split at h
 ·exact h.elim
 rename_i vs lp;split at h
 ·rename_i C4;obtain⟨v,aQ⟩:=acT h;obtain⟨ds,_,G,_⟩:=D _ _ aQ;rw[JR (JZ G).2.1 o aq]at C4;cases C4
 rename_i C4;rw[JX C4]at lp;simp only at h;split at h
 ·exact h.elim
 rename_i p v m fS;split at h
 ·rename_i zL sY;obtain⟨ag,ad⟩:=Xq.1 h;obtain⟨ds,I,G,da,k,b,e,mm⟩:=D _ _ ad;have fJ:(bP.Xt st m).put o.dst v=⟨lB o.dst v st.env,m++st.mem,st.base⟩:=by rw[r4];rfl
  rw[fJ]at I b e mm;exact⟨⟨o.dst,v,m,true,Xf o vs st.mem⟩::ds,⟨⟨rfl,cb,vs,p,lp,fS,ag,zL,sY⟩,I⟩,G,da,k,b,e,mm⟩
 ·exact h.elim

theorem LS{ops:List Oper}{K:nw}{o:Oper}{rest:List Oper}{i:Nat}{eA:List hF}{st:bP}(cb:pj ops o st.env)(D:pk Γ tab ops K rest (i+1) eA (st.put o.dst (.one .undef))):pk Γ tab ops K (o::rest) i eA st:=by
 obtain⟨ds,I,G,da,k,b,e,mm⟩:=D;rw[r4]at I b e mm;exact⟨⟨o.dst,.one .undef,[],false,[]⟩::ds,⟨⟨rfl,rfl,rfl,rfl,cb⟩,I⟩,G,da,k,b,e,mm⟩

theorem PY{ops:List Oper}{K:nw}:∀(rest:List Oper) (i:Nat) (eA:List hF) (st:bP),(∀o∈rest,o∈ops)->jj Γ tab true ops K rest i eA st->pk Γ tab ops K rest i eA st
 |[],i,eA,st,aq,h=>by
  unfold jj at h;simp only at h;split at h
  ·rename_i aY;exact⟨[],trivial,aY,_,h,rfl,fun _=>rfl,rfl⟩
  ·exact h.elim
 |o::rest,i,eA,st,aq,h=>by
  have pP:=aq o (List.mem_cons_self ..);have next:∀lG da,jj Γ tab true ops K rest (i+1) lG da->pk Γ tab ops K rest (i+1) lG da:=fun lG da ad=>PY rest (i+1) lG da (fun q aI=>aq q (List.mem_cons_of_mem _ aI)) ad
  unfold jj J9 at h;simp only at h;split at h
  ·rename_i bs;exact HH pP h (by simp[pr,bs]) next
  ·rename_i j want bs;split at h
   ·exact h.elim
   rename_i d bO;split at h
   ·rename_i b aA;have rU:∀fq,look st.env d=some (.one (.E .bool fq))->∀t,look (st.put (some d) (.one (.E .bool fq))).env t=look st.env t:=fun fq gA t=>by
     rw[r4];exact TP gA t
    have back:∀fq,look st.env d=some (.one (.E .bool fq))->pk Γ tab ops K (o::rest) i eA (st.put (some d) (.one (.E .bool fq)))->pk Γ tab ops K (o::rest) i eA st:=fun fq gA aP =>
     aP.qt (rU fq gA) (by rw[r4]) (by rw[r4])
    cases b with
    |true =>
     simp only[J]at h;refine back true aA ?_;cases want with
     |true=>exact HH pP h (by simp only[pr,bs];exact⟨d,bO,(rU true aA d).trans aA⟩) next
     |false=>exact LS (by simp only[pj,bs];exact⟨d,bO,.inl ((rU true aA d).trans aA)⟩) (next _ _ h)
    |false =>
     simp only[J]at h;refine back false aA ?_;cases want with
     |true=>exact LS (by simp only[pj,bs];exact⟨d,bO,.inl ((rU false aA d).trans aA)⟩) (next _ _ h)
     |false=>exact HH pP h (by simp only[pr,bs];exact⟨d,bO,(rU false aA d).trans aA⟩) next
   ·rename_i aA;exact LS (by simp only[pj,bs];exact⟨d,bO,.inr aA⟩) (next _ _ h)
   ·exact h.elim
end
end bE
end Go.Proofs.YtlbppjmekiemiaaGreatDoor


/- The executor on data: a region whose order is drawn: plain facts of folds and of what must come before what. No condition. -/
namespace Go.Proofs.YtlbppjmekiemiaaGreatDoor
namespace bE

def lk{α:Type}(b5:Nat->Bool):Nat->List (List (Nat×α))->List (Nat×α)->List (Nat×α)
 |_,[],s=>s
 |i,p::ps,s=>lk b5 (i+1) ps (match b5 i with|true=>p++s|false=>s)

section
variable {α:Type} {b5 D':Nat->Bool} {t:Nat}

theorem uZ:∀(m s:List (Nat×α)) (r:Nat),look (m++s) r=match look m r with|some v=>some v|none=>look s r
 |[],s,r=>rfl
 |(q,b)::m,s,r=>by
  by_cases e:r=q
  ·subst e;simp[look,Nat.beq_refl]
  ·simp[look,hr e,uZ m s r]

theorem zt:∀{ps:List (List (Nat×α))} {i:Nat} {s sb:List (Nat×α)},(∀k p,ps[k]? = some p->look p t≠none->b5 (i+k)=D' (i+k))->look s t=look sb t->look (lk b5 i ps s) t=look (lk D' i ps sb) t
 |[],_,_,_,_,av=>av
 |p::ps,i,s,sb,h,av=>by
  unfold lk;refine zt (fun k q ad aI=>?_) ?_
  ·have:=h (k+1) q (by simpa using ad) aI;rwa[show i+(k+1)=i+1+k by omega]at this
  ·cases e:look p t with
   |none =>
    have key:∀x:List (Nat×α),look (p++x) t=look x t:=fun x=>by rw[uZ,e]
    cases b5 i<;>cases D' i<;>simp[key,av]
   |some v =>
    have a6:=h 0 p rfl (by simp[e]);simp only[Nat.add_zero]at a6;rw[a6];cases D' i
    ·exact av
    ·show look (p++s) t=look (p++sb) t;rw[uZ,uZ,e]

theorem Qf:∀{ps:List (List (Nat×α))} {i:Nat} {s:List (Nat×α)},lk (fun _=>false) i ps s=s
 |[],_,_=>rfl
 |_::ps,i,s=>by unfold lk;exact Qf

theorem H8:∀{ps:List (List (Nat×α))} {i j:Nat} {p:List (Nat×α)} {s:List (Nat×α)},ps[j]? = some p->(∀x,x≠i+j->D' x=b5 x)->b5 (i+j)=false->D' (i+j)=true ->
  (∀k q,j<k->ps[k]? = some q->look q t≠none->look p t≠none->b5 (i+k)=false)->look (lk D' i ps s) t=look (p++lk b5 i ps s) t
 |[],i,j,p,s,aR,_,_,_,_=>by simp at aR
 |q::ps,i,0,p,s,aR,iF,a6,I,ad=>by
  simp only[List.getElem?_cons_zero,Option.some.injEq]at aR;subst aR;simp only[Nat.add_zero]at a6 I iF;unfold lk;simp only[a6,I];rw[uZ];cases e:look q t with
  |none =>
   show _=look (lk b5 (i+1) ps s) t;refine zt (fun k x aG bp=>iF _ (by omega)) ?_;rw[uZ,e]
  |some v =>
   show _=some v;have:look (lk D' (i+1) ps (q++s)) t=look (lk (fun _=>false) (i+1) ps (q++s)) t:=by
    refine zt (fun k x aG bp=>?_) rfl;rw[iF _ (by omega)];have:=ad (k+1) x (by omega) (by simpa using aG) bp (by simp[e]);rwa[show i+(k+1)=i+1+k by omega]at this
   rw[this,Qf,uZ,e]
 |q::ps,i,j+1,p,s,aR,iF,a6,I,ad=>by
  unfold lk;rw[iF i (by omega)];rw[show i+(j+1)=i+1+j by omega]at a6 I iF;refine H8 (by simpa using aR) iF a6 I (fun k x dQ aG G ab=>?_);have:=ad (k+1) x (by omega) (by simpa using aG) G ab;rwa[show i+(k+1)=i+1+k by omega]at this
end

def vd(d:hp):Env:=match d.dst with|some t=>[(t,d.v)] | none=>[]

theorem NV(d:hp)(s:Env×Mem):(nC d s).1=vd d++s.1:=by
 cases h:d.dst<;>simp[nC,vd,lB,h]

theorem zr(b5:Nat->Bool):∀(ds:List hp) (i:Nat) (s:Env×Mem),(iD b5 i ds s).1=lk b5 i (ds.map vd) s.1
 |[],_,_=>rfl
 |d::ds,i,s=>by
  unfold iD;rw[zr b5 ds];simp only[List.map_cons,lk];cases b5 i
  ·rfl
  ·rw[NV]

theorem zs(b5:Nat->Bool):∀(ds:List hp) (i:Nat) (s:Env×Mem),(iD b5 i ds s).2=lk b5 i (ds.map (·.m)) s.2
 |[],_,_=>rfl
 |d::ds,i,s=>by
  unfold iD;rw[zs b5 ds];simp only[List.map_cons,lk];cases b5 i<;>rfl

theorem Jv(d:hp)(t:Nat):look (vd d) t≠none->d.dst=some t:=by
 intro h;cases bO:d.dst with
 |none=>simp[vd,bO,look]at h
 |some u =>
  by_cases e:t=u
  ·rw[e]
  ·simp[vd,bO,look,hr e]at h

theorem Dq{α:Type}:∀(m:List (Nat×α)) (r:Nat),look m r≠none↔r∈m.map (·.1)
 |[],r=>by simp[look]
 |(q,b)::m,r=>by
  by_cases e:r=q
  ·subst e;simp[look,Nat.beq_refl]
  ·simp[look,hr e,Dq m r,e]

theorem H6:∀(ds:List hp) (i:Nat) (b5:Nat->Bool) (s:Env×Mem),(∀k,k<ds.length->b5 (i+k)=true)->iD b5 i ds s=nf ds s
 |[],_,_,_,_=>rfl
 |d::ds,i,b5,s,h=>by
  unfold iD nf;have:=h 0 (by simp);simp only[Nat.add_zero]at this;rw[this];exact H6 ds (i+1) b5 _ fun k ad=>by
   have:=h (k+1) (by simpa using ad);rwa[show i+(k+1)=i+1+k by omega]at this

theorem H7:∀(ds:List hp) (i:Nat) (b5:Nat->Bool) (s:Env×Mem),(∀k,k<ds.length->b5 (i+k)=false)->iD b5 i ds s=s
 |[],_,_,_,_=>rfl
 |d::ds,i,b5,s,h=>by
  unfold iD;have:=h 0 (by simp);simp only[Nat.add_zero]at this;rw[this];exact H7 ds (i+1) b5 _ fun k ad=>by
   have:=h (k+1) (by simpa using ad);rwa[show i+(k+1)=i+1+k by omega]at this

section
variable {P:Program} {tab:ci} {Γ:Ctx} {N:Nat}

theorem mq.len{ops:List Oper}{base:Nat}:∀{rest:List Oper} {ds:List hp} {i:Nat} {s:Env×Mem},mq Γ tab ops base i rest ds s->ds.length=rest.length
 |[],[],_,_,_=>rfl
 |o::rest,d::ds,i,s,h=>by simp[mq.len h.2]
 |[],_::_,_,_,h=>h.elim
 |_::_,[],_,_,h=>h.elim

theorem mq.at{ops:List Oper}{base:Nat}:∀{rest:List Oper} {ds:List hp} {i:Nat} {s:Env×Mem},mq Γ tab ops base i rest ds s->∀k o d,rest[k]? = some o->ds[k]? = some d ->
  kT Γ tab ops base (iD (fun x=>decide (x<i+k)) i ds s) (i+k) o d
 |[],_,_,_,_,k,o,d,aY,bO=>by simp at aY
 |_::_,[],_,_,h,k,o,d,aY,bO=>h.elim
 |o'::rest,k0::ds,i,s,h,0,o,d,aY,bO=>by
  simp only[List.getElem?_cons_zero,Option.some.injEq]at aY bO;subst aY bO;rw[H7 _ _ _ _ (fun k ad=>by simp)];exact h.1
 |o'::rest,k0::ds,i,s,h,k+1,o,d,aY,bO=>by
  have:=mq.at h.2 k o d (by simpa using aY) (by simpa using bO);unfold iD;rw[show i+(k+1)=i+1+k by omega];have hi:decide (i<i+1+k)=true:=by simp;omega
  rw[hi];exact this

theorem Tf{m Af:Mem}:∀{ns:List Nat},(∀r∈ns,look m r=look Af r)->ff m ns=ff Af ns
 |[],_=>rfl
 |r::ns,h=>by
  have I:=h r (List.mem_cons_self ..);have G:=Tf (ns:=ns) fun q aI=>h q (List.mem_cons_of_mem _ aI)
  simp only[ff,List.map_cons]at *;rw[I,G]

theorem Qj{base:Nat}{names:List Nat}{m Af:Mem}:∀{x:Mem},(∀r∈x.map (·.1),look m r=look Af r)->rE base m names x=rE base Af names x
 |[],_=>rfl
 |(r,b)::x,h=>by
  simp only[rE];rw[h r (by simp),Qj (x:=x) fun q aI=>h q (by simp at aI |-; exact .inr aI)]

theorem kT.move{ops:List Oper}{base j:Nat}{o:Oper}{d:hp}{s sb:Env×Mem}(aq:ta o=false)(h:kT Γ tab ops base s j o d)(bp:∀t∈tI ops o,look s.1 t=look sb.1 t)
  (aB:d.did=true->∀r∈d.reads++r1 d.m,look s.2 r=look sb.2 r):kT Γ tab ops base sb j o d:=by
 have aa8:=JX aq;have bs:∀rY want hH,o.guard=some (rY,want)->(ops[rY]?).bind (·.dst)=some hH->look s.1 hH=look sb.1 hH:=fun rY want hH I G=>bp hH (by
  unfold tI;rw[I];simp[G])
 unfold kT at *;refine⟨h.1,?_⟩;have G:=h.2;cases jm:d.did with
 |false =>
  rw[jm]at G;refine⟨G.1,G.2.1,G.2.2.1,?_⟩;have av:=G.2.2.2;unfold pj at *;split at av
  ·exact av
  ·rename_i rY want II;obtain⟨hH,cJ,cE⟩:=av;refine⟨hH,cJ,?_⟩;rw[<- bs rY want hH II cJ];exact cE
 |true =>
  rw[jm]at G;obtain⟨cb,vs,p,ab,aV,br,bV,dm⟩:=G;have pN:=aB jm;refine⟨?_,vs,p,?_,?_,br,?_,dm⟩
  ·unfold pr at *;split at cb
   ·trivial
   ·rename_i rY want II;obtain⟨hH,cJ,cE⟩:=cb;exact⟨hH,cJ,by rw[<- bs rY want hH II cJ];exact cE⟩
  ·rw[<- ab];exact(HT fun t bl=>bp t (by unfold tI;rw[aa8];exact List.mem_append_left _ bl)).symm
  ·rw[<- aV,Tf fun r aw=>pN r (List.mem_append_left _ aw)]
  ·rw[<- bV,Qj fun r aw=>pN r (List.mem_append_right _ aw)]

theorem u0:∀(a l:List Nat),meets a l=true↔∃r∈a,r∈l
 |[],l=>by simp[meets]
 |r::a,l=>by
  simp only[meets];cases h:g6 l r with
  |true=>simp[(u2 l r).1 h]
  |false =>
   have:r∉l:=fun aw=>by rw[(u2 l r).2 aw]at h;cases h
   simp[u0 a l,this]

theorem Pv(ops:List Oper)(a b:Oper):wj ops a b=true↔(∃t∈a.dst.toList,t∈tI ops b++b.dst.toList)\/∃t∈b.dst.toList,t∈tI ops a:=by
 unfold wj;split
 ·rename_i h;rw[<- u0,h];simp
 ·rename_i h;rw[<- u0,<- u0,h];simp

theorem Xg(a b:hF):yw a b=true↔(∃t∈a.writes,t∈b.reads++b.writes)\/∃t∈b.writes,t∈a.reads:=by
 unfold yw;split
 ·rename_i h;rw[<- u0,h];simp
 ·rename_i h;rw[<- u0,<- u0,h];simp

theorem Xd{ops:List Oper}{ms:List Nat}{o:Oper}{j:Nat}:∀{l:List Oper} {i:Nat},vz ops ms o j i l=true->∀k a,l[k]? = some a->i+k<j->wj ops a o=true->j4 ms (i+k) j=true
 |[],i,_,k,a,bh,_,_=>by simp at bh
 |b::l,i,h,k,a,bh,dQ,az=>by
  simp only[vz]at h;split at h
  ·rename_i hle;have:=Nat.le_of_ble_eq_true hle;omega
  ·have oO:wj ops b o=true->j4 ms i j=true:=fun aag=>by
    rw[aag]at h;simp only at h;split at h
    ·assumption
    ·cases h
   have aa5:vz ops ms o j (i+1) l=true:=by
    split at h
    ·split at h
     ·exact h
     ·cases h
    ·exact h
   cases k with
   |zero=>simp at bh;subst bh;exact oO az
   |succ k =>
    have:=Xd aa5 k a (by simpa using bh) (by omega) az;rwa[show i+(k+1)=i+1+k by omega]

theorem Xe{ops:List Oper}{ms:List Nat}:∀{l:List Oper} {j:Nat},A3 ops ms j l=true->∀k o,l[k]? = some o->vz ops ms o (j+k) 0 ops=true
 |[],_,_,k,o,aY=>by simp at aY
 |a::l,j,h,k,o,aY=>by
  simp only[A3]at h;split at h
  ·rename_i I;cases k with
   |zero=>simp at aY;subst aY;exact I
   |succ k =>
    have:=Xe h k o (by simpa using aY);rwa[show j+(k+1)=j+1+k by omega]
  ·cases h

theorem MG{ms:List Nat}{b:hF}:∀{l:List hF},yx ms b l=true->∀a∈l,yw a b=true->j4 ms a.i b.i=true
 |[],_,a,bh,_=>by cases bh
 |q::l,h,a,bh,az=>by
  simp only[yx]at h;split at h
  ·rename_i aI;split at h
   ·rename_i aA;rcases List.mem_cons.1 bh with rfl|bh
    ·exact aA
    ·exact MG h a bh az
   ·cases h
  ·rename_i aI;rcases List.mem_cons.1 bh with rfl|bh
   ·rw[az]at aI;cases aI
   ·exact MG h a bh az

theorem ajb{ms:List Nat}{b:hF}{l:List hF}(h:tH ms (b::l)=true):tH ms l=true/\yx ms b l=true:=by
 simp only[tH]at h;split at h
 ·rename_i I;exact⟨h,I⟩
 ·cases h

theorem Xh{ms:List Nat}:∀{ds:List hp} {i:Nat} {eA:List hF},tH ms (yy i eA ds)=true->tH ms eA=true /\
  (∀a∈eA,∀k d,ds[k]? = some d->d.did=true->yw a ⟨i+k,d.reads,r1 d.m⟩=true->j4 ms a.i (i+k)=true) /\
  ∀k e5 d k0,k<e5->ds[k]? = some d->ds[e5]? = some k0->d.did=true->k0.did=true->yw ⟨i+k,d.reads,r1 d.m⟩ ⟨i+e5,k0.reads,r1 k0.m⟩=true->j4 ms (i+k) (i+e5)=true
 |[],i,eA,h=>⟨h,fun a _ k d bO=>by simp at bO,fun k e5 d k0 _ bO=>by simp at bO⟩
 |d0::ds,i,eA,h=>by
  unfold yy at h;obtain⟨I,G,ab⟩:=Xh h;cases uD:d0.did with
  |false =>
   rw[uD]at I G;refine⟨I,fun a bh k d bO jm az=>?_,fun k e5 d k0 dQ bO iV e b8 az=>?_⟩
   ·cases k with
    |zero=>simp at bO;subst bO;rw[uD]at jm;cases jm
    |succ k =>
     rw[show i+(k+1)=i+1+k by omega]at az |-;exact G a bh k d (by simpa using bO) jm az
   ·cases e5 with
    |zero=>omega
    |succ e5 =>
     cases k with
     |zero=>simp at bO;subst bO;rw[uD]at e;cases e
     |succ k =>
      rw[show i+(k+1)=i+1+k by omega,show i+(e5+1)=i+1+e5 by omega]at az |-;exact ab k e5 d k0 (by omega) (by simpa using bO) (by simpa using iV) e b8 az
  |true =>
   rw[uD]at I G;obtain⟨aV,br⟩:=ajb I;refine⟨aV,fun a bh k d bO jm az=>?_,fun k e5 d k0 dQ bO iV e b8 az=>?_⟩
   ·cases k with
    |zero=>simp at bO;subst bO;exact MG br a bh az
    |succ k =>
     rw[show i+(k+1)=i+1+k by omega]at az |-;exact G a (List.mem_cons_of_mem _ bh) k d (by simpa using bO) jm az
   ·cases e5 with
    |zero=>omega
    |succ e5 =>
     cases k with
     |zero =>
      simp at bO;subst bO;simp only[Nat.add_zero]at az |-;rw[show i+(e5+1)=i+1+e5 by omega]at az |-;exact G _ (List.mem_cons_self ..) e5 k0 (by simpa using iV) b8 az
     |succ k =>
      rw[show i+(k+1)=i+1+k by omega,show i+(e5+1)=i+1+e5 by omega]at az |-;exact ab k e5 d k0 (by omega) (by simpa using bO) (by simpa using iV) e b8 az

theorem Ia{β:Type}(n:Nat)(k:Nat->β):forced n k=k n:=by cases n<;>rfl

theorem Ft{ms:List Nat}{i:Nat}:∀{es:List Edge} {acc:Nat},Nat.testBit (bitsOf acc ms es) i=true->Nat.testBit acc i=true\/∃e∈es,Region.binds .any e=true/\(i=e.on\/Nat.testBit ((ms[e.on]?).getD 0) i=true)
 |[],acc,h=>.inl h
 |e::es,acc,h=>by
  simp only[bitsOf]at h;split at h
  ·rename_i aA;rcases Ft h with h|⟨b8,I,G⟩
   ·rw[Nat.testBit_or,Nat.testBit_or,Bool.or_eq_true,Bool.or_eq_true]at h;rcases h with(h|h)|h
    ·exact .inl h
    ·rw[Nat.testBit_two_pow]at h;simp at h;exact .inr ⟨e,List.mem_cons_self ..,aA,.inl h.symm⟩
    ·exact .inr ⟨e,List.mem_cons_self ..,aA,.inr h⟩
   ·exact .inr ⟨b8,List.mem_cons_of_mem _ I,G⟩
  ·rcases Ft h with h|⟨b8,I,G⟩
   ·exact .inl h
   ·exact .inr ⟨b8,List.mem_cons_of_mem _ I,G⟩

theorem N3:∀{l:List Oper} {ms:List Nat},(jA ms l).length=ms.length+l.length/\∀k,k<ms.length->(jA ms l)[k]? = ms[k]?
 |[],ms=>⟨by simp[jA],fun _ _=>rfl⟩
 |o::l,ms=>by
  simp only[jA,Ia];obtain⟨I,G⟩:=N3 (l:=l) (ms:=ms++[bitsOf 0 ms o.after.toList]);refine⟨by rw[I];simp;omega,fun k ad=>?_⟩;rw[G k (by simp;omega),List.getElem?_append_left ad]

theorem N4:∀{l:List Oper} {ms:List Nat},∀k o,l[k]? = some o->∀i,j4 (jA ms l) i (ms.length+k)=true ->
  ∃e∈o.after,Region.binds .any e=true/\(i=e.on\/j4 (jA ms l) i e.on=true)
 |[],ms,k,o,aY,i,h=>by simp at aY
 |o'::l,ms,0,o,aY,i,h=>by
  simp at aY;subst aY;simp only[jA,Ia]at h |-;obtain⟨I,G⟩:=N3 (l:=l) (ms:=ms++[bitsOf 0 ms o'.after.toList]);unfold j4 at h;rw[Nat.add_zero,G ms.length (by simp)]at h;simp at h;rcases Ft h with h|⟨e,bp,aA,hi⟩
  ·simp at h
  ·refine⟨e,by simpa using bp,aA,hi.imp id fun hi=>?_⟩;unfold j4
   by_cases dQ:e.on<ms.length
   ·rw[G e.on (by simp;omega),List.getElem?_append_left dQ];exact hi
   ·rw[List.getElem?_eq_none (by omega)]at hi;simp at hi
 |o'::l,ms,k+1,o,aY,i,h=>by
  simp only[jA,Ia]at h |-;have:=N4 (l:=l) (ms:=ms++[bitsOf 0 ms o'.after.toList]) k o (by simpa using aY) i (by
   rw[show(ms++[bitsOf 0 ms o'.after.toList]).length+k=ms.length+(k+1)by simp;omega];exact h)
  exact this

theorem Fl{j:Nat}:∀{es:List Edge},yW j es=true->∀e∈es,Region.binds .any e=true->e.on<j
 |[],_,e,bp,_=>by cases bp
 |q::es,h,e,bp,aA=>by
  simp only[yW]at h;split at h
  ·split at h
   ·rename_i I;rcases List.mem_cons.1 bp with rfl|bp
    ·exact Nat.le_of_ble_eq_true I
    ·exact Fl h e bp aA
   ·cases h
  ·rename_i aI;rcases List.mem_cons.1 bp with rfl|bp
   ·rw[aA]at aI;cases aI
   ·exact Fl h e bp aA

theorem N1:∀{l:List Oper} {j:Nat},yY j l=true->∀k o,l[k]? = some o->∀e∈o.after,Region.binds .any e=true->e.on<j+k
 |[],_,_,k,o,aY=>by simp at aY
 |q::l,j,h,k,o,aY=>by
  simp only[yY]at h;split at h
  ·rename_i I;cases k with
   |zero=>simp at aY;subst aY;intro e bp aA;exact Fl I e (by simpa using bp) aA
   |succ k =>
    intro e bp aA;have:=N1 h k o (by simpa using aY) e bp aA;omega
  ·cases h
end
end bE
end Go.Proofs.YtlbppjmekiemiaaGreatDoor


/- The executor on data: a region, whatever its order: the premise RegionOk. No condition. -/
namespace Go.Proofs.YtlbppjmekiemiaaGreatDoor
namespace bE
section
variable {P:Program} {tab:ci} {Γ:Ctx} {N:Nat} {fF:dk} {w0:World} {S0:Nat->Prop}

theorem fB.RY{env:Env}{mem fl:Mem}{a:Act}{w:World}{O:dk}{S:Nat->Prop}(R:fB tab N env mem a w O S)(h:look fl=look mem):fB tab N env fl a w O S :=
 ⟨R.size,R.defers,h▸R.inv,fun t v aQ=>by rw[h];exact R.env t v aQ⟩

theorem kT.PJ{ops:List Oper}{base j:Nat}{o:Oper}{d:hp}{s:Env×Mem}(h:kT Γ tab ops base s j o d):d.dst=o.dst:=h.1

theorem kT.acH{ops:List Oper}{base j:Nat}{o:Oper}{d:hp}{s:Env×Mem}(h:kT Γ tab ops base s j o d)(bO:d.did=false):d.m=[]:=by
 unfold kT at h;rw[bO]at h;exact h.2.2.1

def kP(b5:Nat->Bool)(j:Nat):Nat->Bool:=fun x=>b5 x||decide (x=j)

theorem due{ops:List Oper}{base:Nat}{ds:List hp}{j9:Env×Mem}{b5:Nat->Bool}{j:Nat}{o:Oper}{d:hp}(lX:mq Γ tab ops base 0 ops ds j9)(gg:w8 ops (yy 0 [] ds)=true)
  (j2:∀i k,b5 k=true->j4 (jA [] ops) i k=true->b5 i=true) (aR:b5 j=false) (zF:∀i,j4 (jA [] ops) i j=true->b5 i=true) (aY:ops[j]? = some o) (bO:ds[j]? = some d) :
  kT Γ tab ops base (iD b5 0 ds j9) j o d/\(∀t,look (nC d (iD b5 0 ds j9)).1 t=look (iD (kP b5 j) 0 ds j9).1 t)/\∀r,look (nC d (iD b5 0 ds j9)).2 r=look (iD (kP b5 j) 0 ds j9).2 r:=by
 obtain⟨I,G,ab,_⟩:=JZ gg;have hlen:=lX.len;have C6:∀(k:Nat) (gI:hp),ds[k]? = some gI->∃ok:Oper,ops[k]? = some ok/\gI.dst=ok.dst/\(gI.did=false->gI.m=[]):=fun k gI ad=>by
  have dQ:k<ops.length:=by have:=(List.getElem?_eq_some_iff.1 ad).1;omega
  have aY:ops[k]? = some ops[k]:=List.getElem?_eq_getElem dQ;have:=lX.at k _ gI aY ad;exact⟨_,aY,this.PJ,this.acH⟩
 have ND:∀(i k:Nat) (DA ok:Oper),ops[i]? = some DA->ops[k]? = some ok->i<k->wj ops DA ok=true->j4 (jA [] ops) i k=true:=fun i k DA ok hi ad dQ az=>by
  have:=Xd (Xe I k ok ad) i DA hi (by omega) az;simpa using this
 have E3:=(Xh ab).2.2;simp only[Nat.zero_add]at E3;have aq:=JR G o (List.mem_of_getElem? aY);have sY:d.dst=o.dst:=by
  obtain⟨o',aO,aX,_⟩:=C6 j d bO;rw[aY]at aO;cases aO;exact aX
 have T:∀t,t∈tI ops o\/o.dst=some t->∀(k:Nat) (gI:hp),ds[k]? = some gI->gI.dst=some t->k≠j->b5 k=decide (k<j):=fun t bl k gI ad aan dz=>by
  obtain⟨ok,aO,aX,_⟩:=C6 k gI ad;have I1:ok.dst=some t:=aX▸aan;rcases Nat.lt_or_gt_of_ne dz with dQ|IH
  ·have:j4 (jA [] ops) k j=true:=ND k j ok o aO aY dQ ((Pv ops ok o).2 (.inl ⟨t,by simp[I1],by
    rcases bl with bl|bl
    ·exact List.mem_append_left _ bl
    ·exact List.mem_append_right _ (by simp[bl])⟩))
   rw[zF k this];simp[dQ]
  ·have:j4 (jA [] ops) j k=true:=ND j k o ok aY aO IH ((Pv ops o ok).2 (by
    rcases bl with bl|bl
    ·exact .inr ⟨t,by simp[I1],bl⟩
    ·exact .inl ⟨t,by simp[bl],List.mem_append_right _ (by simp[I1])⟩))
   have IZ:decide (k<j)=false:=by simp;omega
   rw[IZ];cases Im:b5 k with
   |false=>rfl
   |true=>rw[j2 j k Im this]at aR;cases aR
 have gx:∀r,d.did=true->r∈d.reads++r1 d.m->∀(k:Nat) (gI:hp),ds[k]? = some gI->r∈r1 gI.m->k≠j->b5 k=decide (k<j):=fun r jm aw k gI ad zT dz=>by
  obtain⟨ok,aO,aX,cY⟩:=C6 k gI ad;have hW:gI.did=true:=by
   cases h:gI.did with
   |true=>rfl
   |false=>rw[cY h]at zT;simp[r1]at zT
  rcases Nat.lt_or_gt_of_ne dz with dQ|IH
  ·have:j4 (jA [] ops) k j=true:=E3 k j gI d dQ ad bO hW jm ((Xg _ _).2 (.inl ⟨r,zT,aw⟩));rw[zF k this];simp[dQ]
  ·have:j4 (jA [] ops) j k=true:=E3 j k d gI IH bO ad jm hW ((Xg _ _).2 (by
    rcases List.mem_append.1 aw with aw|aw
    ·exact .inr ⟨r,zT,aw⟩
    ·exact .inl ⟨r,aw,List.mem_append_right _ zT⟩))
   have IZ:decide (k<j)=false:=by simp;omega
   rw[IZ];cases Im:b5 k with
   |false=>rfl
   |true=>rw[j2 j k Im this]at aR;cases aR
 have wP:∀{β:Type} (f:hp->β) (k:Nat) (p:β),(ds.map f)[k]? = some p->∃gI,ds[k]? = some gI/\f gI=p:=fun f k p ag=>by
  rw[List.getElem?_map]at ag;cases ad:ds[k]? with
  |none=>rw[ad]at ag;cases ag
  |some gI=>rw[ad]at ag;exact⟨gI,rfl,by simpa using ag⟩
 refine⟨?_,fun t=>?_,fun r=>?_⟩
 ·have nP:=lX.at j o d aY bO;simp only[Nat.zero_add]at nP;refine nP.move aq (fun t bl=>?_) (fun jm r aw=>?_)
  ·rw[zr,zr];refine(zt (fun k p ag ax=>?_) rfl).symm;obtain⟨gI,cJ,cE⟩:=wP _ k p ag;subst cE;simp only[Nat.zero_add]
   by_cases e:k=j
   ·subst e;simp[aR]
   ·exact T t (.inl bl) k gI cJ (Jv gI t ax) e
  ·rw[zs,zs];refine(zt (fun k p ag ax=>?_) rfl).symm;obtain⟨gI,cJ,cE⟩:=wP _ k p ag;subst cE;simp only[Nat.zero_add]
   by_cases e:k=j
   ·subst e;simp[aR]
   ·exact gx r jm aw k gI cJ ((Dq _ _).1 ax) e
 ·rw[NV,zr,zr];refine(H8 (D':=kP b5 j) (j:=j) (p:=vd d) (by rw[List.getElem?_map,bO];rfl) (fun x aG=>?_) (by simpa using aR) (by simp[kP]) (fun k q dQ aI br bV=>?_)).symm
  ·simp only[Nat.zero_add]at aG;simp[kP,aG]
  ·obtain⟨gI,cJ,cE⟩:=wP _ k q aI;subst cE;simp only[Nat.zero_add];rw[T t (.inr (sY▸Jv d t bV)) k gI cJ (Jv gI t br) (by omega)];simp;omega
 ·show look (d.m++(iD b5 0 ds j9).2) r=_;rw[zs,zs];refine(H8 (D':=kP b5 j) (j:=j) (p:=d.m) (by rw[List.getElem?_map,bO];rfl) (fun x aG=>?_) (by simpa using aR) (by simp[kP]) (fun k q dQ aI br bV=>?_)).symm
  ·simp only[Nat.zero_add]at aG;simp[kP,aG]
  ·obtain⟨gI,cJ,cE⟩:=wP _ k q aI;subst cE;simp only[Nat.zero_add];have jm:d.did=true:=by
    cases h:d.did with
    |true=>rfl
    |false =>
     obtain⟨_,_,_,cY⟩:=C6 j d bO;rw[cY h]at bV;simp[look]at bV
   rw[gx r jm (List.mem_append_right _ ((Dq _ _).1 bV)) k gI cJ ((Dq _ _).1 br) (by omega)];simp;omega

theorem XY{ops:List Oper}{base:Nat}{ds:List hp}{j9:Env×Mem}{Q:Exit->Act->World->Prop}(bH:fp P tab)(ls:Sound P tab Γ)(bt:sv N ops=true)(lX:mq Γ tab ops base 0 ops ds j9)(gg:w8 ops (yy 0 [] ds)=true)
  (pH:∀et w' bU S',fB tab N (nf ds j9).1 (nf ds j9).2 et w' bU S'->Ext fF (look j9.2) w0 S0 bU (look (nf ds j9).2) w' S'->Q .normal et w') :
  ∀(fuel:Nat) (listed:Array Bool) (L:List Nat) (a:Act) (w:World) (O:dk) (S:Nat->Prop) (b5:Nat->Bool),(∀i,b5 i=listed.getD i false)->listed.size=ops.length->L.length=fuel->(∀i,i<ops.length->b5 i=false->i∈L) ->
   (∀i k,b5 k=true->j4 (jA [] ops) i k=true->b5 i=true)->fB tab N (iD b5 0 ds j9).1 (iD b5 0 ds j9).2 a w O S->Ext fF (look j9.2) w0 S0 O (look (iD b5 0 ds j9).2) w S ->
   wpAny P .any ops.toArray Q fuel listed a w:=by
 obtain⟨_,_,_,aV⟩:=JZ gg;have hlen:=lX.len;intro fuel
 induction fuel with
 |zero =>
  intro listed L a w O S b5 iF fs sP kl j2 R a5;have kF:∀i,i<ops.length->b5 i=true:=fun i hi=>by
   cases h:b5 i with
   |true=>rfl
   |false =>
    have:=kl i hi h;have:L=[]:=List.length_eq_zero_iff.1 sP
    simp_all
  rw[H6 _ _ _ _ (fun k ad=>by rw[Nat.zero_add];exact kF k (by omega))]at R a5;refine⟨?_,pH a w O S R a5⟩;cases aw:Region.ready .any ops.toArray listed with
  |nil=>rfl
  |cons i rest =>
   have hi:i∈Region.ready .any ops.toArray listed:=by rw[aw];exact List.mem_cons_self ..
   obtain⟨cJ,o,cE,_⟩:=mem_ready.1 hi;have dQ:i<ops.length:=by simpa using(List.getElem?_eq_some_iff.1 (by simpa using cE)).1
   have:=kF i dQ;rw[iF i]at this;simp only[Array.getD_eq_getD_getElem?,Array.getElem?_eq_getElem (show i<listed.size by omega),Option.getD_some]at cJ this;rw[cJ]at this;cases this
 |succ fuel dd =>
  intro listed L a w O S b5 iF fs sP kl j2 R a5;refine⟨fun aw=>?_,fun j aR=>?_⟩
  ·have kF:∀n i,i<n->i<ops.length->b5 i=true:=by
    intro n
    induction n with
    |zero=>intro i h;omega
    |succ n ab8 =>
     intro i _ hi;cases h:b5 i with
     |true=>rfl
     |false =>
      have:i∈Region.ready .any ops.toArray listed:=by
       rw[iF i]at h;refine mem_ready.2 ⟨?_,ops[i],by simp[hi],fun e bp aA=>?_⟩
       ·simp only[Array.getD_eq_getD_getElem?,Array.getElem?_eq_getElem (show i<listed.size by omega),Option.getD_some]at h |-;exact h
       ·have:=N1 aV i ops[i] (List.getElem?_eq_getElem hi) e bp aA;rw[<- iF];exact ab8 e.on (by omega) (by omega)
      rw[aw]at this;cases this
   rw[H6 _ _ _ _ (fun k ad=>by rw[Nat.zero_add];exact kF (k+1) k (by omega) (by omega))]at R a5;exact pH a w O S R a5
  ·obtain⟨cJ,o,cE,ey⟩:=mem_ready.1 aR;have dQ:j<ops.length:=by simpa using(List.getElem?_eq_some_iff.1 (by simpa using cE)).1
   have aY:ops[j]? = some o:=by simpa using cE
   have QF:ds[j]? = some ds[j]:=List.getElem?_eq_getElem (by omega);generalize QE:ds[j]=d at QF;have Qu:b5 j=false:=by
    rw[iF j];simp only[Array.getD_eq_getD_getElem?,Array.getElem?_eq_getElem (show j<listed.size by omega),Option.getD_some]at cJ |-;exact cJ
   have zF:∀i,j4 (jA [] ops) i j=true->b5 i=true:=fun i hi=>by
    obtain⟨e,aO,aX,cY⟩:=N4 (ms:=[]) j o aY i (by simpa using hi);have Qt:b5 e.on=true:=by rw[iF];exact ey e aO aX
    rcases cY with rfl|cY
    ·exact Qt
    ·exact j2 i e.on Qt cY
   obtain⟨jm,hU,CR⟩:=due lX gg j2 Qu zF aY QF;have ZV:∀i,kP b5 j i=(listed.setIfInBounds j true).getD i false:=fun i=>by
    by_cases e:i=j
    ·subst e;simp[kP,Array.getD_eq_getD_getElem?,show i<listed.size by omega]
    ·rw[getD_set_ne false (Ne.symm e),<- iF i];simp[kP,e]
   have aai:∀i k,kP b5 j k=true->j4 (jA [] ops) i k=true->kP b5 j i=true:=fun i k ad hi=>by
    by_cases e:k=j
    ·subst e;simp[kP,zF i hi]
    ·have:b5 k=true:=by simpa[kP,e]using ad
     simp[kP,j2 i k this hi]
   have next:∀et w' bU S',fB tab N (nC d (iD b5 0 ds j9)).1 (nC d (iD b5 0 ds j9)).2 et w' bU S'->Ext O (look (iD b5 0 ds j9).2) w S bU (look (nC d (iD b5 0 ds j9)).2) w' S' ->
     wpAny P .any ops.toArray Q fuel (listed.setIfInBounds j true) et w':=fun et w' bU S' je iz=>by
    have aB:=funext CR;refine dd (listed.setIfInBounds j true) (L.erase j) et w' bU S' (kP b5 j) ZV (by simpa using fs) ?_ (fun i hi bO=>?_) aai ((je.RY aB.symm).Js fun t=>(hU t).symm) ?_
    ·rw[List.length_erase_of_mem (kl j dQ Qu)];omega
    ·have dz:i≠j:=fun e=>by subst e;simp[kP]at bO
     have:b5 i=false:=by simpa[kP,dz]using bO
     exact(List.mem_erase_of_ne dz).2 (kl i hi this)
    ·rw[<- aB];exact a5.trans iz
   have QB:∀t,o.dst=some t->t<N:=BJ bt o (List.mem_of_getElem? aY);unfold wpOp;rw[cE];simp only;have rJ:=jm.PJ;unfold kT at jm;have G:=jm.2;cases az:d.did with
   |true =>
    rw[az]at G;obtain⟨cb,vs,p,aO,aX,cY,lQ,nJ⟩:=G;have Jf:Region.wanted o (yielded ops.toArray a.tmps)=true:=by
     unfold pr at cb;split at cb
     ·rename_i bs;simp[Region.wanted,bs]
     ·rename_i rY want bs;obtain⟨hH,d1,d2⟩:=cb;rw[MQ bs d1 (r8 (R.env hH _ d2).1)];simp
    rw[if_pos Jf];refine .inl (W0 bH ls R aO aX cY (zu lQ).1 nJ QB fun et w' bU S' je iz=>?_);refine next et w' bU S' ?_ iz
    unfold nC;rw[rJ];exact je
   |false =>
    rw[az]at G;obtain⟨aO,aX,cY,av⟩:=G;have Jf:Region.wanted o (yielded ops.toArray a.tmps)=false:=by
     unfold pj at av;split at av
     ·exact av.elim
     ·rename_i rY want bs;obtain⟨hH,d1,d2|d2⟩:=av
      ·rw[MQ bs d1 (r8 (R.env hH _ d2).1)];simp
      ·exact Xs bs d1 ((R.env hH _ d2).2 rfl)
    rw[if_neg (by simp[Jf])];refine next (a.put o.dst Go.undef) w O S ?_ ?_
    ·unfold nC;rw[rJ,aO,aX];exact R.skip QB
    ·unfold nC;rw[aX];exact Ext.refl

theorem RR{ops:List Oper}{base:Nat}:∀{rest:List Oper} {ds:List hp} {i n:Nat} {s:Env×Mem},mq Γ tab ops base i rest ds s->base+8*(i+rest.length)<=n->jd n s.2->jd n (nf ds s).2
 |[],[],_,_,_,_,_,h=>h
 |o::rest,d::ds,i,n,s,az,aq,h=>by
  unfold nf;simp only[List.length_cons]at aq;refine RR az.2 (by omega) ?_;have jm:=az.1;unfold kT at jm;have G:=jm.2;cases bO:d.did with
  |false =>
   rw[bO]at G;show jd n (d.m++s.2);rw[G.2.1];exact h
  |true =>
   rw[bO]at G;obtain⟨_,vs,p,_,_,_,lQ,_⟩:=G;exact Qk (zu lQ).2 h (by omega)
 |[],_::_,_,_,_,az,_,_=>az.elim
 |_::_,[],_,_,_,az,_,_=>az.elim

theorem Ext.Dy{O:dk}{mem:dS}{w:World}{S:Nat->Prop}{n:Nat}{bU:dk}{fl:dS}{w':World}{S':Nat->Prop}(a5:Ext O mem { w with drawn:=n } S bU fl w' S'):Ext O mem w S bU fl w' S' :=
 ⟨a5.names,a5.kinds,a5.sub,a5.size,a5.heap,a5.only,a5.own,a5.os,a5.tape,a5.output⟩

theorem dC.Dy{w:World}{S:Nat->Prop}{n:Nat}{c:C}{x:Value}(h:dC tab w S c x):dC tab { w with drawn:=n } S c x :=
 h.mono (fun _ h=>h) (fun _ _=>rfl)

theorem fB.drawn{env:Env}{mem:Mem}{a:Act}{w:World}{O:dk}{S:Nat->Prop}(R:fB tab N env mem a w O S)(n:Nat):fB tab N env mem a { w with drawn:=n } O S:=by
 have a5:Ext O (look mem) w S O (look mem) { w with drawn:=n } S:=by
  have e:Ext O (look mem) w S O (look mem) w S:=Ext.refl;exact⟨e.names,e.kinds,e.sub,e.size,e.heap,e.only,e.own,e.os,e.tape,e.output⟩
 have C:∀{c x},fv tab O (look mem) w S c x->fv tab O (look mem) { w with drawn:=n } S c x:=fun h=>h.ext a5 R.inv
 refine⟨R.size,R.defers,⟨fun r B I G=>?_,R.inv.inj,R.inv.sep,R.inv.lt,R.inv.pow.of_heap rfl⟩,fun t v aQ=>⟨yj a5 R.inv (R.env t v aQ).1,(R.env t v aQ).2⟩⟩;obtain⟨l,aO,aX⟩:=R.inv.rel r B I G;refine⟨l,aO,?_⟩;cases B with
 |dead=>cases l<;>exact aX
 |box cs =>
  cases l with
  |eu x=>exact aX
  |gz b =>
   obtain⟨vs,e,ei,eU,a3⟩:=aX;exact⟨vs,e,ei,eU,fun i c az=>let ⟨y,cC,cI,dA⟩:=a3 i c az;⟨y,cC,cI,C dA⟩⟩
 |set aF=>cases l<;>exact aX
 |ew t l' cs =>
  cases l with
  |gz b=>exact aX
  |eu x =>
   obtain⟨b,cap,cur,e,ei,eU,a3,a4,lM,lN,nz⟩:=aX;exact⟨b,cap,cur,e,ei,eU,a3,a4,lM,fun i j c hi az=>let ⟨y,cC,cI,dA⟩:=lN i j c hi az;⟨y,cC,cI,dA.Dy⟩,fun j c az=>let ⟨mn,y,cC,cI,dA⟩:=nz j c az;⟨mn,y,cC,cI,C dA⟩⟩
 |arr t l' =>
  cases l with
  |gz b=>exact aX
  |eu x =>
   rcases aX with aX|⟨b,cap,cur,e,ei,eU,a3,a4,lM,lN⟩
   ·exact .inl aX
   ·exact .inr ⟨b,cap,cur,e,ei,eU,a3,a4,lM,fun i j c hi az=>let ⟨y,cC,cI,dA⟩:=lN i j c hi az;⟨y,cC,cI,dA.Dy⟩⟩

theorem afS{mem0:dS}(bH:fp P tab)(ls:Sound P tab Γ)(aB:P.follows .mixedOrders=true):yQ P tab Γ N fF mem0 w0 S0:=by
 intro id ops draw K Q st a w bt h cP pH;obtain⟨O,S,R,c8,a5⟩:=cP;cases draw with
 |false =>
  refine wp_region ?_;have:=PX bH ls bt ops.toList 0 [] st a w O S rfl (by simp) h R (by simpa using c8) (fun da et w' bU S' je q8 iz e5=>pH da et w' ⟨bU,S',je,q8,a5.trans iz⟩ e5);rw[List.range_eq_range'];simpa using this
 |true =>
  obtain⟨ds,lX,gg,da,D,aA,bp,jo⟩:=PY ops.toList 0 [] st (fun _ h=>h) h;refine wp_region_any aB ?_;have C5:iD (fun _=>false) 0 ds (st.env,st.mem)=(st.env,st.mem):=H7 _ _ _ _ (fun _ _=>rfl);have je:=R.drawn (w.drawn+1);have:=XY (fF:=O) (S0:=S) (w0:={ w with drawn:=w.drawn+1 }) (ops:=ops.toList) (Q:=Q) bH ls bt lX gg (fun et w' bU S' rb dL=>by
    refine pH da et w' ⟨bU,S',(rb.RY (by rw[jo])).Js bp,?_,a5.trans ?_⟩ D
    ·rw[jo,aA];exact RR lX (by simp) (fun r aw=>c8 r (by have:st.base+8*ops.toList.length<=r:=aw;omega))
    ·rw[jo];exact dL.Dy) ops.size (Array.replicate ops.size false) (List.range ops.size) a { w with drawn:=w.drawn+1 } O S (fun _=>false)
   (fun i=>by simp only[Array.getD_eq_getD_getElem?,Array.getElem?_replicate];split<;>rfl) (by simp) (by simp) (fun i hi _=>by simpa using hi) (fun i k h=>by cases h) (by rw[C5];exact je) (by rw[C5];exact Ext.refl)
  simpa using this
end
end bE
end Go.Proofs.YtlbppjmekiemiaaGreatDoor


/- The executor on data: the table of types, checked. No condition. -/
namespace Go.Proofs.YtlbppjmekiemiaaGreatDoor
namespace bE

def tM:List C->List Value->Bool
 |[],[]=>true
 |.E .int n::cs,.int .i64 m::xs=>decide ((n:Int)=0)&&decide (m=0)&&tM cs xs
 |.E .bool b::cs,.bool c::xs=>(!b)&&(!c)&&tM cs xs
 |.E .str s::cs,.string t::xs=>List.isEmpty s&&List.isEmpty t.data.toList&&tM cs xs
 |.nil _::cs,.slice none n m::xs=>Nat.beq n 0&&Nat.beq m 0&&tM cs xs
 |.undef::cs,x::xs=>x.oneCell' && tM cs xs
 |_,_=>false

theorem Ob{t:ByteArray}(h:List.isEmpty t.data.toList=true):t=⟨#[]⟩:=by
 cases t with
 |mk d =>
  congr 1;have:d.toList=[]:=List.isEmpty_iff.1 h;exact Array.toList_inj.1 this

theorem ajD:∀{cs:List C} {xs:List Value},tM cs xs=true->ri cs xs:=by
 intro cs xs h
 fun_induction tM cs xs with
 |case1=>trivial
 |case2 n cs m xs dd =>
  simp only[Bool.and_eq_true,decide_eq_true_eq]at h;obtain⟨⟨I,G⟩,ab⟩:=h;exact⟨I,by rw[G],dd ab⟩
 |case3 b cs c xs dd =>
  simp only[Bool.and_eq_true,Bool.not_eq_true']at h;obtain⟨⟨I,G⟩,ab⟩:=h;exact⟨I,by rw[G],dd ab⟩
 |case4 s cs t xs dd =>
  simp only[Bool.and_eq_true]at h;obtain⟨⟨I,G⟩,ab⟩:=h;exact⟨List.isEmpty_iff.1 I,by rw[Ob G],dd ab⟩
 |case5 t cs n m xs dd =>
  simp only[Bool.and_eq_true]at h;obtain⟨⟨I,G⟩,ab⟩:=h;exact⟨by rw[Nat.eq_of_beq_eq_true I,Nat.eq_of_beq_eq_true G],dd ab⟩
 |case6 cs x xs dd =>
  simp only[Bool.and_eq_true]at h;exact⟨h.1,dd h.2⟩
 |case7=>cases h

def HA:C->Value->Bool
 |.E .int n,.int .i64 m=>decide ((n:Int)=m)
 |.E .bool b,.bool c=>b==c
 |.E .str s,.string t=>List.isEmpty s&&List.isEmpty t.data.toList
 |.E (.list _) l,.slice none n m=>List.isEmpty l&&Nat.beq n 0&&Nat.beq m 0
 |_,_=>false

def wo:List C->List Value->Bool
 |[],_=>true
 |c::cs,x::xs=>HA c x&&x.oneCell' && wo cs xs
 |_,_=>false

theorem YW{tab:ci}{c:C}{x:Value}(h:HA c x=true)(w:World)(S:Nat->Prop):dC tab w S c x:=by
 unfold HA at h;split at h
 ·have:(_:Int)=_:=of_decide_eq_true h;rw[<- this];exact .int _
 ·have:=beq_iff_eq.1 h;rw[<- this];exact .bool _
 ·simp only[Bool.and_eq_true]at h;rw[List.isEmpty_iff.1 h.1,Ob h.2];exact .str []
 ·simp only[Bool.and_eq_true]at h;obtain⟨⟨I,G⟩,ab⟩:=h;rw[List.isEmpty_iff.1 I,Nat.eq_of_beq_eq_true G];exact .empty _ _ _
 ·cases h

theorem PD{tab:ci}:∀{cs:List C} {xs:List Value},wo cs xs=true->∀(j:Nat) c,cs[j]? = some c->∃y,xs[j]? = some y/\y.oneCell'=true/\∀w S,dC tab w S c y
 |[],_,_,j,c,az=>by simp at az
 |_::_,[],h,j,c,az=>by simp[wo]at h
 |c::cs,x::xs,h,0,d,bO=>by
  simp only[wo,Bool.and_eq_true]at h;simp at bO;subst bO;exact⟨x,rfl,h.1.2,fun w S=>YW h.1.1 w S⟩
 |c::cs,x::xs,h,j+1,d,bO=>by
  simp only[wo,Bool.and_eq_true]at h;simp at bO |-;exact PD h.2 j d bO

def Fc:Bool->Value->Bool
 |true,.agg _=>true
 |true,_=>false
 |false,.agg _=>false
 |false,_=>true

def Di:TypeDesc->Bool
 |.struct _ | .array _ _=>true
 |_=>false

def ti:List (Nat×Nat)->List Nat->List Nat->Bool
 |[],[],[]=>true
 |(a,b)::r,x::xs,y::ys=>Nat.beq a x&&Nat.beq b y&&ti r xs ys
 |_,_,_=>false

theorem Tj:∀{l:List (Nat×Nat)} {xs ys:List Nat},ti l xs ys=true->l=xs.zip ys/\ys.length=xs.length
 |[],[],[],_=>⟨rfl,rfl⟩
 |(a,b)::r,x::xs,y::ys,h=>by
  simp only[ti,Bool.and_eq_true]at h;obtain⟨⟨I,G⟩,ab⟩:=h;obtain⟨aO,aX⟩:=Tj ab;exact⟨by rw[aO,Nat.eq_of_beq_eq_true I,Nat.eq_of_beq_eq_true G];rfl,by simp[aX]⟩
 |[],[],_::_,h=>by simp[ti]at h
 |[],_::_,_,h=>by simp[ti]at h
 |_::_,[],_,h=>by simp[ti]at h
 |_::_,_::_,[],h=>by simp[ti]at h

def u4:List Nat->List Nat->Bool
 |[],[]=>true
 |a::as,b::ar=>Nat.beq a b&&u4 as ar
 |_,_=>false

theorem JO:∀{l m:List Nat},u4 l m=true->l=m
 |[],[],_=>rfl
 |a::as,b::ar,h=>by
  simp only[u4,Bool.and_eq_true]at h;rw[Nat.eq_of_beq_eq_true h.1,JO h.2]
 |[],_::_,h=>by simp[u4]at h
 |_::_,[],h=>by simp[u4]at h

def RO(P:Program)(aK:c7)(d:TypeDesc):Bool :=
 match aK.hl,d with
 |.int,.int .i64=>true
 |.bool,.bool=>true
 |.str,.string=>true
 |.u64,.int .u64=>true
 |.slice t e,.slice b8=>Nat.beq b8 e&&(match P.info? e with
  |some i=>Nat.beq i.size t.width&&Nat.beq i.bytes aK.bytes&&Nat.ble 1 t.width&&Nat.ble 1 aK.bytes&&(match i.zero with
   |some bg=>Nat.beq bg.cells.size t.width&&bg.cells.toList.all Value.oneCell' && (match t.pY with|true=>wo (t.cells t.H) bg.cells.toList|false=>true)
   |none=>false)
  |none=>false)
 |.struct,.struct c4=>(match c4.toList.mapM (fun f=>(P.info? f.type).map fun i=>(f.offset,i.size))with
  |some l=>ti l aK.kq aK.jt
  |none=>false)&&aK.jt.all (fun n=>Nat.ble 1 n)
 |.array n mN,.array ly e=>Nat.beq ly n&&(match P.info? e,P.underlying e with
  |some i,some d=>Nat.beq i.size mN&&Nat.ble 1 mN&&u4 aK.kq ((List.range n).map (·*mN))&&u4 aK.jt (List.replicate n mN)&&(Di d==Nat.ble 2 mN)
  |_,_=>false)
 |.pW,.map K a5=>(match P.underlying K with|some (.int .i64)=>true|_=>false)&&(match P.info? a5 with|some i=>(match i.zero with|some (.bool b)=>!b|_=>false)|none=>false)
 |.iface,.interface _=>true
 |.other,_=>true
 |_,_=>false

def ME(P:Program)(T:Nat)(aK:c7):Bool :=
 match P.info? T,P.underlying T with
 |some i,some d=>Nat.beq i.size aK.n&&(match i.zero with|some bg=>tM aK.zero bg.cells.toList&&Fc aK.agg bg|none=>false)&&Nat.beq aK.zero.length aK.n&&(Di d==aK.agg)&&RO P aK d
 |_,_=>false

theorem VD{P:Program}{T:Nat}{d:TypeDesc}(h:P.underlying T=some d)(w:World):(isAgg T).run P w=.ok (Di d) w:=by
 cases d<;>simp[isAgg,run_underlying h,Di]

theorem XX{bg:Value}(h:Fc true bg=true):∃cs,bg=.agg cs:=by
 cases bg<;>first|(cases h;done)|exact⟨_,rfl⟩

theorem XW{bg:Value}(h:Fc false bg=true):bg.cells=#[bg]:=by
 cases bg<;>first|(cases h;done)|rfl

theorem ai8{P:Program}{tab:ci}{T:Nat}{aK:c7}(h:ME P T aK=true):Fb P tab T aK:=by
 unfold ME at h;split at h
 ·rename_i i d hi bO;simp only[Bool.and_eq_true]at h;obtain⟨⟨⟨⟨I,G⟩,ab⟩,aV⟩,br⟩:=h;cases dR:i.zero with
  |none=>rw[dR]at G;cases G
  |some bg =>
   rw[dR]at G;simp only[Bool.and_eq_true]at G;refine⟨⟨i,bg,hi,Nat.eq_of_beq_eq_true I,dR,ajD G.1,by
    have bV:=G.2;split
    ·rename_i e;rw[e]at bV;exact XX bV
    ·rename_i e;rw[e]at bV;exact XW bV⟩,Nat.eq_of_beq_eq_true ab,fun w=>by rw[VD bO,beq_iff_eq.1 aV],?_⟩
   unfold RO at br;split at br
   ·rename_i ad;rw[ad];exact bO
   ·rename_i ad;rw[ad];exact bO
   ·rename_i ad;rw[ad];exact bO
   ·rename_i ad;rw[ad];exact bO
   ·rename_i t e b8 ad;rw[ad];simp only[Bool.and_eq_true]at br;obtain⟨a1,bf⟩:=br;split at bf
    ·rename_i s8 IJ;simp only[Bool.and_eq_true]at bf;obtain⟨⟨⟨⟨bK,bX⟩,dh⟩,eW⟩,hX⟩:=bf;split at hX
     ·rename_i ajC ab5;simp only[Bool.and_eq_true]at hX;obtain⟨⟨e8,gU⟩,hm⟩:=hX;refine⟨by rw[bO,Nat.eq_of_beq_eq_true a1],s8,ajC,IJ,Nat.eq_of_beq_eq_true bK,Nat.eq_of_beq_eq_true bX,ab5,Nat.eq_of_beq_eq_true e8,Nat.le_of_ble_eq_true dh,Nat.le_of_ble_eq_true eW,gU,fun aq=>?_⟩;rw[aq]at hm;exact PD hm
     ·cases hX
    ·cases bf
   ·rename_i c4 ad;rw[ad];simp only[Bool.and_eq_true]at br;obtain⟨a1,bf⟩:=br;split at a1
    ·rename_i l ax;obtain⟨aO,aX⟩:=Tj a1;exact⟨c4,bO,by rw[ax,aO],aX,bf⟩
    ·cases a1
   ·rename_i n mN ly e ad;rw[ad];simp only[Bool.and_eq_true]at br;obtain⟨a1,bf⟩:=br;split at bf
    ·rename_i s8 ajZ IJ aal;simp only[Bool.and_eq_true]at bf;obtain⟨⟨⟨⟨bK,bX⟩,dh⟩,eW⟩,hX⟩:=bf;exact⟨e,s8,by rw[bO,Nat.eq_of_beq_eq_true a1],IJ,Nat.eq_of_beq_eq_true bK,by have:=Nat.le_of_ble_eq_true bX;omega,JO dh,JO eW,fun w=>by rw[VD aal,beq_iff_eq.1 hX]⟩
    ·cases bf
   ·rename_i K a5 ad;rw[ad];simp only[Bool.and_eq_true]at br;obtain⟨a1,bf⟩:=br;split at a1<;>try cases a1
    rename_i D;split at bf<;>try cases bf
    rename_i s8 hU;split at bf<;>try cases bf
    rename_i b aA;have pI:b=false:=by simpa using bf
    subst pI;exact⟨K,a5,s8,bO,D,hU,aA⟩
   ·rename_i ad;rw[ad];exact⟨_,bO⟩
   ·rename_i ad;rw[ad];trivial
   ·cases br
 ·cases h

def Es(P:Program):List (Nat×c7)->Bool
 |[]=>true
 |(T,aK)::rest=>match ME P T aK with|true=>Es P rest|false=>false

theorem Xa{P:Program}{tab:ci}:∀{l:List (Nat×c7)},Es P l=true->∀T aK,look l T=some aK->Fb P tab T aK
 |[],_,T,aK,h=>by simp[look]at h
 |(cV,akA)::rest,aA,T,aK,h=>by
  simp only[Es]at aA;split at aA
  ·rename_i I
   by_cases e:T=cV
   ·subst e;simp[look,Nat.beq_refl]at h;subst h;exact ai8 I
   ·simp only[look,hr e]at h;exact Xa aA T aK h
  ·cases aA

def wx(P:Program):Nat->List C->List Field->Bool
 |_,[],[]=>true
 |i, bg :: gN, f :: c4 => Nat.beq f.offset i && !(f.name == "_")&&(match bg with
   |.E .int _=>match P.underlying f.type with|some (.int .i64)=>true|_=>false
   |.E .bool _=>match P.underlying f.type with|some .bool=>true|_=>false
   |_=>false)&&wx P (i+1) gN c4
 |_,_,_=>false
def Cz(P:Program)(tab:ci)(T:Nat):Bool:=match dO tab T,P.underlying T with
 |some aK,some (.struct c4)=>wx P 0 aK.zero c4.toList && !P.stoodInHeld T && !P.eqGuardType P.depth T
 |_,_=>false
def CA(P:Program)(tab:ci):List Nat->Bool
 |[]=>true
 |T::r=>Cz P tab T&&CA P tab r
theorem HO{P:Program}{tab:ci}:∀{l:List Nat} {T:Nat},CA P tab l=true->g6 l T=true->Cz P tab T=true
 |[],_,_,h=>by cases h
 |cV::r,T,aA,h=>by
  simp only[CA,Bool.and_eq_true]at aA;simp only[g6]at h;split at h
  ·rename_i e;rw[<- Nat.eq_of_beq_eq_true e];exact aA.1
  ·exact HO aA.2 h

theorem PQ{n:Int}{c:C}{r:Bool}(h:sE (.E .int n) c=some r):∃m:Int,c=.E .int m/\au n m=r:=by
 cases c with
 |E t d=>cases t<;>first|exact⟨d,rfl,Option.some.inj h⟩|(cases h;done)
 |_=>cases h
theorem PO{n:Bool}{c:C}{r:Bool}(h:sE (.E .bool n) c=some r):∃m:Bool,c=.E .bool m/\jC n m=r:=by
 cases c with
 |E t d=>cases t<;>first|exact⟨d,rfl,Option.some.inj h⟩|(cases h;done)
 |_=>cases h
theorem PT{P:Program}{tab:ci}{d:Nat}{w:World}{S:Nat->Prop}{xs ys:Array Value}:∀(c4:List Field) (gN as ar:List C) (i:Nat) (q r:Bool),wx P i gN c4=true->hJ gN as=some q->hJ as ar=some r ->
  (∀(j:Nat) c,as[j]? = some c->∃y,xs[i+j]? = some y/\dC tab w S c y)->(∀(j:Nat) c,ar[j]? = some c->∃y,ys[i+j]? = some y/\dC tab w S c y) ->
  (Op.eqFields (d+1) xs ys c4).run P w=.ok r w
 |[],gN,as,ar,i,q,r,b1,aI,aw,aG,ct=>by
  cases gN with
  |cons bg gN=>cases b1
  |nil =>
   cases as with
   |cons a as=>cases aI
   |nil =>
    cases ar with
    |cons b ar=>cases aw
    |nil =>
     have:r=true:=by simpa[hJ]using aw.symm
     subst this;rfl
 |f::c4,gN,as,ar,i,q,r,b1,aI,aw,aG,ct=>by
  cases gN with
  |nil=>cases b1
  |cons bg gN =>
   cases as with
   |nil=>cases aI
   |cons a as =>
    cases ar with
    |nil=>cases aw
    |cons b ar =>
     simp only[wx,Bool.and_eq_true]at b1;obtain⟨⟨⟨f1,f2⟩,f3⟩,f4⟩:=b1;simp only[hJ]at aI aw;split at aI<;>try cases aI
     rename_i cJ rT;split at aI<;>try cases aI
     rename_i cE pR;split at aw<;>try cases aw
     rename_i gm zR;split at aw<;>try cases aw
     rename_i hy Db;have dd:=PT (d:=d) c4 gN as ar (i+1) cE hy f4 pR Db (fun j c aR=>by have:=aG (j+1) c (by simpa using aR);rwa[show i+(j+1)=i+1+j by omega]at this) (fun j c aR=>by have:=ct (j+1) c (by simpa using aR);rwa[show i+(j+1)=i+1+j by omega]at this);obtain⟨u,hu,Q6⟩:=aG 0 a rfl;obtain⟨v,aQ,Rm⟩:=ct 0 b rfl;have aY:f.offset=i:=Nat.eq_of_beq_eq_true f1;have aq : f.name ≠ "_" := by simpa using f2
     rw[Nat.add_zero,<- aY]at hu aQ;simp only[Op.eqFields,if_pos aq];have key:∀(e:TypeId) (ag:P.plainKey e=true) (bp:f.type=e) (aI:(Op.equalIn (d+1) e u v).run P w=.ok gm w),(do
       let a <- part f.type xs f.offset
       let b <- part f.type ys f.offset
       let r <- Op.equalIn (d+1) f.type a b
       if (!r)=true then pure false else Op.eqFields (d+1) xs ys c4:Sem Bool).run P w=.ok (gm&&hy) w:=fun e ag bp aI=>by
      subst bp;rw[Sem.run_bind,run_part_plain w ag hu];simp only[Result.andThen_ok];rw[Sem.run_bind,run_part_plain w ag aQ];simp only[Result.andThen_ok];rw[Sem.run_bind,aI];simp only[Result.andThen_ok];cases gm
      ·rfl
      ·simpa using dd
     split at f3
     ·split at f3<;>try cases f3
      rename_i bH;obtain⟨n,rfl,_⟩:=PQ rT;obtain⟨m,rfl,aB⟩:=PQ zR;cases Q6;cases Rm;refine key _ (by unfold Program.plainKey;rw[bH]) rfl ?_;rw[run_equalIn_int w d _ _ _ _ _ bH,<- aB];rfl
     ·split at f3<;>try cases f3
      rename_i bH;obtain⟨n,rfl,_⟩:=PO rT;obtain⟨m,rfl,aB⟩:=PO zR;cases Q6;cases Rm;refine key _ (by unfold Program.plainKey;rw[bH]) rfl ?_;rw[run_equalIn_bool' w d _ _ _ bH,<- aB];rfl
     ·cases f3

theorem P5{P:Program}{w:World}{xs:Array Value}{y:Value}:∀(c4:List Field) (gN as:List C) (i f:Nat) (q:Bool) (c:C),wx P i gN c4=true->hJ gN as=some q->as[f]? = some c->xs[i+f]? = some y ->
  ∃fd,c4[f]? = some fd/\(part fd.type xs fd.offset).run P w=.ok y w
 |[],gN,as,i,f,q,c,b1,aI,az,ct=>by
  cases gN with
  |cons bg gN=>cases b1
  |nil =>
   cases as with
   |cons a as=>cases aI
   |nil=>simp at az
 |fd::c4,gN,as,i,f,q,c,b1,aI,az,ct=>by
  cases gN with
  |nil=>cases b1
  |cons bg gN =>
   cases as with
   |nil=>cases aI
   |cons a as =>
    simp only[wx,Bool.and_eq_true]at b1;obtain⟨⟨⟨f1,f2⟩,f3⟩,f4⟩:=b1;simp only[hJ]at aI;split at aI<;>try cases aI
    rename_i cJ rT;split at aI<;>try cases aI
    rename_i cE pR;cases f with
    |succ f=>exact P5 (w:=w) c4 gN as (i+1) f cE c f4 pR (by simpa using az) (by rwa[show i+(f+1)=i+1+f by omega]at ct)
    |zero =>
     have aY:fd.offset=i:=Nat.eq_of_beq_eq_true f1;rw[Nat.add_zero,<- aY]at ct;refine⟨fd,rfl,run_part_plain w ?_ ct⟩;split at f3
     ·split at f3<;>try cases f3
      rename_i bH;unfold Program.plainKey;rw[bH]
     ·split at f3<;>try cases f3
      rename_i bH;unfold Program.plainKey;rw[bH]
     ·cases f3

theorem ai1{P:Program}{tab:ci}(h:Es P tab.types=true)(bp:CA P tab tab.eqs=true)(cb:tab.w=true->E2 P tab):fp P tab :=
 ⟨cb,fun T aK bH=>Xa h T aK bH,fun T aK aB oQ as xs q f c y w aI az ct=>(by
  have aA:=HO bp aB;unfold Cz at aA;rw[oQ]at aA;split at aA
  ·rename_i ai7 c4 bl av;cases bl;simp only[Bool.and_eq_true,Bool.not_eq_true']at aA;obtain⟨⟨iQ,jY⟩,nD⟩:=aA;obtain⟨fd,bK,bX⟩:=P5 (w:=w) c4.toList aK.zero as 0 f q c iQ aI az (by rw[Nat.zero_add];exact ct);simp only[Instr.field,Sem.run_bind,run_underlying av,Result.andThen_ok];rw[show c4[f]? = some fd by rw[<- Array.getElem?_toList];exact bK];simp only[asAgg,Sem.run_bind,Sem.run_pure,Result.andThen_ok];exact bX
  ·cases aA),
  fun T aK aB oQ as ar xs ys q r w aI aw _ _ aG ct=>by
  have aA:=HO bp aB;unfold Cz at aA;rw[oQ]at aA;split at aA
  ·rename_i ai7 c4 bl av;cases bl;simp only[Bool.and_eq_true,Bool.not_eq_true']at aA;obtain⟨⟨iQ,jY⟩,nD⟩:=aA;have CY:P.fieldsOf T=c4:=by unfold Program.fieldsOf;rw[av]
   refine⟨fun op x y=>run_eqGuard_agg w op T x y xs ys nD,?_⟩;have e:Op.equal T (.agg xs) (.agg ys)=Op.equalIn 10000 T (.agg xs) (.agg ys):=rfl;rw[e,run_equalIn_struct w 9999 T xs ys (by rw[CY];exact av) jY,CY];exact PT (d:=9998) c4.toList aK.zero as ar 0 q r iQ aI aw (fun j c aR=>by rw[Nat.zero_add];exact aG j c aR) (fun j c aR=>by rw[Nat.zero_add];exact ct j c aR)
  ·cases aA⟩
end bE
end Go.Proofs.YtlbppjmekiemiaaGreatDoor


/- The executor on data: a function's contract, for use. No condition. -/
namespace Go.Proofs.YtlbppjmekiemiaaGreatDoor
namespace bE

def bF(fn:Func):Code:=fn.body.getD .skip
def r9(fn:Func):List Nat:=LJ [] fn.results.toList

def cl(Γ:Ctx)(tab:ci)(fn:Func)(k:Nat)(K:V->List bQ->Prop)(m:Nat)(todo:List cw)(st:bP):Prop:=run Γ tab k (r9 fn) (CJ tab fn.results.toList k K) m todo st
def CI(tab:ci)(fn:Func)(k:Nat)(K:V->List bQ->Prop)(st:bP):Prop:=tn (canon k (r9 fn) st) (CK tab fn.results.toList k K)

def h5(Γ:Ctx)(tab:ci)(fn:Func)(k:Nat)(K:V->List bQ->Prop)(m:Nat)(todo:List cw)(st:bP):Prop:=run Γ tab k (r9 fn) (CI tab fn k K) m todo st

def H3(tab:ci)(fn:Func)(k:Nat)(K:V->List bQ->Prop)(st:bP):Prop:=tn (canon k (r9 fn) st) fun st=>CK tab fn.results.toList k K (sL (texts st.mem) st)
def pD(Γ:Ctx)(tab:ci)(fn:Func)(k:Nat)(K:V->List bQ->Prop)(m:Nat)(todo:List cw)(st:bP):Prop:=run Γ tab k (r9 fn) (H3 tab fn k K) m todo st
def ym(Γ:Ctx)(tab:ci)(fn:Func)(k:Nat)(K:V->List bQ->Prop)(rec:List cw->bP->Prop)(todo:List cw)(st:bP):Prop:=ka Γ tab k (r9 fn) rec (H3 tab fn k K) 4000 todo .normal st
def b7(Γ:Ctx)(tab:ci)(fn:Func)(k:Nat)(K:V->List bQ->Prop)(rec:List cw->bP->Prop)(todo:List cw)(st:bP):Prop:=ka Γ tab k (r9 fn) rec (CJ tab fn.results.toList k K) 4000 todo .normal st
def jP(Γ:Ctx)(tab:ci)(fn:Func)(k:Nat)(K:V->List bQ->Prop)(rec:List cw->bP->Prop)(todo:List cw)(st:bP):Prop:=ka Γ tab k (r9 fn) rec (CI tab fn k K) 4000 todo .normal st

section
variable {P:Program} {tab:ci} {Γ:Ctx} {fn:Func} {k:Nat} {K:V->List bQ->Prop} {m:Nat}

theorem eO{st:bP}{c:Code}:cl Γ tab fn k K (m+1) [.code c] st=b7 Γ tab fn k K (cl Γ tab fn k K m) [.code c] st:=rfl
theorem qF{st:bP}{c:Code}:h5 Γ tab fn k K (m+1) [.code c] st=jP Γ tab fn k K (h5 Γ tab fn k K m) [.code c] st:=rfl
theorem ZN{st:bP}{c:Code}:pD Γ tab fn k K (m+1) [.code c] st=ym Γ tab fn k K (pD Γ tab fn k K m) [.code c] st:=rfl
def cQ:List cw->List cw
 |.inLoop keys b::t=>.code b::.inLoop keys b::t
 |t=>t
theorem bW{L:List cw}{st:bP}:cl Γ tab fn k K (m+1) L st=b7 Γ tab fn k K (cl Γ tab fn k K m) (cQ L) st:=by
 cases L with
 |nil=>rfl
 |cons a t=>cases a<;>rfl
theorem kh{L:List cw}{st:bP}:h5 Γ tab fn k K (m+1) L st=jP Γ tab fn k K (h5 Γ tab fn k K m) (cQ L) st:=by
 cases L with
 |nil=>rfl
 |cons a t=>cases a<;>rfl

theorem wG{L:List cw}{st:bP}:pD Γ tab fn k K (m+1) L st=ym Γ tab fn k K (pD Γ tab fn k K m) (cQ L) st:=by
 cases L with
 |nil=>rfl
 |cons a t=>cases a<;>rfl

def qy(fn:Func):Bool:=match fn.body with
 |some c => lh fn.ntmps c && !(fn.name == "runtime.NumGoroutine")
 |none=>false

structure fz(P:Program)(tab:ci)(Γ:Ctx):Prop where
 table:fp P tab
 sound:Sound P tab Γ
 mixed:P.follows .mixedOrders=true

theorem Qd(h : qy fn = true) : ∃c, fn.body = some c /\ bF fn = c /\ lh fn.ntmps c = true /\ (fn.name == "runtime.NumGoroutine") = false := by
 unfold qy at h;split at h
 ·rename_i c az;simp only[Bool.and_eq_true,Bool.not_eq_true']at h;exact⟨c,az,by simp[bF,az],h.1,h.2⟩
 ·cases h

def E7(Γ:Ctx)(tab:ci)(fn:Func)(C:bd):Prop :=
 ∀vs ar p v dB,C vs ar=some (p,v,dB)->under p True->Nat.ble vs.length fn.ntmps=true/\r2 vs=true /\
  ((∃m,cl Γ tab fn ar.length (fun eT kW=>eT=v/\kW=dB) m [.code (bF fn)] (df vs ar))\/(∃m,h5 Γ tab fn ar.length (fun eT kW=>eT=v/\kW=dB) m [.code (bF fn)] (df vs ar))\/(∃m,h5 Γ tab fn ar.length (fun eT kW=>eT=v/\kW=dB) m [.code (bF fn)] (qQ vs ar))\/∃m,pD Γ tab fn ar.length (fun eT kW=>eT=v/\kW=dB) m [.code (bF fn)] (df vs ar))

theorem V9{f:Nat}{C:bd}(hS:fz P tab Γ)(b1:P.funcs[f]? = some fn)(bt:qy fn=true)(ev:E7 Γ tab fn C):jf P tab f C:=by
 obtain⟨c,aA,aad,nR,_⟩:=Qd bt;intro vs ar p v dB h ag w S O xs aD aG;obtain⟨I,G,ab⟩:=ev vs ar p v dB h ag;have gY:yQ P tab Γ fn.ntmps O (cA ar) w S:=afS hS.table hS.sound hS.mixed;rw[aad]at ab;have key:∀(fin:bP->Prop) (m:Nat) (nt:bP),(∀a w',Good tab fn.ntmps O (cA ar) w S (df vs ar) a w'->Good tab fn.ntmps O (cA ar) w S nt a w')->(∀st a ku,Good tab fn.ntmps O (cA ar) w S st a ku->fin st->∃eT kW,(eT=v/\kW=dB)/\Ends P tab fn O ar w S eT kW a ku) ->
   run Γ tab ar.length (r9 fn) fin m [.code c] nt->Calls P f xs.toArray w fun e w'=>∃x bU S',e=.returned x/\Ext O (cA ar) w S bU (cA dB) w' S'/\Inv tab bU (cA dB) w' S'/\ch tab bU (cA dB) w' S' v x:=fun fin m nt fJ jG gR =>
  (ZB fJ gY b1 aA nR (Nat.le_of_ble_eq_true I) G jG gR aD aG).mono fun e w' ⟨eT,kW,⟨aO,aX⟩,x,bU,S',q⟩=>by subst aO aX;exact⟨x,bU,S',q⟩
 have zz:∀st a ku,Good tab fn.ntmps O (cA ar) w S st a ku->CI tab fn ar.length (fun eT kW=>eT=v/\kW=dB) st->∃eT kW,(eT=v/\kW=dB)/\Ends P tab fn O ar w S eT kW a ku:=fun st a ku cP aI=>by
  unfold CI tn at aI;split at aI
  ·rename_i da az;exact P8 hS.table aI (Hm rfl az cP)
  ·exact aI.elim
 rcases ab with⟨m,ab⟩|⟨m,ab⟩|⟨m,ab⟩|⟨m,ab⟩
 ·exact key _ m _ (fun _ _ cP=>cP) (fun st a ku cP aI=>Zz hS.table aI cP) ab
 ·exact key _ m _ (fun _ _ cP=>cP) zz ab
 ·exact key _ m _ (fun _ _ cP=>Qi _ cP) zz ab
 ·refine key _ m _ (fun _ _ cP=>cP) (fun st a ku cP aI=>?_) ab;unfold H3 tn at aI;split at aI
  ·rename_i da az;obtain⟨bU,S',je,q8,iz⟩:=Hm rfl az cP;obtain⟨mR,rb,so,dL,aA⟩:=Ig (texts da.mem) je q8;exact P8 hS.table aI ⟨bU,mR,rb,by rw[aA];exact so,iz.trans dL⟩
  ·exact aI.elim

theorem fz.nil(bH:fp P tab)(aB:P.follows .mixedOrders=true):fz P tab []:=⟨bH,fun g b5 bs=>by simp[look]at bs,aB⟩

theorem fz.Hw{f:Nat}{C:bd}(hS:fz P tab Γ)(b1:P.funcs[f]? = some fn)(bt:qy fn=true)(ev:jf P tab f C):fz P tab ((f,C)::Γ):=by
 refine⟨hS.table,fun g b5 bs=>?_,hS.mixed⟩
 by_cases e:g=f
 ·subst e;simp[look,Nat.beq_refl]at bs;subst bs;obtain⟨c,aA,_,_,aq⟩:=Qd bt;exact⟨ev,fn,b1,by simp[aA],aq⟩
 ·simp only[look,hr e]at bs;exact hS.sound g b5 bs

structure Bw(P:Program)(f:Nat)(fn:Func):Prop where
 b1:P.funcs[f]? = some fn
 bt:qy fn=true
theorem agR{f:Nat}{C:bd}(hS:fz P tab Γ)(h:Bw P f fn)(ev:E7 Γ tab fn C):jf P tab f C:=V9 hS h.b1 h.bt ev
theorem fz.c{f:Nat}{C:bd}(hS:fz P tab Γ)(h:Bw P f fn)(ev:jf P tab f C):fz P tab ((f,C)::Γ):=hS.Hw h.b1 h.bt ev

noncomputable def Fi(v2:List V)(yK:List bQ)(p:Option Prop)(v:V)(D0:List bQ):bd:=fun vs ar=>@ite _ (vs=v2/\ar=yK) (Classical.propDecidable _) (some (p,v,D0)) none
theorem agQ{f:Nat}{v2:List V}{yK:List bQ}{p:Option Prop}{v:V}{D0:List bQ}(hS:fz P tab Γ)(h:Bw P f fn)(I:Nat.ble v2.length fn.ntmps=true)(G:r2 v2=true)
  (ab:under p True->∃m,cl Γ tab fn yK.length (fun eT kW=>eT=v/\kW=D0) m [.code (bF fn)] (df v2 yK)):jf P tab f (Fi v2 yK p v D0):=agR hS h fun vs ar akw eT dB e ag=>by
 unfold Fi at e;split at e
 ·rename_i q;obtain⟨rfl,rfl⟩:=q;cases e;exact⟨I,G,.inl (ab ag)⟩
 ·cases e
end
theorem agS{P:Program}{tab:ci}{f:Nat}:jf P tab f Td:=fun vs _ _ _ _ h ag=>by
 cases vs with
 |nil=>cases h;exact ag.1.elim
 |cons _ _=>cases h
def DG(C b5:bd):bd:=fun vs ar=>match C vs ar with
 |some x=>some x
 |none=>b5 vs ar
theorem agT{P:Program}{tab:ci}{f:Nat}{C b5:bd}(I:jf P tab f C)(G:jf P tab f b5):jf P tab f (DG C b5):=by
 intro vs ar p v dB h ag;unfold DG at h;split at h
 ·rename_i x aG;cases h;exact I vs ar p v dB aG ag
 ·exact G vs ar p v dB h ag
def V.yC:V->V
 |.an (.one (.E (.list _) _)::rest)=>.an (.one .any::rest)
 |v=>v
theorem afV{tab:ci}{O:dk}{mem:dS}{w:World}{S:Nat->Prop}{v:V}{x:Value}(h:ch tab O mem w S v x):ch tab O mem w S v.yC x:=by
 unfold V.yC;split
 ·obtain⟨xs,e,av,h⟩:=h;refine⟨xs,e,by simpa using av,fun i v hi=>?_⟩;cases i with
  |zero =>
   obtain⟨y,I,G⟩:=h 0 _ rfl;simp at hi;subst hi;exact⟨y,I,G.1,trivial⟩
  |succ i=>exact h (i+1) v (by simpa using hi)
 ·exact h
def A8(C:bd):bd:=fun vs ar=>match C vs ar with
 |some (p,v,dB)=>some (p,v.yC,dB)
 |none=>none
theorem agV{P:Program}{tab:ci}{f:Nat}{C:bd}(h:jf P tab f C):jf P tab f (A8 C):=by
 intro vs ar p v dB e ag;unfold A8 at e;split at e
 ·rename_i vc v0 hG aG;cases e;intro w S O xs aD zZ;exact(h vs ar _ _ _ aG ag w S O xs aD zZ).mono fun e w' ⟨x,bU,S',I,G,ab,aV⟩=>⟨x,bU,S',I,G,ab,afV aV⟩
 ·cases e
def MO(C:bd):bd:=fun vs ar=>match ar with
 |[_]=>(match C vs ar with
  |some (p,.one (.view 0 0 n),[.arr t l])=>some (some (both p (n<=len l)),.one (.own 1),[.dead,.arr t (a2 l 0 n)])
  |_=>none)
 |_=>none
theorem agU{P:Program}{tab:ci}{f:Nat}{C:bd}(h:jf P tab f C):jf P tab f (MO C):=by
 intro vs ar p v dB e ag;unfold MO at e;split at e
 ·rename_i he;split at e
  ·rename_i vc n t l aG;cases e;obtain⟨aa9,aq⟩:under vc True/\n<=l.length:=by
    cases vc with
    |none=>exact⟨trivial,ag.1⟩
    |some q=>exact⟨⟨ag.1.1,trivial⟩,ag.1.2⟩
   intro w S O xs aD qN;refine(h vs _ _ _ _ aG aa9 w S O xs aD qN).mono fun e w' ⟨x,bU,S',I,G,ab,aV⟩=>?_
   have zP:cA [bQ.arr t l] 0=some (.arr t l):=rfl;have rP:cA [bQ.arr t l] 1=none:=rfl;obtain⟨uN,_,aQ⟩:=aV;obtain⟨y,dj,a0,m0,iS,ei,jg,bK,bX,dh,eW,hX,jr,lv⟩:=aQ t l zP;obtain⟨l',aO,dN⟩:=ab.rel 0 _ zP trivial;rw[dj]at aO;cases aO;have bh:=dh rfl;subst bh;have C2:cO [(0,.dead),(1,bQ.arr t (a2 l 0 n))] (cA [bQ.arr t l])=cA [.dead,.arr t (a2 l 0 n)]:=by
    funext q
    match q with
    |0=>rw[fx,fm];rfl
    |1=>rw[fx,eg (by decide),fm];rfl
    |q+2=>rw[fx,eg (by omega),eg (by omega)];rfl
   have sV:(Loc.eu x).block=(Loc.eu y).block:=by
    rcases dN with⟨eB,dY⟩|⟨b,cap,cur,b8,eB,_⟩
    ·rw[eB]at bK;cases bK;rw[bX,eB];rfl
    ·rw[eB]at bK;cases bK;rw[bX,eB];rfl
   obtain⟨a5,qI⟩:=DI (B':=.arr t (a2 l 0 n)) (l':=.eu x) (w':=w') zP trivial rP dj sV rfl (fun _ _=>rfl) rfl rfl rfl ab;rw[C2]at a5 qI;have hlen:(a2 l 0 n).length=n:=by rw[se l 0 n aq];omega
   refine⟨x,_,S',I,G.trans a5,qI ?_,uN,(fun h=>by cases h),fun _ _ _=>hn⟩;rcases dN with⟨eB,dY⟩|⟨b,cap,cur,b8,eB,hbk,cj,eR,gf,gX⟩
   ·subst dY;rw[eB]at bK;cases bK;have pO:n=0:=by simpa using aq
    subst pO;have az:jg=0:=by omega
    subst az;exact .inl ⟨bX,rfl⟩
   ·rw[eB]at bK;cases bK;refine .inr ⟨b,jg,cur,b8,by rw[hlen];exact bX,hbk,by rw[hlen];omega,by omega,Nat.le_trans (Nat.mul_le_mul_right _ (by omega)) gf,fun i j c hi az=>?_⟩;rw[hlen]at hi;rw[Ef l 0 n i t.H (by omega),Nat.zero_add]at az;obtain⟨bg,MV,MW,z3⟩:=gX i j c (by omega) az;exact⟨bg,MV,MW,z3⟩
  ·cases e
 ·cases e
end bE
end Go.Proofs.YtlbppjmekiemiaaGreatDoor


/- The executor on data: what a claim's form reads is the executor's data. No condition. -/
namespace Go.Proofs.YtlbppjmekiemiaaGreatDoor
namespace bE

def z.lay:z->List z
 |.signed=>[.int,.int]
 |.target=>[.int,.int,.int]
 |.root=>[.int,.list .int,.int]
 |.message=>[.int,.int,.int,.int,.int,.list .int,.bool]
 |.aT=>[.list .int,.int,.bool,.int,.int]
 |.aU=>[.int,.int,.int,.list .target,.list (.list .int)]
 |.fc=>[.int,.int,.int,.list .root,.list (.list .int),.int,.int,.list .target,.list .int,.list (.list .int)]
 |.offer=>[.list .root,.list (.list .int),.int,.int,.list .target,.list .int,.list (.list .int)]
 |.change=>[.int,.kC]
 |.sH=>[.list .int,.int]
 |t=>[t]

def z.bytes:z->Nat
 |.int=>8
 |.bool=>1
 |.str=>16
 |.kC=>8
 |.u64=>8
 |.err=>16
 |.list _=>24
 |.signed=>16
 |.target=>24
 |.root=>40
 |.message=>72
 |.aT=>56
 |.aU=>72
 |.fc=>160
 |.offer=>136
 |.change=>16
 |.sH=>32

def E4(n:Int):Prop:=-9223372036854775808<=n/\n<=9223372036854775807

inductive ij:C->Prop
 |int (n:Int) (h:E4 n):ij (.E .int n)
 |bool (b:Bool):ij (.E .bool b)
 |str (s:List UInt8) (h:s.length<=140737488351232):ij (.E .str s)
 |list (t:z) (l:List t.den) (h:l.length*t.bytes<=140737488351232) (bp:∀(i j:Nat) (c:C),i<l.length->(t.cells (nth l i t.H))[j]? = some c->ij c):ij (.E (.list t) l)

def lf:List z->List C->Prop
 |[],[]=>True
 |t::ts,c::cs=>(∃d:t.den,c=.E t d)/\lf ts cs
 |_,_=>False

set_option maxHeartbeats 1000000 in
theorem Yz:∀(t:z) (cs:List C),lf t.lay cs->∃d:t.den,t.cells d=cs:=by
 intro t cs h;cases t
 case signed =>
  match cs,h with
  |[_,_],⟨⟨a,rfl⟩,⟨b,rfl⟩,_⟩=>exact⟨⟨a,b⟩,rfl⟩
 case target =>
  match cs,h with
  |[_,_,_],⟨⟨a,rfl⟩,⟨b,rfl⟩,⟨c,rfl⟩,_⟩=>exact⟨⟨a,b,c⟩,rfl⟩
 case root =>
  match cs,h with
  |[_,_,_],⟨⟨a,rfl⟩,⟨b,rfl⟩,⟨c,rfl⟩,_⟩=>exact⟨⟨a,b,c⟩,rfl⟩
 case message =>
  match cs,h with
  |[_,_,_,_,_,_,_],⟨⟨a,rfl⟩,⟨b,rfl⟩,⟨c,rfl⟩,⟨d,rfl⟩,⟨e,rfl⟩,⟨f,rfl⟩,⟨g,rfl⟩,_⟩=>exact⟨⟨a,b,c,d,e,f,g⟩,rfl⟩
 case aT =>
  match cs,h with
  |[_,_,_,_,_],⟨⟨a,rfl⟩,⟨b,rfl⟩,⟨c,rfl⟩,⟨d,rfl⟩,⟨e,rfl⟩,_⟩=>exact⟨⟨⟨a,b⟩,c,d,e⟩,rfl⟩
 case aU =>
  match cs,h with
  |[_,_,_,_,_],⟨⟨a,rfl⟩,⟨b,rfl⟩,⟨c,rfl⟩,⟨d,rfl⟩,⟨e,rfl⟩,_⟩=>exact⟨⟨a,⟨b,c,d⟩,e⟩,rfl⟩
 case fc =>
  match cs,h with
  |[_,_,_,_,_,_,_,_,_,_],⟨⟨a,rfl⟩,⟨b,rfl⟩,⟨c,rfl⟩,⟨d,rfl⟩,⟨e,rfl⟩,⟨f,rfl⟩,⟨g,rfl⟩,⟨i,rfl⟩,⟨j,rfl⟩,⟨k,rfl⟩,_⟩=>exact⟨⟨a,b,c,⟨d,e,⟨f,g,i⟩,j,k⟩⟩,rfl⟩
 case offer =>
  match cs,h with
  |[_,_,_,_,_,_,_],⟨⟨a,rfl⟩,⟨b,rfl⟩,⟨c,rfl⟩,⟨d,rfl⟩,⟨e,rfl⟩,⟨f,rfl⟩,⟨g,rfl⟩,_⟩=>exact⟨⟨a,b,⟨c,d,e⟩,f,g⟩,rfl⟩
 case change =>
  match cs,h with
  |[_,_],⟨⟨a,rfl⟩,⟨b,rfl⟩,_⟩=>exact⟨⟨a,b⟩,rfl⟩
 case sH =>
  match cs,h with
  |[_,_],⟨⟨a,rfl⟩,⟨b,rfl⟩,_⟩=>exact⟨⟨a,b⟩,rfl⟩
 all_goals
  match cs,h with
  |[_],⟨⟨a,rfl⟩,_⟩=>exact⟨a,rfl⟩

theorem acu(t:z):t.lay.length=t.width:=by cases t<;>rfl

def zq(P:Program)(g:List z->Nat->Bool):List z->Nat->List Field->Bool
 |L,_,[]=>L.isEmpty
 |L,o,f::c4=>Nat.beq f.offset o&&Nat.ble (P.cellsOf f.type) L.length&&g (L.take (P.cellsOf f.type)) f.type&&zq P g (L.drop (P.cellsOf f.type)) (o+P.cellsOf f.type) c4

def rA(P:Program):Nat->List z->Nat->Bool
 |0,_,_=>false
 |m+1,L,t=>match P.underlying t with
  |some (.int .i64)=>match L with | [.int]=>true|_=>false
  |some .bool=>match L with | [.bool]=>true|_=>false
  |some .string=>match L with | [.str]=>true|_=>false
  |some (.slice e)=>match L with
   |[.list u]=>rA P m u.lay e&&Nat.beq (P.cellsOf e) u.width&&Nat.beq (P.bytesOf e) u.bytes&&Nat.ble 1 u.width
   |_=>false
  |some (.struct c4)=>Nat.beq (P.cellsOf t) L.length&&zq P (rA P m) L 0 c4.toList
  |_=>false

theorem VZ:∀{L gx:List z} {cs ds:List C},lf L cs->lf gx ds->lf (L++gx) (cs++ds)
 |[],_,[],_,_,h=>h
 |_t::_L,_,_c::_cs,_,h,er=>⟨h.1,VZ h.2 er⟩
 |[],_,_::_,_,h,_=>h.elim
 |_::_,_,[],_,h,_=>h.elim

theorem Ee:∀{L:List z} {cs:List C},lf L cs->cs.length=L.length
 |[],[],_=>rfl
 |_::L,_::cs,h=>by simp[Ee h.2]
 |[],_::_,h=>h.elim
 |_::_,[],h=>h.elim

section
variable {aP:Type} {enc:TypeId×Value->aP} {P:Program} {tab:ci} {w:World} {kQ:Nat->Bool} {held:Bool}

def qf(tab:ci)(w:World)(ds:List C)(cs:List Value):Prop :=
 ∀(j:Nat) c,ds[j]? = some c->∃y,cs[j]? = some y/\y.oneCell'=true/\dC tab w (fun b=>b<w.heap.size) c y/\ij c

theorem Yx{ds es:List C}{cs xs:List Value}(h:qf tab w ds cs)(er:qf tab w es xs)(ax:ds.length=cs.length):qf tab w (ds++es) (cs++xs):=by
 intro j c az
 by_cases aR:j<ds.length
 ·rw[List.getElem?_append_left aR]at az;obtain⟨y,I,G⟩:=h j c az;exact⟨y,by rw[List.getElem?_append_left (by omega)];exact I,G⟩
 ·rw[List.getElem?_append_right (by omega)]at az;obtain⟨y,I,G⟩:=er _ c az;exact⟨y,by rw[List.getElem?_append_right (by omega),<- ax];exact I,G⟩

theorem Xw:∀{e:TypeId} {l:List (DataW aP)} {i:Nat} {d:DataW aP},l[i]? = some d->∀n∈d.weights P e,n∈DataW.weightsAll P e l
 |e,[],i,d,h,_,_=>by simp at h
 |e,x::l,0,d,h,n,aq=>by simp at h;subst h;simp[DataW.weightsAll,aq]
 |e,x::l,i+1,d,h,n,aq=>by simp at h;simp[DataW.weightsAll,Xw h n aq]

theorem Qc{m n:Nat}(dd:∀(L:List z) (t:Nat) (cs:List Value) (x:DataW aP×List MemPlace),rA P m L t=true->DataW.trod enc P w 0 kQ held n t cs=some x->(∀k∈x.1.weights P t,k<=reachBytes) ->
   ∃ds,lf L ds/\cs.length=ds.length/\qf tab w ds cs):∀(c4:List Field) (L:List z) (o:Nat) (cs:List Value) (xs:List (DataW aP×List MemPlace)),zq P (rA P m) L o c4=true->cs.length=o+L.length->xs.length=c4.length ->
   (∀(i:Nat) (f:Field),c4[i]? = some f->DataW.trod enc P w 0 kQ held n f.type ((cs.drop f.offset).take (P.cellsOf f.type))=xs[i]?)->(∀k∈DataW.weightsEach P (c4.map (·.type)) (xs.map (·.1)),k<=reachBytes) ->
   ∃ds,lf L ds/\(cs.drop o).length=ds.length/\qf tab w ds (cs.drop o)
 |[],L,o,cs,xs,b1,ax,aG,_,_=>by
  simp only[zq,List.isEmpty_iff]at b1;subst b1;exact⟨[],trivial,by simp at ax |-; omega,fun j c az=>by simp at az⟩
 |f::c4,L,o,cs,[],b1,ax,aG,_,_=>by simp at aG
 |f::c4,L,o,cs,x::xs,b1,ax,aG,bO,cb=>by
  simp only[zq,Bool.and_eq_true]at b1;obtain⟨⟨⟨f1,f2⟩,f3⟩,f4⟩:=b1;have aO:=Nat.eq_of_beq_eq_true f1;have aX:=Nat.le_of_ble_eq_true f2;have a6:=bO 0 f rfl;simp only[List.getElem?_cons_zero]at a6;rw[aO]at a6;obtain⟨ds,a1,bf,cj⟩:=dd _ _ _ _ f3 a6 (fun k ad=>cb k (by simp[DataW.weightsEach,ad]));obtain⟨es,bK,bX,dh⟩:=Qc dd c4 (L.drop (P.cellsOf f.type)) (o+P.cellsOf f.type) cs xs f4 (by simp;omega) (by simpa using aG) (fun i g bs=>by have:=bO (i+1) g (by simpa using bs);simpa using this)
   (fun k ad=>cb k (by simp[DataW.weightsEach,ad]))
  refine⟨ds++es,by have:=VZ a1 bK;rwa[List.take_append_drop]at this,?_,?_⟩
  ·have ei:=Ee a1;have eU:=Ee bK;simp at ei eU |-; omega
  ·have:=Yx cj dh (by rw[bf]);rwa[<- List.drop_drop,List.take_append_drop]at this

theorem LD:∀(n m:Nat) (L:List z) (t:Nat) (cs:List Value) (x:DataW aP×List MemPlace),rA P m L t=true->DataW.trod enc P w 0 kQ held n t cs=some x->(∀k∈x.1.weights P t,k<=reachBytes) ->
  ∃ds,lf L ds/\cs.length=ds.length/\qf tab w ds cs
 |0,m,L,t,cs,x,b1,h,cb=>by simp[DataW.trod]at h
 |n+1,0,L,t,cs,x,b1,h,cb=>by simp[rA]at b1
 |n+1,m+1,L,t,cs,x,b1,h,cb=>by
  have one:∀(kb:z) (d:kb.den) (v:Value),L=[kb]->cs=[v]->v.oneCell'=true->dC tab w (fun b=>b<w.heap.size) (.E kb d) v->ij (.E kb d)->∃ds,lf L ds/\cs.length=ds.length/\qf tab w ds cs:=fun kb d v sP el I G ab=>by
   subst sP el;refine⟨[.E kb d],⟨⟨d,rfl⟩,trivial⟩,rfl,fun j c az=>?_⟩;cases j with
   |zero=>simp at az;subst az;exact⟨v,rfl,I,G,ab⟩
   |succ j=>simp at az
  unfold rA at b1;split at b1
  ·rename_i hu;split at b1
   ·obtain⟨k,rfl,rfl,Ro⟩:=DataW.trod_int hu h;refine one .int k _ rfl rfl rfl (.int k) (.int k ?_);simp only[Lit.wf,Bool.and_eq_true,decide_eq_true_eq,IntKind.min,IntKind.max,IntKind.signed,IntKind.bits]at Ro;simp at Ro;exact⟨by omega,by omega⟩
   ·cases b1
  ·rename_i hu;split at b1
   ·obtain⟨b,rfl,rfl⟩:=DataW.trod_bool hu h;exact one .bool b _ rfl rfl rfl (.bool b) (.bool b)
   ·cases b1
  ·rename_i hu;split at b1
   ·obtain⟨s,rfl,rfl,av⟩:=DataW.trod_string hu h;refine one .str s.data.toList _ rfl rfl rfl ?_ (.str _ ?_)
    ·have:dC tab w (fun b=>b<w.heap.size) (.E .str s.data.toList) (.string ⟨s.data.toList.toArray⟩):=.str _;simpa using this
    ·have:=cb s.data.toList.length (by simp[DataW.weights]);unfold reachBytes at this;exact this
   ·cases b1
  ·rename_i e hu;split at b1
   ·rename_i u;simp only[Bool.and_eq_true]at b1;obtain⟨⟨⟨f1,f2⟩,f3⟩,f4⟩:=b1;have aX:=Nat.eq_of_beq_eq_true f2;have cY:=Nat.eq_of_beq_eq_true f3;have lQ:=Nat.le_of_ble_eq_true f4;rcases DataW.trod_slice hu h with⟨rfl,rfl⟩|⟨a,len,cap,elems,rest,ly,aq,rfl,rfl,_,C0,_,IC,nP,_,_⟩
    ·exact one (.list u) [] _ rfl rfl rfl (.empty u none 0) (.list u [] (by simp) (fun i j c hi=>by simp at hi))
    ·have m6:ly=n:=by omega
     subst m6;have Rp:len*u.bytes<=reachBytes:=by
      have:=cb ((elems.length+rest.length)*P.bytesOf e) (by simp[DataW.weights,hu]);rw[IC,cY]at this;exact Nat.le_trans (Nat.mul_le_mul_right _ (Nat.le_add_right _ _)) this
     by_cases dR:len=0
     ·subst dR;exact one (.list u) [] _ rfl rfl rfl (.empty u (some a) cap) (.list u [] (by simp) (fun i j c hi=>by simp at hi))
     ·-- each element
      have each:∀i,i<len->∃(d:u.den),∃eK,w.cells? 0 (a.add (i*u.width)) u.width=some eK/\qf tab w (u.cells d) eK/\(u.cells d).length=u.width:=fun i hi=>by
       have I:=nP i hi;rw[aX]at I;cases az:w.cells? 0 (a.add (i*u.width)) u.width with
       |none=>rw[az]at I;simp at I;omega
       |some eK =>
        rw[az]at I;simp only[Option.bind_some]at I;have QM:i<elems.length:=by omega
        rw[List.getElem?_eq_getElem QM]at I;obtain⟨ds,bK,bX,dh⟩:=LD ly m _ _ _ _ f1 I (fun k ad=>cb k (by
         simp only[DataW.weights,hu,List.mem_cons,List.mem_append];exact .inr (.inl (Xw (i:=i) (by simp[QM]) k ad))))
        obtain⟨d,bO⟩:=Yz u ds bK;subst bO;exact⟨d,eK,rfl,dh,by rw[Ee bK,acu]⟩
      have Dc:a.spot=none:=by
       obtain⟨d,eK,az,_,_⟩:=each 0 (by omega);obtain⟨_,_,ab⟩:=World.cells?_some az;have aV:=ab 0 (by omega);simp only[Nat.zero_mul,Addr.add,if_true]at aV;have hlen:0<eK.length:=by
        obtain⟨_,br,_⟩:=World.cells?_some az;omega
       rw[List.getElem?_eq_getElem hlen]at aV;unfold World.cell? at aV;cases av:a.spot with
       |none=>rfl
       |some q =>
        rw[av]at aV;split at aV<;>simp at aV
      have sV:a.block<w.heap.size:=by
       obtain⟨d,eK,az,_,_⟩:=each 0 (by omega);have:=World.cells?_block az (by omega);simpa[Addr.add]using this
      have Z4:∀k,a.add k=b6 a.block (a.off+k):=fun k=>by
       unfold Addr.add b6;split
       ·rename_i ad;subst ad;cases a;simp at Dc |-; exact Dc
       ·rfl
      obtain⟨f,uF⟩:∃f:Nat->u.den,∀i,i<len->∃eK,w.cells? 0 (a.add (i*u.width)) u.width=some eK/\qf tab w (u.cells (f i)) eK/\(u.cells (f i)).length=u.width :=
       ⟨fun i=>if hi:i<len then Classical.choose (each i hi)else u.H,fun i hi=>by
        simp only[hi,dif_pos];exact Classical.choose_spec (each i hi)⟩
      have Iw:∀i j,i<len->j<u.width->∃y,w.cell? (b6 a.block (a.off+i*u.width+j))=some y/\∀c,(u.cells (f i))[j]? = some c->y.oneCell'=true/\dC tab w (fun b=>b<w.heap.size) c y/\ij c:=fun i j hi aR=>by
       obtain⟨eK,I,G,ab⟩:=uF i hi;obtain⟨_,aV,br⟩:=World.cells?_some I;have bV:=br j aR;rw[Z4]at bV;have Z3:(b6 a.block (a.off+i*u.width)).add j=b6 a.block (a.off+i*u.width+j):=by
        unfold Addr.add b6;split
        ·rename_i ad;subst ad;rfl
        ·rfl
       rw[Z3,List.getElem?_eq_getElem (by omega)]at bV;refine⟨_,bV,fun c az=>?_⟩;obtain⟨y,cC,cI,dA,Bd⟩:=G j c az;rw[List.getElem?_eq_getElem (by omega)]at cC;cases cC;exact⟨cI,dA,Bd⟩
      have ax:((List.range len).map f).length=len:=by simp
      have QZ:∀i,i<len->nth ((List.range len).map f) i u.H=f i:=fun i hi=>by
       simp[nth,List.getD_eq_getElem?_getD,hi]
      refine one (.list u) ((List.range len).map f) _ rfl rfl rfl ?_ ?_
      ·have I6:dC tab w (fun b=>b<w.heap.size) (.E (.list u) ((List.range len).map f)) (.slice (some (b6 a.block a.off)) ((List.range len).map f).length cap):=by
        refine .list u _ a.block a.off cap (fun i j=>(w.cell? (b6 a.block (a.off+i*u.width+j))).getD Go.undef) sV (by rw[ax];exact C0) (fun i j hi aR=>?_) (fun i j c hi az=>?_)
        ·rw[ax]at hi;obtain⟨y,I,_⟩:=Iw i j hi aR;rw[I];rfl
        ·rw[ax]at hi;rw[QZ i hi]at az;have aR:j<u.width:=by
          obtain⟨_,_,_,ab⟩:=uF i hi;have:=(List.getElem?_eq_some_iff.1 az).1;omega
         obtain⟨y,I,G⟩:=Iw i j hi aR;rw[I];exact(G c az).2.1
       rw[ax]at I6;have:b6 a.block a.off=a:=by cases a;simp[b6]at Dc |-; exact Dc.symm
       rwa[this]at I6
      ·refine .list u _ (by rw[ax];unfold reachBytes at Rp;exact Rp) (fun i j c hi az=>?_);rw[ax]at hi;rw[QZ i hi]at az;have aR:j<u.width:=by
        obtain⟨_,_,_,ab⟩:=uF i hi;have:=(List.getElem?_eq_some_iff.1 az).1;omega
       obtain⟨y,I,G⟩:=Iw i j hi aR;exact(G c az).2.2
   ·cases b1
  ·rename_i c4 hu;obtain⟨xs,ly,aq,rfl,hlen,abY,kF⟩:=DataW.trod_struct hu h;have m6:ly=n:=by omega
   subst m6;simp only[Bool.and_eq_true]at b1;obtain⟨az,b1⟩:=b1;have aaX:cs.length=0+L.length:=by
    rw[hlen,Nat.eq_of_beq_eq_true az];omega
   obtain⟨ds,bK,bX,dh⟩:=Qc (fun L t cs x=>LD ly m L t cs x) c4.toList L 0 cs xs b1 aaX (by simpa using abY) (fun i f hi=>kF i f (by simpa using hi)) (fun k ad=>cb k (by simpa[DataW.weights,hu]using ad));exact⟨ds,bK,by simpa using bX,by simpa using dh⟩
  ·cases b1
end
end bE
end Go.Proofs.YtlbppjmekiemiaaGreatDoor


/- The executor on data: from a law's contract to what its row asks. No condition. -/
namespace Go.Proofs.YtlbppjmekiemiaaGreatDoor
namespace bE
open Go.ChangeShapes Go.WideShapes Go.RowKit

abbrev ra:=Bool×List z

def vv(P:Program)(t:Nat):Option Bool :=
 match P.underlying t with
 |some (.struct _)=>some true
 |some (.int .i64)|some .bool|some .string|some (.slice _)=>some false
 |_=>none

def nn(P:Program)(m:Nat):List ra->List Nat->Bool
 |[],[]=>true
 |(b,L)::ps,t::ts=>rA P m L t&&(match vv P t with|some fq=>b==fq|none=>false)&&P.readableRec t&&decide (t<P.types.size)&&nn P m ps ts
 |_,_=>false

def yJ:ra->V->Prop
 |(true,L),.agg cs=>lf L cs/\∀c∈cs,ij c
 |(false,L),.one c=>lf L [c]/\ij c
 |_,_=>False

def tO:List ra->List V->Prop
 |[],[]=>True
 |p::ps,v::vs=>yJ p v/\tO ps vs
 |_,_=>False

section
variable {aP:Type} {enc:TypeId×Value->aP} {P:Program} {tab:ci} {w:World} {kQ:Nat->Bool} {held:Bool} {base:Nat}

theorem aiV{t:Nat}{v:Value}(av:vv P t=some false)(h:Value.okWide P w .any base t v):v.oneCell'=true/\v.cells.toList=[v]:=by
 unfold vv at av;split at av<;>try cases av
 ·rename_i hu;obtain⟨n,rfl⟩:=okWide_int hu h;exact⟨rfl,rfl⟩
 ·rename_i hu;obtain⟨n,rfl⟩:=okWide_bool hu h;exact⟨rfl,rfl⟩
 ·rename_i hu;obtain⟨n,rfl⟩:=okWide_string hu h;exact⟨rfl,rfl⟩
 ·rename_i hu;obtain⟨a,b,c,rfl⟩:=okWide_slice hu h;exact⟨rfl,rfl⟩

theorem aiW{t:Nat}{v:Value}(av:vv P t=some true)(h:Value.okWide P w .any base t v):∃cs,v=.agg cs:=by
 unfold vv at av;split at av<;>try cases av
 rename_i hu;obtain⟨cs,I,_⟩:=okWide_struct hu h;exact⟨cs,I⟩

theorem afU{O:dk}{mf:dS}{S:Nat->Prop}{ds:List C}{xs:Array Value}(h:qf tab w ds xs.toList)(ax:xs.size=ds.length)(bO:∀c∈ds,∃kb d,c=.E kb d)(dw:S=fun b=>b<w.heap.size):ch tab O mf w S (.agg ds) (.agg xs):=by
 subst dw;refine⟨xs,rfl,ax,fun i c az=>?_⟩;obtain⟨y,cC,cI,dA,_⟩:=h i c az;obtain⟨kb,d,rfl⟩:=bO c (List.mem_of_getElem? az);exact⟨y,by simpa using cC,cI,dA⟩

theorem LR:∀{L:List z} {cs:List C},lf L cs->∀c∈cs,∃kb d,c=.E kb d
 |_::_,c::_,h,x,aG=>by
  rcases List.mem_cons.1 aG with rfl|aG
  ·obtain⟨d,bO⟩:=h.1;exact⟨_,d,bO⟩
  ·exact LR h.2 x aG
 |[],[],_,x,aG=>by cases aG
 |[],_::_,h,_,_=>h.elim
 |_::_,[],h,_,_=>h.elim

theorem X7{m:Nat}{L:List z}{b:Bool}{t:Nat}{v:Value}{d:DataW aP}{p:List MemPlace}(b1:rA P m L t=true)(av:vv P t=some b)(aQ:Value.okWide P w .any base t v)(h:DataW.Trod enc P w 0 kQ held t v d p)
  (cb:∀k∈d.weights P t,k<=reachBytes):∃u,yJ (b,L) u/\ch tab (fun _=>none) (cA []) w (fun b=>b<w.heap.size) u v:=by
 obtain⟨n,aq⟩:=h;obtain⟨ds,I,G,ab⟩:=LD (tab:=tab) n m L t _ _ b1 aq cb;cases b with
 |true =>
  obtain⟨cs,rfl⟩:=aiW av aQ;refine⟨.agg ds,⟨I,fun c az=>?_⟩,afU ab (by simpa[Value.cells]using G) (LR I) rfl⟩;obtain⟨i,hi⟩:=List.getElem?_of_mem az;obtain⟨y,_,_,_,Bd⟩:=ab i c hi;exact Bd
 |false =>
  obtain⟨a1,bf⟩:=aiV av aQ;rw[bf]at G ab
  match ds,I,G,ab with
  |[c],I,_,ab =>
   obtain⟨y,cC,cI,dA,Bd⟩:=ab 0 c rfl;simp at cC;subst cC;refine⟨.one c,⟨I,Bd⟩,?_⟩;obtain⟨kb,hH,rfl⟩:=LR I c (List.mem_cons_self ..);exact⟨cI,dA⟩

theorem NX{m:Nat}:∀{ps:List ra} {ts:List Nat} {vs:List Value} {ds:List (DataW aP)} {p:List MemPlace},nn P m ps ts=true->(∀(j:Nat) t v,ts[j]? = some t->vs[j]? = some v->Value.okWide P w .any base t v) ->
  DataW.TrodAll enc P w 0 kQ held ts vs ds p->(∀k∈DataW.weightsEach P ts ds,k<=reachBytes)->∃us,tO ps us/\fG tab (fun _=>none) (cA []) w (fun b=>b<w.heap.size) us vs
 |[],[],vs,ds,p,_,_,h,_=>by
  match vs,ds,h with
  |[],[],_=>exact⟨[],trivial,trivial⟩
 |(b,L)::ps,t::ts,vs,ds,p,ag,aQ,h,cb=>by
  match vs,ds,h with
  |v::vs,d::ds,h =>
   simp only[nn,Bool.and_eq_true]at ag;obtain⟨⟨⟨⟨f1,f2⟩,_⟩,_⟩,f3⟩:=ag;obtain⟨fg,ft,I,G,_⟩:=h;have av:vv P t=some b:=by
    split at f2
    ·rename_i fq aA;rw[aA,beq_iff_eq.1 f2]
    ·cases f2
   obtain⟨u,gh,jc⟩:=X7 (tab:=tab) f1 av (aQ 0 t v rfl rfl) I (fun k ad=>cb k (by simp[DataW.weightsEach,ad]));obtain⟨us,bK,bX⟩:=NX f3 (fun j t v bl kH=>aQ (j+1) t v (by simpa using bl) (by simpa using kH)) G (fun k ad=>cb k (by simp[DataW.weightsEach,ad]));exact⟨u::us,⟨gh,bK⟩,jc,bX⟩
 |[],_::_,_,_,_,ag,_,_,_=>by simp[nn]at ag
 |_::_,[],_,_,_,ag,_,_,_=>by simp[nn]at ag

theorem Xi{m:Nat}{gH pq:World}(ax:laidOutB P=true)(aA:Below gH.heap.size gH pq){WW:Nat->Bool}:∀{ps:List ra} {ts:List Nat} {vs:List Value} {ds:List (DataW aP)} {p:List MemPlace},nn P m ps ts=true ->
  DataW.TrodAll enc P gH 0 (fun _=>true) true ts vs ds p->(∀x∈p,x.block<gH.heap.size)->(∀x∈p,WW x.block=true)->DataW.TrodAll enc P pq 0 WW true ts vs ds p
 |[],[],vs,ds,p,_,h,_,_=>by
  match vs,ds,h with
  |[],[],h=>exact h
 |(b,L)::ps,t::ts,vs,ds,p,ag,h,I,G=>by
  match vs,ds,h with
  |v::vs,d::ds,h =>
   simp only[nn,Bool.and_eq_true,decide_eq_true_eq]at ag;obtain⟨⟨⟨⟨_,_⟩,f1⟩,f2⟩,f3⟩:=ag;obtain⟨fg,ft,a1,bf,rfl⟩:=h;exact⟨fg,ft,Go.WideElems.Trod_stays ax f1 f2 a1 (fun x aG=>aA.same (I x (List.mem_append_left _ aG))) (fun x aG=>G x (List.mem_append_left _ aG)),
    Xi ax aA f3 bf (fun x aG=>I x (List.mem_append_right _ aG)) (fun x aG=>G x (List.mem_append_right _ aG)),rfl⟩
 |[],_::_,_,_,_,ag,_,_,_=>by simp[nn]at ag
 |_::_,[],_,_,_,ag,_,_,_=>by simp[nn]at ag

theorem aet{f:Func}{s:ChangeSpec}{apart fresh handsOn again:Bool}{gH pq:World}{args:Array Value}{v:Value}{ds gs:List (DataW aP)}{before pa pv:List MemPlace}
  (sQ:DataW.Whole enc P f.params.toList s.vars apart gH args.toList ds gs before)
  (Q0:∀(b:Nat) (kQ:Nat->Bool) (bO:Bool),DataW.TrodAll enc P pq b kQ bO f.resultTypes.toList (v.resultList f.resultTypes.size) (s.fn aP (ds++gs)).results [])
  (sR:∀kQ:Nat->Bool,(∀p∈before,kQ p.block=true)->DataW.TrodAll enc P pq 0 kQ true f.params.toList args.toList (s.fn aP (ds++gs)).args pa)
  (zW:∀kQ:Nat->Bool,(∀p∈before,kQ p.block=true)->DataW.TrodVars enc P pq kQ s.vars (s.fn aP (ds++gs)).vars pv)
  (qM:before=pa++pv) (aA:Below gH.heap.size gH pq)
  (gg:∀(j:Nat) (t:TypeId) (r:Value),f.resultTypes[j]? = some t->(v.resultList f.resultTypes.size)[j]? = some r->Value.okWide P pq .any 0 t r) :
  s.post enc P f apart fresh handsOn again gH args v pq:=by
 have dQ:∀p∈before,p.block<gH.heap.size:=fun p ag=>sQ.lt p ag
 have hold:∀p∈before,(fun b=>decide (b<gH.heap.size)) p.block=true:=fun p ag=>by simpa using dQ p ag
 refine⟨ds,gs,before,[],pa,pv,sQ,Q0 _ _ _,sR _ hold,zW _ hold,World.keptBut_mono (fun p ag=>⟨ag,?_⟩) (aA.frame (·∈before)),fun _=>?_⟩
 ·rw[qM,List.mem_append]at ag;exact Or.inr ag
 ·obtain⟨_,_,_,_,_,dR,aq⟩:=sQ;refine⟨gg,_,_,([]++pa)++pv,⟨[]++pa,pv,trodAll_append (sR _ (fun _ _=>rfl)) (Q0 _ _ _),zW _ (fun _ _=>rfl),rfl,?_,?_⟩,?_⟩
  ·intro b off ag;have kl:MemPlace.cell b off∈before:=by rw[qM];simpa using ag
   rw[aA.frozen (dQ _ kl)];exact dR b off kl
  ·intro bh;have:=aq bh;rw[qM]at this;simpa using this
  ·intro p ag _;rw[qM];simpa using ag

theorem NW{p:ra}{ps:List ra}{us:List V}(h:tO (p::ps) us):∃u Ey,us=u::Ey/\yJ p u/\tO ps Ey:=by
 match us,h with
 |u::Ey,h=>exact⟨u,Ey,rfl,h.1,h.2⟩

theorem X8{us:List V}(h:tO [] us):us=[]:=by
 match us,h with
 |[],_=>rfl

theorem mi{kb:z}{L:List z}{cs:List C}(h:lf (kb::L) cs):∃(d:kb.den) (eK:List C),cs=.E kb d::eK/\lf L eK:=by
 match cs,h with
 |_::eK,⟨⟨d,rfl⟩,h⟩=>exact⟨d,eK,rfl,h⟩

theorem agJ{cs:List C}(h:lf [] cs):cs=[]:=by
 match cs,h with
 |[],_=>rfl

theorem X6{kb:z}{u:V}(h:yJ (false,[kb]) u):∃d:kb.den,u=.one (.E kb d)/\ij (.E kb d):=by
 match u,h with
 |.one c,⟨I,G⟩ =>
  obtain⟨d,eK,e,_⟩:=mi I;cases e;exact⟨d,rfl,G⟩

theorem X5{L:List z}{u:V}(h:yJ (true,L) u):∃cs,u=.agg cs/\lf L cs/\∀c∈cs,ij c:=by
 match u,h with
 |.agg cs,⟨I,G⟩=>exact⟨cs,rfl,I,G⟩

theorem W6{t:z}{l:List t.den}(h:ij (.E (.list t) l)):l.length*t.bytes<=140737488351232/\∀(i j:Nat) (c:C),i<l.length->(t.cells (nth l i t.H))[j]? = some c->ij c:=by
 cases h with
 |list _ _ h bp=>exact⟨h,bp⟩

theorem acs{f:Nat}{fn:Func}{s:ChangeSpec}{apart fresh handsOn again:Bool}{m tb:Nat}{ps:List ra}(aaY:laidOutB P=true)(qM:nn P m ps fn.params.toList=true)(Q1:fn.resultTypes=#[tb])(CU:P.underlying tb=some .bool)(zW:s.vars=[])
  (abJ:∀ds:List (DataW aP),ds.length=ps.length->(s.fn aP (ds++[])).results=[.lit (.bool true)]/\(s.fn aP (ds++[])).args=ds/\(s.fn aP (ds++[])).vars=[])
  (ev:∀us,tO ps us->AC P tab f us [] (.one (.E .bool true)) [])
  {gH:World} {args:Array Value} {ds gs:List (DataW aP)} {before:List MemPlace} (Jb:∀(j:Nat) t v,fn.params[j]? = some t->args[j]? = some v->Value.okWide P gH .any base t v)
  (sQ:DataW.Whole enc P fn.params.toList s.vars apart gH args.toList ds gs before) (fs:(DataW.weightsEach P (fn.params.toList++s.plain.varTypes P) (ds++gs)).all (·<=reachBytes)=true)
  (aba:qh tab gH (fun b=>b<gH.heap.size)) :
  Calls P f args gH fun e pq=>∃v,e=.returned v/\s.post enc P fn apart fresh handsOn again gH args v pq:=by
 have It:=sQ;obtain⟨p,q,kE,CS,rfl,aka,akf⟩:=sQ;have aaI:gs=[]/\q=[]:=by rw[zW]at CS;exact trodVars_none CS
 obtain⟨rfl,rfl⟩:=aaI;have hlen:∀{ps:List ra} {ts:List Nat} {vs:List Value} {ds:List (DataW aP)} {p:List MemPlace},nn P m ps ts=true->DataW.TrodAll enc P gH 0 (fun _=>true) true ts vs ds p->ds.length=ps.length:=by
  intro ps
  induction ps with
  |nil=>intro ts vs ds p ag h;cases ts<;>cases vs<;>cases ds<;>simp_all[nn,DataW.TrodAll]
  |cons a ps dd =>
   intro ts vs ds p ag h
   match ts,vs,ds,h with
   |t::ts,v::vs,d::ds,h =>
    simp only[nn,Bool.and_eq_true]at ag;obtain⟨_,_,_,G,_⟩:=h;simp[dd ag.2 G]
   |[],_,_,_=>simp[nn]at ag
 have ax:=hlen qM kE;obtain⟨us,gh,jc⟩:=NX (tab:=tab) qM (fun j t v bl aQ=>Jb j t v (by simpa using bl) (by simpa using aQ)) kE (fun k ad=>by
  have:=List.all_eq_true.1 fs k (by
   have:∀(ts:List Nat) (xs:List (DataW aP)) (Ev:List Nat),k∈DataW.weightsEach P ts xs->k∈DataW.weightsEach P (ts++Ev) (xs++[]):=by
    intro ts
    induction ts with
    |nil=>intro xs Ev h;cases xs<;>simp[DataW.weightsEach]at h
    |cons t ts dd =>
     intro xs Ev h;cases xs with
     |nil=>simp[DataW.weightsEach]at h
     |cons x xs =>
      simp only[DataW.weightsEach,List.mem_append,List.cons_append]at h |-;exact h.imp id (dd xs Ev)
   exact this _ _ _ ad)
  simpa using this)
 have qI:Inv tab (fun _=>none) (cA []) gH (fun b=>b<gH.heap.size):=⟨fun r B h=>by simp[cA]at h,fun r fo _ ⟨B,bt,_⟩=>by simp[cA]at bt,fun r ⟨B,bt,_⟩=>by simp[cA]at bt,fun b aA=>aA,aba⟩
 have:=ev us gh gH _ _ args.toList qI jc;rw[Array.toArray_toList]at this;refine this.mono fun e XT ⟨x,bU,S',I,G,_,aV⟩=>?_
 have aG:x=.bool true:=by
  obtain⟨_,aV⟩:=aV;cases aV;rfl
 subst aG;have aA:Below gH.heap.size gH XT:=⟨G.os,G.tape,G.output,G.size,fun k ad=>G.heap k ad fun⟨r,l,⟨B,bt,_⟩,_⟩=>by simp[cA]at bt⟩
 obtain⟨ix,jb,lc⟩:=abJ ds ax;simp only[List.append_nil]at It;have dQ:∀y∈p,y.block<gH.heap.size:=fun y ct=>It.lt y ct
 refine⟨_,I,aet (pa:=p) (pv:=[]) It (fun b kQ bO=>?_) (fun kQ abK=>?_) (fun _ _=>?_) (by simp) aA (ok_one Q1 (by rfl) (okWide_bool_mk CU _))⟩
 ·rw[ix,Q1];exact trodAll_mk1 (shut_bool CU _)
 ·rw[jb];exact Xi aaY aA qM kE dQ (fun y ct=>abK y (by simpa using ct))
 ·rw[lc,zW];rfl
end
end bE
end Go.Proofs.YtlbppjmekiemiaaGreatDoor


/- The executor on data: a contract and its runs in one. No condition. -/
namespace Go.Proofs.YtlbppjmekiemiaaGreatDoor
namespace bE
section
variable {P:Program} {tab:ci} {Γ:Ctx} {fn:Func} {k:Nat} {K:V->List bQ->Prop} {m:Nat}
structure kx(P:Program)(tab:ci)(f:Nat)(C:bd):Prop where
 ok:∃fn,Bw P f fn
 s:jf P tab f C
theorem kx.yC{f:Nat}{C:bd}(h:kx P tab f C):kx P tab f (A8 C):=⟨h.1,agV h.2⟩
theorem kx.or{f:Nat}{C b5:bd}(h:kx P tab f C)(g:kx P tab f b5):kx P tab f (DG C b5):=⟨h.1,agT h.2 g.2⟩
theorem fz.f{f:Nat}{C:bd}(hS:fz P tab Γ)(h:kx P tab f C):fz P tab ((f,C)::Γ) :=
 let ⟨_,g⟩:=h.1
 hS.Hw g.b1 g.bt h.2
theorem hN{f:Nat}{C:bd}(hS:fz P tab Γ)(b1:P.funcs[f]? = some fn)(bt:qy fn=true)(ev:E7 Γ tab fn C):kx P tab f C:=⟨⟨fn,b1,bt⟩,V9 hS b1 bt ev⟩
def fits(n k:Nat)(vs:List V)(ar:List bQ):Bool:=Nat.ble vs.length n&&(r2 vs&&Nat.beq ar.length k)
theorem Qb{n:Nat}{vs:List V}{ar:List bQ}(h:fits n k vs ar=true):Nat.ble vs.length n=true/\r2 vs=true/\ar.length=k:=by
 simp only[fits,Bool.and_eq_true]at h;exact⟨h.1,h.2.1,Nat.eq_of_beq_eq_true h.2.2⟩
def XH(Γ:Ctx)(tab:ci)(fn:Func)(k:Nat)(vs:List V)(ar:List bQ)(v:V)(bg:List bQ):Prop:=∀K:V->List bQ->Prop,K v bg->∃m,cl Γ tab fn k K m [.code (bF fn)] (df vs ar)
def XJ(Γ:Ctx)(tab:ci)(fn:Func)(k:Nat)(vs:List V)(ar:List bQ)(v:V)(bg:List bQ):Prop:=∀K:V->List bQ->Prop,K v bg->∃m,h5 Γ tab fn k K m [.code (bF fn)] (df vs ar)
def XI(Γ:Ctx)(tab:ci)(fn:Func)(k:Nat)(vs:List V)(ar:List bQ)(v:V)(bg:List bQ):Prop:=∀K:V->List bQ->Prop,K v bg->∃m,h5 Γ tab fn k K m [.code (bF fn)] (qQ vs ar)
def XK(Γ:Ctx)(tab:ci)(fn:Func)(k:Nat)(vs:List V)(ar:List bQ)(v:V)(bg:List bQ):Prop:=∀K:V->List bQ->Prop,K v bg->∃m,pD Γ tab fn k K m [.code (bF fn)] (df vs ar)
def Fair(hd:V->List bQ->Prop)(n k:Nat)(vs:List V)(ar:List bQ):Option (Option Prop×V×List bQ)->Prop
 |none=>True
 |some (none,v,bg)=>fits n k vs ar=true/\hd v bg
 |some (some p,v,bg)=>fits n k vs ar=true/\(p->hd v bg)
theorem CH{hd:V->List bQ->Prop}{n:Nat}{vs:List V}{ar:List bQ}{p:Option Prop}{v:V}{bg:List bQ}(h:Fair hd n k vs ar (some (p,v,bg)))(ag:under p True):(Nat.ble vs.length n=true/\r2 vs=true/\ar.length=k)/\hd v bg:=by
 cases p with
 |none=>exact⟨Qb h.1,h.2⟩
 |some p=>exact⟨Qb h.1,h.2 ag.1⟩
theorem b2{f:Nat}{C:bd}(k:Nat)(hS:fz P tab Γ)(b1:P.funcs[f]? = some fn)(bt:qy fn=true)(ev:∀vs ar,Fair (XH Γ tab fn k vs ar) fn.ntmps k vs ar (C vs ar)):kx P tab f C:=hN hS b1 bt fun vs ar p v bg e ag=>by
 have g:=ev vs ar;rw[e]at g;obtain⟨⟨a,b,rfl⟩,c⟩:=CH g ag;exact⟨a,b,.inl (c _ ⟨rfl,rfl⟩)⟩
theorem mh{f:Nat}{C:bd}(k:Nat)(hS:fz P tab Γ)(b1:P.funcs[f]? = some fn)(bt:qy fn=true)(ev:∀vs ar,Fair (XJ Γ tab fn k vs ar) fn.ntmps k vs ar (C vs ar)):kx P tab f C:=hN hS b1 bt fun vs ar p v bg e ag=>by
 have g:=ev vs ar;rw[e]at g;obtain⟨⟨a,b,rfl⟩,c⟩:=CH g ag;exact⟨a,b,.inr (.inl (c _ ⟨rfl,rfl⟩))⟩
theorem sc{f:Nat}{C:bd}(k:Nat)(hS:fz P tab Γ)(b1:P.funcs[f]? = some fn)(bt:qy fn=true)(ev:∀vs ar,Fair (XI Γ tab fn k vs ar) fn.ntmps k vs ar (C vs ar)):kx P tab f C:=hN hS b1 bt fun vs ar p v bg e ag=>by
 have g:=ev vs ar;rw[e]at g;obtain⟨⟨a,b,rfl⟩,c⟩:=CH g ag;exact⟨a,b,.inr (.inr (.inl (c _ ⟨rfl,rfl⟩)))⟩
theorem agw{f:Nat}{C:bd}(k:Nat)(hS:fz P tab Γ)(b1:P.funcs[f]? = some fn)(bt:qy fn=true)(ev:∀vs ar,Fair (XK Γ tab fn k vs ar) fn.ntmps k vs ar (C vs ar)):kx P tab f C:=hN hS b1 bt fun vs ar p v bg e ag=>by
 have g:=ev vs ar;rw[e]at g;obtain⟨⟨a,b,rfl⟩,c⟩:=CH g ag;exact⟨a,b,.inr (.inr (.inr (c _ ⟨rfl,rfl⟩)))⟩
theorem ck{st:bP}{sw:Code}{c:(List cw->bP->Prop)->Prop}(h:∀rec,b7 Γ tab fn k K rec [.code sw] st=c rec)(az:c (cl Γ tab fn k K m)):cl Γ tab fn k K (m+1) [.code sw] st:=by rw[eO,h];exact az
theorem kD{st:bP}{sw:Code}{c:(List cw->bP->Prop)->Prop}(h:∀rec,jP Γ tab fn k K rec [.code sw] st=c rec)(az:c (h5 Γ tab fn k K m)):h5 Γ tab fn k K (m+1) [.code sw] st:=by rw[qF,h];exact az
theorem ZI{st:bP}{sw:Code}{c:(List cw->bP->Prop)->Prop}(h:∀rec,ym Γ tab fn k K rec [.code sw] st=c rec)(az:c (pD Γ tab fn k K m)):pD Γ tab fn k K (m+1) [.code sw] st:=by rw[ZN,h];exact az
end
end bE
end Go.Proofs.YtlbppjmekiemiaaGreatDoor
