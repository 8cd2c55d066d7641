/- The executor on data: part 4 of 4. No condition. -/
import Derived.Test.YtlbppjmekiemiabGreatDoorVmc
import Derived.Laws.StructEq
import Derived.ChangeKeysEq
import Derived.ChangeArms
import Derived.SizedLaws
import Derived.ProofKit
/- The executor on data: a loop's head is reached with a state in order. No condition. -/
namespace Go.Proofs.YtlbppjmekiemiabGreatDoor
namespace bF
section
variable {P:Program} {tab:cm} {Γ:Ctx} {N fy:Nat} {a:Act} {w w':World} {Q:Exit->Act->World->Prop} {O bU:dp} {S S':Nat->Prop}

theorem W7{mf:eb}{b:Nat}{e:z}{x:Value}(aG:x=.slice none 0 0):cl tab (mN b (.ez (.slice none 0 0)) O) (cW [(b,.arr e [])] mf) w S (.one (.own b)) x:=by
 subst aG;refine⟨rfl,?_,fun t l _=>hA⟩;rw[fm];simp

def Gi(tab:cm)(O:dp)(mem:Mem)(w:World)(S:Nat->Prop)(a:Act)(b:Nat)(q:Env×Mem):Prop :=
 ∃bU,Ext O (look mem) w S bU (look (q.2++mem)) w S/\Inv tab bU (look (q.2++mem)) w S/\jt (b+q.2.length) (q.2++mem)/\(∀r,r<b->look q.2 r=none) /\
  ∀p∈q.1,cl tab bU (look (q.2++mem)) w S p.2 (a.eval (.tmp p.1))/\(p.2=.one .undef->a.eval (.tmp p.1)=Go.undef)

theorem Lc{mem:Mem}(aD:Inv tab O (look mem) w S):∀{env:Env} {b:Nat},jt b mem->(∀p∈env,cl tab O (look mem) w S p.2 (a.eval (.tmp p.1))/\(p.2=.one .undef->a.eval (.tmp p.1)=Go.undef)) ->
  Gi tab O mem w S a b (kO b env)
 |[],b,c8,h=>⟨O,Ext.refl,aD,c8,fun _ _=>rfl,fun p ad=>by cases ad⟩
 |(t,v)::env,b,c8,h=>by
  have pH:∀p∈env,cl tab O (look mem) w S p.2 (a.eval (.tmp p.1))/\(p.2=.one .undef->a.eval (.tmp p.1)=Go.undef):=fun p ad=>h p (List.mem_cons_of_mem _ ad)
  have b4:kO b ((t,v)::env)=((t,v)::(kO b env).1,(kO b env).2)->Gi tab O mem w S a b (kO b ((t,v)::env)):=fun bv=>by
   obtain⟨bU,a6,hK,rX,dX,aw⟩:=Lc aD c8 pH;rw[bv];refine⟨bU,a6,hK,rX,dX,fun q aH=>?_⟩;rcases List.mem_cons.1 aH with rfl|aH
   ·have:=h (t,v) (List.mem_cons_self ..);exact⟨zd a6 aD this.1,this.2⟩
   ·exact aw q aH
  have K0:∀e,v=.one (.nil e)->Gi tab O mem w S a b (kO b ((t,v)::env)):=fun e aR=>by
   subst aR;have abM:jt (b+1) mem:=fun r aw=>c8 r (by omega)
   obtain⟨bU,a6,hK,rX,dX,aw⟩:=Lc (b:=b+1) aD abM pH;have ay:look ((kO (b+1) env).2++mem) b=none:=by
    rw[n0,dX b (by omega)];exact c8 b (Nat.le_refl _)
   obtain⟨dO,ig⟩:=Bn (t:=e) hK ay;rw[show cW [(b,.arr e [])] (look ((kO (b+1) env).2++mem))=look (((b,.arr e [])::(kO (b+1) env).2)++mem)from Bc _ _]at dO ig;have bH:(kO b ((t,.one (.nil e))::env))=((t,.one (.own b))::(kO (b+1) env).1,(b,.arr e [])::(kO (b+1) env).2):=rfl;rw[bH];refine⟨_,a6.trans dO,ig,?_,?_,fun q aH=>?_⟩
   ·intro r g9;simp only[List.length_cons]at g9;have dj:r≠b:=by omega
    show look ((b,_)::((kO (b+1) env).2++mem)) r=none;simp only[look,hD dj];exact rX r (by omega)
   ·intro r g9;have dj:r≠b:=by omega
    simp only[look,hD dj];exact dX r (by omega)
   ·rcases List.mem_cons.1 aH with rfl|aH
    ·have:=(h (t,.one (.nil e)) (List.mem_cons_self ..)).1;have G:=W7 (tab:=tab) (O:=bU) (w:=w) (S:=S) (mf:=look ((kO (b+1) env).2++mem)) (b:=b) (e:=e) this.2;rw[show cW [(b,.arr e [])] (look ((kO (b+1) env).2++mem))=look (((b,.arr e [])::(kO (b+1) env).2)++mem)from Bc _ _]at G;exact⟨G,fun dd=>by cases dd⟩
    ·exact⟨zd dO hK (aw q aH).1,(aw q aH).2⟩
  cases v with
  |one c=>cases c<;>first|exact b4 rfl|exact K0 _ rfl
  |agg cs=>exact b4 rfl
  |ao vs=>exact b4 rfl
end
end bF
end Go.Proofs.YtlbppjmekiemiabGreatDoor


/- The executor on data: nil slices in blocks get names. No condition. -/
namespace Go.Proofs.YtlbppjmekiemiabGreatDoor
namespace bF
section
variable {P:Program} {tab:cm} {Γ:Ctx} {N fy:Nat} {a:Act} {w w':World} {Q:Exit->Act->World->Prop} {O bU:dp} {S S':Nat->Prop}

def zG(tab:cm)(O:dp)(mf:eb)(w:World)(S:Nat->Prop)(c:C)(o:Option Value):Prop:=∃y,o=some y/\y.oneCell'=true/\fx tab O mf w S c y

def Gh(tab:cm)(O:dp)(mem:Mem)(w:World)(S:Nat->Prop)(b:Nat)(cs:List C)(q:List C×Mem):Prop :=
 ∃bU,Ext O (look mem) w S bU (look (q.2++mem)) w S/\Inv tab bU (look (q.2++mem)) w S/\(∀r,look q.2 r≠none->b<=r/\r<b+q.2.length)/\q.1.length=cs.length /\
  ∀ys:Nat->Option Value,(∀(i:Nat) c,cs[i]? = some c->zG tab O (look mem) w S c (ys i))->∀(i:Nat) c,q.1[i]? = some c->zG tab bU (look (q.2++mem)) w S c (ys i)

theorem zG.ext{mf uh:eb}(a6:Ext O mf w S bU uh w' S')(aD:Inv tab O mf w S){c:C}{o:Option Value}(h:zG tab O mf w S c o):zG tab bU uh w' S' c o :=
 let ⟨y,I,G,Y⟩:=h
 ⟨y,I,G,Y.ext a6 aD⟩

theorem La{mem:Mem}(aD:Inv tab O (look mem) w S):∀{cs:List C} {b:Nat},(∀r,b<=r->r<b+(hh b cs).2.length->look mem r=none)->Gh tab O mem w S b cs (hh b cs)
 |[],b,c8=>⟨O,Ext.refl,aD,fun r h=>absurd rfl h,rfl,fun ys h=>h⟩
 |c::cs,b,c8=>by
  have b4:hh b (c::cs)=(c::(hh b cs).1,(hh b cs).2)->Gh tab O mem w S b (c::cs) (hh b (c::cs)):=fun bv=>by
   rw[bv]at c8 |-;obtain⟨bU,a6,hK,dX,az,aw⟩:=La aD (b:=b) c8;refine⟨bU,a6,hK,dX,by simp[az],fun ys h i fN aA=>?_⟩;cases i with
   |zero=>simp at aA;subst aA;exact(h 0 _ rfl).ext a6 aD
   |succ i=>exact aw (fun j=>ys (j+1)) (fun j c aT=>h (j+1) c aT) i fN aA
  have K0:∀e,c=.nil e->Gh tab O mem w S b (c::cs) (hh b (c::cs)):=fun e aR=>by
   subst aR;have bH:hh b (.nil e::cs)=(.own b::(hh (b+1) cs).1,(b,.arr e [])::(hh (b+1) cs).2):=rfl;rw[bH]at c8 |-;simp only[List.length_cons]at c8;obtain⟨bU,a6,hK,dX,az,aw⟩:=La aD (cs:=cs) (b:=b+1) (fun r I G=>c8 r (by omega) (by omega));have ay:look ((hh (b+1) cs).2++mem) b=none:=by
    rw[n0];cases aH:look (hh (b+1) cs).2 b with
    |none=>exact c8 b (Nat.le_refl _) (by omega)
    |some B=>have:=(dX b (by rw[aH];simp)).1;omega
   obtain⟨dO,ig⟩:=Bn (t:=e) hK ay;have lX:cW [(b,.arr e [])] (look ((hh (b+1) cs).2++mem))=look (((b,.arr e [])::(hh (b+1) cs).2)++mem):=Bc _ _;have G:∀x,x=.slice none 0 0->cl tab _ _ w S (.one (.own b)) x:=fun x aG=>W7 (tab:=tab) (O:=bU) (w:=w) (S:=S) (mf:=look ((hh (b+1) cs).2++mem)) (b:=b) (e:=e) aG
   rw[lX]at dO ig;refine⟨_,a6.trans dO,ig,?_,by simp[az],fun ys h i fN aA=>?_⟩
   ·intro r g9
    by_cases aN:r=b
    ·subst aN;simp only[List.length_cons];omega
    ·simp only[look,hD aN]at g9;have:=dX r g9;simp only[List.length_cons];omega
   ·cases i with
    |zero =>
     simp at aA;subst aA;obtain⟨y,cK,cN,dA⟩:=h 0 _ rfl;have Y:=G y dA;rw[lX]at Y;exact⟨y,cK,cN,Y.2⟩
    |succ i =>
     exact(aw (fun j=>ys (j+1)) (fun j c aT=>h (j+1) c aT) i fN aA).ext dO hK
  cases c<;>first|exact b4 rfl|exact K0 _ rfl

def OX(tab:cm)(O:dp)(mem:Mem)(w:World)(S:Nat->Prop)(b:Nat)(m0 fc:Mem):Prop :=
 ∃bU,Ext O (look mem) w S bU (look (fc++mem)) w S/\Inv tab bU (look (fc++mem)) w S/\∀r,look fc r≠none->r∈m0.map (·.1)\/b<=r

theorem Lb{mem:Mem}(aD:Inv tab O (look mem) w S):∀{m0:Mem} {b:Nat},jt b mem->(∀p∈m0,look mem p.1=some p.2)->(m0.map (·.1)).Nodup->OX tab O mem w S b m0 (jG b m0)
 |[],b,c8,h,aq=>⟨O,Ext.refl,aD,fun r h=>absurd rfl h⟩
 |(r,B)::m0,b,c8,h,aq=>by
  have bA:look mem r=some B:=h (r,B) (List.mem_cons_self ..);have pH:∀p∈m0,look mem p.1=some p.2:=fun p ad=>h p (List.mem_cons_of_mem _ ad)
  have nT:(m0.map (·.1)).Nodup:=(List.nodup_cons.1 aq).2;have Sj:r∉m0.map (·.1):=(List.nodup_cons.1 aq).1;have ann:r<b:=by
   apply Nat.lt_of_not_le;intro hle;rw[c8 r hle]at bA;cases bA
  have b4:jG b ((r,B)::m0)=(r,B)::jG b m0->OX tab O mem w S b ((r,B)::m0) (jG b ((r,B)::m0)):=fun bv=>by
   rw[bv];obtain⟨bU,a6,hK,dX⟩:=Lb aD c8 pH nT;have qA:look (jG b m0) r=none:=by
    cases aH:look (jG b m0) r with
    |none=>rfl
    |some b7=>rcases dX r (by rw[aH];simp)with I|I
              ·exact absurd I Sj
              ·omega
   have sE:look (((r,B)::jG b m0)++mem)=look (jG b m0++mem):=by
    funext q
    by_cases e:q=r
    ·subst e;rw[n0 (jG b m0),qA];simp[look,Nat.beq_refl,bA]
    ·simp[look,hD e]
   refine⟨bU,by rw[sE];exact a6,by rw[sE];exact hK,fun q aH=>?_⟩
   by_cases e:q=r
   ·subst e;exact .inl (by simp)
   ·simp only[look,hD e]at aH;rcases dX q aH with I|I
    ·exact .inl (by simp only[List.map_cons,List.mem_cons];exact .inr I)
    ·exact .inr I
  cases B with
  |arr t l=>exact b4 rfl
  |dead=>exact b4 rfl
  |set aF=>exact b4 rfl
  |eE t l cs=>exact b4 rfl
  |box cs =>
   have bH:jG b ((r,.box cs)::m0)=(r,.box (hh b cs).1)::(hh b cs).2++jG (b+(hh b cs).2.length) m0:=rfl;rw[bH];generalize gC:b+(hh b cs).2.length=ft;obtain⟨jL,er,hL,J1⟩:=Lb (b:=ft) aD (fun q aH=>c8 q (by omega)) pH nT;have acK:∀q,q∈m0.map (·.1)->q<b:=fun q aH=>by
    obtain⟨p,ad,rfl⟩:=List.mem_map.1 aH;apply Nat.lt_of_not_le;intro hle;have:=pH p ad;rw[c8 _ hle]at this;cases this
   have acu:∀q,b<=q->q<b+(hh b cs).2.length->look (jG ft m0++mem) q=none:=fun q I G=>by
    rw[n0];cases aH:look (jG ft m0) q with
    |none=>exact c8 q I
    |some b7=>rcases J1 q (by rw[aH];simp)with Y|Y
              ·have:=acK q Y;omega
              ·omega
   obtain⟨gM,dO,ig,Sf,xD,D8⟩:=La hL (cs:=cs) (b:=b) acu;have JH:look (jG ft m0++mem) r=some (.box cs):=by
    rw[n0];cases aH:look (jG ft m0) r with
    |none=>exact bA
    |some b7=>rcases J1 r (by rw[aH];simp)with Y|Y
              ·exact absurd Y Sj
              ·omega
   have DR:look ((hh b cs).2++(jG ft m0++mem)) r=some (.box cs):=by
    rw[n0];cases aH:look (hh b cs).2 r with
    |none=>exact JH
    |some b7=>have:=(Sf r (by rw[aH];simp)).1;omega
   obtain⟨l,dn,tM⟩:=hL.rel r _ JH trivial;cases l with
   |ez x=>exact tM.elim
   |gB GB =>
    obtain⟨vs,e,dd,fw,hcells⟩:=tM;have SR:gM r=some (.gB GB):=(dO.kinds r _ _ JH DR).2 ⟨_,DR,trivial⟩▸dn;have gu:=zy (O:=gM) (mem:=look ((hh b cs).2++(jG ft m0++mem))) (w:=w) (w':=w) (S:=S) (r:=r) (b:=GB) (B:=.box cs) (B':=.box (hh b cs).1) (l:=.gB GB) DR trivial SR rfl trivial rfl (fun _ _=>rfl) rfl rfl rfl;have OU:=zz DR trivial SR rfl rfl (fun _ _=>rfl) gu ig ⟨vs,e,dd,by rw[xD];exact fw,fun i c aA=>(D8 (fun i=>vs[i]?) (fun i c aA=>hcells i c aA) i c aA).ext gu ig⟩;have lX:cW [(r,.box (hh b cs).1)] (look ((hh b cs).2++(jG ft m0++mem)))=look (((r,.box (hh b cs).1)::(hh b cs).2++jG ft m0)++mem):=by
     rw[Bc];simp
    rw[lX]at gu OU;refine⟨gM,(er.trans dO).trans gu,OU,fun q aH=>?_⟩
    by_cases aN:q=r
    ·subst aN;exact .inl (by simp)
    ·rw[n0]at aH;simp only[look,hD aN]at aH;cases qC:look (hh b cs).2 q with
     |some b7=>exact .inr (Sf q (by rw[qC];simp)).1
     |none =>
      rw[qC]at aH;rcases J1 q aH with Y|Y
      ·exact .inl (by simp only[List.map_cons,List.mem_cons];exact .inr Y)
      ·exact .inr (by omega)
end
end bF
end Go.Proofs.YtlbppjmekiemiabGreatDoor


/- The executor on data: a loop's head. No condition. -/
namespace Go.Proofs.YtlbppjmekiemiabGreatDoor
namespace bF
section
variable {P:Program} {tab:cm} {Γ:Ctx} {N fy:Nat} {a:Act} {w w':World} {Q:Exit->Act->World->Prop} {O bU:dp} {S S':Nat->Prop} {fH:dp} {w0:World} {S0:Nat->Prop}

theorem Gm{mem:Mem}:∀{l:List Nat},allKnown mem l=true->∀r∈l,∃B,look mem r=some B
 |[],_,r,h=>by cases h
 |q::l,ae,r,h=>by
  simp only[allKnown]at ae;split at ae<;>try cases ae
  rename_i B bA;rcases List.mem_cons.1 h with rfl|h
  ·exact⟨B,bA⟩
  ·exact Gm ae r h

theorem Vi:∀{l:List Nat} {i k:Nat},BB i k l=true->∀j,j<k->l[j]? = some (i+j)
 |_,i,0,_,j,aT=>by omega
 |[],i,k+1,h,j,aT=>by simp[BB]at h
 |r::l,i,k+1,h,j,aT=>by
  simp only[BB]at h;split at h<;>try cases h
  rename_i aw;have:=Nat.eq_of_beq_eq_true aw;subst this;cases j with
  |zero=>rfl
  |succ j=>simp only[List.getElem?_cons_succ];rw[Vi h j (by omega)];congr 1;omega

theorem KT{env:Env}:∀{keys:List Nat} {p:Nat×V},p∈vL env keys->look env p.1=some p.2
 |[],p,h=>by cases h
 |q::keys,p,h=>by
  simp only[vL]at h;split at h
  ·rename_i u hu;rcases List.mem_cons.1 h with rfl|h
   ·exact hu
   ·exact KT h
  ·exact KT h

theorem afb{env:Env}{t:Nat}{v:V}(h:look env t=some v):(t,v)∈env:=by
 induction env with
 |nil=>simp[look]at h
 |cons p env de =>
  obtain⟨q,u⟩:=p
  by_cases e:t=q
  ·subst e;simp[look,Nat.beq_refl]at h;subst h;simp
  ·simp only[look,hD e]at h;exact List.mem_cons_of_mem _ (de h)

theorem QC{k:Nat}{mem fc:Mem}{names seen:List Nat}{vs:List V}{au:List bS}(h:Dh k mem fc names seen vs au=true) :
  names.Nodup/\(∀r∈names,∃B,look mem r=some B)/\seen.Nodup/\(∀r∈seen,∃B,look fc r=some B)/\(∀j,j<k->seen[j]? = some j) /\
   (∀v∈vs,∀r∈v.oo,r∈seen)/\∀B∈au,∀r∈B.names,r∈seen:=by
 unfold Dh at h;split at h
 ·rename_i I G Y aS bj;split at h
  ·rename_i bK c4 dJ;exact⟨IP I,Gm G,IP Y,Gm aS,fun j aT=>by simpa using Vi bj j aT,UK c4 bK,
    fun B bA r aw=>O3 dJ r (List.mem_flatMap.2 ⟨B,bA,aw⟩)⟩
  ·cases h
 ·cases h

theorem To(au:List bS):look (ka 0 au)=cJ au:=by
 funext r;have key:∀(au:List bS) (i r:Nat),look (ka i au) r=if i<=r then au[r-i]? else none:=by
  intro au
  induction au with
  |nil=>intro i r;simp[ka,look]
  |cons B au de =>
   intro i r
   by_cases e:r=i
   ·subst e;simp[ka,look,Nat.beq_refl]
   ·simp only[ka,look,hD e,de]
    by_cases h:i<=r
    ·have I:i+1<=r:=by omega
     rw[if_pos h,if_pos I,show r-i=(r-(i+1))+1 by omega];simp
    ·rw[if_neg h,if_neg (by omega)]
 rw[key];simp[cJ]

theorem Iz{hN:List bS}{keys:List Nat}{st db:bO}(ae:hN.length=fy)(h:canon fy keys st=some db)(cx:Good tab N fH (cJ hN) w0 S0 st a w):Good tab N fH (cJ hN) w0 S0 db a w:=by
 obtain⟨O,S,R,c8,a6⟩:=cx;unfold canon at h;simp only[DK]at h;generalize aH:kO st.base (vL st.env keys)=q at h;generalize J5:E3 fy (q.2++st.mem) (q.1.map (·.2))=names at h;generalize sz:jG (st.base+q.2.length) (fi (q.2++st.mem) names)=fc at h;generalize ad6:E3 fy fc (q.1.map (·.2))=seen at h;split at h<;>try cases h
 rename_i fW;obtain⟨bp,bc,cq,dq,hE,gv,r6⟩:=QC fW;obtain⟨jL,er,hL,Ga,_,AZ⟩:=aH▸Lc (a:=a) R.inv (env:=vL st.env keys) c8 (fun p ad=>R.env p.1 p.2 (KT ad));have jD:∀p∈fi (q.2++st.mem) names,look (q.2++st.mem) p.1=some p.2:=fun p ad=>by
  obtain⟨r,aw,rfl⟩:=List.mem_map.1 ad;obtain⟨B,bA⟩:=bc r aw;simp[bA]
 obtain⟨gM,dO,ig,_⟩:=sz▸Lb hL (m0:=fi (q.2++st.mem) names) Ga jD (by rw[KR];exact bp);have aQ:Handed (look (fc++(q.2++st.mem))) seen (seen.map fun r=>(look fc r).getD .dead):=by
  refine⟨cq,by simp,fun j r aT=>?_,r6⟩;obtain⟨B,bA⟩:=dq r (List.mem_of_getElem? aT);simp[aT,bA,n0]
 have h0:=a6.trans (er.trans dO);have lX:=To ((seen.map fun r=>(look fc r).getD .dead).map (bS.cA (idx seen)));refine⟨h9 seen gM,S,⟨R.size,R.defers,?_,?_⟩,?_,?_⟩
 ·show Inv tab (h9 seen gM) (look (ka 0 _)) w S;rw[lX];exact aQ.inv ig
 ·intro t v aR;have k9:=afb aR;obtain⟨p,ad,bv⟩:=List.mem_map.1 k9;obtain⟨e0,fj⟩:=p;cases bv;obtain⟨gm,hH⟩:=AZ _ ad;show cl tab (h9 seen gM) (look (ka 0 _)) w S _ _/\_;rw[lX];refine⟨(zd dO hL gm).cA fun r aw=>aQ.cA (gv fj (List.mem_map.2 ⟨_,ad,rfl⟩) r aw),fun hu=>?_⟩;apply hH;cases fj with
  |one c=>cases c<;>simp[V.cA,C.cA]at hu |-
  |agg cs=>simp[V.cA]at hu
  |ao vs=>simp[V.cA]at hu
 ·intro r aw;show look (ka 0 _) r=none;rw[lX];simp only[cJ,List.map_map,List.getElem?_eq_none_iff,List.length_map];exact aw
 ·show Ext fH (cJ hN) w0 S0 (h9 seen gM) (look (ka 0 _)) w S;rw[lX];refine⟨fun r a2=>?_,fun r B B' bA fG=>?_,h0.sub,h0.size,h0.heap,h0.only,fun b ay=>?_,h0.os,h0.tape,h0.output⟩
  ·have dX:r<fy:=by
    rw[<- ae];apply Nat.lt_of_not_le;intro hle;exact a2 (by simp[cJ,hle])
   rw[aQ.rL (hE r dX)];simp
  ·have dX:r<fy:=by
    rw[<- ae];exact(List.getElem?_eq_some_iff.1 bA).1
   have av:=hE r dX;rw[aQ.rL av]at fG;cases fG;obtain⟨b7,iX⟩:=dq r (List.mem_of_getElem? av);have DN:look (fc++(q.2++st.mem)) r=some b7:=by rw[n0,iX]
   have ef:=h0.kinds r B b7 bA DN;rw[DN];refine⟨?_,fun az=>?_⟩
   ·have I:=ef.1;cases B<;>cases b7<;>first|exact I|trivial
   ·have hf:Live (look (fc++(q.2++st.mem))) r:=by
     obtain⟨iD,tE,bl⟩:=az;rw[aQ.rL av,DN]at tE;cases tE;exact⟨b7,DN,om.1 bl⟩
    have:=ef.2 hf;simp only[h9,av];exact this
  ·obtain⟨r,aw,l,az,dn,ay⟩:=aQ.own ay;exact h0.own b ⟨r,l,az,dn,ay⟩
end
end bF
end Go.Proofs.YtlbppjmekiemiabGreatDoor


/- The executor on data: a function's end, and the contract from its run. No condition. -/
namespace Go.Proofs.YtlbppjmekiemiabGreatDoor
namespace bF
section
variable {P:Program} {tab:cm} {Γ:Ctx} {N fy:Nat} {a:Act} {w w':World} {Q:Exit->Act->World->Prop} {O bU:dp} {S S':Nat->Prop} {fH:dp} {w0:World} {S0:Nat->Prop}

def ze(a:Act):ResultVar->Sem Value
 |.tmp t=>pure (a.tmps.getD t Go.undef)
 |.cell p t=>do loadVar t (<- asAddr (a.tmps.getD p Go.undef))

theorem E7(bI:fs P tab){st:bO}(R:fC tab N st.env st.mem a w O S):∀{l:List ResultVar} {vs:List V},uz tab st l=some vs ->
  ∃xs:List Value,(l.mapM (ze a)).run P w=.ok xs w/\fI tab O (look st.mem) w S vs xs
 |[],vs,h=>by simp[uz]at h;subst h;exact⟨[],rfl,trivial⟩
 |.tmp t::l,vs,h=>by
  simp only[uz]at h;split at h<;>try cases h
  rename_i v us aR sG;obtain⟨xs,I,G⟩:=E7 bI R sG;refine⟨a.eval (.tmp t)::xs,?_,(R.env t v aR).1,G⟩;rw[List.mapM_cons];simp[I,Act.eval,ze]
 |.cell p t::l,vs,h=>by
  simp only[uz]at h;split at h<;>try cases h
  rename_i r o aM us aR bm sG;split at h<;>try cases h
  rename_i v m az;obtain⟨xs,I,G⟩:=E7 bI R sG;simp only[uc]at az;split at az<;>try cases az
  rename_i cs ay;split at az<;>try cases az
  rename_i e1 acS;split at az<;>try cases az
  rename_i hle;obtain⟨b,FN,e,aG,_,dd,fw,aA⟩:=BT (lm:=st.mem) (fun _ _ h _=>h) R.inv ay (R.env p _ aR).1;have mF:=Nat.le_of_ble_eq_true hle;obtain⟨x,Y,aS⟩:=Xg (O:=O) (mem:=look st.mem) (w:=w) (S:=S) bI bm b o (fun j=>(FN[o+j]?).getD Go.undef) (aW cs o (o+aM.n)) (ob _ _ _ mF) (fun j c aT=>by
   obtain⟨xB,sw⟩:=zj _ _ _ _ _ aT;obtain⟨y,cK,cN,dA⟩:=aA _ _ sw;exact⟨cell?_at dd (by simp[cK]),by simp[cK,cN],by simpa[cK]using dA⟩) v acS
  refine⟨x::xs,?_,aS,G⟩;rw[List.mapM_cons];have A5:a.tmps.getD p Go.undef=.pointer (some (ca b o)):=aG;simp[Sem.run_bind,I,A5,asAddr,Y,ze]

theorem aiq{mf:eb}{v:V}{x:Value}(h:cl tab O mf w S v x)(I:v≠.one .undef)(G:∀us,v≠.ao us):kd tab O mf w S v x:=by
 cases v with
 |one c=>cases c<;>first|exact absurd rfl I|exact h
 |agg cs=>exact h
 |ao us=>exact absurd rfl (G us)

theorem XG:∀{vs:List V},BV vs=true->∀v∈vs,v≠.one .undef/\∀us,v≠.ao us
 |[],_,v,h=>by cases h
 |u::vs,av,v,h=>by
  have key:BV vs=true->u≠.one .undef->(∀us,u≠.ao us)->v≠.one .undef/\∀us,v≠.ao us:=fun I G Y=>by
   rcases List.mem_cons.1 h with rfl|h
   ·exact⟨G,Y⟩
   ·exact XG I v h
  cases u with
  |one c=>cases c<;>first|(cases av;done)|exact key av (fun e=>by cases e) (fun us e=>by cases e)
  |agg cs=>exact key av (fun e=>by cases e) (fun us e=>by cases e)
  |ao us=>cases av

theorem Vc{mf:eb}{vs:List V}{xs:List Value}(h:fI tab O mf w S vs xs)(av:∀v∈vs,v≠.one .undef/\∀us,v≠.ao us) :
  cl tab O mf w S (Ld vs) (if h:xs.toArray.size=1 then xs.toArray[0]else .tuple xs.toArray):=by
 have hlen:=h.len;have ao:vs.length≠1->cl tab O mf w S (.ao vs) (.tuple xs.toArray):=fun _=>by
  refine⟨xs.toArray,rfl,by simp[hlen],fun i v aR=>?_⟩;have key:∀{vs:List V} {xs:List Value},fI tab O mf w S vs xs->∀(i:Nat) v,vs[i]? = some v->∃y,xs[i]? = some y/\cl tab O mf w S v y:=by
   intro vs
   induction vs with
   |nil=>intro xs _ i v aR;simp at aR
   |cons u vs de =>
    intro xs h i v aR;cases xs with
    |nil=>exact h.elim
    |cons x xs =>
     cases i with
     |zero=>simp at aR;subst aR;exact⟨x,rfl,h.1⟩
     |succ i=>simp at aR |-; exact de h.2 i v aR
  obtain⟨y,cK,cN⟩:=key h i v aR;have:=av v (List.mem_of_getElem? aR);exact⟨y,by simpa using cK,aiq cN this.1 this.2⟩
 match vs,xs,h with
 |[],[],h=>exact ao (by simp)
 |[v],[x],h=>exact h.1
 |v::u::vs,x::y::xs,h=>exact ao (by simp)

theorem Xb{fn:Func}{l:List Value}(h:(fn.results.toList.mapM (ze a)).run P w=.ok l w) :
  (results fn a.tmps).run P w=.ok (if h:l.toArray.size=1 then l.toArray[0]else .tuple l.toArray) w:=by
 unfold results;rw[Array.mapM_eq_mapM_toList];have e:∀g:ResultVar->Sem Value,(∀x,g x=ze a x)->(List.mapM g fn.results.toList).run P w=.ok l w:=fun g bt=>by
  have JP:g=ze a:=funext bt;rw[JP];exact h
 simp only[Sem.run_bind,Sem.run_map];rw[e _ (fun x=>by cases x<;>rfl)];rfl
end
end bF
end Go.Proofs.YtlbppjmekiemiabGreatDoor


/- The executor on data: a function's end, with blocks of its own. No condition. -/
namespace Go.Proofs.YtlbppjmekiemiabGreatDoor
namespace bF
section
variable {P:Program} {tab:cm} {Γ:Ctx} {N fy:Nat} {a:Act} {w w':World} {Q:Exit->Act->World->Prop} {O bU:dp} {S S':Nat->Prop} {fH:dp} {w0:World} {S0:Nat->Prop}

theorem aa4{hN blks:List bS}{seen:List Nat}{mem:eb}(a6:Ext fH (cJ hN) w0 S0 O mem w S)(aQ:Handed mem seen blks)(dq:∀r∈seen,∃B,mem r=some B)(hE:∀j,j<hN.length->seen[j]? = some j) :
  Ext fH (cJ hN) w0 S0 (h9 seen O) (cJ (blks.map (bS.cA (idx seen)))) w S:=by
 refine⟨fun r a2=>?_,fun r B B' bA fG=>?_,a6.sub,a6.size,a6.heap,a6.only,fun b ay=>?_,a6.os,a6.tape,a6.output⟩
 ·have dX:r<hN.length:=by
   apply Nat.lt_of_not_le;intro hle;exact a2 (by simp[cJ,hle])
  rw[aQ.rL (hE r dX)];simp
 ·have dX:r<hN.length:=(List.getElem?_eq_some_iff.1 bA).1;have av:=hE r dX;rw[aQ.rL av]at fG;cases fG;obtain⟨b7,iX⟩:=dq r (List.mem_of_getElem? av);have ef:=a6.kinds r B b7 bA iX;rw[iX];refine⟨?_,fun az=>?_⟩
  ·have I:=ef.1;cases B<;>cases b7<;>first|exact I|trivial
  ·have hf:Live mem r:=by
    obtain⟨iD,tE,bl⟩:=az;rw[aQ.rL av,iX]at tE;cases tE;exact⟨b7,iX,om.1 bl⟩
   have:=ef.2 hf;simp only[h9,av];exact this
 ·obtain⟨r,aw,l,az,dn,ay⟩:=aQ.own ay;exact a6.own b ⟨r,l,az,dn,ay⟩

def Ends(P:Program)(tab:cm)(fn:Func)(fH:dp)(hN:List bS)(w0:World)(S0:Nat->Prop)(v:V)(du:List bS)(a:Act)(w:World):Prop :=
 ∃x bU S',(results fn a.tmps).run P w=.ok x w/\Ext fH (cJ hN) w0 S0 bU (cJ du) w S'/\Inv tab bU (cJ du) w S'/\cl tab bU (cJ du) w S' v x

theorem W6{f:Nat->Nat}{jL gM:dp}{fc gJ:eb}:∀{vs:List V} {xs:List Value},fI tab jL fc w S vs xs->(∀v∈vs,∀r∈v.oo,r1 jL fc gM gJ f r)->fI tab gM gJ w S (vs.map (V.cA f)) xs
 |[],[],_,_=>trivial
 |v::_vs,_x::_xs,h,aq=>⟨h.1.cA (aq v (List.mem_cons_self ..)),W6 h.2 fun u hu=>aq u (List.mem_cons_of_mem _ hu)⟩
 |[],_::_,h,_=>h.elim
 |_::_,[],h,_=>h.elim

theorem Rq(bI:fs P tab){fn:Func}{hN:List bS}{K:V->List bS->Prop}{st:bO}(h:DF tab fn.results.toList hN.length K st)(cx:Good tab N fH (cJ hN) w0 S0 st a w) :
  ∃v du,K v du/\Ends P tab fn fH hN w0 S0 v du a w:=by
 obtain⟨O,S,R,c8,a6⟩:=cx;unfold DF at h;split at h
 ·exact h.elim
 rename_i vs A3;simp only at h;generalize ad6:closure st.mem 200 0 (q1 (List.range hN.length) (vs.flatMap V.names))=seen at h;split at h
 ·rename_i fW Sp;obtain⟨_,_,cq,dq,hE,gv,r6⟩:=QC fW;obtain⟨xs,I,G⟩:=E7 bI R A3;have aQ:Handed (look st.mem) seen (seen.map fun r=>(look st.mem r).getD .dead):=⟨cq,by simp,fun j r aT=>by simp[aT],r6⟩
  refine⟨_,_,h,_,h9 seen O,S,Xb I,aa4 a6 aQ dq hE,aQ.inv R.inv,Vc (W6 G fun v aR r aw=>aQ.cA (gv v aR r aw)) fun v aR=>?_⟩;obtain⟨u,hu,rfl⟩:=List.mem_map.1 aR;obtain⟨ia,iP⟩:=XG Sp u hu;cases u with
  |one c=>exact⟨fun e=>by cases c<;>simp[V.cA,C.cA]at e ia,fun us e=>by simp[V.cA]at e⟩
  |agg cs=>exact⟨fun e=>by simp[V.cA]at e,fun us e=>by simp[V.cA]at e⟩
  |ao us=>exact absurd rfl (iP us)
 ·exact h.elim
end
end bF
end Go.Proofs.YtlbppjmekiemiabGreatDoor


/- The executor on data: a function's end, as data; the contract from the run. No condition. -/
namespace Go.Proofs.YtlbppjmekiemiabGreatDoor
namespace bF
section
variable {P:Program} {tab:cm} {Γ:Ctx} {N fy:Nat} {a:Act} {w w':World} {Q:Exit->Act->World->Prop} {O bU:dp} {S S':Nat->Prop} {fH:dp} {w0:World} {S0:Nat->Prop}

theorem QW{m:Mem}:∀{vs ds:List V} {ns:List Nat},re tab m vs=some (ds,ns)->∀v∈ds,v≠.one .undef/\∀us,v≠.ao us
 |[],ds,ns,h=>by simp only[re]at h;cases h;intro v aR;cases aR
 |u::vs,ds,ns,h=>by
  simp only[re]at h;split at h<;>try cases h
  rename_i e1 gD us iN aR pH;intro v Kl;rcases List.mem_cons.1 Kl with rfl|Kl
  ·cases u with
   |ao us=>cases aR
   |one c =>
    simp only[Option.map_eq_some_iff]at aR;obtain⟨⟨d,Bp⟩,jl,bv⟩:=aR;cases bv;obtain⟨t,e,rfl⟩:=NS jl;exact⟨fun h=>(by cases h),fun us h=>(by cases h)⟩
   |agg cs =>
    simp only[Option.map_eq_some_iff]at aR;obtain⟨⟨d,Bp⟩,jl,bv⟩:=aR;cases bv;exact⟨fun h=>(by cases h),fun us h=>(by cases h)⟩
  ·exact QW pH v Kl

theorem QA(c:C):c.cA id=c:=by cases c<;>simp[C.cA]
theorem Z6(B:bS):B.cA id=B:=by
 cases B with
 |box cs =>
  simp only[bS.cA];congr 1;have:(C.cA id)=id:=by funext c;exact QA c
  rw[this];simp
 |eE t l cs =>
  simp only[bS.cA];congr 1;have:(C.cA id)=id:=by funext c;exact QA c
  rw[this];simp
 |arr t l=>rfl
 |set aF=>rfl
 |dead=>rfl

theorem abh(bI:fs P tab){fn:Func}{hN:List bS}{K:V->List bS->Prop}{st:bO}(h:DE tab fn.results.toList hN.length K st)(cx:Good tab N fH (cJ hN) w0 S0 st a w) :
  ∃v du,K v du/\Ends P tab fn fH hN w0 S0 v du a w:=by
 obtain⟨O,S,R,c8,a6⟩:=cx;unfold DE at h;split at h
 ·exact h.elim
 rename_i vs A3;split at h
 ·rename_i ds ns tP Sp;simp only at h;generalize RW:(List.range hN.length).map (fun r=>match hg ns r with|true=>bS.dead|false=>(look st.mem r).getD .dead)=au at h;split at h
  ·rename_i AL;obtain⟨xs,I,G⟩:=E7 bI R A3;obtain⟨dO,ig⟩:=rJ (ns:=ns) R.inv;have h0:=a6.trans dO;have kE:∀r,r<hN.length->cJ au r=some (match hg ns r with|true=>bS.dead|false=>(look st.mem r).getD .dead):=fun r aw=>by
    subst RW;simp[cJ,aw]
   have D2:∀r,hN.length<=r->cJ au r=none:=fun r aw=>by
    subst RW;simp[cJ,aw]
   have sx:∀r B,cJ au r=some B->B.alive->r<hN.length/\cW (gY ns) (look st.mem) r=some B:=fun r B bA bl=>by
    have aw:r<hN.length:=by
     apply Nat.lt_of_not_le;intro hle;rw[D2 r hle]at bA;cases bA
    rw[kE r aw]at bA;cases aB:hg ns r with
    |true=>rw[aB]at bA;cases bA;exact bl.elim
    |false =>
     rw[aB]at bA;rcases oQ (mem:=look st.mem) ns r with⟨Y,_⟩|⟨_,Y⟩
     ·exact absurd Y (Bj aB)
     ·refine⟨aw,?_⟩;rw[Y];cases az:look st.mem r with
      |none=>rw[az]at bA;cases bA;exact bl.elim
      |some b7=>rw[az]at bA;simpa using bA
   have DY:∀r,Live (cJ au) r->Live (cW (gY ns) (look st.mem)) r:=fun r ⟨B,bA,bl⟩=>⟨B,(sx r B bA bl).2,bl⟩
   refine⟨_,_,h,_,O,_,Xb I,⟨fun r a2=>?_,fun r B B' bA fG=>?_,h0.sub,h0.size,h0.heap,h0.only,fun b ⟨r,l,az,dn,ay⟩=>h0.own b ⟨r,l,DY r az,dn,ay⟩,h0.os,h0.tape,h0.output⟩,
    ⟨fun r B bA bl=>?_,fun r fo dj az hf=>ig.inj r fo dj (DY r az) (DY fo hf),fun r az=>ig.sep r (DY r az),ig.lt,ig.pow⟩,Vc (IM R.inv (fun _ _ h _=>h) G tP (fun r aw=>aw)) (QW tP)⟩
   ·have dX:r<hN.length:=by
     apply Nat.lt_of_not_le;intro hle;exact a2 (by simp[cJ,hle])
    rw[kE r dX];simp
   ·refine⟨?_,fun⟨iD,tE,bl⟩=>(h0.kinds r B iD bA (sx r iD tE bl).2).2 ⟨iD,(sx r iD tE bl).2,bl⟩⟩;cases B' with
    |dead=>cases B<;>trivial
    |box cs=>exact(h0.kinds r B _ bA (sx r _ fG trivial).2).1
    |arr t l=>exact(h0.kinds r B _ bA (sx r _ fG trivial).2).1
    |set aF=>exact(h0.kinds r B _ bA (sx r _ fG trivial).2).1
    |eE t l cs=>exact(h0.kinds r B _ bA (sx r _ fG trivial).2).1
   ·obtain⟨aw,aB⟩:=sx r B bA bl;obtain⟨l,dn,dP⟩:=ig.rel r B aB bl;refine⟨l,dn,?_⟩;have fG:B∈au:=List.mem_of_getElem? bA;have:=dP.cA (f:=id) (gM:=O) (mem2:=cJ au) fun q aH=>?_
    ·rw[Z6]at this;exact this
    ·have oI:q<hN.length:=Cx AL q (List.mem_flatMap.2 ⟨B,fG,aH⟩);intro a2;refine⟨by rw[id,kE q oI];simp,fun iD G RR=>?_⟩;obtain⟨_,qC⟩:=sx q iD G RR;exact⟨iD,qC,by cases iD<;>simp[Ge,bS.alive]at RR |-,rfl⟩
  ·exact h.elim
 ·exact h.elim
end
end bF
end Go.Proofs.YtlbppjmekiemiabGreatDoor


/- The executor on data: lists of one's own under new names. No condition. -/
namespace Go.Proofs.YtlbppjmekiemiabGreatDoor
namespace bF

def oB(r n q:Nat):Nat:=match Nat.beq q r with|true=>n|false=>q
def vm(r:Nat)(st:bO):bO :=
 match look st.mem r with
 |some (.arr t l)=>{ env:=st.env.map fun p=>(p.1,p.2.cA (oB r st.base)),mem:=(r,.dead)::(st.base,.arr t l)::st.mem.map (fun p=>(p.1,p.2.cA (oB r st.base))),base:=st.base+1 }
 |_=>st
def Jq:List Nat->bO->bO
 |[],st=>st
 |r::rs,st=>Jq rs (vm r st)
def K9:List C->List Nat
 |[]=>[]
 |.own q::rest=>q::K9 rest
 |_::rest=>K9 rest
def GC:List bS->List Nat
 |[]=>[]
 |.box cs::rest=>K9 cs++GC rest
 |_::rest=>GC rest
def rG(vs:List V)(au:List bS):bO:=Jq (GC au) (df vs au)

section
variable {P:Program} {tab:cm} {Γ:Ctx} {N:Nat} {O:dp} {w:World} {S:Nat->Prop}

theorem abp{r:Nat}{st:bO}{a:Act}(R:fC tab N st.env st.mem a w O S)(c8:jt st.base st.mem) :
  ∃bU,fC tab N (vm r st).env (vm r st).mem a w bU S/\jt (vm r st).base (vm r st).mem/\Ext O (look st.mem) w S bU (look (vm r st).mem) w S:=by
 unfold vm;split
 ·rename_i t l az;obtain⟨n,aq⟩:∃n,st.base=n:=⟨_,rfl⟩
  rw[aq]at c8 |-;have nV:r≠n:=fun e=>by
   have:=c8 n (Nat.le_refl n);rw[<- e,az]at this;cases this
  have aB:look ((r,bS.dead)::(n,.arr t l)::st.mem.map fun p=>(p.1,p.2.cA (oB r n)))=fun q=>if q=r then some .dead else if q=n then some (.arr t l)else(look st.mem q).map (bS.cA (oB r n)):=by
   funext q
   by_cases e:q=r
   ·subst e;simp[look,Nat.beq_refl]
   ·by_cases aX:q=n
    ·subst aX;simp[look,Nat.beq_refl,hD e,e]
    ·simp[look,hD e,hD aX,KD,e,aX]
  have AQ:oB r n r=n:=by unfold oB;simp
  have DW:∀q,q≠r->oB r n q=q:=fun q h=>by unfold oB;rw[hD (r:=q) (q:=r) (Ne.symm h)]
  have A0:∀q,r1 O (look st.mem) (fun q=>if q=n then O r else O q) (fun q=>if q=r then some .dead else if q=n then some (.arr t l)else(look st.mem q).map (bS.cA (oB r n))) (oB r n) q:=by
   intro q a2
   by_cases e:q=r
   ·subst e;rw[AQ];simp only[if_neg (Ne.symm nV),if_true];exact⟨fun h=>by simp at h,fun iD h _=>by cases h;exact⟨_,az,rfl,trivial⟩⟩
   ·rw[DW q e];have aX:q≠n:=fun aX=>a2 (by rw[aX];exact c8 n (Nat.le_refl n))
    simp only[if_neg e,if_neg aX];obtain⟨B,bA⟩:=nH a2;rw[bA];refine⟨fun h=>by simp at h,fun iD h bl=>?_⟩;cases h;refine⟨B,rfl,?_,trivial⟩;cases B with
    |box cs=>trivial
    |arr t l=>rfl
    |eE t l cs=>exact⟨rfl,rfl⟩
    |set aF=>trivial
    |dead=>exact bl.elim
  have AH:∀q B,(if q=r then some bS.dead else if q=n then some (.arr t l)else(look st.mem q).map (bS.cA (oB r n)))=some B->B.alive->∃nq hq,nq=(if q=n then r else q)/\look st.mem nq=some hq/\hq.alive/\B=hq.cA (oB r n)/\(if q=n then O r else O q)=O nq:=by
   intro q B h bl
   by_cases e:q=r
   ·rw[if_pos e]at h;cases h;exact bl.elim
   ·rw[if_neg e]at h
    by_cases aX:q=n
    ·rw[if_pos aX]at h;cases h;exact⟨r,_,by rw[if_pos aX],az,trivial,rfl,by rw[if_pos aX]⟩
    ·rw[if_neg aX]at h;cases bA:look st.mem q with
     |none=>rw[bA]at h;cases h
     |some hq =>
      rw[bA]at h;cases h;exact⟨q,hq,by rw[if_neg aX],bA,om.1 bl,rfl,by rw[if_neg aX]⟩
  refine⟨fun q=>if q=n then O r else O q,⟨R.size,R.defers,?_,?_⟩,?_,?_⟩
  ·rw[aB];refine⟨fun q B bA bl=>?_,fun q gT dj aH oI lo qG b I G Y=>?_,fun q aH lo b I G=>?_,R.inv.lt,R.inv.pow⟩
   ·obtain⟨nq,hq,_,I,G,Y,aS⟩:=AH q B bA bl;obtain⟨lo,a1,bf⟩:=R.inv.rel nq hq I G;refine⟨lo,aS.trans a1,?_⟩;rw[Y];exact bf.cA fun q _=>A0 q
   ·obtain⟨B,bA,bl⟩:=aH;obtain⟨B',fG,sq⟩:=oI;obtain⟨nq,hq,aN,f1,f2,_,f4⟩:=AH q B bA bl;obtain⟨cO,gb,aX,a1,bf,_,eP⟩:=AH gT B' fG sq;have afk:q≠r:=fun e=>by simp only[if_pos e]at bA;cases bA;exact bl.elim
    have afl:gT≠r:=fun e=>by simp only[if_pos e]at fG;cases fG;exact sq.elim
    refine R.inv.inj nq cO (fun e=>?_) ⟨hq,f1,f2⟩ ⟨gb,a1,bf⟩ lo qG b (f4.symm.trans I) (eP.symm.trans G) Y;rw[aN,aX]at e
    by_cases c:q=n
    ·rw[if_pos c]at e
     by_cases fN:gT=n
     ·exact dj (c.trans fN.symm)
     ·rw[if_neg fN]at e;exact afl e.symm
    ·rw[if_neg c]at e
     by_cases fN:gT=n
     ·rw[if_pos fN]at e;exact afk e
     ·rw[if_neg fN]at e;exact dj e
   ·obtain⟨B,bA,bl⟩:=aH;obtain⟨nq,hq,_,f1,f2,_,f4⟩:=AH q B bA bl;exact R.inv.sep nq ⟨hq,f1,f2⟩ lo b (f4.symm.trans I) G
  ·intro q v aR;rw[KE]at aR;cases bX:look st.env q with
   |none=>rw[bX]at aR;cases aR
   |some v0 =>
    rw[bX]at aR;cases aR;obtain⟨a1,bf⟩:=R.env q v0 bX;rw[aB];refine⟨a1.cA fun q _=>A0 q,fun hu=>bf ?_⟩;cases v0 with
    |one c=>cases c<;>simp[V.cA,C.cA]at hu |-
    |agg cs=>simp[V.cA]at hu
    |ao vs=>simp[V.cA]at hu
  ·intro q aH;rw[aB];have I:q≠r:=fun e=>by
    have oI:n+1<=q:=aH;have:=c8 q (by omega);rw[e,az]at this;cases this
   have oI:n+1<=q:=aH;show(if q=r then some bS.dead else if q=n then some (.arr t l)else(look st.mem q).map (bS.cA (oB r n)))=none;rw[if_neg I,if_neg (by omega),c8 q (by omega)];rfl
  ·rw[aB];refine⟨fun q a2=>?_,fun q B B' bA fG=>?_,fun _ h=>h,Nat.le_refl _,fun _ _ _=>rfl,fun _ h=>.inl h,fun b ay=>.inl ?_,rfl,rfl,rfl⟩
   ·by_cases e:q=r
    ·simp[e]
    ·by_cases aX:q=n
     ·simp[aX,Ne.symm nV]
     ·simp only[if_neg e,if_neg aX];obtain⟨B,bA⟩:=nH a2;rw[bA];simp
   ·have aX:q≠n:=fun e=>by rw[e,c8 n (Nat.le_refl n)]at bA;cases bA
    by_cases e:q=r
    ·simp only[if_pos e]at fG;cases fG;refine⟨by cases B<;>trivial,fun acQ=>?_⟩;obtain⟨iD,G,bl⟩:=acQ;simp only[if_pos e]at G;cases G;exact bl.elim
    ·simp only[if_neg e,if_neg aX]at fG;rw[bA]at fG;cases fG;refine⟨?_,fun _=>by simp only[if_neg aX]⟩;cases B<;>trivial
   ·obtain⟨q,lo,⟨B,bA,bl⟩,I,G⟩:=ay;obtain⟨nq,hq,_,f1,f2,_,f4⟩:=AH q B bA bl;exact⟨nq,lo,⟨hq,f1,f2⟩,f4.symm.trans I,G⟩
 ·exact⟨O,R,c8,Ext.refl⟩

theorem RA{fH:dp}{mem0:eb}{w0:World}{S0:Nat->Prop}{a:Act}:∀(rs:List Nat) {st:bO},Good tab N fH mem0 w0 S0 st a w->Good tab N fH mem0 w0 S0 (Jq rs st) a w
 |[],_,cx=>cx
 |r::rs,st,⟨O,S,R,c8,a6⟩=>by
  obtain⟨bU,ju,rX,iS⟩:=abp (r:=r) R c8;exact RA rs ⟨bU,S,ju,rX,a6.trans iS⟩
end
end bF
end Go.Proofs.YtlbppjmekiemiabGreatDoor


/- The executor on data: a function's contract from its run. No condition. -/
namespace Go.Proofs.YtlbppjmekiemiabGreatDoor
namespace bF
section
variable {P:Program} {tab:cm} {Γ:Ctx} {N:Nat}

def sO:List V->Bool
 |[]=>true
 |.one .undef::_=>false
 |_::rest=>sO rest

theorem Tk:∀(vs:List V) (i t:Nat),look (xK i vs) t=if i<=t then vs[t-i]? else none
 |[],i,t=>by simp[xK,look]
 |v::vs,i,t=>by
  by_cases e:t=i
  ·subst e;simp[xK,look,Nat.beq_refl]
  ·simp only[xK,look,hD e,Tk vs]
   by_cases h:i<=t
   ·have I:i+1<=t:=by omega
    rw[if_pos h,if_pos I,show t-i=(t-(i+1))+1 by omega];simp
   ·rw[if_neg h,if_neg (by omega)]

theorem UQ:∀{vs:List V},sO vs=true->∀v∈vs,v≠.one .undef
 |[],_,v,h=>by cases h
 |u::vs,av,v,h=>by
  have key:sO vs=true->u≠.one .undef->v≠.one .undef:=fun I G=>by
   rcases List.mem_cons.1 h with rfl|h
   ·exact G
   ·exact UQ I v h
  cases u with
  |one c=>cases c<;>first|(cases av;done)|exact key av (fun e=>by cases e)
  |agg cs=>exact key av (fun e=>by cases e)
  |ao us=>exact key av (fun e=>by cases e)

theorem W4{O:dp}{mf:eb}{w:World}{S:Nat->Prop}:∀{vs:List V} {xs:List Value},fI tab O mf w S vs xs->∀(i:Nat) v,vs[i]? = some v->∃x,xs[i]? = some x/\cl tab O mf w S v x
 |[],_,_,i,v,aR=>by simp at aR
 |u::vs,[],h,i,v,aR=>h.elim
 |u::vs,x::xs,h,0,v,aR=>by simp at aR;subst aR;exact⟨x,rfl,h.1⟩
 |u::vs,x::xs,h,i+1,v,aR=>by simp at aR |-; exact W4 h.2 i v aR

theorem abk{f:Nat}{fn:Func}{c:Code}{vs:List V}{au:List bS}{fin:bO->Prop}{K:V->List bS->Prop}{m:Nat}{w:World}{S:Nat->Prop}{O:dp}{xs:List Value}{res:List Nat}{oc:bO}
  (fL:∀a w',Good tab fn.ntmps O (cJ au) w S (df vs au) a w'->Good tab fn.ntmps O (cJ au) w S oc a w')
  (g7:zL P tab Γ fn.ntmps O (cJ au) w S) (b6:P.funcs[f]? = some fn) (ay:fn.body=some c) (bA:lQ fn.ntmps c=true) (aq:vs.length<=fn.ntmps) (hu:sO vs=true)
  (jV:∀st a j6,Good tab fn.ntmps O (cJ au) w S st a j6->fin st->∃v du,K v du/\Ends P tab fn O au w S v du a j6)
  (h:run Γ tab au.length res fin m [.code c] oc) (aD:Inv tab O (cJ au) w S) (aG:fI tab O (cJ au) w S vs xs) :
  Calls P f xs.toArray w fun e w'=>∃v du,K v du/\∃x bU S',e=.returned x/\Ext O (cJ au) w S bU (cJ du) w' S'/\Inv tab bU (cJ du) w' S'/\cl tab bU (cJ du) w' S' v x:=by
 refine calls_of_wp b6 ay ?_;have hlen:=aG.len;have lX:look (ka 0 au)=cJ au:=To au;refine(Xi (Q:=bodyPost P fn _) g7 (fun keys st db a j6 aA cx=>Iz rfl aA cx) (fun st a j6 cx aH=>?_) m).2 c oc _ w h bA (fL _ _ ?_)
 ·obtain⟨v,du,D,x,bU,S',I,G,Y,aS⟩:=jV st a j6 cx aH;obtain⟨_,_,R,_,_⟩:=cx;have:bodyPost P fn (fun e w'=>∃v du,K v du/\∃x bU S',e=.returned x/\Ext O (cJ au) w S bU (cJ du) w' S'/\Inv tab bU (cJ du) w' S'/\cl tab bU (cJ du) w' S' v x) .ret a j6 :=
   ⟨R.defers,x,I,v,du,D,x,bU,S',rfl,G,Y,aS⟩
  exact⟨this,this⟩
 ·refine⟨O,S,⟨?_,rfl,?_,fun t v aR=>?_⟩,fun r aw=>?_,?_⟩
  ·simp;omega
  ·show Inv tab O (look (ka 0 au)) w S;rw[lX];exact aD
  ·have k9:vs[t]? = some v:=by
    have:=Tk vs 0 t;simp only[Nat.zero_le,if_true,Nat.sub_zero]at this;rw[<- this];exact aR
   obtain⟨x,SM,aep⟩:=W4 aG t v k9;have bv:Act.eval { tmps:=xs.toArray++Array.replicate (fn.ntmps-xs.toArray.size) Go.undef,defers:=[] } (.tmp t)=x:=by
    have dX:=(List.getElem?_eq_some_iff.1 SM).1;simp only[Act.eval,Array.getD_eq_getD_getElem?];rw[Array.getElem?_append_left (by simpa using dX)];simp[SM]
   rw[bv];show cl tab O (look (ka 0 au)) w S v x/\_;rw[lX];exact⟨aep,fun e=>absurd e (UQ hu v (List.mem_of_getElem? k9))⟩
  ·show look (ka 0 au) r=none;rw[lX];have:au.length<=r:=aw;simp[cJ,this]
  ·show Ext O (cJ au) w S O (look (ka 0 au)) w S;rw[lX];exact Ext.refl
end
end bF
end Go.Proofs.YtlbppjmekiemiabGreatDoor


/- The executor on data: what a region did, in the text's order. No condition. -/
namespace Go.Proofs.YtlbppjmekiemiabGreatDoor
namespace bF

structure hC where
 dst:Option Tmp
 v:V
 m:Mem
 did:Bool
 reads:List Nat

def oq(d:hC)(s:Env×Mem):Env×Mem:=(l7 d.dst d.v s.1,d.m++s.2)

def iW(b7:Nat->Bool):Nat->List hC->Env×Mem->Env×Mem
 |_,[],s=>s
 |i,d::ds,s=>iW b7 (i+1) ds (match b7 i with|true=>oq d s|false=>s)

def zt:Nat->List hM->List hC->List hM
 |_,eJ,[]=>eJ
 |i,eJ,d::ds=>zt (i+1) (match d.did with|true=>⟨i,d.reads,sN d.m⟩::eJ|false=>eJ) ds

def qc(ops:List Oper)(o:Oper)(e:Env):Prop :=
 match o.guard with
 |none=>True
 |some (j,want)=>∃d,(ops[j]?).bind (·.dst)=some d/\look e d=some (.one (.E .bool want))

def p8(ops:List Oper)(o:Oper)(e:Env):Prop :=
 match o.guard with
 |none=>False
 |some (j,want)=>∃d,(ops[j]?).bind (·.dst)=some d/\(look e d=some (.one (.E .bool (!want)))\/look e d=some (.one .undef))

def lr(Γ:Ctx)(tab:cm)(ops:List Oper)(base:Nat)(s:Env×Mem)(i:Nat)(o:Oper)(d:hC):Prop :=
 d.dst=o.dst/\match d.did with
 |false=>d.v=.one .undef/\d.m=[]/\d.reads=[]/\p8 ops o s.1
 |true=>qc ops o s.1/\∃vs p,lA tab s.1 (operands o)=some vs/\Bx Γ tab (base+8*i) o vs (fi s.2 d.reads)=some (p,d.v,d.m)/\under p True/\sn (base+8*i) s.2 d.reads d.m=true/\IY o.dst d.v=true

def m2(Γ:Ctx)(tab:cm)(ops:List Oper)(base:Nat):Nat->List Oper->List hC->Env×Mem->Prop
 |_,[],[],_=>True
 |i,o::rest,d::ds,s=>lr Γ tab ops base s i o d/\m2 Γ tab ops base (i+1) rest ds (oq d s)
 |_,_,_,_=>False

section
variable {P:Program} {tab:cm} {Γ:Ctx} {N:Nat}

theorem Tn{e cd:Env}(h:∀t,look e t=look cd t)(d:Option Tmp)(v:V)(t:Nat):look (l7 d v e) t=look (l7 d v cd) t:=by
 cases d with
 |none=>exact h t
 |some d =>
  by_cases q:t=d
  ·subst q;simp[l7,look,Nat.beq_refl]
  ·simp[l7,look,hD q,h t]

theorem I8{e cd:Env}:∀{l:List (Nat×Operand)},(∀t∈tmpsOf (l.map (·.2)),look e t=look cd t)->lA tab e l=lA tab cd l
 |[],_=>rfl
 |(ty,o)::l,h=>by
  have I:xo tab e ty o=xo tab cd ty o:=by
   cases o with
   |tmp t=>exact h t (by simp[tmpsOf])
   |_=>rfl
  have G:lA tab e l=lA tab cd l:=I8 fun t bm=>h t (by
   cases o<;>simp[tmpsOf]<;>first|exact .inr bm|exact bm)
  simp only[lA,I,G]

theorem qc.ra{ops:List Oper}{o:Oper}{e cd:Env}(h:∀t,look e t=look cd t)(w:qc ops o e):qc ops o cd:=by
 unfold qc at *;split at w
 ·trivial
 ·obtain⟨d,I,G⟩:=w;exact⟨d,I,(h d).symm.trans G⟩

theorem p8.ra{ops:List Oper}{o:Oper}{e cd:Env}(h:∀t,look e t=look cd t)(w:p8 ops o e):p8 ops o cd:=by
 unfold p8 at *;split at w
 ·exact w
 ·obtain⟨d,I,G⟩:=w;exact⟨d,I,G.imp (fun q=>(h d).symm.trans q) (fun q=>(h d).symm.trans q)⟩

theorem lr.ra{ops:List Oper}{base i:Nat}{o:Oper}{d:hC}{e cd:Env}{mm:Mem}(h:∀t,look e t=look cd t)(w:lr Γ tab ops base (e,mm) i o d):lr Γ tab ops base (cd,mm) i o d:=by
 unfold lr at *;refine⟨w.1,?_⟩;have jK:=w.2;split at jK
 ·exact⟨jK.1,jK.2.1,jK.2.2.1,jK.2.2.2.ra h⟩
 ·obtain⟨a2,vs,p,I,G⟩:=jK;exact⟨a2.ra h,vs,p,(I8 fun t _=>(h t).symm).trans I,G⟩

theorem m2.ra{ops:List Oper}{base:Nat}:∀{rest:List Oper} {ds:List hC} {i:Nat} {e cd:Env} {mm:Mem},(∀t,look e t=look cd t)->m2 Γ tab ops base i rest ds (e,mm)->m2 Γ tab ops base i rest ds (cd,mm)
 |[],[],_,_,_,_,_,_=>trivial
 |_o::_rest,_d::_ds,_i,_e,_e',_mm,h,w=>⟨w.1.ra h,m2.ra (Tn h _ _) w.2⟩
 |[],_::_,_,_,_,_,_,w=>w.elim
 |_::_,[],_,_,_,_,_,w=>w.elim

def nZ:List hC->Env×Mem->Env×Mem
 |[],s=>s
 |d::ds,s=>nZ ds (oq d s)

theorem Td:∀{ds:List hC} {e cd:Env} {mm:Mem},(∀t,look e t=look cd t)->(∀t,look (nZ ds (e,mm)).1 t=look (nZ ds (cd,mm)).1 t)/\(nZ ds (e,mm)).2=(nZ ds (cd,mm)).2
 |[],_,_,_,h=>⟨h,rfl⟩
 |_d::ds,_e,_e',_mm,h=>Td (ds:=ds) (Tn h _ _)
end
end bF
end Go.Proofs.YtlbppjmekiemiabGreatDoor


/- The executor on data: from a region's condition, what each of its operations did. No condition. -/
namespace Go.Proofs.YtlbppjmekiemiabGreatDoor
namespace bF
section
variable {P:Program} {tab:cm} {Γ:Ctx} {N:Nat}

def p9(Γ:Ctx)(tab:cm)(ops:List Oper)(K:oe)(rest:List Oper)(i:Nat)(eJ:List hM)(st:bO):Prop :=
 ∃ds,m2 Γ tab ops st.base i rest ds (st.env,st.mem)/\xX ops (zt i eJ ds)=true /\
  ∃db,K db/\db.base=st.base+8*ops.length/\(∀t,look db.env t=look (nZ ds (st.env,st.mem)).1 t)/\db.mem=(nZ ds (st.env,st.mem)).2

theorem p9.ra{ops:List Oper}{K:oe}{rest:List Oper}{i:Nat}{eJ:List hM}{st uC:bO}(h:∀t,look st.env t=look uC.env t)(aB:st.mem=uC.mem)(ay:st.base=uC.base)(aQ:p9 Γ tab ops K rest i eJ st) :
  p9 Γ tab ops K rest i eJ uC:=by
 obtain⟨ds,I,G,db,k,b,e,m⟩:=aQ;obtain⟨bp,bc⟩:=Td (ds:=ds) (mm:=st.mem) h;refine⟨ds,?_,G,db,k,b.trans (by rw[ay]),fun t=>(e t).trans ?_,m.trans ?_⟩
 ·rw[<- ay,<- aB];exact I.ra h
 ·rw[<- aB];exact bp t
 ·rw[<- aB];exact bc

theorem afg{vs:List V}{K:V->Prop}(h:Bo vs K):∃v,K v:=by
 unfold Bo at h;split at h
 ·exact⟨_,h false (fun e=>by cases e)⟩
 ·exact⟨_,h⟩
 ·exact h.elim

theorem K1:∀{ops:List Oper},Bq ops=true->∀o∈ops,tZ o=false
 |[],_,o,h=>by cases h
 |q::ops,aq,o,h=>by
  simp only[Bq]at aq;split at aq<;>try cases aq
  rename_i aH;rcases List.mem_cons.1 h with rfl|h
  ·exact aH
  ·exact K1 aq o h

theorem K8{ops:List Oper}{eJ:List hM}(h:xX ops eJ=true):B6 ops (jQ [] ops) 0 ops=true/\Bq ops=true/\uG (jQ [] ops) eJ=true/\zU 0 ops=true:=by
 unfold xX at h;simp only at h;split at h
 ·rename_i I;split at h
  ·rename_i G;split at h
   ·rename_i Y;exact⟨I,G,h,Y⟩
   ·cases h
  ·cases h
 ·cases h

theorem IW{ops:List Oper}{K:oe}{o:Oper}{rest:List Oper}{i:Nat}{eJ:List hM}{st:bO}{aU:List hM->oe}(aq:o∈ops)(h:qi Γ tab o i eJ st aU)(b8:qc ops o st.env)
  (D:∀mc db,aU mc db->p9 Γ tab ops K rest (i+1) mc db):p9 Γ tab ops K (o::rest) i eJ st:=by
 unfold qi at h;split at h
 ·exact h.elim
 rename_i vs lW;split at h
 ·rename_i D1;obtain⟨v,aR⟩:=afg h;obtain⟨ds,_,G,_⟩:=D _ _ aR;rw[K1 (K8 G).2.1 o aq]at D1;cases D1
 rename_i D1;rw[K6 D1]at lW;simp only at h;split at h
 ·exact h.elim
 rename_i p v m fV;split at h
 ·rename_i AQ tO;obtain⟨ad,ae⟩:=Y9.1 h;obtain⟨ds,I,G,db,k,b,e,mm⟩:=D _ _ ae;have fL:(bO.Zc st m).put o.dst v=⟨l7 o.dst v st.env,m++st.mem,st.base⟩:=by rw[sQ];rfl
  rw[fL]at I b e mm;exact⟨⟨o.dst,v,m,true,Y0 o vs st.mem⟩::ds,⟨⟨rfl,b8,vs,p,lW,fV,ad,AQ,tO⟩,I⟩,G,db,k,b,e,mm⟩
 ·exact h.elim

theorem M0{ops:List Oper}{K:oe}{o:Oper}{rest:List Oper}{i:Nat}{eJ:List hM}{st:bO}(b8:p8 ops o st.env)(D:p9 Γ tab ops K rest (i+1) eJ (st.put o.dst (.one .undef))):p9 Γ tab ops K (o::rest) i eJ st:=by
 obtain⟨ds,I,G,db,k,b,e,mm⟩:=D;rw[sQ]at I b e mm;exact⟨⟨o.dst,.one .undef,[],false,[]⟩::ds,⟨⟨rfl,rfl,rfl,rfl,b8⟩,I⟩,G,db,k,b,e,mm⟩

theorem Rg{ops:List Oper}{K:oe}:∀(rest:List Oper) (i:Nat) (eJ:List hM) (st:bO),(∀o∈rest,o∈ops)->jy Γ tab true ops K rest i eJ st->p9 Γ tab ops K rest i eJ st
 |[],i,eJ,st,aq,h=>by
  unfold jy at h;simp only at h;split at h
  ·rename_i aY;exact⟨[],trivial,aY,_,h,rfl,fun _=>rfl,rfl⟩
  ·exact h.elim
 |o::rest,i,eJ,st,aq,h=>by
  have qA:=aq o (List.mem_cons_self ..);have next:∀mc db,jy Γ tab true ops K rest (i+1) mc db->p9 Γ tab ops K rest (i+1) mc db:=fun mc db ae=>Rg rest (i+1) mc db (fun q aH=>aq q (List.mem_cons_of_mem _ aH)) ae
  unfold jy Li at h;simp only at h;split at h
  ·rename_i bt;exact IW qA h (by simp[qc,bt]) next
  ·rename_i j want bt;split at h
   ·exact h.elim
   rename_i d bH;split at h
   ·rename_i b ay;have sE:∀ft,look st.env d=some (.one (.E .bool ft))->∀t,look (st.put (some d) (.one (.E .bool ft))).env t=look st.env t:=fun ft gC t=>by
     rw[sQ];exact Vm gC t
    have back:∀ft,look st.env d=some (.one (.E .bool ft))->p9 Γ tab ops K (o::rest) i eJ (st.put (some d) (.one (.E .bool ft)))->p9 Γ tab ops K (o::rest) i eJ st:=fun ft gC aQ =>
     aQ.ra (sE ft gC) (by rw[sQ]) (by rw[sQ])
    cases b with
    |true =>
     simp only[J]at h;refine back true ay ?_;cases want with
     |true=>exact IW qA h (by simp only[qc,bt];exact⟨d,bH,(sE true ay d).trans ay⟩) next
     |false=>exact M0 (by simp only[p8,bt];exact⟨d,bH,.inl ((sE true ay d).trans ay)⟩) (next _ _ h)
    |false =>
     simp only[J]at h;refine back false ay ?_;cases want with
     |true=>exact M0 (by simp only[p8,bt];exact⟨d,bH,.inl ((sE false ay d).trans ay)⟩) (next _ _ h)
     |false=>exact IW qA h (by simp only[qc,bt];exact⟨d,bH,(sE false ay d).trans ay⟩) next
   ·rename_i ay;exact M0 (by simp only[p8,bt];exact⟨d,bH,.inr ay⟩) (next _ _ h)
   ·exact h.elim
end
end bF
end Go.Proofs.YtlbppjmekiemiabGreatDoor


/- The executor on data: a region whose order is drawn: plain facts of folds and of what must come before what. No condition. -/
namespace Go.Proofs.YtlbppjmekiemiabGreatDoor
namespace bF

def lR{α:Type}(b7:Nat->Bool):Nat->List (List (Nat×α))->List (Nat×α)->List (Nat×α)
 |_,[],s=>s
 |i,p::ps,s=>lR b7 (i+1) ps (match b7 i with|true=>p++s|false=>s)

section
variable {α:Type} {b7 D':Nat->Bool} {t:Nat}

theorem vN:∀(m s:List (Nat×α)) (r:Nat),look (m++s) r=match look m r with|some v=>some v|none=>look s r
 |[],s,r=>rfl
 |(q,b)::m,s,r=>by
  by_cases e:r=q
  ·subst e;simp[look,Nat.beq_refl]
  ·simp[look,hD e,vN m s r]

theorem Au:∀{ps:List (List (Nat×α))} {i:Nat} {s sX:List (Nat×α)},(∀k p,ps[k]? = some p->look p t≠none->b7 (i+k)=D' (i+k))->look s t=look sX t->look (lR b7 i ps s) t=look (lR D' i ps sX) t
 |[],_,_,_,_,av=>av
 |p::ps,i,s,sX,h,av=>by
  unfold lR;refine Au (fun k q ae aH=>?_) ?_
  ·have:=h (k+1) q (by simpa using ae) aH;rwa[show i+(k+1)=i+1+k by omega]at this
  ·cases e:look p t with
   |none =>
    have key:∀x:List (Nat×α),look (p++x) t=look x t:=fun x=>by rw[vN,e]
    cases b7 i<;>cases D' i<;>simp[key,av]
   |some v =>
    have a2:=h 0 p rfl (by simp[e]);simp only[Nat.add_zero]at a2;rw[a2];cases D' i
    ·exact av
    ·show look (p++s) t=look (p++sX) t;rw[vN,vN,e]

theorem Rx:∀{ps:List (List (Nat×α))} {i:Nat} {s:List (Nat×α)},lR (fun _=>false) i ps s=s
 |[],_,_=>rfl
 |_::ps,i,s=>by unfold lR;exact Rx

theorem Jn:∀{ps:List (List (Nat×α))} {i j:Nat} {p:List (Nat×α)} {s:List (Nat×α)},ps[j]? = some p->(∀x,x≠i+j->D' x=b7 x)->b7 (i+j)=false->D' (i+j)=true ->
  (∀k q,j<k->ps[k]? = some q->look q t≠none->look p t≠none->b7 (i+k)=false)->look (lR D' i ps s) t=look (p++lR b7 i ps s) t
 |[],i,j,p,s,aT,_,_,_,_=>by simp at aT
 |q::ps,i,0,p,s,aT,iX,a2,I,ae=>by
  simp only[List.getElem?_cons_zero,Option.some.injEq]at aT;subst aT;simp only[Nat.add_zero]at a2 I iX;unfold lR;simp only[a2,I];rw[vN];cases e:look q t with
  |none =>
   show _=look (lR b7 (i+1) ps s) t;refine Au (fun k x aG bv=>iX _ (by omega)) ?_;rw[vN,e]
  |some v =>
   show _=some v;have:look (lR D' (i+1) ps (q++s)) t=look (lR (fun _=>false) (i+1) ps (q++s)) t:=by
    refine Au (fun k x aG bv=>?_) rfl;rw[iX _ (by omega)];have:=ae (k+1) x (by omega) (by simpa using aG) bv (by simp[e]);rwa[show i+(k+1)=i+1+k by omega]at this
   rw[this,Rx,vN,e]
 |q::ps,i,j+1,p,s,aT,iX,a2,I,ae=>by
  unfold lR;rw[iX i (by omega)];rw[show i+(j+1)=i+1+j by omega]at a2 I iX;refine Jn (by simpa using aT) iX a2 I (fun k x dX aG G Y=>?_);have:=ae (k+1) x (by omega) (by simpa using aG) G Y;rwa[show i+(k+1)=i+1+k by omega]at this
end

def vY(d:hC):Env:=match d.dst with|some t=>[(t,d.v)] | none=>[]

theorem Pb(d:hC)(s:Env×Mem):(oq d s).1=vY d++s.1:=by
 cases h:d.dst<;>simp[oq,vY,l7,h]

theorem As(b7:Nat->Bool):∀(ds:List hC) (i:Nat) (s:Env×Mem),(iW b7 i ds s).1=lR b7 i (ds.map vY) s.1
 |[],_,_=>rfl
 |d::ds,i,s=>by
  unfold iW;rw[As b7 ds];simp only[List.map_cons,lR];cases b7 i
  ·rfl
  ·rw[Pb]

theorem At(b7:Nat->Bool):∀(ds:List hC) (i:Nat) (s:Env×Mem),(iW b7 i ds s).2=lR b7 i (ds.map (·.m)) s.2
 |[],_,_=>rfl
 |d::ds,i,s=>by
  unfold iW;rw[At b7 ds];simp only[List.map_cons,lR];cases b7 i<;>rfl

theorem KF(d:hC)(t:Nat):look (vY d) t≠none->d.dst=some t:=by
 intro h;cases bH:d.dst with
 |none=>simp[vY,bH,look]at h
 |some u =>
  by_cases e:t=u
  ·rw[e]
  ·simp[vY,bH,look,hD e]at h

theorem En{α:Type}:∀(m:List (Nat×α)) (r:Nat),look m r≠none↔r∈m.map (·.1)
 |[],r=>by simp[look]
 |(q,b)::m,r=>by
  by_cases e:r=q
  ·subst e;simp[look,Nat.beq_refl]
  ·simp[look,hD e,En m r,e]

theorem Jl:∀(ds:List hC) (i:Nat) (b7:Nat->Bool) (s:Env×Mem),(∀k,k<ds.length->b7 (i+k)=true)->iW b7 i ds s=nZ ds s
 |[],_,_,_,_=>rfl
 |d::ds,i,b7,s,h=>by
  unfold iW nZ;have:=h 0 (by simp);simp only[Nat.add_zero]at this;rw[this];exact Jl ds (i+1) b7 _ fun k ae=>by
   have:=h (k+1) (by simpa using ae);rwa[show i+(k+1)=i+1+k by omega]at this

theorem Jm:∀(ds:List hC) (i:Nat) (b7:Nat->Bool) (s:Env×Mem),(∀k,k<ds.length->b7 (i+k)=false)->iW b7 i ds s=s
 |[],_,_,_,_=>rfl
 |d::ds,i,b7,s,h=>by
  unfold iW;have:=h 0 (by simp);simp only[Nat.add_zero]at this;rw[this];exact Jm ds (i+1) b7 _ fun k ae=>by
   have:=h (k+1) (by simpa using ae);rwa[show i+(k+1)=i+1+k by omega]at this

section
variable {P:Program} {tab:cm} {Γ:Ctx} {N:Nat}

theorem m2.len{ops:List Oper}{base:Nat}:∀{rest:List Oper} {ds:List hC} {i:Nat} {s:Env×Mem},m2 Γ tab ops base i rest ds s->ds.length=rest.length
 |[],[],_,_,_=>rfl
 |o::rest,d::ds,i,s,h=>by simp[m2.len h.2]
 |[],_::_,_,_,h=>h.elim
 |_::_,[],_,_,h=>h.elim

theorem m2.at{ops:List Oper}{base:Nat}:∀{rest:List Oper} {ds:List hC} {i:Nat} {s:Env×Mem},m2 Γ tab ops base i rest ds s->∀k o d,rest[k]? = some o->ds[k]? = some d ->
  lr Γ tab ops base (iW (fun x=>decide (x<i+k)) i ds s) (i+k) o d
 |[],_,_,_,_,k,o,d,aY,bH=>by simp at aY
 |_::_,[],_,_,h,k,o,d,aY,bH=>h.elim
 |o'::rest,ly::ds,i,s,h,0,o,d,aY,bH=>by
  simp only[List.getElem?_cons_zero,Option.some.injEq]at aY bH;subst aY bH;rw[Jm _ _ _ _ (fun k ae=>by simp)];exact h.1
 |o'::rest,ly::ds,i,s,h,k+1,o,d,aY,bH=>by
  have:=m2.at h.2 k o d (by simpa using aY) (by simpa using bH);unfold iW;rw[show i+(k+1)=i+1+k by omega];have hi:decide (i<i+1+k)=true:=by simp;omega
  rw[hi];exact this

theorem UH{m Bg:Mem}:∀{ns:List Nat},(∀r∈ns,look m r=look Bg r)->fi m ns=fi Bg ns
 |[],_=>rfl
 |r::ns,h=>by
  have I:=h r (List.mem_cons_self ..);have G:=UH (ns:=ns) fun q aH=>h q (List.mem_cons_of_mem _ aH)
  simp only[fi,List.map_cons]at *;rw[I,G]

theorem RB{base:Nat}{names:List Nat}{m Bg:Mem}:∀{x:Mem},(∀r∈x.map (·.1),look m r=look Bg r)->sn base m names x=sn base Bg names x
 |[],_=>rfl
 |(r,b)::x,h=>by
  simp only[sn];rw[h r (by simp),RB (x:=x) fun q aH=>h q (by simp at aH |-; exact .inr aH)]

theorem lr.move{ops:List Oper}{base j:Nat}{o:Oper}{d:hC}{s sX:Env×Mem}(aq:tZ o=false)(h:lr Γ tab ops base s j o d)(bv:∀t∈uH ops o,look s.1 t=look sX.1 t)
  (aB:d.did=true->∀r∈d.reads++sN d.m,look s.2 r=look sX.2 r):lr Γ tab ops base sX j o d:=by
 have acZ:=K6 aq;have bt:∀sK want hP,o.guard=some (sK,want)->(ops[sK]?).bind (·.dst)=some hP->look s.1 hP=look sX.1 hP:=fun sK want hP I G=>bv hP (by
  unfold uH;rw[I];simp[G])
 unfold lr at *;refine⟨h.1,?_⟩;have G:=h.2;cases jB:d.did with
 |false =>
  rw[jB]at G;refine⟨G.1,G.2.1,G.2.2.1,?_⟩;have av:=G.2.2.2;unfold p8 at *;split at av
  ·exact av
  ·rename_i sK want JU;obtain⟨hP,cO,cL⟩:=av;refine⟨hP,cO,?_⟩;rw[<- bt sK want hP JU cO];exact cL
 |true =>
  rw[jB]at G;obtain⟨b8,vs,p,Y,aS,bj,bK,c4⟩:=G;have qy:=aB jB;refine⟨?_,vs,p,?_,?_,bj,?_,c4⟩
  ·unfold qc at *;split at b8
   ·trivial
   ·rename_i sK want JU;obtain⟨hP,cO,cL⟩:=b8;exact⟨hP,cO,by rw[<- bt sK want hP JU cO];exact cL⟩
  ·rw[<- Y];exact(I8 fun t bm=>bv t (by unfold uH;rw[acZ];exact List.mem_append_left _ bm)).symm
  ·rw[<- aS,UH fun r aw=>qy r (List.mem_append_left _ aw)]
  ·rw[<- bK,RB fun r aw=>qy r (List.mem_append_right _ aw)]

theorem vO:∀(a l:List Nat),meets a l=true↔∃r∈a,r∈l
 |[],l=>by simp[meets]
 |r::a,l=>by
  simp only[meets];cases h:hg l r with
  |true=>simp[(vQ l r).1 h]
  |false =>
   have:r∉l:=fun aw=>by rw[(vQ l r).2 aw]at h;cases h
   simp[vO a l,this]

theorem QN(ops:List Oper)(a b:Oper):xe ops a b=true↔(∃t∈a.dst.toList,t∈uH ops b++b.dst.toList)\/∃t∈b.dst.toList,t∈uH ops a:=by
 unfold xe;split
 ·rename_i h;rw[<- vO,h];simp
 ·rename_i h;rw[<- vO,<- vO,h];simp

theorem Y1(a b:hM):zr a b=true↔(∃t∈a.writes,t∈b.reads++b.writes)\/∃t∈b.writes,t∈a.reads:=by
 unfold zr;split
 ·rename_i h;rw[<- vO,h];simp
 ·rename_i h;rw[<- vO,<- vO,h];simp

theorem YY{ops:List Oper}{ms:List Nat}{o:Oper}{j:Nat}:∀{l:List Oper} {i:Nat},wB ops ms o j i l=true->∀k a,l[k]? = some a->i+k<j->xe ops a o=true->kl ms (i+k) j=true
 |[],i,_,k,a,bl,_,_=>by simp at bl
 |b::l,i,h,k,a,bl,dX,aA=>by
  simp only[wB]at h;split at h
  ·rename_i hle;have:=Nat.le_of_ble_eq_true hle;omega
  ·have pH:xe ops b o=true->kl ms i j=true:=fun ab3=>by
    rw[ab3]at h;simp only at h;split at h
    ·assumption
    ·cases h
   have acW:wB ops ms o j (i+1) l=true:=by
    split at h
    ·split at h
     ·exact h
     ·cases h
    ·exact h
   cases k with
   |zero=>simp at bl;subst bl;exact pH aA
   |succ k =>
    have:=YY acW k a (by simpa using bl) (by omega) aA;rwa[show i+(k+1)=i+1+k by omega]

theorem YZ{ops:List Oper}{ms:List Nat}:∀{l:List Oper} {j:Nat},B6 ops ms j l=true->∀k o,l[k]? = some o->wB ops ms o (j+k) 0 ops=true
 |[],_,_,k,o,aY=>by simp at aY
 |a::l,j,h,k,o,aY=>by
  simp only[B6]at h;split at h
  ·rename_i I;cases k with
   |zero=>simp at aY;subst aY;exact I
   |succ k =>
    have:=YZ h k o (by simpa using aY);rwa[show j+(k+1)=j+1+k by omega]
  ·cases h

theorem NT{ms:List Nat}{b:hM}:∀{l:List hM},zs ms b l=true->∀a∈l,zr a b=true->kl ms a.i b.i=true
 |[],_,a,bl,_=>by cases bl
 |q::l,h,a,bl,aA=>by
  simp only[zs]at h;split at h
  ·rename_i aH;split at h
   ·rename_i ay;rcases List.mem_cons.1 bl with rfl|bl
    ·exact ay
    ·exact NT h a bl aA
   ·cases h
  ·rename_i aH;rcases List.mem_cons.1 bl with rfl|bl
   ·rw[aA]at aH;cases aH
   ·exact NT h a bl aA

theorem alI{ms:List Nat}{b:hM}{l:List hM}(h:uG ms (b::l)=true):uG ms l=true/\zs ms b l=true:=by
 simp only[uG]at h;split at h
 ·rename_i I;exact⟨h,I⟩
 ·cases h

theorem Y2{ms:List Nat}:∀{ds:List hC} {i:Nat} {eJ:List hM},uG ms (zt i eJ ds)=true->uG ms eJ=true /\
  (∀a∈eJ,∀k d,ds[k]? = some d->d.did=true->zr a ⟨i+k,d.reads,sN d.m⟩=true->kl ms a.i (i+k)=true) /\
  ∀k fb d ly,k<fb->ds[k]? = some d->ds[fb]? = some ly->d.did=true->ly.did=true->zr ⟨i+k,d.reads,sN d.m⟩ ⟨i+fb,ly.reads,sN ly.m⟩=true->kl ms (i+k) (i+fb)=true
 |[],i,eJ,h=>⟨h,fun a _ k d bH=>by simp at bH,fun k fb d ly _ bH=>by simp at bH⟩
 |d0::ds,i,eJ,h=>by
  unfold zt at h;obtain⟨I,G,Y⟩:=Y2 h;cases vu:d0.did with
  |false =>
   rw[vu]at I G;refine⟨I,fun a bl k d bH jB aA=>?_,fun k fb d ly dX bH jl e cd aA=>?_⟩
   ·cases k with
    |zero=>simp at bH;subst bH;rw[vu]at jB;cases jB
    |succ k =>
     rw[show i+(k+1)=i+1+k by omega]at aA |-;exact G a bl k d (by simpa using bH) jB aA
   ·cases fb with
    |zero=>omega
    |succ fb =>
     cases k with
     |zero=>simp at bH;subst bH;rw[vu]at e;cases e
     |succ k =>
      rw[show i+(k+1)=i+1+k by omega,show i+(fb+1)=i+1+fb by omega]at aA |-;exact Y k fb d ly (by omega) (by simpa using bH) (by simpa using jl) e cd aA
  |true =>
   rw[vu]at I G;obtain⟨aS,bj⟩:=alI I;refine⟨aS,fun a bl k d bH jB aA=>?_,fun k fb d ly dX bH jl e cd aA=>?_⟩
   ·cases k with
    |zero=>simp at bH;subst bH;exact NT bj a bl aA
    |succ k =>
     rw[show i+(k+1)=i+1+k by omega]at aA |-;exact G a (List.mem_cons_of_mem _ bl) k d (by simpa using bH) jB aA
   ·cases fb with
    |zero=>omega
    |succ fb =>
     cases k with
     |zero =>
      simp at bH;subst bH;simp only[Nat.add_zero]at aA |-;rw[show i+(fb+1)=i+1+fb by omega]at aA |-;exact G _ (List.mem_cons_self ..) fb ly (by simpa using jl) cd aA
     |succ k =>
      rw[show i+(k+1)=i+1+k by omega,show i+(fb+1)=i+1+fb by omega]at aA |-;exact Y k fb d ly (by omega) (by simpa using bH) (by simpa using jl) e cd aA

theorem Jp{β:Type}(n:Nat)(k:Nat->β):forced n k=k n:=by cases n<;>rfl

theorem GA{ms:List Nat}{i:Nat}:∀{es:List Edge} {acc:Nat},Nat.testBit (bitsOf acc ms es) i=true->Nat.testBit acc i=true\/∃e∈es,Region.binds .any e=true/\(i=e.on\/Nat.testBit ((ms[e.on]?).getD 0) i=true)
 |[],acc,h=>.inl h
 |e::es,acc,h=>by
  simp only[bitsOf]at h;split at h
  ·rename_i ay;rcases GA h with h|⟨cd,I,G⟩
   ·rw[Nat.testBit_or,Nat.testBit_or,Bool.or_eq_true,Bool.or_eq_true]at h;rcases h with(h|h)|h
    ·exact .inl h
    ·rw[Nat.testBit_two_pow]at h;simp at h;exact .inr ⟨e,List.mem_cons_self ..,ay,.inl h.symm⟩
    ·exact .inr ⟨e,List.mem_cons_self ..,ay,.inr h⟩
   ·exact .inr ⟨cd,List.mem_cons_of_mem _ I,G⟩
  ·rcases GA h with h|⟨cd,I,G⟩
   ·exact .inl h
   ·exact .inr ⟨cd,List.mem_cons_of_mem _ I,G⟩

theorem Pl:∀{l:List Oper} {ms:List Nat},(jQ ms l).length=ms.length+l.length/\∀k,k<ms.length->(jQ ms l)[k]? = ms[k]?
 |[],ms=>⟨by simp[jQ],fun _ _=>rfl⟩
 |o::l,ms=>by
  simp only[jQ,Jp];obtain⟨I,G⟩:=Pl (l:=l) (ms:=ms++[bitsOf 0 ms o.after.toList]);refine⟨by rw[I];simp;omega,fun k ae=>?_⟩;rw[G k (by simp;omega),List.getElem?_append_left ae]

theorem Pm:∀{l:List Oper} {ms:List Nat},∀k o,l[k]? = some o->∀i,kl (jQ ms l) i (ms.length+k)=true ->
  ∃e∈o.after,Region.binds .any e=true/\(i=e.on\/kl (jQ ms l) i e.on=true)
 |[],ms,k,o,aY,i,h=>by simp at aY
 |o'::l,ms,0,o,aY,i,h=>by
  simp at aY;subst aY;simp only[jQ,Jp]at h |-;obtain⟨I,G⟩:=Pl (l:=l) (ms:=ms++[bitsOf 0 ms o'.after.toList]);unfold kl at h;rw[Nat.add_zero,G ms.length (by simp)]at h;simp at h;rcases GA h with h|⟨e,bv,ay,hi⟩
  ·simp at h
  ·refine⟨e,by simpa using bv,ay,hi.imp id fun hi=>?_⟩;unfold kl
   by_cases dX:e.on<ms.length
   ·rw[G e.on (by simp;omega),List.getElem?_append_left dX];exact hi
   ·rw[List.getElem?_eq_none (by omega)]at hi;simp at hi
 |o'::l,ms,k+1,o,aY,i,h=>by
  simp only[jQ,Jp]at h |-;have:=Pm (l:=l) (ms:=ms++[bitsOf 0 ms o'.after.toList]) k o (by simpa using aY) i (by
   rw[show(ms++[bitsOf 0 ms o'.after.toList]).length+k=ms.length+(k+1)by simp;omega];exact h)
  exact this

theorem Gu{j:Nat}:∀{es:List Edge},zS j es=true->∀e∈es,Region.binds .any e=true->e.on<j
 |[],_,e,bv,_=>by cases bv
 |q::es,h,e,bv,ay=>by
  simp only[zS]at h;split at h
  ·split at h
   ·rename_i I;rcases List.mem_cons.1 bv with rfl|bv
    ·exact Nat.le_of_ble_eq_true I
    ·exact Gu h e bv ay
   ·cases h
  ·rename_i aH;rcases List.mem_cons.1 bv with rfl|bv
   ·rw[ay]at aH;cases aH
   ·exact Gu h e bv ay

theorem Pj:∀{l:List Oper} {j:Nat},zU j l=true->∀k o,l[k]? = some o->∀e∈o.after,Region.binds .any e=true->e.on<j+k
 |[],_,_,k,o,aY=>by simp at aY
 |q::l,j,h,k,o,aY=>by
  simp only[zU]at h;split at h
  ·rename_i I;cases k with
   |zero=>simp at aY;subst aY;intro e bv ay;exact Gu I e (by simpa using bv) ay
   |succ k =>
    intro e bv ay;have:=Pj h k o (by simpa using aY) e bv ay;omega
  ·cases h
end
end bF
end Go.Proofs.YtlbppjmekiemiabGreatDoor


/- The executor on data: a region, whatever its order: the premise RegionOk. No condition. -/
namespace Go.Proofs.YtlbppjmekiemiabGreatDoor
namespace bF
section
variable {P:Program} {tab:cm} {Γ:Ctx} {N:Nat} {fH:dp} {w0:World} {S0:Nat->Prop}

theorem fC.Tl{env:Env}{mem fl:Mem}{a:Act}{w:World}{O:dp}{S:Nat->Prop}(R:fC tab N env mem a w O S)(h:look fl=look mem):fC tab N env fl a w O S :=
 ⟨R.size,R.defers,h▸R.inv,fun t v aR=>by rw[h];exact R.env t v aR⟩

theorem lr.Q1{ops:List Oper}{base j:Nat}{o:Oper}{d:hC}{s:Env×Mem}(h:lr Γ tab ops base s j o d):d.dst=o.dst:=h.1

theorem lr.ae4{ops:List Oper}{base j:Nat}{o:Oper}{d:hC}{s:Env×Mem}(h:lr Γ tab ops base s j o d)(bH:d.did=false):d.m=[]:=by
 unfold lr at h;rw[bH]at h;exact h.2.2.1

def lf(b7:Nat->Bool)(j:Nat):Nat->Bool:=fun x=>b7 x||decide (x=j)

theorem due{ops:List Oper}{base:Nat}{ds:List hC}{kq:Env×Mem}{b7:Nat->Bool}{j:Nat}{o:Oper}{d:hC}(mE:m2 Γ tab ops base 0 ops ds kq)(fW:xX ops (zt 0 [] ds)=true)
  (kj:∀i k,b7 k=true->kl (jQ [] ops) i k=true->b7 i=true) (aT:b7 j=false) (AK:∀i,kl (jQ [] ops) i j=true->b7 i=true) (aY:ops[j]? = some o) (bH:ds[j]? = some d) :
  lr Γ tab ops base (iW b7 0 ds kq) j o d/\(∀t,look (oq d (iW b7 0 ds kq)).1 t=look (iW (lf b7 j) 0 ds kq).1 t)/\∀r,look (oq d (iW b7 0 ds kq)).2 r=look (iW (lf b7 j) 0 ds kq).2 r:=by
 obtain⟨I,G,Y,_⟩:=K8 fW;have hlen:=mE.len;have D3:∀(k:Nat) (gO:hC),ds[k]? = some gO->∃ok:Oper,ops[k]? = some ok/\gO.dst=ok.dst/\(gO.did=false->gO.m=[]):=fun k gO ae=>by
  have dX:k<ops.length:=by have:=(List.getElem?_eq_some_iff.1 ae).1;omega
  have aY:ops[k]? = some ops[k]:=List.getElem?_eq_getElem dX;have:=mE.at k _ gO aY ae;exact⟨_,aY,this.Q1,this.ae4⟩
 have OS:∀(i k:Nat) (Ez ok:Oper),ops[i]? = some Ez->ops[k]? = some ok->i<k->xe ops Ez ok=true->kl (jQ [] ops) i k=true:=fun i k Ez ok hi ae dX aA=>by
  have:=YY (YZ I k ok ae) i Ez hi (by omega) aA;simpa using this
 have Gc:=(Y2 Y).2.2;simp only[Nat.zero_add]at Gc;have aq:=K1 G o (List.mem_of_getElem? aY);have tO:d.dst=o.dst:=by
  obtain⟨o',aN,aX,_⟩:=D3 j d bH;rw[aY]at aN;cases aN;exact aX
 have T:∀t,t∈uH ops o\/o.dst=some t->∀(k:Nat) (gO:hC),ds[k]? = some gO->gO.dst=some t->k≠j->b7 k=decide (k<j):=fun t bm k gO ae aca dj=>by
  obtain⟨ok,aN,aX,_⟩:=D3 k gO ae;have J8:ok.dst=some t:=aX▸aca;rcases Nat.lt_or_gt_of_ne dj with dX|JT
  ·have:kl (jQ [] ops) k j=true:=OS k j ok o aN aY dX ((QN ops ok o).2 (.inl ⟨t,by simp[J8],by
    rcases bm with bm|bm
    ·exact List.mem_append_left _ bm
    ·exact List.mem_append_right _ (by simp[bm])⟩))
   rw[AK k this];simp[dX]
  ·have:kl (jQ [] ops) j k=true:=OS j k o ok aY aN JT ((QN ops o ok).2 (by
    rcases bm with bm|bm
    ·exact .inr ⟨t,by simp[J8],bm⟩
    ·exact .inl ⟨t,by simp[bm],List.mem_append_right _ (by simp[J8])⟩))
   have J6:decide (k<j)=false:=by simp;omega
   rw[J6];cases JA:b7 k with
   |false=>rfl
   |true=>rw[kj j k JA this]at aT;cases aT
 have gz:∀r,d.did=true->r∈d.reads++sN d.m->∀(k:Nat) (gO:hC),ds[k]? = some gO->r∈sN gO.m->k≠j->b7 k=decide (k<j):=fun r jB aw k gO ae tV dj=>by
  obtain⟨ok,aN,aX,cS⟩:=D3 k gO ae;have h7:gO.did=true:=by
   cases h:gO.did with
   |true=>rfl
   |false=>rw[cS h]at tV;simp[sN]at tV
  rcases Nat.lt_or_gt_of_ne dj with dX|JT
  ·have:kl (jQ [] ops) k j=true:=Gc k j gO d dX ae bH h7 jB ((Y1 _ _).2 (.inl ⟨r,tV,aw⟩));rw[AK k this];simp[dX]
  ·have:kl (jQ [] ops) j k=true:=Gc j k d gO JT bH ae jB h7 ((Y1 _ _).2 (by
    rcases List.mem_append.1 aw with aw|aw
    ·exact .inr ⟨r,tV,aw⟩
    ·exact .inl ⟨r,aw,List.mem_append_right _ tV⟩))
   have J6:decide (k<j)=false:=by simp;omega
   rw[J6];cases JA:b7 k with
   |false=>rfl
   |true=>rw[kj j k JA this]at aT;cases aT
 have xE:∀{β:Type} (f:hC->β) (k:Nat) (p:β),(ds.map f)[k]? = some p->∃gO,ds[k]? = some gO/\f gO=p:=fun f k p ad=>by
  rw[List.getElem?_map]at ad;cases ae:ds[k]? with
  |none=>rw[ae]at ad;cases ad
  |some gO=>rw[ae]at ad;exact⟨gO,rfl,by simpa using ad⟩
 refine⟨?_,fun t=>?_,fun r=>?_⟩
 ·have oE:=mE.at j o d aY bH;simp only[Nat.zero_add]at oE;refine oE.move aq (fun t bm=>?_) (fun jB r aw=>?_)
  ·rw[As,As];refine(Au (fun k p ad az=>?_) rfl).symm;obtain⟨gO,cO,cL⟩:=xE _ k p ad;subst cL;simp only[Nat.zero_add]
   by_cases e:k=j
   ·subst e;simp[aT]
   ·exact T t (.inl bm) k gO cO (KF gO t az) e
  ·rw[At,At];refine(Au (fun k p ad az=>?_) rfl).symm;obtain⟨gO,cO,cL⟩:=xE _ k p ad;subst cL;simp only[Nat.zero_add]
   by_cases e:k=j
   ·subst e;simp[aT]
   ·exact gz r jB aw k gO cO ((En _ _).1 az) e
 ·rw[Pb,As,As];refine(Jn (D':=lf b7 j) (j:=j) (p:=vY d) (by rw[List.getElem?_map,bH];rfl) (fun x aG=>?_) (by simpa using aT) (by simp[lf]) (fun k q dX aH bj bK=>?_)).symm
  ·simp only[Nat.zero_add]at aG;simp[lf,aG]
  ·obtain⟨gO,cO,cL⟩:=xE _ k q aH;subst cL;simp only[Nat.zero_add];rw[T t (.inr (tO▸KF d t bK)) k gO cO (KF gO t bj) (by omega)];simp;omega
 ·show look (d.m++(iW b7 0 ds kq).2) r=_;rw[At,At];refine(Jn (D':=lf b7 j) (j:=j) (p:=d.m) (by rw[List.getElem?_map,bH];rfl) (fun x aG=>?_) (by simpa using aT) (by simp[lf]) (fun k q dX aH bj bK=>?_)).symm
  ·simp only[Nat.zero_add]at aG;simp[lf,aG]
  ·obtain⟨gO,cO,cL⟩:=xE _ k q aH;subst cL;simp only[Nat.zero_add];have jB:d.did=true:=by
    cases h:d.did with
    |true=>rfl
    |false =>
     obtain⟨_,_,_,cS⟩:=D3 j d bH;rw[cS h]at bK;simp[look]at bK
   rw[gz r jB (List.mem_append_right _ ((En _ _).1 bK)) k gO cO ((En _ _).1 bj) (by omega)];simp;omega

theorem ZH{ops:List Oper}{base:Nat}{ds:List hC}{kq:Env×Mem}{Q:Exit->Act->World->Prop}(bI:fs P tab)(lZ:Sound P tab Γ)(bA:tf N ops=true)(mE:m2 Γ tab ops base 0 ops ds kq)(fW:xX ops (zt 0 [] ds)=true)
  (qs:∀ey w' bU S',fC tab N (nZ ds kq).1 (nZ ds kq).2 ey w' bU S'->Ext fH (look kq.2) w0 S0 bU (look (nZ ds kq).2) w' S'->Q .normal ey w') :
  ∀(fuel:Nat) (listed:Array Bool) (L:List Nat) (a:Act) (w:World) (O:dp) (S:Nat->Prop) (b7:Nat->Bool),(∀i,b7 i=listed.getD i false)->listed.size=ops.length->L.length=fuel->(∀i,i<ops.length->b7 i=false->i∈L) ->
   (∀i k,b7 k=true->kl (jQ [] ops) i k=true->b7 i=true)->fC tab N (iW b7 0 ds kq).1 (iW b7 0 ds kq).2 a w O S->Ext fH (look kq.2) w0 S0 O (look (iW b7 0 ds kq).2) w S ->
   wpAny P .any ops.toArray Q fuel listed a w:=by
 obtain⟨_,_,_,aS⟩:=K8 fW;have hlen:=mE.len;intro fuel
 induction fuel with
 |zero =>
  intro listed L a w O S b7 iX fw tF kF kj R a6;have k7:∀i,i<ops.length->b7 i=true:=fun i hi=>by
   cases h:b7 i with
   |true=>rfl
   |false =>
    have:=kF i hi h;have:L=[]:=List.length_eq_zero_iff.1 tF
    simp_all
  rw[Jl _ _ _ _ (fun k ae=>by rw[Nat.zero_add];exact k7 k (by omega))]at R a6;refine⟨?_,qs a w O S R a6⟩;cases aw:Region.ready .any ops.toArray listed with
  |nil=>rfl
  |cons i rest =>
   have hi:i∈Region.ready .any ops.toArray listed:=by rw[aw];exact List.mem_cons_self ..
   obtain⟨cO,o,cL,_⟩:=mem_ready.1 hi;have dX:i<ops.length:=by simpa using(List.getElem?_eq_some_iff.1 (by simpa using cL)).1
   have:=k7 i dX;rw[iX i]at this;simp only[Array.getD_eq_getD_getElem?,Array.getElem?_eq_getElem (show i<listed.size by omega),Option.getD_some]at cO this;rw[cO]at this;cases this
 |succ fuel de =>
  intro listed L a w O S b7 iX fw tF kF kj R a6;refine⟨fun aw=>?_,fun j aT=>?_⟩
  ·have k7:∀n i,i<n->i<ops.length->b7 i=true:=by
    intro n
    induction n with
    |zero=>intro i h;omega
    |succ n aez =>
     intro i _ hi;cases h:b7 i with
     |true=>rfl
     |false =>
      have:i∈Region.ready .any ops.toArray listed:=by
       rw[iX i]at h;refine mem_ready.2 ⟨?_,ops[i],by simp[hi],fun e bv ay=>?_⟩
       ·simp only[Array.getD_eq_getD_getElem?,Array.getElem?_eq_getElem (show i<listed.size by omega),Option.getD_some]at h |-;exact h
       ·have:=Pj aS i ops[i] (List.getElem?_eq_getElem hi) e bv ay;rw[<- iX];exact aez e.on (by omega) (by omega)
      rw[aw]at this;cases this
   rw[Jl _ _ _ _ (fun k ae=>by rw[Nat.zero_add];exact k7 (k+1) k (by omega) (by omega))]at R a6;exact qs a w O S R a6
  ·obtain⟨cO,o,cL,eH⟩:=mem_ready.1 aT;have dX:j<ops.length:=by simpa using(List.getElem?_eq_some_iff.1 (by simpa using cL)).1
   have aY:ops[j]? = some o:=by simpa using cL
   have RZ:ds[j]? = some ds[j]:=List.getElem?_eq_getElem (by omega);generalize RY:ds[j]=d at RZ;have RN:b7 j=false:=by
    rw[iX j];simp only[Array.getD_eq_getD_getElem?,Array.getElem?_eq_getElem (show j<listed.size by omega),Option.getD_some]at cO |-;exact cO
   have AK:∀i,kl (jQ [] ops) i j=true->b7 i=true:=fun i hi=>by
    obtain⟨e,aN,aX,cS⟩:=Pm (ms:=[]) j o aY i (by simpa using hi);have RM:b7 e.on=true:=by rw[iX];exact eH e aN aX
    rcases cS with rfl|cS
    ·exact RM
    ·exact kj i e.on RM cS
   obtain⟨jB,h5,DO⟩:=due mE fW kj RN AK aY RZ;have abK:∀i,lf b7 j i=(listed.setIfInBounds j true).getD i false:=fun i=>by
    by_cases e:i=j
    ·subst e;simp[lf,Array.getD_eq_getD_getElem?,show i<listed.size by omega]
    ·rw[getD_set_ne false (Ne.symm e),<- iX i];simp[lf,e]
   have ab5:∀i k,lf b7 j k=true->kl (jQ [] ops) i k=true->lf b7 j i=true:=fun i k ae hi=>by
    by_cases e:k=j
    ·subst e;simp[lf,AK i hi]
    ·have:b7 k=true:=by simpa[lf,e]using ae
     simp[lf,kj i k this hi]
   have next:∀ey w' bU S',fC tab N (oq d (iW b7 0 ds kq)).1 (oq d (iW b7 0 ds kq)).2 ey w' bU S'->Ext O (look (iW b7 0 ds kq).2) w S bU (look (oq d (iW b7 0 ds kq)).2) w' S' ->
     wpAny P .any ops.toArray Q fuel (listed.setIfInBounds j true) ey w':=fun ey w' bU S' ju iS=>by
    have aB:=funext DO;refine de (listed.setIfInBounds j true) (L.erase j) ey w' bU S' (lf b7 j) abK (by simpa using fw) ?_ (fun i hi bH=>?_) ab5 ((ju.Tl aB.symm).KC fun t=>(h5 t).symm) ?_
    ·rw[List.length_erase_of_mem (kF j dX RN)];omega
    ·have dj:i≠j:=fun e=>by subst e;simp[lf]at bH
     have:b7 i=false:=by simpa[lf,dj]using bH
     exact(List.mem_erase_of_ne dj).2 (kF i hi this)
    ·rw[<- aB];exact a6.trans iS
   have RV:∀t,o.dst=some t->t<N:=CF bA o (List.mem_of_getElem? aY);unfold wpOp;rw[cL];simp only;have ss:=jB.Q1;unfold lr at jB;have G:=jB.2;cases aA:d.did with
   |true =>
    rw[aA]at G;obtain⟨b8,vs,p,aN,aX,cS,lz,m8⟩:=G;have Km:Region.wanted o (yielded ops.toArray a.tmps)=true:=by
     unfold qc at b8;split at b8
     ·rename_i bt;simp[Region.wanted,bt]
     ·rename_i sK want bt;obtain⟨hP,d1,d2⟩:=b8;rw[NZ bt d1 (sU (R.env hP _ d2).1)];simp
    rw[if_pos Km];refine .inl (YK bI lZ R aN aX cS (Av lz).1 m8 RV fun ey w' bU S' ju iS=>?_);refine next ey w' bU S' ?_ iS
    unfold oq;rw[ss];exact ju
   |false =>
    rw[aA]at G;obtain⟨aN,aX,cS,av⟩:=G;have Km:Region.wanted o (yielded ops.toArray a.tmps)=false:=by
     unfold p8 at av;split at av
     ·exact av.elim
     ·rename_i sK want bt;obtain⟨hP,d1,d2|d2⟩:=av
      ·rw[NZ bt d1 (sU (R.env hP _ d2).1)];simp
      ·exact Zb bt d1 ((R.env hP _ d2).2 rfl)
    rw[if_neg (by simp[Km])];refine next (a.put o.dst Go.undef) w O S ?_ ?_
    ·unfold oq;rw[ss,aN,aX];exact R.skip RV
    ·unfold oq;rw[aX];exact Ext.refl

theorem Te{ops:List Oper}{base:Nat}:∀{rest:List Oper} {ds:List hC} {i n:Nat} {s:Env×Mem},m2 Γ tab ops base i rest ds s->base+8*(i+rest.length)<=n->jt n s.2->jt n (nZ ds s).2
 |[],[],_,_,_,_,_,h=>h
 |o::rest,d::ds,i,n,s,aA,aq,h=>by
  unfold nZ;simp only[List.length_cons]at aq;refine Te aA.2 (by omega) ?_;have jB:=aA.1;unfold lr at jB;have G:=jB.2;cases bH:d.did with
  |false =>
   rw[bH]at G;show jt n (d.m++s.2);rw[G.2.1];exact h
  |true =>
   rw[bH]at G;obtain⟨_,vs,p,_,_,_,lz,_⟩:=G;exact RD (Av lz).2 h (by omega)
 |[],_::_,_,_,_,aA,_,_=>aA.elim
 |_::_,[],_,_,_,aA,_,_=>aA.elim

theorem Ext.Ex{O:dp}{mem:eb}{w:World}{S:Nat->Prop}{n:Nat}{bU:dp}{fl:eb}{w':World}{S':Nat->Prop}(a6:Ext O mem { w with drawn:=n } S bU fl w' S'):Ext O mem w S bU fl w' S' :=
 ⟨a6.names,a6.kinds,a6.sub,a6.size,a6.heap,a6.only,a6.own,a6.os,a6.tape,a6.output⟩

theorem dE.Ex{w:World}{S:Nat->Prop}{n:Nat}{c:C}{x:Value}(h:dE tab w S c x):dE tab { w with drawn:=n } S c x :=
 h.mono (fun _ h=>h) (fun _ _=>rfl)

theorem fC.drawn{env:Env}{mem:Mem}{a:Act}{w:World}{O:dp}{S:Nat->Prop}(R:fC tab N env mem a w O S)(n:Nat):fC tab N env mem a { w with drawn:=n } O S:=by
 have a6:Ext O (look mem) w S O (look mem) { w with drawn:=n } S:=by
  have e:Ext O (look mem) w S O (look mem) w S:=Ext.refl;exact⟨e.names,e.kinds,e.sub,e.size,e.heap,e.only,e.own,e.os,e.tape,e.output⟩
 have C:∀{c x},fx tab O (look mem) w S c x->fx tab O (look mem) { w with drawn:=n } S c x:=fun h=>h.ext a6 R.inv
 refine⟨R.size,R.defers,⟨fun r B I G=>?_,R.inv.inj,R.inv.sep,R.inv.lt,R.inv.pow.of_heap rfl⟩,fun t v aR=>⟨zd a6 R.inv (R.env t v aR).1,(R.env t v aR).2⟩⟩;obtain⟨l,aN,aX⟩:=R.inv.rel r B I G;refine⟨l,aN,?_⟩;cases B with
 |dead=>cases l<;>exact aX
 |box cs =>
  cases l with
  |ez x=>exact aX
  |gB b =>
   obtain⟨vs,e,dI,eD,a3⟩:=aX;exact⟨vs,e,dI,eD,fun i c aA=>let ⟨y,cK,cN,dA⟩:=a3 i c aA;⟨y,cK,cN,C dA⟩⟩
 |set aF=>cases l<;>exact aX
 |eE t l' cs =>
  cases l with
  |gB b=>exact aX
  |ez x =>
   obtain⟨b,cap,cur,e,dI,eD,a3,a4,mn,mo,oj⟩:=aX;exact⟨b,cap,cur,e,dI,eD,a3,a4,mn,fun i j c hi aA=>let ⟨y,cK,cN,dA⟩:=mo i j c hi aA;⟨y,cK,cN,dA.Ex⟩,fun j c aA=>let ⟨mZ,y,cK,cN,dA⟩:=oj j c aA;⟨mZ,y,cK,cN,C dA⟩⟩
 |arr t l' =>
  cases l with
  |gB b=>exact aX
  |ez x =>
   rcases aX with aX|⟨b,cap,cur,e,dI,eD,a3,a4,mn,mo⟩
   ·exact .inl aX
   ·exact .inr ⟨b,cap,cur,e,dI,eD,a3,a4,mn,fun i j c hi aA=>let ⟨y,cK,cN,dA⟩:=mo i j c hi aA;⟨y,cK,cN,dA.Ex⟩⟩

theorem aim{mem0:eb}(bI:fs P tab)(lZ:Sound P tab Γ)(aB:P.follows .mixedOrders=true):zL P tab Γ N fH mem0 w0 S0:=by
 intro id ops draw K Q st a w bA h cx qs;obtain⟨O,S,R,c8,a6⟩:=cx;cases draw with
 |false =>
  refine wp_region ?_;have:=Rf bI lZ bA ops.toList 0 [] st a w O S rfl (by simp) h R (by simpa using c8) (fun db ey w' bU S' ju rX iS fb=>qs db ey w' ⟨bU,S',ju,rX,a6.trans iS⟩ fb);rw[List.range_eq_range'];simpa using this
 |true =>
  obtain⟨ds,mE,fW,db,D,ay,bv,jD⟩:=Rg ops.toList 0 [] st (fun _ h=>h) h;refine wp_region_any aB ?_;have D2:iW (fun _=>false) 0 ds (st.env,st.mem)=(st.env,st.mem):=Jm _ _ _ _ (fun _ _=>rfl);have ju:=R.drawn (w.drawn+1);have:=ZH (fH:=O) (S0:=S) (w0:={ w with drawn:=w.drawn+1 }) (ops:=ops.toList) (Q:=Q) bI lZ bA mE fW (fun ey w' bU S' r0 dO=>by
    refine qs db ey w' ⟨bU,S',(r0.Tl (by rw[jD])).KC bv,?_,a6.trans ?_⟩ D
    ·rw[jD,ay];exact Te mE (by simp) (fun r aw=>c8 r (by have:st.base+8*ops.toList.length<=r:=aw;omega))
    ·rw[jD];exact dO.Ex) ops.size (Array.replicate ops.size false) (List.range ops.size) a { w with drawn:=w.drawn+1 } O S (fun _=>false)
   (fun i=>by simp only[Array.getD_eq_getD_getElem?,Array.getElem?_replicate];split<;>rfl) (by simp) (by simp) (fun i hi _=>by simpa using hi) (fun i k h=>by cases h) (by rw[D2];exact ju) (by rw[D2];exact Ext.refl)
  simpa using this
end
end bF
end Go.Proofs.YtlbppjmekiemiabGreatDoor


/- The executor on data: the table of types, checked. No condition. -/
namespace Go.Proofs.YtlbppjmekiemiabGreatDoor
namespace bF

def uL:List C->List Value->Bool
 |[],[]=>true
 |.E .int n::cs,.int .i64 m::xs=>decide ((n:Int)=0)&&decide (m=0)&&uL cs xs
 |.E .bool b::cs,.bool c::xs=>(!b)&&(!c)&&uL cs xs
 |.E .str s::cs,.string t::xs=>List.isEmpty s&&List.isEmpty t.data.toList&&uL cs xs
 |.nil _::cs,.slice none n m::xs=>Nat.beq n 0&&Nat.beq m 0&&uL cs xs
 |.undef::cs,x::xs=>x.oneCell' && uL cs xs
 |_,_=>false

theorem Pu{t:ByteArray}(h:List.isEmpty t.data.toList=true):t=⟨#[]⟩:=by
 cases t with
 |mk d =>
  congr 1;have:d.toList=[]:=List.isEmpty_iff.1 h;exact Array.toList_inj.1 this

theorem amb:∀{cs:List C} {xs:List Value},uL cs xs=true->r3 cs xs:=by
 intro cs xs h
 fun_induction uL cs xs with
 |case1=>trivial
 |case2 n cs m xs de =>
  simp only[Bool.and_eq_true,decide_eq_true_eq]at h;obtain⟨⟨I,G⟩,Y⟩:=h;exact⟨I,by rw[G],de Y⟩
 |case3 b cs c xs de =>
  simp only[Bool.and_eq_true,Bool.not_eq_true']at h;obtain⟨⟨I,G⟩,Y⟩:=h;exact⟨I,by rw[G],de Y⟩
 |case4 s cs t xs de =>
  simp only[Bool.and_eq_true]at h;obtain⟨⟨I,G⟩,Y⟩:=h;exact⟨List.isEmpty_iff.1 I,by rw[Pu G],de Y⟩
 |case5 t cs n m xs de =>
  simp only[Bool.and_eq_true]at h;obtain⟨⟨I,G⟩,Y⟩:=h;exact⟨by rw[Nat.eq_of_beq_eq_true I,Nat.eq_of_beq_eq_true G],de Y⟩
 |case6 cs x xs de =>
  simp only[Bool.and_eq_true]at h;exact⟨h.1,de h.2⟩
 |case7=>cases h

def IL:C->Value->Bool
 |.E .int n,.int .i64 m=>decide ((n:Int)=m)
 |.E .bool b,.bool c=>b==c
 |.E .str s,.string t=>List.isEmpty s&&List.isEmpty t.data.toList
 |.E (.list _) l,.slice none n m=>List.isEmpty l&&Nat.beq n 0&&Nat.beq m 0
 |_,_=>false

def xh:List C->List Value->Bool
 |[],_=>true
 |c::cs,x::xs=>IL c x&&x.oneCell' && xh cs xs
 |_,_=>false

theorem aaD{tab:cm}{c:C}{x:Value}(h:IL c x=true)(w:World)(S:Nat->Prop):dE tab w S c x:=by
 unfold IL at h;split at h
 ·have:(_:Int)=_:=of_decide_eq_true h;rw[<- this];exact .int _
 ·have:=beq_iff_eq.1 h;rw[<- this];exact .bool _
 ·simp only[Bool.and_eq_true]at h;rw[List.isEmpty_iff.1 h.1,Pu h.2];exact .str []
 ·simp only[Bool.and_eq_true]at h;obtain⟨⟨I,G⟩,Y⟩:=h;rw[List.isEmpty_iff.1 I,Nat.eq_of_beq_eq_true G];exact .empty _ _ _
 ·cases h

theorem QV{tab:cm}:∀{cs:List C} {xs:List Value},xh cs xs=true->∀(j:Nat) c,cs[j]? = some c->∃y,xs[j]? = some y/\y.oneCell'=true/\∀w S,dE tab w S c y
 |[],_,_,j,c,aA=>by simp at aA
 |_::_,[],h,j,c,aA=>by simp[xh]at h
 |c::cs,x::xs,h,0,d,bH=>by
  simp only[xh,Bool.and_eq_true]at h;simp at bH;subst bH;exact⟨x,rfl,h.1.2,fun w S=>aaD h.1.1 w S⟩
 |c::cs,x::xs,h,j+1,d,bH=>by
  simp only[xh,Bool.and_eq_true]at h;simp at bH |-;exact QV h.2 j d bH

def Gl:Bool->Value->Bool
 |true,.agg _=>true
 |true,_=>false
 |false,.agg _=>false
 |false,_=>true

def Eg:TypeDesc->Bool
 |.struct _ | .array _ _=>true
 |_=>false

def ui:List (Nat×Nat)->List Nat->List Nat->Bool
 |[],[],[]=>true
 |(a,b)::r,x::xs,y::ys=>Nat.beq a x&&Nat.beq b y&&ui r xs ys
 |_,_,_=>false

theorem UL:∀{l:List (Nat×Nat)} {xs ys:List Nat},ui l xs ys=true->l=xs.zip ys/\ys.length=xs.length
 |[],[],[],_=>⟨rfl,rfl⟩
 |(a,b)::r,x::xs,y::ys,h=>by
  simp only[ui,Bool.and_eq_true]at h;obtain⟨⟨I,G⟩,Y⟩:=h;obtain⟨aN,aX⟩:=UL Y;exact⟨by rw[aN,Nat.eq_of_beq_eq_true I,Nat.eq_of_beq_eq_true G];rfl,by simp[aX]⟩
 |[],[],_::_,h=>by simp[ui]at h
 |[],_::_,_,h=>by simp[ui]at h
 |_::_,[],_,h=>by simp[ui]at h
 |_::_,_::_,[],h=>by simp[ui]at h

def vS:List Nat->List Nat->Bool
 |[],[]=>true
 |a::as,b::au=>Nat.beq a b&&vS as au
 |_,_=>false

theorem KX:∀{l m:List Nat},vS l m=true->l=m
 |[],[],_=>rfl
 |a::as,b::au,h=>by
  simp only[vS,Bool.and_eq_true]at h;rw[Nat.eq_of_beq_eq_true h.1,KX h.2]
 |[],_::_,h=>by simp[vS]at h
 |_::_,[],h=>by simp[vS]at h

def Tb(P:Program)(aM:c9)(d:TypeDesc):Bool :=
 match aM.hy,d with
 |.int,.int .i64=>true
 |.bool,.bool=>true
 |.str,.string=>true
 |.u64,.int .u64=>true
 |.slice t e,.slice cd=>Nat.beq cd e&&(match P.info? e with
  |some i=>Nat.beq i.size t.width&&Nat.beq i.bytes aM.bytes&&Nat.ble 1 t.width&&Nat.ble 1 aM.bytes&&(match i.zero with
   |some bg=>Nat.beq bg.cells.size t.width&&bg.cells.toList.all Value.oneCell' && (match t.qL with|true=>xh (t.cells t.H) bg.cells.toList|false=>true)
   |none=>false)
  |none=>false)
 |.struct,.struct c7=>(match c7.toList.mapM (fun f=>(P.info? f.type).map fun i=>(f.offset,i.size))with
  |some l=>ui l aM.kM aM.jI
  |none=>false)&&aM.jI.all (fun n=>Nat.ble 1 n)
 |.array n nw,.array l4 e=>Nat.beq l4 n&&(match P.info? e,P.underlying e with
  |some i,some d=>Nat.beq i.size nw&&Nat.ble 1 nw&&vS aM.kM ((List.range n).map (·*nw))&&vS aM.jI (List.replicate n nw)&&(Eg d==Nat.ble 2 nw)
  |_,_=>false)
 |.qH,.map K a6=>(match P.underlying K with|some (.int .i64)=>true|_=>false)&&(match P.info? a6 with|some i=>(match i.zero with|some (.bool b)=>!b|_=>false)|none=>false)
 |.iface,.interface _=>true
 |.other,_=>true
 |_,_=>false

def NR(P:Program)(T:Nat)(aM:c9):Bool :=
 match P.info? T,P.underlying T with
 |some i,some d=>Nat.beq i.size aM.n&&(match i.zero with|some bg=>uL aM.zero bg.cells.toList&&Gl aM.agg bg|none=>false)&&Nat.beq aM.zero.length aM.n&&(Eg d==aM.agg)&&Tb P aM d
 |_,_=>false

theorem Xf{P:Program}{T:Nat}{d:TypeDesc}(h:P.underlying T=some d)(w:World):(isAgg T).run P w=.ok (Eg d) w:=by
 cases d<;>simp[isAgg,run_underlying h,Eg]

theorem ZG{bg:Value}(h:Gl true bg=true):∃cs,bg=.agg cs:=by
 cases bg<;>first|(cases h;done)|exact⟨_,rfl⟩

theorem ZF{bg:Value}(h:Gl false bg=true):bg.cells=#[bg]:=by
 cases bg<;>first|(cases h;done)|rfl

theorem alF{P:Program}{tab:cm}{T:Nat}{aM:c9}(h:NR P T aM=true):Gk P tab T aM:=by
 unfold NR at h;split at h
 ·rename_i i d hi bH;simp only[Bool.and_eq_true]at h;obtain⟨⟨⟨⟨I,G⟩,Y⟩,aS⟩,bj⟩:=h;cases dK:i.zero with
  |none=>rw[dK]at G;cases G
  |some bg =>
   rw[dK]at G;simp only[Bool.and_eq_true]at G;refine⟨⟨i,bg,hi,Nat.eq_of_beq_eq_true I,dK,amb G.1,by
    have bK:=G.2;split
    ·rename_i e;rw[e]at bK;exact ZG bK
    ·rename_i e;rw[e]at bK;exact ZF bK⟩,Nat.eq_of_beq_eq_true Y,fun w=>by rw[Xf bH,beq_iff_eq.1 aS],?_⟩
   unfold Tb at bj;split at bj
   ·rename_i ae;rw[ae];exact bH
   ·rename_i ae;rw[ae];exact bH
   ·rename_i ae;rw[ae];exact bH
   ·rename_i ae;rw[ae];exact bH
   ·rename_i t e cd ae;rw[ae];simp only[Bool.and_eq_true]at bj;obtain⟨a1,bf⟩:=bj;split at bf
    ·rename_i tY JV;simp only[Bool.and_eq_true]at bf;obtain⟨⟨⟨⟨bL,b0⟩,dm⟩,e3⟩,h8⟩:=bf;split at h8
     ·rename_i ama aew;simp only[Bool.and_eq_true]at h8;obtain⟨⟨fc,gJ⟩,hz⟩:=h8;refine⟨by rw[bH,Nat.eq_of_beq_eq_true a1],tY,ama,JV,Nat.eq_of_beq_eq_true bL,Nat.eq_of_beq_eq_true b0,aew,Nat.eq_of_beq_eq_true fc,Nat.le_of_ble_eq_true dm,Nat.le_of_ble_eq_true e3,gJ,fun aq=>?_⟩;rw[aq]at hz;exact QV hz
     ·cases h8
    ·cases bf
   ·rename_i c7 ae;rw[ae];simp only[Bool.and_eq_true]at bj;obtain⟨a1,bf⟩:=bj;split at a1
    ·rename_i l az;obtain⟨aN,aX⟩:=UL a1;exact⟨c7,bH,by rw[az,aN],aX,bf⟩
    ·cases a1
   ·rename_i n nw l4 e ae;rw[ae];simp only[Bool.and_eq_true]at bj;obtain⟨a1,bf⟩:=bj;split at bf
    ·rename_i tY am2 JV ab8;simp only[Bool.and_eq_true]at bf;obtain⟨⟨⟨⟨bL,b0⟩,dm⟩,e3⟩,h8⟩:=bf;exact⟨e,tY,by rw[bH,Nat.eq_of_beq_eq_true a1],JV,Nat.eq_of_beq_eq_true bL,by have:=Nat.le_of_ble_eq_true b0;omega,KX dm,KX e3,fun w=>by rw[Xf ab8,beq_iff_eq.1 h8]⟩
    ·cases bf
   ·rename_i K a6 ae;rw[ae];simp only[Bool.and_eq_true]at bj;obtain⟨a1,bf⟩:=bj;split at a1<;>try cases a1
    rename_i D;split at bf<;>try cases bf
    rename_i tY h5;split at bf<;>try cases bf
    rename_i b ay;have qt:b=false:=by simpa using bf
    subst qt;exact⟨K,a6,tY,bH,D,h5,ay⟩
   ·rename_i ae;rw[ae];exact⟨_,bH⟩
   ·rename_i ae;rw[ae];trivial
   ·cases bj
 ·cases h

def FA(P:Program):List (Nat×c9)->Bool
 |[]=>true
 |(T,aM)::rest=>match NR P T aM with|true=>FA P rest|false=>false

theorem YV{P:Program}{tab:cm}:∀{l:List (Nat×c9)},FA P l=true->∀T aM,look l T=some aM->Gk P tab T aM
 |[],_,T,aM,h=>by simp[look]at h
 |(c2,anI)::rest,ay,T,aM,h=>by
  simp only[FA]at ay;split at ay
  ·rename_i I
   by_cases e:T=c2
   ·subst e;simp[look,Nat.beq_refl]at h;subst h;exact alF I
   ·simp only[look,hD e]at h;exact YV ay T aM h
  ·cases ay

def xm(P:Program):Nat->List C->List Field->Bool
 |_,[],[]=>true
 |i, bg :: gW, f :: c7 => Nat.beq f.offset i && !(f.name == "_")&&(match bg with
   |.E .int _=>match P.underlying f.type with|some (.int .i64)=>true|_=>false
   |.E .bool _=>match P.underlying f.type with|some .bool=>true|_=>false
   |_=>false)&&xm P (i+1) gW c7
 |_,_,_=>false
def Dw(P:Program)(tab:cm)(T:Nat):Bool:=match dQ tab T,P.underlying T with
 |some aM,some (.struct c7)=>xm P 0 aM.zero c7.toList && !P.stoodInHeld T && !P.eqGuardType P.depth T
 |_,_=>false
def Dx(P:Program)(tab:cm):List Nat->Bool
 |[]=>true
 |T::r=>Dw P tab T&&Dx P tab r
theorem I3{P:Program}{tab:cm}:∀{l:List Nat} {T:Nat},Dx P tab l=true->hg l T=true->Dw P tab T=true
 |[],_,_,h=>by cases h
 |c2::r,T,ay,h=>by
  simp only[Dx,Bool.and_eq_true]at ay;simp only[hg]at h;split at h
  ·rename_i e;rw[<- Nat.eq_of_beq_eq_true e];exact ay.1
  ·exact I3 ay.2 h

theorem Q7{n:Int}{c:C}{r:Bool}(h:tq (.E .int n) c=some r):∃m:Int,c=.E .int m/\ar n m=r:=by
 cases c with
 |E t d=>cases t<;>first|exact⟨d,rfl,Option.some.inj h⟩|(cases h;done)
 |_=>cases h
theorem Q6{n:Bool}{c:C}{r:Bool}(h:tq (.E .bool n) c=some r):∃m:Bool,c=.E .bool m/\h3 n m=r:=by
 cases c with
 |E t d=>cases t<;>first|exact⟨d,rfl,Option.some.inj h⟩|(cases h;done)
 |_=>cases h
theorem Ra{P:Program}{tab:cm}{d:Nat}{w:World}{S:Nat->Prop}{xs ys:Array Value}:∀(c7:List Field) (gW as au:List C) (i:Nat) (q r:Bool),xm P i gW c7=true->hR gW as=some q->hR as au=some r ->
  (∀(j:Nat) c,as[j]? = some c->∃y,xs[i+j]? = some y/\dE tab w S c y)->(∀(j:Nat) c,au[j]? = some c->∃y,ys[i+j]? = some y/\dE tab w S c y) ->
  (Op.eqFields (d+1) xs ys c7).run P w=.ok r w
 |[],gW,as,au,i,q,r,b6,aH,aw,aG,cv=>by
  cases gW with
  |cons bg gW=>cases b6
  |nil =>
   cases as with
   |cons a as=>cases aH
   |nil =>
    cases au with
    |cons b au=>cases aw
    |nil =>
     have:r=true:=by simpa[hR]using aw.symm
     subst this;rfl
 |f::c7,gW,as,au,i,q,r,b6,aH,aw,aG,cv=>by
  cases gW with
  |nil=>cases b6
  |cons bg gW =>
   cases as with
   |nil=>cases aH
   |cons a as =>
    cases au with
    |nil=>cases aw
    |cons b au =>
     simp only[xm,Bool.and_eq_true]at b6;obtain⟨⟨⟨f1,f2⟩,f3⟩,f4⟩:=b6;simp only[hR]at aH aw;split at aH<;>try cases aH
     rename_i cO sD;split at aH<;>try cases aH
     rename_i cL qC;split at aw<;>try cases aw
     rename_i gm AZ;split at aw<;>try cases aw
     rename_i hH D8;have de:=Ra (d:=d) c7 gW as au (i+1) cL hH f4 qC D8 (fun j c aT=>by have:=aG (j+1) c (by simpa using aT);rwa[show i+(j+1)=i+1+j by omega]at this) (fun j c aT=>by have:=cv (j+1) c (by simpa using aT);rwa[show i+(j+1)=i+1+j by omega]at this);obtain⟨u,hu,Sr⟩:=aG 0 a rfl;obtain⟨v,aR,SH⟩:=cv 0 b rfl;have aY:f.offset=i:=Nat.eq_of_beq_eq_true f1;have aq : f.name ≠ "_" := by simpa using f2
     rw[Nat.add_zero,<- aY]at hu aR;simp only[Op.eqFields,if_pos aq];have key:∀(e:TypeId) (ad:P.plainKey e=true) (bv:f.type=e) (aH:(Op.equalIn (d+1) e u v).run P w=.ok gm w),(do
       let a <- part f.type xs f.offset
       let b <- part f.type ys f.offset
       let r <- Op.equalIn (d+1) f.type a b
       if (!r)=true then pure false else Op.eqFields (d+1) xs ys c7:Sem Bool).run P w=.ok (gm&&hH) w:=fun e ad bv aH=>by
      subst bv;rw[Sem.run_bind,run_part_plain w ad hu];simp only[Result.andThen_ok];rw[Sem.run_bind,run_part_plain w ad aR];simp only[Result.andThen_ok];rw[Sem.run_bind,aH];simp only[Result.andThen_ok];cases gm
      ·rfl
      ·simpa using de
     split at f3
     ·split at f3<;>try cases f3
      rename_i bI;obtain⟨n,rfl,_⟩:=Q7 sD;obtain⟨m,rfl,aB⟩:=Q7 AZ;cases Sr;cases SH;refine key _ (by unfold Program.plainKey;rw[bI]) rfl ?_;rw[run_equalIn_int w d _ _ _ _ _ bI,<- aB];rfl
     ·split at f3<;>try cases f3
      rename_i bI;obtain⟨n,rfl,_⟩:=Q6 sD;obtain⟨m,rfl,aB⟩:=Q6 AZ;cases Sr;cases SH;refine key _ (by unfold Program.plainKey;rw[bI]) rfl ?_;rw[run_equalIn_bool' w d _ _ _ bI,<- aB];rfl
     ·cases f3

theorem Rn{P:Program}{w:World}{xs:Array Value}{y:Value}:∀(c7:List Field) (gW as:List C) (i f:Nat) (q:Bool) (c:C),xm P i gW c7=true->hR gW as=some q->as[f]? = some c->xs[i+f]? = some y ->
  ∃fd,c7[f]? = some fd/\(part fd.type xs fd.offset).run P w=.ok y w
 |[],gW,as,i,f,q,c,b6,aH,aA,cv=>by
  cases gW with
  |cons bg gW=>cases b6
  |nil =>
   cases as with
   |cons a as=>cases aH
   |nil=>simp at aA
 |fd::c7,gW,as,i,f,q,c,b6,aH,aA,cv=>by
  cases gW with
  |nil=>cases b6
  |cons bg gW =>
   cases as with
   |nil=>cases aH
   |cons a as =>
    simp only[xm,Bool.and_eq_true]at b6;obtain⟨⟨⟨f1,f2⟩,f3⟩,f4⟩:=b6;simp only[hR]at aH;split at aH<;>try cases aH
    rename_i cO sD;split at aH<;>try cases aH
    rename_i cL qC;cases f with
    |succ f=>exact Rn (w:=w) c7 gW as (i+1) f cL c f4 qC (by simpa using aA) (by rwa[show i+(f+1)=i+1+f by omega]at cv)
    |zero =>
     have aY:fd.offset=i:=Nat.eq_of_beq_eq_true f1;rw[Nat.add_zero,<- aY]at cv;refine⟨fd,rfl,run_part_plain w ?_ cv⟩;split at f3
     ·split at f3<;>try cases f3
      rename_i bI;unfold Program.plainKey;rw[bI]
     ·split at f3<;>try cases f3
      rename_i bI;unfold Program.plainKey;rw[bI]
     ·cases f3

theorem aly{P:Program}{tab:cm}(h:FA P tab.types=true)(bv:Dx P tab tab.eqs=true)(b8:tab.w=true->Gb P tab):fs P tab :=
 ⟨b8,fun T aM bI=>YV h T aM bI,fun T aM aB pJ as xs q f c y w aH aA cv=>(by
  have ay:=I3 bv aB;unfold Dw at ay;rw[pJ]at ay;split at ay
  ·rename_i alE c7 bm av;cases bm;simp only[Bool.and_eq_true,Bool.not_eq_true']at ay;obtain⟨⟨jf,kf⟩,ot⟩:=ay;obtain⟨fd,bL,b0⟩:=Rn (w:=w) c7.toList aM.zero as 0 f q c jf aH aA (by rw[Nat.zero_add];exact cv);simp only[Instr.field,Sem.run_bind,run_underlying av,Result.andThen_ok];rw[show c7[f]? = some fd by rw[<- Array.getElem?_toList];exact bL];simp only[asAgg,Sem.run_bind,Sem.run_pure,Result.andThen_ok];exact b0
  ·cases ay),
  fun T aM aB pJ as au xs ys q r w aH aw _ _ aG cv=>by
  have ay:=I3 bv aB;unfold Dw at ay;rw[pJ]at ay;split at ay
  ·rename_i alE c7 bm av;cases bm;simp only[Bool.and_eq_true,Bool.not_eq_true']at ay;obtain⟨⟨jf,kf⟩,ot⟩:=ay;have DW:P.fieldsOf T=c7:=by unfold Program.fieldsOf;rw[av]
   refine⟨fun op x y=>run_eqGuard_agg w op T x y xs ys ot,?_⟩;have e:Op.equal T (.agg xs) (.agg ys)=Op.equalIn 10000 T (.agg xs) (.agg ys):=rfl;rw[e,run_equalIn_struct w 9999 T xs ys (by rw[DW];exact av) kf,DW];exact Ra (d:=9998) c7.toList aM.zero as au 0 q r jf aH aw (fun j c aT=>by rw[Nat.zero_add];exact aG j c aT) (fun j c aT=>by rw[Nat.zero_add];exact cv j c aT)
  ·cases ay⟩
end bF
end Go.Proofs.YtlbppjmekiemiabGreatDoor


/- The executor on data: a function's contract, for use. No condition. -/
namespace Go.Proofs.YtlbppjmekiemiabGreatDoor
namespace bF

def bR(fn:Func):Code:=fn.body.getD .skip
def sV(fn:Func):List Nat:=MQ [] fn.results.toList

def co(Γ:Ctx)(tab:cm)(fn:Func)(k:Nat)(K:V->List bS->Prop)(m:Nat)(todo:List cu)(st:bO):Prop:=run Γ tab k (sV fn) (DE tab fn.results.toList k K) m todo st
def DD(tab:cm)(fn:Func)(k:Nat)(K:V->List bS->Prop)(st:bO):Prop:=un (canon k (sV fn) st) (DF tab fn.results.toList k K)

def h4(Γ:Ctx)(tab:cm)(fn:Func)(k:Nat)(K:V->List bS->Prop)(m:Nat)(todo:List cu)(st:bO):Prop:=run Γ tab k (sV fn) (DD tab fn k K) m todo st

def Ji(tab:cm)(fn:Func)(k:Nat)(K:V->List bS->Prop)(st:bO):Prop:=un (canon k (sV fn) st) fun st=>DF tab fn.results.toList k K (tB (texts st.mem) st)
def qo(Γ:Ctx)(tab:cm)(fn:Func)(k:Nat)(K:V->List bS->Prop)(m:Nat)(todo:List cu)(st:bO):Prop:=run Γ tab k (sV fn) (Ji tab fn k K) m todo st
def zg(Γ:Ctx)(tab:cm)(fn:Func)(k:Nat)(K:V->List bS->Prop)(rec:List cu->bO->Prop)(todo:List cu)(st:bO):Prop:=kr Γ tab k (sV fn) rec (Ji tab fn k K) 4000 todo .normal st
def b5(Γ:Ctx)(tab:cm)(fn:Func)(k:Nat)(K:V->List bS->Prop)(rec:List cu->bO->Prop)(todo:List cu)(st:bO):Prop:=kr Γ tab k (sV fn) rec (DE tab fn.results.toList k K) 4000 todo .normal st
def js(Γ:Ctx)(tab:cm)(fn:Func)(k:Nat)(K:V->List bS->Prop)(rec:List cu->bO->Prop)(todo:List cu)(st:bO):Prop:=kr Γ tab k (sV fn) rec (DD tab fn k K) 4000 todo .normal st

section
variable {P:Program} {tab:cm} {Γ:Ctx} {fn:Func} {k:Nat} {K:V->List bS->Prop} {m:Nat}

theorem eB{st:bO}{c:Code}:co Γ tab fn k K (m+1) [.code c] st=b5 Γ tab fn k K (co Γ tab fn k K m) [.code c] st:=rfl
theorem qn{st:bO}{c:Code}:h4 Γ tab fn k K (m+1) [.code c] st=js Γ tab fn k K (h4 Γ tab fn k K m) [.code c] st:=rfl
theorem abC{st:bO}{c:Code}:qo Γ tab fn k K (m+1) [.code c] st=zg Γ tab fn k K (qo Γ tab fn k K m) [.code c] st:=rfl
def cU:List cu->List cu
 |.inLoop keys b::t=>.code b::.inLoop keys b::t
 |t=>t
theorem bW{L:List cu}{st:bO}:co Γ tab fn k K (m+1) L st=b5 Γ tab fn k K (co Γ tab fn k K m) (cU L) st:=by
 cases L with
 |nil=>rfl
 |cons a t=>cases a<;>rfl
theorem jS{L:List cu}{st:bO}:h4 Γ tab fn k K (m+1) L st=js Γ tab fn k K (h4 Γ tab fn k K m) (cU L) st:=by
 cases L with
 |nil=>rfl
 |cons a t=>cases a<;>rfl

theorem xv{L:List cu}{st:bO}:qo Γ tab fn k K (m+1) L st=zg Γ tab fn k K (qo Γ tab fn k K m) (cU L) st:=by
 cases L with
 |nil=>rfl
 |cons a t=>cases a<;>rfl

def rk(fn:Func):Bool:=match fn.body with
 |some c => lQ fn.ntmps c && !(fn.name == "runtime.NumGoroutine")
 |none=>false

structure fr(P:Program)(tab:cm)(Γ:Ctx):Prop where
 table:fs P tab
 sound:Sound P tab Γ
 mixed:P.follows .mixedOrders=true

theorem Rv(h : rk fn = true) : ∃c, fn.body = some c /\ bR fn = c /\ lQ fn.ntmps c = true /\ (fn.name == "runtime.NumGoroutine") = false := by
 unfold rk at h;split at h
 ·rename_i c aA;simp only[Bool.and_eq_true,Bool.not_eq_true']at h;exact⟨c,aA,by simp[bR,aA],h.1,h.2⟩
 ·cases h

def Gg(Γ:Ctx)(tab:cm)(fn:Func)(C:a7):Prop :=
 ∀vs au p v du,C vs au=some (p,v,du)->under p True->Nat.ble vs.length fn.ntmps=true/\sO vs=true /\
  ((∃m,co Γ tab fn au.length (fun e1 lu=>e1=v/\lu=du) m [.code (bR fn)] (df vs au))\/(∃m,h4 Γ tab fn au.length (fun e1 lu=>e1=v/\lu=du) m [.code (bR fn)] (df vs au))\/(∃m,h4 Γ tab fn au.length (fun e1 lu=>e1=v/\lu=du) m [.code (bR fn)] (rG vs au))\/∃m,qo Γ tab fn au.length (fun e1 lu=>e1=v/\lu=du) m [.code (bR fn)] (df vs au))

theorem XH{f:Nat}{C:a7}(h1:fr P tab Γ)(b6:P.funcs[f]? = some fn)(bA:rk fn=true)(eC:Gg Γ tab fn C):jv P tab f C:=by
 obtain⟨c,ay,ab0,oG,_⟩:=Rv bA;intro vs au p v du h ad w S O xs aD aG;obtain⟨I,G,Y⟩:=eC vs au p v du h ad;have g7:zL P tab Γ fn.ntmps O (cJ au) w S:=aim h1.table h1.sound h1.mixed;rw[ab0]at Y;have key:∀(fin:bO->Prop) (m:Nat) (oc:bO),(∀a w',Good tab fn.ntmps O (cJ au) w S (df vs au) a w'->Good tab fn.ntmps O (cJ au) w S oc a w')->(∀st a j6,Good tab fn.ntmps O (cJ au) w S st a j6->fin st->∃e1 lu,(e1=v/\lu=du)/\Ends P tab fn O au w S e1 lu a j6) ->
   run Γ tab au.length (sV fn) fin m [.code c] oc->Calls P f xs.toArray w fun e w'=>∃x bU S',e=.returned x/\Ext O (cJ au) w S bU (cJ du) w' S'/\Inv tab bU (cJ du) w' S'/\cl tab bU (cJ du) w' S' v x:=fun fin m oc fL jV g0 =>
  (abk fL g7 b6 ay oG (Nat.le_of_ble_eq_true I) G jV g0 aD aG).mono fun e w' ⟨e1,lu,⟨aN,aX⟩,x,bU,S',q⟩=>by subst aN aX;exact⟨x,bU,S',q⟩
 have AD:∀st a j6,Good tab fn.ntmps O (cJ au) w S st a j6->DD tab fn au.length (fun e1 lu=>e1=v/\lu=du) st->∃e1 lu,(e1=v/\lu=du)/\Ends P tab fn O au w S e1 lu a j6:=fun st a j6 cx aH=>by
  unfold DD un at aH;split at aH
  ·rename_i db aA;exact Rq h1.table aH (Iz rfl aA cx)
  ·exact aH.elim
 rcases Y with⟨m,Y⟩|⟨m,Y⟩|⟨m,Y⟩|⟨m,Y⟩
 ·exact key _ m _ (fun _ _ cx=>cx) (fun st a j6 cx aH=>abh h1.table aH cx) Y
 ·exact key _ m _ (fun _ _ cx=>cx) AD Y
 ·exact key _ m _ (fun _ _ cx=>RA _ cx) AD Y
 ·refine key _ m _ (fun _ _ cx=>cx) (fun st a j6 cx aH=>?_) Y;unfold Ji un at aH;split at aH
  ·rename_i db aA;obtain⟨bU,S',ju,rX,iS⟩:=Iz rfl aA cx;obtain⟨nA,r0,ta,dO,ay⟩:=Jt (texts db.mem) ju rX;exact Rq h1.table aH ⟨bU,nA,r0,by rw[ay];exact ta,iS.trans dO⟩
  ·exact aH.elim

theorem fr.nil(bI:fs P tab)(aB:P.follows .mixedOrders=true):fr P tab []:=⟨bI,fun g b7 bt=>by simp[look]at bt,aB⟩

theorem fr.II{f:Nat}{C:a7}(h1:fr P tab Γ)(b6:P.funcs[f]? = some fn)(bA:rk fn=true)(eC:jv P tab f C):fr P tab ((f,C)::Γ):=by
 refine⟨h1.table,fun g b7 bt=>?_,h1.mixed⟩
 by_cases e:g=f
 ·subst e;simp[look,Nat.beq_refl]at bt;subst bt;obtain⟨c,ay,_,_,aq⟩:=Rv bA;exact⟨eC,fn,b6,by simp[ay],aq⟩
 ·simp only[look,hD e]at bt;exact h1.sound g b7 bt

structure Cu(P:Program)(f:Nat)(fn:Func):Prop where
 b6:P.funcs[f]? = some fn
 bA:rk fn=true
theorem ajt{f:Nat}{C:a7}(h1:fr P tab Γ)(h:Cu P f fn)(eC:Gg Γ tab fn C):jv P tab f C:=XH h1 h.b6 h.bA eC
theorem fr.c{f:Nat}{C:a7}(h1:fr P tab Γ)(h:Cu P f fn)(eC:jv P tab f C):fr P tab ((f,C)::Γ):=h1.II h.b6 h.bA eC

noncomputable def Gr(w2:List V)(zF:List bS)(p:Option Prop)(v:V)(E2:List bS):a7:=fun vs au=>@ite _ (vs=w2/\au=zF) (Classical.propDecidable _) (some (p,v,E2)) none
theorem ajs{f:Nat}{w2:List V}{zF:List bS}{p:Option Prop}{v:V}{E2:List bS}(h1:fr P tab Γ)(h:Cu P f fn)(I:Nat.ble w2.length fn.ntmps=true)(G:sO w2=true)
  (Y:under p True->∃m,co Γ tab fn zF.length (fun e1 lu=>e1=v/\lu=E2) m [.code (bR fn)] (df w2 zF)):jv P tab f (Gr w2 zF p v E2):=ajt h1 h fun vs au anC e1 du e ad=>by
 unfold Gr at e;split at e
 ·rename_i q;obtain⟨rfl,rfl⟩:=q;cases e;exact⟨I,G,.inl (Y ad)⟩
 ·cases e
end
theorem aju{P:Program}{tab:cm}{f:Nat}:jv P tab f UF:=fun vs _ _ _ _ h ad=>by
 cases vs with
 |nil=>cases h;exact ad.1.elim
 |cons _ _=>cases h
def EF(C b7:a7):a7:=fun vs au=>match C vs au with
 |some x=>some x
 |none=>b7 vs au
theorem ajv{P:Program}{tab:cm}{f:Nat}{C b7:a7}(I:jv P tab f C)(G:jv P tab f b7):jv P tab f (EF C b7):=by
 intro vs au p v du h ad;unfold EF at h;split at h
 ·rename_i x aG;cases h;exact I vs au p v du aG ad
 ·exact G vs au p v du h ad
def V.zx:V->V
 |.ao (.one (.E (.list _) _)::rest)=>.ao (.one .any::rest)
 |v=>v
theorem aip{tab:cm}{O:dp}{mem:eb}{w:World}{S:Nat->Prop}{v:V}{x:Value}(h:cl tab O mem w S v x):cl tab O mem w S v.zx x:=by
 unfold V.zx;split
 ·obtain⟨xs,e,av,h⟩:=h;refine⟨xs,e,by simpa using av,fun i v hi=>?_⟩;cases i with
  |zero =>
   obtain⟨y,I,G⟩:=h 0 _ rfl;simp at hi;subst hi;exact⟨y,I,G.1,trivial⟩
  |succ i=>exact h (i+1) v (by simpa using hi)
 ·exact h
def Cb(C:a7):a7:=fun vs au=>match C vs au with
 |some (p,v,du)=>some (p,v.zx,du)
 |none=>none
theorem ajx{P:Program}{tab:cm}{f:Nat}{C:a7}(h:jv P tab f C):jv P tab f (Cb C):=by
 intro vs au p v du e ad;unfold Cb at e;split at e
 ·rename_i vX v0 hN aG;cases e;intro w S O xs aD A5;exact(h vs au _ _ _ aG ad w S O xs aD A5).mono fun e w' ⟨x,bU,S',I,G,Y,aS⟩=>⟨x,bU,S',I,G,Y,aip aS⟩
 ·cases e
def NY(C:a7):a7:=fun vs au=>match au with
 |[_]=>(match C vs au with
  |some (p,.one (.view 0 0 n),[.arr t l])=>some (some (both p (n<=len l)),.one (.own 1),[.dead,.arr t (aW l 0 n)])
  |_=>none)
 |_=>none
theorem ajw{P:Program}{tab:cm}{f:Nat}{C:a7}(h:jv P tab f C):jv P tab f (NY C):=by
 intro vs au p v du e ad;unfold NY at e;split at e
 ·rename_i hq;split at e
  ·rename_i vX n t l aG;cases e;obtain⟨ac0,aq⟩:under vX True/\n<=l.length:=by
    cases vX with
    |none=>exact⟨trivial,ad.1⟩
    |some q=>exact⟨⟨ad.1.1,trivial⟩,ad.1.2⟩
   intro w S O xs aD rD;refine(h vs _ _ _ _ aG ac0 w S O xs aD rD).mono fun e w' ⟨x,bU,S',I,G,Y,aS⟩=>?_
   have AX:cJ [bS.arr t l] 0=some (.arr t l):=rfl;have sz:cJ [bS.arr t l] 1=none:=rfl;obtain⟨vD,_,aR⟩:=aS;obtain⟨y,dn,a0,m0,ji,dI,jw,bL,b0,dm,e3,h8,jF,l1⟩:=aR t l AX;obtain⟨l',aN,dP⟩:=Y.rel 0 _ AX trivial;rw[dn]at aN;cases aN;have bl:=dm rfl;subst bl;have DZ:cW [(0,.dead),(1,bS.arr t (aW l 0 n))] (cJ [bS.arr t l])=cJ [.dead,.arr t (aW l 0 n)]:=by
    funext q
    match q with
    |0=>rw[fz,fm];rfl
    |1=>rw[fz,ek (by decide),fm];rfl
    |q+2=>rw[fz,ek (by omega),ek (by omega)];rfl
   have tL:(Loc.ez x).block=(Loc.ez y).block:=by
    rcases dP with⟨eK,dU⟩|⟨b,cap,cur,cd,eK,_⟩
    ·rw[eK]at bL;cases bL;rw[b0,eK];rfl
    ·rw[eK]at bL;cases bL;rw[b0,eK];rfl
   obtain⟨a6,ry⟩:=EH (B':=.arr t (aW l 0 n)) (l':=.ez x) (w':=w') AX trivial sz dn tL rfl (fun _ _=>rfl) rfl rfl rfl Y;rw[DZ]at a6 ry;have hlen:(aW l 0 n).length=n:=by rw[sZ l 0 n aq];omega
   refine⟨x,_,S',I,G.trans a6,ry ?_,vD,(fun h=>by cases h),fun _ _ _=>hA⟩;rcases dP with⟨eK,dU⟩|⟨b,cap,cur,cd,eK,hbk,ck,eP,gg,g6⟩
   ·subst dU;rw[eK]at bL;cases bL;have qz:n=0:=by simpa using aq
    subst qz;have aA:jw=0:=by omega
    subst aA;exact .inl ⟨b0,rfl⟩
   ·rw[eK]at bL;cases bL;refine .inr ⟨b,jw,cur,cd,by rw[hlen];exact b0,hbk,by rw[hlen];omega,by omega,Nat.le_trans (Nat.mul_le_mul_right _ (by omega)) gg,fun i j c hi aA=>?_⟩;rw[hlen]at hi;rw[Fi l 0 n i t.H (by omega),Nat.zero_add]at aA;obtain⟨bg,N4,N5,z3⟩:=g6 i j c (by omega) aA;exact⟨bg,N4,N5,z3⟩
  ·cases e
 ·cases e
end bF
end Go.Proofs.YtlbppjmekiemiabGreatDoor


/- The executor on data: what a claim's form reads is the executor's data. No condition. -/
namespace Go.Proofs.YtlbppjmekiemiabGreatDoor
namespace bF

def z.lay:z->List z
 |.signed=>[.int,.int]
 |.target=>[.int,.int,.int]
 |.root=>[.int,.list .int,.int]
 |.message=>[.int,.int,.int,.int,.int,.list .int,.bool]
 |.aO=>[.list .int,.int,.bool,.int,.int]
 |.aP=>[.int,.int,.int,.list .target,.list (.list .int)]
 |.gR=>[.int,.int,.int,.list .root,.list (.list .int),.int,.int,.list .target,.list .int,.list (.list .int)]
 |.offer=>[.list .root,.list (.list .int),.int,.int,.list .target,.list .int,.list (.list .int)]
 |.change=>[.int,.k3]
 |.tw=>[.list .int,.int]
 |t=>[t]

def z.bytes:z->Nat
 |.int=>8
 |.bool=>1
 |.str=>16
 |.k3=>8
 |.u64=>8
 |.err=>16
 |.list _=>24
 |.signed=>16
 |.target=>24
 |.root=>40
 |.message=>72
 |.aO=>56
 |.aP=>72
 |.gR=>160
 |.offer=>136
 |.change=>16
 |.tw=>32

def Gd(n:Int):Prop:=-9223372036854775808<=n/\n<=9223372036854775807

inductive iE:C->Prop
 |int (n:Int) (h:Gd n):iE (.E .int n)
 |bool (b:Bool):iE (.E .bool b)
 |str (s:List UInt8) (h:s.length<=140737488351232):iE (.E .str s)
 |list (t:z) (l:List t.den) (h:l.length*t.bytes<=140737488351232) (bv:∀(i j:Nat) (c:C),i<l.length->(t.cells (nth l i t.H))[j]? = some c->iE c):iE (.E (.list t) l)

def lP:List z->List C->Prop
 |[],[]=>True
 |t::ts,c::cs=>(∃d:t.den,c=.E t d)/\lP ts cs
 |_,_=>False

set_option maxHeartbeats 1000000 in
theorem aah:∀(t:z) (cs:List C),lP t.lay cs->∃d:t.den,t.cells d=cs:=by
 intro t cs h;cases t
 case signed =>
  match cs,h with
  |[_,_],⟨⟨a,rfl⟩,⟨b,rfl⟩,_⟩=>exact⟨⟨a,b⟩,rfl⟩
 case target =>
  match cs,h with
  |[_,_,_],⟨⟨a,rfl⟩,⟨b,rfl⟩,⟨c,rfl⟩,_⟩=>exact⟨⟨a,b,c⟩,rfl⟩
 case root =>
  match cs,h with
  |[_,_,_],⟨⟨a,rfl⟩,⟨b,rfl⟩,⟨c,rfl⟩,_⟩=>exact⟨⟨a,b,c⟩,rfl⟩
 case message =>
  match cs,h with
  |[_,_,_,_,_,_,_],⟨⟨a,rfl⟩,⟨b,rfl⟩,⟨c,rfl⟩,⟨d,rfl⟩,⟨e,rfl⟩,⟨f,rfl⟩,⟨g,rfl⟩,_⟩=>exact⟨⟨a,b,c,d,e,f,g⟩,rfl⟩
 case aO =>
  match cs,h with
  |[_,_,_,_,_],⟨⟨a,rfl⟩,⟨b,rfl⟩,⟨c,rfl⟩,⟨d,rfl⟩,⟨e,rfl⟩,_⟩=>exact⟨⟨⟨a,b⟩,c,d,e⟩,rfl⟩
 case aP =>
  match cs,h with
  |[_,_,_,_,_],⟨⟨a,rfl⟩,⟨b,rfl⟩,⟨c,rfl⟩,⟨d,rfl⟩,⟨e,rfl⟩,_⟩=>exact⟨⟨a,⟨b,c,d⟩,e⟩,rfl⟩
 case gR =>
  match cs,h with
  |[_,_,_,_,_,_,_,_,_,_],⟨⟨a,rfl⟩,⟨b,rfl⟩,⟨c,rfl⟩,⟨d,rfl⟩,⟨e,rfl⟩,⟨f,rfl⟩,⟨g,rfl⟩,⟨i,rfl⟩,⟨j,rfl⟩,⟨k,rfl⟩,_⟩=>exact⟨⟨a,b,c,⟨d,e,⟨f,g,i⟩,j,k⟩⟩,rfl⟩
 case offer =>
  match cs,h with
  |[_,_,_,_,_,_,_],⟨⟨a,rfl⟩,⟨b,rfl⟩,⟨c,rfl⟩,⟨d,rfl⟩,⟨e,rfl⟩,⟨f,rfl⟩,⟨g,rfl⟩,_⟩=>exact⟨⟨a,b,⟨c,d,e⟩,f,g⟩,rfl⟩
 case change =>
  match cs,h with
  |[_,_],⟨⟨a,rfl⟩,⟨b,rfl⟩,_⟩=>exact⟨⟨a,b⟩,rfl⟩
 case tw =>
  match cs,h with
  |[_,_],⟨⟨a,rfl⟩,⟨b,rfl⟩,_⟩=>exact⟨⟨a,b⟩,rfl⟩
 all_goals
  match cs,h with
  |[_],⟨⟨a,rfl⟩,_⟩=>exact⟨a,rfl⟩

theorem aeS(t:z):t.lay.length=t.width:=by cases t<;>rfl

def Ar(P:Program)(g:List z->Nat->Bool):List z->Nat->List Field->Bool
 |L,_,[]=>L.isEmpty
 |L,o,f::c7=>Nat.beq f.offset o&&Nat.ble (P.cellsOf f.type) L.length&&g (L.take (P.cellsOf f.type)) f.type&&Ar P g (L.drop (P.cellsOf f.type)) (o+P.cellsOf f.type) c7

def si(P:Program):Nat->List z->Nat->Bool
 |0,_,_=>false
 |m+1,L,t=>match P.underlying t with
  |some (.int .i64)=>match L with | [.int]=>true|_=>false
  |some .bool=>match L with | [.bool]=>true|_=>false
  |some .string=>match L with | [.str]=>true|_=>false
  |some (.slice e)=>match L with
   |[.list u]=>si P m u.lay e&&Nat.beq (P.cellsOf e) u.width&&Nat.beq (P.bytesOf e) u.bytes&&Nat.ble 1 u.width
   |_=>false
  |some (.struct c7)=>Nat.beq (P.cellsOf t) L.length&&Ar P (si P m) L 0 c7.toList
  |_=>false

theorem Xz:∀{L gz:List z} {cs ds:List C},lP L cs->lP gz ds->lP (L++gz) (cs++ds)
 |[],_,[],_,_,h=>h
 |_t::_L,_,_c::_cs,_,h,eu=>⟨h.1,Xz h.2 eu⟩
 |[],_,_::_,_,h,_=>h.elim
 |_::_,_,[],_,h,_=>h.elim

theorem Fh:∀{L:List z} {cs:List C},lP L cs->cs.length=L.length
 |[],[],_=>rfl
 |_::L,_::cs,h=>by simp[Fh h.2]
 |[],_::_,h=>h.elim
 |_::_,[],h=>h.elim

section
variable {aQ:Type} {enc:TypeId×Value->aQ} {P:Program} {tab:cm} {w:World} {lg:Nat->Bool} {held:Bool}

def qX(tab:cm)(w:World)(ds:List C)(cs:List Value):Prop :=
 ∀(j:Nat) c,ds[j]? = some c->∃y,cs[j]? = some y/\y.oneCell'=true/\dE tab w (fun b=>b<w.heap.size) c y/\iE c

theorem aaf{ds es:List C}{cs xs:List Value}(h:qX tab w ds cs)(eu:qX tab w es xs)(az:ds.length=cs.length):qX tab w (ds++es) (cs++xs):=by
 intro j c aA
 by_cases aT:j<ds.length
 ·rw[List.getElem?_append_left aT]at aA;obtain⟨y,I,G⟩:=h j c aA;exact⟨y,by rw[List.getElem?_append_left (by omega)];exact I,G⟩
 ·rw[List.getElem?_append_right (by omega)]at aA;obtain⟨y,I,G⟩:=eu _ c aA;exact⟨y,by rw[List.getElem?_append_right (by omega),<- az];exact I,G⟩

theorem Zf:∀{e:TypeId} {l:List (DataW aQ)} {i:Nat} {d:DataW aQ},l[i]? = some d->∀n∈d.weights P e,n∈DataW.weightsAll P e l
 |e,[],i,d,h,_,_=>by simp at h
 |e,x::l,0,d,h,n,aq=>by simp at h;subst h;simp[DataW.weightsAll,aq]
 |e,x::l,i+1,d,h,n,aq=>by simp at h;simp[DataW.weightsAll,Zf h n aq]

theorem Ru{m n:Nat}(de:∀(L:List z) (t:Nat) (cs:List Value) (x:DataW aQ×List MemPlace),si P m L t=true->DataW.trod enc P w 0 lg held n t cs=some x->(∀k∈x.1.weights P t,k<=reachBytes) ->
   ∃ds,lP L ds/\cs.length=ds.length/\qX tab w ds cs):∀(c7:List Field) (L:List z) (o:Nat) (cs:List Value) (xs:List (DataW aQ×List MemPlace)),Ar P (si P m) L o c7=true->cs.length=o+L.length->xs.length=c7.length ->
   (∀(i:Nat) (f:Field),c7[i]? = some f->DataW.trod enc P w 0 lg held n f.type ((cs.drop f.offset).take (P.cellsOf f.type))=xs[i]?)->(∀k∈DataW.weightsEach P (c7.map (·.type)) (xs.map (·.1)),k<=reachBytes) ->
   ∃ds,lP L ds/\(cs.drop o).length=ds.length/\qX tab w ds (cs.drop o)
 |[],L,o,cs,xs,b6,az,aG,_,_=>by
  simp only[Ar,List.isEmpty_iff]at b6;subst b6;exact⟨[],trivial,by simp at az |-; omega,fun j c aA=>by simp at aA⟩
 |f::c7,L,o,cs,[],b6,az,aG,_,_=>by simp at aG
 |f::c7,L,o,cs,x::xs,b6,az,aG,bH,b8=>by
  simp only[Ar,Bool.and_eq_true]at b6;obtain⟨⟨⟨f1,f2⟩,f3⟩,f4⟩:=b6;have aN:=Nat.eq_of_beq_eq_true f1;have aX:=Nat.le_of_ble_eq_true f2;have a2:=bH 0 f rfl;simp only[List.getElem?_cons_zero]at a2;rw[aN]at a2;obtain⟨ds,a1,bf,ck⟩:=de _ _ _ _ f3 a2 (fun k ae=>b8 k (by simp[DataW.weightsEach,ae]));obtain⟨es,bL,b0,dm⟩:=Ru de c7 (L.drop (P.cellsOf f.type)) (o+P.cellsOf f.type) cs xs f4 (by simp;omega) (by simpa using aG) (fun i g bt=>by have:=bH (i+1) g (by simpa using bt);simpa using this)
   (fun k ae=>b8 k (by simp[DataW.weightsEach,ae]))
  refine⟨ds++es,by have:=Xz a1 bL;rwa[List.take_append_drop]at this,?_,?_⟩
  ·have dI:=Fh a1;have eD:=Fh bL;simp at dI eD |-; omega
  ·have:=aaf ck dm (by rw[bf]);rwa[<- List.drop_drop,List.take_append_drop]at this

theorem ML:∀(n m:Nat) (L:List z) (t:Nat) (cs:List Value) (x:DataW aQ×List MemPlace),si P m L t=true->DataW.trod enc P w 0 lg held n t cs=some x->(∀k∈x.1.weights P t,k<=reachBytes) ->
  ∃ds,lP L ds/\cs.length=ds.length/\qX tab w ds cs
 |0,m,L,t,cs,x,b6,h,b8=>by simp[DataW.trod]at h
 |n+1,0,L,t,cs,x,b6,h,b8=>by simp[si]at b6
 |n+1,m+1,L,t,cs,x,b6,h,b8=>by
  have one:∀(kt:z) (d:kt.den) (v:Value),L=[kt]->cs=[v]->v.oneCell'=true->dE tab w (fun b=>b<w.heap.size) (.E kt d) v->iE (.E kt d)->∃ds,lP L ds/\cs.length=ds.length/\qX tab w ds cs:=fun kt d v tF en I G Y=>by
   subst tF en;refine⟨[.E kt d],⟨⟨d,rfl⟩,trivial⟩,rfl,fun j c aA=>?_⟩;cases j with
   |zero=>simp at aA;subst aA;exact⟨v,rfl,I,G,Y⟩
   |succ j=>simp at aA
  unfold si at b6;split at b6
  ·rename_i hu;split at b6
   ·obtain⟨k,rfl,rfl,SJ⟩:=DataW.trod_int hu h;refine one .int k _ rfl rfl rfl (.int k) (.int k ?_);simp only[Lit.wf,Bool.and_eq_true,decide_eq_true_eq,IntKind.min,IntKind.max,IntKind.signed,IntKind.bits]at SJ;simp at SJ;exact⟨by omega,by omega⟩
   ·cases b6
  ·rename_i hu;split at b6
   ·obtain⟨b,rfl,rfl⟩:=DataW.trod_bool hu h;exact one .bool b _ rfl rfl rfl (.bool b) (.bool b)
   ·cases b6
  ·rename_i hu;split at b6
   ·obtain⟨s,rfl,rfl,av⟩:=DataW.trod_string hu h;refine one .str s.data.toList _ rfl rfl rfl ?_ (.str _ ?_)
    ·have:dE tab w (fun b=>b<w.heap.size) (.E .str s.data.toList) (.string ⟨s.data.toList.toArray⟩):=.str _;simpa using this
    ·have:=b8 s.data.toList.length (by simp[DataW.weights]);unfold reachBytes at this;exact this
   ·cases b6
  ·rename_i e hu;split at b6
   ·rename_i u;simp only[Bool.and_eq_true]at b6;obtain⟨⟨⟨f1,f2⟩,f3⟩,f4⟩:=b6;have aX:=Nat.eq_of_beq_eq_true f2;have cS:=Nat.eq_of_beq_eq_true f3;have lz:=Nat.le_of_ble_eq_true f4;rcases DataW.trod_slice hu h with⟨rfl,rfl⟩|⟨a,len,cap,elems,rest,l4,aq,rfl,rfl,_,DX,_,JO,oE,_,_⟩
    ·exact one (.list u) [] _ rfl rfl rfl (.empty u none 0) (.list u [] (by simp) (fun i j c hi=>by simp at hi))
    ·have nT:l4=n:=by omega
     subst nT;have SK:len*u.bytes<=reachBytes:=by
      have:=b8 ((elems.length+rest.length)*P.bytesOf e) (by simp[DataW.weights,hu]);rw[JO,cS]at this;exact Nat.le_trans (Nat.mul_le_mul_right _ (Nat.le_add_right _ _)) this
     by_cases dK:len=0
     ·subst dK;exact one (.list u) [] _ rfl rfl rfl (.empty u (some a) cap) (.list u [] (by simp) (fun i j c hi=>by simp at hi))
     ·-- each element
      have each:∀i,i<len->∃(d:u.den),∃eO,w.cells? 0 (a.add (i*u.width)) u.width=some eO/\qX tab w (u.cells d) eO/\(u.cells d).length=u.width:=fun i hi=>by
       have I:=oE i hi;rw[aX]at I;cases aA:w.cells? 0 (a.add (i*u.width)) u.width with
       |none=>rw[aA]at I;simp at I;omega
       |some eO =>
        rw[aA]at I;simp only[Option.bind_some]at I;have R6:i<elems.length:=by omega
        rw[List.getElem?_eq_getElem R6]at I;obtain⟨ds,bL,b0,dm⟩:=ML l4 m _ _ _ _ f1 I (fun k ae=>b8 k (by
         simp only[DataW.weights,hu,List.mem_cons,List.mem_append];exact .inr (.inl (Zf (i:=i) (by simp[R6]) k ae))))
        obtain⟨d,bH⟩:=aah u ds bL;subst bH;exact⟨d,eO,rfl,dm,by rw[Fh bL,aeS]⟩
      have D9:a.spot=none:=by
       obtain⟨d,eO,aA,_,_⟩:=each 0 (by omega);obtain⟨_,_,Y⟩:=World.cells?_some aA;have aS:=Y 0 (by omega);simp only[Nat.zero_mul,Addr.add,if_true]at aS;have hlen:0<eO.length:=by
        obtain⟨_,bj,_⟩:=World.cells?_some aA;omega
       rw[List.getElem?_eq_getElem hlen]at aS;unfold World.cell? at aS;cases av:a.spot with
       |none=>rfl
       |some q =>
        rw[av]at aS;split at aS<;>simp at aS
      have tL:a.block<w.heap.size:=by
       obtain⟨d,eO,aA,_,_⟩:=each 0 (by omega);have:=World.cells?_block aA (by omega);simpa[Addr.add]using this
      have abT:∀k,a.add k=ca a.block (a.off+k):=fun k=>by
       unfold Addr.add ca;split
       ·rename_i ae;subst ae;cases a;simp at D9 |-; exact D9
       ·rfl
      obtain⟨f,vv⟩:∃f:Nat->u.den,∀i,i<len->∃eO,w.cells? 0 (a.add (i*u.width)) u.width=some eO/\qX tab w (u.cells (f i)) eO/\(u.cells (f i)).length=u.width :=
       ⟨fun i=>if hi:i<len then Classical.choose (each i hi)else u.H,fun i hi=>by
        simp only[hi,dif_pos];exact Classical.choose_spec (each i hi)⟩
      have JJ:∀i j,i<len->j<u.width->∃y,w.cell? (ca a.block (a.off+i*u.width+j))=some y/\∀c,(u.cells (f i))[j]? = some c->y.oneCell'=true/\dE tab w (fun b=>b<w.heap.size) c y/\iE c:=fun i j hi aT=>by
       obtain⟨eO,I,G,Y⟩:=vv i hi;obtain⟨_,aS,bj⟩:=World.cells?_some I;have bK:=bj j aT;rw[abT]at bK;have abS:(ca a.block (a.off+i*u.width)).add j=ca a.block (a.off+i*u.width+j):=by
        unfold Addr.add ca;split
        ·rename_i ae;subst ae;rfl
        ·rfl
       rw[abS,List.getElem?_eq_getElem (by omega)]at bK;refine⟨_,bK,fun c aA=>?_⟩;obtain⟨y,cK,cN,dA,Cg⟩:=G j c aA;rw[List.getElem?_eq_getElem (by omega)]at cK;cases cK;exact⟨cN,dA,Cg⟩
      have az:((List.range len).map f).length=len:=by simp
      have Sk:∀i,i<len->nth ((List.range len).map f) i u.H=f i:=fun i hi=>by
       simp[nth,List.getD_eq_getElem?_getD,hi]
      refine one (.list u) ((List.range len).map f) _ rfl rfl rfl ?_ ?_
      ·have Kd:dE tab w (fun b=>b<w.heap.size) (.E (.list u) ((List.range len).map f)) (.slice (some (ca a.block a.off)) ((List.range len).map f).length cap):=by
        refine .list u _ a.block a.off cap (fun i j=>(w.cell? (ca a.block (a.off+i*u.width+j))).getD Go.undef) tL (by rw[az];exact DX) (fun i j hi aT=>?_) (fun i j c hi aA=>?_)
        ·rw[az]at hi;obtain⟨y,I,_⟩:=JJ i j hi aT;rw[I];rfl
        ·rw[az]at hi;rw[Sk i hi]at aA;have aT:j<u.width:=by
          obtain⟨_,_,_,Y⟩:=vv i hi;have:=(List.getElem?_eq_some_iff.1 aA).1;omega
         obtain⟨y,I,G⟩:=JJ i j hi aT;rw[I];exact(G c aA).2.1
       rw[az]at Kd;have:ca a.block a.off=a:=by cases a;simp[ca]at D9 |-; exact D9.symm
       rwa[this]at Kd
      ·refine .list u _ (by rw[az];unfold reachBytes at SK;exact SK) (fun i j c hi aA=>?_);rw[az]at hi;rw[Sk i hi]at aA;have aT:j<u.width:=by
        obtain⟨_,_,_,Y⟩:=vv i hi;have:=(List.getElem?_eq_some_iff.1 aA).1;omega
       obtain⟨y,I,G⟩:=JJ i j hi aT;exact(G c aA).2.2
   ·cases b6
  ·rename_i c7 hu;obtain⟨xs,l4,aq,rfl,hlen,aer,k7⟩:=DataW.trod_struct hu h;have nT:l4=n:=by omega
   subst nT;simp only[Bool.and_eq_true]at b6;obtain⟨aA,b6⟩:=b6;have acO:cs.length=0+L.length:=by
    rw[hlen,Nat.eq_of_beq_eq_true aA];omega
   obtain⟨ds,bL,b0,dm⟩:=Ru (fun L t cs x=>ML l4 m L t cs x) c7.toList L 0 cs xs b6 acO (by simpa using aer) (fun i f hi=>k7 i f (by simpa using hi)) (fun k ae=>b8 k (by simpa[DataW.weights,hu]using ae));exact⟨ds,bL,by simpa using b0,by simpa using dm⟩
  ·cases b6
end
end bF
end Go.Proofs.YtlbppjmekiemiabGreatDoor


/- The executor on data: from a law's contract to what its row asks. No condition. -/
namespace Go.Proofs.YtlbppjmekiemiabGreatDoor
namespace bF
open Go.ChangeShapes Go.WideShapes Go.RowKit

abbrev rZ:=Bool×List z

def wz(P:Program)(t:Nat):Option Bool :=
 match P.underlying t with
 |some (.struct _)=>some true
 |some (.int .i64)|some .bool|some .string|some (.slice _)=>some false
 |_=>none

def n7(P:Program)(m:Nat):List rZ->List Nat->Bool
 |[],[]=>true
 |(b,L)::ps,t::ts=>si P m L t&&(match wz P t with|some ft=>b==ft|none=>false)&&P.readableRec t&&decide (t<P.types.size)&&n7 P m ps ts
 |_,_=>false

def zE:rZ->V->Prop
 |(true,L),.agg cs=>lP L cs/\∀c∈cs,iE c
 |(false,L),.one c=>lP L [c]/\iE c
 |_,_=>False

def uN:List rZ->List V->Prop
 |[],[]=>True
 |p::ps,v::vs=>zE p v/\uN ps vs
 |_,_=>False

section
variable {aQ:Type} {enc:TypeId×Value->aQ} {P:Program} {tab:cm} {w:World} {lg:Nat->Bool} {held:Bool} {base:Nat}

theorem alq{t:Nat}{v:Value}(av:wz P t=some false)(h:Value.okWide P w .any base t v):v.oneCell'=true/\v.cells.toList=[v]:=by
 unfold wz at av;split at av<;>try cases av
 ·rename_i hu;obtain⟨n,rfl⟩:=okWide_int hu h;exact⟨rfl,rfl⟩
 ·rename_i hu;obtain⟨n,rfl⟩:=okWide_bool hu h;exact⟨rfl,rfl⟩
 ·rename_i hu;obtain⟨n,rfl⟩:=okWide_string hu h;exact⟨rfl,rfl⟩
 ·rename_i hu;obtain⟨a,b,c,rfl⟩:=okWide_slice hu h;exact⟨rfl,rfl⟩

theorem alr{t:Nat}{v:Value}(av:wz P t=some true)(h:Value.okWide P w .any base t v):∃cs,v=.agg cs:=by
 unfold wz at av;split at av<;>try cases av
 rename_i hu;obtain⟨cs,I,_⟩:=okWide_struct hu h;exact⟨cs,I⟩

theorem aio{O:dp}{mf:eb}{S:Nat->Prop}{ds:List C}{xs:Array Value}(h:qX tab w ds xs.toList)(az:xs.size=ds.length)(bH:∀c∈ds,∃kt d,c=.E kt d)(dw:S=fun b=>b<w.heap.size):cl tab O mf w S (.agg ds) (.agg xs):=by
 subst dw;refine⟨xs,rfl,az,fun i c aA=>?_⟩;obtain⟨y,cK,cN,dA,_⟩:=h i c aA;obtain⟨kt,d,rfl⟩:=bH c (List.mem_of_getElem? aA);exact⟨y,by simpa using cK,cN,dA⟩

theorem MZ:∀{L:List z} {cs:List C},lP L cs->∀c∈cs,∃kt d,c=.E kt d
 |_::_,c::_,h,x,aG=>by
  rcases List.mem_cons.1 aG with rfl|aG
  ·obtain⟨d,bH⟩:=h.1;exact⟨_,d,bH⟩
  ·exact MZ h.2 x aG
 |[],[],_,x,aG=>by cases aG
 |[],_::_,h,_,_=>h.elim
 |_::_,[],h,_,_=>h.elim

theorem ZP{m:Nat}{L:List z}{b:Bool}{t:Nat}{v:Value}{d:DataW aQ}{p:List MemPlace}(b6:si P m L t=true)(av:wz P t=some b)(aR:Value.okWide P w .any base t v)(h:DataW.Trod enc P w 0 lg held t v d p)
  (b8:∀k∈d.weights P t,k<=reachBytes):∃u,zE (b,L) u/\cl tab (fun _=>none) (cJ []) w (fun b=>b<w.heap.size) u v:=by
 obtain⟨n,aq⟩:=h;obtain⟨ds,I,G,Y⟩:=ML (tab:=tab) n m L t _ _ b6 aq b8;cases b with
 |true =>
  obtain⟨cs,rfl⟩:=alr av aR;refine⟨.agg ds,⟨I,fun c aA=>?_⟩,aio Y (by simpa[Value.cells]using G) (MZ I) rfl⟩;obtain⟨i,hi⟩:=List.getElem?_of_mem aA;obtain⟨y,_,_,_,Cg⟩:=Y i c hi;exact Cg
 |false =>
  obtain⟨a1,bf⟩:=alq av aR;rw[bf]at G Y
  match ds,I,G,Y with
  |[c],I,_,Y =>
   obtain⟨y,cK,cN,dA,Cg⟩:=Y 0 c rfl;simp at cK;subst cK;refine⟨.one c,⟨I,Cg⟩,?_⟩;obtain⟨kt,hP,rfl⟩:=MZ I c (List.mem_cons_self ..);exact⟨cN,dA⟩

theorem Pd{m:Nat}:∀{ps:List rZ} {ts:List Nat} {vs:List Value} {ds:List (DataW aQ)} {p:List MemPlace},n7 P m ps ts=true->(∀(j:Nat) t v,ts[j]? = some t->vs[j]? = some v->Value.okWide P w .any base t v) ->
  DataW.TrodAll enc P w 0 lg held ts vs ds p->(∀k∈DataW.weightsEach P ts ds,k<=reachBytes)->∃us,uN ps us/\fI tab (fun _=>none) (cJ []) w (fun b=>b<w.heap.size) us vs
 |[],[],vs,ds,p,_,_,h,_=>by
  match vs,ds,h with
  |[],[],_=>exact⟨[],trivial,trivial⟩
 |(b,L)::ps,t::ts,vs,ds,p,ad,aR,h,b8=>by
  match vs,ds,h with
  |v::vs,d::ds,h =>
   simp only[n7,Bool.and_eq_true]at ad;obtain⟨⟨⟨⟨f1,f2⟩,_⟩,_⟩,f3⟩:=ad;obtain⟨e0,fj,I,G,_⟩:=h;have av:wz P t=some b:=by
    split at f2
    ·rename_i ft ay;rw[ay,beq_iff_eq.1 f2]
    ·cases f2
   obtain⟨u,gi,jc⟩:=ZP (tab:=tab) f1 av (aR 0 t v rfl rfl) I (fun k ae=>b8 k (by simp[DataW.weightsEach,ae]));obtain⟨us,bL,b0⟩:=Pd f3 (fun j t v bm k9=>aR (j+1) t v (by simpa using bm) (by simpa using k9)) G (fun k ae=>b8 k (by simp[DataW.weightsEach,ae]));exact⟨u::us,⟨gi,bL⟩,jc,b0⟩
 |[],_::_,_,_,_,ad,_,_,_=>by simp[n7]at ad
 |_::_,[],_,_,_,ad,_,_,_=>by simp[n7]at ad

theorem Y3{m:Nat}{gN qb:World}(az:laidOutB P=true)(ay:Below gN.heap.size gN qb){YG:Nat->Bool}:∀{ps:List rZ} {ts:List Nat} {vs:List Value} {ds:List (DataW aQ)} {p:List MemPlace},n7 P m ps ts=true ->
  DataW.TrodAll enc P gN 0 (fun _=>true) true ts vs ds p->(∀x∈p,x.block<gN.heap.size)->(∀x∈p,YG x.block=true)->DataW.TrodAll enc P qb 0 YG true ts vs ds p
 |[],[],vs,ds,p,_,h,_,_=>by
  match vs,ds,h with
  |[],[],h=>exact h
 |(b,L)::ps,t::ts,vs,ds,p,ad,h,I,G=>by
  match vs,ds,h with
  |v::vs,d::ds,h =>
   simp only[n7,Bool.and_eq_true,decide_eq_true_eq]at ad;obtain⟨⟨⟨⟨_,_⟩,f1⟩,f2⟩,f3⟩:=ad;obtain⟨e0,fj,a1,bf,rfl⟩:=h;exact⟨e0,fj,Go.WideElems.Trod_stays az f1 f2 a1 (fun x aG=>ay.same (I x (List.mem_append_left _ aG))) (fun x aG=>G x (List.mem_append_left _ aG)),
    Y3 az ay f3 bf (fun x aG=>I x (List.mem_append_right _ aG)) (fun x aG=>G x (List.mem_append_right _ aG)),rfl⟩
 |[],_::_,_,_,_,ad,_,_,_=>by simp[n7]at ad
 |_::_,[],_,_,_,ad,_,_,_=>by simp[n7]at ad

theorem agQ{f:Func}{s:ChangeSpec}{apart fresh handsOn again:Bool}{gN qb:World}{args:Array Value}{v:Value}{ds gs:List (DataW aQ)}{before pa pv:List MemPlace}
  (tG:DataW.Whole enc P f.params.toList s.vars apart gN args.toList ds gs before)
  (Sm:∀(b:Nat) (lg:Nat->Bool) (bH:Bool),DataW.TrodAll enc P qb b lg bH f.resultTypes.toList (v.resultList f.resultTypes.size) (s.fn aQ (ds++gs)).results [])
  (tH:∀lg:Nat->Bool,(∀p∈before,lg p.block=true)->DataW.TrodAll enc P qb 0 lg true f.params.toList args.toList (s.fn aQ (ds++gs)).args pa)
  (A2:∀lg:Nat->Bool,(∀p∈before,lg p.block=true)->DataW.TrodVars enc P qb lg s.vars (s.fn aQ (ds++gs)).vars pv)
  (rC:before=pa++pv) (ay:Below gN.heap.size gN qb)
  (fW:∀(j:Nat) (t:TypeId) (r:Value),f.resultTypes[j]? = some t->(v.resultList f.resultTypes.size)[j]? = some r->Value.okWide P qb .any 0 t r) :
  s.post enc P f apart fresh handsOn again gN args v qb:=by
 have dX:∀p∈before,p.block<gN.heap.size:=fun p ad=>tG.lt p ad
 have hold:∀p∈before,(fun b=>decide (b<gN.heap.size)) p.block=true:=fun p ad=>by simpa using dX p ad
 refine⟨ds,gs,before,[],pa,pv,tG,Sm _ _ _,tH _ hold,A2 _ hold,World.keptBut_mono (fun p ad=>⟨ad,?_⟩) (ay.frame (·∈before)),fun _=>?_⟩
 ·rw[rC,List.mem_append]at ad;exact Or.inr ad
 ·obtain⟨_,_,_,_,_,dK,aq⟩:=tG;refine⟨fW,_,_,([]++pa)++pv,⟨[]++pa,pv,trodAll_append (tH _ (fun _ _=>rfl)) (Sm _ _ _),A2 _ (fun _ _=>rfl),rfl,?_,?_⟩,?_⟩
  ·intro b off ad;have kF:MemPlace.cell b off∈before:=by rw[rC];simpa using ad
   rw[ay.frozen (dX _ kF)];exact dK b off kF
  ·intro bl;have:=aq bl;rw[rC]at this;simpa using this
  ·intro p ad _;rw[rC];simpa using ad

theorem u3{p:rZ}{ps:List rZ}{us:List V}(h:uN (p::ps) us):∃u FH,us=u::FH/\zE p u/\uN ps FH:=by
 match us,h with
 |u::FH,h=>exact⟨u,FH,rfl,h.1,h.2⟩

theorem ZQ{us:List V}(h:uN [] us):us=[]:=by
 match us,h with
 |[],_=>rfl

theorem fP{kt:z}{L:List z}{cs:List C}(h:lP (kt::L) cs):∃(d:kt.den) (eO:List C),cs=.E kt d::eO/\lP L eO:=by
 match cs,h with
 |_::eO,⟨⟨d,rfl⟩,h⟩=>exact⟨d,eO,rfl,h⟩

theorem BU{cs:List C}(h:lP [] cs):cs=[]:=by
 match cs,h with
 |[],_=>rfl

theorem Pc{kt:z}{u:V}(h:zE (false,[kt]) u):∃d:kt.den,u=.one (.E kt d)/\iE (.E kt d):=by
 match u,h with
 |.one c,⟨I,G⟩ =>
  obtain⟨d,eO,e,_⟩:=fP I;cases e;exact⟨d,rfl,G⟩

theorem zP{L:List z}{u:V}(h:zE (true,L) u):∃cs,u=.agg cs/\lP L cs/\∀c∈cs,iE c:=by
 match u,h with
 |.agg cs,⟨I,G⟩=>exact⟨cs,rfl,I,G⟩

theorem NP{t:z}{l:List t.den}(h:iE (.E (.list t) l)):l.length*t.bytes<=140737488351232/\∀(i j:Nat) (c:C),i<l.length->(t.cells (nth l i t.H))[j]? = some c->iE c:=by
 cases h with
 |list _ _ h bv=>exact⟨h,bv⟩

theorem aeR{f:Nat}{fn:Func}{s:ChangeSpec}{apart fresh handsOn again:Bool}{m tb:Nat}{ps:List rZ}(acP:laidOutB P=true)(rC:n7 P m ps fn.params.toList=true)(Sn:fn.resultTypes=#[tb])(DS:P.underlying tb=some .bool)(A2:s.vars=[])
  (ad7:∀ds:List (DataW aQ),ds.length=ps.length->(s.fn aQ (ds++[])).results=[.lit (.bool true)]/\(s.fn aQ (ds++[])).args=ds/\(s.fn aQ (ds++[])).vars=[])
  (eC:∀us,uN ps us->AC P tab f us [] (.one (.E .bool true)) [])
  {gN:World} {args:Array Value} {ds gs:List (DataW aQ)} {before:List MemPlace} (Ki:∀(j:Nat) t v,fn.params[j]? = some t->args[j]? = some v->Value.okWide P gN .any base t v)
  (tG:DataW.Whole enc P fn.params.toList s.vars apart gN args.toList ds gs before) (fw:(DataW.weightsEach P (fn.params.toList++s.plain.varTypes P) (ds++gs)).all (·<=reachBytes)=true)
  (ac1:qZ tab gN (fun b=>b<gN.heap.size)) :
  Calls P f args gN fun e qb=>∃v,e=.returned v/\s.post enc P fn apart fresh handsOn again gN args v qb:=by
 have JG:=tG;obtain⟨p,q,k6,DP,rfl,ane,anj⟩:=tG;have acy:gs=[]/\q=[]:=by rw[A2]at DP;exact trodVars_none DP
 obtain⟨rfl,rfl⟩:=acy;have hlen:∀{ps:List rZ} {ts:List Nat} {vs:List Value} {ds:List (DataW aQ)} {p:List MemPlace},n7 P m ps ts=true->DataW.TrodAll enc P gN 0 (fun _=>true) true ts vs ds p->ds.length=ps.length:=by
  intro ps
  induction ps with
  |nil=>intro ts vs ds p ad h;cases ts<;>cases vs<;>cases ds<;>simp_all[n7,DataW.TrodAll]
  |cons a ps de =>
   intro ts vs ds p ad h
   match ts,vs,ds,h with
   |t::ts,v::vs,d::ds,h =>
    simp only[n7,Bool.and_eq_true]at ad;obtain⟨_,_,_,G,_⟩:=h;simp[de ad.2 G]
   |[],_,_,_=>simp[n7]at ad
 have az:=hlen rC k6;obtain⟨us,gi,jc⟩:=Pd (tab:=tab) rC (fun j t v bm aR=>Ki j t v (by simpa using bm) (by simpa using aR)) k6 (fun k ae=>by
  have:=List.all_eq_true.1 fw k (by
   have:∀(ts:List Nat) (xs:List (DataW aQ)) (FD:List Nat),k∈DataW.weightsEach P ts xs->k∈DataW.weightsEach P (ts++FD) (xs++[]):=by
    intro ts
    induction ts with
    |nil=>intro xs FD h;cases xs<;>simp[DataW.weightsEach]at h
    |cons t ts de =>
     intro xs FD h;cases xs with
     |nil=>simp[DataW.weightsEach]at h
     |cons x xs =>
      simp only[DataW.weightsEach,List.mem_append,List.cons_append]at h |-;exact h.imp id (de xs FD)
   exact this _ _ _ ae)
  simpa using this)
 have ry:Inv tab (fun _=>none) (cJ []) gN (fun b=>b<gN.heap.size):=⟨fun r B h=>by simp[cJ]at h,fun r fo _ ⟨B,bA,_⟩=>by simp[cJ]at bA,fun r ⟨B,bA,_⟩=>by simp[cJ]at bA,fun b ay=>ay,ac1⟩
 have:=eC us gi gN _ _ args.toList ry jc;rw[Array.toArray_toList]at this;refine this.mono fun e ZB ⟨x,bU,S',I,G,_,aS⟩=>?_
 have aG:x=.bool true:=by
  obtain⟨_,aS⟩:=aS;cases aS;rfl
 subst aG;have ay:Below gN.heap.size gN ZB:=⟨G.os,G.tape,G.output,G.size,fun k ae=>G.heap k ae fun⟨r,l,⟨B,bA,_⟩,_⟩=>by simp[cJ]at bA⟩
 obtain⟨ia,iP,kQ⟩:=ad7 ds az;simp only[List.append_nil]at JG;have dX:∀y∈p,y.block<gN.heap.size:=fun y cv=>JG.lt y cv
 refine⟨_,I,agQ (pa:=p) (pv:=[]) JG (fun b lg bH=>?_) (fun lg ad8=>?_) (fun _ _=>?_) (by simp) ay (ok_one Sn (by rfl) (okWide_bool_mk DS _))⟩
 ·rw[ia,Sn];exact trodAll_mk1 (shut_bool DS _)
 ·rw[iP];exact Y3 acP ay rC k6 dX (fun y cv=>ad8 y (by simpa using cv))
 ·rw[kQ,A2];rfl
end
end bF
end Go.Proofs.YtlbppjmekiemiabGreatDoor


/- The executor on data: a contract and its runs in one. No condition. -/
namespace Go.Proofs.YtlbppjmekiemiabGreatDoor
namespace bF
section
variable {P:Program} {tab:cm} {Γ:Ctx} {fn:Func} {k:Nat} {K:V->List bS->Prop} {m:Nat}
structure kV(P:Program)(tab:cm)(f:Nat)(C:a7):Prop where
 ok:∃fn,Cu P f fn
 s:jv P tab f C
theorem kV.zx{f:Nat}{C:a7}(h:kV P tab f C):kV P tab f (Cb C):=⟨h.1,ajx h.2⟩
theorem kV.or{f:Nat}{C b7:a7}(h:kV P tab f C)(g:kV P tab f b7):kV P tab f (EF C b7):=⟨h.1,ajv h.2 g.2⟩
theorem fr.f{f:Nat}{C:a7}(h1:fr P tab Γ)(h:kV P tab f C):fr P tab ((f,C)::Γ) :=
 let ⟨_,g⟩:=h.1
 h1.II g.b6 g.bA h.2
theorem hj{f:Nat}{C:a7}(h1:fr P tab Γ)(b6:P.funcs[f]? = some fn)(bA:rk fn=true)(eC:Gg Γ tab fn C):kV P tab f C:=⟨⟨fn,b6,bA⟩,XH h1 b6 bA eC⟩
def fits(n k:Nat)(vs:List V)(au:List bS):Bool:=Nat.ble vs.length n&&(sO vs&&Nat.beq au.length k)
theorem Rt{n:Nat}{vs:List V}{au:List bS}(h:fits n k vs au=true):Nat.ble vs.length n=true/\sO vs=true/\au.length=k:=by
 simp only[fits,Bool.and_eq_true]at h;exact⟨h.1,h.2.1,Nat.eq_of_beq_eq_true h.2.2⟩
def Zq(Γ:Ctx)(tab:cm)(fn:Func)(k:Nat)(vs:List V)(au:List bS)(v:V)(bg:List bS):Prop:=∀K:V->List bS->Prop,K v bg->∃m,co Γ tab fn k K m [.code (bR fn)] (df vs au)
def Zs(Γ:Ctx)(tab:cm)(fn:Func)(k:Nat)(vs:List V)(au:List bS)(v:V)(bg:List bS):Prop:=∀K:V->List bS->Prop,K v bg->∃m,h4 Γ tab fn k K m [.code (bR fn)] (df vs au)
def Zr(Γ:Ctx)(tab:cm)(fn:Func)(k:Nat)(vs:List V)(au:List bS)(v:V)(bg:List bS):Prop:=∀K:V->List bS->Prop,K v bg->∃m,h4 Γ tab fn k K m [.code (bR fn)] (rG vs au)
def Zt(Γ:Ctx)(tab:cm)(fn:Func)(k:Nat)(vs:List V)(au:List bS)(v:V)(bg:List bS):Prop:=∀K:V->List bS->Prop,K v bg->∃m,qo Γ tab fn k K m [.code (bR fn)] (df vs au)
def Fair(hp:V->List bS->Prop)(n k:Nat)(vs:List V)(au:List bS):Option (Option Prop×V×List bS)->Prop
 |none=>True
 |some (none,v,bg)=>fits n k vs au=true/\hp v bg
 |some (some p,v,bg)=>fits n k vs au=true/\(p->hp v bg)
theorem DC{hp:V->List bS->Prop}{n:Nat}{vs:List V}{au:List bS}{p:Option Prop}{v:V}{bg:List bS}(h:Fair hp n k vs au (some (p,v,bg)))(ad:under p True):(Nat.ble vs.length n=true/\sO vs=true/\au.length=k)/\hp v bg:=by
 cases p with
 |none=>exact⟨Rt h.1,h.2⟩
 |some p=>exact⟨Rt h.1,h.2 ad.1⟩
theorem b2{f:Nat}{C:a7}(k:Nat)(h1:fr P tab Γ)(b6:P.funcs[f]? = some fn)(bA:rk fn=true)(eC:∀vs au,Fair (Zq Γ tab fn k vs au) fn.ntmps k vs au (C vs au)):kV P tab f C:=hj h1 b6 bA fun vs au p v bg e ad=>by
 have g:=eC vs au;rw[e]at g;obtain⟨⟨a,b,rfl⟩,c⟩:=DC g ad;exact⟨a,b,.inl (c _ ⟨rfl,rfl⟩)⟩
theorem mW{f:Nat}{C:a7}(k:Nat)(h1:fr P tab Γ)(b6:P.funcs[f]? = some fn)(bA:rk fn=true)(eC:∀vs au,Fair (Zs Γ tab fn k vs au) fn.ntmps k vs au (C vs au)):kV P tab f C:=hj h1 b6 bA fun vs au p v bg e ad=>by
 have g:=eC vs au;rw[e]at g;obtain⟨⟨a,b,rfl⟩,c⟩:=DC g ad;exact⟨a,b,.inr (.inl (c _ ⟨rfl,rfl⟩))⟩
theorem sY{f:Nat}{C:a7}(k:Nat)(h1:fr P tab Γ)(b6:P.funcs[f]? = some fn)(bA:rk fn=true)(eC:∀vs au,Fair (Zr Γ tab fn k vs au) fn.ntmps k vs au (C vs au)):kV P tab f C:=hj h1 b6 bA fun vs au p v bg e ad=>by
 have g:=eC vs au;rw[e]at g;obtain⟨⟨a,b,rfl⟩,c⟩:=DC g ad;exact⟨a,b,.inr (.inr (.inl (c _ ⟨rfl,rfl⟩)))⟩
theorem ai6{f:Nat}{C:a7}(k:Nat)(h1:fr P tab Γ)(b6:P.funcs[f]? = some fn)(bA:rk fn=true)(eC:∀vs au,Fair (Zt Γ tab fn k vs au) fn.ntmps k vs au (C vs au)):kV P tab f C:=hj h1 b6 bA fun vs au p v bg e ad=>by
 have g:=eC vs au;rw[e]at g;obtain⟨⟨a,b,rfl⟩,c⟩:=DC g ad;exact⟨a,b,.inr (.inr (.inr (c _ ⟨rfl,rfl⟩)))⟩
theorem cf{st:bO}{tg:Code}{c:(List cu->bO->Prop)->Prop}(h:∀rec,b5 Γ tab fn k K rec [.code tg] st=c rec)(aA:c (co Γ tab fn k K m)):co Γ tab fn k K (m+1) [.code tg] st:=by rw[eB,h];exact aA
theorem k4{st:bO}{tg:Code}{c:(List cu->bO->Prop)->Prop}(h:∀rec,js Γ tab fn k K rec [.code tg] st=c rec)(aA:c (h4 Γ tab fn k K m)):h4 Γ tab fn k K (m+1) [.code tg] st:=by rw[qn,h];exact aA
theorem abw{st:bO}{tg:Code}{c:(List cu->bO->Prop)->Prop}(h:∀rec,zg Γ tab fn k K rec [.code tg] st=c rec)(aA:c (qo Γ tab fn k K m)):qo Γ tab fn k K (m+1) [.code tg] st:=by rw[abC,h];exact aA
end
end bF
end Go.Proofs.YtlbppjmekiemiabGreatDoor
