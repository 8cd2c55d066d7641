/- Plain answers of the functions, and plain lemmas on them. No condition. -/
import Derived.Test.YtlbppjmekiemiacGreatDoorSpec1

namespace Go.Proofs.YtlbppjmekiemiacGreatDoor
namespace Vm

def offerX (os:List Offer) (x:Happening):Happening:=if x.kind=1∧0<os.length then ⟨x.kind,x.unit,x.k,nth os (x.k % (os.length:Int)).toNat (Ty.dflt .offer)⟩ else x
def z5z (os:List Offer) (l:List Happening):List Happening:=(l.take 160).map (offerX os)
def doneV (v:Vehicle) (x:Happening):Vehicle:=if (doV v x).2=0 then (doV v x).1 else v
def z3f:Nat→Vehicle→Vehicle
 | 0,v=>v
 | n+1,v=>z3f n (doneV v (happen 4 0 0))
def z32:Nat→Int→Vehicle→Vehicle
 | 0,_,v=>v
 | n+1,k,v=>z32 n (k+1) (doneV v (happen 7 k 0))
def z12:Nat→Vehicle→Vehicle
 | 0,v=>v
 | n+1,v=>if 0<v.net.length then z12 n (doneV v (happen 3 0 0)) else v
def z2u (v:Vehicle) (k:Int):Vehicle:=z12 40 (doneV v (happen 9 k 0))
def z2i (v:Vehicle) (k:Int):Vehicle:=z12 40 (doneV v (happen 2 k 0))
def z18:Nat→Int→Vehicle→Vehicle
 | 0,_,v=>v
 | n+1,k,v=>z18 n (k+1) (z2i (z2u v k) k)
def z20:Nat→Vehicle→Vehicle
 | 0,v=>v
 | n+1,v=>z20 n (z18 v.units.length 0 v)
def z0p (v:Vehicle) (times:Nat):Vehicle:=z20 times (z32 (v.units.length+1) (-1) (z3f v.net.length v))
def z1y (v:Vehicle):Bool:=eqi (readG v.g).2 0 && (decide (v.net.length=0) && (eqi (readG v.g).1.n 0 || (readG v.g).1.ended))
theorem z2w (v:Vehicle) (k:Int) (u:UnitD):(setU v k u).units.length=v.units.length:=List.length_set
theorem zce (v:Vehicle) (x:Happening):(z0y v x).1.units.length=v.units.length:=by
 have hs:∀ (w:Vehicle) (l:List Message),(sendV w l).units=w.units:=fun _ _=>rfl
 unfold z0y
 split
 ·unfold z0w; split<;>rfl
 split
 ·unfold netV
  split
  ·rfl
  split
  ·unfold z0v
   split
   ·unfold arrivedG; split<;>rfl
   ·unfold arrivedU
    split
    ·rw [hs]; exact z2w _ _ _
    ·rfl
  split
  ·rfl
  split
  ·split<;>rfl
  ·rfl
 split
 ·unfold powerV
  split
  ·rfl
  split
  ·rfl
  split
  ·split
   ·rfl
   ·exact z2w _ _ _
  split
  ·rfl
  ·exact z2w _ _ _
 split
 ·unfold gaveV; split<;>rfl
 split
 ·split
  ·rfl
  split
  ·unfold pokeV
   split
   ·rfl
   split<;>rfl
  ·unfold asksV
   split
   ·split<;>rfl
   ·rfl
 split
 ·unfold tickV; split<;>rfl
 ·rfl
theorem z3t (v:Vehicle) (x:Happening):(doneV v x).units.length=v.units.length:=by
 unfold doneV doV
 by_cases h:checkV v=0
 ·by_cases h2:(z0y v x).2=0
  ·rw [if_pos h,if_pos h2,if_pos rfl]; exact zce v x
  ·rw [if_pos h,if_neg h2,if_neg h2]
 ·rw [if_neg h,if_neg h]
theorem z7n:∀ (n:Nat) (v:Vehicle),(z12 n v).units.length=v.units.length
 | 0,_=>rfl
 | n+1,v=>by
  unfold z12
  split
  ·rw [z7n n]; exact z3t _ _
  ·rfl
theorem zb8:∀ (n:Nat) (k:Int) (v:Vehicle),(z18 n k v).units.length=v.units.length
 | 0,_,_=>rfl
 | n+1,k,v=>by
  show (z18 n (k+1) (z2i (z2u v k) k)).units.length=_
  rw [zb8 n,z2i,z7n,z3t,z2u,z7n,z3t]
theorem zcy:∀ (n:Nat) (v:Vehicle),(z3f n v).units.length=v.units.length
 | 0,_=>rfl
 | n+1,v=>by
  show (z3f n (doneV v (happen 4 0 0))).units.length=_
  rw [zcy n]; exact z3t _ _
theorem zbm:∀ (n:Nat) (k:Int) (v:Vehicle),(z32 n k v).units.length=v.units.length
 | 0,_,_=>rfl
 | n+1,k,v=>by
  show (z32 n (k+1) (doneV v (happen 7 k 0))).units.length=_
  rw [zbm n]; exact z3t _ _
end Vm
end Go.Proofs.YtlbppjmekiemiacGreatDoor

namespace Go.Proofs.YtlbppjmekiemiacGreatDoor
namespace Vm

def cutM (m:Message):Message:=⟨m.kind,m.unit,m.n,m.at_,0,m.words,m.yes⟩
def msgOk (n:Nat) (m:Message):Bool:=decide (checkM (cutM m)=0) && decide (m.unit<(n:Int))
def campOk (n:Nat) (c:Campaign):Bool:=decide (c.images.length=n) && (decide (c.r.targets.length=n) && ((c.images.all fun w=>decide (z0j w=0)) && decide (z0i c.r.version c.r.til c.r.targets=0)))
structure OkW (v:Vehicle):Prop where
 b:z0r v.b=0
 s:checkSigned v.s=0
 g:z0t v.g=0
 n:v.units.length=v.g.voted.length
 u:∀ u∈v.units,z14 u=0
 c8:v.campaigns.length≤8
 n24:v.net.length≤24
 c:v.campaigns.all (campOk v.units.length)=true
 m:v.net.all (msgOk v.units.length)=true
 t0:0≤v.now
 t1:v.now≤100000
def okW (v:Vehicle):Bool:=decide (z0r v.b=0) && (decide (checkSigned v.s=0) && (decide (z0t v.g=0) && (decide (v.units.length=v.g.voted.length) && ((v.units.all fun u=>decide (z14 u=0)) && (decide (v.campaigns.length≤8) && (decide (v.net.length≤24) && (v.campaigns.all (campOk v.units.length) && (v.net.all (msgOk v.units.length) && (decide (0≤v.now) && decide (v.now≤100000))))))))))
theorem z34 {v:Vehicle}:okW v=true↔OkW v:=by
 simp only [okW,Bool.and_eq_true,decide_eq_true_eq,List.all_eq_true (p:=fun u=>decide (z14 u=0))]
 exact ⟨fun ⟨a,b,c,d,e,f,g,h,i,j,k⟩=>⟨a,b,c,d,e,f,g,h,i,j,k⟩,fun ⟨a,b,c,d,e,f,g,h,i,j,k⟩=>⟨a,b,c,d,e,f,g,h,i,j,k⟩⟩
theorem OkW.camp {v:Vehicle} (H:OkW v):∀ c∈v.campaigns,c.images.length=v.units.length∧c.r.targets.length=v.units.length∧(∀ w∈c.images,z0j w=0)∧z0i c.r.version c.r.til c.r.targets=0:=fun c hc=>by
 have:=List.all_eq_true.1 H.c c hc
 simpa only [campOk,Bool.and_eq_true,decide_eq_true_eq,List.all_eq_true] using this
theorem OkW.msg {v:Vehicle} (H:OkW v):∀ m∈v.net,checkM (cutM m)=0∧m.unit<(v.units.length:Int):=fun m hm=>by
 have:=List.all_eq_true.1 H.m m hm
 simpa only [msgOk,Bool.and_eq_true,decide_eq_true_eq] using this
theorem zc7 {m:Message} (h:checkM m=0):checkM (cutM m)=0:=by
 obtain ⟨h1,h2,h3,h4,h5,h6,h7,h8,h9,h10,h11,h12⟩:=z1e h
 unfold checkM cutM
 simp only
 rw [if_neg (by omega),if_pos h12]
theorem okV_w {v:Vehicle} (H:OkV v):OkW v :=
 ⟨H.b,H.s,H.g,H.n,H.u,H.c8,H.n24,List.all_eq_true.2 fun c hc=>by
  obtain ⟨a1,a2,a3,a4⟩:=H.camp c hc
  simp only [campOk,Bool.and_eq_true,decide_eq_true_eq]
  exact ⟨a1,a2,List.all_eq_true.2 fun w hw=>decide_eq_true (a3 w hw),a4⟩,List.all_eq_true.2 fun m hm=>by
  obtain ⟨a1,a2⟩:=H.m m hm
  simp only [msgOk,Bool.and_eq_true,decide_eq_true_eq]
  exact ⟨zc7 a1,a2⟩,H.t0,H.t1⟩
theorem OkW.units4 {v:Vehicle} (h:OkW v):1≤v.units.length∧v.units.length≤4:=by
 obtain ⟨_,a,b,_⟩:=z0n h.g
 rw [h.n]; exact ⟨a,b⟩
theorem OkW.gate {v:Vehicle} (H:OkW v) {g:Gate} (h1:z0t g=0) (h2:g.voted.length=v.g.voted.length):OkW ⟨v.b,v.s,g,v.units,v.campaigns,v.net,v.now⟩ :=
 ⟨H.b,H.s,h1,H.n.trans h2.symm,H.u,H.c8,H.n24,H.c,H.m,H.t0,H.t1⟩
theorem OkW.unit {v:Vehicle} (H:OkW v) {u:UnitD} {k:Int} (h1:z14 u=0):OkW (setU v k u):=by
 have e:=z2w v k u
 refine ⟨H.b,H.s,H.g,e.trans H.n,fun x hx=>?_,H.c8,H.n24,by rw [e]; exact H.c,by rw [e]; exact H.m,H.t0,H.t1⟩
 rcases List.mem_or_eq_of_mem_set hx with q | q
 ·exact H.u x q
 ·rw [q]; exact h1
theorem OkW.send {v:Vehicle} (H:OkW v) {l:List Message} (h:∀ m∈l,msgOk v.units.length m=true):OkW (sendV v l):=by
 have n24:=H.n24
 refine ⟨H.b,H.s,H.g,H.n,H.u,H.c8,?_,H.c,List.all_eq_true.2 fun m hm=>?_,H.t0,H.t1⟩
 ·show (v.net++l.take (24-v.net.length)).length≤24
  simp; omega
 ·rcases List.mem_append.1 (show m∈v.net++l.take (24-v.net.length) from hm) with q | q
  ·exact List.all_eq_true.1 H.m m q
  ·exact h m (List.mem_of_mem_take q)
theorem OkW.drop {v:Vehicle} (H:OkW v) (k:Nat):OkW (dropM v k):=by
 have n24:=H.n24
 refine ⟨H.b,H.s,H.g,H.n,H.u,H.c8,?_,H.c,List.all_eq_true.2 fun m hm=>?_,H.t0,H.t1⟩
 ·exact Nat.le_trans (List.length_eraseIdx_le v.net k) n24
 ·exact List.all_eq_true.1 H.m m (List.mem_of_mem_eraseIdx hm)
theorem zfm {n:Nat} {k u q:Int} {y:Bool} (h1:1≤k∧k≤7) (h2:0≤u∧u<(n:Int)) (h3:n≤4) (h4:1≤q∧q≤8):msgOk n ⟨k,u,q,0,0,[],y⟩=true:=by
 have:checkM (cutM ⟨k,u,q,0,0,[],y⟩)=0:=by
  unfold checkM cutM
  simp only [List.length_nil]
  rw [if_neg (by omega)]; rfl
 simp only [msgOk,this,Bool.and_eq_true,decide_eq_true_eq]
 exact ⟨trivial,h2.2⟩
theorem hearG_w {v:Vehicle} (H:OkW v) {m:Message} (h:(hearG v.g m).2=0):OkW (sendV ⟨v.b,v.s,(hearG v.g m).1.1,v.units,v.campaigns,v.net,v.now⟩ (hearG v.g m).1.2):=by
 obtain ⟨u1,u4⟩:=H.units4
 obtain ⟨h1,⟨m1,m2,m3,m4⟩,h3⟩:=z9t h
 rw [h3]
 have hn:=H.n
 refine (H.gate (zd6 h1 m3).1 (z8q h1).1).send fun y hy=>?_
 have key:∀ s:GState,msgOk v.units.length (z19 s m.unit m.n)=true:=fun s=>by
  refine zfm ?_ ⟨m1,by omega⟩ u4 ⟨m3,m4⟩
  unfold kindG
  split<;>omega
 have hy:y∈(z06 v.g m).2:=hy
 unfold z06 at hy
 split at hy
 ·unfold hearsS at hy
  split at hy
  ·split at hy<;>simp at hy
  split at hy
  ·split at hy<;>simp at hy
  split at hy
  ·split at hy
   ·rw [List.mem_singleton.1 hy]; exact key _
   ·simp at hy
  ·simp at hy
 ·simp at hy
theorem hearU_w {v:Vehicle} (H:OkW v) {m:Message} (hm:m.unit<(v.units.length:Int)) (h:(hearU v.b (unitAt v m.unit) m).2=0):OkW (sendV (setU v m.unit (hearU v.b (unitAt v m.unit) m).1.1) (hearU v.b (unitAt v m.unit) m).1.2):=by
 obtain ⟨u1,u4⟩:=H.units4
 obtain ⟨h1,h2⟩:=zdd h
 unfold hearE at h1
 obtain ⟨_,h1⟩:=ifz.1 h1
 obtain ⟨hu,h1⟩:=ifz.1 h1
 obtain ⟨_,_,m3,_,m5,m6,_⟩:=z1e h1
 rw [h2]
 refine (H.unit (zh6 hu h1)).send fun y hy=>?_
 rw [z2w]
 have hy:y∈(z0x v.b (unitAt v m.unit) m).2:=hy
 rcases zc5 (b:=v.b) (u:=unitAt v m.unit) (m:=m) with e | e | ⟨q,e⟩
 ·rw [e] at hy; simp at hy
 ·rw [e] at hy
  rw [List.mem_singleton.1 hy]
  exact zfm (by omega) ⟨m3,hm⟩ u4 ⟨m5,m6⟩
 ·rw [e] at hy
  rw [List.mem_singleton.1 hy]
  exact zfm (by omega) ⟨m3,hm⟩ u4 ⟨m5,m6⟩
theorem arrive_w {v:Vehicle} (H:OkW v) {k:Nat} (hk:k<v.net.length):OkW (z0v v k):=by
 have hm:=List.all_eq_true.1 H.m _ (z1g hk noMsg)
 simp only [msgOk,Bool.and_eq_true,decide_eq_true_eq] at hm
 have hm:(v.net.getD k noMsg).unit<(v.units.length:Int):=hm.2
 have D:=H.drop k
 unfold z0v
 split
 ·unfold arrivedG
  split
  ·rename_i h; exact hearG_w D h
  ·exact D
 ·unfold arrivedU
  split
  ·rename_i h; exact hearU_w D hm h
  ·exact D
theorem z7v {v:Vehicle} (H:OkW v) {k:Int} (h0:0≤k) (h1:k<(v.units.length:Int)):z14 (unitAt v k)=0:=H.u _ (z1g (by omega) noUnit)
theorem net_w {v:Vehicle} (H:OkW v) (kind k:Int):OkW (netV v kind k).1:=by
 unfold netV
 split
 ·exact H
 rename_i c
 split
 ·exact arrive_w H (by omega)
 split
 ·exact H.drop _
 split
 ·split
  ·exact H
  ·exact H.send fun m hm=>by
    rw [List.mem_singleton.1 hm]
    exact List.all_eq_true.1 H.m _ (z1g (by omega) noMsg)
 ·exact H
theorem zao {f:Flash} {k:Int} (h:z0b f=0) (h0:-1≤k) (h1:k≤100000):z0b ⟨f.words,k⟩=0:=by
 obtain ⟨a,_,_,d⟩:=z10 h
 unfold z0b
 rw [if_pos a,if_pos (by simp [h0,h1,d])]
theorem z2l {f:Flash} {k:Int} (h:z0d f=0) (h0:-1≤k) (h1:k≤100000):z0d ⟨f.words,k⟩=0:=by
 obtain ⟨a,b,c,d⟩:=z1w h
 have e:z0b ⟨f.words,k⟩=0:=zao a h0 h1
 unfold z0d
 rw [if_pos e,if_pos (show 64≤f.words.length from b),if_pos ⟨c,d⟩]
theorem zav {u:UnitD} {k:Int} (h:z14 u=0) (h0:-1≤k) (h1:k≤100000):z14 (fuelU u k)=0:=by
 obtain ⟨a,b,c⟩:=z3a h
 have e:z0d ⟨u.f.words,k⟩=0:=z2l a h0 h1
 unfold z14 fuelU
 simp only
 rw [if_pos e,if_pos b,if_neg (by omega)]
theorem bootU_w {u:UnitD} (h:z14 u=0):z14 (z4l u).1=0:=by
 rw [z9u h]
 obtain ⟨a,b,c⟩:=z3a h
 have e:z0d ⟨u.f.words,-1⟩=0:=z2l a (by omega) (by omega)
 unfold z14
 simp only
 rw [if_pos e,if_pos b,if_neg (by omega)]
theorem z8j {α:Type} (n:Nat) (x:α):(zeros n x).length=n:=by simp [zeros]
theorem power_w {v:Vehicle} (H:OkW v) (kind unit k:Int):OkW (powerV v kind unit k).1:=by
 obtain ⟨g1,g2,g3,g4,g5⟩:=z0n H.g
 unfold powerV
 split
 ·exact H
 rename_i c1
 split
 ·exact H
 rename_i c2
 split
 ·split
  ·refine H.gate (z4r (z2l g1 (by omega) (by omega)) g2 g3 g4 g5) rfl
  ·exact H.unit (zav (z7v H (by omega) (by omega)) (by omega) (by omega))
 split
 ·unfold bootsG
  rw [z8h H.g]
  refine H.gate (z4r (z55 g1) ?_ ?_ ?_ g5) ?_<;>simp only [z8j]<;>omega
 ·exact H.unit (bootU_w (z7v H (by omega) (by omega)))
theorem gave_w {v:Vehicle} (H:OkW v):OkW (gaveV v).1:=by
 unfold gaveV
 split
 ·rename_i h
  obtain ⟨h1,_,_,_,h5⟩:=z9x h
  rw [h5]
  refine H.gate (z1q h1) ?_
  obtain ⟨_,_,n3,_⟩:=z1f (r:=[3,(ofG v.g.f).n]) (z0n h1).1
  exact n3
 ·exact H
theorem tick_w {v:Vehicle} (H:OkW v):OkW (tickV v).1:=by
 unfold tickV
 split
 ·exact H
 ·exact ⟨H.b,H.s,H.g,H.n,H.u,H.c8,H.n24,H.c,H.m,by have:=H.t0; show 0≤v.now+1; omega,by have:=H.t1; show v.now+1≤100000; omega⟩
theorem asks_w {v:Vehicle} (H:OkW v) {k:Int} (h0:0≤k) (h1:k<(v.units.length:Int)):OkW (asksV v k).1:=by
 unfold asksV
 split
 ·split
  ·exact H
  ·rename_i c
   exact H.send fun m hm=>by
    unfold askM at hm
    rw [List.mem_singleton.1 hm]
    exact zfm (by omega) ⟨h0,h1⟩ H.units4.2 ⟨by omega,by omega⟩
 ·exact H
theorem z4s {n:Nat} {c:Campaign}:campOk n c=true↔c.images.length=n∧c.r.targets.length=n∧(∀ w∈c.images,z0j w=0)∧z0i c.r.version c.r.til c.r.targets=0:=by
 simp only [campOk,Bool.and_eq_true,decide_eq_true_eq,List.all_eq_true]
theorem z8n {n:Nat} {u q:Int} {w:List Int} (hw:z0j w=0) (hu:0≤u∧u<(n:Int)) (hn:n≤4) (hq:1≤q∧q≤8):∀ (d k:Nat),∀ m∈z1p u q w d k,msgOk n m=true
 | 0,_,m,hm=>by simp [z1p] at hm
 | d+1,k,m,hm=>by
  obtain ⟨_,w2,w3⟩:=z2k hw
  unfold z1p at hm
  split at hm
  ·rename_i hk
   rcases List.mem_cons.1 hm with rfl | hm
   ·have hl:(slc w k (min (k+8) w.length)).length≤8:=by simp only [slc,List.length_drop,List.length_take]; omega
    have ho:z04 (slc w k (min (k+8) w.length))=true:=slc_ok w3 _ _
    have:checkM (cutM (pieceM u q w k))=0:=by
     unfold checkM cutM pieceM
     simp only
     rw [if_neg (by omega),if_pos ho]
    simp only [msgOk,this,Bool.and_eq_true,decide_eq_true_eq]
    exact ⟨trivial,hu.2⟩
   ·exact z8n hw hu hn hq d (k+8) m hm
  ·simp at hm
theorem poke_w {v:Vehicle} (H:OkW v) {k:Int}:OkW (pokeV v k).1:=by
 unfold pokeV
 split
 ·exact H
 rename_i hlen
 split
 ·rename_i h
  obtain ⟨d1,d2,d3,d4,d5,d6,d7,d8,d9⟩:=dueG_ok h
  rw [d9]
  have hn:=H.n
  obtain ⟨u1,u4⟩:=H.units4
  have hs:=z24 v.g.f
  have n0:=hs.n0
  have n8:=hs.n8
  have hk:0≤k∧k<(v.units.length:Int):=⟨d4,by omega⟩
  have hq:1≤(ofG v.g.f).n∧(ofG v.g.f).n≤8:=by omega
  refine H.send fun m hm=>?_
  have hm:m∈(duesG v.g (ofG v.g.f) (z0s v) k).1:=hm
  have hc:z0s v=v.campaigns.getD ((ofG v.g.f).n-1).toNat noCampaign:=by
   unfold z0s
   rw [z6n d1,if_pos (show 0<(ofG v.g.f).n by omega)]
  rw [z6n d1] at hlen
  have hlen:¬ (v.campaigns.length:Int)<(ofG v.g.f).n:=hlen
  have hmem:z0s v∈v.campaigns:=by rw [hc]; exact z1g (by omega) noCampaign
  obtain ⟨c1,c2,c3,c4⟩:=z4s.1 (List.all_eq_true.1 H.c _ hmem)
  generalize z0s v=c at *
  unfold duesG at hm
  split at hm
  ·split at hm
   ·simp at hm
   ·rw [List.mem_singleton.1 hm]
    refine zfm ?_ hk u4 hq
    unfold kindG
    split<;>omega
  ·split at hm
   ·simp at hm
   ·have hw:z0j (nth c.images k.toNat [])=0:=c3 _ (z1g (by omega) [])
    unfold imageM at hm
    split at hm
    ·simp at hm
    ·rename_i hl
     rcases List.mem_append.1 hm with hm | hm
     ·exact z8n hw hk u4 hq _ _ m hm
     ·rw [List.mem_singleton.1 hm]
      have:checkM (cutM ⟨2,k,(ofG v.g.f).n,((nth c.images k.toNat []).length:Int),(nth c.r.targets k.toNat ⟨0,0,0⟩).image,[],false⟩)=0:=by
       unfold checkM cutM
       simp only [List.length_nil]
       rw [if_neg (by omega)]; rfl
      simp only [msgOk,this,Bool.and_eq_true,decide_eq_true_eq]
      exact ⟨trivial,hk.2⟩
 ·exact H
theorem zev {v:Vehicle} (H:OkW v) (o:Offer) (h:(z0w v o).2=0):OkW (z0w v o).1:=by
 unfold z0w at h ⊢
 by_cases c:(beginV v o).2.2=0
 ·rw [if_pos c]
  have hN:=zic c
  unfold beginV at c hN ⊢
  have hG:=zfw (b:=v.b) (l:=v.s) (g:=v.g) (o:=o) (now:=v.now)
  obtain ⟨g1,g2,g3,g4,g5,g6⟩:=z48 c
  obtain ⟨r1,r2,r3,r4,r5,r6,r7⟩:=z6k g5
  obtain ⟨_,v1,v4,_⟩:=z0n g1
  have hvl:(beginG v.b v.s v.g o v.now).1.voted.length=v.g.voted.length:=by
   rw [g6]
   show (begunG v.g (ofG v.g.f) (takeT v.b v.s v.g.t o v.now v.g.voted.length).1 o.r.version).1.voted.length=_
   unfold begunG
   split
   ·exact z8j _ _
   ·obtain ⟨_,_,n3,_⟩:=z1f (r:=[1,(ofG v.g.f).n+1,o.r.version]) (z0n g1).1
    exact n3
  have hck:z0t (beginG v.b v.s v.g o v.now).1=0:=by
   rcases hG with q | q
   ·exact q
   ·rw [q] at hvl
    have:(noGate.voted.length)=0:=rfl
    omega
  have hn:=H.n
  have c8:=H.c8
  have X:=H.gate hck hvl
  refine ⟨H.b,H.s,hck,H.n.trans hvl.symm,H.u,?_,H.n24,?_,H.m,H.t0,H.t1⟩
  ·show (campaignsV v.campaigns (beginG v.b v.s v.g o v.now).2.1 o).length≤8
   unfold campaignsV
   split
   ·simp; omega
   ·exact c8
  ·show (campaignsV v.campaigns (beginG v.b v.s v.g o v.now).2.1 o).all (campOk v.units.length)=true
   unfold campaignsV
   split
   ·refine List.all_eq_true.2 fun x hx=>?_
    rcases List.mem_append.1 hx with q | q
    ·exact List.all_eq_true.1 H.c x (List.mem_of_mem_take q)
    ·rw [List.mem_singleton.1 q]
     exact z4s.2 ⟨by show o.images.length=_; omega,by show o.r.targets.length=_; omega,r4,r1⟩
   ·exact H.c
 ·rw [if_neg c] at h; exact absurd h c
theorem step_w {v:Vehicle} (H:OkW v) {x:Happening} (h:(z0y v x).2=0):OkW (z0y v x).1:=by
 unfold z0y at h ⊢
 by_cases c1:x.kind=1
 ·rw [if_pos c1] at h ⊢; exact zev H x.o h
 rw [if_neg c1] at h ⊢
 by_cases c2:x.kind=3∨x.kind=4∨x.kind=5
 ·rw [if_pos c2]; exact net_w H _ _
 rw [if_neg c2] at h ⊢
 by_cases c3:x.kind=6∨x.kind=7
 ·rw [if_pos c3]; exact power_w H _ _ _
 rw [if_neg c3] at h ⊢
 by_cases c4:x.kind=8
 ·rw [if_pos c4]; exact gave_w H
 rw [if_neg c4] at h ⊢
 by_cases c5:x.kind=2∨x.kind=9
 ·rw [if_pos c5] at h ⊢
  by_cases c6:x.unit<0∨(v.units.length:Int)≤x.unit
  ·rw [if_pos c6]; exact H
  ·rw [if_neg c6]
   by_cases c7:x.kind=2
   ·rw [if_pos c7]; exact poke_w H
   ·rw [if_neg c7]; exact asks_w H (by omega) (by omega)
 rw [if_neg c5] at h ⊢
 by_cases c6:x.kind=10
 ·rw [if_pos c6]; exact tick_w H
 ·rw [if_neg c6]; exact H
end Vm
end Go.Proofs.YtlbppjmekiemiacGreatDoor

namespace Go.Proofs.YtlbppjmekiemiacGreatDoor
namespace Vm

theorem zfs (g:Gate) (r:List Int):(z0o g r).1.t=g.t:=by
 unfold z0o changeG
 split
 ·rfl
 ·split<;>rfl
theorem hears_t (g:Gate) (m:Message):(z06 g m).1.t=g.t:=by
 unfold z06
 split
 ·unfold hearsS
  split
  ·split
   ·rfl
   ·unfold voteG; split
    ·rfl
    ·rw [zfs]; rfl
  split
  ·split
   ·rfl
   ·unfold doneG; split
    ·rfl
    ·rw [zfs]; rfl
  split
  ·split<;>rfl
  ·rfl
 ·rfl
theorem hears_n {g:Gate} {m:Message} (h:z0t g=0) (hm:1≤m.n):(ofG (z06 g m).1.f).n=(ofG g.f).n:=by
 rcases (zd6 h hm).2 with e | ⟨_,_,_,_,_,_,_,e⟩ | ⟨_,_,_,e⟩<;>rw [e]
def StayG (g g':Gate):Prop:=(ofG g'.f).n=(ofG g.f).n∧g'.t=g.t
theorem StayG.refl (g:Gate):StayG g g:=⟨rfl,rfl⟩
theorem hear_stay {g:Gate} {m:Message} (h:(hearG g m).2=0):StayG g (hearG g m).1.1:=by
 obtain ⟨h1,⟨_,_,m3,_⟩,h3⟩:=z9t h
 rw [h3]
 exact ⟨hears_n h1 m3,hears_t g m⟩
theorem zgr (v:Vehicle) (k:Nat):StayG v.g (z0v v k).g:=by
 unfold z0v
 split
 ·unfold arrivedG
  split
  ·rename_i h; exact hear_stay h
  ·exact .refl _
 ·unfold arrivedU
  split<;>exact .refl _
theorem net_stay (v:Vehicle) (kind k:Int):StayG v.g (netV v kind k).1.g:=by
 unfold netV
 split
 ·exact .refl _
 split
 ·exact zgr v _
 split
 ·exact .refl _
 split
 ·split<;>exact .refl _
 ·exact .refl _
theorem zkk {v:Vehicle} (H:z0t v.g=0) (kind unit k:Int):StayG v.g (powerV v kind unit k).1.g:=by
 obtain ⟨g1,_⟩:=z0n H
 unfold powerV
 split
 ·exact .refl _
 rename_i c1
 split
 ·exact .refl _
 rename_i c2
 split
 ·split
  ·refine ⟨?_,rfl⟩
   have e:z0d ⟨v.g.f.words,k⟩=0:=z2l g1 (by omega) (by omega)
   show (ofG ⟨v.g.f.words,k⟩).n=_
   rw [zb6 e,zb6 g1]
  ·exact .refl _
 split
 ·unfold bootsG
  rw [z8h H]
  refine ⟨?_,rfl⟩
  show (ofG ⟨v.g.f.words,-1⟩).n=_
  rw [zdl g1]
 ·exact .refl _
theorem gave_stay (v:Vehicle):StayG v.g (gaveV v).1.g:=by
 unfold gaveV
 split
 ·rename_i h
  obtain ⟨h1,h2,h3,h4,h5⟩:=z9x h
  rw [h5]
  refine ⟨?_,zfs _ _⟩
  obtain ⟨_,_,_,_,n5,_⟩:=z1f (r:=[3,(ofG v.g.f).n]) (z0n h1).1
  rcases n5 with e | e
  ·exact congrArg GState.n e
  ·have:=z4g h2 h3
   exact (congrArg GState.n e).trans (by rw [this])
 ·exact .refl _
theorem poke_stay (v:Vehicle) (k:Int):StayG v.g (pokeV v k).1.g:=by
 unfold pokeV
 split
 ·exact .refl _
 split<;>exact .refl _
theorem asks_stay (v:Vehicle) (k:Int):StayG v.g (asksV v k).1.g:=by
 unfold asksV
 split
 ·split<;>exact .refl _
 ·exact .refl _
theorem tick_stay (v:Vehicle):StayG v.g (tickV v).1.g:=by
 unfold tickV
 split<;>exact .refl _
theorem zk5 {v:Vehicle} (H:z0t v.g=0) {x:Happening} (hx:x.kind≠1):StayG v.g (z0y v x).1.g:=by
 unfold z0y
 rw [if_neg hx]
 split
 ·exact net_stay _ _ _
 split
 ·exact zkk H _ _ _
 split
 ·exact gave_stay v
 split
 ·split
  ·exact .refl _
  split
  ·exact poke_stay _ _
  ·exact asks_stay _ _
 split
 ·exact tick_stay v
 ·exact .refl _
end Vm
end Go.Proofs.YtlbppjmekiemiacGreatDoor

namespace Go.Proofs.YtlbppjmekiemiacGreatDoor
namespace Vm

theorem zk4 {P:Nat→Prop} (h1:P 1) (h2:P 2) (h3:P 3) (h4:P 4) (units:Int):P (Int.toNat (w64 ((1:Int)+units % 4))):=by
 have h:units % 4=0∨units % 4=1∨units % 4=2∨units % 4=3:=by omega
 rcases h with h | h | h | h<;>rw [h]
 ·exact h1
 ·exact h2
 ·exact h3
 ·exact h4
theorem four_w (units:Int):(1:Int)≤w64 ((1:Int)+units % 4)∧w64 ((1:Int)+units % 4)≤4:=by
 rw [z0e (by omega) (by omega)]
 omega
def StayB (v v':Vehicle):Prop:=v'.b=v.b∧v'.s=v.s
theorem StayB.refl (v:Vehicle):StayB v v:=⟨rfl,rfl⟩
theorem arrive_b (v:Vehicle) (k:Nat):StayB v (z0v v k):=by
 unfold z0v
 split
 ·unfold arrivedG
  split<;>exact ⟨rfl,rfl⟩
 ·unfold arrivedU
  split<;>exact ⟨rfl,rfl⟩
theorem net_b (v:Vehicle) (kind k:Int):StayB v (netV v kind k).1:=by
 unfold netV
 split
 ·exact .refl _
 split
 ·exact arrive_b v _
 split
 ·exact ⟨rfl,rfl⟩
 split
 ·split<;>exact ⟨rfl,rfl⟩
 ·exact .refl _
theorem step_b (v:Vehicle) (x:Happening):StayB v (z0y v x).1:=by
 unfold z0y
 split
 ·unfold z0w; split<;>exact ⟨rfl,rfl⟩
 split
 ·exact net_b _ _ _
 split
 ·unfold powerV; repeat (first | exact ⟨rfl,rfl⟩ | split)
 split
 ·unfold gaveV; split<;>exact ⟨rfl,rfl⟩
 split
 ·split
  ·exact .refl _
  split
  ·unfold pokeV; repeat (first | exact ⟨rfl,rfl⟩ | split)
  ·unfold asksV; repeat (first | exact ⟨rfl,rfl⟩ | split)
 split
 ·unfold tickV; split<;>exact ⟨rfl,rfl⟩
 ·exact .refl _
def offOk (til:Int) (b:List (List UInt8)) (s:List Signed) (o:Offer):Bool :=
 decide (o.roots=[]) && (decide (o.rootSigs=[]) && (decide (o.r.til=til) && (decide (o.r.version≠3) || decide (enough s facRoot o.sigs (indexS (z1h o.r.version o.r.til o.r.targets) b+1)≠0))))
def facTakes (n:Nat) (til:Int):Bool :=
 facOk n til && (okW (facN n til).1 && (decide ((facN n til).1.g.t.r.version=1) && (decide ((facN n til).1.g.t.r.keys=[3,4,5]) && (decide ((facN n til).1.g.t.r.thr=2) && (decide ((facO n til).length=3) && (facO n til).all (offOk til (facN n til).1.b (facN n til).1.s))))))
theorem zai (b:List (List UInt8)) (l:List Signed) (t:Trust):rootsT b l t [] []=(t,0):=rfl
theorem zi0 {til:Int} {b:List (List UInt8)} {s:List Signed} {t:Trust} {o:Offer} {now units:Int} (hr:t.r=facRoot) (ho:offOk til b s o=true) (h:(takeT b s t o now units).2=0) :
  o.r.version≠3∧now≤til∧(takeT b s t o now units).1.r=facRoot:=by
 unfold offOk at ho
 simp only [Bool.and_eq_true,decide_eq_true_eq,Bool.or_eq_true] at ho
 obtain ⟨o1,o2,o3,o4⟩:=ho
 obtain ⟨_,_,_,_,h5,h6⟩:=z9z h
 rw [h6]
 rw [o1,o2,zai] at h5 ⊢
 obtain ⟨_,_,r3,_,r5,_⟩:=zdv h5
 refine ⟨fun hv=>?_,by omega,hr⟩
 rcases o4 with q | q
 ·exact q hv
 ·exact q (by rw [← hr]; exact r3)
theorem do_ok {v:Vehicle} {x:Happening} (h:(doV v x).2=0):checkV v=0∧(z0y v x).2=0∧doV v x=((z0y v x).1,0):=by
 unfold doV at h ⊢
 by_cases c:checkV v=0
 ·rw [if_pos c] at h ⊢
  by_cases d:(z0y v x).2=0
  ·rw [if_pos d]; exact ⟨c,d,rfl⟩
  ·rw [if_neg d] at h; exact absurd h d
 ·rw [if_neg c] at h; exact absurd h c
theorem propose_r {til:Int} {v:Vehicle} {o:Offer} (hr:v.g.t.r=facRoot) (ho:offOk til v.b v.s o=true) (h:(z0w v o).2=0):(z0w v o).1.g.t.r=facRoot:=by
 unfold z0w at h ⊢
 by_cases c:(beginV v o).2.2=0
 ·rw [if_pos c]
  unfold beginV at c ⊢
  obtain ⟨_,_,_,_,g5,g6⟩:=z48 c
  rw [g6]
  show (begunG v.g (ofG v.g.f) (takeT v.b v.s v.g.t o v.now v.g.voted.length).1 o.r.version).1.t.r=facRoot
  unfold begunG
  split
  ·exact (zi0 hr ho g5).2.2
  ·rw [zfs]; exact hr
 ·rw [if_neg c] at h; exact absurd h c
theorem zk8 {os:List Offer} (h0:0<os.length) {l:List Happening} {x:Happening} (h:x∈z5z os l) (k:x.kind=1):x.o∈os:=by
 unfold z5z at h
 obtain ⟨y,_,rfl⟩:=List.mem_map.1 h
 unfold offerX at k ⊢
 by_cases c:y.kind=1∧0<os.length
 ·rw [if_pos c]
  refine z1g ?_ _
  have:0≤y.k % (os.length:Int):=Int.emod_nonneg _ (by omega)
  have:y.k % (os.length:Int)<os.length:=Int.emod_lt_of_pos _ (by omega)
  omega
 ·rw [if_neg c] at k
  exact absurd ⟨k,h0⟩ c
end Vm
end Go.Proofs.YtlbppjmekiemiacGreatDoor

namespace Go.Proofs.YtlbppjmekiemiacGreatDoor
namespace Vm

theorem zfe:∀ (rs:List (List Int)) (n:Nat),(∀ k∈rs,checkRec k=0)→n+(allW rs).length≤31→gather n rs=0
 | [],_,_,_=>rfl
 | r::rs,n,h,hl=>by
  have e:(allW (r::rs)).length=(recW r).length+(allW rs).length:=by unfold allW; rw [List.flatMap_cons,List.length_append]
  have hr:=z6m r
  unfold gather
  rw [if_pos (h r (List.mem_cons_self ..)),if_pos (by omega)]
  exact zfe rs _ (fun k hk=>h k (List.mem_cons_of_mem _ hk)) (by omega)
theorem ze8 {f:Flash} {r:List Int} {keep:List (List Int)} (hl:z0d f=0) (hf:f.fuel=-1) (hr:checkRec r=0) (hk:∀ k∈keep,checkRec k=0) (hs:(allW (keep++[r])).length≤31) (hg:z0k f.words<60000):(z0u f r keep).2=0:=by
 have hE:appendE f r keep=0:=by
  unfold appendE
  rw [if_pos hl,if_pos hr]
  exact zfe _ 0 (fun k h=>by
   rcases List.mem_append.1 h with h | h
   ·exact hk k h
   ·rw [List.mem_singleton.1 h]; exact hr) (by omega)
 have hC:∃ cs,appendCh f.words r keep=some cs:=by
  unfold appendCh
  split
  ·exact ⟨_,rfl⟩
  ·rw [if_neg (by omega)]; exact ⟨_,rfl⟩
 obtain ⟨cs,hC⟩:=hC
 rw [zez hE hC,z2n hf]
 rfl
theorem z9c {f:Flash} {r:List Int} {keep:List (List Int)} (h:(z0u f r keep).2=7):recsOf (z0u f r keep).1.words=recsOf f.words:=by
 obtain ⟨cs,hE,hC,e⟩:=z5b (.inr h)
 obtain ⟨_,_,_,_,q5⟩:=z7f (ws:=f.words) (fu:=f.fuel) hE hC
 rw [e] at h ⊢
 by_cases c0:f.fuel<0
 ·exact absurd h (by unfold doCh; rw [if_pos c0]; show ¬ (powerE true:Int)=7; decide)
 by_cases c:(cs.length:Int)≤f.fuel
 ·exact absurd h (by unfold doCh; rw [if_neg c0,if_pos c]; show ¬ (powerE true:Int)=7; decide)
 have e2:=z4t (ws:=f.words) c (by omega)
 show recsOf (doCh ⟨f.words,f.fuel⟩ cs).1.words=_
 rw [e2]
 exact (q5 f.fuel.toNat (by omega)).2.2.1 (by omega)
theorem zcs {f:Flash} {r:List Int} {keep:List (List Int)} (h:(z0u f r keep).2=0∨(z0u f r keep).2=7):z0k (z0u f r keep).1.words≤z0k f.words+1:=by
 obtain ⟨cs,hE,hC,e⟩:=z5b h
 obtain ⟨_,_,_,_,q5⟩:=z7f (ws:=f.words) (fu:=f.fuel) hE hC
 obtain ⟨k,h1,h2,_⟩:=zc1 f cs
 rw [e]
 show z0k (doCh f cs).1.words≤_
 rw [h2]
 exact (q5 k h1).2.1.2
theorem za8 {u:UnitD} {r:List Int} (hu:OkF u.f) (hc:OkC u) (h:(z1o u r).2=false):ofU (z1o u r).1.f=ofU u.f:=by
 have hn:=(z4a (r:=r) hu hc).1
 rw [zdj hn.1,zdj hu.1]
 unfold stW
 unfold z1o at h ⊢
 obtain ⟨x,hx⟩:∃ x,z0u u.f r (keepS (ofU u.f).by_ (ofU u.f).slot (ofU u.f).ready)=x:=⟨_,rfl⟩
 have ha:=z9c (f:=u.f) (r:=r) (keep:=keepS (ofU u.f).by_ (ofU u.f).slot (ofU u.f).ready)
 rw [hx] at h ha ⊢
 unfold changeU at h ⊢
 by_cases c:x.2=0
 ·rw [if_pos c] at h; cases h
 ·rw [if_neg c]
  by_cases c2:x.2=7
  ·rw [if_pos c2]; show stateR (recsOf x.1.words)=_; rw [ha c2]
  ·rw [if_neg c2]
theorem zf3 {u:UnitD} {r:List Int}:z0k (z1o u r).1.f.words≤z0k u.f.words+1:=by
 unfold z1o
 have ha:=zcs (f:=u.f) (r:=r) (keep:=keepS (ofU u.f).by_ (ofU u.f).slot (ofU u.f).ready)
 obtain ⟨x,hx⟩:∃ x,z0u u.f r (keepS (ofU u.f).by_ (ofU u.f).slot (ofU u.f).ready)=x:=⟨_,rfl⟩
 rw [hx] at ha ⊢
 unfold changeU
 by_cases c:x.2=0
 ·rw [if_pos c]; exact ha (.inl c)
 ·rw [if_neg c]
  by_cases c2:x.2=7
  ·rw [if_pos c2]; exact ha (.inr c2)
  ·rw [if_neg c2]; show z0k u.f.words≤_; omega
theorem z25 {a b:Int} (ha:0≤a∧a≤65535) (hb:0≤b∧b≤65535):checkRec [a,b]=0:=z7e (by simp) (by simp) (by simp [z04,okWord]; omega)
theorem z39 {a b c:Int} (ha:0≤a∧a≤65535) (hb:0≤b∧b≤65535) (hc:0≤c∧c≤65535):checkRec [a,b,c]=0:=z7e (by simp) (by simp) (by simp [z04,okWord]; omega)
theorem z8m {u:UnitD} {r:List Int} (hu:OkF u.f) (hf:u.f.fuel=-1) (hg:z0k u.f.words<60000) (hr:checkRec r=0):(z1o u r).2=true:=by
 have hs:=z49 u.f
 have hl:=(z1r hr).2.1
 unfold z1o changeU
 rw [if_pos]
 obtain ⟨⟨s0,s1⟩,⟨b0,b1⟩,r0,r1⟩:=hs
 refine ze8 hu.1 hf hr (fun k hk=>?_) ?_ hg
 ·unfold keepS at hk
  rcases List.mem_cons.1 hk with rfl | hk
  ·exact z39 (by omega) (by omega) (by omega)
  ·split at hk
   ·rw [List.mem_singleton.1 hk]; exact z25 (by omega) (by omega)
   ·cases hk
 ·unfold keepS allW
  split<;>simp [recW]<;>omega
theorem z4w {g:Gate} {r:List Int} (hu:z0d g.f=0) (h:(z0o g r).2=false):ofG (z0o g r).1.f=ofG g.f:=by
 have hn:=(z1f (r:=r) hu).1
 rw [zb6 hn,zb6 hu]
 unfold z0o at h ⊢
 obtain ⟨x,hx⟩:∃ x,z0u g.f r (keepG (ofG g.f))=x:=⟨_,rfl⟩
 have ha:=z9c (f:=g.f) (r:=r) (keep:=keepG (ofG g.f))
 rw [hx] at h ha ⊢
 unfold changeG at h ⊢
 by_cases c:x.2=0
 ·rw [if_pos c] at h; cases h
 ·rw [if_neg c]
  by_cases c2:x.2=7
  ·rw [if_pos c2]; show stateG (recsOf x.1.words)=_; rw [ha c2]
  ·rw [if_neg c2]
theorem z4p {g:Gate} {r:List Int}:z0k (z0o g r).1.f.words≤z0k g.f.words+1:=by
 unfold z0o
 have ha:=zcs (f:=g.f) (r:=r) (keep:=keepG (ofG g.f))
 obtain ⟨x,hx⟩:∃ x,z0u g.f r (keepG (ofG g.f))=x:=⟨_,rfl⟩
 rw [hx] at ha ⊢
 unfold changeG
 by_cases c:x.2=0
 ·rw [if_pos c]; exact ha (.inl c)
 ·rw [if_neg c]
  by_cases c2:x.2=7
  ·rw [if_pos c2]; exact ha (.inr c2)
  ·rw [if_neg c2]; show z0k g.f.words≤_; omega
theorem z8t {g:Gate} {r:List Int}:((z0o g r).1.voted=g.voted∧(z0o g r).1.did=g.did∧(z0o g r).1.up=g.up)∨((z0o g r).1.voted=zeros g.voted.length false∧(z0o g r).1.did=zeros g.did.length false∧(z0o g r).2=false):=by
 unfold z0o changeG
 split
 ·exact .inl ⟨rfl,rfl,rfl⟩
 ·split
  ·exact .inr ⟨rfl,rfl,rfl⟩
  ·exact .inl ⟨rfl,rfl,rfl⟩
theorem z4o {g:Gate} {r:List Int} (hu:z0d g.f=0) (hf:g.f.fuel=-1) (hg:z0k g.f.words<60000) (hr:checkRec r=0):(z0o g r).2=true:=by
 have hs:=z24 g.f
 have hl:=(z1r hr).2.1
 have n0:=hs.n0
 have n8:=hs.n8
 have v0:=hs.v0
 have v1:=hs.v1
 unfold z0o changeG
 rw [if_pos]
 refine ze8 hu hf hr (fun k hk=>?_) ?_ hg
 ·unfold keepG at hk
  split at hk
  ·cases hk
  ·simp only [List.mem_append,List.mem_singleton] at hk
   rcases hk with ((rfl | hk) | hk) | hk
   ·exact z39 (by omega) (by omega) (by omega)
   all_goals
    split at hk
    ·rw [List.mem_singleton.1 hk]; exact z25 (by omega) (by omega)
    ·cases hk
 ·unfold keepG allW
  split
  ·simp [recW]; omega
  ·simp only [List.flatMap_append,List.length_append]
   split<;>split<;>split<;>simp [recW]<;>omega
structure Near (u x:UnitD):Prop where
 f:OkF x.f
 c:OkC x
 pow:u.up=true→u.f.fuel=-1→x.up=true∧x.f.fuel=-1
 gen:z0k x.f.words≤z0k u.f.words+1
theorem near_refl {u:UnitD} (hu:OkF u.f) (hc:OkC u):Near u u:=⟨hu,hc,fun h1 h2=>⟨h1,h2⟩,by omega⟩
theorem z94 {o:Nat} {g f:Flash} (h:Beside o g f) (hf:OkF f):z0k g.words=z0k f.words:=(zbz (xs:=g.words) (ws:=f.words) (h.1.2.trans hf.2.symm) fun i hi=>h.2.1 i (by omega)).2.1
theorem z70 {o:Nat} {u:UnitD} {g:Flash} {e:Int} (hu:OkF u.f) (hc:OkC u) (h:(e=0∨e=7)→Beside o g u.f∧Fine e u.f) (h1:u.up=true) (h2:u.f.fuel=-1):(changeU u g e).1.up=true∧(changeU u g e).1.f.fuel=-1:=by
 obtain ⟨q1,_,q3⟩:=z2b hu hc h
 by_cases c:(changeU u g e).2=true
 ·rw [(z5o c).2] at q1 ⊢
  exact ⟨h1,q1.2.2 h2⟩
 ·rw [q3 h2 (by simpa using c)]; exact ⟨h1,h2⟩
theorem zfv {o:Nat} {u:UnitD} {s:UState} {m:Message} (hu:OkF u.f) (hc:OkC u) (ho:o≤1) (hs:1-s.slot=(o:Int)) (h1:u.up=true) (h2:u.f.fuel=-1):(fillU u s m).up=true∧(fillU u s m).f.fuel=-1:=by
 unfold fillU
 split
 ·exact ⟨h1,h2⟩
 ·have q:(fillC u s m).1.up=true∧(fillC u s m).1.f.fuel=-1:=by
   unfold fillC
   rw [hs]
   exact z70 hu hc (fun he=>z7a hu ho he) h1 h2
  split<;>exact q
theorem zjz {o:Nat} {u:UnitD} {s:UState} {m:Message} (hu:OkF u.f) (hc:OkC u) (hm:1≤m.n∧m.n≤8) (ho:o≤1) (hs:1-s.slot=(o:Int)) (h1:u.up=true) (h2:u.f.fuel=-1):(pieceU u s m).up=true∧(pieceU u s m).f.fuel=-1:=by
 unfold pieceU
 split
 ·exact ⟨h1,h2⟩
 split
 ·have q:(clearC u s).1.up=true∧(clearC u s).1.f.fuel=-1:=by
   unfold clearC
   rw [hs]
   exact z70 hu hc (fun he=>z4e hu ho he) h1 h2
  have b:OkF (clearC u s).1.f:=by
   unfold clearC
   rw [hs]
   exact (z2b (o:=o) hu hc (fun he=>z4e hu ho he)).1.1
  split
  ·exact zfv (u:=⟨(clearC u s).1.f,(clearC u s).1.up,m.n,0⟩) b ⟨⟨by simp only; omega,hm.2⟩,by simp,by simp⟩ ho hs q.1 q.2
  ·exact q
 ·exact zfv hu hc ho hs h1 h2
theorem z7j {o:Nat} {u x:UnitD} (hu:OkF u.f) (h:Beside o x.f u.f) (hc:OkC x) (hp:u.up=true→u.f.fuel=-1→x.up=true):Near u x:=⟨h.1,hc,fun h1 h2=>⟨hp h1 h2,h.2.2 h2⟩,by rw [z94 h hu]; omega⟩
theorem z5k {u:UnitD} {r:List Int} (hu:OkF u.f) (hc:OkC u):Near u (z1o u r).1:=by
 obtain ⟨n1,n2,_,_,n5,n6⟩:=z4a (r:=r) hu hc
 refine ⟨n1,n2,fun h1 h2=>⟨?_,(n6 h2).1⟩,zf3⟩
 by_cases c:(z1o u r).2=true
 ·rw [(n5 c).2]; exact h1
 ·rw [(n6 h2).2 (by simpa using c)]; exact h1
theorem zfo {u x:UnitD} {m:Message} (h:Near u x):Near u (goneU x m).1:=by
 have e:=z5t x m
 exact ⟨by rw [e]; exact h.f,goneU_c h.c m,fun h1 h2=>⟨(gone_up x m).trans (h.pow h1 h2).1,by rw [e]; exact (h.pow h1 h2).2⟩,by rw [e]; exact h.gen⟩
structure SameU (u x:UnitD):Prop where
 st:ofU x.f=ofU u.f
 run:∀ i,64+64*(ofU u.f).slot.toNat≤i→i<128+64*(ofU u.f).slot.toNat→x.f.words.getD i 0=u.f.words.getD i 0
 oth:0<(ofU u.f).ready→∀ i,64≤i→x.f.words.getD i 0=u.f.words.getD i 0
theorem same_refl (u:UnitD):SameU u u:=⟨rfl,fun _ _ _=>rfl,fun _ _ _=>rfl⟩
inductive Heard4 (b:List (List UInt8)) (u:UnitD) (m:Message) (x:UnitD) (out:List Message):Prop
 | stay (h:SameU u x) (ho:out=[]∨out=voteM m false∨(m.kind=2∧m.n≤(ofU u.f).by_∧out=doneM m)∨(m.kind=2∧(ofU u.f).ready=m.n∧(ofU u.f).by_<m.n∧out=voteM m true)∨(m.kind=4∧(ofU u.f).by_=m.n∧out=doneM m)∨(m.kind=5∧(ofU u.f).by_<m.n∧(ofU u.f).ready≠m.n∧out=doneM m))
 | ready (hk:m.kind=2) (hr:(ofU u.f).ready=0) (hb:(ofU u.f).by_<m.n) (hs:ofU x.f=⟨(ofU u.f).slot,(ofU u.f).by_,m.n⟩)
   (run:∀ i,64+64*(ofU u.f).slot.toNat≤i→i<128+64*(ofU u.f).slot.toNat→x.f.words.getD i 0=u.f.words.getD i 0)
   (img:∃ body,z1l x.f (1-(ofU u.f).slot)=(body,m.image,0)∧z0m b body=(m.image,0)) (hm:m.image≠0) (ho:out=voteM m true)
 | runs (hk:m.kind=4) (hr:(ofU u.f).ready=m.n) (hb:(ofU u.f).by_≠m.n) (hs:ofU x.f=⟨1-(ofU u.f).slot,m.n,0⟩) (all:∀ i,64≤i→x.f.words.getD i 0=u.f.words.getD i 0) (ho:out=doneM m)
 | drops (hk:m.kind=5) (hr:(ofU u.f).ready=m.n) (hb:(ofU u.f).by_<m.n) (hs:ofU x.f=⟨(ofU u.f).slot,(ofU u.f).by_,0⟩) (all:∀ i,64≤i→x.f.words.getD i 0=u.f.words.getD i 0) (ho:out=doneM m)
theorem z7g {u x:UnitD} {o:Nat} (hu:OkF u.f) (hs:(ofU u.f).slot=((1-o:Nat):Int)) (ho:o≤1) (h:Beside o x.f u.f) (hr:¬ 0<(ofU u.f).ready):SameU u x :=
 ⟨z5x h hu,fun i h1 h2=>h.2.1 i (by rw [hs] at h1 h2; omega),fun h=>absurd h hr⟩
theorem z7l {b:List (List UInt8)} {u:UnitD} {m:Message} (hu:OkF u.f) (hc:OkC u) (hm:1≤m.n∧m.n≤8) :
  Near u (z0x b u m).1∧Heard4 b u m (z0x b u m).1 (z0x b u m).2:=by
 have hk:=near_refl hu hc
 have hq:∀ {out},(out=[]∨out=voteM m false∨_)→Heard4 b u m u out:=fun h=>.stay (same_refl u) h
 obtain ⟨o,ho,hs,hs'⟩:=z95 (z49 u.f)
 by_cases hup:u.up=true
 case neg=>rw [zci (by simpa using hup)]; exact ⟨hk,hq (.inl rfl)⟩
 unfold z0x
 rw [if_pos hup]
 by_cases k1:m.kind=1
 ·rw [if_pos k1]
  by_cases c:0<(ofU u.f).ready
  ·have e:pieceU u (ofU u.f) m=u:=if_pos (.inl c)
   rw [e]
   exact ⟨hk,hq (.inl rfl)⟩
  ·obtain ⟨p1,p2⟩:=z80 (u:=u) (s:=ofU u.f) (m:=m) hu hc hm ho hs
   exact ⟨z7j hu p1 p2 fun h1 h2=>(zjz hu hc hm ho hs h1 h2).1,.stay (z7g hu hs' ho p1 c) (.inl rfl)⟩
 rw [if_neg k1]
 by_cases k2:m.kind=2
 ·rw [if_pos k2]
  unfold prepareU
  by_cases c1:m.n≤(ofU u.f).by_
  ·rw [if_pos c1]; exact ⟨hk,hq (.inr (.inr (.inl ⟨k2,c1,rfl⟩)))⟩
  rw [if_neg c1]
  by_cases c2:(ofU u.f).ready=m.n
  ·rw [if_pos c2]; exact ⟨hk,hq (.inr (.inr (.inr (.inl ⟨k2,c2,by omega,rfl⟩))))⟩
  rw [if_neg c2]
  by_cases c3:0<(ofU u.f).ready
  ·rw [if_pos c3]; exact ⟨hk,hq (.inr (.inl rfl))⟩
  rw [if_neg c3]
  split
  case isFalse=>exact ⟨hk,hq (.inr (.inl rfl))⟩
  split
  case isFalse=>exact ⟨hk,hq (.inr (.inl rfl))⟩
  rename_i _ c5
  have hcb:(sealS u.f (1-(ofU u.f).slot) m.at_ m.image).2=0∨(sealS u.f (1-(ofU u.f).slot) m.at_ m.image).2=7→Beside o (sealS u.f (1-(ofU u.f).slot) m.at_ m.image).1 u.f∧Fine (sealS u.f (1-(ofU u.f).slot) m.at_ m.image).2 u.f:=fun he=>by rw [hs] at he ⊢; exact z7i hu ho he
  have hb:=z2b (o:=o) (u:=u) (g:=(sealS u.f (1-(ofU u.f).slot) m.at_ m.image).1) (e:=(sealS u.f (1-(ofU u.f).slot) m.at_ m.image).2) hu hc hcb
  have hpw:u.up=true→u.f.fuel=-1→(sealC u (ofU u.f) m).1.up=true∧(sealC u (ofU u.f) m).1.f.fuel=-1:=fun h1 h2=>z70 hu hc hcb h1 h2
  have hb1:Beside o (sealC u (ofU u.f) m).1.f u.f:=hb.1
  have hb2:OkC (sealC u (ofU u.f) m).1:=hb.2.1
  split
  case isFalse=>exact ⟨z7j hu hb1 hb2 fun h1 h2=>(hpw h1 h2).1,.stay (z7g hu hs' ho hb1 c3) (.inl rfl)⟩
  obtain ⟨y,hy⟩:∃ y:UnitD,y=⟨(sealC u (ofU u.f) m).1.f,(sealC u (ofU u.f) m).1.up,0,0⟩:=⟨_,rfl⟩
  have yf:y.f=(sealC u (ofU u.f) m).1.f:=by rw [hy]
  have yb:Beside o y.f u.f:=by rw [yf]; exact hb1
  have yc:OkC y:=by rw [hy]; exact ⟨by simp,by simp⟩
  have yn:Near u y:=z7j hu yb yc fun h1 h2=>by rw [hy]; exact (hpw h1 h2).1
  have ys:SameU u y:=z7g hu hs' ho yb c3
  rw [← hy]
  unfold sealedU
  split
  case isFalse=>exact ⟨yn,.stay ys (.inr (.inl rfl))⟩
  rename_i c8
  obtain ⟨n1,n2,n3,n4,n5,n6⟩:=z4a (u:=y) (r:=[2,m.n]) yn.f yc
  have nn:Near u (z1o y [2,m.n]).1:=⟨n1,n2,fun h1 h2=>(z5k yn.f yc).pow (yn.pow h1 h2).1 (yn.pow h1 h2).2,by have:=zf3 (u:=y) (r:=[2,m.n]); rw [z94 yb hu] at this; exact this⟩
  have nr:∀ i,64+64*(ofU u.f).slot.toNat≤i→i<128+64*(ofU u.f).slot.toNat→(z1o y [2,m.n]).1.f.words.getD i 0=u.f.words.getD i 0:=fun i h1 h2=>(n3 i (by omega)).trans (ys.run i h1 h2)
  split
  ·rename_i c9
   refine ⟨nn,.ready k2 (by have:=(z49 u.f).2.2.1; omega) (by omega) ?_ nr ⟨(bodyS u.f (1-(ofU u.f).slot) m.at_).1,?_,?_⟩ (by omega) rfl⟩
   ·rw [(n5 c9).1,zcm,ys.st]
   ·rw [z3s n1 yn.f (by have:=(z49 u.f).1; omega) (fun i h1 _=>n3 i (by omega))]
    obtain ⟨a1,a2,a3⟩:=c8
    rw [← a2,← a3,← a1]
   ·obtain ⟨a1,_,a3⟩:=c5
    rw [← a3,← a1]
  ·rename_i c9
   exact ⟨nn,.stay ⟨(za8 yn.f yc (by simpa using c9)).trans ys.st,nr,fun h=>absurd h c3⟩ (.inl rfl)⟩
 rw [if_neg k2]
 by_cases k4:m.kind=4∨m.kind=5
 case neg=>rw [if_neg k4]; exact ⟨hk,hq (.inl rfl)⟩
 rw [if_pos k4]
 have note:=fun r=>z4a (u:=u) (r:=r) hu hc
 have stay:∀ r,(z1o u r).2=false→SameU u (z1o u r).1:=fun r h=>⟨za8 hu hc h,fun i h1 _=>(note r).2.2.1 i (by omega),fun _ i h1=>(note r).2.2.1 i h1⟩
 unfold decidedU
 by_cases c4:m.kind=4
 ·rw [if_pos c4]
  by_cases c1:(ofU u.f).by_=m.n
  ·rw [if_pos c1]; exact ⟨hk,hq (.inr (.inr (.inr (.inr (.inl ⟨c4,c1,rfl⟩)))))⟩
  rw [if_neg c1]
  by_cases c2:(ofU u.f).ready=m.n
  case neg=>rw [if_neg c2]; exact ⟨hk,hq (.inl rfl)⟩
  rw [if_pos c2]
  split
  ·rename_i c9
   refine ⟨z5k hu hc,.runs c4 c2 c1 ?_ (note _).2.2.1 rfl⟩
   rw [((note _).2.2.2.2.1 c9).1,zb3 _ (by have:=(z49 u.f).1; omega)]
  ·rename_i c9
   exact ⟨z5k hu hc,.stay (stay _ (by simpa using c9)) (.inl rfl)⟩
 ·rw [if_neg c4]
  have c5:m.kind=5:=by omega
  by_cases c1:m.n≤(ofU u.f).by_
  ·rw [if_pos c1]; exact ⟨hk,hq (.inl rfl)⟩
  rw [if_neg c1]
  by_cases c2:(ofU u.f).ready=m.n
  ·rw [if_pos c2]
   split
   ·rename_i c9
    refine ⟨zfo (z5k hu hc),.drops c5 c2 (by omega) ?_ (fun i hi=>?_) (z83 _ _)⟩
    ·rw [z5t,((note _).2.2.2.2.1 c9).1,zdt]
    ·rw [z5t]; exact (note _).2.2.1 i hi
   ·rename_i c9
    exact ⟨z5k hu hc,.stay (stay _ (by simpa using c9)) (.inl rfl)⟩
  ·rw [if_neg c2]
   exact ⟨zfo hk,.stay ⟨by rw [z5t],fun i _ _=>by rw [z5t],fun _ i _=>by rw [z5t]⟩ (.inr (.inr (.inr (.inr (.inr ⟨c5,by omega,c2,z83 _ _⟩)))))⟩
end Vm
end Go.Proofs.YtlbppjmekiemiacGreatDoor

namespace Go.Proofs.YtlbppjmekiemiacGreatDoor
namespace Vm

def valT (l:List UInt8):Nat:=l.foldl (fun a d=>a*10+(d.toNat-48)) 0
theorem zdz:∀ (f u:Nat),0<f→u<10 ^ f→valT (digs f u)=u
 | 0,_,h,_=>absurd h (by omega)
 | f+1,u,_,hu=>by
  unfold digs
  by_cases c:u<10
  ·rw [if_pos c]
   have:(UInt8.ofNat (48+u)).toNat=48+u:=by simp; omega
   show 0*10+((UInt8.ofNat (48+u)).toNat-48)=u
   rw [this]; omega
  ·rw [if_neg c]
   have h1:u / 10<10 ^ f:=by
    rw [Nat.pow_succ] at hu
    exact Nat.div_lt_of_lt_mul (by omega)
   have h2:0<f:=by
    cases f with
    | zero=>simp at h1; omega
    | succ f=>omega
   have ih:=zdz f (u / 10) h2 h1
   have:(UInt8.ofNat (48+u % 10)).toNat=48+u % 10:=by simp; omega
   unfold valT at ih ⊢
   rw [List.foldl_append,ih]
   simp only [List.foldl_cons,List.foldl_nil,this]
   omega
theorem zcb:∀ (f u:Nat),∀ d∈digs f u,48≤d.toNat∧d.toNat≤57
 | 0,_,d,hd=>by cases hd
 | f+1,u,d,hd=>by
  unfold digs at hd
  by_cases c:u<10
  ·rw [if_pos c] at hd
   rw [List.mem_singleton.1 hd]
   have:(UInt8.ofNat (48+u)).toNat=48+u:=by simp; omega
   omega
  ·rw [if_neg c] at hd
   rcases List.mem_append.1 hd with h | h
   ·exact zcb f _ d h
   ·rw [List.mem_singleton.1 h]
    have:(UInt8.ofNat (48+u % 10)).toNat=48+u % 10:=by simp; omega
    omega
theorem numT_inj {n k:Int} (h0:0≤n) (h1:n≤9223372036854775807) (k0:0≤k) (k1:k≤9223372036854775807) (h:numT n=numT k):n=k:=by
 unfold numT at h
 have a:=zdz 20 n.toNat (by omega) (by omega)
 have b:=zdz 20 k.toNat (by omega) (by omega)
 rw [h,b] at a
 omega
theorem numT_ne (n:Int):numT n≠[]:=by
 unfold numT digs
 split<;>simp
theorem numT_no (n:Int):(32:UInt8)∉numT n:=fun h=>by
 have:=(zcb _ _ _ h).1
 exact absurd this (by decide)
theorem ziy {s:UInt8}:∀ {a b r q:List UInt8},s∉a→s∉b→(r=[]∨∃ t,r=s::t)→(q=[]∨∃ t,q=s::t)→a++r=b++q→a=b∧r=q
 | [],[],r,q,_,_,_,_,h=>⟨rfl,h⟩
 | [],y::b,r,q,_,hb,hr,_,h=>by
  rcases hr with rfl | ⟨t,rfl⟩
  ·simp at h
  ·simp only [List.nil_append,List.cons_append,List.cons.injEq] at h
   exact absurd (List.mem_cons_self ..) (h.1 ▸ hb)
 | x::a,[],r,q,ha,_,_,hq,h=>by
  rcases hq with rfl | ⟨t,rfl⟩
  ·simp at h
  ·simp only [List.nil_append,List.cons_append,List.cons.injEq] at h
   exact absurd (List.mem_cons_self ..) (h.1 ▸ ha)
 | x::a,y::b,r,q,ha,hb,hr,hq,h=>by
  simp only [List.cons_append,List.cons.injEq] at h
  obtain ⟨e1,e2⟩:=ziy (fun m=>ha (List.mem_cons_of_mem _ m)) (fun m=>hb (List.mem_cons_of_mem _ m)) hr hq h.2
  exact ⟨by rw [h.1,e1],e2⟩
theorem zff:∀ {a b:List Int},nums a=true→nums b=true→listT a=listT b→a=b
 | [],[],_,_,_=>rfl
 | [],y::b,_,_,h=>by
  unfold listT at h
  rw [List.map_cons,z98] at h
  exact absurd (List.append_eq_nil_iff.1 h.symm).1 (numT_ne y)
 | x::a,[],_,_,h=>by
  unfold listT at h
  rw [List.map_cons,z98] at h
  exact absurd (List.append_eq_nil_iff.1 h).1 (numT_ne x)
 | x::a,y::b,ha,hb,h=>by
  have step:∀ (z:Int) (l:List Int),listT (z::l)=numT z++(if l=[] then [] else 32::listT l):=fun z l=>by
   cases l with
   | nil=>simp [listT,joinT]
   | cons w l=>simp [listT,joinT]
  rw [step,step] at h
  simp only [nums,List.all_cons,Bool.and_eq_true,decide_eq_true_eq] at ha hb
  have tail:∀ l:List Int,(if l=[] then ([]:List UInt8) else 32::listT l)=[]∨∃ t,(if l=[] then ([]:List UInt8) else 32::listT l)=32::t:=fun l=>by
   by_cases c:l=[]
   ·rw [if_pos c]; exact .inl rfl
   ·rw [if_neg c]; exact .inr ⟨_,rfl⟩
  obtain ⟨e1,e2⟩:=ziy (numT_no x) (numT_no y) (tail a) (tail b) h
  have exy:x=y:=numT_inj ha.1.1 ha.1.2 hb.1.1 hb.1.2 e1
  by_cases ca:a=[]
  ·by_cases cb:b=[]
   ·rw [exy,ca,cb]
   ·rw [if_pos ca,if_neg cb] at e2; cases e2
  ·by_cases cb:b=[]
   ·rw [if_neg ca,if_pos cb] at e2; cases e2
   ·rw [if_neg ca,if_neg cb] at e2
    rw [exy,zff (a:=a) (b:=b) ha.2 hb.2 (List.cons.inj e2).2]
theorem zde {w v:List Int} (hw:z04 w=true) (hv:z04 v=true) (h:imageText w=imageText v):w=v:=by
 unfold imageText at h
 exact zff (z59 hw) (z59 hv) (List.append_cancel_left h)
theorem zdh {b:List (List UInt8)} {w v:List Int} {n:Int} (hw:z0m b w=(n,0)) (hv:z0m b v=(n,0)) (hn:n≠0):w=v:=by
 have key:∀ {x:List Int},z0m b x=(n,0)→z04 x=true∧nth b (n-1).toNat []=imageText x:=fun {x} hx=>by
  obtain ⟨k1,k2,_⟩:=zbj (b:=b) (w:=x) (by rw [hx]) (by rw [hx]; exact hn)
  rw [hx] at k2
  refine ⟨(z2k k1).2.2,?_⟩
  unfold z0m at hx
  rw [if_pos k1] at hx
  unfold nameB at hx
  split at hx
  ·have e:indexS (imageText x) b+1=n:=congrArg Prod.fst hx
   have:=indexS_at (imageText x) b (by simp only at k2; omega)
   rw [show n-1=indexS (imageText x) b by omega]
   exact this
  ·rename_i c
   exact absurd (congrArg Prod.snd hx) c
 obtain ⟨a1,a2⟩:=key hw
 obtain ⟨b1,b2⟩:=key hv
 exact zde a1 b1 (a2.symm.trans b2)
end Vm
end Go.Proofs.YtlbppjmekiemiacGreatDoor

namespace Go.Proofs.YtlbppjmekiemiacGreatDoor
namespace Vm

def VoteI (s:GState) (x:UState):Prop:=s.abort=false→x.by_=s.n∨x.ready=s.n
def DoneI (s:GState) (x:UState):Prop:=(s.commit=true∨s.abort=true)∧(s.commit=true→x.by_=s.n)
structure UnitI (s:GState) (c:Int) (x:UState):Prop where
 by_:x.by_=c∨(s.commit=true∧x.by_=s.n)
 rdy:x.ready=0∨(x.by_<x.ready∧x.ready≤s.n)
 com:s.commit=true→x.by_=s.n∨x.ready=s.n
 fin:s.commit=true→s.ended=true→x.by_=s.n
structure MsgI (s:GState) (c:Int) (x:UState) (tg:Int) (m:Message):Prop where
 ok:checkM m=0
 n:m.n≤s.n
 vote:m.kind=3→m.yes=true→m.n=s.n→VoteI s x
 done:m.kind=6→m.n=s.n→DoneI s x
 com:m.kind=4→(m.n=s.n∧s.commit=true)∨m.n≤c
 abo:m.kind=5→m.n=s.n→s.abort=true
 prep:m.kind=2→m.image=tg
def BaseI (s:GState) (c:Int):Prop:=0≤c∧(c<s.n∨(c=0∧s.n=0))
inductive StepU (s:GState) (c:Int) (x:UState):UState→Prop
 | same:StepU s c x x
 | ready (n:Int) (hr:x.ready=0) (hb:x.by_<n) (h1:1≤n) (hn:n≤s.n):StepU s c x ⟨x.slot,x.by_,n⟩
 | runs (n:Int) (hr:x.ready=n) (hb:x.by_≠n) (h1:1≤n) (hc:(n=s.n∧s.commit=true)∨n≤c):StepU s c x ⟨1-x.slot,n,0⟩
 | drops (n:Int) (hr:x.ready=n) (hb:x.by_<n) (h1:1≤n) (ha:n=s.n→s.abort=true):StepU s c x ⟨x.slot,x.by_,0⟩
theorem zkd {s:GState} {c:Int} {x y:UState} (hs:OkG s) (hg:BaseI s c) (hu:UnitI s c x) (h:StepU s c x y):UnitI s c y∧x.by_≤y.by_∧(VoteI s x→VoteI s y)∧(DoneI s x→DoneI s y):=by
 obtain ⟨u1,u2,u3,u4⟩:=hu
 obtain ⟨g0,g1⟩:=hg
 cases h with
 | same=>exact ⟨⟨u1,u2,u3,u4⟩,Int.le_refl _,id,id⟩
 | ready n hr hb h1 hn =>
  refine ⟨⟨u1,.inr ⟨hb,hn⟩,fun hc=>?_,u4⟩,Int.le_refl _,fun hv ha=>?_,fun hd=>⟨hd.1,hd.2⟩⟩
  ·rcases u3 hc with q | q
   ·exact .inl q
   ·exact absurd q (by omega)
  ·rcases hv ha with q | q
   ·exact .inl q
   ·exact absurd q (by omega)
 | runs n hr hb h1 hc =>
  have hlt:x.by_<n:=by
   rcases u2 with q | q
   ·omega
   ·omega
  have hc':n=s.n∧s.commit=true:=by
   rcases hc with q | q
   ·exact q
   ·rcases u1 with p | p
    ·omega
    ·omega
  refine ⟨⟨.inr ⟨hc'.2,hc'.1⟩,.inl rfl,fun _=>.inl hc'.1,fun _ _=>hc'.1⟩,by simp only; omega,fun _ _=>.inl hc'.1,fun hd=>⟨hd.1,fun _=>hc'.1⟩⟩
 | drops n hr hb h1 ha =>
  refine ⟨⟨u1,.inl rfl,fun hc=>?_,u4⟩,Int.le_refl _,fun hv hb2=>?_,fun hd=>⟨hd.1,hd.2⟩⟩
  ·rcases u3 hc with q | q
   ·exact .inl q
   ·exact absurd hc (fun hc=>hs.one hc (ha (by omega)))
  ·rcases hv hb2 with q | q
   ·exact .inl q
   ·have:=ha (by omega)
    rw [hb2] at this; cases this
theorem msg_unit {s:GState} {c:Int} {x y:UState} {tg:Int} {m:Message} (hv:VoteI s x→VoteI s y) (hd:DoneI s x→DoneI s y) (h:MsgI s c x tg m):MsgI s c y tg m :=
 ⟨h.ok,h.n,fun a b d=>hv (h.vote a b d),fun a b=>hd (h.done a b),h.com,h.abo,h.prep⟩
theorem zgz {s:GState} {c:Int} {x:UState} {tg:Int} {m:Message} {y:Bool} (hm:checkM m=0) (hn:m.n≤s.n) (h:y=true→m.n=s.n→VoteI s x):∀ z∈voteM m y,z.unit=m.unit∧MsgI s c x tg z:=fun z hz=>by
 obtain ⟨_,_,m3,m4,m5,m6,_⟩:=z1e hm
 rw [List.mem_singleton.1 hz]
 exact ⟨rfl,z62 (by omega) ⟨m3,m4⟩ ⟨m5,m6⟩,hn,fun _ b d=>h b d,fun a=>by simp at a,fun a=>by simp at a,fun a=>by simp at a,fun a=>by simp at a⟩
theorem zaz {s:GState} {c:Int} {x:UState} {tg:Int} {m:Message} (hm:checkM m=0) (hn:m.n≤s.n) (h:m.n=s.n→DoneI s x):∀ z∈doneM m,z.unit=m.unit∧MsgI s c x tg z:=fun z hz=>by
 obtain ⟨_,_,m3,m4,m5,m6,_⟩:=z1e hm
 rw [List.mem_singleton.1 hz]
 exact ⟨rfl,z62 (by omega) ⟨m3,m4⟩ ⟨m5,m6⟩,hn,fun a=>by simp at a,fun _ d=>h d,fun a=>by simp at a,fun a=>by simp at a,fun a=>by simp at a⟩
theorem ze7 {s:GState} {c:Int} {x:UState} (hg:BaseI s c) (hu:UnitI s c x) (h1:1≤s.n) (h:s.n≤x.by_):DoneI s x:=by
 obtain ⟨g0,g1⟩:=hg
 rcases hu.by_ with q | q
 ·omega
 ·exact ⟨.inl q.1,fun _=>q.2⟩
theorem zkc {b:List (List UInt8)} {u x:UnitD} {m:Message} {out:List Message} {s:GState} {c tg:Int} (hs:OkG s) (hg:BaseI s c) (hu:UnitI s c (ofU u.f)) (hm:MsgI s c (ofU u.f) tg m) (h:Heard4 b u m x out) :
  StepU s c (ofU u.f) (ofU x.f)∧∀ tg',∀ z∈out,z.unit=m.unit∧MsgI s c (ofU x.f) tg' z:=by
 obtain ⟨_,_,m3,m4,m5,m6,_⟩:=z1e hm.ok
 have hn:=hm.n
 cases h with
 | stay h ho =>
  rw [h.st]
  refine ⟨.same,fun tg' z hz=>?_⟩
  rcases ho with e | e | ⟨_,k2,e⟩ | ⟨_,k2,k3,e⟩ | ⟨_,k2,e⟩ | ⟨k,k2,k3,e⟩
  ·rw [e] at hz; cases hz
  ·rw [e] at hz; exact zgz hm.ok hn (fun h=>by cases h) z hz
  ·rw [e] at hz; exact zaz hm.ok hn (fun h=>ze7 hg hu (by omega) (by omega)) z hz
  ·rw [e] at hz; exact zgz hm.ok hn (fun _ h _=>.inr (by omega)) z hz
  ·rw [e] at hz; exact zaz hm.ok hn (fun h=>ze7 hg hu (by omega) (by omega)) z hz
  ·rw [e] at hz; exact zaz hm.ok hn (fun h=>⟨.inr (hm.abo k h),fun hc=>(hs.one hc (hm.abo k h)).elim⟩) z hz
 | ready hk hr hb hst _ _ _ ho =>
  rw [hst,ho]
  exact ⟨.ready m.n hr hb m5 hn,fun tg'=>zgz hm.ok hn fun _ h _=>.inr h⟩
 | runs hk hr hb hst _ ho =>
  rw [hst,ho]
  refine ⟨.runs m.n hr hb m5 (hm.com hk),fun tg'=>zaz hm.ok hn fun h=>⟨?_,fun _=>h⟩⟩
  rcases hm.com hk with q | q
  ·exact .inl q.2
  ·obtain ⟨g0,g1⟩:=hg
   omega
 | drops hk hr hb hst _ ho =>
  rw [hst,ho]
  exact ⟨.drops m.n hr hb m5 (hm.abo hk),fun tg'=>zaz hm.ok hn fun h=>⟨.inr (hm.abo hk h),fun hc=>(hs.one hc (hm.abo hk h)).elim⟩⟩
def imgOf (cs:List Campaign) (n:Int) (k:Nat):List Int:=nth (cs.getD (n-1).toNat noCampaign).images k []
def runsI (first:List (List Int)) (cs:List Campaign) (n:Int) (k:Nat):List Int:=if n=0 then nth first k [] else imgOf cs n k
structure ContI (first:List (List Int)) (cs:List Campaign) (k:Nat) (u:UnitD):Prop where
 run:(z1l u.f (ofU u.f).slot).1=runsI first cs (ofU u.f).by_ k∧(z1l u.f (ofU u.f).slot).2.2=0
 oth:0<(ofU u.f).ready→(z1l u.f (1-(ofU u.f).slot)).1=imgOf cs (ofU u.f).ready k∧(z1l u.f (1-(ofU u.f).slot)).2.2=0
def tgOf (cs:List Campaign) (m:Message):Int:=(nth (cs.getD (m.n-1).toNat noCampaign).r.targets m.unit.toNat ⟨0,0,0⟩).image
structure CampI (b:List (List UInt8)) (units i:Nat) (x:Campaign):Prop where
 n:x.n=(i:Int)+1
 img:∀ k,k<units→z0m b (nth x.images k [])=((nth x.r.targets k ⟨0,0,0⟩).image,0)∧1≤(nth x.r.targets k ⟨0,0,0⟩).image∧(nth x.r.targets k ⟨0,0,0⟩).image≤60
theorem zge {first:List (List Int)} {cs:List Campaign} {k:Nat} {u x:UnitD} (hu:OkF u.f) (hx:OkF x.f) (h:SameU u x) (I:ContI first cs k u):ContI first cs k x:=by
 obtain ⟨⟨s0,s1⟩,_⟩:=z49 u.f
 refine ⟨?_,fun hr=>?_⟩
 ·rw [h.st,z3s hx hu ⟨s0,s1⟩ h.run]; exact I.run
 ·rw [h.st] at hr ⊢
  rw [z3s hx hu (by omega) (fun i h1 _=>h.oth hr i (by omega))]; exact I.oth hr
theorem zjq {b:List (List UInt8)} {first:List (List Int)} {cs:List Campaign} {N:Nat} {u x:UnitD} {m:Message} {out:List Message} {s:GState} {c:Int} (hu:OkF u.f) (hx:OkF x.f) (hm:MsgI s c (ofU u.f) (tgOf cs m) m) (hl:(cs.length:Int)=s.n) (hcs:∀ i,i<cs.length→CampI b N i (cs.getD i noCampaign)) (hk:m.unit.toNat<N)
  (h:Heard4 b u m x out) (I:ContI first cs m.unit.toNat u):ContI first cs m.unit.toNat x:=by
 obtain ⟨⟨s0,s1⟩,⟨b0,b1⟩,_⟩:=z49 u.f
 obtain ⟨_,_,m3,m4,m5,m6,_⟩:=z1e hm.ok
 cases h with
 | stay h _=>exact zge hu hx h I
 | ready k2 hr hb hst run img hi _ =>
  obtain ⟨body,e1,e2⟩:=img
  refine ⟨?_,fun _=>?_⟩
  ·rw [hst]; rw [z3s hx hu ⟨s0,s1⟩ run]; exact I.run
  ·rw [hst,e1]
   refine ⟨?_,rfl⟩
   have hn:=hm.n
   have C:=(hcs (m.n-1).toNat (by omega)).img m.unit.toNat hk
   exact zdh e2 (C.1.trans (by rw [show (nth (cs.getD (m.n-1).toNat noCampaign).r.targets m.unit.toNat ⟨0,0,0⟩).image=tgOf cs m from rfl,← hm.prep k2])) hi
 | runs k4 hr hb hst all _ =>
  have o:=I.oth (by omega)
  rw [hr] at o
  refine ⟨?_,fun h=>?_⟩
  ·rw [hst]
   simp only
   rw [z3s hx hu (by omega) (fun i h1 _=>all i (by omega))]
   unfold runsI
   rw [if_neg (by omega)]
   exact o
  ·rw [hst] at h; exact absurd h (by simp)
 | drops k5 hr hb hst all _ =>
  refine ⟨?_,fun h=>?_⟩
  ·rw [hst]
   simp only
   rw [z3s hx hu ⟨s0,s1⟩ (fun i h1 _=>all i (by omega))]
   exact I.run
  ·rw [hst] at h; exact absurd h (by simp)
end Vm
end Go.Proofs.YtlbppjmekiemiacGreatDoor

namespace Go.Proofs.YtlbppjmekiemiacGreatDoor
namespace Vm

def UU (v:Vehicle) (k:Nat):UnitD:=v.units.getD k noUnit
def TT (v:Vehicle) (k:Nat):UState:=ofU (UU v k).f
structure VI (first:List (List Int)) (c:Int) (v:Vehicle):Prop where
 w:OkW v
 len:(v.campaigns.length:Int)=(ofG v.g.f).n
 cam:∀ i,i<v.campaigns.length→CampI v.b v.units.length i (v.campaigns.getD i noCampaign)
 base:BaseI (ofG v.g.f) c
 unit:∀ k,k<v.units.length→UnitI (ofG v.g.f) c (TT v k)
 net:∀ m∈v.net,MsgI (ofG v.g.f) c (TT v m.unit.toNat) (tgOf v.campaigns m) m
 vot:∀ k,k<v.units.length→v.g.voted.getD k false=true→VoteI (ofG v.g.f) (TT v k)
 did:∀ k,k<v.units.length→v.g.did.getD k false=true→DoneI (ofG v.g.f) (TT v k)
 cont:∀ k,k<v.units.length→ContI first v.campaigns k (UU v k)
variable {first:List (List Int)} {c:Int} {v:Vehicle}
theorem z4h {α:Type} (l:List α) (i k:Nat) (x d:α) (hi:i<l.length):(l.set i x).getD k d=if k=i then x else l.getD k d:=by
 simp only [List.getD_eq_getElem?_getD]
 by_cases c:k=i
 ·rw [if_pos c,c,List.getElem?_set_self hi]; rfl
 ·rw [if_neg c,List.getElem?_set_ne (by omega)]
theorem z2v (n k:Nat):(zeros n false).getD k false=false:=by
 unfold zeros
 simp only [List.getD_eq_getElem?_getD,List.getElem?_replicate]
 split<;>rfl
theorem VI.ug (I:VI first c v):(∀ k,k<v.units.length→z14 (UU v k)=0):=fun k hk=>I.w.u _ (z1g hk noUnit)
theorem VI.sub (I:VI first c v) {net:List Message} (h:∀ m∈net,m∈v.net) (hl:net.length≤24):VI first c ⟨v.b,v.s,v.g,v.units,v.campaigns,net,v.now⟩ :=
 ⟨⟨I.w.b,I.w.s,I.w.g,I.w.n,I.w.u,I.w.c8,hl,I.w.c,List.all_eq_true.2 fun m hm=>List.all_eq_true.1 I.w.m m (h m hm),I.w.t0,I.w.t1⟩,I.len,I.cam,I.base,I.unit,fun m hm=>I.net m (h m hm),I.vot,I.did,I.cont⟩
theorem VI.drop (I:VI first c v) (k:Nat):VI first c (dropM v k):=I.sub (fun _ hm=>List.mem_of_mem_eraseIdx hm) (Nat.le_trans (List.length_eraseIdx_le v.net k) I.w.n24)
theorem msgOk_of {n:Nat} {m:Message} (h:checkM m=0) (hu:m.unit<(n:Int)):msgOk n m=true:=by
 unfold msgOk
 simp only [Bool.and_eq_true,decide_eq_true_eq]
 exact ⟨zc7 h,hu⟩
theorem VI.send (I:VI first c v) {out:List Message} (h:∀ z∈out,z.unit<(v.units.length:Int)∧MsgI (ofG v.g.f) c (TT v z.unit.toNat) (tgOf v.campaigns z) z):VI first c (sendV v out):=by
 refine ⟨I.w.send fun m hm=>msgOk_of (h m hm).2.ok (h m hm).1,I.len,I.cam,I.base,I.unit,fun m hm=>?_,I.vot,I.did,I.cont⟩
 rcases List.mem_append.1 (show m∈v.net++out.take (24-v.net.length) from hm) with q | q
 ·exact I.net m q
 ·exact (h m (List.mem_of_mem_take q)).2
theorem setU_T {k:Nat} (hk:k<v.units.length) (x:UnitD) (j:Nat):UU (setU v k x) j=if j=k then x else UU v j:=by
 unfold UU setU
 exact z4h _ _ _ _ _ (by simpa using hk)
theorem VI.setU (I:VI first c v) {k:Nat} (hk:k<v.units.length) {x:UnitD} (hx:z14 x=0) (hst:StepU (ofG v.g.f) c (TT v k) (ofU x.f)) (hc:ContI first v.campaigns k x) :
  VI first c (setU v k x)∧∀ j,(TT v j).by_≤(TT (setU v k x) j).by_:=by
 obtain ⟨k1,k2,k3,k4⟩:=zkd (z24 _) I.base (I.unit k hk) hst
 have e:=setU_T hk x
 have eT:∀ j,TT (Vm.setU v k x) j=if j=k then ofU x.f else TT v j:=fun j=>by
  unfold TT; rw [e]; split<;>rfl
 have el:(Vm.setU v k x).units.length=v.units.length:=z2w v k x
 refine ⟨⟨I.w.unit hx,I.len,fun i hi=>?_,I.base,fun j hj=>?_,fun m hm=>?_,fun j hj h=>?_,fun j hj h=>?_,fun j hj=>?_⟩,fun j=>?_⟩
 ·rw [el]; exact I.cam i hi
 ·rw [el] at hj; rw [eT]; split
  ·exact k1
  ·exact I.unit j hj
 ·rw [eT]; split
  ·rename_i q
   have:=I.net m hm
   rw [q] at this
   exact msg_unit k3 k4 this
  ·exact I.net m hm
 ·rw [el] at hj; rw [eT]
  have:=I.vot j hj h
  split
  ·rename_i q; rw [q] at this; exact k3 this
  ·exact this
 ·rw [el] at hj; rw [eT]
  have:=I.did j hj h
  split
  ·rename_i q; rw [q] at this; exact k4 this
  ·exact this
 ·rw [el] at hj; rw [e]; split
  ·rename_i q; rw [q]; exact hc
  ·exact I.cont j hj
 ·rw [eT]; split
  ·rename_i q; rw [q]; exact k2
  ·exact Int.le_refl _
theorem VI.gate (I:VI first c v) {g:Gate} (hg:z0t g=0) (hl:g.voted.length=v.g.voted.length) (hn:(ofG g.f).n=(ofG v.g.f).n) (hu:∀ k,k<v.units.length→UnitI (ofG g.f) c (TT v k)) (hm:∀ m∈v.net,MsgI (ofG g.f) c (TT v m.unit.toNat) (tgOf v.campaigns m) m)
  (hv:∀ k,k<v.units.length→g.voted.getD k false=true→VoteI (ofG g.f) (TT v k)) (hd:∀ k,k<v.units.length→g.did.getD k false=true→DoneI (ofG g.f) (TT v k)):VI first c ⟨v.b,v.s,g,v.units,v.campaigns,v.net,v.now⟩:=by
 have hb:=I.base
 unfold BaseI at hb
 exact ⟨I.w.gate hg hl,I.len.trans hn.symm,I.cam,by unfold BaseI; show 0≤c∧(c<(ofG g.f).n∨(c=0∧(ofG g.f).n=0)); rw [hn]; exact hb,hu,hm,hv,hd,I.cont⟩
theorem VI.same (I:VI first c v) {g:Gate} (hg:z0t g=0) (hl:g.voted.length=v.g.voted.length) (hs:ofG g.f=ofG v.g.f) (hv:∀ k,g.voted.getD k false=true→v.g.voted.getD k false=true) (hd:∀ k,g.did.getD k false=true→v.g.did.getD k false=true):VI first c ⟨v.b,v.s,g,v.units,v.campaigns,v.net,v.now⟩ :=
 I.gate hg hl (by rw [hs]) (by rw [hs]; exact I.unit) (by rw [hs]; exact I.net) (fun k hk h=>by rw [hs]; exact I.vot k hk (hv k h)) (fun k hk h=>by rw [hs]; exact I.did k hk (hd k h))
theorem z8f {g:Gate} {r:List Int}:(∀ k,(z0o g r).1.voted.getD k false=true→g.voted.getD k false=true)∧(∀ k,(z0o g r).1.did.getD k false=true→g.did.getD k false=true):=by
 rcases z8t (g:=g) (r:=r) with ⟨a,b,_⟩ | ⟨a,b,_⟩
 ·rw [a,b]; exact ⟨fun _=>id,fun _=>id⟩
 ·rw [a,b]
  exact ⟨fun k h=>(by rw [z2v] at h; cases h),fun k h=>(by rw [z2v] at h; cases h)⟩
theorem VI.commit (I:VI first c v) {g:Gate} (hg:z0t g=0) (hl:g.voted.length=v.g.voted.length) (hc:(ofG v.g.f).commit=false) (ha:(ofG v.g.f).abort=false) (he:(ofG v.g.f).ended=false) (hall:∀ k,k<v.units.length→VoteI (ofG v.g.f) (TT v k))
  (hs:ofG g.f=⟨(ofG v.g.f).n,(ofG v.g.f).version,true,(ofG v.g.f).abort,(ofG v.g.f).ended⟩) (hd:∀ k,g.did.getD k false=true→v.g.did.getD k false=true):VI first c ⟨v.b,v.s,g,v.units,v.campaigns,v.net,v.now⟩:=by
 have no:∀ x,DoneI (ofG v.g.f) x→False:=fun x h=>by
  rcases h.1 with q | q
  ·rw [hc] at q; cases q
  ·rw [ha] at q; cases q
 refine I.gate hg hl (by rw [hs]) (fun k hk=>?_) (fun m hm=>?_) (fun k hk _=>?_) (fun k hk h=>(no _ (I.did k hk (hd k h))).elim)
 ·have u:=I.unit k hk
  rw [hs]
  refine ⟨?_,u.rdy,fun _=>hall k hk ha,fun _ h=>?_⟩
  ·rcases u.by_ with q | q
   ·exact .inl q
   ·rw [hc] at q; cases q.1
  ·have h:(ofG v.g.f).ended=true:=h
   rw [he] at h; cases h
 ·have x:=I.net m hm
  rw [hs]
  refine ⟨x.ok,x.n,x.vote,fun a b=>(no _ (x.done a b)).elim,fun a=>?_,x.abo,x.prep⟩
  rcases x.com a with q | q
  ·rw [hc] at q; cases q.2
  ·exact .inr q
 ·rw [hs]; exact hall k hk
theorem VI.abort (I:VI first c v) {g:Gate} (hg:z0t g=0) (hl:g.voted.length=v.g.voted.length) (hc:(ofG v.g.f).commit=false) (ha:(ofG v.g.f).abort=false)
  (hs:ofG g.f=⟨(ofG v.g.f).n,(ofG v.g.f).version,(ofG v.g.f).commit,true,(ofG v.g.f).ended⟩) (hd:∀ k,g.did.getD k false=true→v.g.did.getD k false=true):VI first c ⟨v.b,v.s,g,v.units,v.campaigns,v.net,v.now⟩:=by
 have no:∀ x,DoneI (ofG v.g.f) x→False:=fun x h=>by
  rcases h.1 with q | q
  ·rw [hc] at q; cases q
  ·rw [ha] at q; cases q
 refine I.gate hg hl (by rw [hs]) (fun k hk=>?_) (fun m hm=>?_) (fun k hk _=>?_) (fun k hk h=>(no _ (I.did k hk (hd k h))).elim)
 ·have u:=I.unit k hk
  rw [hs]; exact ⟨u.by_,u.rdy,u.com,u.fin⟩
 ·have x:=I.net m hm
  rw [hs]
  exact ⟨x.ok,x.n,fun _ _ _ h=>(by cases h),fun a b=>(no _ (x.done a b)).elim,x.com,fun _ _=>rfl,x.prep⟩
 ·rw [hs]; intro h; cases h
theorem VI.ended (I:VI first c v) {g:Gate} (hg:z0t g=0) (hl:g.voted.length=v.g.voted.length) (hall:(ofG v.g.f).commit=true→∀ k,k<v.units.length→(TT v k).by_=(ofG v.g.f).n)
  (hs:ofG g.f=⟨(ofG v.g.f).n,(ofG v.g.f).version,(ofG v.g.f).commit,(ofG v.g.f).abort,true⟩) (hv:∀ k,k<v.units.length→g.voted.getD k false=true→VoteI (ofG v.g.f) (TT v k)) (hd:∀ k,k<v.units.length→g.did.getD k false=true→DoneI (ofG v.g.f) (TT v k)):VI first c ⟨v.b,v.s,g,v.units,v.campaigns,v.net,v.now⟩:=by
 refine I.gate hg hl (by rw [hs]) (fun k hk=>?_) (fun m hm=>?_) (fun k hk h=>?_) (fun k hk h=>?_)
 ·have u:=I.unit k hk
  rw [hs]; exact ⟨u.by_,u.rdy,u.com,fun hc _=>hall hc k hk⟩
 ·have x:=I.net m hm
  rw [hs]; exact ⟨x.ok,x.n,x.vote,x.done,x.com,x.abo,x.prep⟩
 ·rw [hs]; exact hv k hk h
 ·rw [hs]; exact hd k hk h
theorem zim {l:List Bool} {u k:Nat} (h:(setAt l u true).getD k false=true):k=u∨l.getD k false=true:=by
 by_cases c:k=u
 ·exact .inl c
 ·refine .inr ?_
  unfold setAt at h
  simp only [List.getD_eq_getElem?_getD] at h ⊢
  rw [List.getElem?_set_ne (by omega)] at h
  exact h
theorem all_of {l:List Bool} {u:Int} (h:hasB false (setAt l u.toNat true)=false) (hu:0≤u) (i:Nat) (hi:i<l.length):i=u.toNat∨l.getD i false=true:=by
 by_cases c:i=u.toNat
 ·exact .inl c
 ·exact .inr (voted_all h hu i hi (by omega))
theorem VI.hearG (I:VI first c v) {m:Message} (hm:MsgI (ofG v.g.f) c (TT v m.unit.toNat) (tgOf v.campaigns m) m) (hu:m.unit<(v.units.length:Int)) :
  VI first c ⟨v.b,v.s,(z06 v.g m).1,v.units,v.campaigns,v.net,v.now⟩∧∀ z∈(z06 v.g m).2,z.unit=m.unit∧∀ x tg,MsgI (ofG (z06 v.g m).1.f) c x tg z:=by
 obtain ⟨_,_,m3,m4,m5,m6,_⟩:=z1e hm.ok
 have hN:=I.w.n
 have same:VI first c ⟨v.b,v.s,v.g,v.units,v.campaigns,v.net,v.now⟩:=I
 unfold z06
 by_cases cu:v.g.up=true
 case neg=>rw [if_neg cu]; exact ⟨same,fun z hz=>by cases hz⟩
 rw [if_pos cu]
 unfold hearsS
 by_cases k3:m.kind=3
 ·rw [if_pos k3]
  by_cases q:(ofG v.g.f).n≠m.n∨(ofG v.g.f).ended=true∨(ofG v.g.f).commit=true∨(ofG v.g.f).abort=true∨m.yes=false
  ·rw [if_pos q]; exact ⟨same,fun z hz=>by cases hz⟩
  rw [if_neg q]
  simp only [not_or,Bool.not_eq_true,ne_eq,Decidable.not_not,Bool.not_eq_false] at q
  obtain ⟨c1,c2,c3,c4,c5⟩:=q
  refine ⟨?_,fun z hz=>by cases hz⟩
  have vt:∀ k,k<v.units.length→(z29 v.g m.unit).voted.getD k false=true→VoteI (ofG v.g.f) (TT v k):=fun k hk h=>by
   rcases zim h with e | e
   ·rw [e]; exact hm.vote k3 c5 c1.symm
   ·exact I.vot k hk e
  have hg1:=z3d (u:=m.unit) I.w.g
  have hl1:(z29 v.g m.unit).voted.length=v.g.voted.length:=z2x _ _ _
  have I1:VI first c ⟨v.b,v.s,z29 v.g m.unit,v.units,v.campaigns,v.net,v.now⟩:=I.gate hg1 hl1 rfl I.unit I.net vt I.did
  show VI first c ⟨v.b,v.s,voteG v.g (ofG v.g.f) m.unit,v.units,v.campaigns,v.net,v.now⟩
  unfold voteG
  by_cases cb:hasB false (z29 v.g m.unit).voted=true
  ·rw [if_pos cb]; exact I1
  rw [if_neg cb]
  have hlog:=(z0n hg1).1
  obtain ⟨_,_,l3,_,_,n6,_⟩:=z1f (g:=z29 v.g m.unit) (r:=[2,(ofG v.g.f).n]) hlog
  have md:=z8f (g:=z29 v.g m.unit) (r:=[2,(ofG v.g.f).n])
  by_cases ok:(z0o (z29 v.g m.unit) [2,(ofG v.g.f).n]).2=true
  ·have hs:=(n6 ok).1
   have hs':ofG (z0o (z29 v.g m.unit) [2,(ofG v.g.f).n]).1.f=⟨(ofG v.g.f).n,(ofG v.g.f).version,true,(ofG v.g.f).abort,(ofG v.g.f).ended⟩:=hs.trans (z30 (s:=ofG v.g.f) (by omega) c4)
   refine I.commit (z1q hg1) (l3.trans hl1) c3 c4 c2 (fun k hk=>?_) hs' (fun k h=>md.2 k h)
   rcases all_of (l:=v.g.voted) (Bool.eq_false_iff.2 cb) m3 k (by omega) with e | e
   ·rw [e]; exact hm.vote k3 c5 c1.symm
   ·exact I.vot k hk e
  ·have hs:=z4w hlog (Bool.eq_false_iff.2 ok)
   exact I1.same (z1q hg1) l3 hs md.1 md.2
 rw [if_neg k3]
 by_cases k6:m.kind=6
 ·rw [if_pos k6]
  by_cases q:(ofG v.g.f).n≠m.n∨(ofG v.g.f).ended=true∨((ofG v.g.f).commit=false∧(ofG v.g.f).abort=false)
  ·rw [if_pos q]; exact ⟨same,fun z hz=>by cases hz⟩
  rw [if_neg q]
  simp only [not_or,Bool.not_eq_true,ne_eq,Decidable.not_not] at q
  obtain ⟨c1,c2,c3⟩:=q
  refine ⟨?_,fun z hz=>by cases hz⟩
  have dd:=hm.done k6 c1.symm
  have dt:∀ k,k<v.units.length→(didG v.g m.unit).did.getD k false=true→DoneI (ofG v.g.f) (TT v k):=fun k hk h=>by
   rcases zim h with e | e
   ·rw [e]; exact dd
   ·exact I.did k hk e
  have hg1:=z4u (u:=m.unit) I.w.g
  have I1:VI first c ⟨v.b,v.s,didG v.g m.unit,v.units,v.campaigns,v.net,v.now⟩:=I.gate hg1 rfl rfl I.unit I.net I.vot dt
  show VI first c ⟨v.b,v.s,doneG v.g (ofG v.g.f) m.unit,v.units,v.campaigns,v.net,v.now⟩
  unfold doneG
  by_cases cb:hasB false (didG v.g m.unit).did=true
  ·rw [if_pos cb]; exact I1
  rw [if_neg cb]
  have hlog:=(z0n hg1).1
  obtain ⟨_,_,l3,_,_,n6,_⟩:=z1f (g:=didG v.g m.unit) (r:=[4,(ofG v.g.f).n]) hlog
  have md:=z8f (g:=didG v.g m.unit) (r:=[4,(ofG v.g.f).n])
  have hdl:=(z0n I.w.g).2.2.2.1
  by_cases ok:(z0o (didG v.g m.unit) [4,(ofG v.g.f).n]).2=true
  ·have hs':ofG (z0o (didG v.g m.unit) [4,(ofG v.g.f).n]).1.f=⟨(ofG v.g.f).n,(ofG v.g.f).version,(ofG v.g.f).commit,(ofG v.g.f).abort,true⟩:=((n6 ok).1).trans (z3n (s:=ofG v.g.f) (by omega) dd.1)
   refine I.ended (z1q hg1) l3 (fun hc k hk=>?_) hs' (fun k hk h=>I.vot k hk (md.1 k h)) (fun k hk h=>dt k hk (md.2 k h))
   rcases all_of (l:=v.g.did) (Bool.eq_false_iff.2 cb) m3 k (by omega) with e | e
   ·rw [e]; exact dd.2 hc
   ·exact (I.did k hk e).2 hc
  ·have hs:=z4w hlog (Bool.eq_false_iff.2 ok)
   exact I1.same (z1q hg1) l3 hs md.1 md.2
 rw [if_neg k6]
 by_cases k7:m.kind=7
 case neg=>rw [if_neg k7]; exact ⟨same,fun z hz=>by cases hz⟩
 rw [if_pos k7]
 split
 case isFalse=>exact ⟨same,fun z hz=>by cases hz⟩
 rename_i q
 refine ⟨same,fun z hz=>?_⟩
 rw [List.mem_singleton.1 hz]
 refine ⟨rfl,fun x tg=>?_⟩
 have hkd:kindG (ofG v.g.f) m.n=4∨kindG (ofG v.g.f) m.n=5:=by unfold kindG; split<;>simp
 have fin:=(z24 v.g.f).fin
 refine ⟨z62 (by omega) ⟨m3,m4⟩ ⟨m5,m6⟩,hm.n,fun a=>?_,fun a=>?_,fun a=>?_,fun a b=>?_,fun a=>?_⟩
 ·have a:kindG (ofG v.g.f) m.n=3:=a
  omega
 ·have a:kindG (ofG v.g.f) m.n=6:=a
  omega
 ·have a:kindG (ofG v.g.f) m.n=4:=a
  unfold kindG at a
  by_cases d:(ofG v.g.f).commit=true∧(ofG v.g.f).n=m.n
  ·exact .inl ⟨d.2.symm,d.1⟩
  ·rw [if_neg d] at a; cases a
 ·have a:kindG (ofG v.g.f) m.n=5:=a
  have b:m.n=(ofG v.g.f).n:=b
  unfold kindG at a
  by_cases d:(ofG v.g.f).commit=true∧(ofG v.g.f).n=m.n
  ·rw [if_pos d] at a; cases a
  ·have hc:¬ (ofG v.g.f).commit=true:=fun h=>d ⟨h,b.symm⟩
   rcases q with q | q | q | q
   ·exact absurd b.symm q
   ·rcases fin q with p | p
    ·exact absurd p hc
    ·exact p
   ·exact absurd q hc
   ·exact q
 ·have a:kindG (ofG v.g.f) m.n=2:=a
  omega
end Vm
end Go.Proofs.YtlbppjmekiemiacGreatDoor

namespace Go.Proofs.YtlbppjmekiemiacGreatDoor
namespace Vm

variable {first:List (List Int)} {c:Int} {v:Vehicle}
theorem VI.arrive (I:VI first c v) {k:Nat} (hk:k<v.net.length):VI first c (z0v v k)∧∀ j,(TT v j).by_≤(TT (z0v v k) j).by_:=by
 obtain ⟨m,hm⟩:∃ m,v.net.getD k noMsg=m:=⟨_,rfl⟩
 have hmem:m∈v.net:=by rw [← hm]; exact z1g hk noMsg
 have M:=I.net m hmem
 have hu:=(I.w.msg m hmem).2
 obtain ⟨_,_,m3,m4,m5,m6,_⟩:=z1e M.ok
 have D:=I.drop k
 unfold z0v
 rw [hm]
 split
 ·unfold arrivedG
  split
  case isFalse=>exact ⟨D,fun _=>Int.le_refl _⟩
  rename_i h
  obtain ⟨_,_,e⟩:=z9t h
  rw [e]
  obtain ⟨x,y⟩:=D.hearG (m:=m) M hu
  refine ⟨x.send fun z hz=>?_,fun _=>Int.le_refl _⟩
  obtain ⟨z1,z2⟩:=y z hz
  exact ⟨by rw [z1]; exact hu,z2 _ _⟩
 ·unfold arrivedU
  split
  case isFalse=>exact ⟨D,fun _=>Int.le_refl _⟩
  rename_i h
  rw [(zdd h).2]
  have hkN:m.unit.toNat<v.units.length:=by omega
  have cu:=I.ug m.unit.toNat hkN
  have eu:unitAt (dropM v k) m.unit=UU v m.unit.toNat:=rfl
  rw [eu]
  obtain ⟨N,H⟩:=z7l (b:=v.b) (z6w cu) (zcv cu) (m:=m) ⟨m5,m6⟩
  obtain ⟨s1,s2⟩:=zkc (z24 v.g.f) I.base (I.unit _ hkN) M H
  have ct:=zjq (z6w cu) N.f M I.len I.cam hkN H (I.cont _ hkN)
  obtain ⟨q1,q2⟩:=D.setU (k:=m.unit.toNat) hkN (zbr N.f N.c) s1 ct
  have es:Vm.setU (dropM v k) ((m.unit.toNat:Nat):Int) (z0x v.b (UU v m.unit.toNat) m).1=Vm.setU (dropM v k) m.unit (z0x v.b (UU v m.unit.toNat) m).1:=by rw [show ((m.unit.toNat:Nat):Int)=m.unit by omega]
  rw [es] at q1 q2
  refine ⟨q1.send fun z hz=>?_,fun j=>q2 j⟩
  obtain ⟨z1,z2⟩:=s2 (tgOf v.campaigns z) z hz
  refine ⟨by rw [z2w,z1]; exact hu,?_⟩
  have eT:TT (Vm.setU (dropM v k) m.unit (z0x v.b (UU v m.unit.toNat) m).1) z.unit.toNat=ofU (z0x v.b (UU v m.unit.toNat) m).1.f:=by
   rw [z1,← es]
   unfold TT
   rw [setU_T (v:=dropM v k) hkN,if_pos rfl]
  rw [eT]
  exact z2
theorem VI.netStep (I:VI first c v) (kind k:Int):VI first c (netV v kind k).1∧∀ j,(TT v j).by_≤(TT (netV v kind k).1 j).by_:=by
 have same:VI first c v∧∀ j,(TT v j).by_≤(TT v j).by_:=⟨I,fun _=>Int.le_refl _⟩
 unfold netV
 split
 ·exact same
 rename_i q
 split
 ·exact I.arrive (by omega)
 split
 ·exact ⟨I.drop _,fun _=>Int.le_refl _⟩
 split
 ·split
  ·exact same
  ·refine ⟨I.send fun z hz=>?_,fun _=>Int.le_refl _⟩
   rw [List.mem_singleton.1 hz]
   have hmem:v.net.getD k.toNat noMsg∈v.net:=z1g (by omega) noMsg
   exact ⟨(I.w.msg _ hmem).2,I.net _ hmem⟩
 ·exact same
theorem VI.power (I:VI first c v) (kind unit k:Int):VI first c (powerV v kind unit k).1∧∀ j,(TT v j).by_≤(TT (powerV v kind unit k).1 j).by_:=by
 have W:=power_w I.w kind unit k
 have same:VI first c v∧∀ j,(TT v j).by_≤(TT v j).by_:=⟨I,fun _=>Int.le_refl _⟩
 obtain ⟨g1,g2,g3,g4,g5⟩:=z0n I.w.g
 unfold powerV at W ⊢
 split
 ·exact same
 rename_i c1
 rw [if_neg c1] at W
 split
 ·exact same
 rename_i c2
 rw [if_neg c2] at W
 have one:∀ (x:UnitD) (f:Int),0≤unit→-1≤f→f≤100000→z14 x=0→x.f=⟨(unitAt v unit).f.words,f⟩→VI first c (Vm.setU v unit x)∧∀ j,(TT v j).by_≤(TT (Vm.setU v unit x) j).by_:=fun x f h0 f1 f2 hx e=>by
  have hkN:unit.toNat<v.units.length:=by omega
  have cu:=I.ug _ hkN
  have eu:unitAt v unit=UU v unit.toNat:=rfl
  rw [eu] at e
  have es:ofU x.f=ofU (UU v unit.toNat).f:=by rw [e]; exact ofU_fuel (z6w cu) f1 f2
  have ct:ContI first v.campaigns unit.toNat x:=zge (z6w cu) (z6w hx) ⟨es,fun _ _ _=>by rw [e],fun _ _ _=>by rw [e]⟩ (I.cont _ hkN)
  have q:=I.setU hkN hx (by rw [es]; exact .same) ct
  rw [show ((unit.toNat:Nat):Int)=unit by omega] at q
  exact q
 split
 ·rename_i c3
  split
  ·refine ⟨I.same (g:=⟨⟨v.g.f.words,k⟩,v.g.up,v.g.t,v.g.voted,v.g.did⟩) (z4r (z2l g1 (by omega) (by omega)) g2 g3 g4 g5) rfl ?_ (fun _=>id) (fun _=>id),fun _=>Int.le_refl _⟩
   show ofG ⟨v.g.f.words,k⟩=_
   rw [zb6 (z2l g1 (by omega) (by omega)),zb6 g1]
  ·exact one _ k (by omega) (by omega) (by omega) (zav (z7v I.w (by omega) (by omega)) (by omega) (by omega)) rfl
 split
 ·unfold bootsG
  rw [z8h I.w.g]
  refine ⟨I.same (g:=⟨⟨v.g.f.words,-1⟩,true,v.g.t,zeros v.g.voted.length false,zeros v.g.did.length false⟩) (z4r (z55 g1) ?_ ?_ ?_ g5) (z8j _ _) (zdl g1) (fun k h=>by rw [z2v] at h; cases h) (fun k h=>by rw [z2v] at h; cases h),fun _=>Int.le_refl _⟩<;>simp only [z8j]<;>omega
 ·have hu:=z7v I.w (k:=unit) (by omega) (by omega)
  refine one _ (-1) (by omega) (by omega) (by omega) (bootU_w hu) ?_
  rw [z9u hu]
theorem VI.gave (I:VI first c v):VI first c (gaveV v).1:=by
 unfold gaveV
 split
 case isFalse=>exact I
 rename_i h
 obtain ⟨h1,h2,h3,h4,h5⟩:=z9x h
 rw [h5]
 have hlog:=(z0n h1).1
 obtain ⟨_,_,l3,_,_,n6,_⟩:=z1f (r:=[3,(ofG v.g.f).n]) hlog
 have md:=z8f (g:=v.g) (r:=[3,(ofG v.g.f).n])
 by_cases ok:(z0o v.g [3,(ofG v.g.f).n]).2=true
 ·exact I.abort (z1q h1) l3 h3 h4 ((n6 ok).1.trans (z4g h2 h3)) md.2
 ·exact I.same (z1q h1) l3 (z4w hlog (Bool.eq_false_iff.2 ok)) md.1 md.2
theorem VI.tick (I:VI first c v):VI first c (tickV v).1:=by
 have W:=tick_w I.w
 unfold tickV at W ⊢
 split
 ·exact I
 ·rename_i q
  rw [if_neg q] at W
  exact ⟨W,I.len,I.cam,I.base,I.unit,I.net,I.vot,I.did,I.cont⟩
theorem VI.asks (I:VI first c v) {k:Int} (h0:0≤k) (h1:k<(v.units.length:Int)):VI first c (asksV v k).1:=by
 unfold asksV
 split
 case isFalse=>exact I
 split
 ·exact I
 rename_i q
 refine I.send fun z hz=>?_
 unfold askM at hz
 rw [List.mem_singleton.1 hz]
 have u4:=I.w.units4.2
 have hkN:k.toNat<v.units.length:=by omega
 have cu:=I.ug _ hkN
 have er:readU (unitAt v k)=(TT v k.toNat,0):=zdm cu
 rw [er] at q ⊢
 have ur:=(I.unit _ hkN).rdy
 refine ⟨h1,z62 (by omega) (by omega) (by simp only at q ⊢; omega),?_,fun a=>by simp at a,fun a=>by simp at a,fun a=>by simp at a,fun a=>by simp at a,fun a=>by simp at a⟩
 show (TT v k.toNat).ready≤_
 simp only at q
 omega
theorem zd3 {u n:Int} {w:List Int}:∀ {d k:Nat} {m:Message},m∈z1p u n w d k→∃ j,m=pieceM u n w j
 | 0,_,m,h=>by simp [z1p] at h
 | d+1,k,m,h=>by
  unfold z1p at h
  split at h
  ·rcases List.mem_cons.1 h with rfl | h
   ·exact ⟨k,rfl⟩
   ·exact zd3 h
  ·cases h
theorem checkM_at {n:Nat} {m:Message} (h:msgOk n m=true) (hi:0≤m.image∧m.image≤60):checkM m=0:=by
 unfold msgOk at h
 simp only [Bool.and_eq_true,decide_eq_true_eq] at h
 obtain ⟨h1,h2,h3,h4,h5,h6,h7,h8,h9,h10,h11,h12⟩:=z1e h.1
 unfold cutM at h1 h2 h3 h4 h5 h6 h7 h8 h9 h10 h11 h12
 unfold checkM
 rw [if_neg (by simp only at *; omega),if_pos h12]
theorem VI.due (I:VI first c v) {k:Int} (h:(dueG v.g (z0s v) k).2=0) (hl:¬ (v.campaigns.length:Int)<(readG v.g).1.n):∀ z∈(dueG v.g (z0s v) k).1,z.unit<(v.units.length:Int)∧MsgI (ofG v.g.f) c (TT v z.unit.toNat) (tgOf v.campaigns z) z:=fun z hz=>by
 have P:=poke_w I.w (k:=k)
 unfold pokeV at P
 rw [if_neg hl,if_pos h] at P
 obtain ⟨d1,d2,d3,d4,d5,d6,d7,d8,d9⟩:=dueG_ok h
 have hn:=I.w.n
 obtain ⟨u1,u4⟩:=I.w.units4
 have hs:=z24 v.g.f
 have n0:=hs.n0
 have n8:=hs.n8
 have hk:0≤k∧k<(v.units.length:Int):=⟨d4,by omega⟩
 have hkN:k.toNat<v.units.length:=by omega
 have hc:z0s v=v.campaigns.getD ((ofG v.g.f).n-1).toNat noCampaign:=by
  unfold z0s
  rw [z6n d1,if_pos (show 0<(ofG v.g.f).n by omega)]
 have len:=I.len
 have C:=I.cam ((ofG v.g.f).n-1).toNat (by omega)
 have hmem:z0s v∈v.campaigns:=by rw [hc]; exact z1g (by omega) noCampaign
 obtain ⟨e1,e2,e3,e4⟩:=z4s.1 (List.all_eq_true.1 I.w.c _ hmem)
 rw [d9] at hz
 rw [← hc] at C
 have tg0:∀ (at_:Int) (im:Int),tgOf v.campaigns ⟨2,k,(ofG v.g.f).n,at_,im,[],false⟩=(nth (z0s v).r.targets k.toNat ⟨0,0,0⟩).image:=fun _ _=>by rw [hc]; rfl
 generalize z0s v=cc at *
 unfold duesG at hz
 split at hz
 ·rename_i dec
  split at hz
  ·cases hz
  ·rw [List.mem_singleton.1 hz]
   have hkd:kindG (ofG v.g.f) (ofG v.g.f).n=4∨kindG (ofG v.g.f) (ofG v.g.f).n=5:=by unfold kindG; split<;>simp
   refine ⟨hk.2,z62 (by omega) (by omega) (by omega),Int.le_refl _,fun a=>?_,fun a=>?_,fun a=>?_,fun a _=>?_,fun a=>?_⟩
   ·have a:kindG (ofG v.g.f) (ofG v.g.f).n=3:=a
    omega
   ·have a:kindG (ofG v.g.f) (ofG v.g.f).n=6:=a
    omega
   ·have a:kindG (ofG v.g.f) (ofG v.g.f).n=4:=a
    unfold kindG at a
    by_cases d:(ofG v.g.f).commit=true∧(ofG v.g.f).n=(ofG v.g.f).n
    ·exact .inl ⟨rfl,d.1⟩
    ·rw [if_neg d] at a; cases a
   ·have a:kindG (ofG v.g.f) (ofG v.g.f).n=5:=a
    unfold kindG at a
    by_cases d:(ofG v.g.f).commit=true∧(ofG v.g.f).n=(ofG v.g.f).n
    ·rw [if_pos d] at a; cases a
    ·exact dec.resolve_left fun h=>d ⟨h,rfl⟩
   ·have a:kindG (ofG v.g.f) (ofG v.g.f).n=2:=a
    omega
 ·split at hz
  ·cases hz
  ·have hw:z0j (nth cc.images k.toNat [])=0:=e3 _ (z1g (by omega) [])
   unfold imageM at hz
   split at hz
   ·cases hz
   rename_i hl40
   rcases List.mem_append.1 hz with hz | hz
   ·have ok:=z8n hw hk u4 (by omega) _ _ z hz
    obtain ⟨j,rfl⟩:=zd3 hz
    exact ⟨hk.2,checkM_at ok (by simp [pieceM]),Int.le_refl _,fun a=>by simp [pieceM] at a,fun a=>by simp [pieceM] at a,fun a=>by simp [pieceM] at a,fun a=>by simp [pieceM] at a,fun a=>by simp [pieceM] at a⟩
   ·rw [List.mem_singleton.1 hz]
    obtain ⟨_,t1,t60⟩:=C.img k.toNat hkN
    refine ⟨hk.2,?_,Int.le_refl _,fun a=>by simp at a,fun a=>by simp at a,fun a=>by simp at a,fun a=>by simp at a,fun _=>(tg0 _ _).symm⟩
    unfold checkM
    simp only [List.length_nil]
    rw [if_neg (by omega)]; rfl
theorem VI.poke (I:VI first c v) {k:Int}:VI first c (pokeV v k).1:=by
 unfold pokeV
 split
 ·exact I
 rename_i hl
 split
 ·rename_i h; exact I.send (I.due h hl)
 ·exact I
theorem zau {α:Type} (l:List α) (x d:α) (i:Nat) (hi:i<l.length):(l++[x]).getD i d=l.getD i d:=by
 simp only [List.getD_eq_getElem?_getD]
 rw [List.getElem?_append_left hi]
theorem zf1 {α:Type} (l:List α) (x d:α):(l++[x]).getD l.length d=x:=by
 simp [List.getD_eq_getElem?_getD]
theorem zbh {b:List (List UInt8)}:∀ {ts:List Target} {ws:List (List Int)},okImages b ts ws=true→∀ k,k<ts.length→z0m b (nth ws k [])=((nth ts k ⟨0,0,0⟩).image,0)
 | [],_,_,k,hk=>by simp at hk
 | t::ts,ws,h,k,hk=>by
  simp only [okImages,Bool.and_eq_true] at h
  cases k with
  | zero =>
   have:=h.1
   simp only [okImage,Bool.and_eq_true,decide_eq_true_eq] at this
   have e:nth ws 0 []=ws.headD []:=by cases ws<;>rfl
   show z0m b (nth ws 0 [])=(t.image,0)
   rw [e,← this.1.1,← this.1.2]
  | succ k =>
   have:=zbh h.2 k (by simpa using hk)
   have e:nth ws (k+1) []=nth ws.tail k []:=by cases ws<;>rfl
   rw [e,this]; rfl
theorem z7z:∀ (ts:List Target) (i:Int),okTargets i ts=true→∀ k,k<ts.length→1≤(nth ts k ⟨0,0,0⟩).image∧(nth ts k ⟨0,0,0⟩).image≤60
 | [],_,_,k,hk=>by simp at hk
 | t::ts,i,h,k,hk=>by
  simp only [okTargets,okTarget,Bool.and_eq_true,decide_eq_true_eq] at h
  cases k with
  | zero=>exact ⟨h.1.1.1.1.2,h.1.1.1.2⟩
  | succ k=>exact z7z ts _ h.2 k (by simpa using hk)
theorem z6q {v u:Int} {ts:List Target} (h:z0i v u ts=0):okTargets 0 ts=true:=by
 unfold z0i at h
 by_cases c1:v<1∨1000<v∨u<0∨100000<u
 ·rw [if_pos c1] at h; cases h
 rw [if_neg c1] at h
 by_cases c2:ts.length=0∨4<ts.length
 ·rw [if_pos c2] at h; cases h
 rw [if_neg c2] at h
 by_cases c3:okTargets 0 ts=true
 ·exact c3
 ·rw [if_neg c3] at h; cases h
theorem VI.propose (I:VI first c v) {o:Offer} (h:(z0w v o).2=0) :
  (∃ c',VI first c' (z0w v o).1∧(c'=c∨(c'=(ofG v.g.f).n∧(ofG v.g.f).commit=true)))∧∀ j,TT (z0w v o).1 j=TT v j:=by
 have W:=zev I.w o h
 unfold z0w at h W ⊢
 by_cases q:(beginV v o).2.2=0
 case neg=>rw [if_neg q] at h; exact absurd h q
 rw [if_pos q] at W ⊢
 refine ⟨?_,fun _=>rfl⟩
 unfold beginV at q W ⊢
 obtain ⟨g1,g2,g3,g4,g5,g6⟩:=z48 q
 rw [g6] at W ⊢
 have hs:=z24 v.g.f
 have n0:=hs.n0
 have n8:=hs.n8
 have hlog:=(z0n g1).1
 have len:=I.len
 obtain ⟨b0,b1⟩:=I.base
 obtain ⟨_,_,l3,_,_,n6,_⟩:=z1f (r:=[1,(ofG v.g.f).n+1,o.r.version]) hlog
 unfold begunG at W ⊢
 by_cases ok:(z0o v.g [1,(ofG v.g.f).n+1,o.r.version]).2=true
 case neg =>
  rw [if_neg ok]
  have md:=z8f (g:=v.g) (r:=[1,(ofG v.g.f).n+1,o.r.version])
  exact ⟨c,I.same (z1q g1) l3 (z4w hlog (Bool.eq_false_iff.2 ok)) md.1 md.2,.inl rfl⟩
 rw [if_pos ok] at W ⊢
 obtain ⟨r1,r2,r3,r4,r5,r6,r7⟩:=z6k g5
 have okI:okImages v.b o.r.targets o.images=true:=by
  obtain ⟨_,_,_,_,h5,_⟩:=z9z g5
  exact (zdv h5).2.2.2.2.2.2.2
 have hs':ofG (z0o v.g [1,(ofG v.g.f).n+1,o.r.version]).1.f=⟨(ofG v.g.f).n+1,o.r.version,false,false,false⟩:=(n6 ok).1.trans (z5s (by omega) (by omega))
 have hcs:campaignsV v.campaigns ((ofG v.g.f).n+1) o=v.campaigns++[⟨(ofG v.g.f).n+1,o.r,o.images⟩]:=by
  unfold campaignsV
  rw [if_pos (by omega),List.take_of_length_le (by omega)]
 simp only [hcs] at W ⊢
 have he:(ofG v.g.f).n=0∨(ofG v.g.f).ended=true:=by
  by_cases e:(ofG v.g.f).ended=true
  ·exact .inr e
  ·refine .inl ?_
   have:¬ 0<(ofG v.g.f).n:=fun hn=>g3 ⟨hn,Bool.eq_false_iff.2 e⟩
   omega
 have hfin:(ofG v.g.f).commit=true→∀ k,k<v.units.length→(TT v k).by_=(ofG v.g.f).n:=fun hc k hk=>by
  rcases he with e | e
  ·have:=hs.none e
   rw [this] at hc; cases hc
  ·exact (I.unit k hk).fin hc e
 obtain ⟨c',hc',hcc⟩:∃ c',(c'=if (ofG v.g.f).commit=true then (ofG v.g.f).n else c)∧(c'=c∨(c'=(ofG v.g.f).n∧(ofG v.g.f).commit=true)):=by
  refine ⟨_,rfl,?_⟩
  by_cases e:(ofG v.g.f).commit=true
  ·rw [if_pos e]; exact .inr ⟨rfl,e⟩
  ·rw [if_neg e]; exact .inl rfl
 have cle:c≤c'∧c'≤(ofG v.g.f).n:=by
  rcases hcc with e | e
  ·omega
  ·omega
 refine ⟨c',⟨W,?_,fun i hi=>?_,?_,fun k hk=>?_,fun m hm=>?_,fun k _ h=>?_,fun k _ h=>?_,fun k hk=>?_⟩,hcc⟩
 ·show (((v.campaigns++[(⟨(ofG v.g.f).n+1,o.r,o.images⟩:Campaign)]).length:Nat):Int)=(ofG (z0o v.g [1,(ofG v.g.f).n+1,o.r.version]).1.f).n
  rw [hs',List.length_append]
  simp only [List.length_cons,List.length_nil]
  omega
 ·have hi:i<(v.campaigns++[(⟨(ofG v.g.f).n+1,o.r,o.images⟩:Campaign)]).length:=hi
  rw [List.length_append,List.length_singleton] at hi
  show CampI v.b v.units.length i ((v.campaigns++[(⟨(ofG v.g.f).n+1,o.r,o.images⟩:Campaign)]).getD i noCampaign)
  by_cases e:i<v.campaigns.length
  ·rw [zau _ _ _ _ e]; exact I.cam i e
  ·obtain rfl:i=v.campaigns.length:=by omega
   rw [zf1]
   have hn:=I.w.n
   refine ⟨by show (ofG v.g.f).n+1=_; omega,fun k hk=>⟨zbh okI k (by omega),z7z _ 0 (z6q r1) k (by omega)⟩⟩
 ·show BaseI (ofG (z0o v.g [1,(ofG v.g.f).n+1,o.r.version]).1.f) c'
  rw [hs']
  exact ⟨by omega,.inl (by simp only; omega)⟩
 ·show UnitI (ofG (z0o v.g [1,(ofG v.g.f).n+1,o.r.version]).1.f) c' (TT v k)
  rw [hs']
  have u:=I.unit k hk
  refine ⟨.inl ?_,?_,(fun h=>by cases h),(fun h=>by cases h)⟩
  ·rw [hc']
   by_cases e:(ofG v.g.f).commit=true
   ·rw [if_pos e]; exact hfin e k hk
   ·rw [if_neg e]
    exact u.by_.resolve_right fun h=>e h.1
  ·rcases u.rdy with p | p
   ·exact .inl p
   ·exact .inr ⟨p.1,by simp only; omega⟩
 ·show MsgI (ofG (z0o v.g [1,(ofG v.g.f).n+1,o.r.version]).1.f) c' (TT v m.unit.toNat) (tgOf (v.campaigns++[(⟨(ofG v.g.f).n+1,o.r,o.images⟩:Campaign)]) m) m
  rw [hs']
  have M:=I.net m hm
  have mn:=M.n
  obtain ⟨_,_,m3,m4,m5,m6,_⟩:=z1e M.ok
  have no:¬ m.n=(ofG v.g.f).n+1:=by omega
  refine ⟨M.ok,by simp only; omega,fun _ _ a=>absurd a no,fun _ a=>absurd a no,fun a=>.inr ?_,fun _ a=>absurd a no,fun a=>?_⟩
  ·rcases M.com a with p | p
   ·rw [hc',if_pos p.2]; omega
   ·omega
  ·unfold tgOf
   rw [zau _ _ _ _ (by omega)]
   exact M.prep a
 ·have h:(zeros v.g.voted.length false).getD k false=true:=h
  rw [z2v] at h; cases h
 ·have h:(zeros v.g.did.length false).getD k false=true:=h
  rw [z2v] at h; cases h
 ·have I0:=I.cont k hk
  have u:=I.unit k hk
  obtain ⟨_,⟨y0,_⟩,z0,_⟩:=z49 (UU v k).f
  have img:∀ n,1≤n→n≤(ofG v.g.f).n→imgOf (v.campaigns++[(⟨(ofG v.g.f).n+1,o.r,o.images⟩:Campaign)]) n k=imgOf v.campaigns n k:=fun n h1 h2=>by
   unfold imgOf
   rw [zau _ _ _ _ (by omega)]
  have byn:(TT v k).by_≤(ofG v.g.f).n:=by
   rcases u.by_ with p | p
   ·omega
   ·omega
  refine ⟨?_,fun hr=>?_⟩
  ·refine ⟨I0.run.1.trans ?_,I0.run.2⟩
   show runsI first v.campaigns (TT v k).by_ k=runsI first (v.campaigns++[(⟨(ofG v.g.f).n+1,o.r,o.images⟩:Campaign)]) (TT v k).by_ k
   unfold runsI
   have y0:0≤(TT v k).by_:=y0
   by_cases e:(TT v k).by_=0
   ·rw [if_pos e,if_pos e]
   ·rw [if_neg e,if_neg e,img _ (by omega) byn]
  ·refine ⟨(I0.oth hr).1.trans (img _ (show 1≤(TT v k).ready by have hr:0<(TT v k).ready:=hr; omega) ?_).symm,(I0.oth hr).2⟩
   rcases u.rdy with p | p
   ·have hr:0<(TT v k).ready:=hr
    show (TT v k).ready≤_
    omega
   ·exact p.2
theorem T_of {a b:Vehicle} (h:b.units=a.units) (j:Nat):(TT a j).by_≤(TT b j).by_:=by
 unfold TT UU
 rw [h]
 exact Int.le_refl _
theorem poke_u (v:Vehicle) (k:Int):(pokeV v k).1.units=v.units:=by
 unfold pokeV
 split
 ·rfl
 ·split<;>rfl
theorem asks_u (v:Vehicle) (k:Int):(asksV v k).1.units=v.units:=by
 unfold asksV
 split
 ·split<;>rfl
 ·rfl
theorem gave_u (v:Vehicle):(gaveV v).1.units=v.units:=by
 unfold gaveV
 split<;>rfl
theorem tick_u (v:Vehicle):(tickV v).1.units=v.units:=by
 unfold tickV
 split<;>rfl
theorem VI.step (I:VI first c v) {x:Happening} (h:(z0y v x).2=0) :
  (∃ c',VI first c' (z0y v x).1∧(c'=c∨(c'=(ofG v.g.f).n∧(ofG v.g.f).commit=true)))∧∀ j,(TT v j).by_≤(TT (z0y v x).1 j).by_:=by
 have wrap:∀ {y:Vehicle},VI first c y∧(∀ j,(TT v j).by_≤(TT y j).by_)→(∃ c',VI first c' y∧(c'=c∨(c'=(ofG v.g.f).n∧(ofG v.g.f).commit=true)))∧∀ j,(TT v j).by_≤(TT y j).by_:=fun h=>⟨⟨c,h.1,.inl rfl⟩,h.2⟩
 unfold z0y at h ⊢
 by_cases c1:x.kind=1
 ·rw [if_pos c1] at h ⊢
  obtain ⟨q1,q2⟩:=I.propose h
  exact ⟨q1,fun j=>by rw [q2 j]; exact Int.le_refl _⟩
 rw [if_neg c1] at h ⊢
 by_cases c2:x.kind=3∨x.kind=4∨x.kind=5
 ·rw [if_pos c2]; exact wrap (I.netStep _ _)
 rw [if_neg c2] at h ⊢
 by_cases c3:x.kind=6∨x.kind=7
 ·rw [if_pos c3]; exact wrap (I.power _ _ _)
 rw [if_neg c3] at h ⊢
 by_cases c4:x.kind=8
 ·rw [if_pos c4]
  exact wrap ⟨I.gave,T_of (gave_u v)⟩
 rw [if_neg c4] at h ⊢
 by_cases c5:x.kind=2∨x.kind=9
 ·rw [if_pos c5] at h ⊢
  by_cases c6:x.unit<0∨(v.units.length:Int)≤x.unit
  ·rw [if_pos c6]; exact wrap ⟨I,fun _=>Int.le_refl _⟩
  ·rw [if_neg c6]
   by_cases c7:x.kind=2
   ·rw [if_pos c7]; exact wrap ⟨I.poke,T_of (poke_u v _)⟩
   ·rw [if_neg c7]; exact wrap ⟨I.asks (by omega) (by omega),T_of (asks_u v _)⟩
 rw [if_neg c5] at h ⊢
 by_cases c6:x.kind=10
 ·rw [if_pos c6]; exact wrap ⟨I.tick,T_of (tick_u v)⟩
 ·rw [if_neg c6]; exact wrap ⟨I,fun _=>Int.le_refl _⟩
end Vm
end Go.Proofs.YtlbppjmekiemiacGreatDoor

namespace Go.Proofs.YtlbppjmekiemiacGreatDoor
namespace Vm

variable {first:List (List Int)} {c:Int} {v:Vehicle}
theorem VI.okV (I:VI first c v):OkV v:=by
 refine ⟨I.w.b,I.w.s,I.w.g,I.w.n,I.w.u,I.w.c8,I.w.n24,zcu fun i hi d=>?_,fun m hm=>⟨(I.net m hm).ok,(I.w.msg m hm).2⟩,I.w.t0,I.w.t1⟩
 have e:nth v.campaigns i d=v.campaigns.getD i noCampaign:=by
  simp [nth,List.getD_eq_getElem?_getD,hi]
 have hmem:v.campaigns.getD i noCampaign∈v.campaigns:=z1g hi noCampaign
 obtain ⟨c1,c2,c3,c4⟩:=z4s.1 (List.all_eq_true.1 I.w.c _ hmem)
 have C:=(I.cam i hi).n
 rw [e]
 unfold checkC
 rw [if_neg (by omega),if_pos (z6y c3)]
 exact c4
def zeroU (x:UState):Bool:=eqi x.by_ 0 && eqi x.ready 0
def facUnit (first:List (List Int)) (v:Vehicle) (k:Nat):Bool:=zeroU (TT v k) && (eqIs (z1l (UU v k).f (TT v k).slot).1 (nth first k []) && eqi (z1l (UU v k).f (TT v k).slot).2.2 0)
def facHolds (n:Nat) (til:Int):Bool :=
 eqi (ofG (facN n til).1.g.f).n 0 && (decide ((facN n til).1.campaigns.length=0) && (decide ((facN n til).1.net.length=0) && ((facN n til).1.g.did.all (fun b=>!b) && ((List.range (facN n til).1.units.length).all (facUnit (facR n til).first (facN n til).1) && decide ((facN n til).1.units.length=n)))))
theorem fac_VI {n:Nat} {til:Int} (hw:OkW (facN n til).1) (h:facHolds n til=true):VI (facR n til).first 0 (facN n til).1∧(facN n til).1.units.length=n∧∀ k,k<n→z1l (UU (facN n til).1 k).f (TT (facN n til).1 k).slot=(nth (facR n til).first k [],(z1l (UU (facN n til).1 k).f (TT (facN n til).1 k).slot).2.1,0):=by
 unfold facHolds at h
 simp only [Bool.and_eq_true,decide_eq_true_eq,List.all_eq_true,eqi] at h
 obtain ⟨h1,h2,h3,h4,h5,h6⟩:=h
 generalize (facN n til).1=v at *
 generalize (facR n til).first=first at *
 have hU:∀ k,k<v.units.length→(TT v k).by_=0∧(TT v k).ready=0∧(z1l (UU v k).f (TT v k).slot).1=nth first k []∧(z1l (UU v k).f (TT v k).slot).2.2=0:=fun k hk=>by
  have:=h5 k (List.mem_range.2 hk)
  unfold facUnit zeroU at this
  simpa only [Bool.and_eq_true,eqi,eqIs,decide_eq_true_eq,and_assoc] using this
 have hs:ofG v.g.f=noState:=(z24 v.g.f).none h1
 have hc:v.campaigns=[]:=List.length_eq_zero_iff.1 h2
 have hn:v.net=[]:=List.length_eq_zero_iff.1 h3
 have nd:∀ k,¬ v.g.did.getD k false=true:=fun k hk=>by
  by_cases q:k<v.g.did.length
  ·have:=h4 _ (z1g q false)
   unfold nth at this
   rw [hk] at this; cases this
  ·rw [List.getD_eq_getElem?_getD,List.getElem?_eq_none (by omega)] at hk; cases hk
 refine ⟨⟨hw,by rw [hc,h1]; rfl,fun i hi=>by rw [hc] at hi; simp at hi,⟨Int.le_refl _,.inr ⟨rfl,h1⟩⟩,fun k hk=>?_,fun m hm=>(by rw [hn] at hm; cases hm),fun k hk _ _=>.inl ?_,fun k _ h=>absurd h (nd k),fun k hk=>?_⟩,h6,fun k hk=>?_⟩
 ·obtain ⟨a,b,_⟩:=hU k hk
  rw [hs]
  exact ⟨.inl a,.inl b,(fun h=>by cases h),(fun h=>by cases h)⟩
 ·rw [(hU k hk).1,h1]
 ·obtain ⟨a,b,c1,c2⟩:=hU k hk
  refine ⟨⟨?_,c2⟩,fun h=>?_⟩
  ·have e:runsI first v.campaigns (ofU (UU v k).f).by_ k=nth first k []:=if_pos a
   rw [e]; exact c1
  ·have h:0<(TT v k).ready:=h
   omega
 ·obtain ⟨_,_,c1,c2⟩:=hU k (by omega)
  rw [← c1,← c2]
theorem VI.reads (I:VI first c v) {k:Nat} (hk:k<v.units.length):readU (UU v k)=(TT v k,0):=zdm (I.ug k hk)
end Vm
end Go.Proofs.YtlbppjmekiemiacGreatDoor

namespace Go.Proofs.YtlbppjmekiemiacGreatDoor
namespace Vm

variable {first:List (List Int)} {c:Int} {v:Vehicle} {B:Int}
structure Tour (first:List (List Int)) (c B:Int) (v:Vehicle):Prop where
 vi:VI first c v
 gu:v.g.up=true
 gf:v.g.f.fuel=-1
 gl:z0k v.g.f.words≤B
 uu:∀ k,k<v.units.length→(UU v k).up=true∧(UU v k).f.fuel=-1∧z0k (UU v k).f.words≤B
 fv:(ofG v.g.f).commit=false→(ofG v.g.f).abort=false→∃ k,k<v.units.length∧v.g.voted.getD k false=false
 fd:(ofG v.g.f).ended=false→∃ k,k<v.units.length∧v.g.did.getD k false=false
structure More (v w:Vehicle):Prop where
 b:w.b=v.b
 s:w.s=v.s
 t:w.g.t=v.g.t
 cs:w.campaigns=v.campaigns
 now:w.now=v.now
 len:w.units.length=v.units.length
 n:(ofG w.g.f).n=(ofG v.g.f).n
 abo:(ofG w.g.f).abort=(ofG v.g.f).abort
 com:(ofG v.g.f).commit=true→(ofG w.g.f).commit=true
 fin:(ofG v.g.f).ended=true→(ofG w.g.f).ended=true
 vot:∀ k,v.g.voted.getD k false=true→w.g.voted.getD k false=true
 did:∀ k,v.g.did.getD k false=true→w.g.did.getD k false=true
theorem More.refl (v:Vehicle):More v v:=⟨rfl,rfl,rfl,rfl,rfl,rfl,rfl,rfl,id,id,fun _=>id,fun _=>id⟩
theorem More.trans {a b d:Vehicle} (h:More a b) (k:More b d):More a d :=
 ⟨k.b.trans h.b,k.s.trans h.s,k.t.trans h.t,k.cs.trans h.cs,k.now.trans h.now,k.len.trans h.len,k.n.trans h.n,k.abo.trans h.abo,fun q=>k.com (h.com q),fun q=>k.fin (h.fin q),fun i q=>k.vot i (h.vot i q),fun i q=>k.did i (h.did i q)⟩
theorem VI.doneV (I:VI first c v) (x:Happening):doneV v x=if (z0y v x).2=0 then (z0y v x).1 else v:=by
 unfold Vm.doneV doV
 rw [if_pos (zc3 I.okV)]
 by_cases h:(z0y v x).2=0
 ·rw [if_pos h,if_pos rfl]; rw [if_pos h]
 ·rw [if_neg h,if_neg h,if_neg h]
theorem z3b (h:v.net=[]):∀ n,z12 n v=v
 | 0=>rfl
 | n+1=>by
  show (if 0<v.net.length then _ else v)=v
  rw [h]; rfl
theorem z2t (I:VI first c v) {m:Message} {r:List Message} (h:v.net=m::r) (n:Nat):z12 (n+1) v=z12 n (z0v v 0):=by
 show (if 0<v.net.length then z12 n (Vm.doneV v (happen 3 0 0)) else v)=_
 rw [if_pos (by rw [h]; simp),I.doneV]
 have e:z0y v (happen 3 0 0)=(z0v v 0,0):=by
  unfold z0y happen netV
  rw [if_neg (show ¬ (3:Int)=1 by omega),if_pos (show (3:Int)=3∨(3:Int)=4∨(3:Int)=5 from .inl rfl),if_neg (show ¬ ((0:Int)<0∨(v.net.length:Int)≤0) by rw [h]; simp only [List.length_cons]; omega),if_pos rfl]
  rfl
 rw [e,if_pos rfl]
theorem z3x (I:VI first c v) {m:Message} {r:List Message} (h:v.net=m::r) (hk:toGate m=false) (hl:r.length+(z0x v.b (UU v m.unit.toNat) m).2.length≤24) :
  z0v v 0=⟨v.b,v.s,v.g,v.units.set m.unit.toNat (z0x v.b (UU v m.unit.toNat) m).1,v.campaigns,r++(z0x v.b (UU v m.unit.toNat) m).2,v.now⟩:=by
 have hm:v.net.getD 0 noMsg=m:=by rw [h]; rfl
 have hmem:m∈v.net:=by rw [h]; exact List.mem_cons_self ..
 have M:=I.net m hmem
 have hu:=(I.w.msg m hmem).2
 obtain ⟨_,_,m3,_⟩:=z1e M.ok
 have cu:=I.ug m.unit.toNat (by omega)
 have hd:dropM v 0=⟨v.b,v.s,v.g,v.units,v.campaigns,r,v.now⟩:=by
  unfold dropM
  rw [h]; rfl
 unfold z0v
 rw [hm,if_neg (by rw [hk]; simp),hd]
 unfold arrivedU
 have eu:unitAt ⟨v.b,v.s,v.g,v.units,v.campaigns,r,v.now⟩ m.unit=UU v m.unit.toNat:=rfl
 rw [eu]
 have eh:hearU v.b (UU v m.unit.toNat) m=(z0x v.b (UU v m.unit.toNat) m,0):=zhq I.w.b cu M.ok
 rw [show (⟨v.b,v.s,v.g,v.units,v.campaigns,r,v.now⟩:Vehicle).b=v.b from rfl,eh,if_pos rfl]
 unfold sendV sendM Vm.setU
 rw [List.take_of_length_le (by simp only; omega)]
theorem z40 (I:VI first c v) {m:Message} {r:List Message} (h:v.net=m::r) (hk:toGate m=true) (hl:r.length+(z06 v.g m).2.length≤24) :
  z0v v 0=⟨v.b,v.s,(z06 v.g m).1,v.units,v.campaigns,r++(z06 v.g m).2,v.now⟩:=by
 have hm:v.net.getD 0 noMsg=m:=by rw [h]; rfl
 have hmem:m∈v.net:=by rw [h]; exact List.mem_cons_self ..
 have M:=I.net m hmem
 have hu:=(I.w.msg m hmem).2
 obtain ⟨_,_,m3,_,m5,m6,_⟩:=z1e M.ok
 have hN:=I.w.n
 have hd:dropM v 0=⟨v.b,v.s,v.g,v.units,v.campaigns,r,v.now⟩:=by
  unfold dropM
  rw [h]; rfl
 unfold z0v
 rw [hm,if_pos hk,hd]
 unfold arrivedG
 have eh:hearG v.g m=(z06 v.g m,0):=zhi I.w.g ⟨m3,by omega,m5,m6⟩
 rw [show (⟨v.b,v.s,v.g,v.units,v.campaigns,r,v.now⟩:Vehicle).g=v.g from rfl,eh,if_pos rfl]
 unfold sendV sendM
 rw [List.take_of_length_le (by simp only; omega)]
theorem zgl {g:Gate} {m:Message} (hg:z0t g=0) (hu:g.up=true) (hf:g.f.fuel=-1) (hl:z0k g.f.words<60000) (hm:1≤m.n∧0≤m.unit) :
  (z06 g m).1.up=true∧(z06 g m).1.f.fuel=-1∧z0k (z06 g m).1.f.words≤z0k g.f.words+1∧(z06 g m).1.t=g.t ∧
  ((ofG (z06 g m).1.f=ofG g.f∧(z06 g m).1.voted=g.voted∧(z06 g m).1.did=g.did) ∨
   (m.kind=3∧ofG (z06 g m).1.f=ofG g.f∧(z06 g m).1.voted=setAt g.voted m.unit.toNat true∧(z06 g m).1.did=g.did∧hasB false (setAt g.voted m.unit.toNat true)=true) ∨
   (m.kind=3∧ofG (z06 g m).1.f=⟨(ofG g.f).n,(ofG g.f).version,true,(ofG g.f).abort,(ofG g.f).ended⟩∧(z06 g m).1.voted=setAt g.voted m.unit.toNat true∧(z06 g m).1.did=g.did) ∨
   (m.kind=6∧ofG (z06 g m).1.f=ofG g.f∧(z06 g m).1.voted=g.voted∧(z06 g m).1.did=setAt g.did m.unit.toNat true∧hasB false (setAt g.did m.unit.toNat true)=true) ∨
   (m.kind=6∧ofG (z06 g m).1.f=⟨(ofG g.f).n,(ofG g.f).version,(ofG g.f).commit,(ofG g.f).abort,true⟩∧(z06 g m).1.voted=g.voted∧(z06 g m).1.did=setAt g.did m.unit.toNat true)):=by
 have hs:=z24 g.f
 have n8:=hs.n8
 have same:∀ {l:List Message},(z06 g m)=(g,l)→(z06 g m).1.up=true∧(z06 g m).1.f.fuel=-1∧z0k (z06 g m).1.f.words≤z0k g.f.words+1∧(z06 g m).1.t=g.t∧(ofG (z06 g m).1.f=ofG g.f∧(z06 g m).1.voted=g.voted∧(z06 g m).1.did=g.did):=fun {l} e=>by
  rw [e]; exact ⟨hu,hf,by show z0k g.f.words≤_; omega,rfl,rfl,rfl,rfl⟩
 have fin:∀ {l:List Message},(z06 g m)=(g,l)→_:=fun {l} e=>(same e)
 by_cases k3:m.kind=3
 ·by_cases q:(ofG g.f).n≠m.n∨(ofG g.f).ended=true∨(ofG g.f).commit=true∨(ofG g.f).abort=true∨m.yes=false
  ·have e:z06 g m=(g,[]):=by unfold z06 hearsS; rw [if_pos hu,if_pos k3,if_pos q]
   obtain ⟨a1,a2,a3,a4,a5⟩:=same e
   exact ⟨a1,a2,a3,a4,.inl a5⟩
  have e:z06 g m=(voteG g (ofG g.f) m.unit,[]):=by unfold z06 hearsS; rw [if_pos hu,if_pos k3,if_neg q]
  simp only [not_or,Bool.not_eq_true,ne_eq,Decidable.not_not,Bool.not_eq_false] at q
  obtain ⟨c1,c2,c3,c4,c5⟩:=q
  rw [e]
  by_cases cb:hasB false (z29 g m.unit).voted=true
  ·have e1:voteG g (ofG g.f) m.unit=z29 g m.unit:=if_pos cb
   rw [e1]
   exact ⟨hu,hf,by show z0k g.f.words≤_; omega,rfl,.inr (.inl ⟨k3,rfl,rfl,rfl,cb⟩)⟩
  ·have e1:voteG g (ofG g.f) m.unit=(z0o (z29 g m.unit) [2,(ofG g.f).n]).1:=if_neg cb
   rw [e1]
   have hlog:=(z0n (z3d (u:=m.unit) hg)).1
   have ok:=z4o (g:=z29 g m.unit) (r:=[2,(ofG g.f).n]) hlog hf hl (z25 (by omega) (by omega))
   obtain ⟨_,nt,_,_,_,n6,n7⟩:=z1f (g:=z29 g m.unit) (r:=[2,(ofG g.f).n]) hlog
   have gen:=z4p (g:=z29 g m.unit) (r:=[2,(ofG g.f).n])
   obtain ⟨z1,z2⟩:=n6 ok
   have z3:=(n7 hf).1
   rw [z2] at z3 gen nt ⊢
   exact ⟨hu,z3,gen,rfl,.inr (.inr (.inl ⟨k3,by rw [z2] at z1; exact z1.trans (z30 (s:=ofG g.f) (by omega) c4),rfl,rfl⟩))⟩
 by_cases k6:m.kind=6
 ·by_cases q:(ofG g.f).n≠m.n∨(ofG g.f).ended=true∨((ofG g.f).commit=false∧(ofG g.f).abort=false)
  ·have e:z06 g m=(g,[]):=by unfold z06 hearsS; rw [if_pos hu,if_neg k3,if_pos k6,if_pos q]
   obtain ⟨a1,a2,a3,a4,a5⟩:=same e
   exact ⟨a1,a2,a3,a4,.inl a5⟩
  have e:z06 g m=(doneG g (ofG g.f) m.unit,[]):=by unfold z06 hearsS; rw [if_pos hu,if_neg k3,if_pos k6,if_neg q]
  simp only [not_or,Bool.not_eq_true,ne_eq,Decidable.not_not] at q
  obtain ⟨c1,c2,c3⟩:=q
  have c3':(ofG g.f).commit=true∨(ofG g.f).abort=true:=by
   cases hcc:(ofG g.f).commit<;>cases haa:(ofG g.f).abort<;>simp_all
  rw [e]
  by_cases cb:hasB false (didG g m.unit).did=true
  ·have e1:doneG g (ofG g.f) m.unit=didG g m.unit:=if_pos cb
   rw [e1]
   exact ⟨hu,hf,by show z0k g.f.words≤_; omega,rfl,.inr (.inr (.inr (.inl ⟨k6,rfl,rfl,rfl,cb⟩)))⟩
  ·have e1:doneG g (ofG g.f) m.unit=(z0o (didG g m.unit) [4,(ofG g.f).n]).1:=if_neg cb
   rw [e1]
   have hlog:=(z0n (z4u (u:=m.unit) hg)).1
   have ok:=z4o (g:=didG g m.unit) (r:=[4,(ofG g.f).n]) hlog hf hl (z25 (by omega) (by omega))
   obtain ⟨_,nt,_,_,_,n6,n7⟩:=z1f (g:=didG g m.unit) (r:=[4,(ofG g.f).n]) hlog
   have gen:=z4p (g:=didG g m.unit) (r:=[4,(ofG g.f).n])
   obtain ⟨z1,z2⟩:=n6 ok
   have z3:=(n7 hf).1
   rw [z2] at z3 gen nt ⊢
   exact ⟨hu,z3,gen,rfl,.inr (.inr (.inr (.inr ⟨k6,by rw [z2] at z1; exact z1.trans (z3n (s:=ofG g.f) (by omega) c3'),rfl,rfl⟩)))⟩
 have e:∃ l,z06 g m=(g,l):=by
  unfold z06 hearsS
  rw [if_pos hu,if_neg k3,if_neg k6]
  split
  ·split<;>exact ⟨_,rfl⟩
  ·exact ⟨_,rfl⟩
 obtain ⟨l,e⟩:=e
 obtain ⟨a1,a2,a3,a4,a5⟩:=same e
 exact ⟨a1,a2,a3,a4,.inl a5⟩
theorem z9y {l:List Bool} {u k:Nat} (h:l.getD k false=true):(setAt l u true).getD k false=true:=by
 unfold setAt
 simp only [List.getD_eq_getElem?_getD] at h ⊢
 by_cases c:k=u
 ·subst c
  by_cases d:k<l.length
  ·rw [List.getElem?_set_self d]; rfl
  ·rw [List.getElem?_eq_none (by omega)] at h; cases h
 ·rw [List.getElem?_set_ne (by omega)]; exact h
theorem hasB_ex {l:List Bool} (h:hasB false l=true):∃ k,k<l.length∧l.getD k false=false:=by
 have key:∀ (l:List Bool) (k:Nat),0≤indexB false k l→∃ y∈l,y=false:=by
  intro l
  induction l with
  | nil=>intro k h; simp [indexB] at h
  | cons z l ih =>
   intro k h
   unfold indexB at h
   by_cases e:z=false
   ·exact ⟨z,List.mem_cons_self ..,e⟩
   ·rw [if_neg e] at h
    obtain ⟨y,y1,y2⟩:=ih (k+1) h
    exact ⟨y,List.mem_cons_of_mem _ y1,y2⟩
 obtain ⟨y,y1,y2⟩:=key l 0 (of_decide_eq_true h)
 obtain ⟨i,i1,i2⟩:=mem_nth y1 false
 exact ⟨i,i1,by rw [show l.getD i false=nth l i false from rfl,i2,y2]⟩
theorem Tour.arrive (H:Tour first c B v) (hB:B<60000) {m:Message} {r:List Message} (h:v.net=m::r) (hl:r.length<24) :
  Tour first c (B+1) (z0v v 0)∧More v (z0v v 0):=by
 have I:=H.vi
 have hmem:m∈v.net:=by rw [h]; exact List.mem_cons_self ..
 have M:=I.net m hmem
 have hu:=(I.w.msg m hmem).2
 obtain ⟨_,_,m3,_,m5,m6,_⟩:=z1e M.ok
 have A:=(I.arrive (k:=0) (by rw [h]; simp)).1
 have hN:=I.w.n
 have hkN:m.unit.toNat<v.units.length:=by omega
 cases hk:toGate m with
 | false =>
  have e:=z3x I h hk (by rcases zcq v.b (UU v m.unit.toNat) m with q | ⟨_,_,q⟩<;>rw [zhq I.w.b (I.ug _ hkN) M.ok] at q<;>simp only at q<;>rw [q]<;>simp<;>omega)
  rw [e] at A ⊢
  obtain ⟨N,_⟩:=z7l (b:=v.b) (z6w (I.ug _ hkN)) (zcv (I.ug _ hkN)) (m:=m) ⟨m5,m6⟩
  obtain ⟨x1,x2,x3⟩:=H.uu _ hkN
  have el:(v.units.set m.unit.toNat (z0x v.b (UU v m.unit.toNat) m).1).length=v.units.length:=List.length_set
  refine ⟨⟨A,H.gu,H.gf,by have:=H.gl; show z0k v.g.f.words≤_; omega,fun k hk=>?_,?_,?_⟩,rfl,rfl,rfl,rfl,rfl,el,rfl,rfl,id,id,fun _=>id,fun _=>id⟩
  ·have hk:k<v.units.length:=by rw [← el]; exact hk
   show ((v.units.set m.unit.toNat (z0x v.b (UU v m.unit.toNat) m).1).getD k noUnit).up=true∧((v.units.set m.unit.toNat (z0x v.b (UU v m.unit.toNat) m).1).getD k noUnit).f.fuel=-1∧z0k ((v.units.set m.unit.toNat (z0x v.b (UU v m.unit.toNat) m).1).getD k noUnit).f.words≤B+1
   rw [z4h _ _ _ _ _ hkN]
   split
   ·obtain ⟨p1,p2⟩:=N.pow x1 x2
    exact ⟨p1,p2,by have:=N.gen; omega⟩
   ·obtain ⟨p1,p2,p3⟩:=H.uu k hk
    exact ⟨p1,p2,by show z0k (UU v k).f.words≤_; omega⟩
  ·intro a b
   obtain ⟨k,k1,k2⟩:=H.fv a b
   exact ⟨k,by rw [← el] at k1; exact k1,k2⟩
  ·intro a
   obtain ⟨k,k1,k2⟩:=H.fd a
   exact ⟨k,by rw [← el] at k1; exact k1,k2⟩
 | true =>
  have e:=z40 I h hk (by have:=(z8q (m:=m) I.w.g).2.1; omega)
  rw [e] at A ⊢
  have gl:=H.gl
  obtain ⟨g1,g2,g3,g4,g5⟩:=zgl (m:=m) I.w.g H.gu H.gf (by omega) ⟨m5,m3⟩
  have hdl:=(z0n I.w.g).2.2.2.1
  have uu:∀ k,k<v.units.length→(UU v k).up=true∧(UU v k).f.fuel=-1∧z0k (UU v k).f.words≤B+1:=fun k hk=>by
   obtain ⟨p1,p2,p3⟩:=H.uu k hk
   exact ⟨p1,p2,by omega⟩
  have os:=z24 v.g.f
  rcases g5 with ⟨a,b,d⟩ | ⟨_,a,b,d,f⟩ | ⟨_,a,b,d⟩ | ⟨_,a,b,d,f⟩ | ⟨_,a,b,d⟩
  ·refine ⟨⟨A,g1,g2,by show z0k (z06 v.g m).1.f.words≤_; omega,uu,?_,?_⟩,rfl,rfl,g4,rfl,rfl,rfl,by show (ofG (z06 v.g m).1.f).n=_; rw [a],by show (ofG (z06 v.g m).1.f).abort=_; rw [a],fun q=>by show (ofG (z06 v.g m).1.f).commit=_; rw [a]; exact q,fun q=>by show (ofG (z06 v.g m).1.f).ended=_; rw [a]; exact q,fun k q=>by show (z06 v.g m).1.voted.getD k false=true; rw [b]; exact q,fun k q=>by show (z06 v.g m).1.did.getD k false=true; rw [d]; exact q⟩
   ·show (ofG (z06 v.g m).1.f).commit=false→(ofG (z06 v.g m).1.f).abort=false→∃ k,k<v.units.length∧(z06 v.g m).1.voted.getD k false=false
    rw [a,b]; exact H.fv
   ·show (ofG (z06 v.g m).1.f).ended=false→∃ k,k<v.units.length∧(z06 v.g m).1.did.getD k false=false
    rw [a,d]; exact H.fd
  ·refine ⟨⟨A,g1,g2,by show z0k (z06 v.g m).1.f.words≤_; omega,uu,?_,?_⟩,rfl,rfl,g4,rfl,rfl,rfl,by show (ofG (z06 v.g m).1.f).n=_; rw [a],by show (ofG (z06 v.g m).1.f).abort=_; rw [a],fun q=>by show (ofG (z06 v.g m).1.f).commit=_; rw [a]; exact q,fun q=>by show (ofG (z06 v.g m).1.f).ended=_; rw [a]; exact q,fun k q=>by show (z06 v.g m).1.voted.getD k false=true; rw [b]; exact z9y q,fun k q=>by show (z06 v.g m).1.did.getD k false=true; rw [d]; exact q⟩
   ·show (ofG (z06 v.g m).1.f).commit=false→(ofG (z06 v.g m).1.f).abort=false→∃ k,k<v.units.length∧(z06 v.g m).1.voted.getD k false=false
    rw [b]
    intro _ _
    obtain ⟨k,k1,k2⟩:=hasB_ex f
    exact ⟨k,by rw [z2x] at k1; omega,k2⟩
   ·show (ofG (z06 v.g m).1.f).ended=false→∃ k,k<v.units.length∧(z06 v.g m).1.did.getD k false=false
    rw [a,d]; exact H.fd
  ·refine ⟨⟨A,g1,g2,by show z0k (z06 v.g m).1.f.words≤_; omega,uu,?_,?_⟩,rfl,rfl,g4,rfl,rfl,rfl,by show (ofG (z06 v.g m).1.f).n=_; rw [a],by show (ofG (z06 v.g m).1.f).abort=_; rw [a],fun q=>by show (ofG (z06 v.g m).1.f).commit=_; rw [a],fun q=>by show (ofG (z06 v.g m).1.f).ended=_; rw [a]; exact q,fun k q=>by show (z06 v.g m).1.voted.getD k false=true; rw [b]; exact z9y q,fun k q=>by show (z06 v.g m).1.did.getD k false=true; rw [d]; exact q⟩
   ·show (ofG (z06 v.g m).1.f).commit=false→(ofG (z06 v.g m).1.f).abort=false→∃ k,k<v.units.length∧(z06 v.g m).1.voted.getD k false=false
    rw [a]
    intro q _; cases q
   ·show (ofG (z06 v.g m).1.f).ended=false→∃ k,k<v.units.length∧(z06 v.g m).1.did.getD k false=false
    rw [a,d]; exact H.fd
  ·refine ⟨⟨A,g1,g2,by show z0k (z06 v.g m).1.f.words≤_; omega,uu,?_,?_⟩,rfl,rfl,g4,rfl,rfl,rfl,by show (ofG (z06 v.g m).1.f).n=_; rw [a],by show (ofG (z06 v.g m).1.f).abort=_; rw [a],fun q=>by show (ofG (z06 v.g m).1.f).commit=_; rw [a]; exact q,fun q=>by show (ofG (z06 v.g m).1.f).ended=_; rw [a]; exact q,fun k q=>by show (z06 v.g m).1.voted.getD k false=true; rw [b]; exact q,fun k q=>by show (z06 v.g m).1.did.getD k false=true; rw [d]; exact z9y q⟩
   ·show (ofG (z06 v.g m).1.f).commit=false→(ofG (z06 v.g m).1.f).abort=false→∃ k,k<v.units.length∧(z06 v.g m).1.voted.getD k false=false
    rw [a,b]; exact H.fv
   ·show (ofG (z06 v.g m).1.f).ended=false→∃ k,k<v.units.length∧(z06 v.g m).1.did.getD k false=false
    rw [d]
    intro _
    obtain ⟨k,k1,k2⟩:=hasB_ex f
    exact ⟨k,by rw [z2x] at k1; omega,k2⟩
  ·refine ⟨⟨A,g1,g2,by show z0k (z06 v.g m).1.f.words≤_; omega,uu,?_,?_⟩,rfl,rfl,g4,rfl,rfl,rfl,by show (ofG (z06 v.g m).1.f).n=_; rw [a],by show (ofG (z06 v.g m).1.f).abort=_; rw [a],fun q=>by show (ofG (z06 v.g m).1.f).commit=_; rw [a]; exact q,fun q=>by show (ofG (z06 v.g m).1.f).ended=_; rw [a],fun k q=>by show (z06 v.g m).1.voted.getD k false=true; rw [b]; exact q,fun k q=>by show (z06 v.g m).1.did.getD k false=true; rw [d]; exact z9y q⟩
   ·show (ofG (z06 v.g m).1.f).commit=false→(ofG (z06 v.g m).1.f).abort=false→∃ k,k<v.units.length∧(z06 v.g m).1.voted.getD k false=false
    rw [a,b]; exact H.fv
   ·show (ofG (z06 v.g m).1.f).ended=false→∃ k,k<v.units.length∧(z06 v.g m).1.did.getD k false=false
    rw [a]
    intro q; cases q
end Vm
end Go.Proofs.YtlbppjmekiemiacGreatDoor

namespace Go.Proofs.YtlbppjmekiemiacGreatDoor
namespace Vm

variable {first:List (List Int)} {c:Int} {v:Vehicle} {B:Int}
theorem zes {b:List (List UInt8)} {s:UState} {n name:Int} {image:List Int} {o:Nat} {u:UnitD} {m:Message} (h:Heard s n image o image.length u) (hr:s.ready=0) (hby:s.by_<n) (hn0:1≤n) (ho:o≤1) (hs:1-s.slot=(o:Int))
  (hk:m.kind=2) (hmn:m.n=n) (hm:m.at_=(image.length:Int)) (hmi:m.image=name) (hi:z04 image=true) (h1:1≤image.length) (h2:image.length≤40) (h3:1≤name) (h4:name≤60) (hname:z0m b image=(name,0)) (hg6:z0k u.f.words<60000) (hn8:n≤8) :
  (z0x b u m).2=voteM m true:=by
 obtain ⟨s1,s2,s3⟩:=h.some (by omega)
 have hu:=h.f
 obtain ⟨a1,a2,a3,_⟩:=z2y hu
 have e0:z0x b u m=prepareU b u (ofU u.f) m:=by unfold z0x; rw [if_pos h.up,if_neg (by omega),if_pos hk]
 rw [e0,h.st]
 have eb:bodyS u.f (o:Int) (image.length:Int)=(image,0):=by
  unfold bodyS
  rw [if_pos (z5l hu ho),if_pos (by omega)]
  congr 1
  have e1:(68+64*(o:Int)).toNat=68+64*o:=by omega
  have e2:(68+64*(o:Int)+(image.length:Int)).toNat=68+64*o+image.length:=by omega
  rw [e1,e2]
  have sl:(slc u.f.words (68+64*o) (68+64*o+image.length)).length=image.length:=by rw [z41 _ _ _ (by rw [hu.2]; omega)]
  refine z6p sl fun i hi=>?_
  rw [sl] at hi
  rw [z37 _ _ _ _ (by omega),s3.2.1 i hi]
 obtain ⟨f,hf⟩:∃ f,u.f=f:=⟨_,rfl⟩
 obtain ⟨ws,fu⟩:=f
 have hfu:=h.fuel
 have hws:=hu.2
 rw [hf] at hfu hws a3 s3
 simp only at hfu hws a3 s3
 subst hfu
 obtain ⟨z1,z2⟩:=seal_fine (name:=name) hws ho a3 s3 hi h1 h2 h3 h4
 have hb:=z7i (o:=o) (n:=(image.length:Int)) (m:=name) hu ho (.inl (by rw [hf,z1]))
 rw [hf,z1] at hb
 have es:sealC u s m=(⟨⟨z0a ws (z0c (64+64*(o:Int)) (headOf (image.length:Int) name)),-1⟩,u.up,u.n,u.got⟩,true):=by
  unfold sealC changeU
  rw [hs,hm,hmi,hf,z1,if_pos rfl]
 unfold prepareU
 rw [if_neg (by omega),if_neg (by omega),if_neg (by omega),hs,hm,eb,if_pos ⟨rfl,s1.trans hmn.symm,s2⟩,hname,if_pos ⟨rfl,by simp only; omega,hmi.symm⟩,es,if_pos rfl]
 unfold sealedU
 simp only [hs,z2,hmi,and_self,if_true]
 have hg:OkF (⟨z0a ws (z0c (64+64*(o:Int)) (headOf (image.length:Int) name)),-1⟩:Flash):=hb.1.1
 have hst:ofU (⟨z0a ws (z0c (64+64*(o:Int)) (headOf (image.length:Int) name)),-1⟩:Flash)=s:=by rw [← h.st,hf]; exact z5x hb.1 (by rw [← hf]; exact hu)
 obtain ⟨g,hgg⟩:∃ g,(⟨z0a ws (z0c (64+64*(o:Int)) (headOf (image.length:Int) name)),-1⟩:Flash)=g:=⟨_,rfl⟩
 rw [hgg] at hg hst z2 ⊢
 have hc0:OkC ⟨g,u.up,0,0⟩:=⟨by simp,by simp⟩
 have gl:z0k g.words=z0k u.f.words:=by rw [← hgg,hf]; exact z94 hb.1 (by rw [← hf]; exact hu)
 have gf:g.fuel=-1:=by rw [← hgg]
 rw [if_pos (z8m (u:=⟨g,u.up,0,0⟩) hg gf (by show z0k g.words<60000; rw [gl]; exact hg6) (z25 (by omega) (by omega)))]

theorem Tour.mono (H:Tour first c B v) {B':Int} (h:B≤B'):Tour first c B' v :=
 ⟨H.vi,H.gu,H.gf,by have:=H.gl; omega,fun k hk=>⟨(H.uu k hk).1,(H.uu k hk).2.1,by have:=(H.uu k hk).2.2; omega⟩,H.fv,H.fd⟩
theorem Tour.net (H:Tour first c B v) {net:List Message} (A:VI first c ⟨v.b,v.s,v.g,v.units,v.campaigns,net,v.now⟩):Tour first c B ⟨v.b,v.s,v.g,v.units,v.campaigns,net,v.now⟩ :=
 ⟨A,H.gu,H.gf,H.gl,H.uu,H.fv,H.fd⟩
theorem z35 {g:Gate} {m:Message} (h:m.kind≠7):(z06 g m).2=[]:=by
 unfold z06 hearsS
 split
 ·split
  ·split<;>rfl
  split
  ·split<;>rfl
  first | rfl | (rw [if_neg h])
 ·rfl
theorem zdb {b:List (List UInt8)} {u:UnitD} {m:Message} (hu:OkF u.f) (hc:OkC u) (h1:u.up=true) (h2:u.f.fuel=-1) (h3:z0k u.f.words<60000) (hm:1≤m.n∧m.n≤8) (hk:m.kind=4∨m.kind=5) (hr:(ofU u.f).ready=m.n) (hb:(ofU u.f).by_<m.n) :
  (z0x b u m).2=doneM m∧(ofU (z0x b u m).1.f).ready=0∧(u.got=0→(z0x b u m).1.got=0):=by
 rw [zf7 h1 hk]
 obtain ⟨⟨s0,s1⟩,_⟩:=z49 u.f
 unfold decidedU
 by_cases k4:m.kind=4
 ·rw [if_pos k4,if_neg (by omega),if_pos hr]
  have ok:=z8m (r:=[1,1-(ofU u.f).slot,m.n]) hu h2 h3 (z39 (by omega) (by omega) (by omega))
  obtain ⟨_,_,_,_,n5,_⟩:=z4a (r:=[1,1-(ofU u.f).slot,m.n]) hu hc
  rw [if_pos ok]
  refine ⟨rfl,?_,fun h=>?_⟩
  ·rw [(n5 ok).1,zb3 _ (by omega)]
  ·rw [(n5 ok).2]; exact h
 ·rw [if_neg k4,if_neg (by omega),if_pos hr]
  have ok:=z8m (r:=[3,m.n]) hu h2 h3 (z25 (by omega) (by omega))
  obtain ⟨_,_,_,_,n5,_⟩:=z4a (r:=[3,m.n]) hu hc
  rw [if_pos ok]
  refine ⟨z83 _ _,?_,fun h=>?_⟩
  ·rw [z5t,(n5 ok).1,zdt]
  ·unfold goneU
   split
   ·rfl
   ·rw [(n5 ok).2]; exact h
structure Left (first:List (List Int)) (c B:Int) (v w:Vehicle) (k:Nat):Prop where
 tour:Tour first c B w
 more:More v w
 net:w.net=[]
 oth:∀ i,i≠k→UU w i=UU v i
theorem Left.refl (H:Tour first c B v) (h:v.net=[]) (k:Nat):Left first c B v v k:=⟨H,.refl v,h,fun _ _=>rfl⟩
theorem Tour.ask (H:Tour first c B v) (hB:B+3<60000) (hn:v.net=[]) {k:Nat} (hk:k<v.units.length) :
  Left first c (B+3) v (z2u v k) k∧((UU v k).got=0→(UU (z2u v k) k).got=0) ∧
  ((TT (z2u v k) k).ready=0∨(z2u v k=v∧(ofG v.g.f).commit=false∧(ofG v.g.f).abort=false∧(ofG v.g.f).ended=false∧(TT v k).ready=(ofG v.g.f).n)):=by
 have I:=H.vi
 have cu:=I.ug k hk
 obtain ⟨up,fu,gl⟩:=H.uu k hk
 have uI:=I.unit k hk
 have u4:=I.w.units4.2
 have n8:=(z24 v.g.f).n8
 have z0:0≤(TT v k).ready:=(z49 (UU v k).f).2.2.1
 have es:z0y v (happen 9 k 0)=asksV v k:=by
  unfold z0y happen
  rw [if_neg (show ¬ (9:Int)=1 by omega),if_neg (show ¬ ((9:Int)=3∨(9:Int)=4∨(9:Int)=5) by omega),if_neg (show ¬ ((9:Int)=6∨(9:Int)=7) by omega),if_neg (show ¬ (9:Int)=8 by omega),if_pos (show (9:Int)=2∨(9:Int)=9 by omega),if_neg (show ¬ ((k:Int)<0∨(v.units.length:Int)≤(k:Int)) by omega),if_neg (show ¬ (9:Int)=2 by omega)]
 have er:readU (unitAt v (k:Int))=(TT v k,0):=zdm cu
 have ek:asksV v k=if (TT v k).ready<1∨8<(TT v k).ready then (v,12) else (sendV v (askM k (TT v k).ready),0):=by
  unfold asksV
  rw [if_pos (show (unitAt v (k:Int)).up=true from up),er]
 unfold z2u
 rw [I.doneV,es]
 by_cases c0:(TT v k).ready<1∨8<(TT v k).ready
 ·have hr0:(TT v k).ready=0:=by
   rcases uI.rdy with p | p
   ·exact p
   ·omega
  rw [ek,if_pos c0,if_neg (by simp),z3b hn]
  exact ⟨(Left.refl (H.mono (by omega)) hn k),id,.inl hr0⟩
 have A1:=I.asks (k:=(k:Int)) (by omega) (by omega)
 rw [ek,if_neg c0] at A1 ⊢
 rw [if_pos rfl]
 obtain ⟨r,hr⟩:∃ r,(TT v k).ready=r:=⟨_,rfl⟩
 rw [hr] at c0 A1 ⊢
 have hby:(TT v k).by_<r∧r≤(ofG v.g.f).n:=by
  rcases uI.rdy with p | p
  ·omega
  ·rw [hr] at p; exact p
 have e1:sendV v (askM (k:Int) r)=⟨v.b,v.s,v.g,v.units,v.campaigns,[⟨7,(k:Int),r,0,0,[],false⟩],v.now⟩:=by
  unfold sendV sendM askM
  rw [hn]; rfl
 simp only [e1] at A1 ⊢
 have H1:=H.net A1
 obtain ⟨v1,hv1⟩:∃ v1:Vehicle,v1=⟨v.b,v.s,v.g,v.units,v.campaigns,[⟨7,(k:Int),r,0,0,[],false⟩],v.now⟩:=⟨_,rfl⟩
 rw [← hv1] at H1 ⊢
 have n1:v1.net=⟨7,(k:Int),r,0,0,[],false⟩::[]:=by rw [hv1]
 have m1:More v v1:=by rw [hv1]; exact ⟨rfl,rfl,rfl,rfl,rfl,rfl,rfl,rfl,id,id,fun _=>id,fun _=>id⟩
 rw [z2t H1.vi n1 39]
 obtain ⟨H2,M2⟩:=H1.arrive (by omega) n1 (by simp)
 have e2:=z40 H1.vi n1 rfl (by have:=(z8q (m:=(⟨7,(k:Int),r,0,0,[],false⟩:Message)) H1.vi.w.g).2.1; simp only [List.length_nil]; omega)
 have g1:v1.g=v.g:=by rw [hv1]
 rw [g1] at e2
 by_cases cd:(ofG v.g.f).n≠r∨(ofG v.g.f).ended=true∨(ofG v.g.f).commit=true∨(ofG v.g.f).abort=true
 case neg =>
  have eh:z06 v.g ⟨7,(k:Int),r,0,0,[],false⟩=(v.g,[]):=by
   unfold z06 hearsS
   rw [if_pos H.gu,if_neg (show ¬ (7:Int)=3 by omega),if_neg (show ¬ (7:Int)=6 by omega),if_pos rfl,if_neg cd]
  have e3:z0v v1 0=v:=by
   rw [e2,eh,hv1]
   simp only [List.append_nil]
   rw [← hn]
  rw [e3,z3b hn]
  simp only [not_or,Bool.not_eq_true,ne_eq,Decidable.not_not] at cd
  exact ⟨Left.refl (H.mono (by omega)) hn k,id,.inr ⟨rfl,cd.2.2.1,cd.2.2.2,cd.2.1,cd.1.symm⟩⟩
 have eh:z06 v.g ⟨7,(k:Int),r,0,0,[],false⟩=(v.g,[z19 (ofG v.g.f) (k:Int) r]):=by
  unfold z06 hearsS
  rw [if_pos H.gu,if_neg (show ¬ (7:Int)=3 by omega),if_neg (show ¬ (7:Int)=6 by omega),if_pos rfl,if_pos cd]
 rw [eh] at e2
 obtain ⟨v2,hv2⟩:∃ v2,z0v v1 0=v2:=⟨_,rfl⟩
 rw [hv2] at e2 H2 M2 ⊢
 have n2:v2.net=z19 (ofG v.g.f) (k:Int) r::[]:=by rw [e2]; rfl
 have g2:v2.g=v.g:=by rw [e2]
 have u2:UU v2 k=UU v k:=by rw [e2,hv1]; rfl
 have b2:v2.b=v.b:=by rw [e2,hv1]
 have l2:v2.units=v.units:=by rw [e2,hv1]
 have hkd:kindG (ofG v.g.f) r=4∨kindG (ofG v.g.f) r=5:=by unfold kindG; split<;>simp
 have tg:toGate (z19 (ofG v.g.f) (k:Int) r)=false:=by
  unfold toGate z19
  rcases hkd with e | e<;>rw [e]<;>rfl
 rw [z2t H2.vi n2 38]
 obtain ⟨H3,M3⟩:=H2.arrive (by omega) n2 (by simp)
 have dr:=zdb (b:=v.b) (m:=z19 (ofG v.g.f) (k:Int) r) (z6w cu) (zcv cu) up fu (by omega) ⟨by show 1≤r; omega,by show r≤8; omega⟩ hkd hr hby.1
 have ek2:(z19 (ofG v.g.f) (k:Int) r).unit.toNat=k:=by show ((k:Int)).toNat=k; omega
 have e3:=z3x H2.vi n2 tg (by rw [ek2,u2,b2,dr.1]; simp [doneM])
 rw [ek2,u2,b2,dr.1] at e3
 obtain ⟨x,hx⟩:∃ x,(z0x v.b (UU v k) (z19 (ofG v.g.f) (k:Int) r)).1=x:=⟨_,rfl⟩
 rw [hx] at e3 dr
 obtain ⟨v3,hv3⟩:∃ v3,z0v v2 0=v3:=⟨_,rfl⟩
 rw [hv3] at e3 H3 M3 ⊢
 have n3:v3.net=⟨6,(k:Int),r,0,0,[],false⟩::[]:=by rw [e3]; rfl
 rw [z2t H3.vi n3 37]
 obtain ⟨H4,M4⟩:=H3.arrive (by omega) n3 (by simp)
 have e4:=z40 H3.vi n3 rfl (by rw [z35 (by simp)]; simp)
 rw [z35 (by simp)] at e4
 obtain ⟨v4,hv4⟩:∃ v4,z0v v3 0=v4:=⟨_,rfl⟩
 rw [hv4] at e4 H4 M4 ⊢
 have n4:v4.net=[]:=by rw [e4]; rfl
 rw [z3b n4]
 have u4':∀ i,UU v4 i=if i=k then x else UU v i:=fun i=>by
  have a:v4.units=v.units.set k x:=by rw [e4,e3]; show v2.units.set k x=_; rw [l2]
  unfold UU
  rw [a]
  exact z4h _ _ _ _ _ hk
 refine ⟨⟨H4.mono (by omega),m1.trans (M2.trans (M3.trans M4)),n4,fun i hi=>by rw [u4',if_neg hi]⟩,fun h=>?_,.inl ?_⟩
 ·rw [u4',if_pos rfl]; exact dr.2.2 h
 ·unfold TT
  rw [u4',if_pos rfl]; exact dr.2.1
end Vm
end Go.Proofs.YtlbppjmekiemiacGreatDoor

namespace Go.Proofs.YtlbppjmekiemiacGreatDoor
namespace Vm

variable {first:List (List Int)} {c:Int} {v:Vehicle} {B:Int}
theorem z5n {b:List (List UInt8)} {w:List Int} {k:Nat} {n:Int} {pm:Message} {P:Nat→UnitD→Prop} (hP:∀ j u,P j u→j<w.length→P (j+8) (z0x b u (pieceM (k:Int) n w j)).1) :
  ∀ (d j:Nat) (v:Vehicle) (B:Int),Tour first c B v→v.b=b→k<v.units.length→v.net=z1p (k:Int) n w d j++[pm]→w.length≤j+8*d→d≤6→P j (UU v k)→B+d<60000 →
  ∀ e,∃ e' w',e≤e'∧z12 (e+d) v=z12 e' w'∧Tour first c (B+d) w'∧More v w'∧w'.net=[pm]∧w'.g=v.g∧(∃ jj,w.length≤jj∧P jj (UU w' k))∧∀ i,i≠k→UU w' i=UU v i
 | 0,j,v,B,H,hb,hk,hn,hl,hd,hp,hB,e=>⟨e,v,Nat.le_refl _,rfl,H.mono (by omega),.refl v,by rw [hn]; rfl,rfl,⟨j,by omega,hp⟩,fun _ _=>rfl⟩
 | d+1,j,v,B,H,hb,hk,hn,hl,hd,hp,hB,e=>by
  by_cases cj:j<w.length
  case neg =>
   have e1:z1p (k:Int) n w (d+1) j=[]:=if_neg cj
   rw [e1] at hn
   exact ⟨e+(d+1),v,by omega,rfl,H.mono (by omega),.refl v,hn,rfl,⟨j,by omega,hp⟩,fun _ _=>rfl⟩
  have e1:z1p (k:Int) n w (d+1) j=pieceM (k:Int) n w j::z1p (k:Int) n w d (j+8):=if_pos cj
  rw [e1,List.cons_append] at hn
  have sm:=(z3p (k:Int) n w d (j+8)).1
  have ln:(z1p (k:Int) n w d (j+8)++[pm]).length<24:=by rw [List.length_append,List.length_singleton]; omega
  obtain ⟨H1,M1⟩:=H.arrive (by omega) hn ln
  have ek:(pieceM (k:Int) n w j).unit.toNat=k:=by show ((k:Int)).toNat=k; omega
  have hkd:(pieceM (k:Int) n w j).kind=1:=rfl
  have o1:∀ u:UnitD,(z0x b u (pieceM (k:Int) n w j)).2=[]:=fun u=>by
   unfold z0x
   rw [if_pos hkd]
   split<;>rfl
  have e2:=z3x H.vi hn rfl (by rw [ek,hb,o1]; simp only [List.length_nil]; omega)
  rw [ek,hb,o1,List.append_nil] at e2
  obtain ⟨v1,hv1⟩:∃ v1,z0v v 0=v1:=⟨_,rfl⟩
  rw [hv1] at e2 H1 M1
  have u1:∀ i,UU v1 i=if i=k then (z0x b (UU v k) (pieceM (k:Int) n w j)).1 else UU v i:=fun i=>by
   have a:v1.units=v.units.set k (z0x b (UU v k) (pieceM (k:Int) n w j)).1:=by rw [e2]
   unfold UU
   rw [a]
   exact z4h _ _ _ _ _ hk
  obtain ⟨e',w',q1,q2,q3,q4,q5,q6,q7,q8⟩:=z5n hP d (j+8) v1 (B+1) H1 (by rw [e2]) (by rw [M1.len]; exact hk) (by rw [e2]) (by omega) (by omega) (by rw [u1,if_pos rfl]; exact hP j _ hp cj) (by omega) e
  refine ⟨e',w',q1,?_,q3.mono (by omega),M1.trans q4,q5,q6.trans (by rw [e2]),q7,fun i hi=>by rw [q8 i hi,u1,if_neg hi]⟩
  rw [show e+(d+1)=(e+d)+1 by omega,z2t H.vi hn,hv1]
  exact q2
theorem z6j {l:List Bool} {u:Nat} (h:u<l.length):(setAt l u true).getD u false=true:=by
 unfold setAt
 rw [z4h _ _ _ _ _ h,if_pos rfl]
theorem zjo {g:Gate} {m:Message} (hg:z0t g=0) (hu:g.up=true) (hf:g.f.fuel=-1) (hl:z0k g.f.words<60000) (hk:m.kind=3) (hy:m.yes=true) (hn:(ofG g.f).n=m.n) (h1:1≤m.n) (he:(ofG g.f).ended=false) (hc:(ofG g.f).commit=false) (ha:(ofG g.f).abort=false) (hr:m.unit.toNat<g.voted.length) :
  (z06 g m).1.voted.getD m.unit.toNat false=true:=by
 have n8:=(z24 g.f).n8
 have e:z06 g m=(voteG g (ofG g.f) m.unit,[]):=by
  unfold z06 hearsS
  rw [if_pos hu,if_pos hk,if_neg (by rw [he,hc,ha,hy]; simp; exact hn)]
 rw [e]
 show (voteG g (ofG g.f) m.unit).voted.getD m.unit.toNat false=true
 unfold voteG
 split
 ·exact z6j hr
 ·have hlog:=(z0n (z3d (u:=m.unit) hg)).1
  have ok:=z4o (g:=z29 g m.unit) (r:=[2,(ofG g.f).n]) hlog hf hl (z25 (by omega) (by omega))
  rcases z8t (g:=z29 g m.unit) (r:=[2,(ofG g.f).n]) with ⟨a,_⟩ | ⟨_,_,b⟩
  ·rw [a]; exact z6j hr
  ·rw [ok] at b; cases b
theorem zkp {g:Gate} {m:Message} (hg:z0t g=0) (hu:g.up=true) (hf:g.f.fuel=-1) (hl:z0k g.f.words<60000) (hk:m.kind=6) (hn:(ofG g.f).n=m.n) (h1:1≤m.n) (he:(ofG g.f).ended=false) (hc:(ofG g.f).commit=true∨(ofG g.f).abort=true) (hr:m.unit.toNat<g.did.length) :
  (z06 g m).1.did.getD m.unit.toNat false=true:=by
 have n8:=(z24 g.f).n8
 have e:z06 g m=(doneG g (ofG g.f) m.unit,[]):=by
  unfold z06 hearsS
  rw [if_pos hu,if_neg (by omega),if_pos hk,if_neg]
  rintro (q | q | ⟨q1,q2⟩)
  ·exact q hn
  ·rw [he] at q; cases q
  ·rcases hc with p | p
   ·rw [q1] at p; cases p
   ·rw [q2] at p; cases p
 rw [e]
 show (doneG g (ofG g.f) m.unit).did.getD m.unit.toNat false=true
 unfold doneG
 split
 ·exact z6j hr
 ·have hlog:=(z0n (z4u (u:=m.unit) hg)).1
  have ok:=z4o (g:=didG g m.unit) (r:=[4,(ofG g.f).n]) hlog hf hl (z25 (by omega) (by omega))
  rcases z8t (g:=didG g m.unit) (r:=[4,(ofG g.f).n]) with ⟨_,a,_⟩ | ⟨_,_,b⟩
  ·rw [a]; exact z6j hr
  ·rw [ok] at b; cases b
theorem zg6 {b:List (List UInt8)} {u:UnitD} {m:Message} (h1:u.up=true) (hk:m.kind=4∨m.kind=5) (hr:(ofU u.f).ready≠m.n) (h4:m.kind=4→(ofU u.f).by_=m.n) (h5:m.kind=5→(ofU u.f).by_<m.n):(z0x b u m).2=doneM m:=by
 rw [zf7 h1 hk]
 unfold decidedU
 by_cases k4:m.kind=4
 ·rw [if_pos k4,if_pos (h4 k4)]
 ·have:=h5 (by omega)
  rw [if_neg k4,if_neg (by omega),if_neg hr]
  exact z83 _ _
theorem Tour.poke (H:Tour first c B v) (hB:B+10<60000) (hn:v.net=[]) {k:Nat} (hk:k<v.units.length)
  (hr:(TT v k).ready=0∨((ofG v.g.f).commit=false∧(ofG v.g.f).abort=false∧(ofG v.g.f).ended=false∧(TT v k).ready=(ofG v.g.f).n))
  (hgot:(ofG v.g.f).n≠0→(ofG v.g.f).commit=false→(ofG v.g.f).abort=false→(UU v k).got=0) :
  Left first c (B+10) v (z2i v k) k∧((ofG v.g.f).n=0∨(ofG v.g.f).ended=true→z2i v k=v) ∧
  ((ofG v.g.f).n≠0→(ofG v.g.f).ended=false→(ofG v.g.f).commit=true∨(ofG v.g.f).abort=true→(z2i v k).g.did.getD k false=true) ∧
  ((ofG v.g.f).n≠0→(ofG v.g.f).ended=false→(ofG v.g.f).commit=false→(ofG v.g.f).abort=false→(z2i v k).g.voted.getD k false=true):=by
 have I:=H.vi
 have cu:=I.ug k hk
 obtain ⟨up,fu,gl⟩:=H.uu k hk
 have ggl:=H.gl
 have uI:=I.unit k hk
 have u4:=I.w.units4.2
 have os:=z24 v.g.f
 have n0:=os.n0
 have n8:=os.n8
 have base:=I.base
 obtain ⟨bs0,bs1⟩:=base
 have hN:=I.w.n
 have hdl:=(z0n I.w.g).2.2.2.1
 have len:=I.len
 have es:z0y v (happen 2 k 0)=pokeV v k:=by
  unfold z0y happen
  rw [if_neg (show ¬ (2:Int)=1 by omega),if_neg (show ¬ ((2:Int)=3∨(2:Int)=4∨(2:Int)=5) by omega),if_neg (show ¬ ((2:Int)=6∨(2:Int)=7) by omega),if_neg (show ¬ (2:Int)=8 by omega),if_pos (show (2:Int)=2∨(2:Int)=9 by omega),if_neg (show ¬ ((k:Int)<0∨(v.units.length:Int)≤(k:Int)) by omega),if_pos rfl]
 have rd:=z6n I.w.g
 have hlen:¬ (v.campaigns.length:Int)<(readG v.g).1.n:=by rw [rd]; show ¬ (v.campaigns.length:Int)<(ofG v.g.f).n; omega
 have ep:pokeV v k=if (dueG v.g (z0s v) k).2=0 then (sendV v (dueG v.g (z0s v) k).1,0) else (v,(dueG v.g (z0s v) k).2):=by
  unfold pokeV
  rw [if_neg hlen]
 have upg:upG v.g=0:=by unfold upG; rw [if_pos I.w.g,if_pos H.gu]
 have A1:VI first c (pokeV v k).1:=I.poke
 unfold z2i
 rw [I.doneV,es]
 by_cases hE:(ofG v.g.f).n=0∨(ofG v.g.f).ended=true
 ·have ed:(dueG v.g (z0s v) k).2=12:=by
   have:dueE v.g (z0s v) k=12:=by unfold dueE; rw [if_pos upg,if_pos hE]
   unfold dueG
   rw [this,if_neg (by omega)]
  have hp:pokeV v k=(v,12):=by rw [ep,if_neg (by rw [ed]; omega),ed]
  rw [hp,if_neg (show ¬ (12:Int)=0 by omega),z3b hn]
  refine ⟨Left.refl (H.mono (by omega)) hn k,fun _=>rfl,fun a b=>?_,fun a b=>?_⟩
  ·rcases hE with q | q
   ·exact absurd q a
   ·rw [b] at q; cases q
  ·rcases hE with q | q
   ·exact absurd q a
   ·rw [b] at q; cases q
 have hE1:(ofG v.g.f).n≠0:=fun q=>hE (.inl q)
 have hE2:(ofG v.g.f).ended=false:=Bool.eq_false_iff.2 fun q=>hE (.inr q)
 have hcO:z0s v=v.campaigns.getD ((ofG v.g.f).n-1).toNat noCampaign:=by
  unfold z0s
  rw [rd,if_pos (show 0<(ofG v.g.f).n by omega)]
 have C:=I.cam ((ofG v.g.f).n-1).toNat (by omega)
 have hmem:z0s v∈v.campaigns:=by rw [hcO]; exact z1g (by omega) noCampaign
 obtain ⟨c1,c2,c3,_⟩:=z4s.1 (List.all_eq_true.1 I.w.c _ hmem)
 rw [← hcO] at C
 have Cn:=C.n
 obtain ⟨Cm1,Cm2,Cm3⟩:=C.img k hk
 generalize z0s v=cc at *
 have ed:dueG v.g cc k=duesG v.g (ofG v.g.f) cc k:=by
  unfold dueG
  rw [if_pos]
  unfold dueE
  rw [if_pos upg,if_neg hE,if_neg (by omega)]
 have hw:z0j (nth cc.images k [])=0:=c3 _ (z1g (by omega) [])
 obtain ⟨w1,w2,w3⟩:=z2k hw
 have hwn:((k:Int)).toNat=k:=by omega
 have go:∀ l:List Message,duesG v.g (ofG v.g.f) cc k=(l,0)→l.length≤24→(pokeV v k)=(⟨v.b,v.s,v.g,v.units,v.campaigns,l,v.now⟩,0):=fun l hl hl2=>by
  rw [ep,ed,hl,if_pos rfl]
  unfold sendV sendM
  rw [hn,List.nil_append,List.length_nil,List.take_of_length_le (by omega)]
 have none:duesG v.g (ofG v.g.f) cc k=([],0)→(pokeV v k)=(v,0):=fun hl=>by
  rw [go [] hl (by simp)]
  rw [← hn]
 by_cases dec:(ofG v.g.f).commit=true∨(ofG v.g.f).abort=true
 ·have r0:(TT v k).ready=0:=by
   rcases hr with q | ⟨q1,q2,_⟩
   ·exact q
   ·rcases dec with p | p
    ·rw [q1] at p; cases p
    ·rw [q2] at p; cases p
  have no:(ofG v.g.f).commit=false→(ofG v.g.f).abort=false→False:=fun a b=>by
   rcases dec with p | p
   ·rw [a] at p; cases p
   ·rw [b] at p; cases p
  by_cases dd:v.g.did.getD k false=true
  ·have hp:=none (by unfold duesG; rw [if_pos dec,hwn,if_pos (show nth v.g.did k false=true from dd)])
   rw [hp,if_pos rfl,z3b hn]
   exact ⟨Left.refl (H.mono (by omega)) hn k,fun q=>absurd q hE,fun _ _ _=>dd,fun _ _ a b=>(no a b).elim⟩
  ·have hp:=go [z19 (ofG v.g.f) (k:Int) (ofG v.g.f).n] (by unfold duesG; rw [if_pos dec,hwn,if_neg (show ¬ nth v.g.did k false=true from dd)]) (by simp)
   rw [hp] at A1 ⊢
   rw [if_pos rfl]
   have H1:=H.net A1
   obtain ⟨v1,hv1⟩:∃ v1:Vehicle,v1=⟨v.b,v.s,v.g,v.units,v.campaigns,[z19 (ofG v.g.f) (k:Int) (ofG v.g.f).n],v.now⟩:=⟨_,rfl⟩
   simp only at H1 ⊢
   rw [← hv1] at H1 ⊢
   have n1:v1.net=z19 (ofG v.g.f) (k:Int) (ofG v.g.f).n::[]:=by rw [hv1]
   have m1:More v v1:=by rw [hv1]; exact ⟨rfl,rfl,rfl,rfl,rfl,rfl,rfl,rfl,id,id,fun _=>id,fun _=>id⟩
   have u1:UU v1 k=UU v k:=by rw [hv1]; rfl
   have b1:v1.b=v.b:=by rw [hv1]
   have l1:v1.units=v.units:=by rw [hv1]
   have hkd:kindG (ofG v.g.f) (ofG v.g.f).n=4∨kindG (ofG v.g.f) (ofG v.g.f).n=5:=by unfold kindG; split<;>simp
   have tg:toGate (z19 (ofG v.g.f) (k:Int) (ofG v.g.f).n)=false:=by
    unfold toGate z19
    rcases hkd with e | e<;>rw [e]<;>rfl
   have k4:kindG (ofG v.g.f) (ofG v.g.f).n=4→(ofG v.g.f).commit=true:=fun a=>by
    unfold kindG at a
    by_cases d:(ofG v.g.f).commit=true∧(ofG v.g.f).n=(ofG v.g.f).n
    ·exact d.1
    ·rw [if_neg d] at a; cases a
   have k5:kindG (ofG v.g.f) (ofG v.g.f).n=5→(ofG v.g.f).commit=false:=fun a=>by
    unfold kindG at a
    by_cases d:(ofG v.g.f).commit=true
    ·rw [if_pos ⟨d,rfl⟩] at a; cases a
    ·exact Bool.eq_false_iff.2 d
   have dn:=zg6 (b:=v.b) (u:=UU v k) (m:=z19 (ofG v.g.f) (k:Int) (ofG v.g.f).n) up hkd (by show (TT v k).ready≠(ofG v.g.f).n; omega)
    (fun a=>by
     show (TT v k).by_=(ofG v.g.f).n
     rcases uI.com (k4 a) with q | q
     ·exact q
     ·omega)
    (fun a=>by
     show (TT v k).by_<(ofG v.g.f).n
     rcases uI.by_ with q | q
     ·omega
     ·rw [k5 a] at q; cases q.1)
   have ek2:(z19 (ofG v.g.f) (k:Int) (ofG v.g.f).n).unit.toNat=k:=hwn
   rw [z2t H1.vi n1 39]
   obtain ⟨H2,M2⟩:=H1.arrive (by omega) n1 (by simp)
   have e2:=z3x H1.vi n1 tg (by rw [ek2,u1,b1,dn]; simp [doneM])
   rw [ek2,u1,b1,dn] at e2
   obtain ⟨v2,hv2⟩:∃ v2,z0v v1 0=v2:=⟨_,rfl⟩
   rw [hv2] at e2 H2 M2 ⊢
   have n2:v2.net=⟨6,(k:Int),(ofG v.g.f).n,0,0,[],false⟩::[]:=by rw [e2]; rfl
   have g2:v2.g=v.g:=by rw [e2,hv1]
   rw [z2t H2.vi n2 38]
   obtain ⟨H3,M3⟩:=H2.arrive (by omega) n2 (by simp)
   have e3:=z40 H2.vi n2 rfl (by rw [z35 (by simp)]; simp)
   rw [z35 (by simp),g2] at e3
   obtain ⟨v3,hv3⟩:∃ v3,z0v v2 0=v3:=⟨_,rfl⟩
   rw [hv3] at e3 H3 M3 ⊢
   have n3:v3.net=[]:=by rw [e3]; rfl
   rw [z3b n3]
   refine ⟨⟨H3.mono (by omega),m1.trans (M2.trans M3),n3,fun i hi=>?_⟩,fun q=>absurd q hE,fun _ _ _=>?_,fun _ _ a b=>(no a b).elim⟩
   ·have a:v3.units=v.units.set k (z0x v.b (UU v k) (z19 (ofG v.g.f) (k:Int) (ofG v.g.f).n)).1:=by rw [e3,e2,hv1]
    unfold UU
    rw [a,z4h _ _ _ _ _ hk,if_neg hi]
   ·rw [e3]
    have:=zkp (g:=v.g) (m:=⟨6,(k:Int),(ofG v.g.f).n,0,0,[],false⟩) I.w.g H.gu H.gf (by omega) rfl rfl (by show 1≤(ofG v.g.f).n; omega) hE2 dec (by show ((k:Int)).toNat<_; omega)
    rw [show (⟨6,(k:Int),(ofG v.g.f).n,0,0,[],false⟩:Message).unit.toNat=k from hwn] at this
    exact this
 ·have hc:(ofG v.g.f).commit=false:=Bool.eq_false_iff.2 fun q=>dec (.inl q)
  have ha:(ofG v.g.f).abort=false:=Bool.eq_false_iff.2 fun q=>dec (.inr q)
  by_cases vd:v.g.voted.getD k false=true
  ·have hp:=none (by unfold duesG; rw [if_neg dec,hwn,if_pos (show nth v.g.voted k false=true from vd)])
   rw [hp,if_pos rfl,z3b hn]
   exact ⟨Left.refl (H.mono (by omega)) hn k,fun q=>absurd q hE,fun _ _ a=>absurd a dec,fun _ _ _ _=>vd⟩
  obtain ⟨w,hww⟩:∃ w,nth cc.images k []=w:=⟨_,rfl⟩
  rw [hww] at hw w1 w2 w3 Cm1
  obtain ⟨im,him⟩:∃ im,(nth cc.r.targets k ⟨0,0,0⟩).image=im:=⟨_,rfl⟩
  rw [him] at Cm1 Cm2 Cm3
  obtain ⟨n,hnn⟩:∃ n,(ofG v.g.f).n=n:=⟨_,rfl⟩
  have sm:=(z3p (k:Int) n w 6 0).1
  have hp:=go (z1p (k:Int) n w 6 0++[⟨2,(k:Int),n,(w.length:Int),im,[],false⟩]) (by
   unfold duesG imageM
   rw [if_neg dec,hwn,if_neg (show ¬ nth v.g.voted k false=true from vd),hww,if_neg (by omega),him,hnn]) (by rw [List.length_append,List.length_singleton]; omega)
  rw [hp] at A1 ⊢
  rw [if_pos rfl]
  have H1:=H.net A1
  obtain ⟨v1,hv1⟩:∃ v1:Vehicle,v1=⟨v.b,v.s,v.g,v.units,v.campaigns,z1p (k:Int) n w 6 0++[⟨2,(k:Int),n,(w.length:Int),im,[],false⟩],v.now⟩:=⟨_,rfl⟩
  simp only at H1 ⊢
  rw [← hv1] at H1 ⊢
  have n1:v1.net=z1p (k:Int) n w 6 0++[⟨2,(k:Int),n,(w.length:Int),im,[],false⟩]:=by rw [hv1]
  have m1:More v v1:=by rw [hv1]; exact ⟨rfl,rfl,rfl,rfl,rfl,rfl,rfl,rfl,id,id,fun _=>id,fun _=>id⟩
  have u1:∀ i,UU v1 i=UU v i:=fun i=>by rw [hv1]; rfl
  have b1:v1.b=v.b:=by rw [hv1]
  have l1:v1.units.length=v.units.length:=by rw [hv1]
  have g1:v1.g=v.g:=by rw [hv1]
  have byn:(TT v k).by_<n:=by
   rcases uI.by_ with q | q
   ·omega
   ·rw [hc] at q; cases q.1
  obtain ⟨o,ho,hso,_⟩:=z95 (z49 (UU v k).f)
  have pieces:∃ e' w',34≤e'∧z12 40 v1=z12 e' w'∧Tour first c (B+6) w'∧More v1 w'∧w'.net=[⟨2,(k:Int),n,(w.length:Int),im,[],false⟩]∧w'.g=v1.g∧(z0x v.b (UU w' k) ⟨2,(k:Int),n,(w.length:Int),im,[],false⟩).2=[⟨3,(k:Int),n,0,0,[],true⟩]∧∀ i,i≠k→UU w' i=UU v1 i:=by
   rcases hr with r0 | ⟨_,_,_,rn⟩
   ·have got:=hgot hE1 hc ha
    have hP:∀ j u,Heard (TT v k) n w o (min j w.length) u→j<w.length→Heard (TT v k) n w o (min (j+8) w.length) (z0x v.b u (pieceM (k:Int) n w j)).1:=fun j u hu hj=>by
     rw [Nat.min_eq_left (by omega)] at hu
     have lp:(slc w j (min (j+8) w.length)).length=min (j+8) w.length-j:=by simp only [slc,List.length_drop,List.length_take]; omega
     have q:=(zkf (b:=v.b) (p:=slc w j (min (j+8) w.length)) (m:=pieceM (k:Int) n w j) hu r0 byn (by omega) (by omega) ho hso rfl rfl rfl rfl (slc_ok w3 _ _) (by omega) (by omega) (fun i hi=>slc_at w j _ i (by omega))).1
     rw [lp,show j+(min (j+8) w.length-j)=min (j+8) w.length by omega] at q
     exact q
    have h0:Heard (TT v k) n w o (min 0 w.length) (UU v1 k):=by
     rw [u1]
     exact ⟨z6w cu,zcv cu,fu,up,rfl,fun _=>got,fun h=>by simp at h⟩
    obtain ⟨e',w',q1,q2,q3,q4,q5,q6,⟨jj,q7,q7'⟩,q8⟩:=z5n (b:=v.b) (P:=fun j u=>Heard (TT v k) n w o (min j w.length) u) hP 6 0 v1 B H1 b1 (by omega) n1 (by omega) (by omega) h0 (by omega) 34
    rw [Nat.min_eq_right q7] at q7'
    have gw:=(q3.uu k (by rw [q4.len,l1]; exact hk)).2.2
    exact ⟨e',w',q1,q2,q3,q4,q5,q6,zes (b:=v.b) (m:=⟨2,(k:Int),n,(w.length:Int),im,[],false⟩) q7' r0 byn (by omega) ho hso rfl rfl rfl rfl w3 (by omega) (by omega) Cm2 Cm3 Cm1 (by omega) (by omega),q8⟩
   ·have hP:∀ j u,u=UU v k→j<w.length→(z0x v.b u (pieceM (k:Int) n w j)).1=UU v k:=fun j u hu _=>by
     rw [hu]
     unfold z0x
     rw [if_pos up,if_pos (show (pieceM (k:Int) n w j).kind=1 from rfl)]
     show pieceU (UU v k) (TT v k) (pieceM (k:Int) n w j)=UU v k
     unfold pieceU
     rw [if_pos (.inl (by omega))]
    obtain ⟨e',w',q1,q2,q3,q4,q5,q6,⟨jj,q7,q7'⟩,q8⟩:=z5n (b:=v.b) (P:=fun _ u=>u=UU v k) (fun j u h hj=>hP j u h hj) 6 0 v1 B H1 b1 (by omega) n1 (by omega) (by omega) (u1 k) (by omega) 34
    refine ⟨e',w',q1,q2,q3,q4,q5,q6,?_,q8⟩
    rw [q7']
    unfold z0x
    rw [if_pos up,if_neg (show ¬ (2:Int)=1 by omega),if_pos rfl]
    show (prepareU v.b (UU v k) (TT v k) _).2=_
    unfold prepareU
    rw [if_neg (show ¬ n≤(TT v k).by_ by omega),if_pos (show (TT v k).ready=n by omega)]
    rfl
  obtain ⟨e',w',q1,q2,q3,q4,q5,q6,q7,q8⟩:=pieces
  obtain ⟨e,rfl⟩:∃ e,e'=e+2:=⟨e'-2,by omega⟩
  rw [q2,z2t q3.vi q5 (e+1)]
  have hkw:k<w'.units.length:=by rw [q4.len,l1]; exact hk
  obtain ⟨H2,M2⟩:=q3.arrive (by omega) q5 (by simp)
  have bw:w'.b=v.b:=q4.b.trans b1
  have e2:=z3x q3.vi q5 rfl (by rw [show (⟨2,(k:Int),n,(w.length:Int),im,[],false⟩:Message).unit.toNat=k from hwn,bw,q7]; simp)
  rw [show (⟨2,(k:Int),n,(w.length:Int),im,[],false⟩:Message).unit.toNat=k from hwn,bw,q7] at e2
  obtain ⟨v2,hv2⟩:∃ v2,z0v w' 0=v2:=⟨_,rfl⟩
  rw [hv2] at e2 H2 M2 ⊢
  have n2:v2.net=⟨3,(k:Int),n,0,0,[],true⟩::[]:=by rw [e2]; rfl
  have g2:v2.g=v.g:=by rw [e2]; exact q6.trans g1
  rw [z2t H2.vi n2 e]
  obtain ⟨H3,M3⟩:=H2.arrive (by omega) n2 (by simp)
  have e3:=z40 H2.vi n2 rfl (by rw [z35 (by simp)]; simp)
  rw [z35 (by simp),g2] at e3
  obtain ⟨v3,hv3⟩:∃ v3,z0v v2 0=v3:=⟨_,rfl⟩
  rw [hv3] at e3 H3 M3 ⊢
  have n3:v3.net=[]:=by rw [e3]; rfl
  rw [z3b n3]
  refine ⟨⟨H3.mono (by omega),m1.trans (q4.trans (M2.trans M3)),n3,fun i hi=>?_⟩,fun q=>absurd q hE,fun _ _ a=>absurd a dec,fun _ _ _ _=>?_⟩
  ·have a:v3.units=w'.units.set k (z0x v.b (UU w' k) ⟨2,(k:Int),n,(w.length:Int),im,[],false⟩).1:=by rw [e3,e2]
   have b:UU v3 i=UU w' i:=by
    unfold UU
    rw [a,z4h _ _ _ _ _ hkw,if_neg hi]
   rw [b,q8 i hi,u1]
  ·rw [e3]
   have:=zjo (g:=v.g) (m:=⟨3,(k:Int),n,0,0,[],true⟩) I.w.g H.gu H.gf (by omega) rfl rfl hnn (by show 1≤n; omega) hE2 hc ha (by show ((k:Int)).toNat<_; omega)
   rw [show (⟨3,(k:Int),n,0,0,[],true⟩:Message).unit.toNat=k from hwn] at this
   exact this
end Vm
end Go.Proofs.YtlbppjmekiemiacGreatDoor

namespace Go.Proofs.YtlbppjmekiemiacGreatDoor
namespace Vm

variable {first:List (List Int)} {c:Int} {v:Vehicle} {B:Int}
theorem Tour.visit (H:Tour first c B v) (hB:B+13<60000) (hn:v.net=[]) {k:Nat} (hk:k<v.units.length) (hgot:(ofG v.g.f).n≠0→(ofG v.g.f).commit=false→(ofG v.g.f).abort=false→(UU v k).got=0) :
  Left first c (B+13) v (z2i (z2u v k) k) k ∧
  ((ofG v.g.f).n=0∨(ofG v.g.f).ended=true→(TT (z2i (z2u v k) k) k).ready=0) ∧
  ((ofG v.g.f).n≠0→(ofG v.g.f).commit=true∨(ofG v.g.f).abort=true→(ofG (z2i (z2u v k) k).g.f).ended=true∨(z2i (z2u v k) k).g.did.getD k false=true) ∧
  ((ofG v.g.f).n≠0→(ofG (z2i (z2u v k) k).g.f).commit=false→(ofG (z2i (z2u v k) k).g.f).abort=false→(z2i (z2u v k) k).g.voted.getD k false=true):=by
 obtain ⟨L1,g1,r1⟩:=H.ask (by omega) hn hk
 generalize z2u v k=a at *
 have cf:(ofG a.g.f).commit=false→(ofG v.g.f).commit=false:=fun q=>by
  cases e:(ofG v.g.f).commit
  ·rfl
  ·rw [L1.more.com e] at q; cases q
 obtain ⟨L2,p1,p2,p3⟩:=L1.tour.poke (by omega) L1.net (k:=k) (by rw [L1.more.len]; exact hk) (by
   rcases r1 with q | ⟨q,q1,q2,q3,q4⟩
   ·exact .inl q
   ·rw [q]; exact .inr ⟨q1,q2,q3,q4⟩) (fun x1 x2 x3=>g1 (hgot (by rw [← L1.more.n]; exact x1) (cf x2) (by rw [← L1.more.abo]; exact x3)))
 generalize z2i a k=w at *
 have M:=L1.more
 refine ⟨⟨L2.tour.mono (by omega),M.trans L2.more,L2.net,fun i hi=>(L2.oth i hi).trans (L1.oth i hi)⟩,fun h=>?_,fun x1 x2=>?_,fun x1 x2 x3=>?_⟩
 ·have e:w=a:=p1 (h.imp (fun q=>by rw [M.n]; exact q) M.fin)
  rw [e]
  rcases r1 with q | ⟨q,q1,q2,q3,q4⟩
  ·exact q
  ·rw [q]
   rcases h with h | h
   ·rw [q4,h]
   ·rw [q3] at h; cases h
 ·cases e:(ofG a.g.f).ended
  ·exact .inr (p2 (by rw [M.n]; exact x1) e (x2.imp M.com (fun q=>by rw [M.abo]; exact q)))
  ·exact .inl (L2.more.fin e)
 ·have ca:(ofG a.g.f).commit=false:=by
   cases e:(ofG a.g.f).commit
   ·rfl
   ·rw [L2.more.com e] at x2; cases x2
  have aa:(ofG a.g.f).abort=false:=by rw [← L2.more.abo]; exact x3
  refine p3 (by rw [M.n]; exact x1) ?_ ca aa
  cases e:(ofG a.g.f).ended
  ·rfl
  ·rcases (z24 a.g.f).fin e with q | q
   ·rw [ca] at q; cases q
   ·rw [aa] at q; cases q
theorem Tour.round:∀ (m k:Nat) (v:Vehicle) (B:Int),Tour first c B v→v.net=[]→k+m=v.units.length→B+13*m<60000 →
  ((ofG v.g.f).n≠0→(ofG v.g.f).commit=false→(ofG v.g.f).abort=false→∀ i,k≤i→i<v.units.length→(UU v i).got=0) →
  Tour first c (B+13*m) (z18 m k v)∧More v (z18 m k v)∧(z18 m k v).net=[]∧(∀ i,i<k→UU (z18 m k v) i=UU v i) ∧
  ((ofG v.g.f).n=0∨(ofG v.g.f).ended=true→∀ i,k≤i→i<v.units.length→(TT (z18 m k v) i).ready=0) ∧
  ((ofG v.g.f).n≠0→(ofG v.g.f).commit=true∨(ofG v.g.f).abort=true→(ofG (z18 m k v).g.f).ended=true∨∀ i,k≤i→i<v.units.length→(z18 m k v).g.did.getD i false=true) ∧
  ((ofG v.g.f).n≠0→(ofG (z18 m k v).g.f).commit=false→(ofG (z18 m k v).g.f).abort=false→∀ i,k≤i→i<v.units.length→(z18 m k v).g.voted.getD i false=true)
 | 0,k,v,B,H,hn,hk,hB,hg=>by
  refine ⟨H.mono (by omega),.refl v,hn,fun _ _=>rfl,fun _ i h1 h2=>?_,fun _ _=>.inr fun i h1 h2=>?_,fun _ _ _ i h1 h2=>?_⟩<;>omega
 | m+1,k,v,B,H,hn,hk,hB,hg=>by
  have hkN:k<v.units.length:=by omega
  obtain ⟨L,a1,b1,c1⟩:=H.visit (by omega) hn hkN (fun x y z=>hg x y z k (Nat.le_refl _) hkN)
  have er:z18 (m+1) (k:Int) v=z18 m ((k+1:Nat):Int) (z2i (z2u v k) k):=by
   show z18 m ((k:Int)+1) _=_
   rw [show (k:Int)+1=((k+1:Nat):Int) by omega]
  rw [er]
  generalize z2i (z2u v k) k=u at *
  have M:=L.more
  obtain ⟨H2,M2,n2,o2,a2,b2,c2⟩:=Tour.round m (k+1) u (B+13) L.tour L.net (by rw [M.len]; omega) (by omega) (fun x y z i h1 h2=>by
   rw [L.oth i (by omega)]
   refine hg (by rw [← M.n]; exact x) ?_ (by rw [← M.abo]; exact z) i (by omega) (by rw [← M.len]; exact h2)
   cases e:(ofG v.g.f).commit
   ·rfl
   ·rw [M.com e] at y; cases y)
  generalize z18 m ((k+1:Nat):Int) u=w at *
  refine ⟨H2.mono (by omega),M.trans M2,n2,fun i hi=>(o2 i (by omega)).trans (L.oth i (by omega)),fun h i h1 h2=>?_,fun x y=>?_,fun x y z i h1 h2=>?_⟩
  ·by_cases e:i=k
   ·rw [e]
    unfold TT
    rw [o2 k (by omega)]
    exact a1 h
   ·exact a2 (h.imp (fun q=>by rw [M.n]; exact q) M.fin) i (by omega) (by rw [M.len]; exact h2)
  ·rcases b2 (by rw [M.n]; exact x) (y.imp M.com (fun q=>by rw [M.abo]; exact q)) with q | q
   ·exact .inl q
   ·rcases b1 x y with p | p
    ·exact .inl (M2.fin p)
    ·refine .inr fun i h1 h2=>?_
     by_cases e:i=k
     ·rw [e]; exact M2.did k p
     ·exact q i (by omega) (by rw [M.len]; exact h2)
  ·have q:=c2 (by rw [M.n]; exact x) y z
   by_cases e:i=k
   ·rw [e]
    refine M2.vot k (c1 x ?_ (by rw [← M2.abo]; exact z))
    cases e2:(ofG u.g.f).commit
    ·rfl
    ·rw [M2.com e2] at y; cases y
   ·exact q i (by omega) (by rw [M.len]; exact h2)
theorem Tour.times (H:Tour first c B v) (hn:v.net=[]) (hB:B+208<60000) (hg:∀ i,i<v.units.length→(UU v i).got=0) :
  Tour first c (B+208) (z20 4 v)∧More v (z20 4 v)∧(z20 4 v).net=[]∧((ofG v.g.f).n=0∨(ofG (z20 4 v).g.f).ended=true)∧∀ i,i<v.units.length→(TT (z20 4 v) i).ready=0:=by
 have u4:=H.vi.w.units4.2
 have R:=fun (u:Vehicle) (B':Int) (K:Tour first c B' u) (kn:u.net=[]) (hl:u.units.length=v.units.length) (hB':B'+52<60000) (hg:(ofG u.g.f).n≠0→(ofG u.g.f).commit=false→(ofG u.g.f).abort=false→∀ i,0≤i→i<u.units.length→(UU u i).got=0)=>Tour.round (first:=first) (c:=c) u.units.length 0 u B' K kn (by omega) (by omega) hg
 show Tour first c (B+208) (z20 3 (z18 v.units.length ((0:Nat):Int) v))∧More v (z20 3 (z18 v.units.length ((0:Nat):Int) v))∧(z20 3 (z18 v.units.length ((0:Nat):Int) v)).net=[]∧((ofG v.g.f).n=0∨(ofG (z20 3 (z18 v.units.length ((0:Nat):Int) v)).g.f).ended=true)∧∀ i,i<v.units.length→(TT (z20 3 (z18 v.units.length ((0:Nat):Int) v)) i).ready=0
 obtain ⟨H1,M1,n1,_,_,_,c1⟩:=R v B H hn rfl (by omega) (fun _ _ _ i _ h=>hg i h)
 generalize z18 v.units.length ((0:Nat):Int) v=v1 at *
 have d1:(ofG v.g.f).n≠0→(ofG v1.g.f).commit=true∨(ofG v1.g.f).abort=true:=fun x=>by
  cases e1:(ofG v1.g.f).commit
  ·cases e2:(ofG v1.g.f).abort
   ·obtain ⟨k,k1,k2⟩:=H1.fv e1 e2
    rw [c1 x e1 e2 k (Nat.zero_le _) (by rw [← M1.len]; exact k1)] at k2
    cases k2
   ·exact .inr rfl
  ·exact .inl rfl
 have got1:∀ u,More v1 u→(ofG u.g.f).n≠0→(ofG u.g.f).commit=false→(ofG u.g.f).abort=false→∀ i,0≤i→i<u.units.length→(UU u i).got=0:=fun u M x y z=>by
  rcases d1 (by rw [← M1.n,← M.n]; exact x) with q | q
  ·rw [M.com q] at y; cases y
  ·rw [M.abo,q] at z; cases z
 show Tour first c (B+208) (z20 2 (z18 v1.units.length ((0:Nat):Int) v1))∧More v (z20 2 (z18 v1.units.length ((0:Nat):Int) v1))∧(z20 2 (z18 v1.units.length ((0:Nat):Int) v1)).net=[]∧((ofG v.g.f).n=0∨(ofG (z20 2 (z18 v1.units.length ((0:Nat):Int) v1)).g.f).ended=true)∧∀ i,i<v.units.length→(TT (z20 2 (z18 v1.units.length ((0:Nat):Int) v1)) i).ready=0
 obtain ⟨H2,M2,n2,_,_,b2,_⟩:=R v1 _ H1 n1 M1.len (by omega) (got1 v1 (.refl v1))
 generalize z18 v1.units.length ((0:Nat):Int) v1=v2 at *
 have d2:(ofG v.g.f).n=0∨(ofG v2.g.f).ended=true:=by
  by_cases x:(ofG v.g.f).n=0
  ·exact .inl x
  ·refine .inr ?_
   rcases b2 (by rw [M1.n]; exact x) (d1 x) with q | q
   ·exact q
   ·cases e:(ofG v2.g.f).ended
    ·obtain ⟨k,k1,k2⟩:=H2.fd e
     rw [q k (Nat.zero_le _) (by rw [← M2.len]; exact k1)] at k2
     cases k2
    ·rfl
 show Tour first c (B+208) (z20 1 (z18 v2.units.length ((0:Nat):Int) v2))∧More v (z20 1 (z18 v2.units.length ((0:Nat):Int) v2))∧(z20 1 (z18 v2.units.length ((0:Nat):Int) v2)).net=[]∧((ofG v.g.f).n=0∨(ofG (z20 1 (z18 v2.units.length ((0:Nat):Int) v2)).g.f).ended=true)∧∀ i,i<v.units.length→(TT (z20 1 (z18 v2.units.length ((0:Nat):Int) v2)) i).ready=0
 obtain ⟨H3,M3,n3,_⟩:=R v2 _ H2 n2 (M2.len.trans M1.len) (by have:=M1.len; have:=M2.len; omega) (got1 v2 M2)
 generalize z18 v2.units.length ((0:Nat):Int) v2=v3 at *
 show Tour first c (B+208) (z18 v3.units.length ((0:Nat):Int) v3)∧More v (z18 v3.units.length ((0:Nat):Int) v3)∧(z18 v3.units.length ((0:Nat):Int) v3).net=[]∧((ofG v.g.f).n=0∨(ofG (z18 v3.units.length ((0:Nat):Int) v3).g.f).ended=true)∧∀ i,i<v.units.length→(TT (z18 v3.units.length ((0:Nat):Int) v3) i).ready=0
 have M13:=M1.trans (M2.trans M3)
 have l3:v3.units.length=v.units.length:=M13.len
 have l1:=M1.len
 have l2:=(M1.trans M2).len
 obtain ⟨H4,M4,n4,_,a4,_⟩:=R v3 _ H3 n3 l3 (by omega) (got1 v3 (M2.trans M3))
 refine ⟨H4.mono (by omega),M13.trans M4,n4,d2.imp id (fun q=>M4.fin (M3.fin q)),fun i hi=>a4 ?_ i (Nat.zero_le _) (by omega)⟩
 rcases d2 with q | q
 ·exact .inl (by rw [M13.n]; exact q)
 ·exact .inr (M3.fin q)
structure Keep (v w:Vehicle):Prop where
 b:w.b=v.b
 s:w.s=v.s
 t:w.g.t=v.g.t
 cs:w.campaigns=v.campaigns
 now:w.now=v.now
 len:w.units.length=v.units.length
 n:(ofG w.g.f).n=(ofG v.g.f).n
 abo:(ofG w.g.f).abort=(ofG v.g.f).abort
 com:(ofG v.g.f).commit=true→(ofG w.g.f).commit=true
theorem Keep.trans {a b d:Vehicle} (h:Keep a b) (k:Keep b d):Keep a d :=
 ⟨k.b.trans h.b,k.s.trans h.s,k.t.trans h.t,k.cs.trans h.cs,k.now.trans h.now,k.len.trans h.len,k.n.trans h.n,k.abo.trans h.abo,fun q=>k.com (h.com q)⟩
theorem More.keep {a b:Vehicle} (h:More a b):Keep a b:=⟨h.b,h.s,h.t,h.cs,h.now,h.len,h.n,h.abo,h.com⟩
theorem zir:∀ (n:Nat) (v:Vehicle),VI first c v→v.net.length=n→VI first c (z3f n v)∧z3f n v=⟨v.b,v.s,v.g,v.units,v.campaigns,[],v.now⟩
 | 0,v,I,h=>by
  refine ⟨I,?_⟩
  show v=_
  rw [← List.length_eq_zero_iff.1 h]
 | n+1,v,I,h=>by
  have e:doneV v (happen 4 0 0)=dropM v 0:=by
   rw [I.doneV]
   have es:z0y v (happen 4 0 0)=(dropM v 0,0):=by
    unfold z0y happen netV
    rw [if_neg (show ¬ (4:Int)=1 by omega),if_pos (show (4:Int)=3∨(4:Int)=4∨(4:Int)=5 by omega),if_neg (show ¬ ((0:Int)<0∨(v.net.length:Int)≤0) by omega),if_neg (show ¬ (4:Int)=3 by omega),if_pos rfl]
    rfl
   rw [es,if_pos rfl]
  obtain ⟨a,b⟩:=zir n (dropM v 0) (I.drop 0) (by
   show (v.net.eraseIdx 0).length=n
   rw [List.length_eraseIdx_of_lt (by omega)]; omega)
  have el:z3f (n+1) v=z3f n (dropM v 0):=by
   show z3f n (doneV v (happen 4 0 0))=_
   rw [e]
  rw [el]
  exact ⟨a,b⟩
theorem zfz:∀ (m k:Nat) (v:Vehicle),VI first c v→k+m=v.units.length→VI first c (z32 m k v)∧(z32 m k v).g=v.g∧(z32 m k v).net=v.net∧Keep v (z32 m k v)∧(∀ i,i<k→UU (z32 m k v) i=UU v i)∧∀ i,k≤i→i<v.units.length→UU (z32 m k v) i=⟨⟨(UU v i).f.words,-1⟩,true,0,0⟩
 | 0,k,v,I,h=>⟨I,rfl,rfl,(More.refl v).keep,fun _ _=>rfl,fun i h1 h2=>by omega⟩
 | m+1,k,v,I,h=>by
  have hk:k<v.units.length:=by omega
  have cu:=I.ug k hk
  have es:z0y v (happen 7 k 0)=(Vm.setU v k (z4l (UU v k)).1,0):=by
   unfold z0y happen powerV
   rw [if_neg (show ¬ (7:Int)=1 by omega),if_neg (show ¬ ((7:Int)=3∨(7:Int)=4∨(7:Int)=5) by omega),if_pos (show (7:Int)=6∨(7:Int)=7 by omega),if_neg (show ¬ ((k:Int) < -1∨(v.units.length:Int)≤(k:Int)) by omega),if_neg (show ¬ ((7:Int)=6∧((0:Int)<0∨(100000:Int)<0)) by omega),if_neg (show ¬ (7:Int)=6 by omega),if_neg (show ¬ (k:Int)<0 by omega)]
   rfl
  have e:doneV v (happen 7 k 0)=Vm.setU v k (z4l (UU v k)).1:=by rw [I.doneV,es,if_pos rfl]
  have I1:VI first c (Vm.setU v k (z4l (UU v k)).1):=by
   have:=(I.power 7 k 0).1
   have ep:powerV v 7 k 0=(Vm.setU v k (z4l (UU v k)).1,0):=by rw [← es]; rfl
   rw [ep] at this
   exact this
  have el:z32 (m+1) (k:Int) v=z32 m ((k+1:Nat):Int) (Vm.setU v k (z4l (UU v k)).1):=by
   show z32 m ((k:Int)+1) (doneV v (happen 7 k 0))=_
   rw [e,show (k:Int)+1=((k+1:Nat):Int) by omega]
  have eu:=setU_T hk (z4l (UU v k)).1
  have ln:=z2w v k (z4l (UU v k)).1
  obtain ⟨a1,a2,a3,a4,a5,a6⟩:=zfz m (k+1) (Vm.setU v k (z4l (UU v k)).1) I1 (by rw [ln]; omega)
  rw [el]
  refine ⟨a1,a2,a3,Keep.trans (b:=Vm.setU v k (z4l (UU v k)).1) ⟨rfl,rfl,rfl,rfl,rfl,ln,rfl,rfl,id⟩ a4,fun i hi=>by rw [a5 i (by omega),eu,if_neg (by omega)],fun i h1 h2=>?_⟩
  by_cases q:i=k
  ·rw [q,a5 k (by omega),eu,if_pos rfl,z9u cu]
  ·rw [a6 i (by omega) (by rw [ln]; exact h2),eu,if_neg q]
def LowV (B:Int) (v:Vehicle):Prop:=z0k v.g.f.words≤B∧∀ k,k<v.units.length→z0k (UU v k).f.words≤B
theorem VI.tour (I:VI first c v) (hl:LowV B v) (hB:B+208<60000) :
  Tour first c (B+208) (z0p v 4)∧Keep v (z0p v 4)∧(z0p v 4).net=[]∧((ofG v.g.f).n=0∨(ofG (z0p v 4).g.f).ended=true)∧∀ i,i<v.units.length→(TT (z0p v 4) i).ready=0:=by
 unfold z0p
 obtain ⟨I0,e0⟩:=zir v.net.length v I rfl
 rw [e0] at I0 ⊢
 obtain ⟨v0,hv0⟩:∃ v0:Vehicle,v0=⟨v.b,v.s,v.g,v.units,v.campaigns,[],v.now⟩:=⟨_,rfl⟩
 rw [← hv0] at I0 ⊢
 have n0:v0.net=[]:=by rw [hv0]
 have u0:v0.units=v.units:=by rw [hv0]
 have g0:v0.g=v.g:=by rw [hv0]
 have K0:Keep v v0:=by rw [hv0]; exact ⟨rfl,rfl,rfl,rfl,rfl,rfl,rfl,rfl,id⟩
 have es:z0y v0 (happen 7 (-1) 0)=(bootsG v0,0):=by
  unfold z0y happen powerV
  rw [if_neg (show ¬ (7:Int)=1 by omega),if_neg (show ¬ ((7:Int)=3∨(7:Int)=4∨(7:Int)=5) by omega),if_pos (show (7:Int)=6∨(7:Int)=7 by omega),if_neg (show ¬ ((-1:Int) < -1∨(v0.units.length:Int)≤-1) by omega),if_neg (show ¬ ((7:Int)=6∧((0:Int)<0∨(100000:Int)<0)) by omega),if_neg (show ¬ (7:Int)=6 by omega),if_pos (show (-1:Int)<0 by omega)]
 have I1:VI first c (bootsG v0):=by
  have:=(I0.power 7 (-1) 0).1
  have ep:powerV v0 7 (-1) 0=(bootsG v0,0):=by rw [← es]; rfl
  rw [ep] at this
  exact this
 have el:z32 (v.units.length+1) (-1) v0=z32 v.units.length ((0:Nat):Int) (bootsG v0):=by
  show z32 v.units.length ((-1:Int)+1) (Vm.doneV v0 (happen 7 (-1) 0))=_
  rw [I0.doneV,es,if_pos rfl]
  rfl
 rw [el]
 have lb:(bootsG v0).units=v.units:=u0
 have cg:=I0.w.g
 have gb:(bootsG v0).g=⟨⟨v.g.f.words,-1⟩,true,v.g.t,zeros v.g.voted.length false,zeros v.g.did.length false⟩:=by
  unfold bootsG
  rw [z8h cg,g0]
 have sb:ofG (bootsG v0).g.f=ofG v.g.f:=by rw [gb]; exact zdl (z0n I.w.g).1
 have K1:Keep v0 (bootsG v0):=⟨rfl,rfl,by rw [gb,g0],rfl,rfl,rfl,by rw [sb,g0],by rw [sb,g0],fun q=>by rw [sb]; rw [g0] at q; exact q⟩
 obtain ⟨a1,a2,a3,a4,_,a6⟩:=zfz (first:=first) (c:=c) v.units.length 0 (bootsG v0) I1 (by rw [lb]; omega)
 generalize z32 v.units.length ((0:Nat):Int) (bootsG v0)=w at *
 have K:=K0.trans (K1.trans a4)
 have u4:=I.w.units4
 have wu:∀ i,i<v.units.length→UU w i=⟨⟨(UU v i).f.words,-1⟩,true,0,0⟩:=fun i hi=>by
  rw [a6 i (Nat.zero_le _) (by rw [lb]; exact hi)]
  unfold UU
  rw [lb]
 have wn:w.net=[]:=by rw [a3]; exact n0
 have T:Tour first c B w:=by
  refine ⟨a1,by rw [a2,gb],by rw [a2,gb],by rw [a2,gb]; exact hl.1,fun k hk=>?_,fun _ _=>⟨0,by rw [K.len]; omega,by rw [a2,gb]; exact z2v _ _⟩,fun _=>⟨0,by rw [K.len]; omega,by rw [a2,gb]; exact z2v _ _⟩⟩
  rw [K.len] at hk
  rw [wu k hk]
  exact ⟨rfl,rfl,hl.2 k hk⟩
 obtain ⟨b1,b2,b3,b4,b5⟩:=T.times wn hB (fun i hi=>by rw [wu i (by rw [← K.len]; exact hi)])
 have M:=b2
 refine ⟨b1,K.trans b2.keep,b3,?_,fun i hi=>b5 i (by rw [K.len]; exact hi)⟩
 rcases b4 with q | q
 ·exact .inl (by rw [← K.n]; exact q)
 ·exact .inr q
end Vm
end Go.Proofs.YtlbppjmekiemiacGreatDoor

namespace Go.Proofs.YtlbppjmekiemiacGreatDoor
namespace Vm

variable {first:List (List Int)} {c:Int} {v:Vehicle} {B:Int}
theorem zjv (g:Gate) (m:Message):z0k (z06 g m).1.f.words≤z0k g.f.words+1:=by
 have same:z0k g.f.words≤z0k g.f.words+1:=by omega
 unfold z06
 split
 case isFalse=>exact same
 unfold hearsS
 split
 ·split
  ·exact same
  ·show z0k (voteG g (ofG g.f) m.unit).f.words≤_
   unfold voteG
   split
   ·exact same
   ·exact z4p (g:=z29 g m.unit)
 split
 ·split
  ·exact same
  ·show z0k (doneG g (ofG g.f) m.unit).f.words≤_
   unfold doneG
   split
   ·exact same
   ·exact z4p (g:=didG g m.unit)
 split
 ·split<;>exact same
 ·exact same
theorem za3 {B':Int} (h:LowV B v) (hb:B≤B'):LowV B' v:=⟨by have:=h.1; omega,fun k hk=>by have:=h.2 k hk; omega⟩
theorem z38 (L:LowV B v) {w:Vehicle} (hu:w.units=v.units) (hg:z0k w.g.f.words≤B+1):LowV (B+1) w:=⟨hg,fun k hk=>by
 have:UU w k=UU v k:=by unfold UU; rw [hu]
 rw [this]
 rw [hu] at hk
 have:=L.2 k hk
 omega⟩
theorem ze2 (L:LowV B v) {w:Vehicle} {k:Nat} (hk:k<v.units.length) {x:UnitD} (hu:w.units=v.units.set k x) (hg:w.g=v.g) (hx:z0k x.f.words≤B+1):LowV (B+1) w:=by
 refine ⟨by rw [hg]; have:=L.1; omega,fun j hj=>?_⟩
 have e:UU w j=if j=k then x else UU v j:=by
  unfold UU
  rw [hu]
  exact z4h _ _ _ _ _ hk
 rw [e]
 split
 ·exact hx
 ·rw [hu,List.length_set] at hj
  have:=L.2 j hj
  omega
theorem VI.low (I:VI first c v) (L:LowV B v) {x:Happening} (h:(z0y v x).2=0):LowV (B+1) (z0y v x).1:=by
 have L1:LowV (B+1) v:=za3 L (by omega)
 have gl:=L.1
 unfold z0y at h ⊢
 by_cases c1:x.kind=1
 ·rw [if_pos c1] at h ⊢
  unfold z0w at h ⊢
  by_cases q:(beginV v x.o).2.2=0
  case neg=>rw [if_neg q]; exact L1
  rw [if_pos q]
  refine z38 L rfl ?_
  unfold beginV at q ⊢
  obtain ⟨_,_,_,_,_,g6⟩:=z48 q
  show z0k (beginG v.b v.s v.g x.o v.now).1.f.words≤_
  rw [g6]
  have:=z4p (g:=v.g) (r:=[1,(ofG v.g.f).n+1,x.o.r.version])
  unfold begunG
  split
  ·show z0k (z0o v.g [1,(ofG v.g.f).n+1,x.o.r.version]).1.f.words≤_
   omega
  ·show z0k (z0o v.g [1,(ofG v.g.f).n+1,x.o.r.version]).1.f.words≤_
   omega
 rw [if_neg c1] at h ⊢
 by_cases c2:x.kind=3∨x.kind=4∨x.kind=5
 ·rw [if_pos c2]
  unfold netV
  split
  ·exact L1
  rename_i q
  split
  ·have hk:x.k.toNat<v.net.length:=by omega
   obtain ⟨m,hm⟩:∃ m,v.net.getD x.k.toNat noMsg=m:=⟨_,rfl⟩
   have hmem:m∈v.net:=by rw [← hm]; exact z1g hk noMsg
   have M:=I.net m hmem
   have hu:=(I.w.msg m hmem).2
   obtain ⟨_,_,m3,m4,m5,m6,_⟩:=z1e M.ok
   show LowV (B+1) (z0v v x.k.toNat)
   unfold z0v
   rw [hm]
   split
   ·unfold arrivedG
    split
    case isFalse=>exact L1
    rename_i hh
    rw [(z9t hh).2.2]
    refine z38 L rfl ?_
    have:=zjv v.g m
    show z0k (z06 v.g m).1.f.words≤_
    omega
   ·unfold arrivedU
    split
    case isFalse=>exact L1
    rename_i hh
    rw [(zdd hh).2]
    have hkN:m.unit.toNat<v.units.length:=by omega
    have cu:=I.ug m.unit.toNat hkN
    have N:=(z7l (b:=v.b) (z6w cu) (zcv cu) (m:=m) ⟨m5,m6⟩).1
    refine ze2 L hkN (x:=(z0x v.b (UU v m.unit.toNat) m).1) rfl rfl ?_
    have:=N.gen
    have:=L.2 _ hkN
    omega
  split
  ·exact z38 L rfl (by show z0k v.g.f.words≤_; omega)
  split
  ·split
   ·exact L1
   ·exact z38 L rfl (by show z0k v.g.f.words≤_; omega)
  ·exact L1
 rw [if_neg c2] at h ⊢
 by_cases c3:x.kind=6∨x.kind=7
 ·rw [if_pos c3]
  unfold powerV
  split
  ·exact L1
  rename_i q
  split
  ·exact L1
  split
  ·split
   ·exact z38 L rfl (by show z0k v.g.f.words≤_; omega)
   ·have hkN:x.unit.toNat<v.units.length:=by omega
    have:=L.2 _ hkN
    exact ze2 L hkN (x:=fuelU (UU v x.unit.toNat) x.k) rfl rfl (by show z0k (UU v x.unit.toNat).f.words≤_; omega)
  split
  ·refine z38 L rfl ?_
   show z0k (bootG v.g).1.f.words≤_
   rw [z8h I.w.g]
   show z0k v.g.f.words≤_
   omega
  ·have hkN:x.unit.toNat<v.units.length:=by omega
   have:=L.2 _ hkN
   refine ze2 L hkN (x:=(z4l (UU v x.unit.toNat)).1) rfl rfl ?_
   rw [z9u (I.ug _ hkN)]
   show z0k (UU v x.unit.toNat).f.words≤_
   omega
 rw [if_neg c3] at h ⊢
 by_cases c4:x.kind=8
 ·rw [if_pos c4]
  unfold gaveV
  split
  ·rename_i hh
   rw [(z9x hh).2.2.2.2]
   refine z38 L rfl ?_
   have:=z4p (g:=v.g) (r:=[3,(ofG v.g.f).n])
   show z0k (z0o v.g [3,(ofG v.g.f).n]).1.f.words≤_
   omega
  ·exact L1
 rw [if_neg c4] at h ⊢
 by_cases c5:x.kind=2∨x.kind=9
 ·rw [if_pos c5]
  split
  ·exact L1
  split
  ·unfold pokeV
   split
   ·exact L1
   ·split
    ·exact z38 L rfl (by show z0k v.g.f.words≤_; omega)
    ·exact L1
  ·unfold asksV
   split
   ·split
    ·exact L1
    ·exact z38 L rfl (by show z0k v.g.f.words≤_; omega)
   ·exact L1
 rw [if_neg c5] at h ⊢
 by_cases c6:x.kind=10
 ·rw [if_pos c6]
  unfold tickV
  split
  ·exact L1
  ·exact z38 L rfl (by show z0k v.g.f.words≤_; omega)
 ·rw [if_neg c6]; exact L1
theorem VI.runs {P:Vehicle→Prop}:∀ (l:List Happening) (v:Vehicle) (c B:Int),VI first c v→LowV B v→P v→(∀ u x,OkW u→P u→x∈l→(z0y u x).2=0→P (z0y u x).1) →
  ∃ c',VI first c' (z45 v l).1∧LowV (B+l.length) (z45 v l).1∧P (z45 v l).1∧(z45 v l).1.units.length=v.units.length
 | [],v,c,B,I,L,p,_=>⟨c,I,za3 L (by simp),p,rfl⟩
 | x::l,v,c,B,I,L,p,hP=>by
  have el:((x::l).length:Int)=l.length+1:=by simp
  show ∃ c',VI first c' (z45 (if (z0y v x).2=0 then (z0y v x).1 else v) l).1∧LowV (B+((x::l).length:Int)) (z45 (if (z0y v x).2=0 then (z0y v x).1 else v) l).1∧P (z45 (if (z0y v x).2=0 then (z0y v x).1 else v) l).1∧(z45 (if (z0y v x).2=0 then (z0y v x).1 else v) l).1.units.length=v.units.length
  by_cases h:(z0y v x).2=0
  ·rw [if_pos h]
   obtain ⟨⟨c1,I1,_⟩,_⟩:=I.step h
   obtain ⟨c2,a,b,d,e⟩:=VI.runs l (z0y v x).1 c1 (B+1) I1 (I.low L h) (hP v x I.w p (List.mem_cons_self ..) h) (fun u y hu pu hy hh=>hP u y hu pu (List.mem_cons_of_mem _ hy) hh)
   exact ⟨c2,a,za3 b (by omega),d,e.trans (zce v x)⟩
  ·rw [if_neg h]
   obtain ⟨c2,a,b,d,e⟩:=VI.runs l v c B I L p (fun u y hu pu hy hh=>hP u y hu pu (List.mem_cons_of_mem _ hy) hh)
   exact ⟨c2,a,za3 b (by omega),d,e⟩
theorem runV_ok (I:VI first c v) {l:List Happening} (hl:l.length≤160):runV v l=((z45 v l).1,(z45 v l).2,0):=by
 unfold runV
 rw [if_pos (zc3 I.okV),if_neg (by omega)]
theorem Tour.rest (H:Tour first c B v) (hn:v.net=[]) (he:(ofG v.g.f).n=0∨(ofG v.g.f).ended=true):z1y v=true∧∃ Y,0≤Y∧((ofG v.g.f).commit=true→Y=(ofG v.g.f).n)∧∀ k,k<v.units.length→(TT v k).by_=Y:=by
 have I:=H.vi
 have rd:=z6n I.w.g
 refine ⟨?_,?_⟩
 ·unfold z1y
  rw [rd,hn]
  simp only [eqi,List.length_nil,Bool.and_eq_true,decide_eq_true_eq,Bool.or_eq_true]
  exact ⟨trivial,trivial,he⟩
 ·obtain ⟨b0,b1⟩:=I.base
  by_cases hc:(ofG v.g.f).commit=true
  ·refine ⟨(ofG v.g.f).n,(z24 v.g.f).n0,fun _=>rfl,fun k hk=>?_⟩
   rcases he with q | q
   ·rw [(z24 v.g.f).none q] at hc; cases hc
   ·exact (I.unit k hk).fin hc q
  ·refine ⟨c,b0,fun h=>absurd h hc,fun k hk=>(I.unit k hk).by_.resolve_right fun h=>hc h.1⟩
def lowF (v:Vehicle):Bool:=decide (z0k v.g.f.words≤100) && (List.range v.units.length).all fun k=>decide (z0k (UU v k).f.words≤100)
theorem lowF_ok (h:lowF v=true):LowV 100 v:=by
 unfold lowF at h
 simp only [Bool.and_eq_true,decide_eq_true_eq,List.all_eq_true] at h
 exact ⟨h.1,fun k hk=>h.2 k (List.mem_range.2 hk)⟩
end Vm
end Go.Proofs.YtlbppjmekiemiacGreatDoor

namespace Go.Proofs.YtlbppjmekiemiacGreatDoor
namespace Vm

variable {first:List (List Int)} {c:Int} {v:Vehicle} {B:Int}
def nameO (b:List (List UInt8)) (o:Offer):Int:=indexS (z1h o.r.version o.r.til o.r.targets) b+1
def goodO (n:Nat) (b:List (List UInt8)) (s:List Signed) (o:Offer):Bool :=
 decide (o.r.version=2) && (decide (z0i o.r.version o.r.til o.r.targets=0) && (decide (enough s facRoot o.sigs (nameO b o)=0) && (decide (o.r.targets.length=n) && (decide (o.images.length=n) && okImages b o.r.targets o.images))))
def badO (b:List (List UInt8)) (s:List Signed) (o:Offer):Bool:=decide (z0i o.r.version o.r.til o.r.targets=0) && decide (enough s facRoot o.sigs (nameO b o)=9)
def oneO (o:Offer):Bool:=decide (o.r.version=1∨o.r.version=2∨o.r.version=3)
def facGoes (n:Nat):Bool :=
 facTakes n 100 && (facHolds n 100 && (lowF (facN n 100).1 && ((facO n 100).all oneO && (goodO n (facN n 100).1.b (facN n 100).1.s (nth (facO n 100) 1 (Ty.dflt .offer)) && (badO (facN n 100).1.b (facN n 100).1.s (nth (facO n 100) 2 (Ty.dflt .offer)) && eqi (facN n 100).1.g.t.version 0)))))
theorem facGoes_1:facGoes 1=true:=by kernel_rfl
theorem facGoes_2:facGoes 2=true:=by kernel_rfl
theorem facGoes_3:facGoes 3=true:=by kernel_rfl
theorem facGoes_4:facGoes 4=true:=by kernel_rfl
theorem facGoes_n (units:Int):facGoes (Int.toNat (w64 ((1:Int)+units % 4)))=true:=zk4 (P:=fun n=>facGoes n=true) facGoes_1 facGoes_2 facGoes_3 facGoes_4 units
structure TrustI (b:List (List UInt8)) (s:List Signed) (v:Vehicle):Prop where
 b:v.b=b
 s:v.s=s
 r:v.g.t.r=facRoot
 n:v.g.t.version≤1
theorem zgn {b:List (List UInt8)} {s:List Signed} {x:Happening} (W:OkW v) (I:TrustI b s v) (hx:x.kind=1→offOk 100 b s x.o=true∧oneO x.o=true∧x.o.r.version≠2) (h:(z0y v x).2=0):TrustI b s (z0y v x).1:=by
 obtain ⟨sb,ss⟩:=step_b v x
 by_cases k:x.kind=1
 ·obtain ⟨x1,x2,x3⟩:=hx k
  have e:z0y v x=z0w v x.o:=if_pos k
  rw [e] at h
  have x1':offOk 100 v.b v.s x.o=true:=by rw [I.b,I.s]; exact x1
  refine ⟨sb.trans I.b,ss.trans I.s,by rw [e]; exact propose_r I.r x1' h,?_⟩
  rw [e]
  unfold z0w at h ⊢
  by_cases q:(beginV v x.o).2.2=0
  case neg=>rw [if_neg q] at h; exact absurd h q
  rw [if_pos q]
  unfold beginV at q ⊢
  obtain ⟨_,_,_,_,g5,g6⟩:=z48 q
  obtain ⟨y1,_,_⟩:=zi0 I.r x1' g5
  obtain ⟨_,_,_,_,_,y2,_⟩:=z6k g5
  show (beginG v.b v.s v.g x.o v.now).1.t.version≤1
  rw [g6]
  show (begunG v.g (ofG v.g.f) (takeT v.b v.s v.g.t x.o v.now v.g.voted.length).1 x.o.r.version).1.t.version≤1
  unfold begunG
  split
  ·show (takeT v.b v.s v.g.t x.o v.now v.g.voted.length).1.version≤1
   rw [y2]
   unfold oneO at x2
   have:=of_decide_eq_true x2
   omega
  ·rw [zfs]; exact I.n
 ·obtain ⟨_,n2⟩:=zk5 W.g k
  exact ⟨sb.trans I.b,ss.trans I.s,by rw [n2]; exact I.r,by rw [n2]; exact I.n⟩
theorem zd5 {b:List (List UInt8)} {l:List Signed} {t:Trust} {o:Offer} {now units:Int} (ht:checkTrust t=0) (h1:o.roots=[]) (h2:o.rootSigs=[]) :
  takeT b l t o now units=if relE b l t o now units=0 then (⟨t.r,o.r.version⟩,0) else (noTrust,relE b l t o now units):=by
 unfold takeT
 rw [if_pos ht,h1,h2,if_neg (by simp),zai]
 unfold takeEnd
 rw [if_pos rfl]
theorem Tour.offers (H:Tour first c B v) (he:(ofG v.g.f).n=0∨(ofG v.g.f).ended=true) (h8:(ofG v.g.f).n≠8) (hnow:v.now≤100) (hB:B<60000) (I:TrustI v.b v.s v) {o p:Offer} (o1:offOk 100 v.b v.s o=true) (p1:offOk 100 v.b v.s p=true) (o2:goodO v.units.length v.b v.s o=true) (p2:badO v.b v.s p=true) :
  (doV v ⟨1,0,0,p⟩).2=9∧(doV v ⟨1,0,0,o⟩).2=0∧(∃ c',VI first c' (doV v ⟨1,0,0,o⟩).1)∧(ofG (doV v ⟨1,0,0,o⟩).1.g.f).n=(ofG v.g.f).n+1∧(ofG (doV v ⟨1,0,0,o⟩).1.g.f).abort=false ∧
  (doV v ⟨1,0,0,o⟩).1.campaigns=v.campaigns++[⟨(ofG v.g.f).n+1,o.r,o.images⟩]∧(doV v ⟨1,0,0,o⟩).1.units=v.units:=by
 have V:=H.vi
 have cv:=zc3 V.okV
 have os:=z24 v.g.f
 have n0:=os.n0
 have n8:=os.n8
 have ct:=(z0n V.w.g).2.2.2.2
 have len:=V.len
 have hN:=V.w.n
 have upg:upG v.g=0:=by unfold upG; rw [if_pos V.w.g,if_pos H.gu]
 have notlate:¬ (0<(ofG v.g.f).n∧(ofG v.g.f).ended=false):=fun q=>by
  rcases he with e | e
  ·omega
  ·rw [e] at q; cases q.2
 have be:∀ x:Offer,beginE v.b v.s v.g x v.now=(takeT v.b v.s v.g.t x v.now v.g.voted.length).2:=fun x=>by
  unfold beginE
  rw [if_pos upg,if_neg notlate,if_neg h8]
 unfold offOk at o1 p1
 unfold goodO nameO at o2
 unfold badO nameO at p2
 simp only [Bool.and_eq_true,decide_eq_true_eq] at o1 p1 o2 p2
 obtain ⟨o11,o12,o13,_⟩:=o1
 obtain ⟨p11,p12,_⟩:=p1
 obtain ⟨o21,o22,o23,o24,o25,o26⟩:=o2
 obtain ⟨p21,p22⟩:=p2
 have vn:=I.n
 have t2:(takeT v.b v.s v.g.t o v.now v.g.voted.length)=(⟨v.g.t.r,o.r.version⟩,0):=by
  rw [zd5 ct o11 o12,if_pos]
  unfold relE
  rw [if_pos o22,if_pos V.w.b,I.r,if_pos o23,if_neg (by omega),if_neg (by omega),if_neg (by omega),if_pos o26]
 have t3:(takeT v.b v.s v.g.t p v.now v.g.voted.length).2=9:=by
  have e:relE v.b v.s v.g.t p v.now v.g.voted.length=9:=by
   unfold relE
   rw [if_pos p21,if_pos V.w.b,I.r,if_neg (by rw [p22]; omega),p22]
  rw [zd5 ct p11 p12,if_neg (by rw [e]; omega),e]
 have dp:(doV v ⟨1,0,0,p⟩).2=9:=by
  unfold doV
  rw [if_pos cv]
  have:(z0y v ⟨1,0,0,p⟩).2=9:=by
   unfold z0y
   rw [if_pos rfl]
   show (z0w v p).2=9
   have e:(beginV v p).2.2=9:=by
    unfold beginV beginG
    rw [be p,t3,if_neg (by omega)]
   unfold z0w
   rw [if_neg (by rw [e]; omega),e]
  rw [if_neg (by rw [this]; omega),this]
 have gl:=H.gl
 have hlog:=(z0n V.w.g).1
 have ok:(z0o v.g [1,(ofG v.g.f).n+1,o.r.version]).2=true:=z4o hlog H.gf (by omega) (z39 (by omega) (by omega) (by omega))
 have bg:(beginV v o)=((begunG v.g (ofG v.g.f) ⟨v.g.t.r,o.r.version⟩ o.r.version).1,(begunG v.g (ofG v.g.f) ⟨v.g.t.r,o.r.version⟩ o.r.version).2,0):=by
  unfold beginV beginG
  rw [be o,t2,if_pos rfl]
 have hs:(z0y v ⟨1,0,0,o⟩)=z0w v o:=by
  unfold z0y
  rw [if_pos rfl]
 have hp:(z0w v o).2=0:=by
  unfold z0w
  rw [bg,if_pos rfl]
 have dq:doV v ⟨1,0,0,o⟩=((z0w v o).1,0):=by
  unfold doV
  rw [if_pos cv,hs,if_pos hp]
 obtain ⟨⟨c',I',_⟩,_⟩:=V.propose hp
 obtain ⟨_,_,_,_,_,n6,_⟩:=z1f (r:=[1,(ofG v.g.f).n+1,o.r.version]) hlog
 have hs':ofG (z0o v.g [1,(ofG v.g.f).n+1,o.r.version]).1.f=⟨(ofG v.g.f).n+1,o.r.version,false,false,false⟩:=(n6 ok).1.trans (z5s (by omega) (by omega))
 have bb:begunG v.g (ofG v.g.f) ⟨v.g.t.r,o.r.version⟩ o.r.version=(⟨(z0o v.g [1,(ofG v.g.f).n+1,o.r.version]).1.f,(z0o v.g [1,(ofG v.g.f).n+1,o.r.version]).1.up,⟨v.g.t.r,o.r.version⟩,zeros v.g.voted.length false,zeros v.g.did.length false⟩,(ofG v.g.f).n+1):=by
  unfold begunG
  rw [if_pos ok]
 have pv:(z0w v o).1=⟨v.b,v.s,⟨(z0o v.g [1,(ofG v.g.f).n+1,o.r.version]).1.f,(z0o v.g [1,(ofG v.g.f).n+1,o.r.version]).1.up,⟨v.g.t.r,o.r.version⟩,zeros v.g.voted.length false,zeros v.g.did.length false⟩,v.units,campaignsV v.campaigns ((ofG v.g.f).n+1) o,v.net,v.now⟩:=by
  unfold z0w
  rw [bg,if_pos rfl,bb]
 have hcs:campaignsV v.campaigns ((ofG v.g.f).n+1) o=v.campaigns++[⟨(ofG v.g.f).n+1,o.r,o.images⟩]:=by
  unfold campaignsV
  rw [if_pos (by omega),List.take_of_length_le (by omega)]
 rw [dq]
 refine ⟨dp,rfl,⟨c',I'⟩,?_,?_,?_,?_⟩
 ·rw [pv]; show (ofG (z0o v.g [1,(ofG v.g.f).n+1,o.r.version]).1.f).n=_; rw [hs']
 ·rw [pv]; show (ofG (z0o v.g [1,(ofG v.g.f).n+1,o.r.version]).1.f).abort=_; rw [hs']
 ·rw [pv]; exact hcs
 ·rw [pv]
theorem goes_end {w:Vehicle} {n:Int} (hw:VI first c w) (hl:LowV B w) (hB:B+208<60000) (hn:(ofG w.g.f).n=n+1) (h0:0≤n) (ha:(ofG w.g.f).abort=false) {cs:List Campaign} {r:Release} {im:List (List Int)} (hcl:(cs.length:Int)=n) (hcs:w.campaigns=cs++[⟨n+1,r,im⟩]) :
  z1y (z0p w 4)=true∧(z0p w 4).units.length=w.units.length∧∀ k,k<w.units.length→readU (UU (z0p w 4) k)=(TT (z0p w 4) k,0)∧(TT (z0p w 4) k).by_=n+1∧(z5i (UU (z0p w 4) k)).2.2=0∧(z5i (UU (z0p w 4) k)).1=nth im k []∧(z5i (UU (z0p w 4) k)).1.length≤140737488355328:=by
 obtain ⟨T,K,tn,te,_⟩:=hw.tour hl hB
 generalize z0p w 4=t at *
 have he:(ofG t.g.f).ended=true:=by
  rcases te with q | q
  ·omega
  ·exact q
 obtain ⟨rs,Y,_,yc,yb⟩:=T.rest tn (.inr he)
 have hc:(ofG t.g.f).commit=true:=by
  rcases (z24 t.g.f).fin he with q | q
  ·exact q
  ·rw [K.abo,ha] at q; cases q
 have eY:Y=n+1:=by rw [yc hc,K.n,hn]
 refine ⟨rs,K.len,fun k hk=>?_⟩
 have hk':k<t.units.length:=by rw [K.len]; exact hk
 have by_:=yb k hk'
 have cu:=T.vi.ug k hk'
 have R:=(T.vi.cont k hk').run
 have ru:=runsU_ok cu
 have eb:(ofU (UU t k).f).by_=n+1:=by rw [← eY]; exact by_
 have ei:runsI first t.campaigns (ofU (UU t k).f).by_ k=nth im k []:=by
  rw [eb,K.cs,hcs]
  unfold runsI imgOf
  rw [if_neg (by omega),show (n+1-1).toNat=cs.length by omega,zf1]
 refine ⟨T.vi.reads hk',by rw [by_,eY],by rw [ru]; exact R.2,by rw [ru,R.1,ei],?_⟩
 rw [ru]
 exact zfl R.2
end Vm
end Go.Proofs.YtlbppjmekiemiacGreatDoor
