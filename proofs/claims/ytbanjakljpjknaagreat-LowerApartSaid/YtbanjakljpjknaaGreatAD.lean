import Derived.Test.YtbanjakljpjknaaGreatA1
import Derived.Laws.IdiomCopy
import Derived.Laws.Externs
import Derived.Deep.RegionHeld3
set_option linter.defProp false
namespace Go.V
open Go.RowKit
section
variable {P:Program} {ops:Array Oper} {Q:Exit->Act->World->Prop} {k n:Nat} {ds:List Deferred} {F F':PF} {w w':World}
def WR.appendK {dst:Option Tmp} {t e:TypeId} {sz by_:Nat} {zc:Array Value} {B:Nat} {ad xd:Option Addr} {m cap xm xcap:Nat} {cs news:List Value} (ho:Own w B e sz ad m cap cs) (hx:Rg w xd news)
  (hd:jk3 ops k n F=some (dst,t,.slice ad m cap,.slice xd xm xcap)) (hi:zt9 P t=some (e,sz,by_,zc)) (hl:news.length=xm*sz) (hsz:0<sz) (h1: ∀u∈news,u.oneCell'=true) (hB:B<=w.heap.size)
  (h63:m+xm<=9223372036854775807) (hby:(m+xm)*by_<=140737488355328) (hnil:xd=none->xm=0/\xcap=0)
  (K: ∀ad' cap' w',Own w' B e sz ad' (m+xm) cap' (cs++news)->Own w' B e sz ad m cap cs->Chg (ze5 ad) w w'->((ad'=ad/\cap'=cap)\/(w.heap.size<=bk ad'/\Chg [] w w'))->WR P ops Q (k+1) n ds (upd F dst (.slice ad' (m+xm) cap')) w'):WR P ops Q k n ds F w:=by
 obtain ⟨o,hdec,rfl,hrun⟩:=jh2 hd;obtain ⟨i,z,hu,hin,hz,rfl,rfl,rfl,hzs⟩:=zh6 hi;have hmc:=ho.le;have addE: ∀(b off j:Nat),(⟨b,off,none⟩:Addr).add j=⟨b,off+j,none⟩:=fun b off j=>by unfold Addr.add;split<;>simp_all
 by_cases hx0:xm=0
 ·
  subst hx0;have hn:news= []:=T9 (by simpa using hl);subst hn;have hr:(Builtin.append_ #[t,t] o.type #[.slice ad m cap,.slice xd 0 xcap]).run P w=.ok (.slice ad m cap) w:=by
   cases ad with
   |none=>
    cases xd with
    |none=>simp [Builtin.append_,run_underlying hu,sizeOf,typeInfo,hin,Builtin.lenOf,Builtin.firstCells,hmc.1]
    |some a=>simp [Builtin.append_,run_underlying hu,sizeOf,typeInfo,hin,Builtin.lenOf,Builtin.firstCells,loadCells,loadCellsFrom,hmc.1]
   |some g=>
    cases xd with
    |none=>simp [Builtin.append_,run_underlying hu,sizeOf,typeInfo,hin,Builtin.lenOf,Builtin.firstCells,storeCells,hmc.1]
    |some a=>simp [Builtin.append_,run_underlying hu,sizeOf,typeInfo,hin,Builtin.lenOf,Builtin.firstCells,loadCells,loadCellsFrom,storeCells,hmc.1]
  exact .val hdec (v:=.slice ad (m+0) cap) (w':=w) (by rw [hrun,hr];rfl) (K ad cap w (by simpa using ho) ho (Chg.refl _ _) (.inl ⟨rfl,rfl⟩))
 ·have hxm:0<xm:=by omega
  have hne:news≠ []:=by
   intro e;rw [e] at hl;have:=Nat.mul_pos hxm hsz;simp at hl;omega
  obtain ⟨b,off,rfl⟩: ∃b off,xd=some ⟨b,off,none⟩:=by
   cases news with
   |nil=>exact absurd rfl hne
   |cons u r=>exact ⟨_,_,(hx 0 u rfl).1⟩
  have hnews: ∀j v,news[j]?=some v->w.cell? ((⟨b,off,none⟩:Addr).add j)=some v:=fun j v hj=>by rw [addE];exact (hx j v hj).2
  have hlen:(cs++news).length=(m+xm)*i.size:=by rw [X9,ho.len,hl,U9]
  have grown: ∀(old:Nat),Own (w.drew.alloc (.cells (cs.toArray++news.toArray++Builtin.zeroCells z.cells (grownCap w (m+xm) old e-(m+xm))) e)) B e i.size (some ⟨w.heap.size,0,none⟩) (m+xm) (grownCap w (m+xm) old e) (cs++news):=by
   intro old;have hge:=grownCap_ge w (m+xm) old e;have hcm:grownCap w (m+xm) old e<=maxLen:=grownCap_le_maxLen w (m+xm) old e (by unfold maxLen;omega);refine ⟨hlen,.inr ⟨w.heap.size,_,_,rfl,hB,heap_alloc_new w.drew _,hge,hcm,?_,?_⟩⟩
   ·have hs:cs.length+news.length=(m+xm)*i.size:=by rw [<-List.length_append];exact hlen
    have:(m+xm)*i.size+(grownCap w (m+xm) old e-(m+xm))*i.size=grownCap w (m+xm) old e*i.size:=by rw [<-Nat.add_mul];congr 1;omega
    simp only [Array.size_append,N8,size_zeroCells,hzs];omega
   ·simp only [Array.toList_append,Q2];rw [<-List.append_assoc,<-hlen];exact List.take_left
  have hgc: ∀(old:Nat) (S:List Nat),Chg S w (w.drew.alloc (.cells (cs.toArray++news.toArray++Builtin.zeroCells z.cells (grownCap w (m+xm) old e-(m+xm))) e)):=
   fun old S=>⟨rfl,rfl,rfl,by simp,fun k hk _=>Below.heap_alloc w.drew _ k hk⟩
  rcases ho.cases with ⟨rfl,rfl,rfl,rfl⟩|⟨c',had,hBb,hbl,hmc',hcm',hcs,htk⟩
  ·have hr:=run_append_nil (P:=P) w t o.type e i z hu hin hz ⟨b,off,none⟩ xm xcap news hl hnews (by omega) (by omega) (by have hb:=hby;simp only [W9] at hb;omega);have hg:=grown 0;have hc:=hgc 0 (ze5 none);have hc0:=hgc 0 [];simp only [W9,M2,Array.empty_append] at hg hc hc0 hr;refine .val hdec (v:=.slice (some ⟨w.heap.size,0,none⟩) (0+xm) (grownCap w xm 0 e)) (by rw [hrun,hr,W9];rfl) (K _ _ _ (by simpa using hg) (Own.nil _ _ _ _) hc (.inr ⟨W6 _,hc0⟩))
  ·obtain ⟨g,rfl⟩: ∃g,ad=some ⟨g,0,none⟩:=⟨_,had⟩;by_cases hroom:m+xm<=cap
   ·have hfit:m*i.size+news.length<=c'.size:=by rw [hl,<-Nat.add_mul];exact W8 (Q9 _ hroom) hcs
    have hr:=run_append_room (P:=P) w t o.type e i hu hin g m cap c' hbl ⟨b,off,none⟩ xm xcap news hl hnews h1 hroom hfit;refine .val hdec (v:=.slice (some ⟨g,0,none⟩) (m+xm) cap) (by rw [hrun,hr];rfl) (K (some ⟨g,0,none⟩) cap _ ?_ ?_ ?_ (.inl ⟨rfl,rfl⟩))
    ·refine ⟨hlen,.inr ⟨g,cap,_,rfl,hBb,setRow_heap w g c' _ e _ hbl,hroom,hcm',?_,?_⟩⟩
     ·simp only [N8,X9,Y6,Q7,M0];omega
     ·rw [htk,<-hlen];exact List.take_left
    ·refine ⟨ho.1,.inr ⟨g,cap,_,rfl,hBb,setRow_heap w g c' _ e _ hbl,hmc',hcm',?_,?_⟩⟩
     ·simp only [N8,X9,Y6,Q7,M0];omega
     ·rw [htk,Q2,<-ho.1];exact List.take_left
    ·exact ⟨rfl,rfl,rfl,by simp,fun k _ hk=>setRow_other w g k _ (fun e=>hk (by simp [ze5,e]))⟩
   ·have holds: ∀j v,cs[j]?=some v->w.cell? ((⟨g,0,none⟩:Addr).add j)=some v:=fun j v hj=>by rw [addE];exact (ho.rg j v hj).2
    have hr:=run_append_grow (P:=P) w t o.type e i z hu hin hz ⟨g,0,none⟩ m cap cs ho.len holds ⟨b,off,none⟩ xm xcap news hl hnews (by omega) (by omega) (growslice_fits (by omega) hby);exact .val hdec (v:=.slice (some ⟨w.heap.size,0,none⟩) (m+xm) (grownCap w (m+xm) cap e)) (by rw [hrun,hr];rfl) (K _ _ _ (grown cap) (ho.pure (hgc cap [])) (hgc cap _) (.inr ⟨W6 _,hgc cap []⟩))
end
end Go.V
namespace Go.V
open Go.RowKit
structure RowA where
 ad:Option Addr
 len:Nat
 cap:Nat
def RowA.val (r:RowA):Value:=.slice r.ad r.len r.cap
def rb (L:List RowA):List Nat:=L.flatMap fun r=>ze5 r.ad
def yl9 {L:List RowA} {j:Nat} {r:RowA} (h:L[j]?=some r) {b:Nat} (a:b∈ze5 r.ad):b∈rb L:=V4.2 ⟨r,X6 h,a⟩
def Own.zero {w B e d f n a i} (h:Own w B e d f n a i):Own w 0 e d f n a i:=by
 obtain ⟨j,k|⟨g,b,c,l,t,o,p,q,r,s⟩⟩:=h
 ·exact ⟨j,.inl k⟩
 ·exact ⟨j,.inr ⟨g,b,c,l,U8 _,o,p,q,r,s⟩⟩
def Own.pre {w:World} {B:Nat} {e:TypeId} {sz:Nat} {ad:Option Addr} {n cap:Nat} {cs:List Value} (h:Own w B e sz ad n cap cs) {m:Nat} (hm:m<=n):Own w B e sz ad m cap (cs.take (m*sz)):=by
 have hl:=h.len;have hz:m*sz<=n*sz:=Q9 _ hm;rcases h.cases with ⟨rfl,rfl,rfl,rfl⟩|⟨c,had,hB,hb,hnc,hcm,hs,ht⟩
 ·grind
 ·obtain ⟨g,rfl⟩: ∃g,ad=some ⟨g,0,none⟩:=⟨_,had⟩;refine ⟨by rw [Y6,hl];omega,.inr ⟨g,cap,c,rfl,hB,hb,by omega,hcm,hs,?_⟩⟩
  grind
structure Mk where
 z:Nat
 ok:Nat->List Value->Nat->Prop
structure RowsA (w:World) (e:TypeId) (m:Mk) (K:Nat->Nat->Prop) (L:List RowA):Prop where
 own: ∀(j:Nat) (r:RowA),L[j]?=some r-> ∃c,Own w 0 e m.z r.ad r.len r.cap c/\ ∀q,K j q->q<r.len->m.ok j c q
 ap: ∀(i j:Nat) (r s:RowA),i≠j->L[i]?=some r->L[j]?=some s->Apart r.ad s.ad
section
variable {w w':World} {e:TypeId} {m:Mk} {K K':Nat->Nat->Prop} {L G:List RowA}
def RowsA.weak (h:RowsA w e m K L) (d: ∀(j q:Nat) (r:RowA),L[j]?=some r->q<r.len->K' j q->K j q):RowsA w e m K' L:=
 ⟨fun j r a=>by obtain ⟨c,f,g⟩:=h.own j r a;exact ⟨c,f,fun q i b=>g q (d j q r a b i) b⟩,h.ap⟩
def RowsA.chg (h:RowsA w e m K L) {S} (f:Chg S w w') (g: ∀b∈rb L,b∉S):RowsA w' e m K L:=
 ⟨fun j r d=>by
  obtain ⟨c,i,k⟩:=h.own j r d;refine ⟨c,i.chg f ?_,k⟩;cases had:r.ad with
  |none=>exact .inr rfl
  |some a=>exact .inl (g _ (yl9 d (by rw [had];exact Q5.2 rfl))),h.ap⟩
def RowsA.upd (h:RowsA w e m K L) {k:Nat} {r:RowA} (hk:L[k]?=some r) (hc:Chg (ze5 r.ad) w w') {c:List Value} (ho:Own w' 0 e m.z r.ad r.len r.cap c) (hm: ∀q,K' k q->q<r.len->m.ok k c q)
  (hK: ∀j q,j≠k->K' j q->K j q):RowsA w' e m K' L:=
 ⟨fun j s hj=>by
  by_cases hjk:j=k
  ·grind
  ·obtain ⟨c',h1,h2⟩:=h.own j s hj;exact ⟨c',h1.chg hc (h.ap j k s r hjk hj hk).off,fun q hq hl=>h2 q (hK j q hjk hq) hl⟩,h.ap⟩
def RowsA.lt (h:RowsA w e m K L) {b} (d:b∈rb L):b<w.heap.size:=by
 obtain ⟨r,g,d⟩:=V4.1 d;obtain ⟨j,i⟩:=List.getElem?_of_mem g;obtain ⟨c,k,_⟩:=h.own j r i;rcases k.ge with f|f
 ·rw [f] at d;cases d
 ·cases had:r.ad with
  |none=>rw [had] at d;cases d
  |some a=>rw [had] at d f;rw [Q5.1 d];exact f.2
structure Two (w:World) (B:Nat) (e:TypeId) (m:Mk) (K:Nat->Nat->Prop) (L G:List RowA):Prop where
 ls:RowsA w e m (fun _ _=>True) L
 gs:RowsA w e m K G
 x: ∀(i j:Nat) (r s:RowA),i≠j->G[i]?=some r->L[j]?=some s->Apart r.ad s.ad
 same: ∀(k:Nat) (r g:RowA),L[k]?=some r->G[k]?=some g->(g.ad=r.ad/\g.cap=r.cap/\r.len<=g.len)\/Apart g.ad r.ad
 ge: ∀(k:Nat) (r g:RowA),L[k]?=some r->G[k]?=some g->r.len<=g.len
 org: ∀b∈rb G,b∈rb L\/B<=b
def Two.start {B} (h:RowsA w e m (fun _ _=>True) L):Two w B e m K L []:=
 ⟨h,⟨fun j r a=>by simp at a,fun i j r s _ a=>by simp at a⟩,fun i j r s _ a=>by simp at a,fun k r g _ a=>by simp at a,fun k r g _ a=>by simp at a,fun b c=>by cases c⟩
def Two.chg {B} (h:Two w B e m K L G) {S} (a:Chg S w w') (c: ∀b∈rb L,b∉S) (d: ∀b∈rb G,b∉S):Two w' B e m K L G:=
 ⟨h.ls.chg a c,h.gs.chg a d,h.x,h.same,h.ge,h.org⟩
def Two.next {B:Nat} (h:Two w B e m K L G) {r:RowA} (hr:L[G.length]?=some r):Two w B e m K L (G++ [r]):=by
 have get: ∀j s,(G++ [r])[j]?=some s->(j<G.length/\G[j]?=some s)\/(j=G.length/\s=r):=by
  grind
 refine ⟨h.ls,⟨fun j s hs=>?_,fun i j s t hij hs ht=>?_⟩,fun i j s t hij hs ht=>?_,fun k s g hs hg=>?_,fun k s g hs hg=>?_,fun b hb=>?_⟩
 ·rcases get j s hs with ⟨_,h1⟩|⟨rfl,rfl⟩
  ·exact h.gs.own j s h1
  ·obtain ⟨c,h1,h2⟩:=h.ls.own _ _ hr
   grind
 ·rcases get i s hs with ⟨h1,h2⟩|⟨rfl,rfl⟩<;>rcases get j t ht with ⟨h3,h4⟩|⟨rfl,rfl⟩
  ·exact h.gs.ap i j s t hij h2 h4
  ·exact h.x i _ s _ hij h2 hr
  ·exact (h.x j _ t _ (Ne.symm hij) h4 hr).symm
  ·exact absurd rfl hij
 ·rcases get i s hs with ⟨h1,h2⟩|⟨rfl,rfl⟩
  ·exact h.x i j s t hij h2 ht
  ·exact h.ls.ap _ j _ t hij hr ht
 ·rcases get k g hg with ⟨h1,h2⟩|⟨rfl,rfl⟩
  ·exact h.same k s g hs h2
  ·grind
 ·rcases get k g hg with ⟨h1,h2⟩|⟨rfl,rfl⟩
  ·exact h.ge k s g hs h2
  ·grind
 ·unfold rb at hb;rw [J1,X4] at hb;rcases hb with hb|hb
  ·exact h.org b hb
  ·exact .inl (yl9 hr (by simpa using hb))
def Two.grow {B:Nat} {g:RowA} (h:Two w B e m K L (G++ [g])) {r:RowA} (hr:L[G.length]?=some r) {c c':List Value} {ad':Option Addr} {n' cap':Nat} (hB:B<=w.heap.size)
  (ho:Own w' 0 e m.z ad' n' cap' c') (hold:Own w' 0 e m.z g.ad g.len g.cap c) (hc0:Own w 0 e m.z g.ad g.len g.cap c) (hc:Chg (ze5 g.ad) w w') (had:(ad'=g.ad/\cap'=g.cap)\/(w.heap.size<=bk ad'/\Chg [] w w')) (hn:g.len<=n')
  (hm: ∀q,K' G.length q->q<n'->m.ok G.length c' q) (hK: ∀j q,j<G.length->K' j q->K j q):
  Two w' B e m K' L (G++ [⟨ad',n',cap'⟩]):=by
 have hgg:(G++ [g])[G.length]?=some g:=by rw [Z2 (W6 _)];simp
 have lift: ∀j s,j<G.length->G[j]?=some s->(G++ [g])[j]?=some s:=fun j s hj hs=>by rw [X8 hj];exact hs
 have get: ∀j s,(G++ [(⟨ad',n',cap'⟩:RowA)])[j]?=some s->(j<G.length/\G[j]?=some s)\/(j=G.length/\s=⟨ad',n',cap'⟩):=by
  grind
 have hls:RowsA w' e m (fun _ _=>True) L:=by
  refine ⟨fun j s hs=>?_,h.ls.ap⟩;obtain ⟨d,h1,h2⟩:=h.ls.own j s hs;by_cases hj:j=G.length
  ·subst hj;rw [hr] at hs;cases hs;rcases h.same _ _ _ hr hgg with ⟨e1,e2,e3⟩|hap
   ·have hp:=hold.pre e3;rw [e1,e2] at hp;refine ⟨_,hp,fun q hq hl=>?_⟩;have hp0:=hc0.pre e3;rw [e1,e2] at hp0;have hsame:d=c.take (r.len*m.z):=by
     have hl1:=h1.len;have hl2:=hp0.len;refine M1 fun q=>?_;rcases J9 q (r.len*m.z) with hq'|hq'
     ·have q1:=(h1.rg q d[q] (Y0 (by omega))).2;have q2:=(hp0.rg q (c.take (r.len*m.z))[q] (Y0 (by omega))).2;rw [q1] at q2;rw [Y0 (by omega),Y0 (by omega),X5 q2]
     ·rw [Y5 (by omega),Y5 (by omega)]
    rw [<-hsame];exact h2 q hq hl
   ·exact ⟨d,h1.chg hc hap.symm.off,h2⟩
  ·exact ⟨d,h1.chg hc (h.x _ j _ s (Ne.symm hj) hgg hs).symm.off,h2⟩
 have fresh: ∀(s:Option Addr),(∀b∈ze5 s,b<w.heap.size)->w.heap.size<=bk ad'->Apart ad' s:=by
  intro s hs hge;cases s with
  |none=>exact .inr (.inl rfl)
  |some a=>
   refine .inr (.inr fun e=>?_);have:=hs a.block (Q5.2 rfl);have e':bk ad'=a.block:=e;omega
 have apG: ∀i s,i<G.length->G[i]?=some s->Apart ad' s.ad:=by
  intro i s hi hs;rcases had with ⟨rfl,rfl⟩|⟨hge,_⟩
  ·exact h.gs.ap _ i _ _ (by omega) hgg (lift i s hi hs)
  ·exact fresh _ (fun b hb=>h.gs.lt (yl9 (lift i s hi hs) hb)) hge
 have apL: ∀j s,j≠G.length->L[j]?=some s->Apart ad' s.ad:=by
  intro j s hj hs;rcases had with ⟨rfl,rfl⟩|⟨hge,_⟩
  ·exact h.x _ j _ _ (Ne.symm hj) hgg hs
  ·exact fresh _ (fun b hb=>h.ls.lt (yl9 hs hb)) hge
 refine ⟨hls,⟨fun j s hs=>?_,fun i j s t hij hs ht=>?_⟩,fun i j s t hij hs ht=>?_,fun k s q hs hq=>?_,fun k s q hs hq=>?_,fun b hb=>?_⟩
 ·rcases get j s hs with ⟨h1,h2⟩|⟨rfl,rfl⟩
  ·obtain ⟨d,h3,h4⟩:=h.gs.own j s (lift j s h1 h2);exact ⟨d,h3.chg hc (h.gs.ap j _ s _ (by omega) (lift j s h1 h2) hgg).off,fun q hq hl=>h4 q (hK j q h1 hq) hl⟩
  ·exact ⟨c',ho,hm⟩
 ·rcases get i s hs with ⟨h1,h2⟩|⟨rfl,rfl⟩<;>rcases get j t ht with ⟨h3,h4⟩|⟨rfl,rfl⟩
  ·exact h.gs.ap i j s t hij (lift i s h1 h2) (lift j t h3 h4)
  ·exact (apG i s h1 h2).symm
  ·exact apG j t h3 h4
  ·exact absurd rfl hij
 ·rcases get i s hs with ⟨h1,h2⟩|⟨rfl,rfl⟩
  ·exact h.x i j s t hij (lift i s h1 h2) ht
  ·exact apL j t (Ne.symm hij) ht
 ·rcases get k q hq with ⟨h1,h2⟩|⟨rfl,rfl⟩
  ·exact h.same k s q hs (lift k q h1 h2)
  ·rw [hr] at hs;cases hs;rcases had with ⟨rfl,rfl⟩|⟨hge,_⟩
   ·rcases h.same _ _ _ hr hgg with ⟨e1,e2,e3⟩|hap
    ·exact .inl ⟨e1,e2,W8 e3 hn⟩
    ·exact .inr hap
   ·exact .inr (fresh _ (fun b hb=>h.ls.lt (yl9 hr hb)) hge)
 ·rcases get k q hq with ⟨h1,h2⟩|⟨rfl,rfl⟩
  ·exact h.ge k s q hs (lift k q h1 h2)
  ·rw [hr] at hs;cases hs;exact W8 (h.ge _ _ _ hr hgg) hn
 ·unfold rb at hb;rw [J1,X4] at hb;rcases hb with hb|hb
  ·exact h.org b (by unfold rb;rw [J1];exact X4.2 (.inl hb))
  ·have hb:b∈ze5 ad':=by simpa using hb
   rcases had with ⟨rfl,rfl⟩|⟨hge,_⟩
   ·exact h.org b (by unfold rb;rw [J1];exact X4.2 (.inr (by simpa using hb)))
   ·cases ad' with
    |none=>cases hb
    |some a=>
     rw [Q5.1 hb];exact .inr (W8 hB hge)
end
structure St (w:World) (B:Nat) (e rt:TypeId) (m:Mk) (K:Nat->Nat->Prop) (L G:List RowA) (lad:Option Addr) (gb:Nat):Prop where
 two:Two w B e m K L G
 lrd:Rg w lad (L.map RowA.val)
 gown: ∃vs,Own w 0 rt 1 (some ⟨gb,0,none⟩) L.length L.length vs/\ ∀(j:Nat) (g:RowA),G[j]?=some g->vs[j]?=some g.val
 lad:L= []\/(bk lad∉rb L/\bk lad<B/\bk lad≠gb)
 gad:gb∉rb L/\gb∉rb G/\B<=gb
section
variable {w w':World} {B:Nat} {e rt:TypeId} {m:Mk} {K K':Nat->Nat->Prop} {L G:List RowA} {lad:Option Addr} {gb:Nat}
def St.pure (h:St w B e rt m K L G lad gb) (a:Chg [] w w'):St w' B e rt m K L G lad gb:=
 ⟨h.two.chg a (by simp) (by simp),h.lrd.pure a,by obtain ⟨b,c,d⟩:=h.gown;exact ⟨b,c.pure a,d⟩,h.lad,h.gad⟩
def St.put (h:St w B e rt m K L G lad gb) {g:RowA} (h2:Two w B e m K L (G++ [g])) {vs:List Value} (hv: ∀(j:Nat) (g:RowA),G[j]?=some g->vs[j]?=some g.val) (hl:G.length<L.length) (hc:Chg [gb] w w') (ho:Own w' 0 rt 1 (some ⟨gb,0,none⟩) L.length L.length (vs.set G.length g.val)) (hvl:vs.length=L.length) (hg:gb∉ze5 g.ad):St w' B e rt m K L (G++ [g]) lad gb:=by
 have hG:gb∉rb (G++ [g]):=by
  unfold rb;rw [J1,X4]
  rintro (hb|hb)
  ·exact h.gad.2.1 hb
  ·exact hg (by simpa using hb)
 refine ⟨h2.chg hc (fun b hb hm=>?_) (fun b hb hm=>?_),h.lrd.chg hc ?_,⟨_,ho,fun j s hs=>?_⟩,h.lad,h.gad.1,hG,h.gad.2.2⟩
 ·rw [Q5.1 hm] at hb;exact h.gad.1 hb
 ·grind
 ·rcases h.lad with h0|⟨_,_,h3⟩
  ·exact .inr (by rw [h0];rfl)
  ·exact .inl (by simpa using h3)
 ·grind
def St.chg (h:St w B e rt m K L G lad gb) {S:List Nat} (hc:Chg S w w') (h1: ∀b∈rb L,b∉S) (h2: ∀b∈rb G,b∉S) (h3:gb∉S) (h4:L= []\/bk lad∉S):St w' B e rt m K L G lad gb:=by
 obtain ⟨vs,g1,g2⟩:=h.gown;refine ⟨h.two.chg hc h1 h2,h.lrd.chg hc ?_,⟨vs,g1.chg hc (.inl h3),g2⟩,h.lad,h.gad⟩
 grind
def St.again (h:St w B e rt m K L G lad gb):St w B e rt m K' L [] lad gb:=by
 obtain ⟨a,b,_⟩:=h.gown;exact ⟨.start h.two.ls,h.lrd,⟨a,b,fun j g c=>by simp at c⟩,h.lad,h.gad.1,(fun d=>by cases d),h.gad.2.2⟩
def St.made {c o} (h:RowsA w e m (fun _ _=>True) L) (p:Rg w lad (L.map RowA.val)) (q:Chg (rb L) c w) (d:Rg c lad (L.map RowA.val)) (a:L= []\/bk lad∉rb L) (b:New w w' gb (madeCells o (L.length*1)) rt) (r:L.length<=9223372036854775807):St w' c.heap.size e rt m K L [] lad gb:=by
 have f:c.heap.size<=gb:=W8 q.size b.fresh;refine ⟨.start (h.chg b.chg (by simp)),p.pure b.chg,⟨_,(Own.made b (W6 _) r).zero,fun j g s=>by simp at s⟩,?_,(fun i=>?_),(fun i=>by cases i),f⟩
 ·rcases a with a|a
  ·exact .inl a
  ·by_cases l:L= []
   ·exact .inl l
   ·have k:=d.lt (by cases L with|nil=>exact absurd rfl l|cons=>simp);exact .inr ⟨a,k,by omega⟩
 ·have:=h.lt i;have:=b.fresh;omega
def St.lt (h:St w B e rt m K L G lad gb):gb<w.heap.size:=by
 obtain ⟨c,b,_⟩:=h.gown;rcases b.ge with a|a
 ·cases a
 ·exact a.2
def St.newOff (h:St w B e rt m K L G lad gb) {a} (f:w.heap.size<=a):a∉rb L/\a∉rb G/\a≠gb/\(L= []\/bk lad≠a):=by
 refine ⟨fun b=>by have:=h.two.ls.lt b;omega,fun b=>by have:=h.two.gs.lt b;omega,by have:=h.lt;omega,?_⟩;by_cases c:L= []
 ·exact .inl c
 ·have d:=h.lrd.lt (by cases L with|nil=>exact absurd rfl c|cons=>simp);exact .inr (by omega)
def Two.init {g} (h:Two w B e m K L (G++ [g])):Two w B e m K L G:=by
 have a: ∀(j:Nat) (s:RowA),G[j]?=some s->(G++ [g])[j]?=some s:=fun j s c=>by rw [X8 (X2.1 c).1];exact c
 exact ⟨h.ls,⟨fun j s c=>h.gs.own j s (a j s c),fun i j s t d c f=>h.gs.ap i j s t d (a i s c) (a j t f)⟩,fun i j s t d c f=>h.x i j s t d (a i s c) f,fun k s q c l=>h.same k s q c (a k q l),fun k s q c l=>h.ge k s q c (a k q l),
  fun b o=>h.org b (by unfold rb;rw [J1];exact X4.2 (.inl o))⟩
structure Stg (w:World) (B:Nat) (e rt:TypeId) (m:Mk) (K:Nat->Nat->Prop) (L G:List RowA) (g:RowA) (lad:Option Addr) (gb:Nat):Prop where
 st:St w B e rt m K L G lad gb
 two:Two w B e m K L (G++ [g])
 off:gb∉ze5 g.ad
def Stg.next (h:St w B e rt m K L G lad gb) {r} (a:L[G.length]?=some r):Stg w B e rt m K L G r lad gb:=⟨h,h.two.next a,fun b=>h.gad.1 (yl9 a b)⟩
def Stg.pure {g} (h:Stg w B e rt m K L G g lad gb) (a:Chg [] w w'):Stg w' B e rt m K L G g lad gb:=⟨h.st.pure a,h.two.chg a (by simp) (by simp),h.off⟩
def Stg.last {g} (h:Stg w B e rt m K L G g lad gb): ∃c,Own w 0 e m.z g.ad g.len g.cap c/\ ∀q,K G.length q->q<g.len->m.ok G.length c q:=h.two.gs.own _ g (by rw [Z2 (W6 _)];simp)
def Stg.org {g} (h:Stg w B e rt m K L G g lad gb): ∀t∈ze5 g.ad,t∈rb L\/B<=t:=fun t a=>h.two.org t (yl9 (L:=G++ [g]) (j:=G.length) (r:=g) (by rw [Z2 (W6 _)];simp) a)
def Stg.grow {g:RowA} (h:Stg w B e rt m K L G g lad gb) {r:RowA} (hr:L[G.length]?=some r) {c c':List Value} {ad':Option Addr} {n' cap':Nat}
  (ho:Own w' 0 e m.z ad' n' cap' c') (hold:Own w' 0 e m.z g.ad g.len g.cap c) (hc0:Own w 0 e m.z g.ad g.len g.cap c) (hc:Chg (ze5 g.ad) w w') (had:(ad'=g.ad/\cap'=g.cap)\/(w.heap.size<=bk ad'/\Chg [] w w')) (hn:g.len<=n')
  (hm: ∀q,K G.length q->q<n'->m.ok G.length c' q):Stg w' B e rt m K L G ⟨ad',n',cap'⟩ lad gb:=by
 have hB:B<=w.heap.size:=by have:=h.st.lt;have:=h.st.gad.2.2;omega
 have h2:=h.two.grow (K':=K) hr hB ho hold hc0 hc had hn hm fun _ _ _ h=>h;obtain ⟨vs,g1,g2⟩:=h.st.gown;refine ⟨⟨h2.init,h.st.lrd.chg hc ?_,⟨vs,g1.chg hc (.inl h.off),g2⟩,h.st.lad,h.st.gad⟩,h2,?_⟩
 ·rcases h.st.lad with h0|⟨h1,h2,_⟩
  ·exact .inr (by rw [h0];rfl)
  ·refine .inl fun hb=>?_;rcases h.org _ hb with h3|h3
   ·exact h1 h3
   ·omega
 ·rcases had with ⟨rfl,rfl⟩|⟨hge,_⟩
  ·exact h.off
  ·cases ad' with
   |none=>exact fun hb=>by cases hb
   |some a=>
    intro hb;have hb:gb=a.block:=Q5.1 hb;have:=h.st.lt;have hge:w.heap.size<=a.block:=hge;omega
def Stg.put {g:RowA} (h:Stg w B e rt m K L G g lad gb) {a:List Value} (c: ∀(j:Nat) (g:RowA),G[j]?=some g->a[j]?=some g.val) (d:G.length<L.length) (f:Chg [gb] w w') (i:Own w' 0 rt 1 (some ⟨gb,0,none⟩) L.length L.length (a.set G.length g.val)) (b:a.length=L.length):St w' B e rt m K L (G++ [g]) lad gb:=
 h.st.put h.two c d f i b h.off
end
section
variable {P:Program} {Q:Exit->Act->World->Prop} {n:Nat} {ds:List Deferred} {F:PF} {w:World}
def CW.count {q:Type} {D g E:Code} {c id:Nat} (N:Nat) (J:Nat->q->World->Prop) (d:Nat->q->PF) (H:Nat->q->PF) (t:q) (O:J 0 t w) (l:List Nat) (R:F.keep l=d 0 t) (u:List Nat) (I: ∀i s b,PF.keep ((c,.bool b)::d i s) u=d i s)
  (j: ∀i s w Q,i<=N->J i s w->(∀a,Fr n ds ((c,.bool (decide ((i:Int)<(N:Int))))::d i s) a->Q .normal a w)->CW P D Q n ds (d i s) w)
  (k: ∀i s w Q,i<N->J i s w->(∀r w' a,J (i+1) r w'->Fr n ds (H i r) a->Q .normal a w')->CW P g Q n ds (d i s) w)
  (o: ∀i s w Q,i<N->(∀a,Fr n ds (d (i+1) s) a->Q .normal a w)->CW P E Q n ds (H i s) w)
  (K: ∀s w' a,J N s w'->Fr n ds (d N s) a->Q .normal a w'):CW P (.block id (.loop (.seq (.seq D (.cond (.tmp c) .skip (.exit id))) (.seq g E)))) Q n ds F w:=by
 refine CW.block (CW.loop (fun s:Nat×q=>fun w=>s.1<=N/\J s.1 s.2 w) (fun s=>d s.1 s.2) (fun s=>N-s.1) (0,t) ⟨U8 _,O⟩ l R ?_)
 rintro ⟨i,s⟩ w ⟨S,v⟩
 refine CW.seq fun Y x=>CW.seq fun Z y=>j i s w _ S v fun a f=>?_;refine go y ?_ a f;have z:ev ((c,Value.bool (decide ((i:Int)<(N:Int))))::d i s) (.tmp c)=some (.bool (decide ((i:Int)<(N:Int)))):=by
  show PF.get _ c=_;simp [PF.get]
 refine CW.cond (decide ((i:Int)<(N:Int))) z (fun T=>CW.skip fun a f=>?_) fun U=>CW.exit fun a f=>?_
 ·have p:i<N:=by have:=of_decide_eq_true T;omega
  refine go x ?_ a f;refine CW.keep u (I i s _) ?_;refine CW.seq fun K3 A=>k i s w _ p v fun r w' a C f=>?_;refine go A ?_ a f;exact o i r w' _ p fun a f=>⟨(i+1,r),⟨p,C⟩,by show N-(i+1)<N-i;omega,f⟩
 ·have V: ¬i<N:=fun h=>by have:=of_decide_eq_false U;omega
  have X:i=N:=by omega
  subst X;show Exit.inBlock id Q (.exit id) a w;simp only [Exit.inBlock,if_true];exact K s w a v (f.keep u (I i s _))
variable {ops:Array Oper}
def CW.zero {a b id c p q g s d} (f) (t: ∀Q,(∀a,Fr n ds f a->Q .normal a w)->WR P p Q 0 n ds F w) (u: ∀Q,(∀a,Fr n ds ((c,.bool false)::f) a->Q .normal a w)->WR P q Q 0 n ds f w)
  (l) (v:PF.keep ((c,.bool false)::f) l=F) (r) (i:f.keep r=f) (K:CW P d Q n ds F w):CW P (.seq (.seq (.region a p false) (.block id (.loop (.seq (.seq (.region b q false) (.cond (.tmp c) .skip (.exit id))) (.seq g s))))) d) Q n ds F w:=by
 refine CW.seq fun x j=>CW.seq fun z k=>CW.region (t _ fun a h=>go k ?_ a h);refine CW.block (CW.loop (fun (_:Unit) w'=>w'=w) (fun _=>f) (fun _=>0) () rfl r i ?_)
 ·rintro _ w' rfl
  refine CW.seq fun A y=>CW.seq fun C o=>CW.region (u _ fun a h=>go o ?_ a h);refine CW.no ?_ (CW.exit fun a h=>?_)
  ·show PF.get _ c=_;simp [PF.get]
  ·show Exit.inBlock id (Exit.then x Q) (.exit id) a _;simp only [Exit.inBlock,if_true];exact go j K a (h.keep l v)
def WR.sub {k} (b) (h:F.keep (b.map Prod.fst)=b) (K:WR P ops Q k n ds b w):WR P ops Q k n ds F w:=fun a c=>K a (c.keep _ h)
end
end Go.V
namespace Go.V
open Go.RowKit
section
variable {P:Program} {ops:Array Oper} {Q:Exit->Act->World->Prop} {k n:Nat} {ds:List Deferred} {F:PF} {w:World}
end
section
variable {P:Program} {Q:Exit->Act->World->Prop} {n:Nat} {ds:List Deferred} {F:PF} {w:World}
end
def kq1 (P:Program) (a b:Array Oper) (n s c:Nat) (F:PF) (w:World):Option ((PF×World)×(PF×World)×PF×PF×Bool):=
 match evK P a n 1 0 F w,evK P b n 4 0 (F++ [(s,.int .i64 0)]) w with
 |some (G,d),some (H,e)=>some ((G.keep ((F++ [(s,Value.int .i64 0)]).map Prod.fst),d),(H.keep (((c,Value.bool false)::(F++ [(s,Value.int .i64 0)])).map Prod.fst),e),PF.keep ((c,.bool false)::(F++ [(s,Value.int .i64 0)])) (F.map Prod.fst),(F++ [(s,Value.int .i64 0)]).keep ((F++ [(s,Value.int .i64 0)]).map Prod.fst),Nat.ble a.size 1&&Nat.ble b.size 4)
 |_,_=>none
section
variable {P:Program} {Q:Exit->Act->World->Prop} {n:Nat} {ds:List Deferred} {F:PF} {w:World}
def CW.zeroB {a b id:Nat} {oi oc:Array Oper} {body Rs rest:Code} (s c:Nat) (h:kq1 P oi oc n s c F w=some ((F++ [(s,.int .i64 0)],w),((c,.bool false)::(F++ [(s,.int .i64 0)]),w),F,F++ [(s,.int .i64 0)],true))
  (K:CW P rest Q n ds F w):CW P (.seq (.seq (.region a oi false) (.block id (.loop (.seq (.seq (.region b oc false) (.cond (.tmp c) .skip (.exit id))) (.seq body Rs))))) rest) Q n ds F w:=by
 unfold kq1 at h;split at h
 ·rename_i G w1 H w2 h1 h2;simp only [X0,X7,X3] at h;obtain ⟨⟨e1,rfl⟩,⟨e2,rfl⟩,e3,e4,e5,e6⟩:=h;refine CW.zero (F++ [(s,.int .i64 0)]) (fun Q hq=>WR.batch 1 _ ?_ (WR.fin e5 hq)) (fun Q hq=>WR.batch 4 _ ?_ (WR.fin e6 hq)) (F.map Prod.fst) e3 ((F++ [(s,Value.int .i64 0)]).map Prod.fst) e4 K
  ·grind
  ·grind
 ·cases h
end
def zg4 {P f r n a0 a1 b1 I a2 a3 b3 J a4 b4 K a5 b5 L a6 b6 N a7 A O c1 h R S T U V X Y Z B B1 S1 B3 S3 B4 S4 B5 S5 B6 S6} (w i s j d2 t e b l u m v o x p y) (hf:P.funcs[f]?=some r)
  (hb:r.body=some (.seq (.region a0 A false) (.seq (.seq (.region a1 O false) (.block I (.loop (.seq (.seq (.region b1 c1 false) (.cond (.tmp s) .skip (.exit I))) (.seq B1 S1))))) (.seq (.region a2 h false) (.seq (.seq (.region a3 R false) (.block J (.loop (.seq (.seq (.region b3 S false) (.cond (.tmp u) .skip (.exit J))) (.seq B3 S3))))) (.seq (.seq (.region a4 T false) (.block K (.loop (.seq (.seq (.region b4 U false) (.cond (.tmp v) .skip (.exit K))) (.seq B4 S4))))) (.seq (.seq (.region a5 V false) (.block L (.loop (.seq (.seq (.region b5 X false) (.cond (.tmp x) .skip (.exit L))) (.seq B5 S5))))) (.seq (.seq (.region a6 Y false) (.block N (.loop (.seq (.seq (.region b6 Z false) (.cond (.tmp y) .skip (.exit N))) (.seq B6 S6))))) (.seq (.region a7 B false) .ret)))))))))
  (C:r.ntmps=n)
  (hs:Nat.ble 1 n=true:=by kernel_rfl)
  (h0: ∀w,(match evK P A n 1 0 [(0,.slice none 0 0)] w with|some (G,c)=>some (G.keep [0],c)|none=>none)=some ([(0,.slice none 0 0)],w):=by intro w;kernel_rfl)
  (h1: ∀w,kq1 P O c1 n i s [(0,.slice none 0 0)] w=some (([(0,.slice none 0 0),(i,.int .i64 0)],w),([(s,.bool false),(0,.slice none 0 0),(i,.int .i64 0)],w),[(0,.slice none 0 0)],[(0,.slice none 0 0),(i,.int .i64 0)],true):=by intro w;kernel_rfl)
  (h2: ∀w,(match evK P h n 2 0 [(0,.slice none 0 0)] w with|some (G,c)=>some (G.keep [0,j],c)|none=>none)=some ([(0,.slice none 0 0),(j,.int .i64 0)],w):=by intro w;kernel_rfl)
  (hd:jc9 h 2 n [(0,.slice none 0 0),(j,.int .i64 0)]=some (some d2,t,.int .i64 0,.int .i64 0):=by kernel_rfl) (hi:zt9 P t=some (e,1,24,#[.slice none 0 0]):=by kernel_rfl)
  (h3: ∀w g,(match evK P h n 1 3 [(d2,.slice (some ⟨g,0,none⟩) 0 0),(0,.slice none 0 0),(j,.int .i64 0)] w with|some (G,c)=>some (G.keep [0,b],c)|none=>none)=some ([(0,.slice none 0 0),(b,.slice (some ⟨g,0,none⟩) 0 0)],w):=by intro w g;kernel_rfl)
  (h4: ∀w g,kq1 P R S n l u [(0,.slice none 0 0),(b,.slice (some ⟨g,0,none⟩) 0 0)] w=some (([(0,.slice none 0 0),(b,.slice (some ⟨g,0,none⟩) 0 0),(l,.int .i64 0)],w),([(u,.bool false),(0,.slice none 0 0),(b,.slice (some ⟨g,0,none⟩) 0 0),(l,.int .i64 0)],w),[(0,.slice none 0 0),(b,.slice (some ⟨g,0,none⟩) 0 0)],[(0,.slice none 0 0),(b,.slice (some ⟨g,0,none⟩) 0 0),(l,.int .i64 0)],true):=by intro w g;kernel_rfl)
  (h5: ∀w g,kq1 P T U n m v [(0,.slice none 0 0),(b,.slice (some ⟨g,0,none⟩) 0 0)] w=some (([(0,.slice none 0 0),(b,.slice (some ⟨g,0,none⟩) 0 0),(m,.int .i64 0)],w),([(v,.bool false),(0,.slice none 0 0),(b,.slice (some ⟨g,0,none⟩) 0 0),(m,.int .i64 0)],w),[(0,.slice none 0 0),(b,.slice (some ⟨g,0,none⟩) 0 0)],[(0,.slice none 0 0),(b,.slice (some ⟨g,0,none⟩) 0 0),(m,.int .i64 0)],true):=by intro w g;kernel_rfl)
  (h6: ∀w g,kq1 P V X n o x [(0,.slice none 0 0),(b,.slice (some ⟨g,0,none⟩) 0 0)] w=some (([(0,.slice none 0 0),(b,.slice (some ⟨g,0,none⟩) 0 0),(o,.int .i64 0)],w),([(x,.bool false),(0,.slice none 0 0),(b,.slice (some ⟨g,0,none⟩) 0 0),(o,.int .i64 0)],w),[(0,.slice none 0 0),(b,.slice (some ⟨g,0,none⟩) 0 0)],[(0,.slice none 0 0),(b,.slice (some ⟨g,0,none⟩) 0 0),(o,.int .i64 0)],true):=by intro w g;kernel_rfl)
  (h7: ∀w g,kq1 P Y Z n p y [(0,.slice none 0 0),(b,.slice (some ⟨g,0,none⟩) 0 0)] w=some (([(0,.slice none 0 0),(b,.slice (some ⟨g,0,none⟩) 0 0),(p,.int .i64 0)],w),([(y,.bool false),(0,.slice none 0 0),(b,.slice (some ⟨g,0,none⟩) 0 0),(p,.int .i64 0)],w),[(0,.slice none 0 0),(b,.slice (some ⟨g,0,none⟩) 0 0)],[(0,.slice none 0 0),(b,.slice (some ⟨g,0,none⟩) 0 0),(p,.int .i64 0)],true):=by intro w g;kernel_rfl)
  (h8: ∀w g,(match evK P B n 1 0 [(0,.slice none 0 0),(b,.slice (some ⟨g,0,none⟩) 0 0)] w with|some (G,c)=>some (G.keep [2],c)|none=>none)=some ([(2,.bool true)],w):=by intro w g;kernel_rfl)
  (hr:wg6 r [(2,.bool true)]=some (.bool true):=by kernel_rfl)
  (z:(Nat.ble A.size 1,Nat.ble h.size 4,Nat.ble B.size 1)=(true,true,true):=by kernel_rfl):Calls P f #[.slice none 0 0] w (zu2 w (.bool true)):=by
 simp only [X7] at z;refine zo6 hf hb C hs [0] (F:= [(0,.slice none 0 0)]) rfl ?_;refine CW.seq fun K1 D=>CW.region (WR.batch 1 [(0,.slice none 0 0)] (h0 w) (WR.fin z.1 fun a q=>go D ?_ a q));refine CW.zeroB i s (h1 w) ?_;refine CW.seq fun K2 E=>CW.region (WR.batch 2 [(0,.slice none 0 0),(j,.int .i64 0)] (h2 w) ?_);refine WR.make hd hi 0 0 rfl rfl (W6 _) (by omega) (by omega) fun g d C=>?_;refine WR.batch 1 [(0,.slice none 0 0),(b,.slice (some ⟨g,0,none⟩) 0 0)] (h3 d g) (WR.fin z.2.1 fun a q=>go E ?_ a q);refine CW.zeroB l u (h4 d g) (CW.zeroB m v (h5 d g) (CW.zeroB o x (h6 d g) (CW.zeroB p y (h7 d g) ?_)));refine CW.seq fun K3 H=>CW.region (WR.batch 1 [(2,.bool true)] (h8 d g) (WR.fin z.2.2 fun a q=>go H ?_ a q));exact CW.ret (ue4 (.bool true) hr ⟨C.chg,rfl⟩)
def vu8: ∀(a o c),(yj2 c o a).size=c.size
 | [],_,_=>rfl
 |v::r,o,c=>by unfold yj2;rw [vu8 r];simp
end Go.V
namespace Go.V
open Go.RowKit
def seg (z:Nat) (c:List Value) (q:Nat):List Value:=(c.drop (q*z)).take z
def vy4 (z:Nat) (c:List Value) (q:Nat) (a:List Value):List Value:=c.take (q*z)++a++c.drop (q*z+z)
abbrev mzG (z:Nat) (m:Nat->Nat->List Value):Mk:=⟨z,fun k c q=>seg z c q=m k q⟩
def ge7 {z:Nat} {c vs:List Value} {n q:Nat} (hc:c.length=n*z) (hq:q<n) (hv:vs.length=z):seg z (vy4 z c q vs) q=vs:=by
 have h:q*z+z<=n*z:=by rw [<-Nat.succ_mul];exact Q9 _ hq
 have hl:(c.take (q*z)).length=q*z:=by rw [Y6];omega
 unfold seg vy4
 grind
def qv1 {z:Nat} {c vs:List Value} {n q p:Nat} (hc:c.length=n*z) (hq:q<n) (hv:vs.length=z) (hp:p≠q):seg z (vy4 z c q vs) p=seg z c p:=by
 have h:q*z+z<=n*z:=by rw [<-Nat.succ_mul];exact Q9 _ hq
 have hl:(c.take (q*z)).length=q*z:=by rw [Y6];omega
 refine M1 fun x=>?_;unfold seg vy4;rw [Z3,Z3];split
 ·rename_i hx;rw [Q6,Q6,Q2];rcases J9 p q with hpq|hpq
  ·have:p*z+z<=q*z:=by rw [<-Nat.succ_mul];exact Q9 _ hpq
   grind
  ·have:q*z+z<=p*z:=by rw [<-Nat.succ_mul];exact Q9 _ (by omega)
   grind
 ·rfl
def vy3 {z:Nat} {c vs:List Value} {n q:Nat} (hc:c.length=n*z) (hq:q<n):seg z (c++vs) q=seg z c q:=by
 have h:q*z+z<=n*z:=by rw [<-Nat.succ_mul];exact Q9 _ hq
 refine M1 fun x=>?_;unfold seg
 grind
def vk7 {z c a n q} (b:c.length=n*z) (d:n<=q):seg z (c++a) q=seg z a (q-n):=by
 have h:n*z<=q*z:=Q9 _ d;unfold seg;rw [List.drop_append,N7 (by omega),M2,b,Nat.sub_mul]
def wh1 {z a} (b:a.length=z):seg z a 0=a:=by
 unfold seg;rw [M9,N6,Q4 (by omega)]
def ku7 {z:Nat} {c vs:List Value} {q:Nat} {u:Value} (h:u∈vy4 z c q vs):u∈c\/u∈vs:=by
 unfold vy4 at h
 grind
def ku4 {zc:Array Value} {n m:Nat} (hz: ∀u∈zc.toList,u.oneCell'=true) (h0:0<zc.size): ∀u∈(madeCells zc n).toList.take m,u.oneCell'=true:=fun u hu=>by
 have hu:=J6 hu;unfold madeCells at hu;rw [N0] at hu;obtain ⟨j,_,rfl⟩:=U5.1 hu;have hj:j%zc.size<zc.size:=Nat.mod_lt _ h0
 grind
section
variable {P:Program} {ops:Array Oper} {Q:Exit->Act->World->Prop} {C:World->Prop} {Qf:Act->Prop} {k n:Nat} {ds:List Deferred} {F:PF} {w:World}
def WR.storeG {t:TypeId} {B:Nat} {e:TypeId} {ad:Option Addr} {m cap z j o:Nat} {cs vs:List Value} (ho:Own w B e z ad m cap cs) (hd:zn6 ops k n F=some (t,.pointer (some ⟨bk ad,of ad+o,none⟩),.agg vs.toArray)) (hoj:o=j*z) (hs:yb2 P t=some z) (hl:vs.length=z) (h1: ∀v∈vs,v.oneCell'=true) (hz:0<z) (hj:j<m)
  (K: ∀w',Own w' B e z ad m cap (vy4 z cs j vs)->Chg (ze5 ad) w w'->WR P ops Q (k+1) n ds F w'):WR P ops Q k n ds F w:=by
 subst hoj;have hjz:j*z+z<=m*z:=by rw [<-Nat.succ_mul];exact Q9 _ hj
 rcases ho.cases with ⟨_,h0,_⟩|⟨c,had,hB,hb,hmc,hcm,hcs,htk⟩
 ·omega
 ·obtain ⟨g,rfl⟩: ∃g,ad=some ⟨g,0,none⟩:=⟨_,had⟩;simp only [bk,of,W9] at hd hb;have hmz:m*z<=c.size:=W8 (Q9 _ hmc) hcs;have hst:stv P t c (j*z) (.agg vs.toArray)=some (yj2 c (j*z) vs):=by
   unfold yb2 at hs;unfold stv;cases hin:P.info? t with
   |none=>rw [hin] at hs;cases hs
   |some inf=>
    rw [hin] at hs;have hs:inf.size=z:=by simpa using hs
    have e1:(Value.agg vs.toArray).cells=vs.toArray:=rfl;have hc:(Nat.beq (Value.agg vs.toArray).cells.size inf.size&&(Nat.ble (j*z+inf.size) c.size&&(Value.agg vs.toArray).cells.toList.all Value.oneCell'))=true:=by
     rw [e1,X3,X3];refine ⟨by rw [hs];simp [hl],W3 (by omega),?_⟩;rw [Y8];exact h1
    simp only [hc];rfl
  refine .store hb hd _ hst fun w' hb' hc=>K w' ?_ hc;refine Own.ofBlk hb' hB hmc (by have:=hcm;unfold maxLen at this;omega) (by rw [vu8];exact hcs) _ ?_;rw [jv2 vs (j*z) c (by omega),<-htk];unfold vy4;have hl0:(c.toList.take (j*z)).length=j*z:=by rw [Y6,M0];omega
  rw [Q2,Q2,List.take_append,List.take_append,hl0,hl,List.take_take,List.take_take,Nat.min_eq_right (by omega),J5 (by omega),List.drop_take,Q4 (l:=vs) (by omega)];congr 3;omega
def WQ.loadA {dst:Option Tmp} {t:TypeId} {ad:Option Addr} {j:Nat} {cs:List Value} {sz:Nat} (hr: ∀w,C w->Rg w ad cs) (hd:zp2 ops k n F=some (dst,t,.pointer (some ⟨bk ad,of ad+j,none⟩))) (ha:zk7 P t=false) (hu:(P.underlying t).isSome=true) (hs:yb2 P t=some sz) (vs:List Value) (hl:vs.length=sz) (hv:(cs.drop j).take sz=vs)
  (K:WQ P ops C Qf (k+1) n ds (upd F dst (.agg vs.toArray))):WQ P ops C Qf k n ds F:=by
 obtain ⟨op,hdec,rfl,he⟩:=zi9 hd;refine .step hdec (fun w hw=>?_) K;obtain ⟨d,hd'⟩:=N3.1 hu;have hag:ye3 d=true:=by
  unfold zk7 at ha;rw [hd'] at ha;cases d<;>first|rfl|cases ha
 have hs':(sizeOf t).run P w=.ok sz w:=by
  unfold yb2 at hs;cases hin:P.info? t with
  |none=>rw [hin] at hs;cases hs
  |some inf=>rw [hin] at hs;simp at hs;simp [sizeOf,typeInfo,hin,hs]
 have hc:=run_loadCells_list (P:=P) (w:=w) ⟨bk ad,of ad+j,none⟩ vs (fun i v hi=>by
  have hadd:(⟨bk ad,of ad+j,none⟩:Addr).add i=⟨bk ad,of ad+(j+i),none⟩:=by unfold Addr.add;split<;>simp_all [U2]
  rw [hadd];rw [<-hv,Z3] at hi;split at hi
  ·rw [Q6] at hi;exact (hr w hw (j+i) v hi).2
  ·cases hi)
 rw [hl] at hc;have hlv:(loadVar t ⟨bk ad,of ad+j,none⟩).run P w=.ok (.agg vs.toArray) w:=by
  unfold loadVar;rw [Sem.run_bind,zq0 hd',hag];simp only [Result.andThen_ok,if_true,Sem.run_bind,hs',hc,Sem.run_pure]
 rw [he];simp [Instr.loadAt,Instr.sureAddr,hlv,Oper.quietUpon]
end
end Go.V
namespace Go.V
open Go.RowKit
section
variable {P:Program} {ops:Array Oper} {Q:Exit->Act->World->Prop} {S:World->Prop} {i n fuel:Nat} {listed:Array Bool} {ds:List Deferred} {F:PF} {w:World}
def WH (P:Program) (ops:Array Oper) (Q:Exit->Act->World->Prop) (S:World->Prop) (fuel:Nat) (listed:Array Bool) (n:Nat) (ds:List Deferred) (F:PF) (w:World):Prop:=
 ∀a,Fr n ds F a->wpAnyH P .any ops (NoPanic Q) S fuel listed a w
def CW.regionH {id:Nat} (m:Nat) (S:World->Prop) (hf:Nat.beq ops.size m=true) (hm:P.follows .mixedOrders=true) (h: ∀w',Chg [] w w'->WH P ops Q S m (Array.replicate m false) n ds F w'):CW P (.region id ops true) Q n ds F w:=by
 have hf:=X1 hf;subst hf;exact fun a ha=>wp_region_noPanic (wp_region_held hm (h _ (Chg.drew w) a ha))
def gw0 (ops:Array Oper) (listed:Array Bool) (i:Nat):Bool:=Region.noSelect ops&&(Region.free .any ops listed i&&(Region.ready .any ops listed).contains i)
def WH.step (i:Nat) {o:Oper} {v:Value} (hc:gw0 ops listed i=true) (hS:S w) (hd:dec ops i n F=some o) (hy: ∀w',S w'->(execOp (evD F) o).run P w'=.ok (.value v) w') (K:WH P ops Q S fuel (listed.setIfInBounds i true) n ds (upd F o.dst v) w):WH P ops Q S (fuel+1) listed n ds F w:=by
 intro a ha;obtain ⟨ho,hdst,hs,hp,hw⟩:=zl1 hd;unfold gw0 at hc;simp only [X3] at hc;exact wpAnyH_take ho hc.1 hc.2.1 hc.2.2 (fun _ _ _ h=>h.elim) (.inl ⟨hw ha,fun w' hw'=>by rw [jn8 ha hs hp];exact hy w' hw'⟩) hS (K _ (ha.upd hdst v))
def WH.val (i:Nat) {dst:Option Tmp} (v:Value) (hc:gw0 ops listed i=true) (hS:S w) (hr: ∀w',zo7 P ops i n F w'=some (dst,.ok (.value v) w')) (K:WH P ops Q S fuel (listed.setIfInBounds i true) n ds (upd F dst v) w):WH P ops Q S (fuel+1) listed n ds F w:=by
 obtain ⟨o,hd,rfl,_⟩:=zj0 (hr w);refine .step i hc hS hd (fun w' _=>?_) K;obtain ⟨o',hd',_,hrun⟩:=zj0 (hr w');rw [hd] at hd';cases hd';exact hrun
def WH.index (i:Nat) {dst:Option Tmp} {t:TypeId} {ad:Option Addr} {m cap sz:Nat} {kk:IntKind} {x:Int} {cs:List Value} {w0:World} (hc:gw0 ops listed i=true) (hS:S w) (hr:Rg w0 ad cs) (hd:zq5 ops i n F=some (dst,t,.slice ad m cap,.int kk x)) (hsz:zm3 P t=some sz)
  (h0:0<=x) (hi:x<m) (hne:cs≠ []) (j:Nat) (hj:j=x.toNat*sz) (K:WH P ops Q S fuel (listed.setIfInBounds i true) n ds (upd F dst (.pointer (some ⟨bk ad,of ad+j,none⟩))) w):WH P ops Q S (fuel+1) listed n ds F w:=by
 subst hj;obtain ⟨b,o,rfl⟩: ∃b o,ad=some ⟨b,o,none⟩:=by
  cases cs with
  |nil=>exact absurd rfl hne
  |cons u r=>exact ⟨_,_,(hr 0 u rfl).1⟩
 obtain ⟨op,hdec,rfl,hrun⟩:=yh5 hd hsz h0 hi;exact .step i hc hS hdec (fun w _=>hrun w) K
def WH.load (i:Nat) {dst:Option Tmp} {t:TypeId} {a:Addr} (v:Value) (hc:gw0 ops listed i=true) (hS:S w) (hd:zp2 ops i n F=some (dst,t,.pointer (some a))) (hs:zk7 P t=true) (hv: ∀w,S w->w.cell? a=some v)
  (K:WH P ops Q S fuel (listed.setIfInBounds i true) n ds (upd F dst v) w):WH P ops Q S (fuel+1) listed n ds F w:=by
 obtain ⟨op,hdec,rfl,he⟩:=zi9 hd;refine .step i hc hS hdec (fun w hw=>?_) K;rw [he];simp [Instr.loadAt,Instr.sureAddr,zg9 hs (hv w hw)]
def WH.call (i:Nat) {dst:Option Tmp} {f:FuncId} {args:Array Value} {S0:List Nat} {R:Value->World->Prop} (hrd:Region.ready .any ops listed= [i]) (hr:zo7 P ops i n F w=some (dst,.ok (.enter f args) w)) (hc:Calls P f args w (Ret S0 w R))
  (K: ∀v w',Chg S0 w w'->R v w'->S w'/\WH P ops Q S fuel (listed.setIfInBounds i true) n ds (upd F dst v) w'):WH P ops Q S (fuel+1) listed n ds F w:=by
 intro a ha;obtain ⟨o,hd,rfl,hrun⟩:=zj0 hr;obtain ⟨ho,hdst,hs,hp,hw⟩:=zl1 hd;refine wpAnyH_all hrd (by simp) fun j hj=>?_;rw [Q5.1 hj];unfold wpOp;rw [ho];simp only [hw ha,if_true];refine .inl ?_;unfold Oper.wp;rw [jn8 ha hs hp,hrun];refine hc.mono fun e w'' hR=>?_;cases e with
 |returned v=>exact ⟨(K v w'' hR.1 hR.2).1,(K v w'' hR.1 hR.2).2 _ (ha.upd hdst v)⟩
 |panicked ch=>exact hR.elim
 |outgrown=>exact hR.elim
def WH.last (i:Nat) (hz:Nat.beq ops.size (i+1)=true) (hr:Region.ready .any ops listed= [i]) (hd:Region.ready .any ops (listed.setIfInBounds i true)= [])
  (h: ∀Q':Exit->Act->World->Prop,(∀a w',S w'->Q .normal a w'->Q' .normal a w')->WR P ops Q' i n ds F w):WH P ops Q S (fuel+1) listed n ds F w:=by
 intro a ha;have hz:=X1 hz;have hi:i<ops.toList.length:=by rw [M0];omega
 obtain ⟨o,ho⟩: ∃o,ops[i]?=some o:=⟨_,Z6 (by omega)⟩;have hl:ops.toList.drop i= [o]:=by
  rw [J8 hi,N7 (by rw [M0];omega)];have:ops.toList[i]?=some o:=by rw [Array.getElem?_toList];exact ho
  rw [Y0 hi] at this;cases this;rfl
 refine wpAnyH_all hr (by simp) fun j hj=>?_;rw [Q5.1 hj];have hw:=h (fun e a w=>match e with| .normal=>S w/\Q .normal a w|_=>False) (fun a w' hS hq=>⟨hS,hq⟩) a ha;rw [hl] at hw;unfold wpList at hw;unfold wpOp;rw [ho];have fin: ∀a w,wpList P ops (fun e a w=>match e with| .normal=>S w/\Q .normal a w|_=>False) [] a w->S w/\wpAnyH P .any ops (NoPanic Q) S fuel (listed.setIfInBounds i true) a w:=fun a w h=>⟨h.1,wpAnyH_done hd (NoPanic.normal h.2) _⟩;dsimp only;split at hw
 ·rename_i hwt;rw [if_pos hwt];rcases hw with hw|⟨_,hw⟩
  ·refine .inl ?_;unfold Oper.wp at hw⊢;generalize (execOp a.eval o).run P w=r at hw;cases r with
   |ok x w'=>
    cases x<;>simp only [Oper.upon] at hw⊢ <;>
     first
      |exact fin _ _ hw
      |exact Calls.mono hw (fun e w'' he=>by cases e<;>first|exact fin _ _ he|exact he.elim|exact (let ⟨_,_,h⟩:=he;h.elim))
      |exact Rows.mono hw (fun _ _ he=>fin _ _ he)
   |halt x w'=>cases x<;>simp only [Oper.upon] at hw⊢ <;>exact hw.elim
  ·obtain ⟨_,_,h⟩:=hw;exact h.elim
 ·rename_i hwt;rw [if_neg hwt];exact fin _ _ hw
end
end Go.V
