import Derived.Test.YtliopfopmhhdeaaGreatA1
import Derived.Laws.IdiomCopy
import Derived.Laws.Externs
set_option linter.defProp false
namespace Go.V
open Go.RowKit
section
variable {P:Program} {ops:Array Oper} {Q:Exit->Act->World->Prop} {k n:Nat} {ds:List Deferred} {F F':PF} {w w':World}
def WR.appendK {dst:Option Tmp} {t e:TypeId} {sz by_:Nat} {zc:Array Value} {B:Nat} {ad xd:Option Addr} {m cap xm xcap:Nat} {cs news:List Value} (ho:Own w B e sz ad m cap cs) (hx:Rg w xd news)
  (hd:jd2 ops k n F=some (dst,t,.slice ad m cap,.slice xd xm xcap)) (hi:zk6 P t=some (e,sz,by_,zc)) (hl:news.length=xm*sz) (hsz:0<sz) (h1: ∀u∈news,u.oneCell'=true) (hB:B<=w.heap.size)
  (h63:m+xm<=9223372036854775807) (hby:(m+xm)*by_<=140737488355328) (hnil:xd=none->xm=0/\xcap=0)
  (K: ∀ad' cap' w',Own w' B e sz ad' (m+xm) cap' (cs++news)->Own w' B e sz ad m cap cs->Chg (zb7 ad) w w'->((ad'=ad/\cap'=cap)\/(w.heap.size<=bk ad'/\Chg [] w w'))->WR P ops Q (k+1) n ds (upd F dst (.slice ad' (m+xm) cap')) w'):WR P ops Q k n ds F w:=by
 obtain ⟨o,hdec,rfl,hrun⟩:=ja6 hd;obtain ⟨i,z,hu,hin,hz,rfl,rfl,rfl,hzs⟩:=zb3 hi;have hmc:=ho.le;have addE: ∀(b off j:Nat),(⟨b,off,none⟩:Addr).add j=⟨b,off+j,none⟩:=fun b off j=>by unfold Addr.add;split<;>simp_all
 by_cases hx0:xm=0
 ·
  subst hx0;have hn:news= []:=T9 (by simpa using hl);subst hn;have hr:(Builtin.append_ #[t,t] o.type #[.slice ad m cap,.slice xd 0 xcap]).run P w=.ok (.slice ad m cap) w:=by
   cases ad with
   |none=>
    cases xd with
    |none=>simp [Builtin.append_,run_underlying hu,sizeOf,typeInfo,hin,Builtin.lenOf,Builtin.firstCells,hmc.1]
    |some a=>simp [Builtin.append_,run_underlying hu,sizeOf,typeInfo,hin,Builtin.lenOf,Builtin.firstCells,loadCells,loadCellsFrom,hmc.1]
   |some g=>
    cases xd with
    |none=>simp [Builtin.append_,run_underlying hu,sizeOf,typeInfo,hin,Builtin.lenOf,Builtin.firstCells,storeCells,hmc.1]
    |some a=>simp [Builtin.append_,run_underlying hu,sizeOf,typeInfo,hin,Builtin.lenOf,Builtin.firstCells,loadCells,loadCellsFrom,storeCells,hmc.1]
  exact .val hdec (v:=.slice ad (m+0) cap) (w':=w) (by rw [hrun,hr];rfl) (K ad cap w (by simpa using ho) ho (Chg.refl _ _) (.inl ⟨rfl,rfl⟩))
 ·have hxm:0<xm:=by omega
  have hne:news≠ []:=by
   intro e;rw [e] at hl;have:=Nat.mul_pos hxm hsz;simp at hl;omega
  obtain ⟨b,off,rfl⟩: ∃b off,xd=some ⟨b,off,none⟩:=by
   cases news with
   |nil=>exact absurd rfl hne
   |cons u r=>exact ⟨_,_,(hx 0 u rfl).1⟩
  have hnews: ∀j v,news[j]?=some v->w.cell? ((⟨b,off,none⟩:Addr).add j)=some v:=fun j v hj=>by rw [addE];exact (hx j v hj).2
  have hlen:(cs++news).length=(m+xm)*i.size:=by rw [X9,ho.len,hl,V8]
  have grown: ∀(old:Nat),Own (w.drew.alloc (.cells (cs.toArray++news.toArray++Builtin.zeroCells z.cells (grownCap w (m+xm) old e-(m+xm))) e)) B e i.size (some ⟨w.heap.size,0,none⟩) (m+xm) (grownCap w (m+xm) old e) (cs++news):=by
   intro old;have hge:=grownCap_ge w (m+xm) old e;have hcm:grownCap w (m+xm) old e<=maxLen:=grownCap_le_maxLen w (m+xm) old e (by unfold maxLen;omega);refine ⟨hlen,.inr ⟨w.heap.size,_,_,rfl,hB,heap_alloc_new w.drew _,hge,hcm,?_,?_⟩⟩
   ·have hs:cs.length+news.length=(m+xm)*i.size:=by rw [<-List.length_append];exact hlen
    have:(m+xm)*i.size+(grownCap w (m+xm) old e-(m+xm))*i.size=grownCap w (m+xm) old e*i.size:=by rw [<-Nat.add_mul];congr 1;omega
    simp only [Array.size_append,R5,size_zeroCells,hzs];omega
   ·simp only [Array.toList_append,Q2];rw [<-List.append_assoc,<-hlen];exact R3
  have hgc: ∀(old:Nat) (S:List Nat),Chg S w (w.drew.alloc (.cells (cs.toArray++news.toArray++Builtin.zeroCells z.cells (grownCap w (m+xm) old e-(m+xm))) e)):=
   fun old S=>⟨rfl,rfl,rfl,by simp,fun k hk _=>Below.heap_alloc w.drew _ k hk⟩
  rcases ho.cases with ⟨rfl,rfl,rfl,rfl⟩|⟨c',had,hBb,hbl,hmc',hcm',hcs,htk⟩
  ·have hr:=run_append_nil (P:=P) w t o.type e i z hu hin hz ⟨b,off,none⟩ xm xcap news hl hnews (by omega) (by omega) (by have hb:=hby;simp only [U0] at hb;omega);have hg:=grown 0;have hc:=hgc 0 (zb7 none);have hc0:=hgc 0 [];simp only [U0,M2,Array.empty_append] at hg hc hc0 hr;refine .val hdec (v:=.slice (some ⟨w.heap.size,0,none⟩) (0+xm) (grownCap w xm 0 e)) (by rw [hrun,hr,U0];rfl) (K _ _ _ (by simpa using hg) (Own.nil _ _ _ _) hc (.inr ⟨W8 _,hc0⟩))
  ·obtain ⟨g,rfl⟩: ∃g,ad=some ⟨g,0,none⟩:=⟨_,had⟩;by_cases hroom:m+xm<=cap
   ·have hfit:m*i.size+news.length<=c'.size:=by rw [hl,<-Nat.add_mul];exact W9 (Q9 _ hroom) hcs
    have hr:=run_append_room (P:=P) w t o.type e i hu hin g m cap c' hbl ⟨b,off,none⟩ xm xcap news hl hnews h1 hroom hfit;refine .val hdec (v:=.slice (some ⟨g,0,none⟩) (m+xm) cap) (by rw [hrun,hr];rfl) (K (some ⟨g,0,none⟩) cap _ ?_ ?_ ?_ (.inl ⟨rfl,rfl⟩))
    ·refine ⟨hlen,.inr ⟨g,cap,_,rfl,hBb,setRow_heap w g c' _ e _ hbl,hroom,hcm',?_,?_⟩⟩
     ·simp only [R5,X9,Y6,Q7,J9];omega
     ·rw [htk,<-hlen];exact R3
    ·refine ⟨ho.1,.inr ⟨g,cap,_,rfl,hBb,setRow_heap w g c' _ e _ hbl,hmc',hcm',?_,?_⟩⟩
     ·simp only [R5,X9,Y6,Q7,J9];omega
     ·rw [htk,Q2,<-ho.1];exact R3
    ·exact ⟨rfl,rfl,rfl,by simp,fun k _ hk=>setRow_other w g k _ (fun e=>hk (by simp [zb7,e]))⟩
   ·have holds: ∀j v,cs[j]?=some v->w.cell? ((⟨g,0,none⟩:Addr).add j)=some v:=fun j v hj=>by rw [addE];exact (ho.rg j v hj).2
    have hr:=run_append_grow (P:=P) w t o.type e i z hu hin hz ⟨g,0,none⟩ m cap cs ho.len holds ⟨b,off,none⟩ xm xcap news hl hnews (by omega) (by omega) (growslice_fits (by omega) hby);exact .val hdec (v:=.slice (some ⟨w.heap.size,0,none⟩) (m+xm) (grownCap w (m+xm) cap e)) (by rw [hrun,hr];rfl) (K _ _ _ (grown cap) (ho.pure (hgc cap [])) (hgc cap _) (.inr ⟨W8 _,hgc cap []⟩))
end
end Go.V
namespace Go.V
open Go.RowKit
structure RowA where
 ad:Option Addr
 len:Nat
 cap:Nat
def RowA.val (r:RowA):Value:=.slice r.ad r.len r.cap
def rb (L:List RowA):List Nat:=L.flatMap fun r=>zb7 r.ad
def yd9 {L:List RowA} {j:Nat} {r:RowA} (h:L[j]?=some r) {b:Nat} (hb:b∈zb7 r.ad):b∈rb L:=V7.2 ⟨r,X6 h,hb⟩
def Own.zero {w:World} {B:Nat} {e:TypeId} {sz:Nat} {ad:Option Addr} {n cap:Nat} {cs:List Value} (h:Own w B e sz ad n cap cs):Own w 0 e sz ad n cap cs:=by
 obtain ⟨h1,h2|⟨g,cap',c,h3,h4,h5,h6,h7,h8,h9⟩⟩:=h
 ·exact ⟨h1,.inl h2⟩
 ·exact ⟨h1,.inr ⟨g,cap',c,h3,U4 _,h5,h6,h7,h8,h9⟩⟩
def Own.pre {w:World} {B:Nat} {e:TypeId} {ad:Option Addr} {n cap:Nat} {cs:List Value} (h:Own w B e 1 ad n cap cs) {m:Nat} (hm:m<=n):Own w B e 1 ad m cap (cs.take m):=by
 have hl:=h.len;rcases h.cases with ⟨rfl,rfl,rfl,rfl⟩|⟨c,had,hB,hb,hnc,hcm,hs,ht⟩
 ·have:m=0:=by omega
  subst this;exact h
 ·obtain ⟨g,rfl⟩: ∃g,ad=some ⟨g,0,none⟩:=⟨_,had⟩;refine ⟨by rw [Y6,hl];omega,.inr ⟨g,cap,c,rfl,hB,hb,by omega,hcm,hs,?_⟩⟩;rw [<-ht,List.take_take];congr 1;omega
structure RowsA (w:World) (e:TypeId) (m:Nat->Nat->Value) (K:Nat->Nat->Prop) (L:List RowA):Prop where
 own: ∀(j:Nat) (r:RowA),L[j]?=some r-> ∃c,Own w 0 e 1 r.ad r.len r.cap c/\ ∀q,K j q->q<r.len->c[q]?=some (m j q)
 ap: ∀(i j:Nat) (r s:RowA),i≠j->L[i]?=some r->L[j]?=some s->Apart r.ad s.ad
section
variable {w w':World} {e:TypeId} {m:Nat->Nat->Value} {K K':Nat->Nat->Prop} {L G:List RowA}
def RowsA.weak (h:RowsA w e m K L) (hK: ∀(j q:Nat) (r:RowA),L[j]?=some r->q<r.len->K' j q->K j q):RowsA w e m K' L:=
 ⟨fun j r hj=>by obtain ⟨c,h1,h2⟩:=h.own j r hj;exact ⟨c,h1,fun q hq hl=>h2 q (hK j q r hj hl hq) hl⟩,h.ap⟩
def RowsA.chg (h:RowsA w e m K L) {S:List Nat} (hc:Chg S w w') (hS: ∀b∈rb L,b∉S):RowsA w' e m K L:=
 ⟨fun j r hj=>by
  obtain ⟨c,h1,h2⟩:=h.own j r hj;refine ⟨c,h1.chg hc ?_,h2⟩;cases had:r.ad with
  |none=>exact .inr rfl
  |some a=>exact .inl (hS _ (yd9 hj (by rw [had];exact Q5.2 rfl))),h.ap⟩
def RowsA.upd (h:RowsA w e m K L) {k:Nat} {r:RowA} (hk:L[k]?=some r) (hc:Chg (zb7 r.ad) w w') {c:List Value} (ho:Own w' 0 e 1 r.ad r.len r.cap c) (hm: ∀q,K' k q->q<r.len->c[q]?=some (m k q))
  (hK: ∀j q,j≠k->K' j q->K j q):RowsA w' e m K' L:=
 ⟨fun j s hj=>by
  by_cases hjk:j=k
  ·subst hjk;rw [hk] at hj;cases hj;exact ⟨c,ho,hm⟩
  ·obtain ⟨c',h1,h2⟩:=h.own j s hj;exact ⟨c',h1.chg hc (h.ap j k s r hjk hj hk).off,fun q hq hl=>h2 q (hK j q hjk hq) hl⟩,h.ap⟩
def RowsA.lt (h:RowsA w e m K L) {b:Nat} (hb:b∈rb L):b<w.heap.size:=by
 obtain ⟨r,hr,hb⟩:=V7.1 hb;obtain ⟨j,hj⟩:=List.getElem?_of_mem hr;obtain ⟨c,h1,_⟩:=h.own j r hj;rcases h1.ge with h2|h2
 ·rw [h2] at hb;cases hb
 ·cases had:r.ad with
  |none=>rw [had] at hb;cases hb
  |some a=>rw [had] at hb h2;rw [Q5.1 hb];exact h2.2
structure Two (w:World) (B:Nat) (e:TypeId) (m:Nat->Nat->Value) (K:Nat->Nat->Prop) (L G:List RowA):Prop where
 ls:RowsA w e m (fun _ _=>True) L
 gs:RowsA w e m K G
 x: ∀(i j:Nat) (r s:RowA),i≠j->G[i]?=some r->L[j]?=some s->Apart r.ad s.ad
 same: ∀(k:Nat) (r g:RowA),L[k]?=some r->G[k]?=some g->(g.ad=r.ad/\g.cap=r.cap/\r.len<=g.len)\/Apart g.ad r.ad
 ge: ∀(k:Nat) (r g:RowA),L[k]?=some r->G[k]?=some g->r.len<=g.len
 org: ∀b∈rb G,b∈rb L\/B<=b
def Two.start {B:Nat} (h:RowsA w e m (fun _ _=>True) L):Two w B e m K L []:=
 ⟨h,⟨fun j r hj=>by simp at hj,fun i j r s _ hj=>by simp at hj⟩,fun i j r s _ hj=>by simp at hj,fun k r g _ hj=>by simp at hj,fun k r g _ hj=>by simp at hj,fun b hb=>by cases hb⟩
def Two.chg {B:Nat} (h:Two w B e m K L G) {S:List Nat} (hc:Chg S w w') (hS: ∀b∈rb L,b∉S) (hG: ∀b∈rb G,b∉S):Two w' B e m K L G:=
 ⟨h.ls.chg hc hS,h.gs.chg hc hG,h.x,h.same,h.ge,h.org⟩
def Two.next {B:Nat} (h:Two w B e m K L G) {r:RowA} (hr:L[G.length]?=some r):Two w B e m K L (G++ [r]):=by
 have get: ∀j s,(G++ [r])[j]?=some s->(j<G.length/\G[j]?=some s)\/(j=G.length/\s=r):=by
  intro j s hs;rcases V1 j G.length with hj|hj
  ·rw [X8 hj] at hs;exact .inl ⟨hj,hs⟩
  ·rw [Z2 hj] at hs;have:j-G.length=0:=by
    rcases M8 (j-G.length) with h0|h0
    ·exact h0
    ·rw [Y5 (by simp;omega)] at hs;cases hs
   rw [this] at hs;exact .inr ⟨by omega,(X5 hs).symm⟩
 refine ⟨h.ls,⟨fun j s hs=>?_,fun i j s t hij hs ht=>?_⟩,fun i j s t hij hs ht=>?_,fun k s g hs hg=>?_,fun k s g hs hg=>?_,fun b hb=>?_⟩
 ·rcases get j s hs with ⟨_,h1⟩|⟨rfl,rfl⟩
  ·exact h.gs.own j s h1
  ·obtain ⟨c,h1,h2⟩:=h.ls.own _ _ hr;exact ⟨c,h1,fun q _ hl=>h2 q trivial hl⟩
 ·rcases get i s hs with ⟨h1,h2⟩|⟨rfl,rfl⟩<;>rcases get j t ht with ⟨h3,h4⟩|⟨rfl,rfl⟩
  ·exact h.gs.ap i j s t hij h2 h4
  ·exact h.x i _ s _ hij h2 hr
  ·exact (h.x j _ t _ (Ne.symm hij) h4 hr).symm
  ·exact absurd rfl hij
 ·rcases get i s hs with ⟨h1,h2⟩|⟨rfl,rfl⟩
  ·exact h.x i j s t hij h2 ht
  ·exact h.ls.ap _ j _ t hij hr ht
 ·rcases get k g hg with ⟨h1,h2⟩|⟨rfl,rfl⟩
  ·exact h.same k s g hs h2
  ·rw [hr] at hs;cases hs;exact .inl ⟨rfl,rfl,W8 _⟩
 ·rcases get k g hg with ⟨h1,h2⟩|⟨rfl,rfl⟩
  ·exact h.ge k s g hs h2
  ·rw [hr] at hs;cases hs;exact W8 _
 ·unfold rb at hb;rw [J3,X4] at hb;rcases hb with hb|hb
  ·exact h.org b hb
  ·exact .inl (yd9 hr (by simpa using hb))
def Two.grow {B:Nat} {g:RowA} (h:Two w B e m K L (G++ [g])) {r:RowA} (hr:L[G.length]?=some r) {c c':List Value} {ad':Option Addr} {n' cap':Nat} (hB:B<=w.heap.size)
  (ho:Own w' 0 e 1 ad' n' cap' c') (hold:Own w' 0 e 1 g.ad g.len g.cap c) (hc0:Own w 0 e 1 g.ad g.len g.cap c) (hc:Chg (zb7 g.ad) w w') (had:(ad'=g.ad/\cap'=g.cap)\/(w.heap.size<=bk ad'/\Chg [] w w')) (hn:g.len<=n')
  (hm: ∀q,K' G.length q->q<n'->c'[q]?=some (m G.length q)) (hK: ∀j q,j<G.length->K' j q->K j q):
  Two w' B e m K' L (G++ [⟨ad',n',cap'⟩]):=by
 have hgg:(G++ [g])[G.length]?=some g:=by rw [Z2 (W8 _)];simp
 have lift: ∀j s,j<G.length->G[j]?=some s->(G++ [g])[j]?=some s:=fun j s hj hs=>by rw [X8 hj];exact hs
 have get: ∀j s,(G++ [(⟨ad',n',cap'⟩:RowA)])[j]?=some s->(j<G.length/\G[j]?=some s)\/(j=G.length/\s=⟨ad',n',cap'⟩):=by
  intro j s hs;rcases V1 j G.length with hj|hj
  ·rw [X8 hj] at hs;exact .inl ⟨hj,hs⟩
  ·rw [Z2 hj] at hs;have:j-G.length=0:=by
    rcases M8 (j-G.length) with h0|h0
    ·exact h0
    ·rw [Y5 (by simp;omega)] at hs;cases hs
   rw [this] at hs;exact .inr ⟨by omega,(X5 hs).symm⟩
 have hls:RowsA w' e m (fun _ _=>True) L:=by
  refine ⟨fun j s hs=>?_,h.ls.ap⟩;obtain ⟨d,h1,h2⟩:=h.ls.own j s hs;by_cases hj:j=G.length
  ·subst hj;rw [hr] at hs;cases hs;rcases h.same _ _ _ hr hgg with ⟨e1,e2,e3⟩|hap
   ·have hp:=hold.pre e3;rw [e1,e2] at hp;refine ⟨_,hp,fun q hq hl=>?_⟩;have hp0:=hc0.pre e3;rw [e1,e2] at hp0;have hsame:d=c.take r.len:=by
     have hl1:=h1.len;have hl2:=hp0.len;refine S9 fun q=>?_;rcases V1 q r.len with hq'|hq'
     ·have q1:=(h1.rg q d[q] (Y0 (by omega))).2;have q2:=(hp0.rg q (c.take r.len)[q] (Y0 (by omega))).2;rw [q1] at q2;rw [Y0 (by omega),Y0 (by omega),X5 q2]
     ·rw [Y5 (by omega),Y5 (by omega)]
    rw [<-hsame];exact h2 q hq hl
   ·exact ⟨d,h1.chg hc hap.symm.off,h2⟩
  ·exact ⟨d,h1.chg hc (h.x _ j _ s (Ne.symm hj) hgg hs).symm.off,h2⟩
 have fresh: ∀(s:Option Addr),(∀b∈zb7 s,b<w.heap.size)->w.heap.size<=bk ad'->Apart ad' s:=by
  intro s hs hge;cases s with
  |none=>exact .inr (.inl rfl)
  |some a=>
   refine .inr (.inr fun e=>?_);have:=hs a.block (Q5.2 rfl);have e':bk ad'=a.block:=e;omega
 have apG: ∀i s,i<G.length->G[i]?=some s->Apart ad' s.ad:=by
  intro i s hi hs;rcases had with ⟨rfl,rfl⟩|⟨hge,_⟩
  ·exact h.gs.ap _ i _ _ (by omega) hgg (lift i s hi hs)
  ·exact fresh _ (fun b hb=>h.gs.lt (yd9 (lift i s hi hs) hb)) hge
 have apL: ∀j s,j≠G.length->L[j]?=some s->Apart ad' s.ad:=by
  intro j s hj hs;rcases had with ⟨rfl,rfl⟩|⟨hge,_⟩
  ·exact h.x _ j _ _ (Ne.symm hj) hgg hs
  ·exact fresh _ (fun b hb=>h.ls.lt (yd9 hs hb)) hge
 refine ⟨hls,⟨fun j s hs=>?_,fun i j s t hij hs ht=>?_⟩,fun i j s t hij hs ht=>?_,fun k s q hs hq=>?_,fun k s q hs hq=>?_,fun b hb=>?_⟩
 ·rcases get j s hs with ⟨h1,h2⟩|⟨rfl,rfl⟩
  ·obtain ⟨d,h3,h4⟩:=h.gs.own j s (lift j s h1 h2);exact ⟨d,h3.chg hc (h.gs.ap j _ s _ (by omega) (lift j s h1 h2) hgg).off,fun q hq hl=>h4 q (hK j q h1 hq) hl⟩
  ·exact ⟨c',ho,hm⟩
 ·rcases get i s hs with ⟨h1,h2⟩|⟨rfl,rfl⟩<;>rcases get j t ht with ⟨h3,h4⟩|⟨rfl,rfl⟩
  ·exact h.gs.ap i j s t hij (lift i s h1 h2) (lift j t h3 h4)
  ·exact (apG i s h1 h2).symm
  ·exact apG j t h3 h4
  ·exact absurd rfl hij
 ·rcases get i s hs with ⟨h1,h2⟩|⟨rfl,rfl⟩
  ·exact h.x i j s t hij (lift i s h1 h2) ht
  ·exact apL j t (Ne.symm hij) ht
 ·rcases get k q hq with ⟨h1,h2⟩|⟨rfl,rfl⟩
  ·exact h.same k s q hs (lift k q h1 h2)
  ·rw [hr] at hs;cases hs;rcases had with ⟨rfl,rfl⟩|⟨hge,_⟩
   ·rcases h.same _ _ _ hr hgg with ⟨e1,e2,e3⟩|hap
    ·exact .inl ⟨e1,e2,W9 e3 hn⟩
    ·exact .inr hap
   ·exact .inr (fresh _ (fun b hb=>h.ls.lt (yd9 hr hb)) hge)
 ·rcases get k q hq with ⟨h1,h2⟩|⟨rfl,rfl⟩
  ·exact h.ge k s q hs (lift k q h1 h2)
  ·rw [hr] at hs;cases hs;exact W9 (h.ge _ _ _ hr hgg) hn
 ·unfold rb at hb;rw [J3,X4] at hb;rcases hb with hb|hb
  ·exact h.org b (by unfold rb;rw [J3];exact X4.2 (.inl hb))
  ·have hb:b∈zb7 ad':=by simpa using hb
   rcases had with ⟨rfl,rfl⟩|⟨hge,_⟩
   ·exact h.org b (by unfold rb;rw [J3];exact X4.2 (.inr (by simpa using hb)))
   ·cases ad' with
    |none=>cases hb
    |some a=>
     rw [Q5.1 hb];exact .inr (W9 hB hge)
end
structure St (w:World) (B:Nat) (e rt:TypeId) (m:Nat->Nat->Value) (K:Nat->Nat->Prop) (L G:List RowA) (lad:Option Addr) (gb:Nat):Prop where
 two:Two w B e m K L G
 lrd:Rg w lad (L.map RowA.val)
 gown: ∃vs,Own w 0 rt 1 (some ⟨gb,0,none⟩) L.length L.length vs/\ ∀(j:Nat) (g:RowA),G[j]?=some g->vs[j]?=some g.val
 lad:L= []\/(bk lad∉rb L/\bk lad<B/\bk lad≠gb)
 gad:gb∉rb L/\gb∉rb G/\B<=gb
section
variable {w w':World} {B:Nat} {e rt:TypeId} {m:Nat->Nat->Value} {K K':Nat->Nat->Prop} {L G:List RowA} {lad:Option Addr} {gb:Nat}
def St.pure (h:St w B e rt m K L G lad gb) (hc:Chg [] w w'):St w' B e rt m K L G lad gb:=
 ⟨h.two.chg hc (by simp) (by simp),h.lrd.pure hc,by obtain ⟨vs,h1,h2⟩:=h.gown;exact ⟨vs,h1.pure hc,h2⟩,h.lad,h.gad⟩
def St.put (h:St w B e rt m K L G lad gb) {g:RowA} (h2:Two w B e m K L (G++ [g])) {vs:List Value} (hv: ∀(j:Nat) (g:RowA),G[j]?=some g->vs[j]?=some g.val) (hl:G.length<L.length) (hc:Chg [gb] w w') (ho:Own w' 0 rt 1 (some ⟨gb,0,none⟩) L.length L.length (vs.set G.length g.val)) (hvl:vs.length=L.length) (hg:gb∉zb7 g.ad):St w' B e rt m K L (G++ [g]) lad gb:=by
 have hG:gb∉rb (G++ [g]):=by
  unfold rb;rw [J3,X4]
  rintro (hb|hb)
  ·exact h.gad.2.1 hb
  ·exact hg (by simpa using hb)
 refine ⟨h2.chg hc (fun b hb hm=>?_) (fun b hb hm=>?_),h.lrd.chg hc ?_,⟨_,ho,fun j s hs=>?_⟩,h.lad,h.gad.1,hG,h.gad.2.2⟩
 ·rw [Q5.1 hm] at hb;exact h.gad.1 hb
 ·rw [Q5.1 hm] at hb;exact hG hb
 ·rcases h.lad with h0|⟨_,_,h3⟩
  ·exact .inr (by rw [h0];rfl)
  ·exact .inl (by simpa using h3)
 ·rcases V1 j G.length with hj|hj
  ·rw [X8 hj] at hs;rw [Z5 (by omega)];exact hv j s hs
  ·rw [Z2 hj] at hs;have:j-G.length=0:=by
    rcases M8 (j-G.length) with h0|h0
    ·exact h0
    ·rw [Y5 (by simp;omega)] at hs;cases hs
   rw [this] at hs;have hj':j=G.length:=by omega
   subst hj';rw [Q0 (by omega)];rw [<-Option.some.inj hs]
def St.chg (h:St w B e rt m K L G lad gb) {S:List Nat} (hc:Chg S w w') (h1: ∀b∈rb L,b∉S) (h2: ∀b∈rb G,b∉S) (h3:gb∉S) (h4:L= []\/bk lad∉S):St w' B e rt m K L G lad gb:=by
 obtain ⟨vs,g1,g2⟩:=h.gown;refine ⟨h.two.chg hc h1 h2,h.lrd.chg hc ?_,⟨vs,g1.chg hc (.inl h3),g2⟩,h.lad,h.gad⟩;rcases h4 with h4|h4
 ·exact .inr (by rw [h4];rfl)
 ·exact .inl h4
def St.again (h:St w B e rt m K L G lad gb):St w B e rt m K' L [] lad gb:=by
 obtain ⟨vs,g1,_⟩:=h.gown;exact ⟨.start h.two.ls,h.lrd,⟨vs,g1,fun j g hj=>by simp at hj⟩,h.lad,h.gad.1,(fun hb=>by cases hb),h.gad.2.2⟩
def St.made {w0:World} {zc:Array Value} (h:RowsA w e m (fun _ _=>True) L) (hl:Rg w lad (L.map RowA.val)) (hc:Chg (rb L) w0 w) (hl0:Rg w0 lad (L.map RowA.val)) (hla:L= []\/bk lad∉rb L) (hn:New w w' gb (madeCells zc (L.length*1)) rt) (hb:L.length<=9223372036854775807):St w' w0.heap.size e rt m K L [] lad gb:=by
 have hge:w0.heap.size<=gb:=W9 hc.size hn.fresh;refine ⟨.start (h.chg hn.chg (by simp)),hl.pure hn.chg,⟨_,(Own.made hn (W8 _) hb).zero,fun j g hj=>by simp at hj⟩,?_,(fun hm=>?_),(fun hm=>by cases hm),hge⟩
 ·rcases hla with hla|hla
  ·exact .inl hla
  ·by_cases hL:L= []
   ·exact .inl hL
   ·have hlt:=hl0.lt (by cases L with|nil=>exact absurd rfl hL|cons=>simp);exact .inr ⟨hla,hlt,by omega⟩
 ·have:=h.lt hm;have:=hn.fresh;omega
def St.lt (h:St w B e rt m K L G lad gb):gb<w.heap.size:=by
 obtain ⟨vs,g1,_⟩:=h.gown;rcases g1.ge with h1|h1
 ·cases h1
 ·exact h1.2
def St.newOff (h:St w B e rt m K L G lad gb) {mb:Nat} (hm:w.heap.size<=mb):mb∉rb L/\mb∉rb G/\mb≠gb/\(L= []\/bk lad≠mb):=by
 refine ⟨fun hb=>by have:=h.two.ls.lt hb;omega,fun hb=>by have:=h.two.gs.lt hb;omega,by have:=h.lt;omega,?_⟩;by_cases hL:L= []
 ·exact .inl hL
 ·have hlt:=h.lrd.lt (by cases L with|nil=>exact absurd rfl hL|cons=>simp);exact .inr (by omega)
def Two.init {g:RowA} (h:Two w B e m K L (G++ [g])):Two w B e m K L G:=by
 have lift: ∀(j:Nat) (s:RowA),G[j]?=some s->(G++ [g])[j]?=some s:=fun j s hs=>by rw [X8 (X2.1 hs).1];exact hs
 exact ⟨h.ls,⟨fun j s hs=>h.gs.own j s (lift j s hs),fun i j s t hij hs ht=>h.gs.ap i j s t hij (lift i s hs) (lift j t ht)⟩,fun i j s t hij hs ht=>h.x i j s t hij (lift i s hs) ht,fun k s q hs hq=>h.same k s q hs (lift k q hq),fun k s q hs hq=>h.ge k s q hs (lift k q hq),
  fun b hb=>h.org b (by unfold rb;rw [J3];exact X4.2 (.inl hb))⟩
structure Stg (w:World) (B:Nat) (e rt:TypeId) (m:Nat->Nat->Value) (K:Nat->Nat->Prop) (L G:List RowA) (g:RowA) (lad:Option Addr) (gb:Nat):Prop where
 st:St w B e rt m K L G lad gb
 two:Two w B e m K L (G++ [g])
 off:gb∉zb7 g.ad
def Stg.next (h:St w B e rt m K L G lad gb) {r:RowA} (hr:L[G.length]?=some r):Stg w B e rt m K L G r lad gb:=⟨h,h.two.next hr,fun hb=>h.gad.1 (yd9 hr hb)⟩
def Stg.pure {g:RowA} (h:Stg w B e rt m K L G g lad gb) (hc:Chg [] w w'):Stg w' B e rt m K L G g lad gb:=⟨h.st.pure hc,h.two.chg hc (by simp) (by simp),h.off⟩
def Stg.last {g:RowA} (h:Stg w B e rt m K L G g lad gb): ∃c,Own w 0 e 1 g.ad g.len g.cap c/\ ∀q,K G.length q->q<g.len->c[q]?=some (m G.length q):=h.two.gs.own _ g (by rw [Z2 (W8 _)];simp)
def Stg.org {g:RowA} (h:Stg w B e rt m K L G g lad gb): ∀t∈zb7 g.ad,t∈rb L\/B<=t:=fun t ht=>h.two.org t (yd9 (L:=G++ [g]) (j:=G.length) (r:=g) (by rw [Z2 (W8 _)];simp) ht)
def Stg.grow {g:RowA} (h:Stg w B e rt m K L G g lad gb) {r:RowA} (hr:L[G.length]?=some r) {c c':List Value} {ad':Option Addr} {n' cap':Nat}
  (ho:Own w' 0 e 1 ad' n' cap' c') (hold:Own w' 0 e 1 g.ad g.len g.cap c) (hc0:Own w 0 e 1 g.ad g.len g.cap c) (hc:Chg (zb7 g.ad) w w') (had:(ad'=g.ad/\cap'=g.cap)\/(w.heap.size<=bk ad'/\Chg [] w w')) (hn:g.len<=n')
  (hm: ∀q,K G.length q->q<n'->c'[q]?=some (m G.length q)):Stg w' B e rt m K L G ⟨ad',n',cap'⟩ lad gb:=by
 have hB:B<=w.heap.size:=by have:=h.st.lt;have:=h.st.gad.2.2;omega
 have h2:=h.two.grow (K':=K) hr hB ho hold hc0 hc had hn hm fun _ _ _ h=>h;obtain ⟨vs,g1,g2⟩:=h.st.gown;refine ⟨⟨h2.init,h.st.lrd.chg hc ?_,⟨vs,g1.chg hc (.inl h.off),g2⟩,h.st.lad,h.st.gad⟩,h2,?_⟩
 ·rcases h.st.lad with h0|⟨h1,h2,_⟩
  ·exact .inr (by rw [h0];rfl)
  ·refine .inl fun hb=>?_;rcases h.org _ hb with h3|h3
   ·exact h1 h3
   ·omega
 ·rcases had with ⟨rfl,rfl⟩|⟨hge,_⟩
  ·exact h.off
  ·cases ad' with
   |none=>exact fun hb=>by cases hb
   |some a=>
    intro hb;have hb:gb=a.block:=Q5.1 hb;have:=h.st.lt;have hge:w.heap.size<=a.block:=hge;omega
def Stg.put {g:RowA} (h:Stg w B e rt m K L G g lad gb) {vs:List Value} (hv: ∀(j:Nat) (g:RowA),G[j]?=some g->vs[j]?=some g.val) (hl:G.length<L.length) (hc:Chg [gb] w w') (ho:Own w' 0 rt 1 (some ⟨gb,0,none⟩) L.length L.length (vs.set G.length g.val)) (hvl:vs.length=L.length):St w' B e rt m K L (G++ [g]) lad gb:=
 h.st.put h.two hv hl hc ho hvl h.off
end
section
variable {P:Program} {Q:Exit->Act->World->Prop} {n:Nat} {ds:List Deferred} {F:PF} {w:World}
def CW.count {σ:Type} {Rc body Rs:Code} {c id:Nat} (N:Nat) (J:Nat->σ->World->Prop) (FF:Nat->σ->PF) (FB:Nat->σ->PF) (s0:σ) (h0:J 0 s0 w) (l:List Nat) (hF:F.keep l=FF 0 s0) (lk:List Nat) (hk: ∀i s b,PF.keep ((c,.bool b)::FF i s) lk=FF i s)
  (hcond: ∀i s w Q,i<=N->J i s w->(∀a,Fr n ds ((c,.bool (decide ((i:Int)<(N:Int))))::FF i s) a->Q .normal a w)->CW P Rc Q n ds (FF i s) w)
  (hbody: ∀i s w Q,i<N->J i s w->(∀s' w' a,J (i+1) s' w'->Fr n ds (FB i s') a->Q .normal a w')->CW P body Q n ds (FF i s) w)
  (hstep: ∀i s w Q,i<N->(∀a,Fr n ds (FF (i+1) s) a->Q .normal a w)->CW P Rs Q n ds (FB i s) w)
  (K: ∀s w' a,J N s w'->Fr n ds (FF N s) a->Q .normal a w'):CW P (.block id (.loop (.seq (.seq Rc (.cond (.tmp c) .skip (.exit id))) (.seq body Rs)))) Q n ds F w:=by
 refine CW.block (CW.loop (fun s:Nat×σ=>fun w=>s.1<=N/\J s.1 s.2 w) (fun s=>FF s.1 s.2) (fun s=>N-s.1) (0,s0) ⟨U4 _,h0⟩ l hF ?_)
 rintro ⟨i,s⟩ w ⟨hi,hJ⟩
 refine CW.seq fun K1 hK1=>CW.seq fun K2 hK2=>hcond i s w _ hi hJ fun a ha=>?_;refine go hK2 ?_ a ha;have hev:ev ((c,Value.bool (decide ((i:Int)<(N:Int))))::FF i s) (.tmp c)=some (.bool (decide ((i:Int)<(N:Int)))):=by
  show PF.get _ c=_;simp [PF.get]
 refine CW.cond (decide ((i:Int)<(N:Int))) hev (fun ht=>CW.skip fun a ha=>?_) fun hf=>CW.exit fun a ha=>?_
 ·have hlt:i<N:=by have:=of_decide_eq_true ht;omega
  refine go hK1 ?_ a ha;refine CW.keep lk (hk i s _) ?_;refine CW.seq fun K3 hK3=>hbody i s w _ hlt hJ fun s' w' a hJ' ha=>?_;refine go hK3 ?_ a ha;exact hstep i s' w' _ hlt fun a ha=>⟨(i+1,s'),⟨hlt,hJ'⟩,by show N-(i+1)<N-i;omega,ha⟩
 ·have hge: ¬i<N:=fun h=>by have:=of_decide_eq_false hf;omega
  have he:i=N:=by omega
  subst he;show Exit.inBlock id Q (.exit id) a w;simp only [Exit.inBlock,if_true];exact K s w a hJ (ha.keep lk (hk i s _))
variable {ops:Array Oper}
def CW.zero {a b id c:Nat} {oi oc:Array Oper} {body Rs rest:Code} (F1:PF) (hI: ∀Q,(∀a,Fr n ds F1 a->Q .normal a w)->WR P oi Q 0 n ds F w) (hC: ∀Q,(∀a,Fr n ds ((c,.bool false)::F1) a->Q .normal a w)->WR P oc Q 0 n ds F1 w)
  (l:List Nat) (hk:PF.keep ((c,.bool false)::F1) l=F) (l1:List Nat) (hk1:F1.keep l1=F1) (K:CW P rest Q n ds F w):CW P (.seq (.seq (.region a oi false) (.block id (.loop (.seq (.seq (.region b oc false) (.cond (.tmp c) .skip (.exit id))) (.seq body Rs))))) rest) Q n ds F w:=by
 refine CW.seq fun K1 hK1=>CW.seq fun K2 hK2=>CW.region (hI _ fun a ha=>go hK2 ?_ a ha);refine CW.block (CW.loop (fun (_:Unit) w'=>w'=w) (fun _=>F1) (fun _=>0) () rfl l1 hk1 ?_)
 ·rintro _ w' rfl
  refine CW.seq fun K3 hK3=>CW.seq fun K4 hK4=>CW.region (hC _ fun a ha=>go hK4 ?_ a ha);refine CW.no ?_ (CW.exit fun a ha=>?_)
  ·show PF.get _ c=_;simp [PF.get]
  ·show Exit.inBlock id (Exit.then K1 Q) (.exit id) a _;simp only [Exit.inBlock,if_true];exact go hK1 K a (ha.keep l hk)
def WR.sub {k:Nat} (F':PF) (h:F.keep (F'.map Prod.fst)=F') (K:WR P ops Q k n ds F' w):WR P ops Q k n ds F w:=fun a ha=>K a (ha.keep _ h)
def CW.regionL {id:Nat} (m:Nat) (fx:List (Option Value)) (F1:PF) (hGF: ∀u,zp5 ops (fxU fx u) 0 m++F=F1) (hdep:vn7 ops m=true) (hm:P.follows .mixedOrders=true) (hsuf:(Nat.ble m ops.size&&(qv8 ops m&&(zf6 (yo0 ops m)&&(zl8 ops&&zh8 ops m))))=true)
  (hd:(yo0 ops m).all (fun d=>Nat.blt d n)=true)
  (ob:qy3 P ops n ds fx (fun _=>F1) (fun w'=>Chg [] w w') (fun _ _ _=>True) (fun i wq v=>([]:List Nat).contains i=true->zt4 v=none\/wq.heap.size<=bk (zt4 v)) [] [] (fun _ _=>True) 0 m)
  (K: ∀w',Chg [] w w'->WR P ops Q m n ds F1 w'):CW P (.region id ops true) Q n ds F w:=
 CW.regionG m fx (fun _=>F1) hGF hdep [] (fun _ _=>True) (fun _=>trivial) (fun _ _ _ _ _ _ _=>trivial) [] [] rfl (fun w'=>Chg [] w w') (fun _ _ _=>True) (fun j x w hj _=>absurd hj (by simp)) rfl hm hsuf hd (Chg.drew w)
  (fun _ _ _ h h'=>h.step h' (fun t ht=>.inl (kw2 t ht))) (fun _ _ _ _ _ _ _ _=>trivial) ob fun _ w' hw' _ _ _=>K w' hw'
def obL {i m:Nat} {fx:List (Option Value)} {F1:PF} (h: ∀w',Chg [] w w'-> ∀Q':Exit->Act->World->Prop,(∀v w'' a,RX fx (fun _ _ _=>True) i v w''->Chg [] w' w''->Fr n ds (upd F1 (zf1 ops i) v) a->Q' .normal a w'')->WR P (ops.extract 0 (i+1)) Q' i n ds F1 w')
  (K:qy3 P ops n ds fx (fun _=>F1) (fun w'=>Chg [] w w') (fun _ _ _=>True) (fun i wq v=>([]:List Nat).contains i=true->zt4 v=none\/wq.heap.size<=bk (zt4 v)) [] [] (fun _ _=>True) (i+1) m):
  qy3 P ops n ds fx (fun _=>F1) (fun w'=>Chg [] w w') (fun _ _ _=>True) (fun i wq v=>([]:List Nat).contains i=true->zt4 v=none\/wq.heap.size<=bk (zt4 v)) [] [] (fun _ _=>True) i (m+1):=by
 refine ⟨fun u w' hw' _ _ _=>h w' hw' _ fun v w'' a hv hc ha=>?_,K⟩;exact ⟨hc,v,ha,⟨fun h=>absurd h (by simp),fun p hp=>by cases hp⟩,hv⟩
end
end Go.V
namespace Go.V
open Go.RowKit
def ke9: ∀(a:Addr),a.spot=none-> ∀j,a.add j=⟨a.block,a.off+j,none⟩
 |⟨b,q,s⟩,hs,j=>by
  have hs:s=none:=hs;subst hs;unfold Addr.add;split<;>simp_all
section
variable {P:Program} {ops:Array Oper} {Q:Exit->Act->World->Prop} {k n:Nat} {ds:List Deferred} {F:PF} {w:World}
def je6 (ops:Array Oper) (k n:Nat) (F:PF):Option (Option Tmp×TypeId×Value×Value):=
 match dec ops k n F with
 |some ⟨dst,.call {callee:=.builtin .copy,args:=a,argTypes:=ats},_,_,_,_⟩=>
  (match a.toList,ats.toList with| [s,x],[t,t']=>(match Nat.beq t t' with|true=>some (dst,t,evD F s,evD F x)|false=>none)|_,_=>none)
 |_=>none
def yr7 {dst:Option Tmp} {t:TypeId} {s x:Value} (h:je6 ops k n F=some (dst,t,s,x)):
  ∃o,dec ops k n F=some o/\o.dst=dst/\ ∀w,(execOp (evD F) o).run P w=((Builtin.copy_ #[t,t] o.type #[s,x]).run P w).andThen fun v w'=>.ok (.value v) w':=by
 unfold je6 at h;split at h
 ·rename_i d a ats ty pos af gd hdec;split at h
  ·rename_i s' x' t1 t2 ha hat;split at h
   ·rename_i hb;have:=X1 hb;subst this;simp only [X0,X7] at h;obtain ⟨rfl,rfl,rfl,rfl⟩:=h;refine ⟨_,hdec,rfl,fun w=>?_⟩;have ea:a= #[s',x']:=by rw [<-Array.toArray_toList (xs:=a),ha]
    have eat:ats= #[t1,t1]:=by rw [<-Array.toArray_toList (xs:=ats),hat]
    subst ea eat;simp [execOp,resolve,invoke,builtin]
   ·cases h
  ·cases h
 ·cases h
def WR.copyB {dst:Option Tmp} {t e e':TypeId} {by_:Nat} {zc:Array Value} {h o dl dc xm xcap:Nat} {xd:Option Addr} {c:Array Value} {news:List Value} (hd:je6 ops k n F=some (dst,t,.slice (some ⟨h,o,none⟩) dl dc,.slice xd xm xcap)) (hi:zk6 P t=some (e,1,by_,zc))
  (hb:Blk w h c e') (hx:Rg w xd news) (hl:news.length=xm) (h0:0<xm) (hle:xm<=dl) (hfit:o+xm<=c.size) (h1: ∀u∈news,u.oneCell'=true)
  (K: ∀w',Blk w' h (ya6 c o news) e'->Chg [h] w w'->WR P ops Q (k+1) n ds (upd F dst (.int .i64 (xm:Int))) w'):WR P ops Q k n ds F w:=by
 obtain ⟨op,hdec,rfl,hrun⟩:=yr7 hd;obtain ⟨i,z,hu,hin,hz,hs1,_⟩:=zb3 hi;obtain ⟨a,rfl,ha⟩: ∃a,xd=some a/\a=⟨bk xd,of xd,none⟩:=by
  cases news with
  |nil=>simp at hl;omega
  |cons u r=>exact ⟨_,(hx 0 u rfl).1,rfl⟩
 have hcell: ∀j,j<news.length->(w.cell? ⟨h,o+j,none⟩)=some (c[o+j]!):=fun j hj=>by
  rw [cell_of_row w h (o+j) c e' (0,0) hb,Z6 (by omega),getElem!_pos c (o+j) (by omega)]
 have hsp:a.spot=none:=by rw [ha]
 have hadd: ∀j,a.add j=⟨a.block,a.off+j,none⟩:=ke9 a hsp;have hr:=run_copy_cells (P:=P) w t t op.type e h o dl dc a xm xcap news hu (by rw [hin];simp [hs1]) (by rw [hl];exact (V6 hle).symm) (fun j v hj=>by rw [hadd];exact (hx j v hj).2) (fun j hj=>by rw [hcell j hj];rfl)
  (fun j _=>frozen_of_row w h (o+j) c e' hb) h1
 obtain ⟨w',g1,g2,g3⟩:=zj1 P e' h news o 0 c w hb (by omega) h1;have g4:=run_storeCells_cells (P:=P) h o news 0 w (fun j hj=>by rw [J6,hcell j hj];rfl) (fun j _=>frozen_of_row w h _ c e' hb) h1;rw [g1] at g4;simp only [Result.ok.injEq,true_and] at g4;rw [J6] at g4;rw [<-g4,hl] at hr;refine .val hdec (v:=.int .i64 (xm:Int)) (w':=w') ?_ (K w' (by simpa using g2) g3);rw [hrun,hr];rfl
def WR.copyN {dst:Option Tmp} {t e:TypeId} {by_:Nat} {zc:Array Value} {d:Option Addr} {dl dc:Nat} (hd:je6 ops k n F=some (dst,t,.slice d dl dc,.slice none 0 0)) (hi:zk6 P t=some (e,1,by_,zc))
  (K:WR P ops Q (k+1) n ds (upd F dst (.int .i64 0)) w):WR P ops Q k n ds F w:=by
 obtain ⟨op,hdec,rfl,hrun⟩:=yr7 hd;obtain ⟨i,z,hu,hin,hz,hs1,_⟩:=zb3 hi;refine .val hdec (v:=.int .i64 0) (w':=w) ?_ K;rw [hrun,run_copy_none (P:=P) w t t op.type e d none dl dc 0 0 hu (by rw [hin];simp [hs1]) (Nat.zero_min _)];rfl
def kb3 (ops:Array Oper) (k n:Nat) (F:PF):Option (Option Tmp×TypeId×Value×Value×Value):=
 match dec ops k n F with|some ⟨dst,.slice t x none (some hi) (some mx),_,_,_,_⟩=>some (dst,t,evD F x,evD F hi,evD F mx)|_=>none
def WR.slice3 {dst:Option Tmp} {t e:TypeId} {ad:Option Addr} {m cap:Nat} {kh km:IntKind} {h mx:Int} {sz by_:Nat} {zc:Array Value} (hd:kb3 ops k n F=some (dst,t,.slice ad m cap,.int kh h,.int km mx)) (hi:zk6 P t=some (e,sz,by_,zc))
  (h1:0<=h) (h2:h<=mx) (h3:mx<=(cap:Int)) (K:WR P ops Q (k+1) n ds (upd F dst (.slice ad h.toNat mx.toNat)) w):WR P ops Q k n ds F w:=by
 unfold kb3 at hd;split at hd
 ·rename_i d t' x' h' m' ty pos af gd hdec;simp only [X0,X7] at hd;obtain ⟨rfl,rfl,e1,e3,e4⟩:=hd;obtain ⟨inf,z,hu,hin,_,hsz,_⟩:=zb3 hi;have hel:P.elem t'=e:=by simp [Program.elem,hu]
  refine .val hdec (v:=.slice ad h.toNat mx.toNat) (w':=w) ?_ K;have hs:(sizeOf e).run P w=.ok sz w:=by simp [sizeOf,typeInfo,hin,hsz]
  have hb:(Instr.slice t' (.slice ad m cap) none (some (.int kh h)) (some (.int km mx))).run P w=.ok (.slice ad h.toNat mx.toNat) w:=by
   rw [run_slice_hm w t' ad m cap (zl1 hu) kh km h mx h1 h2 h3,hel,hs];simp only [Result.andThen_ok,sliced,M4,J4];split<;>(cases ad<;>simp [Addr.add])
  show (do pure (.value (<-Instr.sliceAt t' (evD F x') none (some (evD F h')) (some (evD F m')))):Sem Next).run P w=_;rw [e1,e3,e4,Sem.run_bind,run_sliceAt_slice w t' _ _ _ _ (zl1 hu),hb];rfl
 ·cases hd
def qh1 (ops:Array Oper) (k n:Nat) (F:PF):Option (Option Tmp×Value×List Value):=
 match dec ops k n F with|some ⟨dst,.call ⟨.value x,aS,_⟩,_,_,_,_⟩=>some (dst,evD F x,aS.toList.map (evD F))|_=>none
def WR.extern {dst:Option Tmp} {f:FuncId} {fn:Func} {xs:List Value} {x:Array Value->Sem Value} {v:Value} {w':World} (hd:qh1 ops k n F=some (dst,.func (.func f) #[] #[],xs)) (hf:P.funcs[f]?=some fn) (hname:(fn.name== "runtime.NumGoroutine")=false)
  (hb:fn.body.isNone=true) (hn:Extern.findNext fn=none) (he:Extern.find fn=some x) (hr:(x xs.toArray).run P w=.ok v w') (K:WR P ops Q (k+1) n ds (upd F dst v) w'):WR P ops Q k n ds F w:=by
 unfold qh1 at hd;split at hd
 ·rename_i d x' aS' ats ty pos af gd hdec;simp only [X0,X7] at hd;obtain ⟨rfl,h1,rfl⟩:=hd;refine .val hdec (v:=v) (w':=w') ?_ K;have e:(List.map (evD F) aS'.toList).toArray=aS'.map (evD F):=by rw [<-Array.toList_map]
  rw [e] at hr;have hc:=run_callFunc_extern hf hname hb hn he (aS'.map (evD F)) w;rw [hr] at hc;simp [execOp,resolve,h1,Deferred.ofValue,invoke,hc]
 ·cases hd
end
section
variable {P:Program} {Q:Exit->Act->World->Prop} {n:Nat} {ds:List Deferred} {F:PF} {w:World}
def CW.countR {σ:Type} {Rc body Rs:Code} {c id:Nat} (N:Nat) (J:Nat->σ->World->Prop) (FF:Nat->σ->PF) (FB:Nat->σ->PF) (s0:σ) (h0:J 0 s0 w) (l:List Nat) (hF:F.keep l=FF 0 s0) (lk:List Nat) (hk: ∀i s b,PF.keep ((c,.bool b)::FF i s) lk=FF i s)
  (hcond: ∀i s w Q,i<=N->J i s w->(∀a,Fr n ds ((c,.bool (decide ((i:Int)<(N:Int))))::FF i s) a->Q .normal a w)->CW P Rc Q n ds (FF i s) w)
  (hbody: ∀i s w Q,i<N->J i s w->(∀s' w' a,J (i+1) s' w'->Fr n ds (FB i s') a->Q .normal a w')->CW P body Q n ds (FF i s) w)
  (hstep: ∀i s w Q,i<N->(∀a,Fr n ds (FF (i+1) s) a->Q .normal a w)->CW P Rs Q n ds (FB i s) w)
  (K: ∀s w' a,J N s w'->Fr n ds (FF N s) a->Q .normal a w'):CW P (.block id (.loop (.seq Rc (.seq (.cond (.tmp c) .skip (.exit id)) (.seq body Rs))))) Q n ds F w:=by
 refine CW.block (CW.loop (fun s:Nat×σ=>fun w=>s.1<=N/\J s.1 s.2 w) (fun s=>FF s.1 s.2) (fun s=>N-s.1) (0,s0) ⟨U4 _,h0⟩ l hF ?_)
 rintro ⟨i,s⟩ w ⟨hi,hJ⟩
 refine CW.seq fun K1 hK1=>hcond i s w _ hi hJ fun a ha=>go hK1 (CW.seq fun K2 hK2=>?_) a ha;have hev:ev ((c,Value.bool (decide ((i:Int)<(N:Int))))::FF i s) (.tmp c)=some (.bool (decide ((i:Int)<(N:Int)))):=by
  show PF.get _ c=_;simp [PF.get]
 refine CW.cond (decide ((i:Int)<(N:Int))) hev (fun ht=>CW.skip fun a ha=>?_) fun hf=>CW.exit fun a ha=>?_
 ·have hlt:i<N:=by have:=of_decide_eq_true ht;omega
  refine go hK2 ?_ a ha;refine CW.keep lk (hk i s _) ?_;refine CW.seq fun K3 hK3=>hbody i s w _ hlt hJ fun s' w' a hJ' ha=>?_;refine go hK3 ?_ a ha;exact hstep i s' w' _ hlt fun a ha=>⟨(i+1,s'),⟨hlt,hJ'⟩,by show N-(i+1)<N-i;omega,ha⟩
 ·have hge: ¬i<N:=fun h=>by have:=of_decide_eq_false hf;omega
  have he:i=N:=by omega
  subst he;show Exit.inBlock id Q (.exit id) a w;simp only [Exit.inBlock,if_true];exact K s w a hJ (ha.keep lk (hk i s _))
end
def vr1 (P:Program) (oi oc:Array Oper) (n s c:Nat) (F:PF) (w:World):Option ((PF×World)×(PF×World)×PF×PF×Bool):=
 match evK P oi n 1 0 F w,evK P oc n 4 0 (F++ [(s,.int .i64 0)]) w with
 |some (G,w1),some (H,w2)=>some ((G.keep ((F++ [(s,Value.int .i64 0)]).map Prod.fst),w1),(H.keep (((c,Value.bool false)::(F++ [(s,Value.int .i64 0)])).map Prod.fst),w2),PF.keep ((c,.bool false)::(F++ [(s,Value.int .i64 0)])) (F.map Prod.fst),(F++ [(s,Value.int .i64 0)]).keep ((F++ [(s,Value.int .i64 0)]).map Prod.fst),Nat.ble oi.size 1&&Nat.ble oc.size 4)
 |_,_=>none
section
variable {P:Program} {Q:Exit->Act->World->Prop} {n:Nat} {ds:List Deferred} {F:PF} {w:World}
def CW.zeroB {a b id:Nat} {oi oc:Array Oper} {body Rs rest:Code} (s c:Nat) (h:vr1 P oi oc n s c F w=some ((F++ [(s,.int .i64 0)],w),((c,.bool false)::(F++ [(s,.int .i64 0)]),w),F,F++ [(s,.int .i64 0)],true))
  (K:CW P rest Q n ds F w):CW P (.seq (.seq (.region a oi false) (.block id (.loop (.seq (.seq (.region b oc false) (.cond (.tmp c) .skip (.exit id))) (.seq body Rs))))) rest) Q n ds F w:=by
 unfold vr1 at h;split at h
 ·rename_i G w1 H w2 h1 h2;simp only [X0,X7,X3] at h;obtain ⟨⟨e1,rfl⟩,⟨e2,rfl⟩,e3,e4,e5,e6⟩:=h;refine CW.zero (F++ [(s,.int .i64 0)]) (fun Q hq=>WR.batch 1 _ ?_ (WR.fin e5 hq)) (fun Q hq=>WR.batch 4 _ ?_ (WR.fin e6 hq)) (F.map Prod.fst) e3 ((F++ [(s,Value.int .i64 0)]).map Prod.fst) e4 K
  ·rw [h1];exact congrArg (fun x=>some (x,_)) e1
  ·rw [h2];exact congrArg (fun x=>some (x,_)) e2
 ·cases h
end
def ze6 {P:Program} {f:FuncId} {fn:Func} {n a0 a1 b1 i1 a2 a3 b3 i3 a4 b4 i4 a5 b5 i5 a6 b6 i6 a7:Nat} {o0 o1 c1 o2 o3 q3 o4 q4 o5 q5 o6 q6 o7:Array Oper} {B1 S1 B3 S3 B4 S4 B5 S5 B6 S6:Code} (w:World) (s1 k1 d1 d2 t e d3 s3 k3 s4 k4 s5 k5 s6 k6:Nat) (hf:P.funcs[f]?=some fn)
  (hb:fn.body=some (.seq (.region a0 o0 false) (.seq (.seq (.region a1 o1 false) (.block i1 (.loop (.seq (.seq (.region b1 c1 false) (.cond (.tmp k1) .skip (.exit i1))) (.seq B1 S1))))) (.seq (.region a2 o2 false) (.seq (.seq (.region a3 o3 false) (.block i3 (.loop (.seq (.seq (.region b3 q3 false) (.cond (.tmp k3) .skip (.exit i3))) (.seq B3 S3))))) (.seq (.seq (.region a4 o4 false) (.block i4 (.loop (.seq (.seq (.region b4 q4 false) (.cond (.tmp k4) .skip (.exit i4))) (.seq B4 S4))))) (.seq (.seq (.region a5 o5 false) (.block i5 (.loop (.seq (.seq (.region b5 q5 false) (.cond (.tmp k5) .skip (.exit i5))) (.seq B5 S5))))) (.seq (.seq (.region a6 o6 false) (.block i6 (.loop (.seq (.seq (.region b6 q6 false) (.cond (.tmp k6) .skip (.exit i6))) (.seq B6 S6))))) (.seq (.region a7 o7 false) .ret)))))))))
  (hn:fn.ntmps=n)
  (hs:Nat.ble 1 n=true:=by kernel_rfl)
  (h0: ∀w,(match evK P o0 n 1 0 [(0,.slice none 0 0)] w with|some (G,w₁)=>some (G.keep [0],w₁)|none=>none)=some ([(0,.slice none 0 0)],w):=by intro w;kernel_rfl)
  (h1: ∀w,vr1 P o1 c1 n s1 k1 [(0,.slice none 0 0)] w=some (([(0,.slice none 0 0),(s1,.int .i64 0)],w),([(k1,.bool false),(0,.slice none 0 0),(s1,.int .i64 0)],w),[(0,.slice none 0 0)],[(0,.slice none 0 0),(s1,.int .i64 0)],true):=by intro w;kernel_rfl)
  (h2: ∀w,(match evK P o2 n 2 0 [(0,.slice none 0 0)] w with|some (G,w₁)=>some (G.keep [0,d1],w₁)|none=>none)=some ([(0,.slice none 0 0),(d1,.int .i64 0)],w):=by intro w;kernel_rfl)
  (hd:yw2 o2 2 n [(0,.slice none 0 0),(d1,.int .i64 0)]=some (some d2,t,.int .i64 0,.int .i64 0):=by kernel_rfl) (hi:zk6 P t=some (e,1,24,#[.slice none 0 0]):=by kernel_rfl)
  (h3: ∀w g,(match evK P o2 n 1 3 [(d2,.slice (some ⟨g,0,none⟩) 0 0),(0,.slice none 0 0),(d1,.int .i64 0)] w with|some (G,w₁)=>some (G.keep [0,d3],w₁)|none=>none)=some ([(0,.slice none 0 0),(d3,.slice (some ⟨g,0,none⟩) 0 0)],w):=by intro w g;kernel_rfl)
  (h4: ∀w g,vr1 P o3 q3 n s3 k3 [(0,.slice none 0 0),(d3,.slice (some ⟨g,0,none⟩) 0 0)] w=some (([(0,.slice none 0 0),(d3,.slice (some ⟨g,0,none⟩) 0 0),(s3,.int .i64 0)],w),([(k3,.bool false),(0,.slice none 0 0),(d3,.slice (some ⟨g,0,none⟩) 0 0),(s3,.int .i64 0)],w),[(0,.slice none 0 0),(d3,.slice (some ⟨g,0,none⟩) 0 0)],[(0,.slice none 0 0),(d3,.slice (some ⟨g,0,none⟩) 0 0),(s3,.int .i64 0)],true):=by intro w g;kernel_rfl)
  (h5: ∀w g,vr1 P o4 q4 n s4 k4 [(0,.slice none 0 0),(d3,.slice (some ⟨g,0,none⟩) 0 0)] w=some (([(0,.slice none 0 0),(d3,.slice (some ⟨g,0,none⟩) 0 0),(s4,.int .i64 0)],w),([(k4,.bool false),(0,.slice none 0 0),(d3,.slice (some ⟨g,0,none⟩) 0 0),(s4,.int .i64 0)],w),[(0,.slice none 0 0),(d3,.slice (some ⟨g,0,none⟩) 0 0)],[(0,.slice none 0 0),(d3,.slice (some ⟨g,0,none⟩) 0 0),(s4,.int .i64 0)],true):=by intro w g;kernel_rfl)
  (h6: ∀w g,vr1 P o5 q5 n s5 k5 [(0,.slice none 0 0),(d3,.slice (some ⟨g,0,none⟩) 0 0)] w=some (([(0,.slice none 0 0),(d3,.slice (some ⟨g,0,none⟩) 0 0),(s5,.int .i64 0)],w),([(k5,.bool false),(0,.slice none 0 0),(d3,.slice (some ⟨g,0,none⟩) 0 0),(s5,.int .i64 0)],w),[(0,.slice none 0 0),(d3,.slice (some ⟨g,0,none⟩) 0 0)],[(0,.slice none 0 0),(d3,.slice (some ⟨g,0,none⟩) 0 0),(s5,.int .i64 0)],true):=by intro w g;kernel_rfl)
  (h7: ∀w g,vr1 P o6 q6 n s6 k6 [(0,.slice none 0 0),(d3,.slice (some ⟨g,0,none⟩) 0 0)] w=some (([(0,.slice none 0 0),(d3,.slice (some ⟨g,0,none⟩) 0 0),(s6,.int .i64 0)],w),([(k6,.bool false),(0,.slice none 0 0),(d3,.slice (some ⟨g,0,none⟩) 0 0),(s6,.int .i64 0)],w),[(0,.slice none 0 0),(d3,.slice (some ⟨g,0,none⟩) 0 0)],[(0,.slice none 0 0),(d3,.slice (some ⟨g,0,none⟩) 0 0),(s6,.int .i64 0)],true):=by intro w g;kernel_rfl)
  (h8: ∀w g,(match evK P o7 n 1 0 [(0,.slice none 0 0),(d3,.slice (some ⟨g,0,none⟩) 0 0)] w with|some (G,w₁)=>some (G.keep [2],w₁)|none=>none)=some ([(2,.bool true)],w):=by intro w g;kernel_rfl)
  (hr:ko8 fn [(2,.bool true)]=some (.bool true):=by kernel_rfl)
  (hz:(Nat.ble o0.size 1,Nat.ble o2.size 4,Nat.ble o7.size 1)=(true,true,true):=by kernel_rfl):Calls P f #[.slice none 0 0] w (zq9 w (.bool true)):=by
 simp only [X7] at hz;refine zf5 hf hb hn hs [0] (F:= [(0,.slice none 0 0)]) rfl ?_;refine CW.seq fun K1 hK1=>CW.region (WR.batch 1 [(0,.slice none 0 0)] (h0 w) (WR.fin hz.1 fun a ha=>go hK1 ?_ a ha));refine CW.zeroB s1 k1 (h1 w) ?_;refine CW.seq fun K2 hK2=>CW.region (WR.batch 2 [(0,.slice none 0 0),(d1,.int .i64 0)] (h2 w) ?_);refine WR.make hd hi 0 0 rfl rfl (W8 _) (by omega) (by omega) fun g w2 hn=>?_;refine WR.batch 1 [(0,.slice none 0 0),(d3,.slice (some ⟨g,0,none⟩) 0 0)] (h3 w2 g) (WR.fin hz.2.1 fun a ha=>go hK2 ?_ a ha);refine CW.zeroB s3 k3 (h4 w2 g) (CW.zeroB s4 k4 (h5 w2 g) (CW.zeroB s5 k5 (h6 w2 g) (CW.zeroB s6 k6 (h7 w2 g) ?_)));refine CW.seq fun K3 hK3=>CW.region (WR.batch 1 [(2,.bool true)] (h8 w2 g) (WR.fin hz.2.2 fun a ha=>go hK3 ?_ a ha));exact CW.ret (qv0 (.bool true) hr ⟨hn.chg,rfl⟩)
def jy7: ∀(vs:List Value) (o:Nat) (c:Array Value),(ya6 c o vs).size=c.size
 | [],_,_=>rfl
 |v::r,o,c=>by unfold ya6;rw [jy7 r];simp
def jh6 {c:Array Value} {o:Nat} {xs ys:List Value} (hx:c.toList.take o=xs) (ho:xs.length=o) (hf:o+ys.length<=c.size):(ya6 c o ys).toList.take (o+ys.length)=xs++ys:=by
 rw [qj8 ys o c hf,hx];exact List.take_left' (by simp [ho])
end Go.V
