import Derived.Test.YtampgjnliepkiaaGreatA1
import Derived.Laws.IdiomCopy
import Derived.Laws.Externs
set_option linter.defProp false
namespace Go.V
open Go.RowKit
section
variable {P:Program} {ops:Array Oper} {Q:Exit->Act->World->Prop} {k n:Nat} {ds:List Deferred} {F F':PF} {w w':World}
def WR.appendK {dst:Option Tmp} {t e:TypeId} {sz by_:Nat} {zc:Array Value} {B:Nat} {ad xd:Option Addr} {m cap xm xcap:Nat} {cs news:List Value} (ho:Own w B e sz ad m cap cs) (hx:Rg w xd news)
  (hd:jd2 ops k n F=some (dst,t,.slice ad m cap,.slice xd xm xcap)) (hi:zp5 P t=some (e,sz,by_,zc)) (hl:news.length=xm*sz) (hsz:0<sz) (h1: ∀u∈news,u.oneCell'=true) (hB:B<=w.heap.size)
  (h63:m+xm<=9223372036854775807) (hby:(m+xm)*by_<=140737488355328) (hnil:xd=none->xm=0/\xcap=0)
  (K: ∀ad' cap' w',Own w' B e sz ad' (m+xm) cap' (cs++news)->Own w' B e sz ad m cap cs->Chg (zc7 ad) w w'->((ad'=ad/\cap'=cap)\/(w.heap.size<=bk ad'/\Chg [] w w'))->WR P ops Q (k+1) n ds (upd F dst (.slice ad' (m+xm) cap')) w'):WR P ops Q k n ds F w:=by
 obtain ⟨o,hdec,rfl,hrun⟩:=yj0 hd;obtain ⟨i,z,hu,hin,hz,rfl,rfl,rfl,hzs⟩:=zd2 hi;have hmc:=ho.le;have addE: ∀(b off j:Nat),(⟨b,off,none⟩:Addr).add j=⟨b,off+j,none⟩:=fun b off j=>by unfold Addr.add;split<;>simp_all
 by_cases hx0:xm=0
 ·
  subst hx0;have hn:news= []:=T1 (by simpa using hl);subst hn;have hr:(Builtin.append_ #[t,t] o.type #[.slice ad m cap,.slice xd 0 xcap]).run P w=.ok (.slice ad m cap) w:=by
   cases ad with
   |none=>
    cases xd with
    |none=>simp [Builtin.append_,run_underlying hu,sizeOf,typeInfo,hin,Builtin.lenOf,Builtin.firstCells,hmc.1]
    |some a=>simp [Builtin.append_,run_underlying hu,sizeOf,typeInfo,hin,Builtin.lenOf,Builtin.firstCells,loadCells,loadCellsFrom,hmc.1]
   |some g=>
    cases xd with
    |none=>simp [Builtin.append_,run_underlying hu,sizeOf,typeInfo,hin,Builtin.lenOf,Builtin.firstCells,storeCells,hmc.1]
    |some a=>simp [Builtin.append_,run_underlying hu,sizeOf,typeInfo,hin,Builtin.lenOf,Builtin.firstCells,loadCells,loadCellsFrom,storeCells,hmc.1]
  exact .val hdec (v:=.slice ad (m+0) cap) (w':=w) (by rw [hrun,hr];rfl) (K ad cap w (by simpa using ho) ho (Chg.refl _ _) (.inl ⟨rfl,rfl⟩))
 ·have hxm:0<xm:=by omega
  have hne:news≠ []:=by
   intro e;rw [e] at hl;have:=Nat.mul_pos hxm hsz;simp at hl;omega
  obtain ⟨b,off,rfl⟩: ∃b off,xd=some ⟨b,off,none⟩:=by
   cases news with
   |nil=>exact absurd rfl hne
   |cons u r=>exact ⟨_,_,(hx 0 u rfl).1⟩
  have hnews: ∀j v,news[j]?=some v->w.cell? ((⟨b,off,none⟩:Addr).add j)=some v:=fun j v hj=>by rw [addE];exact (hx j v hj).2
  have hlen:(cs++news).length=(m+xm)*i.size:=by rw [X9,ho.len,hl,V5]
  have grown: ∀(old:Nat),Own (w.drew.alloc (.cells (cs.toArray++news.toArray++Builtin.zeroCells z.cells (grownCap w (m+xm) old e-(m+xm))) e)) B e i.size (some ⟨w.heap.size,0,none⟩) (m+xm) (grownCap w (m+xm) old e) (cs++news):=by
   intro old;have hge:=grownCap_ge w (m+xm) old e;have hcm:grownCap w (m+xm) old e<=maxLen:=grownCap_le_maxLen w (m+xm) old e (by unfold maxLen;omega);refine ⟨hlen,.inr ⟨w.heap.size,_,_,rfl,hB,heap_alloc_new w.drew _,hge,hcm,?_,?_⟩⟩
   ·have hs:cs.length+news.length=(m+xm)*i.size:=by rw [<-List.length_append];exact hlen
    have:(m+xm)*i.size+(grownCap w (m+xm) old e-(m+xm))*i.size=grownCap w (m+xm) old e*i.size:=by rw [<-Nat.add_mul];congr 1;omega
    simp only [Array.size_append,T2,size_zeroCells,hzs];omega
   ·simp only [Array.toList_append,Q2];rw [<-List.append_assoc,<-hlen];exact R2
  have hgc: ∀(old:Nat) (S:List Nat),Chg S w (w.drew.alloc (.cells (cs.toArray++news.toArray++Builtin.zeroCells z.cells (grownCap w (m+xm) old e-(m+xm))) e)):=
   fun old S=>⟨rfl,rfl,rfl,by simp,fun k hk _=>Below.heap_alloc w.drew _ k hk⟩
  rcases ho.cases with ⟨rfl,rfl,rfl,rfl⟩|⟨c',had,hBb,hbl,hmc',hcm',hcs,htk⟩
  ·have hr:=run_append_nil (P:=P) w t o.type e i z hu hin hz ⟨b,off,none⟩ xm xcap news hl hnews (by omega) (by omega) (by have hb:=hby;simp only [W8] at hb;omega);have hg:=grown 0;have hc:=hgc 0 (zc7 none);have hc0:=hgc 0 [];simp only [W8,U6,Array.empty_append] at hg hc hc0 hr;refine .val hdec (v:=.slice (some ⟨w.heap.size,0,none⟩) (0+xm) (grownCap w xm 0 e)) (by rw [hrun,hr,W8];rfl) (K _ _ _ (by simpa using hg) (Own.nil _ _ _ _) hc (.inr ⟨W6 _,hc0⟩))
  ·obtain ⟨g,rfl⟩: ∃g,ad=some ⟨g,0,none⟩:=⟨_,had⟩;by_cases hroom:m+xm<=cap
   ·have hfit:m*i.size+news.length<=c'.size:=by rw [hl,<-Nat.add_mul];exact W7 (Q9 _ hroom) hcs
    have hr:=run_append_room (P:=P) w t o.type e i hu hin g m cap c' hbl ⟨b,off,none⟩ xm xcap news hl hnews h1 hroom hfit;refine .val hdec (v:=.slice (some ⟨g,0,none⟩) (m+xm) cap) (by rw [hrun,hr];rfl) (K (some ⟨g,0,none⟩) cap _ ?_ ?_ ?_ (.inl ⟨rfl,rfl⟩))
    ·refine ⟨hlen,.inr ⟨g,cap,_,rfl,hBb,setRow_heap w g c' _ e _ hbl,hroom,hcm',?_,?_⟩⟩
     ·simp only [T2,X9,Y6,Q7,J1];omega
     ·rw [htk,<-hlen];exact R2
    ·refine ⟨ho.1,.inr ⟨g,cap,_,rfl,hBb,setRow_heap w g c' _ e _ hbl,hmc',hcm',?_,?_⟩⟩
     ·simp only [T2,X9,Y6,Q7,J1];omega
     ·rw [htk,Q2,<-ho.1];exact R2
    ·exact ⟨rfl,rfl,rfl,by simp,fun k _ hk=>setRow_other w g k _ (fun e=>hk (by simp [zc7,e]))⟩
   ·have holds: ∀j v,cs[j]?=some v->w.cell? ((⟨g,0,none⟩:Addr).add j)=some v:=fun j v hj=>by rw [addE];exact (ho.rg j v hj).2
    have hr:=run_append_grow (P:=P) w t o.type e i z hu hin hz ⟨g,0,none⟩ m cap cs ho.len holds ⟨b,off,none⟩ xm xcap news hl hnews (by omega) (by omega) (growslice_fits (by omega) hby);exact .val hdec (v:=.slice (some ⟨w.heap.size,0,none⟩) (m+xm) (grownCap w (m+xm) cap e)) (by rw [hrun,hr];rfl) (K _ _ _ (grown cap) (ho.pure (hgc cap [])) (hgc cap _) (.inr ⟨W6 _,hgc cap []⟩))
end
end Go.V
namespace Go.V
open Go.RowKit
structure RowA where
 ad:Option Addr
 len:Nat
 cap:Nat
def RowA.val (r:RowA):Value:=.slice r.ad r.len r.cap
def rb (L:List RowA):List Nat:=L.flatMap fun r=>zc7 r.ad
def zw9 {L:List RowA} {j:Nat} {r:RowA} (h:L[j]?=some r) {b:Nat} (hb:b∈zc7 r.ad):b∈rb L:=V6.2 ⟨r,X6 h,hb⟩
def Own.zero {w:World} {B:Nat} {e:TypeId} {sz:Nat} {ad:Option Addr} {n cap:Nat} {cs:List Value} (h:Own w B e sz ad n cap cs):Own w 0 e sz ad n cap cs:=by
 obtain ⟨h1,h2|⟨g,cap',c,h3,h4,h5,h6,h7,h8,h9⟩⟩:=h
 ·exact ⟨h1,.inl h2⟩
 ·exact ⟨h1,.inr ⟨g,cap',c,h3,U3 _,h5,h6,h7,h8,h9⟩⟩
def Own.pre {w:World} {B:Nat} {e:TypeId} {sz:Nat} {ad:Option Addr} {n cap:Nat} {cs:List Value} (h:Own w B e sz ad n cap cs) {m:Nat} (hm:m<=n):Own w B e sz ad m cap (cs.take (m*sz)):=by
 have hl:=h.len;have hz:m*sz<=n*sz:=Q9 _ hm;rcases h.cases with ⟨rfl,rfl,rfl,rfl⟩|⟨c,had,hB,hb,hnc,hcm,hs,ht⟩
 ·have:m=0:=by omega
  subst this;simpa using h
 ·obtain ⟨g,rfl⟩: ∃g,ad=some ⟨g,0,none⟩:=⟨_,had⟩;refine ⟨by rw [Y6,hl];omega,.inr ⟨g,cap,c,rfl,hB,hb,by omega,hcm,hs,?_⟩⟩;rw [<-ht,T8];congr 1;omega
structure Mk where
 z:Nat
 ok:Nat->List Value->Nat->Prop
abbrev m1 (m:Nat->Nat->Value):Mk:=⟨1,fun k c q=>c[q]?=some (m k q)⟩
structure RowsA (w:World) (e:TypeId) (m:Mk) (K:Nat->Nat->Prop) (L:List RowA):Prop where
 own: ∀(j:Nat) (r:RowA),L[j]?=some r-> ∃c,Own w 0 e m.z r.ad r.len r.cap c/\ ∀q,K j q->q<r.len->m.ok j c q
 ap: ∀(i j:Nat) (r s:RowA),i≠j->L[i]?=some r->L[j]?=some s->Apart r.ad s.ad
section
variable {w w':World} {e:TypeId} {m:Mk} {K K':Nat->Nat->Prop} {L G:List RowA}
def RowsA.weak (h:RowsA w e m K L) (hK: ∀(j q:Nat) (r:RowA),L[j]?=some r->q<r.len->K' j q->K j q):RowsA w e m K' L:=
 ⟨fun j r hj=>by obtain ⟨c,h1,h2⟩:=h.own j r hj;exact ⟨c,h1,fun q hq hl=>h2 q (hK j q r hj hl hq) hl⟩,h.ap⟩
def RowsA.chg (h:RowsA w e m K L) {S:List Nat} (hc:Chg S w w') (hS: ∀b∈rb L,b∉S):RowsA w' e m K L:=
 ⟨fun j r hj=>by
  obtain ⟨c,h1,h2⟩:=h.own j r hj;refine ⟨c,h1.chg hc ?_,h2⟩;cases had:r.ad with
  |none=>exact .inr rfl
  |some a=>exact .inl (hS _ (zw9 hj (by rw [had];exact Q5.2 rfl))),h.ap⟩
def RowsA.upd (h:RowsA w e m K L) {k:Nat} {r:RowA} (hk:L[k]?=some r) (hc:Chg (zc7 r.ad) w w') {c:List Value} (ho:Own w' 0 e m.z r.ad r.len r.cap c) (hm: ∀q,K' k q->q<r.len->m.ok k c q)
  (hK: ∀j q,j≠k->K' j q->K j q):RowsA w' e m K' L:=
 ⟨fun j s hj=>by
  by_cases hjk:j=k
  ·subst hjk;rw [hk] at hj;cases hj;exact ⟨c,ho,hm⟩
  ·obtain ⟨c',h1,h2⟩:=h.own j s hj;exact ⟨c',h1.chg hc (h.ap j k s r hjk hj hk).off,fun q hq hl=>h2 q (hK j q hjk hq) hl⟩,h.ap⟩
def RowsA.lt (h:RowsA w e m K L) {b:Nat} (hb:b∈rb L):b<w.heap.size:=by
 obtain ⟨r,hr,hb⟩:=V6.1 hb;obtain ⟨j,hj⟩:=List.getElem?_of_mem hr;obtain ⟨c,h1,_⟩:=h.own j r hj;rcases h1.ge with h2|h2
 ·rw [h2] at hb;cases hb
 ·cases had:r.ad with
  |none=>rw [had] at hb;cases hb
  |some a=>rw [had] at hb h2;rw [Q5.1 hb];exact h2.2
structure Two (w:World) (B:Nat) (e:TypeId) (m:Mk) (K:Nat->Nat->Prop) (L G:List RowA):Prop where
 ls:RowsA w e m (fun _ _=>True) L
 gs:RowsA w e m K G
 x: ∀(i j:Nat) (r s:RowA),i≠j->G[i]?=some r->L[j]?=some s->Apart r.ad s.ad
 same: ∀(k:Nat) (r g:RowA),L[k]?=some r->G[k]?=some g->(g.ad=r.ad/\g.cap=r.cap/\r.len<=g.len)\/Apart g.ad r.ad
 ge: ∀(k:Nat) (r g:RowA),L[k]?=some r->G[k]?=some g->r.len<=g.len
 org: ∀b∈rb G,b∈rb L\/B<=b
def Two.start {B:Nat} (h:RowsA w e m (fun _ _=>True) L):Two w B e m K L []:=
 ⟨h,⟨fun j r hj=>by simp at hj,fun i j r s _ hj=>by simp at hj⟩,fun i j r s _ hj=>by simp at hj,fun k r g _ hj=>by simp at hj,fun k r g _ hj=>by simp at hj,fun b hb=>by cases hb⟩
def Two.chg {B:Nat} (h:Two w B e m K L G) {S:List Nat} (hc:Chg S w w') (hS: ∀b∈rb L,b∉S) (hG: ∀b∈rb G,b∉S):Two w' B e m K L G:=
 ⟨h.ls.chg hc hS,h.gs.chg hc hG,h.x,h.same,h.ge,h.org⟩
def Two.next {B:Nat} (h:Two w B e m K L G) {r:RowA} (hr:L[G.length]?=some r):Two w B e m K L (G++ [r]):=by
 have get: ∀j s,(G++ [r])[j]?=some s->(j<G.length/\G[j]?=some s)\/(j=G.length/\s=r):=by
  intro j s hs;rcases U7 j G.length with hj|hj
  ·rw [X8 hj] at hs;exact .inl ⟨hj,hs⟩
  ·rw [Z2 hj] at hs;have:j-G.length=0:=by
    rcases N0 (j-G.length) with h0|h0
    ·exact h0
    ·rw [Y5 (by simp;omega)] at hs;cases hs
   rw [this] at hs;exact .inr ⟨by omega,(X5 hs).symm⟩
 refine ⟨h.ls,⟨fun j s hs=>?_,fun i j s t hij hs ht=>?_⟩,fun i j s t hij hs ht=>?_,fun k s g hs hg=>?_,fun k s g hs hg=>?_,fun b hb=>?_⟩
 ·rcases get j s hs with ⟨_,h1⟩|⟨rfl,rfl⟩
  ·exact h.gs.own j s h1
  ·obtain ⟨c,h1,h2⟩:=h.ls.own _ _ hr;exact ⟨c,h1,fun q _ hl=>h2 q trivial hl⟩
 ·rcases get i s hs with ⟨h1,h2⟩|⟨rfl,rfl⟩<;>rcases get j t ht with ⟨h3,h4⟩|⟨rfl,rfl⟩
  ·exact h.gs.ap i j s t hij h2 h4
  ·exact h.x i _ s _ hij h2 hr
  ·exact (h.x j _ t _ (Ne.symm hij) h4 hr).symm
  ·exact absurd rfl hij
 ·rcases get i s hs with ⟨h1,h2⟩|⟨rfl,rfl⟩
  ·exact h.x i j s t hij h2 ht
  ·exact h.ls.ap _ j _ t hij hr ht
 ·rcases get k g hg with ⟨h1,h2⟩|⟨rfl,rfl⟩
  ·exact h.same k s g hs h2
  ·rw [hr] at hs;cases hs;exact .inl ⟨rfl,rfl,W6 _⟩
 ·rcases get k g hg with ⟨h1,h2⟩|⟨rfl,rfl⟩
  ·exact h.ge k s g hs h2
  ·rw [hr] at hs;cases hs;exact W6 _
 ·unfold rb at hb;rw [J0,X4] at hb;rcases hb with hb|hb
  ·exact h.org b hb
  ·exact .inl (zw9 hr (by simpa using hb))
def Two.grow {B:Nat} {g:RowA} (h:Two w B e m K L (G++ [g])) {r:RowA} (hr:L[G.length]?=some r) {c c':List Value} {ad':Option Addr} {n' cap':Nat} (hB:B<=w.heap.size)
  (ho:Own w' 0 e m.z ad' n' cap' c') (hold:Own w' 0 e m.z g.ad g.len g.cap c) (hc0:Own w 0 e m.z g.ad g.len g.cap c) (hc:Chg (zc7 g.ad) w w') (had:(ad'=g.ad/\cap'=g.cap)\/(w.heap.size<=bk ad'/\Chg [] w w')) (hn:g.len<=n')
  (hm: ∀q,K' G.length q->q<n'->m.ok G.length c' q) (hK: ∀j q,j<G.length->K' j q->K j q):
  Two w' B e m K' L (G++ [⟨ad',n',cap'⟩]):=by
 have hgg:(G++ [g])[G.length]?=some g:=by rw [Z2 (W6 _)];simp
 have lift: ∀j s,j<G.length->G[j]?=some s->(G++ [g])[j]?=some s:=fun j s hj hs=>by rw [X8 hj];exact hs
 have get: ∀j s,(G++ [(⟨ad',n',cap'⟩:RowA)])[j]?=some s->(j<G.length/\G[j]?=some s)\/(j=G.length/\s=⟨ad',n',cap'⟩):=by
  intro j s hs;rcases U7 j G.length with hj|hj
  ·rw [X8 hj] at hs;exact .inl ⟨hj,hs⟩
  ·rw [Z2 hj] at hs;have:j-G.length=0:=by
    rcases N0 (j-G.length) with h0|h0
    ·exact h0
    ·rw [Y5 (by simp;omega)] at hs;cases hs
   rw [this] at hs;exact .inr ⟨by omega,(X5 hs).symm⟩
 have hls:RowsA w' e m (fun _ _=>True) L:=by
  refine ⟨fun j s hs=>?_,h.ls.ap⟩;obtain ⟨d,h1,h2⟩:=h.ls.own j s hs;by_cases hj:j=G.length
  ·subst hj;rw [hr] at hs;cases hs;rcases h.same _ _ _ hr hgg with ⟨e1,e2,e3⟩|hap
   ·have hp:=hold.pre e3;rw [e1,e2] at hp;refine ⟨_,hp,fun q hq hl=>?_⟩;have hp0:=hc0.pre e3;rw [e1,e2] at hp0;have hsame:d=c.take (r.len*m.z):=by
     have hl1:=h1.len;have hl2:=hp0.len;refine R7 fun q=>?_;rcases U7 q (r.len*m.z) with hq'|hq'
     ·have q1:=(h1.rg q d[q] (Y0 (by omega))).2;have q2:=(hp0.rg q (c.take (r.len*m.z))[q] (Y0 (by omega))).2;rw [q1] at q2;rw [Y0 (by omega),Y0 (by omega),X5 q2]
     ·rw [Y5 (by omega),Y5 (by omega)]
    rw [<-hsame];exact h2 q hq hl
   ·exact ⟨d,h1.chg hc hap.symm.off,h2⟩
  ·exact ⟨d,h1.chg hc (h.x _ j _ s (Ne.symm hj) hgg hs).symm.off,h2⟩
 have fresh: ∀(s:Option Addr),(∀b∈zc7 s,b<w.heap.size)->w.heap.size<=bk ad'->Apart ad' s:=by
  intro s hs hge;cases s with
  |none=>exact .inr (.inl rfl)
  |some a=>
   refine .inr (.inr fun e=>?_);have:=hs a.block (Q5.2 rfl);have e':bk ad'=a.block:=e;omega
 have apG: ∀i s,i<G.length->G[i]?=some s->Apart ad' s.ad:=by
  intro i s hi hs;rcases had with ⟨rfl,rfl⟩|⟨hge,_⟩
  ·exact h.gs.ap _ i _ _ (by omega) hgg (lift i s hi hs)
  ·exact fresh _ (fun b hb=>h.gs.lt (zw9 (lift i s hi hs) hb)) hge
 have apL: ∀j s,j≠G.length->L[j]?=some s->Apart ad' s.ad:=by
  intro j s hj hs;rcases had with ⟨rfl,rfl⟩|⟨hge,_⟩
  ·exact h.x _ j _ _ (Ne.symm hj) hgg hs
  ·exact fresh _ (fun b hb=>h.ls.lt (zw9 hs hb)) hge
 refine ⟨hls,⟨fun j s hs=>?_,fun i j s t hij hs ht=>?_⟩,fun i j s t hij hs ht=>?_,fun k s q hs hq=>?_,fun k s q hs hq=>?_,fun b hb=>?_⟩
 ·rcases get j s hs with ⟨h1,h2⟩|⟨rfl,rfl⟩
  ·obtain ⟨d,h3,h4⟩:=h.gs.own j s (lift j s h1 h2);exact ⟨d,h3.chg hc (h.gs.ap j _ s _ (by omega) (lift j s h1 h2) hgg).off,fun q hq hl=>h4 q (hK j q h1 hq) hl⟩
  ·exact ⟨c',ho,hm⟩
 ·rcases get i s hs with ⟨h1,h2⟩|⟨rfl,rfl⟩<;>rcases get j t ht with ⟨h3,h4⟩|⟨rfl,rfl⟩
  ·exact h.gs.ap i j s t hij (lift i s h1 h2) (lift j t h3 h4)
  ·exact (apG i s h1 h2).symm
  ·exact apG j t h3 h4
  ·exact absurd rfl hij
 ·rcases get i s hs with ⟨h1,h2⟩|⟨rfl,rfl⟩
  ·exact h.x i j s t hij (lift i s h1 h2) ht
  ·exact apL j t (Ne.symm hij) ht
 ·rcases get k q hq with ⟨h1,h2⟩|⟨rfl,rfl⟩
  ·exact h.same k s q hs (lift k q h1 h2)
  ·rw [hr] at hs;cases hs;rcases had with ⟨rfl,rfl⟩|⟨hge,_⟩
   ·rcases h.same _ _ _ hr hgg with ⟨e1,e2,e3⟩|hap
    ·exact .inl ⟨e1,e2,W7 e3 hn⟩
    ·exact .inr hap
   ·exact .inr (fresh _ (fun b hb=>h.ls.lt (zw9 hr hb)) hge)
 ·rcases get k q hq with ⟨h1,h2⟩|⟨rfl,rfl⟩
  ·exact h.ge k s q hs (lift k q h1 h2)
  ·rw [hr] at hs;cases hs;exact W7 (h.ge _ _ _ hr hgg) hn
 ·unfold rb at hb;rw [J0,X4] at hb;rcases hb with hb|hb
  ·exact h.org b (by unfold rb;rw [J0];exact X4.2 (.inl hb))
  ·have hb:b∈zc7 ad':=by simpa using hb
   rcases had with ⟨rfl,rfl⟩|⟨hge,_⟩
   ·exact h.org b (by unfold rb;rw [J0];exact X4.2 (.inr (by simpa using hb)))
   ·cases ad' with
    |none=>cases hb
    |some a=>
     rw [Q5.1 hb];exact .inr (W7 hB hge)
end
structure St (w:World) (B:Nat) (e rt:TypeId) (m:Mk) (K:Nat->Nat->Prop) (L G:List RowA) (lad:Option Addr) (gb:Nat):Prop where
 two:Two w B e m K L G
 lrd:Rg w lad (L.map RowA.val)
 gown: ∃vs,Own w 0 rt 1 (some ⟨gb,0,none⟩) L.length L.length vs/\ ∀(j:Nat) (g:RowA),G[j]?=some g->vs[j]?=some g.val
 lad:L= []\/(bk lad∉rb L/\bk lad<B/\bk lad≠gb)
 gad:gb∉rb L/\gb∉rb G/\B<=gb
section
variable {w w':World} {B:Nat} {e rt:TypeId} {m:Mk} {K K':Nat->Nat->Prop} {L G:List RowA} {lad:Option Addr} {gb:Nat}
def St.pure (h:St w B e rt m K L G lad gb) (hc:Chg [] w w'):St w' B e rt m K L G lad gb:=
 ⟨h.two.chg hc (by simp) (by simp),h.lrd.pure hc,by obtain ⟨vs,h1,h2⟩:=h.gown;exact ⟨vs,h1.pure hc,h2⟩,h.lad,h.gad⟩
def St.put (h:St w B e rt m K L G lad gb) {g:RowA} (h2:Two w B e m K L (G++ [g])) {vs:List Value} (hv: ∀(j:Nat) (g:RowA),G[j]?=some g->vs[j]?=some g.val) (hl:G.length<L.length) (hc:Chg [gb] w w') (ho:Own w' 0 rt 1 (some ⟨gb,0,none⟩) L.length L.length (vs.set G.length g.val)) (hvl:vs.length=L.length) (hg:gb∉zc7 g.ad):St w' B e rt m K L (G++ [g]) lad gb:=by
 have hG:gb∉rb (G++ [g]):=by
  unfold rb;rw [J0,X4]
  rintro (hb|hb)
  ·exact h.gad.2.1 hb
  ·exact hg (by simpa using hb)
 refine ⟨h2.chg hc (fun b hb hm=>?_) (fun b hb hm=>?_),h.lrd.chg hc ?_,⟨_,ho,fun j s hs=>?_⟩,h.lad,h.gad.1,hG,h.gad.2.2⟩
 ·rw [Q5.1 hm] at hb;exact h.gad.1 hb
 ·rw [Q5.1 hm] at hb;exact hG hb
 ·rcases h.lad with h0|⟨_,_,h3⟩
  ·exact .inr (by rw [h0];rfl)
  ·exact .inl (by simpa using h3)
 ·rcases U7 j G.length with hj|hj
  ·rw [X8 hj] at hs;rw [Z5 (by omega)];exact hv j s hs
  ·rw [Z2 hj] at hs;have:j-G.length=0:=by
    rcases N0 (j-G.length) with h0|h0
    ·exact h0
    ·rw [Y5 (by simp;omega)] at hs;cases hs
   rw [this] at hs;have hj':j=G.length:=by omega
   subst hj';rw [Q0 (by omega)];rw [<-Option.some.inj hs]
def St.chg (h:St w B e rt m K L G lad gb) {S:List Nat} (hc:Chg S w w') (h1: ∀b∈rb L,b∉S) (h2: ∀b∈rb G,b∉S) (h3:gb∉S) (h4:L= []\/bk lad∉S):St w' B e rt m K L G lad gb:=by
 obtain ⟨vs,g1,g2⟩:=h.gown;refine ⟨h.two.chg hc h1 h2,h.lrd.chg hc ?_,⟨vs,g1.chg hc (.inl h3),g2⟩,h.lad,h.gad⟩;rcases h4 with h4|h4
 ·exact .inr (by rw [h4];rfl)
 ·exact .inl h4
def St.again (h:St w B e rt m K L G lad gb):St w B e rt m K' L [] lad gb:=by
 obtain ⟨vs,g1,_⟩:=h.gown;exact ⟨.start h.two.ls,h.lrd,⟨vs,g1,fun j g hj=>by simp at hj⟩,h.lad,h.gad.1,(fun hb=>by cases hb),h.gad.2.2⟩
def St.made {w0:World} {zc:Array Value} (h:RowsA w e m (fun _ _=>True) L) (hl:Rg w lad (L.map RowA.val)) (hc:Chg (rb L) w0 w) (hl0:Rg w0 lad (L.map RowA.val)) (hla:L= []\/bk lad∉rb L) (hn:New w w' gb (madeCells zc (L.length*1)) rt) (hb:L.length<=9223372036854775807):St w' w0.heap.size e rt m K L [] lad gb:=by
 have hge:w0.heap.size<=gb:=W7 hc.size hn.fresh;refine ⟨.start (h.chg hn.chg (by simp)),hl.pure hn.chg,⟨_,(Own.made hn (W6 _) hb).zero,fun j g hj=>by simp at hj⟩,?_,(fun hm=>?_),(fun hm=>by cases hm),hge⟩
 ·rcases hla with hla|hla
  ·exact .inl hla
  ·by_cases hL:L= []
   ·exact .inl hL
   ·have hlt:=hl0.lt (by cases L with|nil=>exact absurd rfl hL|cons=>simp);exact .inr ⟨hla,hlt,by omega⟩
 ·have:=h.lt hm;have:=hn.fresh;omega
def St.lt (h:St w B e rt m K L G lad gb):gb<w.heap.size:=by
 obtain ⟨vs,g1,_⟩:=h.gown;rcases g1.ge with h1|h1
 ·cases h1
 ·exact h1.2
def St.newOff (h:St w B e rt m K L G lad gb) {mb:Nat} (hm:w.heap.size<=mb):mb∉rb L/\mb∉rb G/\mb≠gb/\(L= []\/bk lad≠mb):=by
 refine ⟨fun hb=>by have:=h.two.ls.lt hb;omega,fun hb=>by have:=h.two.gs.lt hb;omega,by have:=h.lt;omega,?_⟩;by_cases hL:L= []
 ·exact .inl hL
 ·have hlt:=h.lrd.lt (by cases L with|nil=>exact absurd rfl hL|cons=>simp);exact .inr (by omega)
def Two.init {g:RowA} (h:Two w B e m K L (G++ [g])):Two w B e m K L G:=by
 have lift: ∀(j:Nat) (s:RowA),G[j]?=some s->(G++ [g])[j]?=some s:=fun j s hs=>by rw [X8 (X2.1 hs).1];exact hs
 exact ⟨h.ls,⟨fun j s hs=>h.gs.own j s (lift j s hs),fun i j s t hij hs ht=>h.gs.ap i j s t hij (lift i s hs) (lift j t ht)⟩,fun i j s t hij hs ht=>h.x i j s t hij (lift i s hs) ht,fun k s q hs hq=>h.same k s q hs (lift k q hq),fun k s q hs hq=>h.ge k s q hs (lift k q hq),
  fun b hb=>h.org b (by unfold rb;rw [J0];exact X4.2 (.inl hb))⟩
structure Stg (w:World) (B:Nat) (e rt:TypeId) (m:Mk) (K:Nat->Nat->Prop) (L G:List RowA) (g:RowA) (lad:Option Addr) (gb:Nat):Prop where
 st:St w B e rt m K L G lad gb
 two:Two w B e m K L (G++ [g])
 off:gb∉zc7 g.ad
def Stg.next (h:St w B e rt m K L G lad gb) {r:RowA} (hr:L[G.length]?=some r):Stg w B e rt m K L G r lad gb:=⟨h,h.two.next hr,fun hb=>h.gad.1 (zw9 hr hb)⟩
def Stg.pure {g:RowA} (h:Stg w B e rt m K L G g lad gb) (hc:Chg [] w w'):Stg w' B e rt m K L G g lad gb:=⟨h.st.pure hc,h.two.chg hc (by simp) (by simp),h.off⟩
def Stg.last {g:RowA} (h:Stg w B e rt m K L G g lad gb): ∃c,Own w 0 e m.z g.ad g.len g.cap c/\ ∀q,K G.length q->q<g.len->m.ok G.length c q:=h.two.gs.own _ g (by rw [Z2 (W6 _)];simp)
def Stg.org {g:RowA} (h:Stg w B e rt m K L G g lad gb): ∀t∈zc7 g.ad,t∈rb L\/B<=t:=fun t ht=>h.two.org t (zw9 (L:=G++ [g]) (j:=G.length) (r:=g) (by rw [Z2 (W6 _)];simp) ht)
def Stg.grow {g:RowA} (h:Stg w B e rt m K L G g lad gb) {r:RowA} (hr:L[G.length]?=some r) {c c':List Value} {ad':Option Addr} {n' cap':Nat}
  (ho:Own w' 0 e m.z ad' n' cap' c') (hold:Own w' 0 e m.z g.ad g.len g.cap c) (hc0:Own w 0 e m.z g.ad g.len g.cap c) (hc:Chg (zc7 g.ad) w w') (had:(ad'=g.ad/\cap'=g.cap)\/(w.heap.size<=bk ad'/\Chg [] w w')) (hn:g.len<=n')
  (hm: ∀q,K G.length q->q<n'->m.ok G.length c' q):Stg w' B e rt m K L G ⟨ad',n',cap'⟩ lad gb:=by
 have hB:B<=w.heap.size:=by have:=h.st.lt;have:=h.st.gad.2.2;omega
 have h2:=h.two.grow (K':=K) hr hB ho hold hc0 hc had hn hm fun _ _ _ h=>h;obtain ⟨vs,g1,g2⟩:=h.st.gown;refine ⟨⟨h2.init,h.st.lrd.chg hc ?_,⟨vs,g1.chg hc (.inl h.off),g2⟩,h.st.lad,h.st.gad⟩,h2,?_⟩
 ·rcases h.st.lad with h0|⟨h1,h2,_⟩
  ·exact .inr (by rw [h0];rfl)
  ·refine .inl fun hb=>?_;rcases h.org _ hb with h3|h3
   ·exact h1 h3
   ·omega
 ·rcases had with ⟨rfl,rfl⟩|⟨hge,_⟩
  ·exact h.off
  ·cases ad' with
   |none=>exact fun hb=>by cases hb
   |some a=>
    intro hb;have hb:gb=a.block:=Q5.1 hb;have:=h.st.lt;have hge:w.heap.size<=a.block:=hge;omega
def Stg.put {g:RowA} (h:Stg w B e rt m K L G g lad gb) {vs:List Value} (hv: ∀(j:Nat) (g:RowA),G[j]?=some g->vs[j]?=some g.val) (hl:G.length<L.length) (hc:Chg [gb] w w') (ho:Own w' 0 rt 1 (some ⟨gb,0,none⟩) L.length L.length (vs.set G.length g.val)) (hvl:vs.length=L.length):St w' B e rt m K L (G++ [g]) lad gb:=
 h.st.put h.two hv hl hc ho hvl h.off
end
section
variable {P:Program} {Q:Exit->Act->World->Prop} {n:Nat} {ds:List Deferred} {F:PF} {w:World}
def CW.count {σ:Type} {Rc body Rs:Code} {c id:Nat} (N:Nat) (J:Nat->σ->World->Prop) (FF:Nat->σ->PF) (FB:Nat->σ->PF) (s0:σ) (h0:J 0 s0 w) (l:List Nat) (hF:F.keep l=FF 0 s0) (lk:List Nat) (hk: ∀i s b,PF.keep ((c,.bool b)::FF i s) lk=FF i s)
  (hcond: ∀i s w Q,i<=N->J i s w->(∀a,Fr n ds ((c,.bool (decide ((i:Int)<(N:Int))))::FF i s) a->Q .normal a w)->CW P Rc Q n ds (FF i s) w)
  (hbody: ∀i s w Q,i<N->J i s w->(∀s' w' a,J (i+1) s' w'->Fr n ds (FB i s') a->Q .normal a w')->CW P body Q n ds (FF i s) w)
  (hstep: ∀i s w Q,i<N->(∀a,Fr n ds (FF (i+1) s) a->Q .normal a w)->CW P Rs Q n ds (FB i s) w)
  (K: ∀s w' a,J N s w'->Fr n ds (FF N s) a->Q .normal a w'):CW P (.block id (.loop (.seq (.seq Rc (.cond (.tmp c) .skip (.exit id))) (.seq body Rs)))) Q n ds F w:=by
 refine CW.block (CW.loop (fun s:Nat×σ=>fun w=>s.1<=N/\J s.1 s.2 w) (fun s=>FF s.1 s.2) (fun s=>N-s.1) (0,s0) ⟨U3 _,h0⟩ l hF ?_)
 rintro ⟨i,s⟩ w ⟨hi,hJ⟩
 refine CW.seq fun K1 hK1=>CW.seq fun K2 hK2=>hcond i s w _ hi hJ fun a ha=>?_;refine go hK2 ?_ a ha;have hev:ev ((c,Value.bool (decide ((i:Int)<(N:Int))))::FF i s) (.tmp c)=some (.bool (decide ((i:Int)<(N:Int)))):=by
  show PF.get _ c=_;simp [PF.get]
 refine CW.cond (decide ((i:Int)<(N:Int))) hev (fun ht=>CW.skip fun a ha=>?_) fun hf=>CW.exit fun a ha=>?_
 ·have hlt:i<N:=by have:=of_decide_eq_true ht;omega
  refine go hK1 ?_ a ha;refine CW.keep lk (hk i s _) ?_;refine CW.seq fun K3 hK3=>hbody i s w _ hlt hJ fun s' w' a hJ' ha=>?_;refine go hK3 ?_ a ha;exact hstep i s' w' _ hlt fun a ha=>⟨(i+1,s'),⟨hlt,hJ'⟩,by show N-(i+1)<N-i;omega,ha⟩
 ·have hge: ¬i<N:=fun h=>by have:=of_decide_eq_false hf;omega
  have he:i=N:=by omega
  subst he;show Exit.inBlock id Q (.exit id) a w;simp only [Exit.inBlock,if_true];exact K s w a hJ (ha.keep lk (hk i s _))
variable {ops:Array Oper}
def CW.zero {a b id c:Nat} {oi oc:Array Oper} {body Rs rest:Code} (F1:PF) (hI: ∀Q,(∀a,Fr n ds F1 a->Q .normal a w)->WR P oi Q 0 n ds F w) (hC: ∀Q,(∀a,Fr n ds ((c,.bool false)::F1) a->Q .normal a w)->WR P oc Q 0 n ds F1 w)
  (l:List Nat) (hk:PF.keep ((c,.bool false)::F1) l=F) (l1:List Nat) (hk1:F1.keep l1=F1) (K:CW P rest Q n ds F w):CW P (.seq (.seq (.region a oi false) (.block id (.loop (.seq (.seq (.region b oc false) (.cond (.tmp c) .skip (.exit id))) (.seq body Rs))))) rest) Q n ds F w:=by
 refine CW.seq fun K1 hK1=>CW.seq fun K2 hK2=>CW.region (hI _ fun a ha=>go hK2 ?_ a ha);refine CW.block (CW.loop (fun (_:Unit) w'=>w'=w) (fun _=>F1) (fun _=>0) () rfl l1 hk1 ?_)
 ·rintro _ w' rfl
  refine CW.seq fun K3 hK3=>CW.seq fun K4 hK4=>CW.region (hC _ fun a ha=>go hK4 ?_ a ha);refine CW.no ?_ (CW.exit fun a ha=>?_)
  ·show PF.get _ c=_;simp [PF.get]
  ·show Exit.inBlock id (Exit.then K1 Q) (.exit id) a _;simp only [Exit.inBlock,if_true];exact go hK1 K a (ha.keep l hk)
def WR.sub {k:Nat} (F':PF) (h:F.keep (F'.map Prod.fst)=F') (K:WR P ops Q k n ds F' w):WR P ops Q k n ds F w:=fun a ha=>K a (ha.keep _ h)
def CW.regionL {id:Nat} (m:Nat) (fx:List (Option Value)) (F1:PF) (hGF: ∀u,zp8 ops (fxU fx u) 0 m++F=F1) (hdep:vw6 ops m=true) (hm:P.follows .mixedOrders=true) (hsuf:(Nat.ble m ops.size&&(va0 ops m&&(zf9 (yo0 ops m)&&(zl4 ops&&zh7 ops m))))=true)
  (hd:(yo0 ops m).all (fun d=>Nat.blt d n)=true)
  (ob:ve6 P ops n ds fx (fun _=>F1) (fun w'=>Chg [] w w') (fun _ _ _=>True) (fun i wq v=>([]:List Nat).contains i=true->zt7 v=none\/wq.heap.size<=bk (zt7 v)) [] [] (fun _ _=>True) 0 m)
  (K: ∀w',Chg [] w w'->WR P ops Q m n ds F1 w'):CW P (.region id ops true) Q n ds F w:=
 CW.regionG m fx (fun _=>F1) hGF hdep [] (fun _ _=>True) (fun _=>trivial) (fun _ _ _ _ _ _ _=>trivial) [] [] rfl (fun w'=>Chg [] w w') (fun _ _ _=>True) (fun j x w hj _=>absurd hj (by simp)) rfl hm hsuf hd (Chg.drew w)
  (fun _ _ _ h h'=>h.step h' (fun t ht=>.inl (wb2 t ht))) (fun _ _ _ _ _ _ _ _=>trivial) ob fun _ w' hw' _ _ _=>K w' hw'
def obL {i m:Nat} {fx:List (Option Value)} {F1:PF} (h: ∀w',Chg [] w w'-> ∀Q':Exit->Act->World->Prop,(∀v w'' a,RX fx (fun _ _ _=>True) i v w''->Chg [] w' w''->Fr n ds (upd F1 (zf3 ops i) v) a->Q' .normal a w'')->WR P (ops.extract 0 (i+1)) Q' i n ds F1 w')
  (K:ve6 P ops n ds fx (fun _=>F1) (fun w'=>Chg [] w w') (fun _ _ _=>True) (fun i wq v=>([]:List Nat).contains i=true->zt7 v=none\/wq.heap.size<=bk (zt7 v)) [] [] (fun _ _=>True) (i+1) m):
  ve6 P ops n ds fx (fun _=>F1) (fun w'=>Chg [] w w') (fun _ _ _=>True) (fun i wq v=>([]:List Nat).contains i=true->zt7 v=none\/wq.heap.size<=bk (zt7 v)) [] [] (fun _ _=>True) i (m+1):=by
 refine ⟨fun u w' hw' _ _ _=>h w' hw' _ fun v w'' a hv hc ha=>?_,K⟩;exact ⟨hc,v,ha,⟨fun h=>absurd h (by simp),fun p hp=>by cases hp⟩,hv⟩
end
end Go.V
namespace Go.V
open Go.RowKit
section
variable {P:Program} {ops:Array Oper} {Q:Exit->Act->World->Prop} {k n:Nat} {ds:List Deferred} {F:PF} {w:World}
end
section
variable {P:Program} {Q:Exit->Act->World->Prop} {n:Nat} {ds:List Deferred} {F:PF} {w:World}
end
def kc9 (P:Program) (oi oc:Array Oper) (n s c:Nat) (F:PF) (w:World):Option ((PF×World)×(PF×World)×PF×PF×Bool):=
 match evK P oi n 1 0 F w,evK P oc n 4 0 (F++ [(s,.int .i64 0)]) w with
 |some (G,w1),some (H,w2)=>some ((G.keep ((F++ [(s,Value.int .i64 0)]).map Prod.fst),w1),(H.keep (((c,Value.bool false)::(F++ [(s,Value.int .i64 0)])).map Prod.fst),w2),PF.keep ((c,.bool false)::(F++ [(s,Value.int .i64 0)])) (F.map Prod.fst),(F++ [(s,Value.int .i64 0)]).keep ((F++ [(s,Value.int .i64 0)]).map Prod.fst),Nat.ble oi.size 1&&Nat.ble oc.size 4)
 |_,_=>none
section
variable {P:Program} {Q:Exit->Act->World->Prop} {n:Nat} {ds:List Deferred} {F:PF} {w:World}
def CW.zeroB {a b id:Nat} {oi oc:Array Oper} {body Rs rest:Code} (s c:Nat) (h:kc9 P oi oc n s c F w=some ((F++ [(s,.int .i64 0)],w),((c,.bool false)::(F++ [(s,.int .i64 0)]),w),F,F++ [(s,.int .i64 0)],true))
  (K:CW P rest Q n ds F w):CW P (.seq (.seq (.region a oi false) (.block id (.loop (.seq (.seq (.region b oc false) (.cond (.tmp c) .skip (.exit id))) (.seq body Rs))))) rest) Q n ds F w:=by
 unfold kc9 at h;split at h
 ·rename_i G w1 H w2 h1 h2;simp only [X0,X7,X3] at h;obtain ⟨⟨e1,rfl⟩,⟨e2,rfl⟩,e3,e4,e5,e6⟩:=h;refine CW.zero (F++ [(s,.int .i64 0)]) (fun Q hq=>WR.batch 1 _ ?_ (WR.fin e5 hq)) (fun Q hq=>WR.batch 4 _ ?_ (WR.fin e6 hq)) (F.map Prod.fst) e3 ((F++ [(s,Value.int .i64 0)]).map Prod.fst) e4 K
  ·rw [h1];exact congrArg (fun x=>some (x,_)) e1
  ·rw [h2];exact congrArg (fun x=>some (x,_)) e2
 ·cases h
end
def zi2 {P:Program} {f:FuncId} {fn:Func} {n a0 a1 b1 i1 a2 a3 b3 i3 a4 b4 i4 a5 b5 i5 a6 b6 i6 a7:Nat} {o0 o1 c1 o2 o3 q3 o4 q4 o5 q5 o6 q6 o7:Array Oper} {B1 S1 B3 S3 B4 S4 B5 S5 B6 S6:Code} (w:World) (s1 k1 d1 d2 t e d3 s3 k3 s4 k4 s5 k5 s6 k6:Nat) (hf:P.funcs[f]?=some fn)
  (hb:fn.body=some (.seq (.region a0 o0 false) (.seq (.seq (.region a1 o1 false) (.block i1 (.loop (.seq (.seq (.region b1 c1 false) (.cond (.tmp k1) .skip (.exit i1))) (.seq B1 S1))))) (.seq (.region a2 o2 false) (.seq (.seq (.region a3 o3 false) (.block i3 (.loop (.seq (.seq (.region b3 q3 false) (.cond (.tmp k3) .skip (.exit i3))) (.seq B3 S3))))) (.seq (.seq (.region a4 o4 false) (.block i4 (.loop (.seq (.seq (.region b4 q4 false) (.cond (.tmp k4) .skip (.exit i4))) (.seq B4 S4))))) (.seq (.seq (.region a5 o5 false) (.block i5 (.loop (.seq (.seq (.region b5 q5 false) (.cond (.tmp k5) .skip (.exit i5))) (.seq B5 S5))))) (.seq (.seq (.region a6 o6 false) (.block i6 (.loop (.seq (.seq (.region b6 q6 false) (.cond (.tmp k6) .skip (.exit i6))) (.seq B6 S6))))) (.seq (.region a7 o7 false) .ret)))))))))
  (hn:fn.ntmps=n)
  (hs:Nat.ble 1 n=true:=by kernel_rfl)
  (h0: ∀w,(match evK P o0 n 1 0 [(0,.slice none 0 0)] w with|some (G,w₁)=>some (G.keep [0],w₁)|none=>none)=some ([(0,.slice none 0 0)],w):=by intro w;kernel_rfl)
  (h1: ∀w,kc9 P o1 c1 n s1 k1 [(0,.slice none 0 0)] w=some (([(0,.slice none 0 0),(s1,.int .i64 0)],w),([(k1,.bool false),(0,.slice none 0 0),(s1,.int .i64 0)],w),[(0,.slice none 0 0)],[(0,.slice none 0 0),(s1,.int .i64 0)],true):=by intro w;kernel_rfl)
  (h2: ∀w,(match evK P o2 n 2 0 [(0,.slice none 0 0)] w with|some (G,w₁)=>some (G.keep [0,d1],w₁)|none=>none)=some ([(0,.slice none 0 0),(d1,.int .i64 0)],w):=by intro w;kernel_rfl)
  (hd:yh1 o2 2 n [(0,.slice none 0 0),(d1,.int .i64 0)]=some (some d2,t,.int .i64 0,.int .i64 0):=by kernel_rfl) (hi:zp5 P t=some (e,1,24,#[.slice none 0 0]):=by kernel_rfl)
  (h3: ∀w g,(match evK P o2 n 1 3 [(d2,.slice (some ⟨g,0,none⟩) 0 0),(0,.slice none 0 0),(d1,.int .i64 0)] w with|some (G,w₁)=>some (G.keep [0,d3],w₁)|none=>none)=some ([(0,.slice none 0 0),(d3,.slice (some ⟨g,0,none⟩) 0 0)],w):=by intro w g;kernel_rfl)
  (h4: ∀w g,kc9 P o3 q3 n s3 k3 [(0,.slice none 0 0),(d3,.slice (some ⟨g,0,none⟩) 0 0)] w=some (([(0,.slice none 0 0),(d3,.slice (some ⟨g,0,none⟩) 0 0),(s3,.int .i64 0)],w),([(k3,.bool false),(0,.slice none 0 0),(d3,.slice (some ⟨g,0,none⟩) 0 0),(s3,.int .i64 0)],w),[(0,.slice none 0 0),(d3,.slice (some ⟨g,0,none⟩) 0 0)],[(0,.slice none 0 0),(d3,.slice (some ⟨g,0,none⟩) 0 0),(s3,.int .i64 0)],true):=by intro w g;kernel_rfl)
  (h5: ∀w g,kc9 P o4 q4 n s4 k4 [(0,.slice none 0 0),(d3,.slice (some ⟨g,0,none⟩) 0 0)] w=some (([(0,.slice none 0 0),(d3,.slice (some ⟨g,0,none⟩) 0 0),(s4,.int .i64 0)],w),([(k4,.bool false),(0,.slice none 0 0),(d3,.slice (some ⟨g,0,none⟩) 0 0),(s4,.int .i64 0)],w),[(0,.slice none 0 0),(d3,.slice (some ⟨g,0,none⟩) 0 0)],[(0,.slice none 0 0),(d3,.slice (some ⟨g,0,none⟩) 0 0),(s4,.int .i64 0)],true):=by intro w g;kernel_rfl)
  (h6: ∀w g,kc9 P o5 q5 n s5 k5 [(0,.slice none 0 0),(d3,.slice (some ⟨g,0,none⟩) 0 0)] w=some (([(0,.slice none 0 0),(d3,.slice (some ⟨g,0,none⟩) 0 0),(s5,.int .i64 0)],w),([(k5,.bool false),(0,.slice none 0 0),(d3,.slice (some ⟨g,0,none⟩) 0 0),(s5,.int .i64 0)],w),[(0,.slice none 0 0),(d3,.slice (some ⟨g,0,none⟩) 0 0)],[(0,.slice none 0 0),(d3,.slice (some ⟨g,0,none⟩) 0 0),(s5,.int .i64 0)],true):=by intro w g;kernel_rfl)
  (h7: ∀w g,kc9 P o6 q6 n s6 k6 [(0,.slice none 0 0),(d3,.slice (some ⟨g,0,none⟩) 0 0)] w=some (([(0,.slice none 0 0),(d3,.slice (some ⟨g,0,none⟩) 0 0),(s6,.int .i64 0)],w),([(k6,.bool false),(0,.slice none 0 0),(d3,.slice (some ⟨g,0,none⟩) 0 0),(s6,.int .i64 0)],w),[(0,.slice none 0 0),(d3,.slice (some ⟨g,0,none⟩) 0 0)],[(0,.slice none 0 0),(d3,.slice (some ⟨g,0,none⟩) 0 0),(s6,.int .i64 0)],true):=by intro w g;kernel_rfl)
  (h8: ∀w g,(match evK P o7 n 1 0 [(0,.slice none 0 0),(d3,.slice (some ⟨g,0,none⟩) 0 0)] w with|some (G,w₁)=>some (G.keep [2],w₁)|none=>none)=some ([(2,.bool true)],w):=by intro w g;kernel_rfl)
  (hr:gj7 fn [(2,.bool true)]=some (.bool true):=by kernel_rfl)
  (hz:(Nat.ble o0.size 1,Nat.ble o2.size 4,Nat.ble o7.size 1)=(true,true,true):=by kernel_rfl):Calls P f #[.slice none 0 0] w (zp7 w (.bool true)):=by
 simp only [X7] at hz;refine zd0 hf hb hn hs [0] (F:= [(0,.slice none 0 0)]) rfl ?_;refine CW.seq fun K1 hK1=>CW.region (WR.batch 1 [(0,.slice none 0 0)] (h0 w) (WR.fin hz.1 fun a ha=>go hK1 ?_ a ha));refine CW.zeroB s1 k1 (h1 w) ?_;refine CW.seq fun K2 hK2=>CW.region (WR.batch 2 [(0,.slice none 0 0),(d1,.int .i64 0)] (h2 w) ?_);refine WR.make hd hi 0 0 rfl rfl (W6 _) (by omega) (by omega) fun g w2 hn=>?_;refine WR.batch 1 [(0,.slice none 0 0),(d3,.slice (some ⟨g,0,none⟩) 0 0)] (h3 w2 g) (WR.fin hz.2.1 fun a ha=>go hK2 ?_ a ha);refine CW.zeroB s3 k3 (h4 w2 g) (CW.zeroB s4 k4 (h5 w2 g) (CW.zeroB s5 k5 (h6 w2 g) (CW.zeroB s6 k6 (h7 w2 g) ?_)));refine CW.seq fun K3 hK3=>CW.region (WR.batch 1 [(2,.bool true)] (h8 w2 g) (WR.fin hz.2.2 fun a ha=>go hK3 ?_ a ha));exact CW.ret (gj8 (.bool true) hr ⟨hn.chg,rfl⟩)
def vh5: ∀(vs:List Value) (o:Nat) (c:Array Value),(yg2 c o vs).size=c.size
 | [],_,_=>rfl
 |v::r,o,c=>by unfold yg2;rw [vh5 r];simp
end Go.V
namespace Go.V
open Go.RowKit
def seg (z:Nat) (c:List Value) (q:Nat):List Value:=(c.drop (q*z)).take z
def vl6 (z:Nat) (c:List Value) (q:Nat) (vs:List Value):List Value:=c.take (q*z)++vs++c.drop (q*z+z)
abbrev mzG (z:Nat) (m:Nat->Nat->List Value):Mk:=⟨z,fun k c q=>seg z c q=m k q⟩
def km5 {z:Nat} {c vs:List Value} {n q:Nat} (hc:c.length=n*z) (hq:q<n) (hv:vs.length=z):seg z (vl6 z c q vs) q=vs:=by
 have h:q*z+z<=n*z:=by rw [<-Nat.succ_mul];exact Q9 _ hq
 have hl:(c.take (q*z)).length=q*z:=by rw [Y6];omega
 unfold seg vl6;rw [Q2,List.drop_left' hl,R8 hv]
def qi7 {z:Nat} {c vs:List Value} {n q p:Nat} (hc:c.length=n*z) (hq:q<n) (hv:vs.length=z) (hp:p≠q):seg z (vl6 z c q vs) p=seg z c p:=by
 have h:q*z+z<=n*z:=by rw [<-Nat.succ_mul];exact Q9 _ hq
 have hl:(c.take (q*z)).length=q*z:=by rw [Y6];omega
 refine R7 fun x=>?_;unfold seg vl6;rw [Z3,Z3];split
 ·rename_i hx;rw [Q6,Q6,Q2];rcases U7 p q with hpq|hpq
  ·have:p*z+z<=q*z:=by rw [<-Nat.succ_mul];exact Q9 _ hpq
   rw [X8 (by omega),Z3,if_pos (by omega)]
  ·have:q*z+z<=p*z:=by rw [<-Nat.succ_mul];exact Q9 _ (by omega)
   rw [Z2 (by omega),Z2 (by omega),Q6];congr 1;omega
 ·rfl
def vl5 {z:Nat} {c vs:List Value} {n q:Nat} (hc:c.length=n*z) (hq:q<n):seg z (c++vs) q=seg z c q:=by
 have h:q*z+z<=n*z:=by rw [<-Nat.succ_mul];exact Q9 _ hq
 refine R7 fun x=>?_;unfold seg;rw [Z3,Z3];split
 ·rw [Q6,Q6,X8 (by omega)]
 ·rfl
def qy9 {z:Nat} {c vs:List Value} {n q:Nat} (hc:c.length=n*z) (hq:n<=q):seg z (c++vs) q=seg z vs (q-n):=by
 have h:n*z<=q*z:=Q9 _ hq;unfold seg;rw [R4,M6 (by omega),U6,hc,Nat.sub_mul]
def gk1 {z:Nat} {vs:List Value} (hv:vs.length=z):seg z vs 0=vs:=by
 unfold seg;rw [M0,J9,Q4 (by omega)]
def kg3 {z:Nat} {c vs:List Value} {q:Nat} {u:Value} (h:u∈vl6 z c q vs):u∈c\/u∈vs:=by
 unfold vl6 at h;rcases X4.1 h with h|h
 ·rcases X4.1 h with h|h
  ·exact .inl (J8 h)
  ·exact .inr h
 ·exact .inl (List.mem_of_mem_drop h)
def kg0 {zc:Array Value} {n m:Nat} (hz: ∀u∈zc.toList,u.oneCell'=true) (h0:0<zc.size): ∀u∈(madeCells zc n).toList.take m,u.oneCell'=true:=fun u hu=>by
 have hu:=J8 hu;unfold madeCells at hu;rw [M7] at hu;obtain ⟨j,_,rfl⟩:=U0.1 hu;have hj:j%zc.size<zc.size:=Nat.mod_lt _ h0;rw [getElem!_pos zc _ hj];exact hz _ (by simp)
section
variable {P:Program} {ops:Array Oper} {Q:Exit->Act->World->Prop} {C:World->Prop} {Qf:Act->Prop} {k n:Nat} {ds:List Deferred} {F:PF} {w:World}
def WR.storeG {t:TypeId} {B:Nat} {e:TypeId} {ad:Option Addr} {m cap z j o:Nat} {cs vs:List Value} (ho:Own w B e z ad m cap cs) (hd:zn1 ops k n F=some (t,.pointer (some ⟨bk ad,of ad+o,none⟩),.agg vs.toArray)) (hoj:o=j*z) (hs:zv7 P t=some z) (hl:vs.length=z) (h1: ∀v∈vs,v.oneCell'=true) (hz:0<z) (hj:j<m)
  (K: ∀w',Own w' B e z ad m cap (vl6 z cs j vs)->Chg (zc7 ad) w w'->WR P ops Q (k+1) n ds F w'):WR P ops Q k n ds F w:=by
 subst hoj;have hjz:j*z+z<=m*z:=by rw [<-Nat.succ_mul];exact Q9 _ hj
 rcases ho.cases with ⟨_,h0,_⟩|⟨c,had,hB,hb,hmc,hcm,hcs,htk⟩
 ·omega
 ·obtain ⟨g,rfl⟩: ∃g,ad=some ⟨g,0,none⟩:=⟨_,had⟩;simp only [bk,of,W8] at hd hb;have hmz:m*z<=c.size:=W7 (Q9 _ hmc) hcs;have hst:stv P t c (j*z) (.agg vs.toArray)=some (yg2 c (j*z) vs):=by
   unfold zv7 at hs;unfold stv;cases hin:P.info? t with
   |none=>rw [hin] at hs;cases hs
   |some inf=>
    rw [hin] at hs;have hs:inf.size=z:=by simpa using hs
    have e1:(Value.agg vs.toArray).cells=vs.toArray:=rfl;have hc:(Nat.beq (Value.agg vs.toArray).cells.size inf.size&&(Nat.ble (j*z+inf.size) c.size&&(Value.agg vs.toArray).cells.toList.all Value.oneCell'))=true:=by
     rw [e1,X3,X3];refine ⟨by rw [hs];simp [hl],W3 (by omega),?_⟩;rw [Y8];exact h1
    simp only [hc];rfl
  refine .store hb hd _ hst fun w' hb' hc=>K w' ?_ hc;refine Own.ofBlk hb' hB hmc (by have:=hcm;unfold maxLen at this;omega) (by rw [vh5];exact hcs) _ ?_;rw [jl8 vs (j*z) c (by omega),<-htk];unfold vl6;have hl0:(c.toList.take (j*z)).length=j*z:=by rw [Y6,J1];omega
  rw [Q2,Q2,List.take_append,List.take_append,hl0,hl,T8,T8,Nat.min_eq_right (by omega),V9 (by omega),List.drop_take,Q4 (l:=vs) (by omega)];congr 3;omega
def WQ.loadA {dst:Option Tmp} {t:TypeId} {ad:Option Addr} {j:Nat} {cs:List Value} {sz:Nat} (hr: ∀w,C w->Rg w ad cs) (hd:zp1 ops k n F=some (dst,t,.pointer (some ⟨bk ad,of ad+j,none⟩))) (ha:zi3 P t=false) (hu:(P.underlying t).isSome=true) (hs:zv7 P t=some sz) (vs:List Value) (hl:vs.length=sz) (hv:(cs.drop j).take sz=vs)
  (K:WQ P ops C Qf (k+1) n ds (upd F dst (.agg vs.toArray))):WQ P ops C Qf k n ds F:=by
 obtain ⟨op,hdec,rfl,he⟩:=zg8 hd;refine .step hdec (fun w hw=>?_) K;obtain ⟨d,hd'⟩:=N4.1 hu;have hag:zz9 d=true:=by
  unfold zi3 at ha;rw [hd'] at ha;cases d<;>first|rfl|cases ha
 have hs':(sizeOf t).run P w=.ok sz w:=by
  unfold zv7 at hs;cases hin:P.info? t with
  |none=>rw [hin] at hs;cases hs
  |some inf=>rw [hin] at hs;simp at hs;simp [sizeOf,typeInfo,hin,hs]
 have hc:=run_loadCells_list (P:=P) (w:=w) ⟨bk ad,of ad+j,none⟩ vs (fun i v hi=>by
  have hadd:(⟨bk ad,of ad+j,none⟩:Addr).add i=⟨bk ad,of ad+(j+i),none⟩:=by unfold Addr.add;split<;>simp_all [U9]
  rw [hadd];rw [<-hv,Z3] at hi;split at hi
  ·rw [Q6] at hi;exact (hr w hw (j+i) v hi).2
  ·cases hi)
 rw [hl] at hc;have hlv:(loadVar t ⟨bk ad,of ad+j,none⟩).run P w=.ok (.agg vs.toArray) w:=by
  unfold loadVar;rw [Sem.run_bind,zl1 hd',hag];simp only [Result.andThen_ok,if_true,Sem.run_bind,hs',hc,Sem.run_pure]
 rw [he];simp [Instr.loadAt,Instr.sureAddr,hlv,Oper.quietUpon]
end
end Go.V
namespace Go.V
open Go.RowKit
def jn2 (G:World->Prop):Ending->World->Prop
 | .returned _,w'=>G w'
 |_,_=>False
section
variable {P:Program} {ops:Array Oper} {Q:Exit->Act->World->Prop} {k n:Nat} {ds:List Deferred} {F:PF} {w:World}
def WR.callB {dst:Option Tmp} {f:FuncId} {args:Array Value} {G:World->Prop} (hr:zo5 P ops k n F w=some (dst,.ok (.enter f args) w)) (hc:Calls P f args w (jn2 G))
  (K: ∀v w',G w'->WR P ops Q (k+1) n ds (upd F dst v) w'):WR P ops Q k n ds F w:=
 WR.callP hr hc (fun _ h=>h) K (fun _ _ h=>h.elim)
end
structure ChgZ (Z:Nat->Prop) (w0 w:World):Prop where
 os:w.os=w0.os
 tape:w.tape=w0.tape
 output:w.output=w0.output
 size:w0.heap.size<=w.heap.size
 old: ∀b,Z b->b<w0.heap.size
 blk: ∀b,Z b->w.heap[b]?=w0.heap[b]?
section
variable {Z Z':Nat->Prop} {w0 w w':World}
def ChgZ.step (h:ChgZ Z w0 w) {S:List Nat} (hc:Chg S w w') (hS: ∀b∈S,¬Z b):ChgZ Z w0 w':=
 ⟨hc.os.trans h.os,hc.tape.trans h.tape,hc.output.trans h.output,W7 h.size hc.size,h.old,fun b hb=>(hc.block b (V1 (h.old b hb) h.size) fun hm=>hS b hm hb).trans (h.blk b hb)⟩
def ChgZ.pure (h:ChgZ Z w0 w) (hc:Chg [] w w'):ChgZ Z w0 w':=h.step hc (by simp)
def ChgZ.refl (hZ: ∀b,Z b->b<w.heap.size):ChgZ Z w w:=⟨rfl,rfl,rfl,W6 _,hZ,fun _ _=>rfl⟩
def ChgZ.trans {w1:World} (h:ChgZ Z w0 w) (h':ChgZ Z' w w1) (hZ: ∀b,Z b->Z' b):ChgZ Z w0 w1:=
 ⟨h'.os.trans h.os,h'.tape.trans h.tape,h'.output.trans h.output,W7 h.size h'.size,h.old,fun b hb=>(h'.blk b (hZ b hb)).trans (h.blk b hb)⟩
def ChgZ.all (h:ChgZ (fun b=>b<w0.heap.size) w0 w):Chg [] w0 w:=⟨h.os,h.tape,h.output,h.size,fun b hb _=>h.blk b hb⟩
def Rg.chgZ {ad:Option Addr} {cs:List Value} (h:Rg w0 ad cs) (hc:ChgZ Z w0 w) (hz:cs≠ []->Z (bk ad)):Rg w ad cs:=by
 intro j u hu;obtain ⟨h1,h2⟩:=h j u hu;exact ⟨h1,(World.cell?_of_block (hc.blk _ (hz (by intro e;subst e;simp at hu)))).trans h2⟩
def Blk.chgZ {g:Nat} {c:Array Value} {e:TypeId} (h:Blk w0 g c e) (hc:ChgZ Z w0 w) (hz:Z g):Blk w g c e:=(hc.blk g hz).trans h
end
def zk2 (C:Nat->List Value) (s:Nat) (v:Value):Nat->List Value:=fun j=>bif Nat.beq j s then C j++ [v] else C j
def zs3 (C:Nat->List Value) (s:Nat) (v:Value):zk2 C s v s=C s++ [v]:=by
 unfold zk2;rw [V7];rfl
def ze6 (C:Nat->List Value) {s j:Nat} (v:Value) (h:j≠s):zk2 C s v j=C j:=by
 unfold zk2;cases hb:Nat.beq j s with
 |false=>rfl
 |true=>exact absurd (X1 hb) h
def slS (X:Nat->Option Addr×Nat) (C:Nat->List Value) (j:Nat):Value:=.slice (X j).1 (C j).length (X j).2
structure BagX (BT:TypeId) (rt:Nat->TypeId) (A:(Nat->Value)->Array Value) (Z:Nat->Prop) (w0 w:World) (g:Nat) (C:Nat->List Value) (X:Nat->Option Addr×Nat):Prop where
 blk:Blk w g (A (slS X C)) BT
 own: ∀j,Own w 0 (rt j) 1 (X j).1 (C j).length (X j).2 (C j)
 new: ∀j,(X j).1=none\/(¬Z (bk (X j).1)/\bk (X j).1≠g)
 ap: ∀i j,i≠j->Apart (X i).1 (X j).1
 nil: ∀j,C j= []->X j=(none,0)
 gw: ¬Z g
 chg:ChgZ Z w0 w
abbrev BagI (BT:TypeId) (rt:Nat->TypeId) (A:(Nat->Value)->Array Value) (Z:Nat->Prop) (w0:World) (g:Nat) (C:Nat->List Value) (w:World):Prop:= ∃X,BagX BT rt A Z w0 w g C X
section
variable {BT:TypeId} {rt:Nat->TypeId} {A:(Nat->Value)->Array Value} {Z:Nat->Prop} {w0 w w':World} {g:Nat} {C:Nat->List Value} {X:Nat->Option Addr×Nat}
def BagX.pure (h:BagX BT rt A Z w0 w g C X) (hc:Chg [] w w'):BagX BT rt A Z w0 w' g C X:=
 ⟨h.blk.pure hc,fun j=>(h.own j).pure hc,h.new,h.ap,h.nil,h.gw,h.chg.pure hc⟩
def BagX.off (h:BagX BT rt A Z w0 w g C X) (j:Nat):g∉zc7 (X j).1:=by
 intro hm;rcases h.new j with hn|⟨_,hn⟩
 ·rw [hn] at hm;cases hm
 ·cases hx:(X j).1 with
  |none=>rw [hx] at hm;cases hm
  |some a=>rw [hx] at hm hn;exact hn (Q5.1 hm).symm
def BagX.offZ (h:BagX BT rt A Z w0 w g C X) (j:Nat): ∀b∈zc7 (X j).1,¬Z b:=by
 intro b hm;rcases h.new j with hn|⟨hn,_⟩
 ·rw [hn] at hm;cases hm
 ·cases hx:(X j).1 with
  |none=>rw [hx] at hm;cases hm
  |some a=>rw [hx] at hm hn;rw [Q5.1 hm];exact hn
def BagI.pure (h:BagI BT rt A Z w0 g C w) (hc:Chg [] w w'):BagI BT rt A Z w0 g C w':=by
 obtain ⟨X,hX⟩:=h;exact ⟨X,hX.pure hc⟩
def BagI.chg (h:BagI BT rt A Z w0 g C w):ChgZ Z w0 w:=by obtain ⟨X,hX⟩:=h;exact hX.chg
def BagX.lt (h:BagX BT rt A Z w0 w g C X) (j:Nat):(X j).1=none\/bk (X j).1<w.heap.size:=by
 rcases (h.own j).cases with ⟨h0,_⟩|⟨c,_,_,hb,_⟩
 ·exact .inl h0
 ·exact .inr hb.lt
def BagX.offS (h:BagX BT rt A Z w0 w g C X) (j:Nat) {S:List Nat} (hS: ∀b∈S,Z b):C j= []\/bk (X j).1∉S:=by
 rcases h.new j with hn|⟨hn,_⟩
 ·rcases (h.own j).cases with ⟨_,_,_,h0⟩|⟨c,h1,_⟩
  ·exact .inl h0
  ·rw [hn] at h1;cases h1
 ·exact .inr fun hm=>hn (hS _ hm)
def BagI.inner (h:BagI BT rt A Z w0 g C w) {w1:World} {b:Nat} {c:Array Value} {e:TypeId} (hn:New w w1 b c e):BagI BT rt A (fun x=>Z x\/x=b) w1 g C w1:=by
 obtain ⟨X,hX⟩:=h;have h1:=hX.pure hn.chg;have hs:=hn.fresh;refine ⟨X,h1.blk,h1.own,fun j=>?_,h1.ap,h1.nil,?_,.refl fun x hx=>?_⟩
 ·rcases h1.new j with hj|⟨hj,hg⟩
  ·exact .inl hj
  ·rcases hX.lt j with hl|hl
   ·exact .inl hl
   ·exact .inr ⟨fun hm=>hm.elim hj fun e=>by omega,hg⟩
 ·have:=hX.blk.lt;exact fun hm=>hm.elim h1.gw fun e=>by omega
 ·rcases hx with hx|rfl
  ·exact V1 (hX.chg.old x hx) (W7 hX.chg.size hn.chg.size)
  ·exact hn.blk.lt
def BagI.outer (h:ChgZ Z w0 w) {Z':Nat->Prop} {w2:World} (h2:BagI BT rt A Z' w g C w2) (hZ: ∀x,Z x->Z' x):BagI BT rt A Z w0 g C w2:=by
 obtain ⟨X,hX⟩:=h2;exact ⟨X,hX.blk,hX.own,fun j=>(hX.new j).imp id fun hj=>⟨fun hm=>hj.1 (hZ _ hm),hj.2⟩,hX.ap,hX.nil,fun hm=>hX.gw (hZ _ hm),h.trans hX.chg hZ⟩
def BagX.start {w1:World} (hn:New w w1 g (A fun _=>.slice none 0 0) BT):BagX BT rt A (fun b=>b<w.heap.size) w w1 g (fun _=> []) (fun _=>(none,0)):=
 ⟨hn.blk,fun _=>Own.nil _ _ _ _,fun _=>.inl rfl,fun _ _ _=>.inl rfl,fun _ _=>rfl,fun h=>Nat.not_lt_of_le hn.fresh h,(ChgZ.refl fun _ h=>h).pure hn.chg⟩
def BagX.put (h:BagX BT rt A Z w0 w g C X) {s:Nat} {v:Value} {w1 w2 w3:World} {ad':Option Addr} {cap':Nat} (hA: ∀(f:Nat->Value) (u:Value),(A f).setIfInBounds s u=A fun j=>bif Nat.beq j s then u else f j)
  (h1:Chg [] w w1) (ho:Own w2 0 (rt s) 1 ad' ((C s).length+1) cap' (C s++ [v])) (h2:Chg (zc7 (X s).1) w1 w2) (had:ad'=(X s).1\/w1.heap.size<=bk ad')
  (hb3:Blk w3 g ((A (slS X C)).setIfInBounds s (.slice ad' ((C s).length+1) cap')) BT) (h3:Chg [g] w2 w3):BagI BT rt A Z w0 g (zk2 C s v) w3:=by
 have hx1:=h.pure h1;have hlt:=h.blk.lt;have hs1:=h1.size;have hoff: ∀j,bk (X j).1∉ [g]\/(X j).1=none:=fun j=>(h.new j).elim (fun hn=>.inr hn) fun hn=>.inl fun hm=>hn.2 (Q5.1 hm);have hne:ad'=none\/(¬Z (bk ad')/\bk ad'≠g):=by
  rcases had with rfl|had
  ·exact h.new s
  ·exact .inr ⟨fun hm=>by have:=hx1.chg.old _ hm;have:=hx1.chg.size;omega,by omega⟩
 let X':Nat->Option Addr×Nat:=fun j=>bif Nat.beq j s then (ad',cap') else X j
 have hXs:X' s=(ad',cap'):=by show (bif Nat.beq s s then _ else _)=_;rw [V7];rfl
 have hXn: ∀ {j},j≠s->X' j=X j:=fun {j} hj=>by
  show (bif Nat.beq j s then _ else _)=_;cases hb:Nat.beq j s with
  |false=>rfl
  |true=>exact absurd (X1 hb) hj
 refine ⟨X',?_,fun j=>?_,fun j=>?_,fun i j hij=>?_,fun j hj=>?_,h.gw,?_⟩
 ·rw [hA] at hb3;have e:(fun j=>bif Nat.beq j s then Value.slice ad' ((C s).length+1) cap' else slS X C j)=slS X' (zk2 C s v):=by
   funext j;by_cases hj:j=s
   ·subst hj;rw [V7];simp only [cond_true,slS,hXs,zs3,X9,U5,N5]
   ·have hb:Nat.beq j s=false:=by cases hb:Nat.beq j s;rfl;exact absurd (X1 hb) hj
    simp only [hb,cond_false,slS,hXn hj,ze6 C v hj]
  rw [e] at hb3;exact hb3
 ·by_cases hj:j=s
  ·subst hj;rw [hXs,zs3,X9];refine ho.chg h3 ?_;rcases hne with hn|hn
   ·exact .inr hn
   ·exact .inl fun hm=>hn.2 (Q5.1 hm)
  ·rw [hXn hj,ze6 C v hj];exact ((hx1.own j).chg h2 (h.ap j s hj).off).chg h3 (hoff j)
 ·by_cases hj:j=s
  ·subst hj;rw [hXs];exact hne
  ·rw [hXn hj];exact h.new j
 ·have key: ∀j,j≠s->Apart ad' (X j).1:=fun j hj=>by
   rcases had with rfl|had
   ·exact h.ap s j (Ne.symm hj)
   ·exact (Apart.grow (a:=(X s).1) (a':=ad') (h.ap s j (Ne.symm hj)) (hx1.own j) (.inr had))
  by_cases hi:i=s
  ·subst hi;rw [hXs,hXn (Ne.symm hij)];exact key j (Ne.symm hij)
  ·by_cases hj:j=s
   ·subst hj;rw [hXs,hXn hi];exact (key i hi).symm
   ·rw [hXn hi,hXn hj];exact h.ap i j hij
 ·by_cases hjs:j=s
  ·subst hjs;rw [zs3] at hj;simp at hj
  ·rw [ze6 C v hjs] at hj;rw [hXn hjs];exact h.nil j hj
 ·exact (hx1.chg.step h2 (h.offZ s)).step h3 fun b hb=>by rw [Q5.1 hb];exact h.gw
end
def yw4 (ds:List (Value×RowA)):List Value:=ds.flatMap fun p=> [p.1,p.2.val]
def yj8 {α:Type} {z:Nat} {f:α->List Value} (hz: ∀x,(f x).length=z): ∀ {l:List α} {k:Nat} {x:α},l[k]?=some x->((l.flatMap f).drop (k*z)).take z=f x
 | [],k,x,h=>by simp at h
 |q::r,0,x,h=>by
  have:q=x:=by simpa using h
  subst this;rw [M0,J9,V2];exact R8 (hz q)
 |q::r,k+1,x,h=>by
  have h:r[k]?=some x:=by simpa using h
  rw [V2,R4,M6 (by rw [hz,U8];omega),U6,hz,show (k+1)*z-z=k*z by rw [U8];omega];exact yj8 hz h
def vf7 {α:Type} {z:Nat} {f:α->List Value} (hz: ∀x,(f x).length=z) (h0:0<z) {l:List α} {k:Nat} {x:α} (h:l[k]?=some x):l.flatMap f≠ []:=fun e=>by
 have:=yj8 hz h;rw [e] at this;have h1:=congrArg List.length this;rw [hz] at h1;simp at h1;omega
def yx1 (s:Nat) (C:Nat->List Value) (ds:List (Value×RowA)):Nat->List Value:=ds.foldl (fun C p=>zk2 C s p.2.val) C
def vm5 (s:Nat) (C:Nat->List Value) {ds:List (Value×RowA)} {k:Nat} {p:Value×RowA} (h:ds[k]?=some p):yx1 s C (ds.take (k+1))=zk2 (yx1 s C (ds.take k)) s p.2.val:=by
 unfold yx1;rw [List.take_add_one,h,List.foldl_append];rfl
def yy4 (s:Nat): ∀(ds:List (Value×RowA)) (C:Nat->List Value),yx1 s C ds s=C s++ds.map fun p=>p.2.val
 | [],C=>by simp [yx1]
 |p::r,C=>by
  show yx1 s (zk2 C s p.2.val) r s=_;rw [yy4 s r,zs3];simp
def yn4 (s:Nat) {j:Nat} (hj:j≠s): ∀(ds:List (Value×RowA)) (C:Nat->List Value),yx1 s C ds j=C j
 | [],C=>rfl
 |p::r,C=>by
  show yx1 s (zk2 C s p.2.val) r j=_;rw [yn4 s hj r,ze6 _ _ hj]
def vh2: ∀ {n:Nat} {vals:List Value},vals.length=n*2->(∀q,q<n-> ∃r:RowA,vals[q*2+1]?=some r.val)-> ∃ds:List (Value×RowA),ds.length=n/\yw4 ds=vals
 |0,vals,hl,_=>⟨[],rfl,(T1 (by omega)).symm⟩
 |n+1,a::b::r,hl,hr=>by
  obtain ⟨ds,h1,h2⟩:=vh2 (n:=n) (vals:=r) (by simp at hl;omega) (fun q hq=>by
   obtain ⟨x,hx⟩:=hr (q+1) (by omega);exact ⟨x,by rw [show (q+1)*2+1=q*2+1+2 by omega] at hx;simpa using hx⟩)
  obtain ⟨x,hx⟩:=hr 0 (by omega);have hx:b=x.val:=by simpa using hx
  exact ⟨(a,x)::ds,by simp [h1],by show [a,x.val]++yw4 ds=_;rw [h2,hx];rfl⟩
 |n+1,[],hl,_=>by simp at hl
 |n+1,[_],hl,_=>by simp at hl;omega
def jz8 {ds:List (Value×RowA)} {q:Nat} {p:Value×RowA} (h:ds[q]?=some p):(yw4 ds)[q*2+1]?=some p.2.val:=by
 have h1:=yj8 (z:=2) (f:=fun p:Value×RowA=> [p.1,p.2.val]) (fun _=>rfl) h;have h2:=congrArg (fun l=>l[1]?) h1;simp only [Z3,Q6] at h2;unfold yw4;simpa using h2
section
variable {w:World} {e:TypeId} {m:Mk} {L M:List RowA}
def RowsA.one {r:RowA} {c:List Value} (h:Own w 0 e m.z r.ad r.len r.cap c):RowsA w e m (fun _ _=>False) [r]:=by
 refine ⟨fun j s hj=>?_,fun i j s u hij hi hj=>?_⟩
 ·match j,hj with
  |0,hj=>cases hj;exact ⟨c,h,fun q hq=>hq.elim⟩
  |j+1,hj=>cases hj
 ·match i,j,hi,hj with
  |0,0,_,_=>exact absurd rfl hij
  |i+1,_,hi,_=>cases hi
  |_,j+1,_,hj=>cases hj
def RowsA.app (h1:RowsA w e m (fun _ _=>False) L) (h2:RowsA w e m (fun _ _=>False) M) (hd: ∀b∈rb L,b∉rb M):RowsA w e m (fun _ _=>False) (L++M):=by
 have get: ∀(j:Nat) (r:RowA),(L++M)[j]?=some r->(j<L.length/\L[j]?=some r)\/(∃i,j=L.length+i/\M[i]?=some r):=fun j r hj=>by
  rcases U7 j L.length with h|h
  ·rw [X8 h] at hj;exact .inl ⟨h,hj⟩
  ·rw [Z2 h] at hj;exact .inr ⟨j-L.length,by omega,hj⟩
 have far: ∀(i j:Nat) (r s:RowA),L[i]?=some r->M[j]?=some s->Apart r.ad s.ad:=fun i j r s hi hj=>by
  cases hr:r.ad with
  |none=>exact .inl rfl
  |some a=>
   cases hs:s.ad with
   |none=>exact .inr (.inl rfl)
   |some b=>exact .inr (.inr fun e=>hd a.block (zw9 hi (by rw [hr];exact Q5.2 rfl)) (zw9 hj (by rw [hs];exact Q5.2 e)))
 refine ⟨fun j r hj=>?_,fun i j r s hij hi hj=>?_⟩
 ·rcases get j r hj with ⟨_,h⟩|⟨i,_,h⟩
  ·obtain ⟨c,q1,_⟩:=h1.own j r h;exact ⟨c,q1,fun q hq=>hq.elim⟩
  ·obtain ⟨c,q1,_⟩:=h2.own i r h;exact ⟨c,q1,fun q hq=>hq.elim⟩
 ·rcases get i r hi with ⟨_,p⟩|⟨i',e1,p⟩<;>rcases get j s hj with ⟨_,q⟩|⟨j',e2,q⟩
  ·exact h1.ap i j r s hij p q
  ·exact far _ _ _ _ p q
  ·exact (far _ _ _ _ q p).symm
  ·exact h2.ap i' j' r s (by omega) p q
end
end Go.V
