import Derived.Test.YthhhfnfgmijggaaGreatX17
namespace Go.X
open Go.RowKit Go.V
section
variable {T:Tab} {P:Program} {w w':World} {S S':List Nat} {φ φ':Nat->RA} {w0:World} {S0:Ow} {F:AF T} {H:List (Ent T.U)} {F' F'':PF}
theorem yl1 (H:List (Ent T.U)) (ρ:Nat->Nat): ∀l:Src,(zi7 T H ρ l).length=l.length
 | []=>rfl
 |some i::r=>by simp [zi7,yl1 H ρ r]
 |none::r=>by simp [zi7,yl1 H ρ r]
theorem yl0 (H:List (Ent T.U)) (ρ:Nat->Nat): ∀l m:Src,zi7 T H ρ (l++m)=zi7 T H ρ l++zi7 T H ρ m
 | [],_=>rfl
 |some i::r,m=>by simp [zi7,yl0 H ρ r m]
 |none::r,m=>by simp [zi7,yl0 H ρ r m]
theorem zv6 (H:List (Ent T.U)) (ρ:Nat->Nat): ∀l:List Nat,zi7 T H ρ (l.map some)=ze7 T H ρ l
 | []=>rfl
 |i::r=>by
  rw [List.map_cons,zi7,zv6 H ρ r];cases hi:H[i]? with
  |none=>simp only [ze7,hi]
  |some e=>simp only [ze7,hi]
theorem zq7 {H:List (Ent T.U)} {ρ:Nat->Nat} {f:Ent T.U}: ∀ {l:Src} {j:Nat},(zi7 T H ρ l)[j]?=some f->f=.gone\/ ∃i e,l[j]?=some (some i)/\H[i]?=some e/\f=e.ren ρ
 | [],j,h=>by simp [zi7] at h
 |some i::r,0,h=>by
  simp only [zi7,Y4,X0] at h;split at h
  ·rename_i e he;exact .inr ⟨i,e,rfl,he,h.symm⟩
  ·exact .inl h.symm
 |none::r,0,h=>by simp only [zi7,Y4,X0] at h;exact .inl h.symm
 |some i::r,j+1,h=>by
  rcases zq7 (l:=r) (j:=j) (by simpa [zi7] using h) with h|⟨i,e,a,b,c⟩
  ·exact .inl h
  ·exact .inr ⟨i,e,by simpa using a,b,c⟩
 |none::r,j+1,h=>by
  rcases zq7 (l:=r) (j:=j) (by simpa [zi7] using h) with h|⟨i,e,a,b,c⟩
  ·exact .inl h
  ·exact .inr ⟨i,e,by simpa using a,b,c⟩
def φO (l:Src) (φ:Nat->RA) (j:Nat):RA:=match l[j]? with|some (some i)=>φ i|_=>φ j
theorem φO_at {l:Src} {j i:Nat} (h:l[j]?=some (some i)):φO l φ j=φ i:=by unfold φO;rw [h]
theorem φO_idx {l:Src} {i:Nat} (h:some i∈l):φO l φ (yq6 i l)=φ i:=φO_at (zl3 h)
theorem Sim.src (h:Sim T w0 S0 ⟨F,H⟩ F' w S φ) {l:Src} (hn:zl4 l=true) (hp: ∀k,k<S0.pin.length->l[k]?=some (some k)\/l[k]?=some none)
  (h2: ∀i e,some i∈l->H[i]?=some e-> ∀j∈e.cellIds,some j∈l):Sim T w0 S0 ⟨[],zi7 T H (fun i=>yq6 i l) l⟩ [] w S (φO l φ):=by
 refine ⟨fun i a ha=>by simp [AF.get] at ha,fun i a ha=>by simp [AF.get] at ha,h.chg,h.own,h.ex,?_,fun k r hk=>?_,?_,?_,?_⟩
 ·intro j f hf hl a ha;rcases zq7 hf with rfl|⟨i,e,h5,h6,rfl⟩
  ·cases hl
  ·rw [φO_at h5] at ha;exact h.lives i e h6 (by rw [Ent.ren_live] at hl;exact hl) a ha
 ·have hk':=hp k (X2.1 hk).1;have hφ:φO l φ k=φ k:=by
   rcases hk' with h|h
   ·exact φO_at h
   ·unfold φO;rw [h]
  refine ⟨by rw [hφ];exact (h.pins k r hk).1,?_⟩;simp only [yl1];rcases hk' with h|h<;>exact (X2.1 h).1
 ·intro j f hf;rcases zq7 hf with rfl|⟨i,e,h5,h6,rfl⟩
  ·trivial
  ·exact (h.ents i e h6).ren (φO_at h5) fun k hk=>φO_idx (h2 i e (X6 h5) h6 k hk)
 ·intro j f hf k hk;rcases zq7 hf with rfl|⟨i,e,h5,h6,rfl⟩
  ·cases hk
  ·rw [Ent.ren_cellIds] at hk;obtain ⟨m,hm,rfl⟩:=List.mem_map.1 hk;simp only [yl1];exact (X2.1 (zl3 (h2 i e (X6 h5) h6 m hm))).1
 ·intro j k f f' hf hf' hl hl' hjk a b ha hb;rcases zq7 hf with rfl|⟨i,e,h5,h6,rfl⟩
  ·cases hl
  ·rcases zq7 hf' with rfl|⟨i',e',h5',h6',rfl⟩
   ·cases hl'
   ·rw [φO_at h5] at ha;rw [φO_at h5'] at hb;rw [Ent.ren_live] at hl hl';exact h.apart i i' e e' h6 h6' hl hl' (fun e=>hjk (by subst e;exact yf2 hn h5 h5')) a b ha hb
theorem Sim.unpin {c x:List Nat} {p:List RA} (h:Sim T w0 ⟨c,x,p⟩ ⟨F,H⟩ F' w S φ):Sim T w0 ⟨c,x,[]⟩ ⟨F,H⟩ F' w S φ:=
 ⟨h.fr,h.ids,h.chg,h.own,h.ex,h.lives,fun k r hk=>by simp at hk,h.ents,h.eids,h.apart⟩
theorem Sim.start (h:Sim T w0 S0 ⟨F,H⟩ F' w S φ):Sim T w ⟨zd5 φ H.length,S,(List.range H.length).map φ⟩ ⟨[],H⟩ [] w S φ:=by
 refine ⟨fun i a ha=>by simp [AF.get] at ha,fun i a ha=>by simp [AF.get] at ha,Chg.refl _ _,fun b hb=>⟨.inl hb,(h.own b hb).2⟩,fun b hb _ _=>hb,fun i e he hl a ha=>⟨(h.lives i e he hl a ha).1,.inl ?_⟩,fun k r hk=>?_,h.ents,h.eids,h.apart⟩
 ·unfold zd5;exact List.mem_flatMap.2 ⟨i,List.mem_range.2 (X2.1 he).1,zs1.2 ⟨a,ha,rfl⟩⟩
 ·have hlt:=(X2.1 hk).1;simp at hlt;simp [hlt] at hk;exact ⟨.of hk,hlt⟩
theorem Sim.slots (h:Sim T w0 S0 ⟨[],H⟩ F'' w S φ) {as:List (AV T.U)} {vs:List Value} (hv:VRL T w S φ as vs) (ho: ∀a∈as,okA H a):Sim T w0 S0 ⟨yb1 T as 0,H⟩ (jk5 vs 0) w S φ:=
 ⟨fun i a ha=>ja2 hv ha,fun i a ha=>ho a (yz1 ha),h.chg,h.own,h.ex,h.lives,h.pins,h.ents,h.eids,h.apart⟩
def σJ (ids:List Nat) (n:Nat) (j:Nat):Nat:=match Nat.blt j ids.length with|true=>ids.getD j 0|false=>n+(j-ids.length)
theorem σJ_lo {ids:List Nat} {n j:Nat} (h:j<ids.length):ids[j]?=some (σJ ids n j):=by
 unfold σJ;rw [show Nat.blt j ids.length=true by rw [Nat.blt_eq];exact h];simp [Y0 h]
theorem σJ_hi {ids:List Nat} {n j:Nat} (h:ids.length<=j):σJ ids n j=n+(j-ids.length):=by
 unfold σJ;rw [show Nat.blt j ids.length=false by cases hb:Nat.blt j ids.length;rfl;rw [Nat.blt_eq] at hb;omega]
theorem Sim.join (h:Sim T w0 S0 ⟨F,H⟩ F' w S φ) {ids:List Nat} (hn:zd6 ids=true) (hlv: ∀i∈ids,∃e,H[i]?=some e/\e.live=true) {φc φ1:Nat->RA} (hφc: ∀k i,ids[k]?=some i->φc k=φ i) {F1:PF} {S1:List Nat} {Pn Nw:List (Ent T.U)}
  (hc:Sim T w ⟨zd5 φc ids.length,S,(List.range ids.length).map φc⟩ ⟨[],Pn++Nw⟩ F1 w' S1 φ1) (hP:Pn.length=ids.length)
  (hty: ∀(k i:Nat) (e:TypeId) (t:Ty) (ys:List (den T.U t)),ids[k]?=some i->Pn[k]?=some (.row e t ys)-> ∃xs,H[i]?=some (.row e t xs)):
  ∃φ2,Sim T w0 S0 ⟨F,zg3 T H ids (Pn.map (Ent.ren (σJ ids H.length)))++Nw.map (Ent.ren (σJ ids H.length))⟩ F' w' S1 φ2/\
   ∀a v,VR T w' S1 φ1 a v->(∀i∈a.ids,i<Pn.length+Nw.length)->VR T w' S1 φ2 (a.ren (σJ ids H.length)) v:=by
 generalize hσ:σJ ids H.length=σ
 let φ2:Nat->RA:=fun i=>if i<H.length then (if i∈ids then φ1 (ids.idxOf i) else φ i) else φ1 (ids.length+(i-H.length))
 have hidl: ∀k i,ids[k]?=some i->i<H.length:=fun k i hk=>by
  obtain ⟨e,he,_⟩:=hlv i (X6 hk);exact (X2.1 he).1
 have hnewφ: ∀m,φ2 (H.length+m)=φ1 (ids.length+m):=fun m=>by
  show (if H.length+m<H.length then _ else _)=_;rw [if_neg (by omega),Nat.add_sub_cancel_left]
 have hpin: ∀k i,ids[k]?=some i->RSame (φ1 k) (φ i):=by
  intro k i hk;have hlt:=(X2.1 hk).1;rw [<-hφc k i hk];exact (hc.pins k (φc k) (by simp [hlt])).1
 have hidE: ∀k i,ids[k]?=some i->φ2 i=φ1 k:=by
  intro k i hk;have hm:=X6 hk;show (if i<H.length then (if i∈ids then φ1 (ids.idxOf i) else φ i) else _)=_;rw [if_pos (hidl k i hk),if_pos hm];have h1:ids[ids.idxOf i]?=some i:=by
   have hlt:=List.idxOf_lt_length_of_mem hm;rw [Y0 hlt,List.getElem_idxOf hlt]
  rw [yf7 hn h1 hk]
 have holdE: ∀i,i∉ids->i<H.length->φ2 i=φ i:=fun i hi hl=>by
  show (if i<H.length then (if i∈ids then φ1 (ids.idxOf i) else φ i) else _)=_;rw [if_pos hl,if_neg hi]
 have hold: ∀i,i<H.length->RSame (φ2 i) (φ i):=fun i hl=>by
  by_cases hi:i∈ids
  ·obtain ⟨k,hk⟩:=Y9.1 hi;rw [hidE k i hk];exact hpin k i hk
  ·exact .of (holdE i hi hl)
 have hσφ: ∀j,φ2 (σ j)=φ1 j:=by
  intro j;by_cases hj:j<ids.length
  ·have hs:=σJ_lo (n:=H.length) hj;rw [hσ] at hs;exact hidE j _ hs
  ·rw [<-hσ,σJ_hi (by omega),hnewφ];congr 1;omega
 have hσlt: ∀j,j<Pn.length+Nw.length->σ j<(zg3 T H ids (Pn.map (Ent.ren σ))++Nw.map (Ent.ren σ)).length:=by
  intro j hj;rw [X9,zb0,List.length_map];by_cases hlt:j<ids.length
  ·have hs:=σJ_lo (n:=H.length) hlt;rw [hσ] at hs;have:=hidl j _ hs;omega
  ·rw [<-hσ,σJ_hi (by omega)];omega
 have hchg: ∀b∈zd5 φc ids.length,∃(k i:Nat) (a:Addr),ids[k]?=some i/\At (φ i) a/\a.block=b:=by
  intro b hb;obtain ⟨k,hk,a,ha,rfl⟩:=yz3 hb;have hg:=Y0 hk;exact ⟨k,_,a,hg,by rw [<-hφc k _ hg];exact ha,rfl⟩
 have hTS: ∀b∈zd5 φc ids.length,b∈S:=by
  intro b hb;obtain ⟨k,i,a,hk,ha,rfl⟩:=hchg b hb;obtain ⟨e,he,hl⟩:=hlv i (X6 hk);exact zh4 h he hl ha
 have hTc: ∀b∈zd5 φc ids.length,b∈S0.chg\/w0.heap.size<=b:=by
  intro b hb;obtain ⟨k,i,a,hk,ha,rfl⟩:=hchg b hb;obtain ⟨e,he,hl⟩:=hlv i (X6 hk);exact (h.lives i e he hl a ha).2
 have hS1: ∀b∈S1,b∈S\/w.heap.size<=b:=fun b hb=>(hc.own b hb).1;have hlen:(Pn.map (Ent.ren σ)).length=ids.length:=by rw [List.length_map,hP]
 have get: ∀(j:Nat) (f:Ent T.U),(zg3 T H ids (Pn.map (Ent.ren σ))++Nw.map (Ent.ren σ))[j]?=some f->
   (∃(k:Nat) (f0:Ent T.U),ids[k]?=some j/\Pn[k]?=some f0/\f=f0.ren σ/\j<H.length)\/(j∉ids/\H[j]?=some f/\j<H.length)\/(∃(m:Nat) (f0:Ent T.U),j=H.length+m/\(Pn++Nw)[ids.length+m]?=some f0/\f=f0.ren σ):=by
  intro j f hf;by_cases hj:j<H.length
  ·rw [X8 (by rw [zb0];exact hj)] at hf;rcases zg7 ids _ H hlen hf with ⟨k,g1,g2⟩|⟨g1,g2⟩
   ·rw [W0] at g2;cases hp:Pn[k]? with
    |none=>rw [hp] at g2;cases g2
    |some f0=>rw [hp] at g2;simp only [Z8,X0] at g2;exact .inl ⟨k,f0,g1,hp,g2.symm,hj⟩
   ·exact .inr (.inl ⟨g1,g2,hj⟩)
  ·rw [Z2 (by rw [zb0];omega),zb0,W0] at hf;cases hp:Nw[j-H.length]? with
   |none=>rw [hp] at hf;cases hf
   |some f0=>
    rw [hp] at hf;simp only [Z8,X0] at hf;refine .inr (.inr ⟨j-H.length,f0,by omega,?_,hf.symm⟩);rw [Z2 (by omega),hP,Nat.add_sub_cancel_left];exact hp
 have getP: ∀ {k:Nat} {f0:Ent T.U},Pn[k]?=some f0->(Pn++Nw)[k]?=some f0:=fun hk=>by
  rw [X8 (X2.1 hk).1];exact hk
 refine ⟨φ2,⟨?_,?_,h.chg.step hc.chg hTc,fun b hb=>⟨?_,(hc.own b hb).2⟩,fun b hb q1 q2=>hc.ex b (h.ex b hb q1 q2) (fun hm=>(hTc b hm).elim q1 fun hm=>by omega) (h.own b (h.ex b hb q1 q2)).2,?_,fun k r hk=>?_,?_,?_,?_⟩,fun a v hv hi=>hv.ren T fun i _=>hσφ i⟩
 ·intro i a ha;obtain ⟨v,h1,h2⟩:=h.fr i a ha;exact ⟨v,h1,(h2.chg T hc.chg hTS hS1).phiS fun j hj=>hold j ((h.ids i a ha).1 j hj)⟩
 ·intro i a ha;obtain ⟨h1,h2⟩:=h.ids i a ha;refine ⟨fun j hj=>by have:=h1 j hj;simp only [X9,zb0] at this⊢;omega,?_⟩;cases a with
  |eptr y sz k c=>
   have hy:=h1 y (by simp [AV.ids]);intro e t xs hx;rcases get y _ hx with ⟨k',f0,g1,g2,g3,_⟩|⟨_,g2,_⟩|⟨m,_,g1,_⟩
   ·cases f0 with
    |row e1 t1 ys=>
     simp only [Ent.ren,Ent.row.injEq] at g3;obtain ⟨rfl,rfl,g3⟩:=g3;have:=eq_of_heq g3;subst this;obtain ⟨zs,g4⟩:=hty k' y _ _ _ g1 g2;obtain ⟨q4,q5⟩:=h2 _ _ _ g4;obtain ⟨_,_,_,n1,_⟩:=h.ents y _ g4;obtain ⟨_,_,_,n2,_⟩:=hc.ents k' _ (getP g2);rw [(hpin k' y g1).2.1] at n2;exact ⟨by omega,q5⟩
    |blk _ _=>cases g3
    |drow _ _ _ _ _=>cases g3
    |map _ _=>cases g3
    |tmap _ _ _=>cases g3
    |gone=>cases g3
   ·exact h2 e t xs g2
   ·simp only at hy;omega
  |_=>trivial
 ·rcases (hc.own b hb).1 with hb|hb
  ·exact (h.own b hb).1
  ·exact .inr (Nat.le_trans h.chg.size hb)
 ·intro j f hf hl a ha;rcases get j f hf with ⟨k,f0,g1,g2,rfl,hj⟩|⟨hni,g2,hj⟩|⟨m,f0,rfl,g2,rfl⟩
  ·rw [hidE k j g1] at ha;have hl0:f0.live=true:=by rw [Ent.ren_live] at hl;exact hl
   refine ⟨(hc.lives _ f0 (getP g2) hl0 a ha).1,?_⟩;rcases (hc.lives _ f0 (getP g2) hl0 a ha).2 with hm|hm
   ·exact hTc _ hm
   ·exact .inr (Nat.le_trans h.chg.size hm)
  ·rw [holdE j hni hj] at ha;have q:=h.lives j f g2 hl a ha;refine ⟨hc.ex _ q.1 (fun hb=>?_) (h.own _ q.1).2,q.2⟩;obtain ⟨k,i,a',hk,ha',hbe⟩:=hchg _ hb;obtain ⟨e,he,hl'⟩:=hlv i (X6 hk);exact h.apart j i f e g2 he hl hl' (fun e=>hni (e▸X6 hk)) a a' ha ha' hbe.symm
  ·rw [hnewφ] at ha;have hl0:f0.live=true:=by rw [Ent.ren_live] at hl;exact hl
   refine ⟨(hc.lives _ f0 g2 hl0 a ha).1,?_⟩;rcases (hc.lives _ f0 g2 hl0 a ha).2 with hm|hm
   ·exact hTc _ hm
   ·exact .inr (Nat.le_trans h.chg.size hm)
 ·obtain ⟨g1,g2⟩:=h.pins k r hk;simp only at g2;exact ⟨(hold k g2).trans g1,by simp only [X9,zb0];omega⟩
 ·intro j f hf;rcases get j f hf with ⟨k,f0,g1,g2,rfl,hj⟩|⟨hj,g2,hjl⟩|⟨m,f0,rfl,g2,rfl⟩
  ·exact (hc.ents k f0 (getP g2)).ren (hidE k j g1) fun x _=>hσφ x
  ·have hnot:f.live=true-> ∀a,At (φ j) a->a.block∉zd5 φc ids.length:=fun hl a ha hb=>by
    obtain ⟨k,i,a',hk,ha',hbe⟩:=hchg _ hb;obtain ⟨e,he,hl'⟩:=hlv i (X6 hk);exact h.apart j i f e g2 he hl hl' (fun e=>hj (e▸X6 hk)) a a' ha ha' hbe.symm
   have h1:=(h.ents j f g2).chg T hc.chg hTS hS1 fun hl a ha=>⟨hnot hl a ha,hc.ex _ (zh4 h g2 hl ha) (hnot hl a ha) (h.own _ (zh4 h g2 hl ha)).2⟩;exact h1.phiE (holdE j hj hjl) fun x hx=>hold x (h.eids j f g2 x hx)
  ·exact (hc.ents _ f0 g2).ren (hnewφ m) fun x _=>hσφ x
 ·intro j f hf x hx;rcases get j f hf with ⟨k,f0,g1,g2,rfl,hj⟩|⟨hj,g2,hjl⟩|⟨m,f0,rfl,g2,rfl⟩
  ·rw [Ent.ren_cellIds] at hx;obtain ⟨y,hy,rfl⟩:=List.mem_map.1 hx;exact hσlt y (by have:=hc.eids k f0 (getP g2) y hy;simp only [X9] at this;exact this)
  ·have:=h.eids j f g2 x hx;simp only [X9,zb0] at this⊢;omega
  ·rw [Ent.ren_cellIds] at hx;obtain ⟨y,hy,rfl⟩:=List.mem_map.1 hx;exact hσlt y (by have:=hc.eids _ f0 g2 y hy;simp only [X9] at this;exact this)
 ·
  have cross: ∀(j:Nat) (f:Ent T.U),j∉ids->H[j]?=some f->f.live=true-> ∀(m:Nat) (f0:Ent T.U),(Pn++Nw)[m]?=some f0->f0.live=true-> ∀a b,At (φ j) a->At (φ1 m) b->a.block≠b.block:=by
   intro j f hni g2 hl m f0 hm hl0 a b ha hb;rcases (hc.lives _ f0 hm hl0 b hb).2 with hb'|hb'
   ·obtain ⟨k,i,a',hk,ha',hbe⟩:=hchg _ hb';obtain ⟨e,he,hl'⟩:=hlv i (X6 hk);rw [<-hbe];exact h.apart j i f e g2 he hl hl' (fun e=>hni (e▸X6 hk)) a a' ha ha'
   ·have:=(h.own _ (zh4 h g2 hl ha)).2;omega
  have side: ∀(j:Nat) (f:Ent T.U),(zg3 T H ids (Pn.map (Ent.ren σ))++Nw.map (Ent.ren σ))[j]?=some f->f.live=true->
    (∃(k:Nat) (f0:Ent T.U),(Pn++Nw)[k]?=some f0/\f0.live=true/\φ2 j=φ1 k/\j=σ k)\/(j∉ids/\H[j]?=some f/\φ2 j=φ j):=by
   intro j f hf hl;rcases get j f hf with ⟨k,f0,g1,g2,rfl,hj⟩|⟨hni,g2,hj⟩|⟨m,f0,rfl,g2,rfl⟩
   ·refine .inl ⟨k,f0,getP g2,by rw [Ent.ren_live] at hl;exact hl,hidE k j g1,?_⟩;have hs:=σJ_lo (n:=H.length) (X2.1 g1).1;rw [hσ,g1] at hs;exact X5 hs
   ·exact .inr ⟨hni,g2,holdE j hni hj⟩
   ·refine .inl ⟨ids.length+m,f0,g2,by rw [Ent.ren_live] at hl;exact hl,hnewφ m,?_⟩;rw [<-hσ,σJ_hi (by omega)];omega
  intro i j f f' hf hf' hl hl' hij a b ha hb;rcases side i f hf hl with ⟨k,f0,g1,g2,g3,g4⟩|⟨g0,g1,g3⟩<;>rcases side j f' hf' hl' with ⟨k',f0',k1,k2,k3,k4⟩|⟨k0,k1,k3⟩<;>rw [g3] at ha<;>rw [k3] at hb
  ·exact hc.apart k k' f0 f0' g1 k1 g2 k2 (fun e=>hij (by rw [g4,k4,e])) a b ha hb
  ·exact (cross j f' k0 k1 hl' k f0 g1 g2 b a hb ha).symm
  ·exact cross i f g0 g1 hl k' f0' k1 k2 a b ha hb
  ·exact h.apart i j f f' g1 k1 hl hl' hij a b ha hb
end
end Go.X
