import Derived.Test.YtbanjakljpjknaaGreatA2
set_option linter.defProp false
namespace Go.X
open Go.RowKit Go.V
mutual
def qb3 {U}: ∀a:AV U,a.ren id=a
 | .cell _=>by rw [AV.ren]
 | .ptr _ _=>by rw [AV.ren];rfl
 | .eptr _ _ _ _=>by rw [AV.ren];rfl
 | .lptr _ _ _ _=>by rw [AV.ren]
 | .own _=>by rw [AV.ren];rfl
 | .sl _ _ _ _=>by rw [AV.ren];rfl
 | .agg cs=>by rw [AV.ren,zr1 cs]
 | .tup cs=>by rw [AV.ren,zr1 cs]
 | .fn _ a b=>by rw [AV.ren,zr1 a,zr1 b]
 | .ifc _ a=>by rw [AV.ren,qb3 a]
 | .raw _=>by rw [AV.ren]
 | .arr _ _ _=>by rw [AV.ren]
 | .aptr _ _ _ _ _ _=>by rw [AV.ren];rfl
 | .asl _ _ _ _ _ _=>by rw [AV.ren];rfl
 | .mp _=>by rw [AV.ren];rfl
 | .hmp _=>by rw [AV.ren];rfl
def zr1 {U}: ∀l:List (AV U),zk5 id l=l
 | []=>rfl
 |a::r=>by rw [zk5,qb3 a,zr1 r]
end
section
variable {T:Tab} {P:Program} {w w':World} {S S':List Nat} {φ φ':Nat->RA}
def VR.phiS {a v} (h:VR T w S φ a v) (b: ∀i∈a.ids,RSame (φ' i) (φ i)):VR T w S φ' a v:=by
 have:=VR.renS T (ρ:=id) (φ':=φ') b h;rwa [qb3] at this
def VR.phi {a v} (h:VR T w S φ a v) (b: ∀i∈a.ids,φ' i=φ i):VR T w S φ' a v:=by
 have:=VR.ren T (ρ:=id) (φ':=φ') b h;rwa [qb3] at this
def VRL.phi {aS:List (AV T.U)} {vs:List Value} (h:VRL T w S φ aS vs) (hi: ∀i∈za1 aS,φ' i=φ i):VRL T w S φ' aS vs:=by
 have:=VRL.ren T (ρ:=id) (φ':=φ') hi h;rwa [zr1] at this
def BR.phi {cs vs} (h:BR T w S φ cs vs) (a: ∀i∈za1 cs,φ' i=φ i):BR T w S φ' cs vs:=⟨h.1.phi (by rw [ju2];exact a),h.2⟩
def qn1 {U}: ∀l:List (Int×AV U),qn0 id l=l
 | []=>rfl
 |(x,a)::r=>by rw [qn0,qb3 a,qn1 r]
def okA (H:List (Ent T.U)) (a:AV T.U):Prop:=(∀i∈a.ids,i<H.length)/\match a with| .eptr i sz k _=> ∀e t xs,H[i]?=some (.row e t xs)->k<xs.length/\szT T t=sz|_=>True
def Ent.cellIds {U:Nat->Type}:Ent U->List Nat| .blk _ cs=>za1 cs| .map _ es=>idsM es| .drow _ _ _ _ a=>wk3 a| .pmap _ _ _ _ a=>gi0 a|_=> []
def vx7 {U} (b:Option (Nat×List (AV U))):kp7 id b=b:=by
 cases b with
 |none=>rfl
 |some p=>obtain ⟨a,cs⟩:=p;rw [kp7,zr1]
def vx6 (a):kp6 id a=a:=by cases a<;>rfl
def EntR.phiE {i e} (h:EntR T w S φ i e) (a:φ' i=φ i) (q: ∀k∈e.cellIds,RSame (φ' k) (φ k)):EntR T w S φ' i e:=by
 cases e with
 |blk e cs=>
  obtain ⟨g,c,b,f,n,o⟩:=h;have:=o.renS T (ρ:=id) (φ':=φ') q;rw [zr1] at this;exact ⟨g,c,by rw [a];exact b,f,n,this⟩
 |row e t xs=>obtain ⟨B,j,b,f,n,o,p⟩:=h;exact ⟨B,j,by rw [a];exact b,by rw [a];exact f,n,o,by rw [a];exact p⟩
 |map k es=>
  obtain ⟨g,l,c,b,f,n,o,p⟩:=h;have:=o.renS T (ρ:=id) (φ':=φ') q;rw [qn1] at this;exact ⟨g,l,c,by rw [a];exact b,f,n,this,p⟩
 |tmap k t m=>obtain ⟨g,l,c,b,f⟩:=h;exact ⟨g,l,c,by rw [a];exact b,f⟩
 |drow e d fe xs r=>
  obtain ⟨B,j,b,f,n,o,p⟩:=h;have:=p.renS T (ρ:=id) (φ':=φ') q;rw [vx7] at this;exact ⟨B,j,by rw [a];exact b,by rw [a];exact f,n,by rw [a];exact o,by rw [a];exact this⟩
 |pmap k u d m r=>
  obtain ⟨g,l,c,s,b,f,n,o,p⟩:=h;have:=o.renS T (ρ:=id) (φ':=φ') q;rw [vx6] at this;exact ⟨g,l,c,s,by rw [a];exact b,f,n,by rw [a];exact this,p⟩
 |hid=>unfold EntR;rw [a];exact h
 |gone=>trivial
structure Ow where
 chg:List Nat
 ex:List Nat
 pin:List RA
structure Sim (T:Tab) (w0:World) (S0:Ow) (st:St T) (F':PF) (w:World) (S:List Nat) (φ:Nat->RA):Prop where
 fr:FR T w S φ st.F F'
 ids: ∀i a,st.F.get T i=some a->okA st.H a
 chg:Chg S0.chg w0 w
 own: ∀b∈S,(b∈S0.ex\/w0.heap.size<=b)/\b<w.heap.size
 ex: ∀b∈S0.ex,b∉S0.chg->b<w0.heap.size->b∈S
 lives: ∀(i:Nat) (e:Ent T.U),st.H[i]?=some e->e.live=true-> ∀a,At (φ i) a->a.block∈S/\(a.block∈S0.chg\/w0.heap.size<=a.block)
 pins: ∀(k:Nat) (r:RA),S0.pin[k]?=some r->RSame (φ k) r/\k<st.H.length
 ents: ∀(i:Nat) (e:Ent T.U),st.H[i]?=some e->EntR T w S φ i e
 eids: ∀(i:Nat) (e:Ent T.U),st.H[i]?=some e-> ∀j∈e.cellIds,j<st.H.length
 apart: ∀(i j:Nat) (e e':Ent T.U),st.H[i]?=some e->st.H[j]?=some e'->e.live=true->e'.live=true->i≠j-> ∀a b,At (φ i) a->At (φ j) b->a.block≠b.block
def zd1 (T:Tab) (w0:World) (S0:Ow) (st:St T) (F':PF) (w:World):Prop:= ∃S φ,Sim T w0 S0 st F' w S φ
variable {w0:World} {S0:Ow} {F:AF T} {H:List (Ent T.U)} {F':PF}
def qw9 {dst:Option Tmp} {a:AV T.U} {i:Nat} {b:AV T.U} (h:(zc2 T F dst a).get T i=some b):(dst=some i/\b=a)\/(dst≠some i/\F.get T i=some b):=by
 cases dst with
 |none=>exact .inr ⟨by simp,h⟩
 |some d=>
  simp only [zc2,AF.get] at h;split at h
  ·rename_i hb;have:=X1 hb;subst this
   grind
  ·rename_i hb;exact .inr ⟨by simp only [ne_eq,X0];intro e;subst e;simp at hb,h⟩
def vg6 {dst v i} (h:dst≠some i):(upd F' dst v).get i=F'.get i:=by
 cases dst with
 |none=>rfl
 |some d=>
  simp only [upd,PF.get];split
  ·rename_i a;have:=X1 a;subst this;exact absurd rfl h
  ·rfl
def vg5 {i v}:(upd F' (some i) v).get i=some v:=by
 simp [upd,PF.get,J4]
def Sim.slot (h:Sim T w0 S0 ⟨F,H⟩ F' w S φ) {dst a v} (f:VR T w S φ a v) (c:okA H a):Sim T w0 S0 ⟨zc2 T F dst a,H⟩ (upd F' dst v) w S φ:=by
 refine ⟨?_,?_,h.chg,h.own,h.ex,h.lives,h.pins,h.ents,h.eids,h.apart⟩
 ·intro i b d;rcases qw9 d with ⟨rfl,rfl⟩|⟨g,e⟩
  ·exact ⟨v,vg5,f⟩
  ·obtain ⟨u,j,k⟩:=h.fr i b e;exact ⟨u,by rw [vg6 g];exact j,k⟩
 ·intro i b d;rcases qw9 d with ⟨_,rfl⟩|⟨_,e⟩
  ·exact c
  ·exact h.ids i b e
def Sim.pure (h:Sim T w0 S0 ⟨F,H⟩ F' w S φ) (g:Chg [] w w'):Sim T w0 S0 ⟨F,H⟩ F' w' S φ:=by
 refine ⟨?_,h.ids,h.chg.pure g,fun b d=>⟨(h.own b d).1,V3 (h.own b d).2 g.size⟩,h.ex,h.lives,h.pins,?_,h.eids,h.apart⟩
 ·intro i a f;obtain ⟨v,k,l⟩:=h.fr i a f;exact ⟨v,k,l.chg T g (by simp) (fun b d=>.inl d)⟩
 ·intro i e j;have m:e.live=true-> ∀a,At (φ i) a->a.block∈S:=fun c a f=>(h.lives i e j c a f).1;exact (h.ents i e j).chg T g (by simp) (fun b d=>.inl d) fun c a f=>⟨by simp,m c a f⟩
def yd4 (φ:Nat->RA) (n:Nat) (r:RA):Nat->RA:=fun i=>if i=n then r else φ i
def zj9 {n i r} (h:i≠n):yd4 φ n r i=φ i:=by unfold yd4;rw [if_neg h]
def za8 {n r}:yd4 φ n r n=r:=by unfold yd4;rw [if_pos rfl]
def zi5 (h:Sim T w0 S0 ⟨F,H⟩ F' w S φ) {i e} (b:H[i]?=some e) (c:e.live=true) {a} (d:At (φ i) a):a.block∈S:=(h.lives i e b c a d).1
def ui1 (h:Sim T w0 S0 ⟨F,H⟩ F' w S φ) {i e} (b:H[i]?=some e) (c:e.live=true) {a} (d:(φ i).ad=some a):a.block∈S:=(h.lives i e b c a (.inl d)).1
def RA.all (r:RA):List Nat:=ze5 r.ad++r.xs
def zu8 {r b}:b∈r.all↔ ∃a,At r a/\a.block=b:=by
 unfold RA.all;rw [X4];constructor
 ·rintro (h|h)
  ·unfold ze5 at h;split at h
   ·rename_i a c;simp at h;exact ⟨a,.inl c,h.symm⟩
   ·cases h
  ·exact ⟨⟨b,0,none⟩,.inr h,rfl⟩
 ·rintro ⟨a,h|h,rfl⟩
  ·left;rw [h];simp [ze5]
  ·exact .inr h
def yo3 {ad n c a} (h:At ⟨ad,n,c,[]⟩ a):ad=some a:=by
 rcases h with h|h
 ·exact h
 ·cases h
def yr2 {g n c:Nat} {a:Addr} (h:At ⟨some ⟨g,0,none⟩,n,c,[]⟩ a):a.block=g:=by
 rcases h with h|h
 ·grind
 ·cases h
def Sim.addG (h:Sim T w0 S0 ⟨F,H⟩ F' w S φ) {Tc:List Nat} (hc:Chg Tc w w') (hT: ∀b∈Tc,b∈S) (hTc: ∀b∈Tc,b∈S0.chg\/w0.heap.size<=b) (hfree: ∀(j:Nat) (e:Ent T.U),H[j]?=some e->e.live=true-> ∀a,At (φ j) a->a.block∉Tc) (hsub: ∀b∈S,b∈S') (hS': ∀b∈S',b∈S\/(w.heap.size<=b/\b<w'.heap.size)) {r:RA} {e:Ent T.U} (hr: ∀a,At r a->w.heap.size<=a.block\/a.block∈Tc) (hrS: ∀a,At r a->a.block∈S')
  (he:EntR T w' S' (yd4 φ H.length r) H.length e) (hids: ∀j∈e.cellIds,j<H.length+1):
  Sim T w0 S0 ⟨F,H++ [e]⟩ F' w' S' (yd4 φ H.length r):=by
 have hS: ∀b∈S',b∈S\/w.heap.size<=b:=fun b hb=>(hS' b hb).imp id And.left;have get: ∀i f,(H++ [e])[i]?=some f->(i<H.length/\H[i]?=some f)\/(i=H.length/\f=e):=by
  grind
 have hnew: ∀(j:Nat) (f:Ent T.U),H[j]?=some f->f.live=true-> ∀a,At (φ j) a-> ∀b,At r b->a.block≠b.block:=by
  intro j f hf hl a ha b hb e;rcases hr b hb with hg|hg
  ·have:=(h.own _ (zi5 h hf hl ha)).2;omega
  ·exact hfree j f hf hl a ha (e▸hg)
 refine ⟨?_,?_,?_,?_,fun b hb q1 q2=>hsub _ (h.ex b hb q1 q2),?_,fun k r hk=>?_,?_,?_,?_⟩
 ·intro i a ha;obtain ⟨v,h1,h2⟩:=h.fr i a ha;refine ⟨v,h1,(h2.chg T hc hT hS).phi fun j hj=>zj9 ?_⟩;have:=(h.ids i a ha).1 j hj;simp only at this;omega
 ·intro i a ha;obtain ⟨h1,h2⟩:=h.ids i a ha;refine ⟨fun j hj=>by have:=h1 j hj;simp at this⊢;omega,?_⟩;cases a with
  |eptr j sz k c=>
   intro e' t xs hx;rcases get _ _ hx with ⟨_,hx⟩|⟨hj,_⟩
   ·exact h2 e' t xs hx
   ·have:=h1 j (by simp [AV.ids]);simp at this;omega
  |_=>trivial
 ·exact h.chg.step hc hTc
 ·intro b hb;rcases hS' b hb with hb|⟨hg,hgl⟩
  ·exact ⟨(h.own b hb).1,V3 (h.own b hb).2 hc.size⟩
  ·exact ⟨.inr (W8 h.chg.size hg),hgl⟩
 ·intro i f hf hl a ha;rcases get i f hf with ⟨hi,hf⟩|⟨rfl,rfl⟩
  ·rw [zj9 (by omega)] at ha;have q:=h.lives i f hf hl a ha;exact ⟨hsub _ q.1,q.2⟩
  ·rw [za8] at ha;refine ⟨hrS a ha,?_⟩;rcases hr a ha with hg|hg
   ·exact .inr (W8 h.chg.size hg)
   ·exact hTc _ hg
 ·obtain ⟨h1,h2⟩:=h.pins k r hk;simp only at h2;exact ⟨by rw [zj9 (by omega)];exact h1,by simp only [X9];omega⟩
 ·intro i f hf;rcases get i f hf with ⟨hi,hf⟩|⟨rfl,rfl⟩
  ·have h1:=(h.ents i f hf).chg T hc (S':=S') hT hS fun hl a ha=>⟨hfree i f hf hl a ha,hsub _ (zi5 h hf hl ha)⟩;have hne:i≠H.length:=by omega
   refine h1.phiE (zj9 hne) fun j hj=>.of (zj9 ?_);have:=h.eids i _ hf j hj;simp only at this;omega
  ·exact he
 ·intro i f hf j hj;simp only [X9,U3,List.length_nil];rcases get i f hf with ⟨hi,hf⟩|⟨rfl,rfl⟩
  ·have:=h.eids i f hf j hj;simp only at this;omega
  ·exact hids j hj
 ·intro i j f f' hf hf' hl hl' hij a b ha hb;rcases get i f hf with ⟨hi,hk⟩|⟨rfl,rfl⟩<;>rcases get j f' hf' with ⟨hj,hk'⟩|⟨rfl,rfl⟩
  ·rw [zj9 (by omega)] at ha hb;exact h.apart i j f f' hk hk' hl hl' hij a b ha hb
  ·rw [zj9 (by omega)] at ha;rw [za8] at hb;exact hnew i f hk hl a ha b hb
  ·rw [za8] at ha;rw [zj9 (by omega)] at hb;exact (hnew j f' hk' hl' b hb a ha).symm
  ·exact absurd rfl hij
def Sim.add (h:Sim T w0 S0 ⟨F,H⟩ F' w S φ) {g} (m:Chg [] w w') (k:w.heap.size<=g) (f:g<w'.heap.size) {r e} (l: ∀a,At r a->a.block=g) (n:EntR T w' (g::S) (yd4 φ H.length r) H.length e) (c: ∀j∈e.cellIds,j<H.length+1):
  Sim T w0 S0 ⟨F,H++ [e]⟩ F' w' (g::S) (yd4 φ H.length r):=h.addG m (by simp) (by simp) (fun _ _ _ _ _ _=>by simp) (fun b d=>Z4 _ d) (fun b d=>by
  rcases Z0.1 d with rfl|d
  ·exact .inr ⟨k,f⟩
  ·exact .inl d) (fun a i=>.inl (by rw [l a i];exact k)) (fun a i=>by rw [l a i];exact U6 ..) n c
def Sim.upd (h:Sim T w0 S0 ⟨F,H⟩ F' w S φ) {i:Nat} {e0 e:Ent T.U} (hi:H[i]?=some e0) (hlv:e0.live=true) {Tc:List Nat} (hc:Chg Tc w w') (hT: ∀b∈Tc,∃a,At (φ i) a/\a.block=b)
  (he:EntR T w' S φ i e) (hids: ∀j∈e.cellIds,j<H.length) (hrow: ∀e1 t xs,e=.row e1 t xs-> ∃e2 ys,e0=.row e2 t ys/\ys.length<=xs.length):Sim T w0 S0 ⟨F,H.set i e⟩ F' w' S φ:=by
 have hTS: ∀b∈Tc,b∈S:=by
  intro b hb;obtain ⟨a,ha,rfl⟩:=hT b hb;exact zi5 h hi hlv ha
 have hil:i<H.length:=(X2.1 hi).1;have get: ∀j f,(H.set i e)[j]?=some f->(j=i/\f=e)\/(j≠i/\H[j]?=some f):=by
  grind
 refine ⟨?_,?_,?_,?_,h.ex,?_,fun k r hk=>?_,?_,?_,?_⟩
 ·intro j a ha;obtain ⟨v,h1,h2⟩:=h.fr j a ha;exact ⟨v,h1,h2.chg T hc hTS (fun b hb=>.inl hb)⟩
 ·intro j a ha;obtain ⟨h1,h2⟩:=h.ids j a ha;refine ⟨fun x hx=>by simpa using h1 x hx,?_⟩;cases a with
  |eptr y sz k c=>
   grind
  |_=>trivial
 ·refine h.chg.step hc fun b hb=>?_;obtain ⟨a,ha,rfl⟩:=hT b hb;exact (h.lives i e0 hi hlv a ha).2
 ·exact fun b hb=>⟨(h.own b hb).1,V3 (h.own b hb).2 hc.size⟩
 ·intro j f hf hl a ha;rcases get j f hf with ⟨rfl,rfl⟩|⟨_,hf⟩
  ·exact h.lives j e0 hi hlv a ha
  ·exact h.lives j f hf hl a ha
 ·obtain ⟨h1,h2⟩:=h.pins k r hk;exact ⟨h1,by simpa using h2⟩
 ·intro j f hf;rcases get j f hf with ⟨rfl,rfl⟩|⟨hji,hf⟩
  ·exact he
  ·refine (h.ents j f hf).chg T hc hTS (fun b hb=>.inl hb) fun hl a ha=>⟨fun hb=>?_,zi5 h hf hl ha⟩;obtain ⟨a',ha',hbe⟩:=hT _ hb;exact h.apart j i f e0 hf hi hl hlv hji a a' ha ha' hbe.symm
 ·intro j f hf x hx;simp only [Q1];rcases get j f hf with ⟨rfl,rfl⟩|⟨_,hf⟩
  ·exact hids x hx
  ·exact h.eids j f hf x hx
 ·intro j k f f' hf hf' hl hl' hjk a b ha hb;rcases get j f hf with ⟨rfl,rfl⟩|⟨hj,hk⟩<;>rcases get k f' hf' with ⟨rfl,rfl⟩|⟨hj',hk'⟩
  ·exact absurd rfl hjk
  ·exact h.apart j k e0 f' hi hk' hlv hl' hjk a b ha hb
  ·exact h.apart j k f e0 hk hi hl hlv hjk a b ha hb
  ·exact h.apart j k f f' hk hk' hl hl' hjk a b ha hb
def Sim.drop (h:Sim T w0 S0 ⟨F,H⟩ F' w S φ) (i:Nat):Sim T w0 S0 ⟨F,H.set i .gone⟩ F' w S φ:=by
 have get: ∀(j:Nat) (f:Ent T.U),(H.set i .gone)[j]?=some f->f=.gone\/H[j]?=some f:=by
  grind
 refine ⟨h.fr,?_,h.chg,h.own,h.ex,?_,fun k r hk=>?_,?_,?_,?_⟩
 ·intro j a ha;obtain ⟨h1,h2⟩:=h.ids j a ha;refine ⟨fun x hx=>by simpa using h1 x hx,?_⟩;cases a with
  |eptr y sz k c=>
   grind
  |_=>trivial
 ·intro j f hf hl a ha;rcases get j f hf with rfl|hf
  ·cases hl
  ·exact h.lives j f hf hl a ha
 ·obtain ⟨h1,h2⟩:=h.pins k r hk;exact ⟨h1,by simpa using h2⟩
 ·intro j f hf;rcases get j f hf with rfl|hf
  ·trivial
  ·exact h.ents j f hf
 ·intro j f hf x hx;simp only [Q1];rcases get j f hf with rfl|hf
  ·cases hx
  ·exact h.eids j f hf x hx
 ·intro j k f f' hf hf' hl hl' hjk a b ha hb;rcases get j f hf with rfl|hk
  ·cases hl
  ·rcases get k f' hf' with rfl|hk'
   ·cases hl'
   ·exact h.apart j k f f' hk hk' hl hl' hjk a b ha hb
end
end Go.X
namespace Go.X
open Go.RowKit Go.V
section
variable {T:Tab} {P:Program} {w w':World} {S S':List Nat} {φ φ':Nat->RA} {w0:World} {S0:Ow} {F:AF T} {H:List (Ent T.U)} {F':PF}
variable {rd:List Nat} {ops:Array Oper} {Q:Exit->Act->World->Prop} {k n:Nat} {ds:List Deferred} {o:Oper}
def zt3 (P:Program) (ops:Array Oper) (Q:Exit->Act->World->Prop) (k n:Nat) (ds:List Deferred) (w0:World) (S0:Ow) (st:St T):Prop:= ∀F1 a,zd1 T w0 S0 st F1 a->WR P ops Q k n ds F1 a
def zo1 {a:AV T.U} (h:a.ids= []) (h2: ∀i sz k c,a≠.eptr i sz k c):okA H a:=by
 refine ⟨fun i hi=>(by rw [h] at hi;cases hi),?_⟩
 grind
def jv0 (v):(yw9 T v).ids= []:=by cases v<;>rfl
def yp9: ∀l:List Value,za1 (l.map (yw9 T))= []
 | []=>rfl
 |v::r=>by rw [U0,za1,jv0,yp9 r];rfl
def ql5 (v):(ofV T v).ids= []:=by
 have h:=jv0 (T:=T) v;cases v<;>first|exact h|(show (AV.agg _).ids= [];rw [AV.ids];exact yp9 _)
def ui6 (v):okA H (ofV T v):=zo1 (ql5 v) (by intro i sz k c;cases v<;>simp [ofV,yw9])
def zd4 (h:Sim T w0 S0 ⟨F,H⟩ F' w S φ) {x:Operand} {a:AV T.U} (ha:aev T F x=some a):okA H a:=by
 cases x with
 |tmp t=>exact h.ids t a ha
 |const v=>simp only [aev,X0] at ha;subst ha;exact ui6 v
 |global g=>cases ha
 |func f=>simp only [aev,X0] at ha;subst ha;exact zo1 rfl (by intros;simp)
def qu2 {e} (b:dec ops k n F'=some o) (a:o.op=.alloc e):yz3 ops k n F'=some (o.dst,e):=by
 unfold yz3;rw [b];cases o;simp only at a;subst a;rfl
def kb0 {e x} (b:dec ops k n F'=some o) (a:o.op=.box e x):qo2 ops k n F'=some (o.dst,e,evD F' x):=by
 unfold qo2;rw [b];cases o;simp only at a;subst a;rfl
def zy9 {t x} (b:dec ops k n F'=some o) (a:o.op=.load t x):zp2 ops k n F'=some (o.dst,t,evD F' x):=by
 unfold zp2;rw [b];cases o;simp only at a;subst a;rfl
def yh8 {a} (h:yc6 T a=true):za1 (zf8 T a)=a.ids:=by
 rcases yr3 h with ⟨cs,rfl⟩|⟨_,b⟩
 ·rfl
 ·rw [b,za1,za1,V5]
def ug8 {e x} (u:dec ops k n F'=some o) (p:o.op=.box e x) {a} (l:aev T F x=some a) {cs} (q: ∀(w:World) (S:List Nat) (φ:Nat->RA) (v:Value),VR T w S φ a v->BR T w S φ cs v.cells.toList) (d: ∀i∈za1 cs,i∈a.ids) (h:Sim T w0 S0 ⟨F,H⟩ F' w S φ)
  (K:zt3 P ops Q (k+1) n ds w0 S0 (⟨zc2 T F o.dst (.ptr H.length 0),H++ [.blk e cs]⟩:St T)):WR P ops Q k n ds F' w:=by
 obtain ⟨v,y,z⟩:=u0 h.fr l;have f:=zd4 h l;refine WR.box (v:=v) (by rw [kb0 u p,u9 y]) _ rfl fun g w' c=>K _ _ ⟨g::S,yd4 φ H.length ⟨some ⟨g,0,none⟩,0,0,[]⟩,?_⟩;have A: ∀b∈g::S,b∈S\/w.heap.size<=b:=by
  intro b s;rcases Z0.1 s with rfl|s
  ·exact .inr c.fresh
  ·exact .inl s
 have B:=h.add (r:=⟨some ⟨g,0,none⟩,0,0,[]⟩) c.chg c.fresh c.blk.lt (fun a l=>yr2 l) (e:=.blk e cs)
  ⟨g,v.cells,by rw [za8],c.blk,by simp,((q _ _ _ _ z).chg T c.chg (by simp) A).phi fun i m=>zj9 (by have:=f.1 i (d i m);omega)⟩
  (by intro j t;rw [Ent.cellIds] at t;have:=f.1 j (d j t);omega)
 refine B.slot ⟨g,by rw [za8],rfl⟩ ⟨by intro i m;simp [AV.ids] at m;subst m;simp,trivial⟩
def jp0 {t:TypeId} {cs:List (AV T.U)} {j:Nat} {a:AV T.U} (h:zu0 T P t cs j=some a): ∃i d,P.info? t=some i/\P.underlying t=some d/\jy7 T cs j i.size (ye3 d)=some a:=by
 unfold zu0 at h
 grind
def vt5 {t cs c j a} (f:BR T w S φ cs c.toList) (h:jj3 T P t cs j=some a): ∃v,ldv P t c j=some v/\VR T w S φ a v:=by
 unfold jj3 at h;split at h
 ·rename_i i d g l;obtain ⟨v,b,m,e⟩:=ks3 f h;refine ⟨v,?_,m⟩;unfold ldv;rw [g,l];cases d<;>simp only [ye3] at b e⊢ <;>first|simpa using b|(rw [show Nat.ble (j+i.size) c.size=true from W3 (e trivial)];simpa using b)
 ·cases h
def qf8 {t cs j a} (h:jj3 T P t cs j=some a): ∀i∈a.ids,i∈za1 cs:=by
 unfold jj3 at h;split at h
 ·exact ks2 h
 ·cases h
def zi2 {a:AV T.U}: ∀ {l:List (AV T.U)},a∈l-> ∀i∈a.ids,i∈za1 l
 | [],h,_,_=>by cases h
 |b::r,h,i,hi=>by
  rw [za1];rcases Z0.1 h with rfl|h
  ·grind
  ·exact X4.2 (.inr (zi2 h i hi))
def zu6 {i:Nat}: ∀ {l:List (AV T.U)},i∈za1 l-> ∃a∈l,i∈a.ids
 | [],h=>by cases h
 |b::r,h=>by
  rw [za1] at h;rcases X4.1 h with h|h
  ·exact ⟨b,by simp,h⟩
  ·obtain ⟨a,c,d⟩:=zu6 h;exact ⟨a,Z4 _ c,d⟩
def jt9 {cs j m d a} (h:jy7 T cs j m d=some a): ∀i∈a.ids,i∈za1 cs:=by
 unfold jy7 at h;split at h
 ·split at h
  ·simp only [X0] at h;subst h;intro i c;rw [AV.ids] at c;obtain ⟨b,e,c⟩:=zu6 c;exact zi2 (List.mem_of_mem_drop (J6 e)) i c
  ·cases h
 ·intro i c;exact zi2 (X6 h) i c
def noE (cs:List (AV T.U)):Prop:= ∀a∈cs,∀i sz k c,a≠.eptr i sz k c
def gw2 {cs:List (AV T.U)} (hn:noE cs) {j m:Nat} {ag:Bool} {a:AV T.U} (h:jy7 T cs j m ag=some a) (hl: ∀i∈za1 cs,i<H.length):okA H a:=by
 refine ⟨fun i hi=>hl i (jt9 h i hi),?_⟩;cases a with
 |eptr i sz k c=>
  unfold jy7 at h;split at h
  ·grind
  ·exact absurd rfl (hn _ (X6 h) i sz k c)
 |_=>trivial
def Same (φ:Nat->RA) (rd:List Nat) (w b:World):Prop:= ∀e∈rd,∀a,(φ e).ad=some a->a.block<w.heap.size->b.heap[a.block]?=w.heap[a.block]?
def QR (P:Program) (F':PF) (o:Oper) (S:List Nat) (φ:Nat->RA) (rd:List Nat) (w:World) (v:Value):Prop:= ∀a,Chg S w a->Same φ rd w a->(execOp (evD F') o).run P a=.ok (.value v) a
def Same.pure {rd b} (c:Chg [] w b):Same φ rd w b:=fun _ _ _ _ a=>c.block _ a (by simp)
def vs2 {a} (b:Chg [] w a) (S):Chg S w a:=(Chg.refl S w).step b (by simp)
def Rg.same {ad cs a} (h:Rg w ad cs) (c:a.heap[bk ad]?=w.heap[bk ad]?):Rg a ad cs:=fun j u b=>⟨(h j u b).1,(World.cell?_of_block c).trans (h j u b).2⟩
def yk3 {o'} (h:dec ops k n F'=some o) (a:dec ops k n F'=some o'):o'=o:=by rw [h] at a;cases a;rfl
def QR.load {t g j c e dst} (d:dec ops k n F'=some o) (f: ∀a,Chg S w a->Same φ rd w a->Blk a g c e) (h:zp2 ops k n F'=some (dst,t,.pointer (some ⟨g,j,none⟩))) (v) (i:ldv P t c j=some v):QR P F' o S φ rd w v:=by
 intro a l m;obtain ⟨q,b,_,p⟩:=zi9 h;rw [<-yk3 d b,p];simp [Instr.loadAt,Instr.sureAddr,zn4 (f a l m) i]
def QR.load1 {dst t a} (e:dec ops k n F'=some o) (f:zp2 ops k n F'=some (dst,t,.pointer (some a))) (g:zk7 P t=true) (v) (h: ∀b,Chg S w b->Same φ rd w b->b.cell? a=some v):QR P F' o S φ rd w v:=by
 intro b i d;obtain ⟨l,c,_,j⟩:=zi9 f;rw [<-yk3 e c,j];simp [Instr.loadAt,Instr.sureAddr,zg9 g (h b i d)]
def QR.loadA {dst:Option Tmp} {t:TypeId} {ad:Option Addr} {j:Nat} {cs:List Value} {sz:Nat} (h0:dec ops k n F'=some o) (hr: ∀w1,Chg S w w1->Same φ rd w w1->Rg w1 ad cs) (hd:zp2 ops k n F'=some (dst,t,.pointer (some ⟨bk ad,of ad+j,none⟩))) (ha:zk7 P t=false) (hu:(P.underlying t).isSome=true) (hs:yb2 P t=some sz) (vs:List Value) (hl:vs.length=sz) (hv:(cs.drop j).take sz=vs):QR P F' o S φ rd w (.agg vs.toArray):=by
 intro w1 hc1 hsm1;have hr:=hr w1 hc1 hsm1;obtain ⟨op,hdec,_,he⟩:=zi9 hd;rw [<-yk3 h0 hdec];obtain ⟨d,hd'⟩:=N3.1 hu;have hag:ye3 d=true:=by
  unfold zk7 at ha;rw [hd'] at ha;cases d<;>first|rfl|cases ha
 have hs':(sizeOf t).run P w1=.ok sz w1:=by
  unfold yb2 at hs;cases hin:P.info? t with
  |none=>rw [hin] at hs;cases hs
  |some inf=>rw [hin] at hs;simp at hs;simp [sizeOf,typeInfo,hin,hs]
 have hc:=run_loadCells_list (P:=P) (w:=w1) ⟨bk ad,of ad+j,none⟩ vs (fun i v hi=>by
  have hadd:(⟨bk ad,of ad+j,none⟩:Addr).add i=⟨bk ad,of ad+(j+i),none⟩:=by unfold Addr.add;split<;>simp_all [U2]
  rw [hadd];rw [<-hv,Z3] at hi;split at hi
  ·rw [Q6] at hi;exact (hr (j+i) v hi).2
  ·cases hi)
 rw [hl] at hc;have hlv:(loadVar t ⟨bk ad,of ad+j,none⟩).run P w1=.ok (.agg vs.toArray) w1:=by
  unfold loadVar;rw [Sem.run_bind,zq0 hd',hag];simp_all
 rw [he];simp [Instr.loadAt,Instr.sureAddr,hlv]
def QR.indexS {dst t b e m cap f i} (g:dec ops k n F'=some o) (h:zq5 ops k n F'=some (dst,t,.slice (some ⟨b,e,none⟩) m cap,.int f i)) (sz:Nat) (d:zm3 P t=some sz) (j:Nat) (l:i=(j:Int)) (q:j<m):QR P F' o S φ rd w (.pointer (some ⟨b,e+j*sz,none⟩)):=by
 subst l;obtain ⟨r,a,_,c⟩:=yh5 h d (by omega) (by omega);rw [<-yk3 g a];intro p _ _;simpa using c p
def QR.sliceH {dst t e ad m cap g h sz b l} (p:dec ops k n F'=some o) (q:ya1 ops k n F'=some (dst,t,.slice ad m cap,none,some (.int g h))) (r:zt9 P t=some (e,sz,b,l)) (j:Nat) (s:h=(j:Int)) (u:j<=cap):QR P F' o S φ rd w (.slice ad j cap):=by
 subst s;intro w _ _;obtain ⟨o',a,_,v⟩:=yb6 q;obtain ⟨i,z,c,d,_⟩:=zh6 r;have f:P.elem t=e:=by simp [Program.elem,c]
 have x:(sizeOf e).run P w=.ok i.size w:=by simp [sizeOf,typeInfo,d]
 rw [<-yk3 p a,v,Sem.run_bind,run_sliceAt_slice w t _ _ _ _ (yr8 c),run_slice_h w t ad m cap (yr8 c) g j (by omega) (by omega),f,x];simp only [Result.andThen_ok,sliced,Z1,M9,M4];split<;>(cases ad<;>simp [Addr.add])
def QR.sliceLH {dst t e ad m cap kl p l h sz b q} (r:dec ops k n F'=some o) (s:ya1 ops k n F'=some (dst,t,.slice ad m cap,some (.int kl l),some (.int p h))) (u:zt9 P t=some (e,sz,b,q)) (i j:Nat) (v:l=(i:Int)) (x:h=(j:Int)) (y:i<=j) (A:j<=cap):
  QR P F' o S φ rd w (.slice (if cap=i then ad else ad.map (·.add (i*sz))) (j-i) (cap-i)):=by
 subst x v;intro w _ _;obtain ⟨o',a,_,B⟩:=yb6 s;obtain ⟨C,z,c,d,_,f,_⟩:=zh6 u;have g:P.elem t=e:=by simp [Program.elem,c]
 have D:(sizeOf e).run P w=.ok sz w:=by simp [sizeOf,typeInfo,d,f]
 rw [<-yk3 r a,B,Sem.run_bind,run_sliceAt_slice w t _ _ _ _ (yr8 c),run_slice_lh w t ad m cap (yr8 c) kl p i j (by omega) (by omega) (by omega),g,D];simp only [Result.andThen_ok,sliced,Z1];rfl
def QR.sliceL {dst t e ad m cap kl l sz b h} (j:dec ops k n F'=some o) (p:ya1 ops k n F'=some (dst,t,.slice ad m cap,some (.int kl l),none)) (q:zt9 P t=some (e,sz,b,h)) (i:Nat) (r:l=(i:Int)) (s:i<=m):
  QR P F' o S φ rd w (.slice (if cap=i then ad else ad.map (·.add (i*sz))) (m-i) (cap-i)):=by
 subst r;intro w _ _;obtain ⟨o',a,_,u⟩:=yb6 p;obtain ⟨v,z,c,d,_,f,_⟩:=zh6 q;have g:P.elem t=e:=by simp [Program.elem,c]
 have x:(sizeOf e).run P w=.ok sz w:=by simp [sizeOf,typeInfo,d,f]
 rw [<-yk3 j a,u,Sem.run_bind,run_sliceAt_slice w t _ _ _ _ (yr8 c),run_slice_l w t ad m cap (yr8 c) kl i (by omega) (by omega),g,x];simp only [Result.andThen_ok,sliced,Z1];rfl
def vh6 {Z:Prop} {t:TypeId} {x:Operand} (p:dec ops k n F'=some o) (b:o.op=.load t x) {i j:Nat} {e:TypeId} {cs:List (AV T.U)} {a:AV T.U} (y:aev T F x=some (.ptr i j)) (q:H[i]?=some (.blk e cs)) (z: ∀i sz k c,a≠.eptr i sz k c) (r:jj3 T P t cs j=some a)
  (h:Sim T w0 S0 ⟨F,H⟩ F' w S φ) (d:i∈rd) (K: ∀v,QR P F' o S φ rd w v->VR T w S φ a v->okA H a->Z):Z:=by
 obtain ⟨v,A,g,s,rfl⟩:=u0 h.fr y;obtain ⟨E,c,f,u,G,B⟩:=h.ents i _ q;rw [s] at f;simp only [X0,Addr.mk.injEq,and_true] at f;subst f;obtain ⟨v,C,D⟩:=vt5 B r;refine K v (QR.load p (fun I _ l=>(l i d _ s u.lt).trans u) (by rw [zy9 p b,u9 A]) v C) D ⟨fun i m=>h.eids _ _ q i (qf8 r i m),?_⟩;cases a<;>first|trivial|exact absurd rfl (z _ _ _ _)
def yu4 (t x):za1 (zw1 T t x)= []:=by
 unfold zw1;generalize zc6 T t x=l;induction l with
 |nil=>rfl
 |cons c r a=>rw [U0,za1,a];rfl
def yu5 (t:Ty) (x:den T.U t):noE (zw1 T t x):=by
 intro a ha i sz k c e;unfold zw1 at ha
 grind
def ql2 {Z:Prop} {t:TypeId} {x:Operand} (q:dec ops k n F'=some o) (r:o.op=.load t x) {b o0 c:Nat} {cs:List (AV T.U)} {e:List Value} {a:AV T.U} (D:ev F' x=some (.pointer (some ⟨b,o0+c,none⟩)))
  (B: ∀h,Chg S w h->Same φ rd w h->Rg h (some ⟨b,o0,none⟩) e) (s:VRL T w S φ cs e) (E:noE cs) (l:za1 cs= []) (G:zu0 T P t cs c=some a)
  (K: ∀v,QR P F' o S φ rd w v->VR T w S φ a v->okA H a->Z):Z:=by
 obtain ⟨i,d,u,y,f⟩:=jp0 G;have m:okA H a:=gw2 E f (by rw [l];intro i u;cases u);have g:=zy9 q r;rw [u9 D] at g;cases hag:ye3 d with
 |false=>
  rw [hag] at f;obtain ⟨v,I,J⟩:=s.get T (show cs[c]?=some a from f);have z:zk7 P t=true:=by unfold zk7;rw [y];cases d<;>simp_all [ye3]
  refine K v (QR.load1 q g z v ?_) J m;exact fun h f A=>(B h f A c v I).2
 |true=>
  rw [hag] at f;unfold jy7 at f;simp only at f;split at f
  ·rename_i p;simp only [X0] at f;subst f;have z:zk7 P t=false:=by unfold zk7;rw [y];cases d<;>simp_all [ye3]
   have C:=s.len T;have p:=Y1 p;refine K _ (QR.loadA (ad:=some ⟨b,o0,none⟩) (j:=c) (cs:=e) (sz:=i.size) q B g z (by rw [y];rfl) (by unfold yb2;rw [u];rfl) ((e.drop c).take i.size) (by rw [Y6,Q7];omega) rfl) ⟨_,rfl,?_⟩ m;simpa using (s.drop T c).take T i.size
  ·cases f
def zn8 {α:Type} {xs:List α} {k:Nat} (d:α) (hk:k<xs.length):xs[k]?=some (xs.getD k d):=by
 grind
def kc7 {e:Ty} {xs:List (den T.U e)} {ad:Option Addr} {cap:Nat} (h:CR T w S (.list e) xs (.slice ad xs.length cap)) {k:Nat} (hk:k<xs.length):
  ∃vals,Rg w (some ⟨bk ad,of ad+k*szT T e,none⟩) vals/\VRL T w S φ (zw1 T e (xs.getD k (ya7 T e))) vals/\bk ad∉S:=by
 generalize hv:Value.slice ad xs.length cap=v at h;cases h with
 |list _ _ ad' cap' u hcap hnil had hcell hrel=>
  simp only [Value.slice.injEq,true_and] at hv;obtain ⟨rfl,rfl⟩:=hv;have hx:=zn8 (ya7 T e) hk;generalize xs.getD k (ya7 T e)=x at *;refine ⟨(List.range (szT T e)).map (u k),?_,?_,(had (fun e0=>by subst e0;simp at hk)).2.2⟩
  ·intro j v hj;refine ⟨rfl,?_⟩;simp only [bk,of];have hjl:j<szT T e:=by
    grind
   rw [W2,List.getElem?_range hjl] at hj;simp only [Z8,X0] at hj;subst hj;have hc:(zc6 T e x)[j]?=some ((zc6 T e x)[j]'(by rw [za9];exact hjl)):=Y0 _;have:=hcell k j _ (by rw [hx];exact congrArg some hc);rw [U2];exact this
  ·have key: ∀(l:List (Cell T.U)) (s m:Nat),l.length=m->(∀j c,l[j]?=some c->CR T w S c.t c.x (u k (s+j)))->VRL T w S φ (l.map .cell) ((List.range' s m).map (u k)):=by
    intro l;induction l with
    |nil=>intro s m hm _;simp at hm;subst hm;simp [VRL]
    |cons c r ih=>
     intro s m hm hc;cases m with
     |zero=>simp at hm
     |succ m=>
      rw [U0,List.range'_succ,U0];refine ⟨hc 0 c rfl,ih (s+1) m (by simpa using hm) fun j c' hj=>?_⟩;have:=hc (j+1) c' (by simpa using hj)
      grind
   have:=key (zc6 T e x) 0 (szT T e) (za9 T e x) (fun j c hj=>by rw [W9];exact hrel k j c (by rw [hx];exact congrArg some hj));unfold zw1;rw [List.range_eq_range'];exact this
def qu7 {Z:Prop} {t:TypeId} {x:Operand} (g:dec ops k n F'=some o) (d:o.op=.load t x) {e:Ty} {xs:List (den T.U e)} {i c:Nat} {a:AV T.U} (j:aev T F x=some (.lptr e xs i c)) (l:zu0 T P t (zw1 T e (xs.getD i (ya7 T e))) c=some a)
  (h:Sim T w0 S0 ⟨F,H⟩ F' w S φ) (K: ∀v,QR P F' o S φ rd w v->VR T w S φ a v->okA H a->Z):Z:=by
 obtain ⟨v,m,ad,cap,p,q,rfl⟩:=u0 h.fr j;obtain ⟨f,r,s,u⟩:=kc7 (φ:=φ) p q;exact ql2 g d (b:=bk ad) (o0:=of ad+i*szT T e) (c:=c) (by rw [m,U2]) (fun z y _=>r.chg y (.inl u)) s (yu5 _ _) (yu4 _ _) l K
def jh3 {t x y} (b:dec ops k n F'=some o) (a:o.op=.indexAddr t x y):zq5 ops k n F'=some (o.dst,t,evD F' x,evD F' y):=by
 unfold zq5;rw [b];cases o;simp only at a;subst a;rfl
def ya8 {t:TypeId} {e:Ty} (h:yx9 T P t e=true):zm3 P t=some (szT T e):=by
 unfold yx9 at h;split at h
 ·simp_all
 ·cases h
def za7 {R:Type} {c:Prop} [Decidable c] {x:Option R} {r:R} (h:(if c then x else none)=some r):c/\x=some r:=by
 grind
def jm3 (h:Sim T w0 S0 ⟨F,H⟩ F' w S φ) {i:Nat} {e:TypeId} {ty:Ty} {xs:List (den T.U ty)} (hi:H[i]?=some (.row e ty xs)) (hx:0<xs.length):
  ∃g c B vals,(φ i).ad=some ⟨g,0,none⟩/\(φ i).n=xs.length/\Own w B e (szT T ty) (φ i).ad xs.length (φ i).cap vals/\Blk w g c e/\(φ i).cap*szT T ty<=c.size/\c.toList.take (xs.length*szT T ty)=vals/\CellsR T w S (xs.flatMap (zc6 T ty)) vals/\g∈S/\B<=g/\B<=w.heap.size/\xs.length<=(φ i).cap/\(φ i).cap<=maxLen:=by
 obtain ⟨B,vals,h1,h2,h3,h4,h5⟩:=h.ents i _ hi;rw [h2] at h1;rcases h1.cases with ⟨_,hn,_⟩|⟨c,had,hB,hb,hle,hm,hs,ht⟩
 ·omega
 ·grind
def yk4 {α β:Type} {f:α->List β} {sz:Nat} (hf: ∀y,(f y).length=sz): ∀ {l:List α} {k:Nat} {x:α},l[k]?=some x->((l.flatMap f).drop (k*sz)).take sz=f x
 | [],k,x,h=>by simp at h
 |y::r,0,x,h=>by
  grind
 |y::r,k+1,x,h=>by
  rw [V9,show (k+1)*sz=(f y).length+k*sz by rw [hf,U4,J0],<-List.drop_drop,List.drop_left];exact yk4 hf (by simpa using h)
def CellsR.vrl: ∀ {cs vs},CellsR T w S cs vs->VRL T w S φ (cs.map .cell) vs
 | [],[],_=>trivial
 | [],_::_,h=>by have:=h.1;simp at this
 |_::_,[],h=>by have:=h.1;simp at this
 |c::r,v::s,h=>⟨h.2 0 c v rfl rfl,CellsR.vrl ⟨by have:=h.1;simpa using this,fun j c' a b d=>h.2 (j+1) c' a (by simpa using b) (by simpa using d)⟩⟩
def CellsR.cut {cs vs} (h:CellsR T w S cs vs) (a b):CellsR T w S ((cs.drop a).take b) ((vs.drop a).take b):=by
 refine ⟨by rw [Y6,Y6,Q7,Q7,h.1],fun j c v d e=>?_⟩;rw [Z3] at d e;split at d
 ·rename_i f;rw [if_pos f] at e;rw [Q6] at d e;exact h.2 _ c v d e
 ·cases d
def ge6 (h:Sim T w0 S0 ⟨F,H⟩ F' w S φ) {i e ty xs} (l:H[i]?=some (.row e ty xs)) {j} (m:j<xs.length):
  ∃g a,(φ i).ad=some ⟨g,0,none⟩/\Rg w (some ⟨g,0+j*szT T ty,none⟩) a/\VRL T w S φ (zw1 T ty (xs.getD j (ya7 T ty))) a:=by
 obtain ⟨g,c,B,a,b,_,p,_,_,_,q,_⟩:=jm3 h l (by omega);refine ⟨g,(a.drop (j*szT T ty)).take (szT T ty),b,?_,?_⟩
 ·have d:=p.rg;rw [b] at d;exact d.sub (j*szT T ty) (szT T ty) _ (fun _=>rfl)
 ·have f:=q.cut (j*szT T ty) (szT T ty);rw [yk4 (za9 T ty) (zn8 (ya7 T ty) m)] at f;exact f.vrl
def qu6 {Z:Prop} {t:TypeId} {x:Operand} (z:dec ops k n F'=some o) (d:o.op=.load t x) {i sz j c:Nat} {e:TypeId} {ty:Ty} {xs:List (den T.U ty)} {a:AV T.U} (u:aev T F x=some (.eptr i sz j c)) (f:H[i]?=some (.row e ty xs)) (A:zu0 T P t (zw1 T ty (xs.getD j (ya7 T ty))) c=some a)
  (h:Sim T w0 S0 ⟨F,H⟩ F' w S φ) (l:i∈rd) (K: ∀v,QR P F' o S φ rd w v->VR T w S φ a v->okA H a->Z):Z:=by
 obtain ⟨v,B,g,m,rfl⟩:=u0 h.fr u;obtain ⟨C,p⟩:=(zd4 h u).2 e ty xs f;obtain ⟨I,y,q,D,E⟩:=ge6 h f C;have r:=(h.own _ (ui1 h f rfl m)).2;rw [m] at q;simp only [X0,Addr.mk.injEq,and_true] at q;subst q;subst p;exact ql2 z d (b:=g) (o0:=0+j*szT T ty) (c:=c) (by rw [B,U2]) (fun G _ s=>Rg.same D (show G.heap[g]?=w.heap[g]? from s i l ⟨g,0,none⟩ m r)) E (yu5 _ _) (yu4 _ _) A K
def gy9 {Z:Prop} {R:Type} {r:R} {t:TypeId} {x y:Operand} (hd:dec ops k n F'=some o) (hop:o.op=.indexAddr t x y) {s:AV T.U} {kk:IntKind} {j:Int} (hx:aev T F x=some s) (hy:aev T F y=some (cI T kk j)) {K0:AV T.U->Option R} (hK0:zy0 T P t H s j K0=some r)
  (h:Sim T w0 S0 ⟨F,H⟩ F' w S φ) (K: ∀a v,K0 a=some r->QR P F' o S φ rd w v->VR T w S φ a v->okA H a->Z):Z:=by
 obtain ⟨X,h1,h2⟩:=u0 h.fr hx;obtain ⟨Y,h3,h4⟩:=u0 h.fr hy;have e:=zb0 h4;subst e;have hdi:=jh3 hd hop;rw [u9 h1,u9 h3] at hdi;unfold zy0 at hK0;split at hK0
 ·rename_i e xs;split at hK0
  ·rename_i hel;obtain ⟨hj,hK⟩:=za7 hK0;have h2:CR T w S (.list e) xs X:=h2;have h2':=h2;cases h2' with
   |list _ _ ad cap u hcap hnil had hcell hrel=>
    have hne:xs≠ []:=by intro e;subst e;simp at hj;omega
    obtain ⟨ha,_,_⟩:=had hne;generalize bk ad=b at ha;generalize of ad=of0 at ha;subst ha;refine K _ _ hK (QR.indexS hd hdi _ (ya8 hel) j.toNat (by omega) (by omega)) ⟨_,cap,h2,by omega,rfl⟩ ?_;exact ⟨fun i hi=>(by cases hi),trivial⟩
  ·cases hK0
 ·rename_i i;split at hK0
  ·rename_i e ty xs hi;split at hK0
   ·rename_i hel;obtain ⟨hj,hK⟩:=za7 hK0;obtain ⟨g,c,B,vals,h5,h6,_⟩:=jm3 h hi (by omega);rw [VR] at h2;subst h2;rw [h5,h6] at hdi;refine K _ _ hK (QR.indexS hd hdi _ (ya8 hel) j.toNat (by omega) (by omega)) ⟨g,h5,by simp⟩ ?_;refine ⟨(zd4 h hx).1,?_⟩
    grind
   ·cases hK0
  ·cases hK0
 ·rename_i i sz o1 m;split at hK0
  ·rename_i e ty xs hi;split at hK0
   ·rename_i hel hsz;have hsz:=X1 hsz;subst hsz;obtain ⟨hj,hK1⟩:=za7 hK0;obtain ⟨hj2,hK⟩:=za7 hK1;obtain ⟨ad,rfl,hcap,hn,_⟩:=h2;rcases hn with hn|⟨g,hg1,hg2⟩
    ·omega
    ·subst hg2;refine K _ _ hK (QR.indexS hd hdi _ (ya8 hel) j.toNat (by omega) (by omega)) ⟨g,hg1,by simp [U9]⟩ ?_;refine ⟨(zd4 h hx).1,?_⟩
     grind
   ·cases hK0
  ·rename_i e cs hi;split at hK0
   ·rename_i s hes;split at hK0
    ·rename_i hsz;have hsz:=X1 hsz;subst hsz;obtain ⟨hj,hK⟩:=za7 hK0;obtain ⟨ad,rfl,hcap,hn,_⟩:=h2;rcases hn with hn|⟨g,hg1,hg2⟩
     ·omega
     ·subst hg2;exact K _ _ hK (QR.indexS hd hdi _ hes j.toNat (by omega) (by omega)) ⟨g,hg1,by simp [U9]⟩ ⟨(zd4 h hx).1,trivial⟩
    ·cases hK0
   ·cases hK0
  ·cases hK0
 ·rename_i i o0 sz n0 lo m;split at hK0
  ·rename_i s hes;split at hK0
   ·rename_i hsz;have hsz:=X1 hsz;subst hsz;obtain ⟨hj,hK⟩:=za7 hK0;obtain ⟨g,ad,hg,rfl,hle,had⟩:=h2;rcases had with had|rfl
    ·omega
    ·split at hK
     ·exact K _ _ hK (QR.indexS hd hdi _ hes j.toNat (by omega) (by omega)) ⟨g,hg,by omega,by simp [U9,U2]⟩ ⟨(zd4 h hx).1,trivial⟩
     ·exact K _ _ hK (QR.indexS hd hdi _ hes j.toNat (by omega) (by omega)) ⟨g,hg,by simp [U9,U2]⟩ ⟨(zd4 h hx).1,trivial⟩
   ·cases hK0
  ·cases hK0
 ·cases hK0
def qu3 {t x b c} (d:dec ops k n F'=some o) (a:o.op=.slice t x b c none):ya1 ops k n F'=some (o.dst,t,evD F' x,b.map (evD F'),c.map (evD F')):=by
 unfold ya1;rw [d];cases o;simp only at a;subst a;rfl
def ju0 {t:TypeId} {e:Ty} (h:eIs T P t e=true): ∃et by_ zc,zt9 P t=some (et,szT T e,by_,zc):=by
 unfold eIs at h;split at h
 ·simp_all
 ·cases h
def zm5 (ad:Option Addr) (cap i sz:Nat):Option Addr:=if cap=i then ad else ad.map (·.add (i*sz))
def vm5 (ad cap sz):zm5 ad cap 0 sz=ad:=by
 unfold zm5;split
 ·rfl
 ·cases ad<;>simp [Addr.add]
def yb3 {Z:Prop} {t:TypeId} {x:Operand} {lo hi:Option Operand} (hd:dec ops k n F'=some o) (hop:o.op=.slice t x lo hi none) {ad:Option Addr} {m cap sz et by_:Nat} {zc:Array Value} (hX:ev F' x=some (.slice ad m cap)) (hmc:m<=cap) {l h:Option Int} {kl kh:IntKind}
  (hl:lo.map (evD F')=l.map (Value.int kl)) (hh:hi.map (evD F')=h.map (Value.int kh)) (he:zt9 P t=some (et,sz,by_,zc)) (hj:0<=l.getD 0/\l.getD 0<=h.getD m/\h.getD m<=cap) (hne:l≠none\/h≠none)
  (K:QR P F' o S φ rd w (.slice (if l=none then ad else zm5 ad cap (l.getD 0).toNat sz) ((h.getD m).toNat-(l.getD 0).toNat) (if l=none then cap else cap-(l.getD 0).toNat))->Z):Z:=by
 have hds:=qu3 hd hop;rw [u9 hX,hl,hh] at hds;cases l with
 |none=>
  cases h with
  |none=>simp at hne
  |some h=>
   have:=QR.sliceH (S:=S) (φ:=φ) (rd:=rd) (w:=w) hd hds he h.toNat (by simp at hj;omega) (by simp at hj;omega)
   grind
 |some l=>
  cases h with
  |none=>
   have:=QR.sliceL (S:=S) (φ:=φ) (rd:=rd) (w:=w) hd hds he l.toNat (by simp at hj;omega) (by simp at hj;omega);exact K (by simpa [zm5] using this)
  |some h=>
   have:=QR.sliceLH (S:=S) (φ:=φ) (rd:=rd) (w:=w) hd hds he l.toNat h.toNat (by simp at hj;omega) (by simp at hj;omega) (by simp at hj;omega) (by simp at hj;omega);exact K (by simpa [zm5] using this)
def CR.sub {e:Ty} {xs:List (den T.U e)} {ad:Option Addr} {cap i m:Nat} (h:CR T w S (.list e) xs (.slice ad xs.length cap)) (hle:i+m<=xs.length):CR T w S (.list e) ((xs.drop i).take m) (.slice (zm5 ad cap i (szT T e)) m (cap-i)):=by
 generalize hv:Value.slice ad xs.length cap=v at h;cases h with
 |list _ _ ad' cap' u hcap hnil had hcell hrel=>
  simp only [Value.slice.injEq,true_and] at hv;obtain ⟨rfl,rfl⟩:=hv;have hlen:((xs.drop i).take m).length=m:=by rw [Y6,Q7];omega
  have hne:(xs.drop i).take m≠ []->xs≠ []:=by intro h e;subst e;simp at h
  have hpos:(xs.drop i).take m≠ []->0<m:=by
   intro h;cases m with
   |zero=>simp at h
   |succ m=>omega
  have hat: ∀j,j<m->((xs.drop i).take m)[j]?=xs[i+j]?:=by intro j hj;rw [Z3,if_pos hj,Q6]
  have hadr:(xs.drop i).take m≠ []->zm5 ad cap i (szT T e)=some ⟨bk ad,of ad+i*szT T e,none⟩:=by
   intro h;obtain ⟨h1,_,_⟩:=had (hne h);have:=hpos h;unfold zm5;rw [if_neg (by omega)];generalize bk ad=b at h1⊢;generalize of ad=o1 at h1⊢;subst h1;simp only [Z8,Addr.add]
   grind
  have hres:CR T w S (.list e) ((xs.drop i).take m) (.slice (zm5 ad cap i (szT T e)) ((xs.drop i).take m).length (cap-i)):=by
   refine .list e _ _ _ (fun k j=>u (i+k) j) (by rw [hlen];omega) ?_ ?_ ?_ ?_
   ·intro ha;unfold zm5 at ha;split at ha
    ·grind
    ·cases ad with
     |none=>have:=hnil rfl;rw [hlen];omega
     |some a=>cases ha
   ·intro h;obtain ⟨h1,h2,h3⟩:=had (hne h);rw [hadr h];exact ⟨rfl,h2,h3⟩
   ·intro k j c hk;have hkm:k<m:=by
     grind
    have hn:(xs.drop i).take m≠ []:=by intro e;rw [e] at hk;simp at hk
    rw [hat k hkm] at hk;have:=hcell (i+k) j c hk;rw [hadr hn];show w.cell? ⟨bk ad,of ad+i*szT T e+(k*szT T e+j),none⟩=some (u (i+k) j)
    grind
   ·grind
  rwa [hlen] at hres
def qk7 (F:AF T):Option Operand->Option (Option Int)
 |none=>some none
 |some x=>match aev T F x with|some a=>(match wk6 T a with|some i=>some (some i)|none=>none)|none=>none
def yy8 (hF:FR T w S φ F F') {x l} (h:qk7 F x=some l): ∃kl,x.map (evD F')=l.map (Value.int kl):=by
 cases x with
 |none=>simp only [qk7,X0] at h;subst h;exact ⟨.i64,rfl⟩
 |some y=>
  simp only [qk7] at h;split at h
  ·rename_i a c;split at h
   ·rename_i i b;simp only [X0] at h;subst h;obtain ⟨v,d,f⟩:=u0 hF c;unfold wk6 at b;split at b
    ·rename_i k x;have e:=zb0 f;subst e;refine ⟨k,?_⟩;have b:x=i:=X5 b;subst b;show some (evD F' y)=some (Value.int k x);rw [u9 d]
    ·cases b
   ·cases h
  ·cases h
def wh4 {Z:Prop} {R:Type} {r:R} {t:TypeId} {x:Operand} {lo E:Option Operand} (hd:dec ops k n F'=some o) (G:o.op=.slice t x lo E none) {s:AV T.U} {l m:Option Int} (hx:aev T F x=some s) (A:qk7 F lo=some l) (hhi:qk7 F E=some m) (I:l≠none\/m≠none)
  {K0:AV T.U->Option R} (b:yh2 T P t H s l m K0=some r) (h:Sim T w0 S0 ⟨F,H⟩ F' w S φ) (K: ∀a v,K0 a=some r->QR P F' o S φ rd w v->VR T w S φ a v->okA H a->Z):Z:=by
 obtain ⟨X,h1,J⟩:=u0 h.fr hx;obtain ⟨kl,e1⟩:=yy8 h.fr A;obtain ⟨kh,e2⟩:=yy8 h.fr hhi;unfold yh2 at b;split at b
 ·rename_i e xs;simp only at b;split at b
  ·rename_i he;obtain ⟨f,O⟩:=za7 b;obtain ⟨et,V,zc,q⟩:=ju0 he;have J:CR T w S (.list e) xs X:=J;have h2':=J;cases h2' with
   |list _ _ ad cap u j z d hcell hrel=>
    refine yb3 hd G h1 j e1 e2 q ⟨f.1,f.2.1,Int.le_trans f.2.2 (by have:=j;omega)⟩ I fun W=>K (.cell ⟨.list e,_⟩) _ O W ?_ ⟨fun i E=>(by cases E),trivial⟩;show CR T w S (.list e) (List.take ((m.getD (xs.length:Int)).toNat-(l.getD 0).toNat) (List.drop (l.getD 0).toNat xs)) _;have hle:(l.getD 0).toNat+((m.getD (xs.length:Int)).toNat-(l.getD 0).toNat)<=xs.length:=by omega
    have:=CR.sub J hle;cases l with
    |none=>
     have e0:zm5 ad cap 0 (szT T e)=ad:=by
      unfold zm5;split
      ·rfl
      ·cases ad with
       |none=>rfl
       |some a=>simp [Addr.add]
     simpa [e0] using this
    |some l=>simpa using this
  ·cases b
 ·rename_i i;split at b
  ·rename_i e ty xs E;simp only at b;split at b
   ·rename_i he;obtain ⟨f,O⟩:=za7 b;obtain ⟨et,V,zc,q⟩:=ju0 he;rw [VR] at J;subst J;obtain ⟨B,L,Y,g2,_,_,_⟩:=h.ents i _ E;have j:(φ i).n<=(φ i).cap:=Y.le.1;rw [<-g2] at f;refine yb3 hd G h1 j e1 e2 q ⟨f.1,f.2.1,by have:=f.2.2;omega⟩ I fun W=>K (.sl i (szT T ty) (l.getD 0).toNat ((m.getD (xs.length:Int)).toNat-(l.getD 0).toNat)) _ O W ?_ ⟨(zd4 h hx).1,trivial⟩;have A:(if l=none then (φ i).cap else (φ i).cap-(l.getD 0).toNat)=(φ i).cap-(l.getD 0).toNat:=by cases l<;>simp
    have C:(l.getD 0).toNat=0->(if l=none then (φ i).ad else zm5 (φ i).ad (φ i).cap (l.getD 0).toNat (szT T ty))=(φ i).ad:=by
     intro M;cases l with
     |none=>rfl
     |some l=>simp only [reduceCtorEq,if_false];rw [M,vm5]
    rw [VR,<-g2,A];refine ⟨_,rfl,?_,?_,?_,C⟩
    ·cases l<;>simp at f⊢ <;>omega
    ·rcases Y.cases with ⟨_,N,_⟩|⟨c,d,_,_,_⟩
     ·left;omega
     ·by_cases M:(m.getD ((φ i).n:Int)).toNat-(l.getD 0).toNat=0
      ·exact .inl M
      ·obtain ⟨g,hg⟩: ∃g,(φ i).ad=some ⟨g,0,none⟩:=⟨_,d⟩;refine .inr ⟨g,hg,?_⟩;cases l with
       |none=>simpa using hg
       |some l=>
        simp only [reduceCtorEq,if_false,V0] at f M⊢;unfold zm5;rw [if_neg (by omega),hg];simp only [Z8,Addr.add];split
        ·rename_i hz;simp [hz]
        ·simp
    ·intro p;rcases Y.cases with ⟨hn0,N,hc0,_⟩|⟨c,d,_,_,_⟩
     ·cases l<;>simp at f⊢ <;>omega
     ·cases l with
      |none=>simp at p;rw [p] at d;cases d
      |some l=>
       simp only [reduceCtorEq,if_false,V0] at p f⊢;unfold zm5 at p;split at p
       ·rw [p] at d;cases d
       ·rw [d] at p;cases p
   ·cases b
  ·cases b
 ·rename_i i sz D m1;split at b
  ·rename_i e ty xs E;simp only at b;split at b
   ·rename_i he y;have y:=X1 y;subst y;obtain ⟨f,O⟩:=za7 b;obtain ⟨et,V,zc,q⟩:=ju0 he;obtain ⟨ad,rfl,j,N,z,hz1⟩:=J;have hrow:xs.length<=(φ i).cap:=by
     obtain ⟨B,L,Y,g2,_,_,_⟩:=h.ents i _ E;have:=Y.le.1;omega
    have hjc:m.getD (m1:Int)<=(((φ i).cap-D:Nat):Int):=by
     have:=f.2.1;rcases f.2.2 with h3|⟨h3,_⟩<;>omega
    refine yb3 hd G h1 (by omega) e1 e2 q ⟨f.1,f.2.1,hjc⟩ I fun W=>K (.sl i (szT T ty) (D+(l.getD 0).toNat) ((m.getD (m1:Int)).toNat-(l.getD 0).toNat)) _ O W ?_ ⟨(zd4 h hx).1,trivial⟩;have A:(if l=none then (φ i).cap-D else (φ i).cap-D-(l.getD 0).toNat)=(φ i).cap-(D+(l.getD 0).toNat):=by cases l<;>simp<;>omega
    have C:D+(l.getD 0).toNat=0->(if l=none then ad else zm5 ad ((φ i).cap-D) (l.getD 0).toNat (szT T ty))=(φ i).ad:=by
     intro M;rw [<-hz1 (by omega)];cases l with
     |none=>rfl
     |some l=>simp only [reduceCtorEq,if_false];rw [show (Option.getD (some l) (0:Int)).toNat=0 by omega,vm5]
    rw [VR,A];refine ⟨_,rfl,?_,?_,?_,C⟩
    ·have:=f.1;have:=f.2.1;omega
    ·by_cases M:(m.getD (m1:Int)).toNat-(l.getD 0).toNat=0
     ·exact .inl M
     ·have N: ∃g,(φ i).ad=some ⟨g,0,none⟩/\ad=some ⟨g,0+D*szT T ty,none⟩:=by
       rcases N with N|N
       ·rcases f.2.2 with h3|⟨h3,h4⟩
        ·omega
        ·have ho:D=0:=by omega
         subst ho;obtain ⟨B,L,Y,g2,_,_,_⟩:=h.ents i _ E;rcases Y.cases with ⟨_,hn0,_⟩|⟨c,d,_,_,_⟩
         ·omega
         ·exact ⟨_,d,(hz1 rfl).trans (d.trans (by rw [M9]))⟩
       ·exact N
      rcases N with ⟨g,hg1,hg2⟩
      ·refine .inr ⟨g,hg1,?_⟩;subst hg2;cases l with
       |none=>simp
       |some l=>
        simp only [reduceCtorEq,if_false,V0] at f M⊢;unfold zm5;rw [if_neg (by omega)];simp only [Z8,Addr.add];split
        ·rename_i hz;simp [U9,hz]
        ·simp [U9]
    ·intro p;cases l with
     |none=>simp at p;have:=z p;simp at f⊢;omega
     |some l=>
      simp only [reduceCtorEq,if_false,V0] at p f⊢;unfold zm5 at p;split at p
      ·have:=z p;omega
      ·cases ad with
       |none=>have:=z rfl;omega
       |some a=>cases p
   ·cases b
  ·cases b
 ·rename_i i o0 sz n0 D m1;simp only at b;split at b
  ·rename_i et s V zc q;split at b
   ·rename_i y;have y:=X1 y;subst y;obtain ⟨f,O⟩:=za7 b;obtain ⟨g,ad,hg,rfl,hle,d⟩:=J;refine yb3 hd G h1 (by omega) e1 e2 q ⟨f.1,f.2.1,by have:=f.2.2;omega⟩ I fun W=>K (.asl i o0 s n0 (D+(l.getD 0).toNat) ((m.getD (m1:Int)).toNat-(l.getD 0).toNat)) _ O W ?_ ⟨(zd4 h hx).1,trivial⟩;rw [VR];cases l with
    |none=>exact ⟨g,ad,hg,by simp,by simp at f⊢;omega,by simpa using d⟩
    |some l=>
     simp only [reduceCtorEq,if_false,V0] at f⊢;unfold zm5;split
     ·rename_i hc0;exact ⟨g,ad,hg,by rw [Nat.sub_sub],by omega,.inl (by omega)⟩
     ·rename_i hc0;refine ⟨g,ad.add (l.toNat*s),hg,by rw [Nat.sub_sub];rfl,by omega,?_⟩;rcases d with d|d
      ·left;omega
      ·right;subst d;simp only [Addr.add];split
       ·rename_i hz;simp [U9,hz]
       ·simp [U9,U2]
   ·cases b
  ·cases b
 ·cases b
end
end Go.X
namespace Go.X
open Go.RowKit Go.V
section
variable {T:Tab} {P:Program} {w w':World} {S S':List Nat} {φ φ':Nat->RA} {w0:World} {S0:Ow} {F:AF T} {H:List (Ent T.U)} {F':PF}
variable {ops:Array Oper} {Q:Exit->Act->World->Prop} {k n:Nat} {ds:List Deferred} {o:Oper}
def ym4 {t x y} (c:dec ops k n F'=some o) (b:o.op=.store t x y) (a:o.dst=none):zn6 ops k n F'=some (t,evD F' x,evD F' y):=by
 unfold zn6;rw [c];cases o;simp only at b a;subst b;subst a;rfl
def ys0: ∀ {aS:List (AV T.U)} {vs:List Value},aS.all (zx8 T)=true->VRL T w S φ aS vs->vs.all Value.oneCell'=true
 | [],[],_,_=>rfl
 | [],_::_,_,h=>h.elim
 |_::_,[],_,h=>h.elim
 |a::r,v::s,h,hv=>by
  simp only [V6,X3] at h⊢;exact ⟨(yw7 h.1 hv.1).2,ys0 h.2 hv.2⟩
def ye4 {t o0 m a} (h:jz7 T P t o0 m a=true): ∃i,P.info? t=some i/\yc6 T a=true/\(zf8 T a).length=i.size/\o0+i.size<=m/\(zf8 T a).all (zx8 T)=true:=by
 unfold jz7 at h;split at h
 ·rename_i i b;simp only [X3] at h;exact ⟨i,b,h.1,X1 h.2.1,Y1 h.2.2.1,h.2.2.2⟩
 ·cases h
def qt1 {t o0 m a} (h:jz7 T P t o0 m a=true) {v} (d:VR T w S φ a v) {c p} (r:p+m<=c.size):stv P t c (p+o0) v=some (yj2 c (p+o0) v.cells.toList):=by
 obtain ⟨i,e,f,g,s,j⟩:=ye4 h;have b:=zk9 f d;have l:=b.len T;have q:=ys0 j b;unfold stv;rw [e];simp only;rw [show (Nat.beq v.cells.size i.size&&(Nat.ble (p+o0+i.size) c.size&&v.cells.toList.all Value.oneCell'))=true from ?_];simp only [X3];refine ⟨?_,W3 (by omega),q⟩;have:v.cells.size=i.size:=by rw [<-g,l];simp
 rw [this];exact J4 _
def jf8: ∀ {aS cs:List (AV T.U)} {o0:Nat},∀i∈za1 (yl7 T cs o0 aS),i∈za1 cs\/i∈za1 aS
 | [],cs,o0,i,h=>.inl h
 |a::r,cs,o0,i,h=>by
  rw [yl7] at h;rcases jf8 i h with h|h
  ·obtain ⟨b,hb,hi⟩:=zu6 h;rcases N4 hb with hb|hb
   ·exact .inl (zi2 hb i hi)
   ·subst hb;exact .inr (by rw [za1];exact X4.2 (.inl hi))
  ·exact .inr (by rw [za1];exact X4.2 (.inr h))
def zj8 {α:Type} (cs:List α) (o:Nat):List α->List α
 | []=>cs
 |a::r=>zj8 (cs.set o a) (o+1) r
def ql8: ∀(l cs o0),gk6 T cs o0 l=zj8 cs o0 l
 | [],_,_=>rfl
 |a::r,cs,o0=>by rw [gk6,zj8,ql8 r]
def ye9: ∀(l c o0),(yj2 c o0 l).toList=zj8 c.toList o0 l
 | [],_,_=>rfl
 |v::r,c,o0=>by rw [yj2,zj8,ye9 r,T8]
def qz0 {α}: ∀(l cs:List α) (o0:Nat),(zj8 cs o0 l).length=cs.length
 | [],_,_=>rfl
 |a::r,cs,o0=>by rw [zj8,qz0 r,Q1]
def yq2 {α}: ∀(l cs:List α) (o0 m:Nat),(zj8 cs o0 l).take m=zj8 (cs.take m) o0 l
 | [],_,_,_=>rfl
 |a::r,cs,o0,m=>by rw [zj8,zj8,yq2 r,List.take_set]
def yn4 {α}: ∀(l pre c b:List α) (o0:Nat),o0+l.length<=c.length->zj8 (pre++c++b) (pre.length+o0) l=pre++zj8 c o0 l++b
 | [],_,_,_,_,_=>rfl
 |a::r,pre,c,b,o0,h=>by
  simp only [U3] at h;rw [zj8,zj8,Q2,List.set_append_right _ _ (by omega),N5,List.set_append_left _ _ (by omega),<-List.append_assoc,U2];exact yn4 r pre _ b (o0+1) (by rw [Q1];omega)
def flatMap_split {α β:Type} {f:α->List β} {sz:Nat} (hf: ∀y,(f y).length=sz) {l:List α} {j:Nat} {x:α} (hj:l[j]?=some x):
  l.flatMap f=(l.take j).flatMap f++f x++(l.drop (j+1)).flatMap f/\((l.take j).flatMap f).length=j*sz:=by
 have hlt:=(X2.1 hj).1;have hx:=(X2.1 hj).2;constructor
 ·conv=>lhs;rw [<-List.take_append_drop j l,J8 hlt,hx]
  grind
 ·rw [flatMap_lenT hf,Y6,J5 (by omega)]
where
 flatMap_lenT {α β:Type} {f:α->List β} {sz:Nat} (hf: ∀y,(f y).length=sz): ∀ {l:List α},(l.flatMap f).length=l.length*sz:=by
  intro l;induction l with
  |nil=>simp
  |cons a r ih=>rw [V9,X9,hf,ih,U3,U4,J0]
def ym5 {α e:Type} {f:α->List e} {sz:Nat} (a: ∀y,(f y).length=sz) {xs:List α} {j c:Nat} {x y:α} {l:List e} (g:xs[j]?=some x) (h:f y=zj8 (f x) c l) (i:c+l.length<=sz):(xs.set j y).flatMap f=zj8 (xs.flatMap f) (j*sz+c) l:=by
 have b:=(X2.1 g).1;obtain ⟨m,p⟩:=flatMap_split a g;have d:(xs.set j y)[j]?=some y:=Q0 b;obtain ⟨q,r⟩:=flatMap_split a d;rw [m,q,<-p,yn4 _ _ _ _ _ (by rw [a];exact i),h];rw [List.take_set_of_le (W6 _),List.drop_set_of_lt (by omega)]
def CellsR.set {cs:List (Cell T.U)} {vs:List Value} (h:CellsR T w S cs vs) (j:Nat) {c:Cell T.U} {v:Value} (hc:yo0 T w S c v):CellsR T w S (cs.set j c) (vs.set j v):=by
 refine ⟨by rw [Q1,Q1,h.1],fun i c' v' h1 h2=>?_⟩;by_cases hij:j=i
 ·grind
 ·rw [Z5 hij] at h1 h2;exact h.2 i c' v' h1 h2
def CellsR.put: ∀ {l vl cs vs p},CellsR T w S l vl->CellsR T w S cs vs->CellsR T w S (zj8 cs p l) (zj8 vs p vl)
 | [],[],_,_,_,_,h=>h
 | [],_::_,_,_,_,h,_=>by have:=h.1;simp at this
 |_::_,[],_,_,_,h,_=>by have:=h.1;simp at this
 |c::r,v::s,cs,vs,p,h,a=>by
  rw [zj8,zj8];exact CellsR.put (l:=r) (vl:=s) ⟨by have:=h.1;simpa using this,fun j c' b d e=>h.2 (j+1) c' b (by simpa using d) (by simpa using e)⟩ (a.set p (h.2 0 c v rfl rfl))
def zt5: ∀ {aS:List (AV T.U)} {l:List (Cell T.U)} {vs:List Value},cellsOf T aS=some l->VRL T w S φ aS vs->CellsR T w S l vs
 | [],l,vs,h,hv=>by
  simp only [cellsOf,X0] at h;subst h;cases vs with
  |nil=>exact ⟨rfl,fun j c v h=>by simp at h⟩
  |cons _ _=>exact hv.elim
 |a::r,l,vs,h,hv=>by
  unfold cellsOf at h;split at h
  ·rename_i c l' hc hl;simp only [X0] at h;subst h;cases vs with
   |nil=>exact hv.elim
   |cons v s=>
    have ih:=zt5 hl hv.2;have hcv:yo0 T w S c v:=by
     cases a with
     |cell c'=>simp only [qo1,X0] at hc;subst hc;exact hv.1
     |_=>cases hc
    refine ⟨by simp [ih.1],fun j c' v' h1 h2=>?_⟩;cases j with
    |zero=>simp at h1 h2;subst h1;subst h2;exact hcv
    |succ j=>exact ih.2 j c' v' (by simpa using h1) (by simpa using h2)
  ·cases h
def qb7 {t:TypeId} {x y:Operand} (hd:dec ops k n F'=some o) (hop:o.op=.store t x y) (hdst:o.dst=none) {i sz j c:Nat} {e:TypeId} {ty:Ty} {xs:List (den T.U ty)} {a:AV T.U} (hx:aev T F x=some (.eptr i sz j c)) (hy:aev T F y=some a) (hi:H[i]?=some (.row e ty xs))
  (hf:jz7 T P t c (szT T ty) a=true) {l:List (Cell T.U)} (hl:cellsOf T (zf8 T a)=some l) {y':den T.U ty} (hy':yu1 T ty (gk6 T (zc6 T ty (xs.getD j (ya7 T ty))) c l)=some y')
  (h:Sim T w0 S0 ⟨F,H⟩ F' w S φ) (K:zt3 P ops Q (k+1) n ds w0 S0 (⟨F,H.set i (.row e ty (xs.set j y'))⟩:St T)):WR P ops Q k n ds F' w:=by
 obtain ⟨X,h1,g,h2,rfl⟩:=u0 h.fr hx;obtain ⟨v,h3,h4⟩:=u0 h.fr hy;obtain ⟨hj,hsz⟩:=(zd4 h hx).2 e ty xs hi;subst hsz;obtain ⟨g',carr,B,vals,a1,a2,a3,a4,a5,a6,a7,a8,a9,a10,a11,a12⟩:=jm3 h hi (by omega);rw [h2] at a1;simp only [X0,Addr.mk.injEq,and_true] at a1;subst a1;obtain ⟨ii,hii,f1,f2,f3,f4⟩:=ye4 hf;have hds:=ym4 hd hop hdst;rw [u9 h1,u9 h3] at hds;have hle:j*szT T ty+szT T ty<=xs.length*szT T ty:=by rw [<-Nat.succ_mul];exact Q9 _ hj
 have hle2:xs.length*szT T ty<=carr.size:=W8 (Q9 _ a11) a5;have hst:=qt1 hf h4 (c:=carr) (p:=0+j*szT T ty) (by omega);rw [U2] at hst;have hcr:=zt5 hl (zk9 f1 h4);refine WR.store a4 hds _ hst fun w' hb' hc=>K _ _ ⟨S,φ,h.upd hi rfl hc ?_ ⟨B,(yj2 carr (0+(j*szT T ty+c)) v.cells.toList).toList.take (xs.length*szT T ty),?_,by rw [Q1];exact a2,W8 a10 hc.size,?_,?_⟩ ?_ ?_⟩
 ·intro b hb;simp at hb;subst hb;exact ⟨_,.inl h2,rfl⟩
 ·rw [h2,a2];exact Own.ofBlk hb' a9 a11 (by have:=a12;unfold maxLen at this;omega) (by rw [yq3];exact a5) _ rfl
 ·have hlen:c+l.length<=szT T ty:=by
   have:=hcr.1;have hv:=(zk9 f1 h4).len T;rw [this,<-hv,f2];exact f3
  have hfm:=ym5 (za9 T ty) (zn8 (ya7 T ty) hj) (l:=l) (y:=y') (c:=c) (by rw [zp0 T hy',ql8]) hlen;rw [hfm,ye9,yq2,W9,a6];exact (CellsR.put hcr a7).chg T hc (by intro b hb;simp at hb;subst hb;exact a8) (fun b hb=>.inl hb)
 ·grind
 ·intro q hq;cases hq
 ·grind
def qg9 {α}: ∀(us l:List α) (x:α) (o:Nat),zj8 (x::l) (o+1) us=x::zj8 l o us
 | [],_,_,_=>rfl
 |u::r,l,x,o=>by rw [zj8,zj8,List.set_cons_succ,qg9 r (l.set o u) x (o+1)]
def jb5 {α}: ∀(us l:List α),us.length<=l.length->zj8 l 0 us=us++l.drop us.length
 | [],l,_=>rfl
 |u::r,[],h=>by simp at h
 |u::r,x::l,h=>by
  rw [zj8,List.set_cons_zero,qg9,jb5 r l (by simpa using h)];rfl
def kw4 {α} (us pre l:List α) (o:Nat) (h:o+us.length<=l.length):zj8 (pre++l) (pre.length+o) us=pre++zj8 l o us:=by
 have:=yn4 us pre l [] o h;simpa using this
def VRL.putOnes: ∀ {aS l l':List (AV T.U)} {B us:List Value},Go.X.putOnes T l aS=some l'->BR T w S φ l B->VRL T w S φ aS us->BR T w S φ l' (us++B.drop us.length)/\us.length<=B.length/\ ∀i∈za1 l',i∈za1 l\/i∈za1 aS
 | [],l,l',B,us,h,h1,h2=>by
  simp only [Go.X.putOnes,X0] at h;subst h;cases us with
  |nil=>exact ⟨h1,U8 _,fun i hi=>.inl hi⟩
  |cons _ _=>exact h2.elim
 |b::aS,[],l',B,us,h,h1,h2=>by cases h
 |b::aS,a::l,l',B,us,h,h1,h2=>by
  unfold Go.X.putOnes at h;split at h
  ·rename_i hn;rw [X3] at hn;split at h
   ·rename_i s hs;simp only [X0] at h;subst h;obtain ⟨g1,g2⟩:=h1;rw [zj2,zq6 T hn.1] at g1
    match B,us,g1,h2 with
    |v::B,u::us,g1,h2=>
     obtain ⟨q1,q2,q3⟩:=VRL.putOnes hs ⟨g1.2,g2.2⟩ h2.2;refine ⟨⟨?_,ye6 T hn.2,q1.2⟩,by simpa using q2,fun i hi=>?_⟩
     ·rw [zj2,zq6 T hn.2];exact ⟨h2.1,q1.1⟩
     ·rw [za1] at hi;rcases X4.1 hi with hi|hi
      ·exact .inr (by rw [za1];exact X4.2 (.inl hi))
      ·rcases q3 i hi with hi|hi
       ·exact .inl (by rw [za1];exact X4.2 (.inr hi))
       ·exact .inr (by rw [za1];exact X4.2 (.inr hi))
    | [],_,g1,_=>exact g1.elim
    |_::_,[],_,h2=>exact h2.elim
   ·cases h
  ·cases h
def BR.turn {f:List (AV T.U)->Option (List (AV T.U))} {cs cs':List (AV T.U)} {o d:Nat} {vs us:List Value} {ex:List Nat} (h:jb9 T f cs o=some cs') (hb:BR T w S φ cs vs)
  (hf: ∀(l l':List (AV T.U)) (B:List Value),f l=some l'->BR T w S φ l B->BR T w S φ l' (zj8 B d us)/\d+us.length<=B.length/\ ∀i∈za1 l',i∈za1 l\/i∈ex):
  BR T w S φ cs' (zj8 vs (o+d) us)/\o+d+us.length<=vs.length/\ ∀i∈za1 cs',i∈za1 cs\/i∈ex:=by
 obtain ⟨pre,l,l',h1,h2,h3,h4⟩:=jt1 h hb.2;obtain ⟨h5,h6⟩:=BR.at hb h1 h4;obtain ⟨g1,g2,g3⟩:=hf l l' _ h3 h5;have hlv:o<=vs.length:=by omega
 have htl:(vs.take o).length=o:=by rw [Y6];omega
 have hdl:(vs.drop o).length=vs.length-o:=Q7 ..;have e:zj8 vs (o+d) us=vs.take o++zj8 (vs.drop o) d us:=by
  have:=kw4 us (vs.take o) (vs.drop o) d g2;rw [Q8,htl] at this;exact this
 have hp:VRL T w S φ (zj2 T pre) (vs.take o):=by
  have:=hb.1.take T o;rwa [h1,yg2,Z7 (by omega),Q4 (by omega)] at this
 have hlp:yb1 T pre:=by have:=hb.2;rw [h1,jf6] at this;exact this.1
 refine ⟨⟨?_,?_⟩,by omega,fun i hi=>?_⟩
 ·rw [h2,yg2,e];exact VRL.app T hp g1.1
 ·rw [h2,jf6];exact ⟨hlp,g1.2⟩
 ·rw [h2,yn1] at hi;rw [h1,yn1]
  grind
def jr0 {t n xs l l' B us} (h:qq8 T t n xs l=some l') (b:BR T w S φ l B) (g:xs.length=n) (j:CellsR T w S (xs.flatMap (zc6 T t)) us):
  BR T w S φ l' (zj8 B 0 us)/\0+us.length<=B.length/\ ∀i∈za1 l',i∈za1 l\/i∈([]:List Nat):=by
 unfold qq8 at h;split at h
 ·rename_i a r;split at h
  ·rename_i p q ys s;have:=zu3 s;subst this;split at h
   ·rename_i m;rw [X3] at m;obtain ⟨c,d⟩:=m;have c:=X1 c;have d:=X1 d;simp only [X0] at h;subst h;have e:us.length=n*szT T t:=by rw [<-j.1,flatMap_lenT (za9 T t),g]
    have u:(jo0 T (.arr p q ys)).length=us.length:=by rw [yg1 T b.2.1,e,wd,c,d]
    have f:=b.1.len T;rw [zj2,X9,u] at f;rw [jb5 us B (by omega)];refine ⟨⟨?_,g,b.2.2⟩,by omega,fun i v=>.inl v⟩;rw [zj2];refine VRL.app T (VRL.cells.2 j) ?_;have:=b.1.drop T us.length;rwa [zj2,List.drop_append_of_le_length (by omega),T4 (by omega)] at this
   ·cases h
  ·cases h
 ·cases h
def qv0 {n sz k c l f l2 B us} (h:ql9 T n sz k c l f=some l2) (d:BR T w S φ f B) (z:k<n) (u:CellsR T w S l us):
  BR T w S φ l2 (zj8 B (k*sz+c) us)/\k*sz+c+us.length<=B.length/\ ∀i∈za1 l2,i∈za1 f\/i∈([]:List Nat):=by
 unfold ql9 at h;split at h
 ·rename_i a r;split at h
  ·rename_i ty b xs A;have:=zu3 A;subst this;split at h
   ·rename_i v;rw [X3,X3] at v;obtain ⟨g,j,m⟩:=v;have g:=X1 g;have j:=X1 j;have m:=Y1 m;subst g;subst j;split at h
    ·rename_i y C;simp only [X0] at h;subst h;have q:xs.length=b:=d.2.1;have D:(jo0 T (.arr ty b xs)).length=b*szT T ty:=by rw [yg1 T d.2.1];rfl
     have s:=d.1.len T;rw [zj2,X9,D] at s;have E:k*szT T ty+szT T ty<=b*szT T ty:=by rw [<-Nat.succ_mul];exact Q9 _ z
     have G:=u.1;have I:CellsR T w S (xs.flatMap (zc6 T ty)) (B.take (b*szT T ty)):=by
      have:=d.1.take T (b*szT T ty);rw [zj2,Z7 (by omega),Q4 (by omega)] at this;exact VRL.cells.1 this
     have x:=CellsR.put (p:=k*szT T ty+c) u I;have t:=ym5 (za9 T ty) (zn8 (ya7 T ty) (show k<xs.length by omega)) (l:=l) (y:=y) (c:=c) (by rw [zp0 T C,ql8]) m;rw [<-t] at x;have J:(B.take (b*szT T ty)).length=b*szT T ty:=by rw [Y6];omega
     have e:zj8 B (k*szT T ty+c) us=zj8 (B.take (b*szT T ty)) (k*szT T ty+c) us++B.drop (b*szT T ty):=by
      have:=yn4 us [] (B.take (b*szT T ty)) (B.drop (b*szT T ty)) (k*szT T ty+c) (by omega);simpa using this
     refine ⟨⟨?_,by show (xs.set k y).length=b;rw [Q1];exact q,d.2.2⟩,by omega,fun i K=>.inl K⟩;rw [zj2,e];refine VRL.app T (VRL.cells.2 x) ?_;have:=d.1.drop T (b*szT T ty);rwa [zj2,List.drop_append_of_le_length (by omega),T4 (by omega)] at this
    ·cases h
   ·cases h
  ·cases h
 ·cases h
def CellsR.app {cs ds vs us} (h:CellsR T w S cs vs) (e:CellsR T w S ds us):CellsR T w S (cs++ds) (vs++us):=by
 refine ⟨by simp [h.1,e.1],fun j c v b d=>?_⟩;rcases J9 j cs.length with a|a
 ·rw [X8 a] at b;rw [X8 (by rw [<-h.1];exact a)] at d;exact h.2 j c v b d
 ·rw [Z2 a] at b;rw [Z2 (by rw [<-h.1];exact a),<-h.1] at d;exact e.2 _ c v b d
def yf1 {ty}: ∀ {m cs xs vs},js2 T ty m cs=some xs->VRL T w S φ cs vs->xs.length=m/\CellsR T w S (xs.flatMap (zc6 T ty)) vs
 |0,[],xs,vs,h,a=>by
  simp only [js2,X0] at h;subst h;cases vs with
  |nil=>exact ⟨rfl,rfl,fun j c v h=>by simp at h⟩
  |cons _ _=>exact a.elim
 |0,_::_,_,_,h,_=>by cases h
 |m+1,cs,xs,vs,h,a=>by
  unfold js2 at h;split at h
  ·rename_i l b;split at h
   ·rename_i x p d e;simp only [X0] at h;subst h;have f:=zt5 b (a.take T (szT T ty));obtain ⟨g,i⟩:=yf1 e (a.drop T (szT T ty));refine ⟨by rw [U3,g],?_⟩;rw [V9,zp0 T d,<-List.take_append_drop (szT T ty) vs];exact f.app i
   ·cases h
  ·cases h
def vi8 {b l l' B us} (h:vo6 T b l=some l') (c:BR T w S φ l B) (d:VRL T w S φ b us):
  BR T w S φ l' (zj8 B 0 us)/\0+us.length<=B.length/\ ∀i∈za1 l',i∈za1 l\/i∈([]:List Nat):=by
 unfold vo6 at h;split at h
 ·split at h
  ·split at h
   ·rename_i xs a;obtain ⟨e,f⟩:=yf1 a d;exact jr0 h c e f
   ·cases h
  ·cases h
 ·cases h
def vl4 {t cs f o a} (h:storeB T P t cs o a=some f) {vs} (x:BR T w S φ cs vs) {v} (y:VR T w S φ a v):
  BR T w S φ f (zj8 vs o v.cells.toList)/\(∀i∈za1 f,i∈za1 cs\/i∈a.ids)/\ ∀c:Array Value,c.size=vs.length->stv P t c o v=some (yj2 c o v.cells.toList):=by
 unfold storeB at h;split at h
 ·rename_i ty n xs L;have:=zu3 L;subst this;obtain ⟨us,rfl,M,m⟩:=y;split at h
  ·rename_i i g;split at h
   ·rename_i N;have N:=X1 N;obtain ⟨z,O,A⟩:=BR.turn (d:=0) (us:=us.toList) (ex:= []) h x fun l l' B e q=>jr0 e q M m;have C:us.size=i.size:=by have:=m.1;rw [flatMap_lenT (za9 T ty),M] at this;simp at this;omega
    refine ⟨z,fun i g=>(A i g).imp id (fun h=>absurd h (by simp)),fun c D=>?_⟩;unfold stv;rw [g];simp only;rw [show (Nat.beq (Value.agg us).cells.size i.size&&(Nat.ble (o+i.size) c.size&&(Value.agg us).cells.toList.all Value.oneCell'))=true from ?_];simp only [X3];refine ⟨?_,W3 (by simp at O;omega),?_⟩
    ·show Nat.beq us.size i.size=true;rw [C];exact J4 _
    ·show us.toList.all Value.oneCell'=true;rw [Y8];intro u W;obtain ⟨j,R⟩:=Y9.1 W;have E:=(X2.1 R).1;obtain ⟨s,X⟩: ∃s,(xs.flatMap (zc6 T ty))[j]?=some s:=⟨_,Y0 (by rw [m.1];exact E)⟩;have b:=m.2 j s u X R;obtain ⟨Y,Z⟩:=s;have b:CR T w S Y Z u:=b;cases b<;>rfl
   ·cases h
  ·cases h
 ·split at h
  ·rename_i L e;obtain ⟨ii,hii,V,f2,f3,f4⟩:=ye4 e;have b:=zk9 V y;have hbl:=x.1.len T;obtain ⟨z,O,A⟩:=BR.turn (d:=0) (us:=v.cells.toList) (ex:=za1 (zf8 T a)) h x fun l l' B e q=>by
    unfold wb5 at e;split at e
    ·rename_i r hr;simp only [X0] at e;subst e;obtain ⟨G,I,J⟩:=VRL.putOnes hr q b;exact ⟨by rw [jb5 _ _ I];exact G,by omega,J⟩
    ·obtain ⟨G,I,J⟩:=vi8 e q b;exact ⟨G,I,fun i g=>(J i g).imp id fun h=>by cases h⟩
   refine ⟨z,fun i g=>(A i g).imp id fun h=>by rw [yh8 V] at h;exact h,fun c D=>?_⟩;have K:=b.len T;have:=qt1 e y (c:=c) (p:=o) (by rw [K];omega);exact this
  ·cases h
def yx1 {t x y} (J:dec ops k n F'=some o) (s:o.op=.store t x y) (m:o.dst=none) {i g p e cs f a} (L:ev F' x=some (.pointer (some ⟨g,p,none⟩))) (u:(φ i).ad=some ⟨g,0,none⟩) (E:aev T F y=some a) (z:H[i]?=some (.blk e cs))
  (A: ∀(vs:List Value) (v:Value),BR T w S φ cs vs->VR T w S φ a v->BR T w S φ f (zj8 vs p v.cells.toList)/\(∀j∈za1 f,j∈za1 cs\/j∈a.ids)/\ ∀c:Array Value,c.size=vs.length->stv P t c p v=some (yj2 c p v.cells.toList))
  (h:Sim T w0 S0 ⟨F,H⟩ F' w S φ) (K:zt3 P ops Q (k+1) n ds w0 S0 (⟨F,H.set i (.blk e f)⟩:St T)):WR P ops Q k n ds F' w:=by
 obtain ⟨v,M,N⟩:=u0 h.fr E;obtain ⟨Y,c,B,d,G,O⟩:=h.ents i _ z;rw [u] at B;simp only [X0,Addr.mk.injEq,and_true] at B;subst B;have C:=zd4 h E;have r:=ym4 J s m;rw [u9 L,u9 M] at r;obtain ⟨R,V,W⟩:=A _ v O N;refine WR.store d r _ (W c (by simp)) fun w' D I=>K _ _ ⟨S,φ,h.upd z rfl I ?_ ⟨g,_,u,D,G,?_⟩ ?_ ?_⟩
 ·intro b d;simp at d;subst d;exact ⟨_,.inl u,rfl⟩
 ·rw [ye9];exact R.chg T I (by intro b d;simp at d;subst d;exact G) (fun b d=>.inl d)
 ·intro q l;rw [Ent.cellIds] at l;rcases V q l with l|l
  ·exact h.eids _ _ z q l
  ·exact C.1 q l
 ·intro Z t1 xs X;cases X
def CR.oneCell {t x v} (h:CR T w S t x v):v.oneCell'=true:=by cases h<;>rfl
def CellsR.one {cs vs} (h:CellsR T w S cs vs): ∀u∈vs,u.oneCell'=true:=by
 intro u b;obtain ⟨j,a⟩:=Y9.1 b;have c:=(X2.1 a).1;have:=h.2 j (cs[j]'(by rw [h.1];exact c)) u (Y0 _) a;exact CR.oneCell this
def zc1 {α a:Type} {f:α->List a} {sz:Nat} (b: ∀y,(f y).length=sz) (l:List α):(l.flatMap f).length=l.length*sz:=flatMap_split.flatMap_lenT b
def ju7 {e:Ty} {xs:List (den T.U e)} {ad:Option Addr} {n cap:Nat} (h:CR T w S (.list e) xs (.slice ad n cap)):n=xs.length/\(ad=none->n=0/\cap=0)/\ ∃vals,Rg w ad vals/\CellsR T w S (xs.flatMap (zc6 T e)) vals:=by
 generalize hv:Value.slice ad n cap=v at h;cases h with
 |list _ _ ad' cap' u hcap hnil had hcell hrel=>
  simp only [Value.slice.injEq] at hv;obtain ⟨rfl,rfl,rfl⟩:=hv;refine ⟨rfl,hnil,?_⟩;by_cases hx:xs= []
  ·subst hx;exact ⟨[],Rg.nil _ _,rfl,fun j c v h=>by simp at h⟩
  obtain ⟨ha,_,_⟩:=had hx;have key: ∀(l:List (den T.U e)) (s:Nat),(∀k x,l[k]?=some x->xs[s+k]?=some x)->
    ∃vals:List Value,CellsR T w S (l.flatMap (zc6 T e)) vals/\ ∀j v,vals[j]?=some v->w.cell? ⟨bk ad,of ad+(s*szT T e+j),none⟩=some v:=by
   intro l;induction l with
   |nil=>intro s _;exact ⟨[],⟨rfl,fun j c v h=>by simp at h⟩,fun j v h=>by simp at h⟩
   |cons x r ih=>
    intro s hs;obtain ⟨vals,h1,h2⟩:=ih (s+1) (fun k y hk=>by rw [show s+1+k=s+(k+1) by omega];exact hs (k+1) y (by simpa using hk));have h0:xs[s]?=some x:=by simpa using hs 0 x rfl
    have hlen:((List.range (szT T e)).map (u s)).length=szT T e:=by simp
    refine ⟨(List.range (szT T e)).map (u s)++vals,?_,?_⟩
    ·rw [V9];refine CellsR.app ⟨by rw [za9,hlen],fun j c v hc hv=>?_⟩ h1
     grind
    ·intro j v hv;rcases J9 j (szT T e) with hj|hj
     ·rw [X8 (by rw [hlen];exact hj),W2,List.getElem?_range hj] at hv;simp only [Z8,X0] at hv;subst hv;have hc:(zc6 T e x)[j]?=some ((zc6 T e x)[j]'(by rw [za9];exact hj)):=Y0 _
      grind
     ·grind
  obtain ⟨vals,h1,h2⟩:=key xs 0 (fun k x hk=>by rw [W9];exact hk);refine ⟨vals,fun j v hv=>⟨ha,?_⟩,h1⟩;have:=h2 j v hv;rwa [M9,W9] at this
def gv3 {t:Ty} {c:Cell T.U} {xs:List (den T.U t)} (h:c.aS (.list t)=some xs):c=⟨.list t,xs⟩:=Cell.as_eq h
def ki7 {ty a xs} (d:appA.rowIn T ty H a=some xs) (h:Sim T w0 S0 ⟨F,H⟩ F' w S φ) {v} (f:VR T w S φ a v):
  ∃ad cap b,v=.slice ad xs.length cap/\(ad=none->xs.length=0/\cap=0)/\Rg w ad b/\CellsR T w S (xs.flatMap (zc6 T ty)) b:=by
 unfold appA.rowIn at d;split at d
 ·rename_i c;split at d
  ·rename_i ys x;have d:ys=xs:=X5 d;subst d;have:=gv3 x;subst this;have f:CR T w S (.list ty) ys v:=f;have g:=f;cases g with
   |list _ _ ad cap u r s y l t=>
    obtain ⟨_,m,b,z,p⟩:=ju7 f;exact ⟨ad,cap,b,rfl,m,z,p⟩
  ·cases d
 ·rename_i i;split at d
  ·rename_i e ty' ys A;split at d
   ·rename_i C;subst C;simp only [X0] at d;subst d;obtain ⟨B,b,q,m,_,p,_⟩:=h.ents i _ A;rw [VR] at f;subst f;rw [m] at q⊢;exact ⟨_,_,b,rfl,q.nil0,q.rg,p⟩
   ·cases d
  ·cases d
 ·simp only [X0] at d;subst d;rw [VR] at f;subst f;exact ⟨none,0,[],rfl,fun _=>⟨rfl,rfl⟩,Rg.nil _ _,rfl,fun j c v h=>by simp at h⟩
 ·cases d
def yw8 {α β:Type} {f:α->List β} {sz:Nat} (hf: ∀y,(f y).length=sz) (xs:List α) (o n:Nat):((xs.drop o).take n).flatMap f=((xs.flatMap f).drop (o*sz)).take (n*sz):=by
 have key: ∀(l:List α) (k:Nat),(l.take k).flatMap f=(l.flatMap f).take (k*sz)/\(l.drop k).flatMap f=(l.flatMap f).drop (k*sz):=by
  intro l;induction l with
  |nil=>intro k;simp
  |cons a r ih=>
   intro k;cases k with
   |zero=>simp
   |succ k=>
    obtain ⟨i1,i2⟩:=ih k;have e:(k+1)*sz=(f a).length+k*sz:=by rw [hf,U4,J0]
    refine ⟨?_,?_⟩
    ·grind
    ·rw [List.drop_succ_cons,V9,i2,e,List.drop_append];simp
 rw [(key _ n).1,(key _ o).2]
def ge5 {R:Type} {r:R} {ty:Ty} {a:AV T.U} {K:List (den T.U ty)->Option R} (b:appA.rowX T ty H a K=some r) (h:Sim T w0 S0 ⟨F,H⟩ F' w S φ) {v:Value} (m:VR T w S φ a v):
  ∃xs,K xs=some r/\ ∃ad cap d,v=.slice ad xs.length cap/\(ad=none->xs.length=0/\cap=0)/\Rg w ad d/\CellsR T w S (xs.flatMap (zc6 T ty)) d:=by
 unfold appA.rowX at b;split at b
 ·rename_i ys t;exact ⟨ys,b,ki7 t h m⟩
 ·rename_i t;clear t;split at b<;>try (cases b;done)
  rename_i i sz o n;split at b<;>try (cases b;done)
  rename_i e ty' xs E;split at b<;>try (cases b;done)
  rename_i x;have:=X1 x;subst this;split at b<;>try (cases b;done)
  rename_i G;subst G;split at b<;>try (cases b;done)
  rename_i I;refine ⟨_,b,?_⟩;obtain ⟨B,d,J,M,_,C,_⟩:=h.ents i _ E;obtain ⟨ad,rfl,D,L,p,_⟩:=m;have f:(List.take n (List.drop o xs)).length=n:=by rw [Y6,Q7];omega
  refine ⟨ad,(φ i).cap-o,(d.drop (o*szT T ty')).take (n*szT T ty'),?_,?_,?_,?_,?_⟩
  ·show Value.slice ad n _=Value.slice ad (List.take n (List.drop o xs)).length _;rw [f]
  ·intro y;show (List.take n (List.drop o xs)).length=0/\_;rw [f];exact p y
  ·intro j u l;rcases L with rfl|⟨g,z,A⟩
   ·simp at l
   ·rw [Z3] at l;split at l<;>try (cases l;done)
    rw [Q6] at l;obtain ⟨_,q⟩:=J.rg _ _ l;subst A;rw [z] at q;refine ⟨rfl,?_⟩;simp only [bk,of,W9] at q⊢;exact q
  ·rw [yw8 (za9 T ty'),Y6,Q7,Y6,Q7,C.1]
  ·intro j c v s m;rw [yw8 (za9 T ty'),Z3] at s;rw [Z3] at m;split at s<;>try (cases s;done)
   rename_i l;rw [if_pos l] at m;rw [Q6] at s m;exact C.2 _ _ _ s m
def ka9 {x y t c} (f:dec ops k n F'=some o) (a:o.op=.call c) (d:c.callee=.builtin .append) (e:c.args.toList= [x,y]) (b:c.argTypes.toList= [t,t]):jk3 ops k n F'=some (o.dst,t,evD F' x,evD F' y):=by
 unfold jk3;rw [f];cases o;cases c;simp only at a d e b;subst a;subst d;simp only [e,b,J4]
def kv9 {w:World} {B:Nat} {e:TypeId} {sz:Nat} {ad:Option Addr} {n cap:Nat} {cs:List Value} (h:Own w B e sz ad n cap cs) {m:Nat} (hm:m<=n):Own w B e sz ad m cap (cs.take (m*sz)):=by
 have hl:=h.len;have hmn:m*sz<=n*sz:=Q9 _ hm;rcases h.cases with ⟨rfl,rfl,rfl,rfl⟩|⟨c,had,hB,hb,hnc,hcm,hs,ht⟩
 ·grind
 ·obtain ⟨g,rfl⟩: ∃g,ad=some ⟨g,0,none⟩:=⟨_,had⟩;refine ⟨by rw [Y6,hl];omega,.inr ⟨g,cap,c,rfl,hB,hb,by omega,hcm,hs,?_⟩⟩
  grind
def qe9 {t:Ty}: ∀(zs:List (den T.U t)) (n:Nat),(zs.take n).flatMap (zc6 T t)=(zs.flatMap (zc6 T t)).take (n*szT T t)
 | [],n=>by simp
 |z::r,0=>by simp
 |z::r,n+1=>by
  rw [List.take_succ_cons,V9,V9,List.take_append,za9,U4,Nat.add_sub_cancel,Q4 (l:=zc6 T t z) (by rw [za9];omega),qe9 r n]
def CellsR.takeN {t:Ty} {zs:List (den T.U t)} {vals:List Value} (h:CellsR T w S (zs.flatMap (zc6 T t)) vals) (n:Nat):CellsR T w S ((zs.take n).flatMap (zc6 T t)) (vals.take (n*szT T t)):=by
 have e:=qe9 zs n;rw [e];refine ⟨by rw [Y6,Y6,h.1],fun j c v h1 h2=>?_⟩;rw [Z3] at h1 h2;split at h1
 ·rename_i hj;rw [if_pos hj] at h2;exact h.2 j c v h1 h2
 ·cases h1
def wg7 {R:Type} {r:R} {ty:Ty} {s:AV T.U} {K:List (den T.U ty)->Option R} (h:appA.rowB T ty H s K=some r): ∃xs,(appA.rowIn T ty H s=some xs\/ ∃i n e zs,s=.sl i (szT T ty) 0 n/\H[i]?=some (.row e ty zs)/\n<=zs.length/\xs=zs.take n)/\K xs=some r:=by
 unfold appA.rowB at h;split at h
 ·rename_i i sz o n;split at h
  ·rename_i e ty' zs hi;split at h
   ·rename_i hb;rw [X3] at hb;have h1:=X1 hb.1;have h2:=X1 hb.2
    grind
   ·cases h
  ·cases h
 ·grind
def vz8 {R:Type} {r:R} {x y:Operand} {t:TypeId} {c:Call} (hd:dec ops k n F'=some o) (hop:o.op=.call c) (hc:c.callee=.builtin .append) (ha:c.args.toList= [x,y]) (hat:c.argTypes.toList= [t,t]) {ty:Ty} {s a:AV T.U} (hx:aev T F x=some s) (hy:aev T F y=some a)
  {K0:AV T.U->List (Ent T.U)->Option R} (hK0:appA T P ty t H s a K0=some r) (h:Sim T w0 S0 ⟨F,H⟩ F' w S φ) (K: ∀b H1,K0 b H1=some r->zt3 P ops Q (k+1) n ds w0 S0 (⟨zc2 T F o.dst b,H1⟩:St T)):WR P ops Q k n ds F' w:=by
 obtain ⟨X,h1,h2⟩:=u0 h.fr hx;obtain ⟨Y,h3,h4⟩:=u0 h.fr hy;unfold appA at hK0;split at hK0
 ·rename_i et sz by_ zc he;split at hK0
  ·rename_i hb;simp only [X3] at hb;have hsz:=X1 hb.1;subst hsz;have hs1:=Y1 hb.2.1;have hby:=Y1 hb.2.2.1;have hek:=hb.2.2.2;obtain ⟨xs,hxs,hK0⟩:=wg7 hK0
   ·obtain ⟨ys,hK1,xd,xcap,news,rfl,hnil,hrg,hcr⟩:=ge5 hK0 h h4;obtain ⟨hle,hK⟩:=za7 hK1;clear hK0 hK1;have hda:=ka9 hd hop hc ha hat;rw [u9 h1,u9 h3] at hda;have hl:news.length=ys.length*szT T ty:=by rw [<-hcr.1,zc1 (za9 T ty)]
    have hle':xs.length+ys.length<=140737488355328:=W8 (Nat.le_mul_of_pos_right _ hby) hle;have hown: ∃ad cap B cs,X=.slice ad xs.length cap/\Own w B et (szT T ty) ad xs.length cap cs/\B<=w.heap.size/\CellsR T w S (xs.flatMap (zc6 T ty)) cs/\(∀b∈ze5 ad,b∈S)/\(∀b∈ze5 ad,b∈S0.chg\/w0.heap.size<=b)/\
      (∀(j:Nat) (e:Ent T.U),(appA.goneA T H s)[j]?=some e->e.live=true-> ∀q,At (φ j) q->q.block∉ze5 ad)/\Sim T w0 S0 ⟨F,appA.goneA T H s⟩ F' w S φ/\(appA.goneA T H s).length=H.length:=by
     rcases hxs with hxs|⟨i,n,e',zs,rfl,hi,hn,hxs⟩
     rotate_left
     ·obtain ⟨B,vals,q1,q2,q3,q4,q5⟩:=h.ents i _ hi;have hee:e'=et:=by
       unfold appA.eOk at hek;simp only [hi] at hek;exact X1 hek
      subst hee;obtain ⟨ad,rfl,p1,_,_,p5⟩:=h2;have p5:=p5 rfl;subst p5;have hlen:xs.length=n:=by rw [hxs,Y6];omega
      refine ⟨(φ i).ad,(φ i).cap,B,vals.take (n*szT T ty),by rw [hlen];rfl,by rw [hlen];exact kv9 q1 (by omega),q3,?_,?_,?_,?_,h.drop i,by simp [appA.goneA]⟩
      ·rw [hxs];exact q4.takeN n
      ·intro b hb;unfold ze5 at hb;split at hb
       ·rename_i a hq;simp at hb;subst hb;exact q5 a hq
       ·cases hb
      ·intro b hb;unfold ze5 at hb;split at hb
       ·rename_i a hq;simp at hb;subst hb;exact (h.lives i _ hi rfl a (.inl hq)).2
       ·cases hb
      ·intro j f hf hl q hq hm;have hji:j≠i:=by
        intro e;subst e;have hlt:j<H.length:=(X2.1 hi).1;rw [show appA.goneA T H (.sl j (szT T ty) 0 n)=H.set j .gone from rfl,Q0 hlt] at hf;simp only [X0] at hf;subst hf;cases hl
       rw [show appA.goneA T H (.sl i (szT T ty) 0 n)=H.set i .gone from rfl,Z5 (Ne.symm hji)] at hf;unfold ze5 at hm;split at hm
       ·rename_i a ha';simp at hm;exact h.apart j i f _ hf hi hl rfl hji q a hq (.inl ha') hm
       ·cases hm
     unfold appA.rowIn at hxs;split at hxs
     ·cases hek
     ·rename_i i;split at hxs
      ·rename_i e' ty' zs hi;split at hxs
       ·rename_i ht;subst ht;have hxs:zs=xs:=X5 hxs;subst hxs;obtain ⟨B,vals,q1,q2,q3,q4,q5⟩:=h.ents i _ hi;have hee:e'=et:=by
         unfold appA.eOk at hek;have hi':H[i]?=some (.row e' ty' zs):=hi;simp only [hi'] at hek;exact X1 hek
        subst hee;rw [VR] at h2;subst h2;rw [q2] at q1⊢;refine ⟨_,_,B,vals,rfl,q1,q3,q4,?_,?_,?_,h.drop i,by simp [appA.goneA]⟩
        ·intro b hb;unfold ze5 at hb;split at hb
         ·rename_i a hq;simp at hb;subst hb;exact q5 a hq
         ·cases hb
        ·intro b hb;unfold ze5 at hb;split at hb
         ·rename_i a hq;simp at hb;subst hb;exact (h.lives i _ hi rfl a (.inl hq)).2
         ·cases hb
        ·intro j f hf hl q hq hm;have hji:j≠i:=by
          intro e;subst e;have hlt:j<H.length:=(X2.1 hi).1;rw [show appA.goneA T H (.own j)=H.set j .gone from rfl,Q0 hlt] at hf;simp only [X0] at hf;subst hf;cases hl
         rw [show appA.goneA T H (.own i)=H.set i .gone from rfl,Z5 (Ne.symm hji)] at hf;unfold ze5 at hm;split at hm
         ·rename_i a ha';simp at hm;exact h.apart j i f _ hf hi hl rfl hji q a hq (.inl ha') hm
         ·cases hm
       ·cases hxs
      ·cases hxs
     ·have hxs: []=xs:=X5 hxs;subst hxs;rw [VR] at h2;subst h2;exact ⟨none,0,w.heap.size,[],rfl,Own.nil _ _ _ _,W6 _,⟨rfl,fun j c v h=>(by simp at h)⟩,fun b hb=>(by cases hb),fun b hb=>(by cases hb),fun j e _ _ q _=>(by simp [ze5]),h,rfl⟩
     ·cases hxs
    obtain ⟨ad,cap,B,cs,rfl,o1,o2,o3,o4,oc,o5,o6,o7⟩:=hown;refine WR.append o1 hrg hda he hl hs1 hcr.one o2 (by omega) hle hnil fun ad' cap' w' g1 g2 g3=>?_;have hnl:(xs++ys).length=xs.length+ys.length:=X9;have hS1: ∃S1:List Nat,(∀b∈S,b∈S1)/\(∀b∈S1,b∈S\/(w.heap.size<=b/\b<w'.heap.size))/\(∀q,ad'=some q->q.block∈S1)/\ ∀q,ad'=some q->w.heap.size<=q.block\/q.block∈ze5 ad:=by
     cases ad' with
     |none=>exact ⟨S,fun _ h=>h,fun _ h=>.inl h,fun q h=>(by cases h),fun q h=>(by cases h)⟩
     |some q=>
      have hlt:q.block<w'.heap.size:=by
       rcases g1.ge with hn|hn
       ·cases hn
       ·exact hn.2
      have hor:w.heap.size<=q.block\/q.block∈ze5 ad:=by
       rcases g3 with g3|g3
       ·right;rw [<-g3];simp [ze5]
       ·left;exact g3
      refine ⟨q.block::S,fun b hb=>Z4 _ hb,fun b hb=>?_,fun q' h=>by simp only [X0] at h;subst h;simp,fun q' h=>by simp only [X0] at h;subst h;exact hor⟩;rcases Z0.1 hb with rfl|hb
      ·rcases hor with hor|hor
       ·exact .inr ⟨hor,hlt⟩
       ·exact .inl (o4 _ hor)
      ·exact .inl hb
    obtain ⟨S1,s1,s2,s3,s4⟩:=hS1;have hCr:CellsR T w' S1 ((xs++ys).flatMap (zc6 T ty)) (cs++news):=by
     rw [J1];exact (o3.app hcr).chg T g2 o4 (fun b hb=>(s2 b hb).imp id And.left)
    have hadd:=o6.addG g2 o4 oc o5 s1 s2 (r:=⟨ad',xs.length+ys.length,cap',[]⟩) (fun q hq=>s4 q (yo3 hq)) (fun q hq=>s3 q (yo3 hq)) (e:=.row et ty (xs++ys))
     ⟨B,cs++news,by rw [za8];exact g1,by rw [za8,hnl],W8 o2 g2.size,hCr,fun q hq=>by rw [za8] at hq;exact s3 q hq⟩ (by intro q hq;cases hq)
    rw [o7] at hadd;refine K _ _ hK _ _ ⟨_,_,hadd.slot (a:=.own H.length) (by rw [VR,za8]) ⟨?_,trivial⟩⟩;intro q hq;simp [AV.ids] at hq;subst hq;rw [X9,o7];simp
  ·cases hK0
 ·cases hK0
def jn6 {t x y} (b:dec ops k n F'=some o) (a:o.op=.makeSlice t x y):jc9 ops k n F'=some (o.dst,t,evD F' x,evD F' y):=by
 unfold jc9;rw [b];cases o;simp only at a;subst a;rfl
def zx1 {α c:Type} {f:α->List c} {sz:Nat} {x:α} (b:(f x).length=sz): ∀(m j:Nat),j<m*sz->((List.replicate m x).flatMap f)[j]?=(f x)[j%sz]?
 |0,j,h=>by simp at h
 |m+1,j,h=>by
  rw [List.replicate_succ,V9];rcases J9 j sz with a|a
  ·rw [X8 (by omega),T0 a]
  ·rw [Z2 (by omega),b,zx1 b m (j-sz) (by rw [U4] at h;omega)];congr 1;exact (Nat.mod_eq_sub_mod a).symm
def yh4 {l cs} (h:cellsOf T (l.map (yw9 T))=some cs):CellsR T w S cs l:=zt5 (φ:=fun _=>⟨none,0,0,[]⟩) h (ye7 T l)
def wa2 {R:Type} {r:R} {x y:Operand} {t:TypeId} (hd:dec ops k n F'=some o) (L:o.op=.makeSlice t x y) {ty:Ty} {k1 k2:IntKind} {l c:Int} (hx:aev T F x=some (cI T k1 l)) (hy:aev T F y=some (cI T k2 c))
  {K0:AV T.U->List (Ent T.U)->Option R} (d:qc9 T P ty t H l c K0=some r) (h:Sim T w0 S0 ⟨F,H⟩ F' w S φ) (K: ∀b H1,K0 b H1=some r->zt3 P ops Q (k+1) n ds w0 S0 (⟨zc2 T F o.dst b,H1⟩:St T)):WR P ops Q k n ds F' w:=by
 obtain ⟨X,A,p⟩:=u0 h.fr hx;obtain ⟨Y,h3,h4⟩:=u0 h.fr hy;have e1:=zb0 p;have e2:=zb0 h4;subst e1;subst e2;unfold qc9 at d;split at d
 ·rename_i e sz by_ I he;split at d
  ·rename_i z q hz;have q:=X1 q;subst q;split at d
   ·rename_i J M;obtain ⟨⟨g1,g2,g3,g4⟩,hK⟩:=za7 d;have B:=jn6 hd L;rw [u9 A,u9 h3] at B;obtain ⟨i,zv,_,_,_,_,_,_,C⟩:=zh6 he;refine WR.make B he l.toNat c.toNat (by omega) (by omega) (by omega) g3 (by omega) fun g w' s=>?_;have D:=Own.made (m:=l.toNat) (m':=c.toNat) s (by omega) (by omega);have hS: ∀b∈g::S,b∈S\/w.heap.size<=b:=by
     intro b N;rcases Z0.1 N with rfl|N
     ·exact .inr s.fresh
     ·exact .inl N
    have O:CellsR T w' (g::S) (zc6 T ty J) I.toList:=by rw [zp0 T M];exact yh4 hz
    have hc:CellsR T w' (g::S) ((List.replicate l.toNat J).flatMap (zc6 T ty)) ((madeCells I (c.toNat*szT T ty)).toList.take (l.toNat*szT T ty)):=by
     have V:(madeCells I (c.toNat*szT T ty)).toList.length=c.toNat*szT T ty:=by rw [M0,size_madeCells]
     have W:l.toNat*szT T ty<=c.toNat*szT T ty:=Q9 _ (by omega);refine ⟨by rw [zc1 (za9 T ty),Z9,Y6,V,J5 W],fun j c v A p=>?_⟩;have u:=(X2.1 A).1;rw [zc1 (za9 T ty),Z9] at u;rw [zx1 (za9 T ty J) _ _ u] at A;rw [Z3,if_pos u] at p;refine O.2 _ c v A ?_;have f:0<szT T ty:=by
      rcases T5 (szT T ty) with Z|Z
      ·rw [Z] at u;omega
      ·exact Z
     rw [<-C] at f;unfold madeCells at p;simp only [N0,T6,W2] at p;rw [List.getElem?_range (by omega)] at p;simp only [Z8,X0] at p;subst p;rw [<-C,Array.getElem?_toList,Z6 (Nat.mod_lt _ f)];congr 1;rw [getElem!_pos I _ (Nat.mod_lt _ f)]
    have E:=h.add (r:=⟨some ⟨g,0,none⟩,l.toNat,c.toNat,[]⟩) s.chg s.fresh s.blk.lt (fun a G=>yr2 G) (e:=.row e ty (List.replicate l.toNat J))
     ⟨w.heap.size,_,by rw [za8];exact D,by rw [za8,Z9],s.chg.size,hc,fun a G=>by rw [za8] at G;simp only [X0] at G;subst G;simp⟩ (by intro j u;cases u)
    refine K _ _ hK _ _ ⟨_,_,E.slot (a:=.own H.length) (by rw [VR,za8]) ⟨by intro i hi;simp [AV.ids] at hi;subst hi;simp,trivial⟩⟩
   ·cases d
  ·cases d
 ·cases d
def qw4 {t a ps e c} (d:dec ops k n F'=some o) (b:o.op=.buildSlice t a ps) (f:yk0 P t a (ps.toList.map fun p=>(p.1,evD F' p.2))=some (e,c)):kk8 P ops k n F'=some (o.dst,a,e,c):=by
 unfold kk8;rw [d];cases o;simp only at b;subst b;have:(ps.map fun p=>(p.1,evD F' p.2)).toList=ps.toList.map fun p=>(p.1,evD F' p.2):=by simp
 simp only [this,f]
def ka4 {t:TypeId} {len:Nat} {ps:Array (Nat×Operand)} (hd:dec ops k n F'=some o) (hop:o.op=.buildSlice t len ps) {ty:Ty} {l:List (Nat×AV T.U)} (hl:zy5 T F ps.toList=some l) {e:TypeId} {xs:List (den T.U ty)} (hb:vm2 T P ty t len l=some (e,xs))
  (h:Sim T w0 S0 ⟨F,H⟩ F' w S φ) (K:zt3 P ops Q (k+1) n ds w0 S0 (⟨zc2 T F o.dst (.own H.length),H++ [.row e ty xs]⟩:St T)):WR P ops Q k n ds F' w:=by
 unfold vm2 at hb;split at hb
 ·rename_i et sz by_ zc he;split at hb
  ·rename_i hok;simp only [X3] at hok;have hsz:=X1 hok.1;subst hsz;have hs1:=Y1 hok.2.1;have h16:=Y1 hok.2.2;split at hb
   ·rename_i cs hcs;split at hb
    ·rename_i zs hzs;simp only [X0,X7] at hb;obtain ⟨rfl,rfl⟩:=hb;obtain ⟨i,zv,hu,hin,hzv,hsi,_,hzc,hzl⟩:=zh6 he;subst hzc;obtain ⟨e1,e2⟩:=yj0 h.fr hl;have hz0:VRL T w S φ ((List.range (len*szT T ty)).map fun j=>yw9 T (zv.cells[j%szT T ty]!)) ((Array.range (len*i.size)).map (zv.cells[· %zv.cells.size]!)).toList:=by
      rw [hsi,hzl,N0,T6];generalize List.range (len*szT T ty)=rr;induction rr with
      |nil=>trivial
      |cons a r ih=>exact ⟨jb0 T _,ih⟩
     obtain ⟨c',g1,g2⟩:=yp1 hz0 e1 e2 hcs;obtain ⟨r1,r2⟩:=yf1 hzs g2;have hbs:yk0 P t len (ps.toList.map fun p=>(p.1,evD F' p.2))=some (et,c'):=by
      unfold yk0;rw [hu];simp only [hin];rw [hsi,W3 h16];simp only;rw [hsi] at g1;have hfin:Instr.fill (fun j=>some (j*szT T ty,szT T ty)) ((Array.range (len*szT T ty)).map (zv.cells[· %zv.cells.size]!)) (ps.toList.map fun p=>(p.1,evD F' p.2))=some c':=g1;cases hz:Nat.beq (len*szT T ty) 0 with
      |true=>
       have:=X1 hz;simp only;rw [this] at hfin⊢;have hr0:Array.range 0= #[]:=rfl;rw [hr0] at hfin⊢;have em: ∀f:Nat->Value,Array.map f #[]= #[]:=fun f=>by simp
       rw [em] at hfin⊢;rw [hfin]
      |false=>simp only [hzv,hfin]
     have hclen:c'.size=len*szT T ty:=by
      have:=g2.len T;have h2:=r2.1;rw [zc1 (za9 T ty),r1] at h2;simpa using h2.symm
     refine WR.bslice c' (qw4 hd hop hbs) fun g w' hN=>?_;have hS: ∀b∈g::S,b∈S\/w.heap.size<=b:=by
      intro b hb;rcases Z0.1 hb with rfl|hb
      ·exact .inr hN.fresh
      ·exact .inl hb
     have hle:len<=9223372036854775807:=by
      have:len<=len*szT T ty:=Nat.le_mul_of_pos_right _ hs1;omega
     have htk:c'.toList.take (len*szT T ty)=c'.toList:=Q4 (by rw [M0,hclen];exact W6 _);have hown:=Own.ofBlk hN.blk hN.fresh (W6 len) hle (Nat.le_of_eq hclen.symm) _ htk;have hadd:=h.add (r:=⟨some ⟨g,0,none⟩,len,len,[]⟩) hN.chg hN.fresh hN.blk.lt (fun a ha=>yr2 ha) (e:=.row et ty zs)
      ⟨w.heap.size,_,by rw [za8];exact hown,by rw [za8,r1],hN.chg.size,r2.chg T hN.chg (by simp) hS,fun a ha=>by rw [za8] at ha;simp only [X0] at ha;subst ha;simp⟩ (by intro j hj;cases hj)
     refine K _ _ ⟨_,_,hadd.slot (a:=.own H.length) (by rw [VR,za8]) ⟨by intro i hi;simp [AV.ids] at hi;subst hi;simp,trivial⟩⟩
    ·cases hb
   ·cases hb
  ·cases hb
 ·cases hb
end
end Go.X
namespace Go.X
open Go.RowKit Go.V
def j6 {α b:Type} (o:Option α) (f:α->Option b):Option b:=match o with|some a=>f a|none=>none
def zb8 {α b:Type} {o:Option α} {f:α->Option b} {y:b} (h:j6 o f=some y): ∃a,o=some a/\f a=some y:=by
 unfold j6 at h;split at h
 ·exact ⟨_,rfl,h⟩
 ·cases h
section
variable (T:Tab)
def jk0:Ty->Bool
 | .user i=>T.scal i
 |t=>t.scal
def kk6 {U:Nat->Type}:Cell U->Value
 |⟨.int k,x⟩=>.int k x
 |⟨.bool,x⟩=>.bool x
 |⟨.str,x⟩=>.string x
 |_=>undef
def uf6 (t:Ty) (x:den T.U t):Value:=
 match t,x with
 | .user i,x=>.agg ((T.cells i x).map kk6).toArray
 | .int k,x=>.int k x
 | .bool,x=>.bool x
 | .str,x=>.string x
 | .list _,_=>undef
 | .nl _,_=>undef
def zp6 (t:Ty) (x:den T.U t):AV T.U:=
 match t,x with
 | .user i,x=>.agg ((T.cells i x).map .cell)
 | .int k,x=>.cell ⟨.int k,x⟩
 | .bool,x=>.cell ⟨.bool,x⟩
 | .str,x=>.cell ⟨.str,x⟩
 | .list e,x=>.cell ⟨.list e,x⟩
 | .nl e,x=>.cell ⟨.nl e,x⟩
def qa5 (t:Ty) (a:AV T.U):Option (den T.U t):=
 match t,a with
 | .user i,.agg cs=>match cellsOf T cs with|some l=>T.pack i l|none=>none
 | .user _,_=>none
 | .list _,.raw (.slice none 0 0)=>some []
 | .nl _,.raw (.slice none 0 0)=>some []
 |t,.cell c=>c.aS t
 |_,_=>none
def nlL {R:Type} (t e:Ty) (xs:List (den T.U t)) (K:List (den T.U e)->Option R):Option R:=
 match t,e,xs,K with
 | .nl a,.list b,xs,K=>if h:a=b then K (h▸xs:List (List (den T.U b))) else none
 |_,_,_,_=>none
def rdN {R:Type} (H:List (Ent T.U)) (t:Ty) (a:AV T.U) (K:den T.U t->Option R):Option R:=
 match t,a,K with
 | .list e,.cell ⟨.nl b,xs⟩,K=>if h:b=e then K (h▸xs:List (den T.U e)) else none
 | .nl e,.cell ⟨.list b,xs⟩,K=>if h:b=e then (if 0<(h▸xs:List (den T.U e)).length then K (h▸xs:List (den T.U e)) else none) else none
 | .nl e,.own i,K=>match H[i]? with
  |some (.row _ t xs)=>if h:t=e then (if 0<(h▸xs:List (den T.U e)).length then K (h▸xs:List (den T.U e)) else none) else none
  |_=>none
 |_,_,_=>none
def qb2 {R:Type} (H:List (Ent T.U)) (t:Ty) (a:AV T.U) (K:den T.U t->Option R):Option R:=
 match t,a,K with
 | .list e,.own i,K=>match H[i]? with
  |some (.row _ t xs)=>(if h:t=e then K (h▸xs) else none)
  |_=>none
 | .list e,.sl i sz o n,K=>match H[i]? with
  |some (.row _ t xs)=>match Nat.beq sz (szT T t) with
   |true=>(if h:t=e then (if o+n<=xs.length then K ((h▸xs:List (den T.U e)).drop o |>.take n) else none) else none)
   |false=>none
  |_=>none
 | .list e,.asl i o sz n c m,K=>match H[i]? with
  |some (.blk _ cs)=>match jd3 T cs o with
   |some (b::_)=>match jg9 b with
    |some ⟨t,d,xs⟩=>match Nat.beq d n&&Nat.beq sz (szT T t) with
     |true=>(if h:t=e then K ((h▸xs:List (den T.U e)).drop c |>.take m) else nlL T t e ((xs.drop c).take m) K)
     |false=>none
    |none=>none
   |_=>none
  |_=>none
 |t,a,K=>match qa5 T t a with|some x=>K x|none=>rdN T H t a K
def vb3 {R:Type} (H:List (Ent T.U)):List Ty->List (AV T.U)->(List (Cell T.U)->Option R)->Option R
 | [],[],K=>K []
 |t::ts,a::aS,K=>match t.one with|true=>qb2 T H t a fun x=>vb3 H ts aS fun l=>K (⟨t,x⟩::l)|false=>none
 |_,_,_=>none
def vl7 (i:Nat):List Ty:=(T.cells i (T.d i)).map (·.t)
def rdF {R:Type} (H:List (Ent T.U)) (t:Ty) (a:AV T.U) (K:den T.U t->Option R):Option R:=
 match t,a,K with
 | .user i,.agg cs,K=>vb3 T H (vl7 T i) cs fun l=>match T.pack i l with|some x=>K x|none=>none
 |t,a,K=>qb2 T H t a K
end
section
variable {T:Tab} {P:Program} {w w':World} {S S':List Nat} {φ φ':Nat->RA} {w0:World} {S0:Ow} {F:AF T} {H:List (Ent T.U)} {F':PF}
def CR.sub0 {t x v} (h:CR T w S t x v) (a: ∀b∈S',b∈S):CR T w S' t x v:=h.chg T (Chg.refl [] w) (by simp) fun b c=>.inl (a b c)
def je4: ∀ {cs:List (Cell T.U)} {vs},VRL T w S φ (cs.map .cell) vs-> ∀(S':List Nat) (φ':Nat->RA),(∀b∈S',b∈S)->VRL T w S' φ' (cs.map .cell) vs
 | [],[],_,_,_,_=>trivial
 | [],_::_,h,_,_,_=>h.elim
 |_::_,[],h,_,_,_=>h.elim
 |_::_,_::_,h,S',φ',a=>⟨CR.sub0 h.1 a,je4 h.2 S' φ' a⟩
def vd8 {t x v} (h:VR T w S φ (zp6 T t x) v) (φ') (a: ∀b∈S',b∈S):VR T w S' φ' (zp6 T t x) v:=by
 cases t with
 |user i=>
  obtain ⟨vs,c,d⟩:=h;exact ⟨vs,c,je4 d _ _ a⟩
 |int k=>exact CR.sub0 h a
 |bool=>exact CR.sub0 h a
 |str=>exact CR.sub0 h a
 |list e=>exact CR.sub0 h a
 |nl e=>exact CR.sub0 h a
def zt4: ∀ {aS:List (AV T.U)} {l:List (Cell T.U)},cellsOf T aS=some l->aS=l.map .cell
 | [],l,h=>by simp only [cellsOf,X0] at h;subst h;rfl
 |a::r,l,h=>by
  unfold cellsOf at h;split at h
  ·rename_i c l' hc hl;simp only [X0] at h;subst h;rw [U0,<-zt4 hl];unfold qo1 at hc;split at hc
   ·simp only [X0] at hc;subst hc;rfl
   ·cases hc
  ·cases h
def CR.empty {e ad cap} (a:ad=none->cap=0):CR T w S (.list e) [] (.slice ad 0 cap):=
 .list e [] ad cap (fun _ _=>undef) (U8 _) (fun h=>⟨rfl,a h⟩) (fun h=>absurd rfl h) (fun k j c h=>by simp at h) fun k j c h=>by simp at h
def CR.recap {e xs ad cap a} (h:CR T w S (.list e) xs (.slice ad xs.length cap)) (k:xs.length<=a) (l:ad=none->a=0):CR T w S (.list e) xs (.slice ad xs.length a):=by
 generalize g:Value.slice ad xs.length cap=v at h;cases h with
 |list _ _ m i u j c f b d=>
  simp only [Value.slice.injEq,true_and] at g;obtain ⟨rfl,rfl⟩:=g;exact .list e xs ad a u k (fun h=>⟨(c h).1,l h⟩) f b d
def qb6 {i:Nat} {e:TypeId} {t:Ty} {xs:List (den T.U t)} (h:EntR T w S φ i (.row e t xs)) (hS: ∀b∈S',b∈S) (hb: ∀a,(φ i).ad=some a->a.block∉S'):CR T w S' (.list t) xs (.slice (φ i).ad (φ i).n (φ i).cap):=by
 obtain ⟨B,vals,h1,h2,h3,h4,h5⟩:=h;have hat: ∀(k j:Nat) (c:Cell T.U),(xs[k]?.map fun x=>(zc6 T t x)[j]?)=some (some c)->(xs.flatMap (zc6 T t))[k*szT T t+j]?=some c:=by
  intro k j c hk;cases hx:xs[k]? with
  |none=>rw [hx] at hk;cases hk
  |some x=>
   rw [hx] at hk;simp only [Z8,X0] at hk;have:=yk4 (za9 T t) hx
   grind
 have hval: ∀(k j:Nat) (c:Cell T.U),(xs[k]?.map fun x=>(zc6 T t x)[j]?)=some (some c)->vals[k*szT T t+j]?=some (vals.getD (k*szT T t+j) undef):=by
  intro k j c hk;have:=(X2.1 (hat k j c hk)).1;rw [h4.1] at this;exact zn8 undef this
 rw [h2];rw [h2] at h1;refine .list t xs _ _ (fun k j=>vals.getD (k*szT T t+j) undef) h1.le.1 h1.nil0 ?_ ?_ ?_
 ·intro hne;rcases h1.cases with ⟨_,hn,_⟩|⟨c,had,_,hb',_⟩
  ·grind
  ·exact ⟨by rw [had];rfl,hb'.lt,hb _ had⟩
 ·intro k j c hk;exact (h1.rg _ _ (hval k j c hk)).2
 ·intro k j c hk;exact CR.sub0 (h4.2 _ c _ (hat k j c hk) (hval k j c hk)) hS
def CR.nilS {e}:CR T w S (.list e) [] (.slice none 0 0):=CR.empty fun _=>rfl
def ug6 {t:Ty} {c:Cell T.U} {x:den T.U t} (h:c.aS t=some x) {v:Value} (hv:VR T w S φ (.cell c) v) (ht: ∀i,t≠.user i):VR T w S φ (zp6 T t x) v:=by
 have:=Cell.as_eq h;subst this;cases t<;>first|exact hv|exact absurd rfl (ht _)
def yg8 {t:Ty} {a:AV T.U} {x:den T.U t} (h:qa5 T t a=some x) {v:Value} (hv:VR T w S φ a v) (φ':Nat->RA):VR T w S φ' (zp6 T t x) v:=by
 have one: ∀ {t:Ty} {c:Cell T.U} {x:den T.U t},(∀i,t≠.user i)->c.aS t=some x->VR T w S φ (.cell c) v->VR T w S φ' (zp6 T t x) v:=
  fun hnu h hv=>vd8 (ug6 h hv hnu) φ' fun _ h=>h
 cases t with
 |user i=>
  cases a<;>simp only [qa5,reduceCtorEq] at h;rename_i cs;split at h
  ·rename_i l hl;have:=T.packed _ _ _ h;obtain ⟨vs,h1,h2⟩:=hv;refine ⟨vs,h1,?_⟩;rw [this];rw [zt4 hl] at h2;exact je4 h2 _ _ fun _ h=>h
  ·cases h
 |list e=>
  cases a with
  |cell c=>exact one (by intro i hi;cases hi) h hv
  |raw u=>
   have hu:u=.slice none 0 0/\x= []:=by
    cases u with
    |slice ad n c=>
     cases ad with
     |some _=>cases h
     |none=>
      cases n with
      |succ _=>cases h
      |zero=>
       cases c with
       |succ _=>cases h
       |zero=>exact ⟨rfl,(X5 h).symm⟩
    |_=>cases h
   obtain ⟨rfl,rfl⟩:=hu;rw [VR] at hv;subst hv;exact CR.nilS
  |_=>cases h
 |nl e=>
  cases a with
  |cell c=>exact one (by intro i hi;cases hi) h hv
  |raw u=>
   have hu:u=.slice none 0 0/\x= []:=by
    cases u with
    |slice ad n c=>
     cases ad with
     |some _=>cases h
     |none=>
      cases n with
      |succ _=>cases h
      |zero=>
       cases c with
       |succ _=>cases h
       |zero=>exact ⟨rfl,(X5 h).symm⟩
    |_=>cases h
   obtain ⟨rfl,rfl⟩:=hu;rw [VR] at hv;subst hv;exact .nl e [] none 0 CR.nilS fun _=>⟨rfl,rfl⟩
  |_=>cases h
 |int k=>cases a<;>first|(cases h;done)|exact one (by intro i hi;cases hi) h hv
 |bool=>cases a<;>first|(cases h;done)|exact one (by intro i hi;cases hi) h hv
 |str=>cases a<;>first|(cases h;done)|exact one (by intro i hi;cases hi) h hv
def zbg8 {g p cap:Nat} {t:Ty} {xs:List (den T.U t)} {vals:List Value} (hb:g<w.heap.size) (hr:Rg w (some ⟨g,p,none⟩) vals) (h4:CellsR T w S (xs.flatMap (zc6 T t)) vals) (hcap:xs.length<=cap) (hS: ∀b∈S',b∈S) (hg:g∉S'):CR T w S' (.list t) xs (.slice (some ⟨g,p,none⟩) xs.length cap):=by
 have hat: ∀(k j:Nat) (c:Cell T.U),(xs[k]?.map fun x=>(zc6 T t x)[j]?)=some (some c)->(xs.flatMap (zc6 T t))[k*szT T t+j]?=some c:=by
  intro k j c hk;cases hx:xs[k]? with
  |none=>rw [hx] at hk;cases hk
  |some x=>
   rw [hx] at hk;simp only [Z8,X0] at hk;have:=yk4 (za9 T t) hx
   grind
 have hval: ∀(k j:Nat) (c:Cell T.U),(xs[k]?.map fun x=>(zc6 T t x)[j]?)=some (some c)->vals[k*szT T t+j]?=some (vals.getD (k*szT T t+j) undef):=by
  intro k j c hk;have:=(X2.1 (hat k j c hk)).1;rw [h4.1] at this;exact zn8 undef this
 refine .list t xs _ _ (fun k j=>vals.getD (k*szT T t+j) undef) hcap (by simp) ?_ ?_ ?_
 ·intro hne;exact ⟨rfl,hb,hg⟩
 ·intro k j c hk;exact (hr _ _ (hval k j c hk)).2
 ·intro k j c hk;exact CR.sub0 (h4.2 _ c _ (hat k j c hk) (hval k j c hk)) hS
def gg4 {i e cs r o n t xs} (h:EntR T w S φ i (.blk e cs)) (m:jd3 T cs o=some (.arr t n xs::r)):
  ∃g c a,(φ i).ad=some ⟨g,0,none⟩/\Blk w g c e/\g∈S/\xs.length=n/\Rg w (some ⟨g,o,none⟩) a/\CellsR T w S (xs.flatMap (zc6 T t)) a:=by
 obtain ⟨g,c,p,f,q,k⟩:=h;obtain ⟨pre,s,v⟩:=jf7 m k.2;obtain ⟨d,x⟩:=BR.at k s v;have y:(jo0 T (.arr t n xs)).length=n*szT T t:=by rw [yg1 T d.2.1];rfl
 have l:=d.1.take T (n*szT T t);rw [zj2,Z7 (by omega),Q4 (by omega)] at l;refine ⟨g,c,_,p,f,q,d.2.1,Rg.blk f _ (fun j u b=>?_),VRL.cells.1 l⟩;rw [Z3] at b;split at b
 ·rw [Q6] at b;simpa using b
 ·cases b
def gg5 {i:Nat} {e:TypeId} {cs r:List (AV T.U)} {o n lo m:Nat} {t:Ty} {xs:List (den T.U t)} (h:EntR T w S φ i (.blk e cs)) (hl:jd3 T cs o=some (.arr t n xs::r)) {v:Value} (hv:VR T w S φ' (.asl i o (szT T t) n lo m) v) (hφ:φ' i=φ i) (hS: ∀b∈S',b∈S) (hb: ∀a,(φ i).ad=some a->a.block∉S'):
  CR T w S' (.list t) ((xs.drop lo).take m) v:=by
 obtain ⟨g,c,vals,h1,h2,h3,h4,h5,h6⟩:=gg4 h hl;obtain ⟨g',ad,a1,rfl,a2,a3⟩:=hv;rw [hφ,h1] at a1;simp only [X0,Addr.mk.injEq,and_true] at a1;subst a1;have hcr:=zbg8 (S':=S') h2.lt h5 h6 (cap:=n) (by omega) hS (hb _ h1);rcases J9 lo n with hlt|hge
 ·have hs:=CR.sub hcr (i:=lo) (m:=m) (by omega);have hc:zm5 (some (⟨g,o,none⟩:Addr)) n lo (szT T t)=some ad:=by
   rcases a3 with a3|a3
   ·omega
   ·subst a3;unfold zm5;rw [if_neg (by omega)];simp only [Z8,Addr.add]
    grind
  rwa [hc] at hs
 ·have:m=0:=by omega
  subst this;rw [List.take_zero];exact CR.empty (by simp)
def memE {U:Nat->Type}:Ent U->Bool| .blk _ _=>true| .row _ _ _=>true|_=>false
def yy7 (T:Tab) (w:World) (S:List Nat) (φ:Nat->RA) (H:List (Ent T.U)) (ids:List Nat):Prop:= ∀i∈ids,∀(a:Ent T.U),H[i]?=some a->memE a=true->EntR T w S φ i a
def CR.unNl1 {a x v} (h:CR T w S (.nl a) x v):CR T w S (.list a) x v:=by
 cases h with
 |nl _ _ ad cap b c=>exact b
def CR.unNl {a:Ty} {xs:List (List (den T.U a))} {v:Value} (h:CR T w S (.list (.nl a)) xs v):CR T w S (.list (.list a)) xs v:=by
 cases h with
 |list _ _ ad cap u f g m d i=>
  have l: ∀(k j:Nat) (c:Cell T.U),(xs[k]?.map fun x=>(zc6 T (.list a) x)[j]?)=some (some c)-> ∃x,xs[k]?=some x/\j=0/\c=⟨.list a,x⟩:=by
   intro k j c b;cases e:xs[k]? with
   |none=>rw [e] at b;cases b
   |some x=>
    rw [e] at b;have b:(zc6 T (.list a) x)[j]?=some c:=X5 b;cases j with
    |zero=>exact ⟨x,rfl,rfl,(X5 b).symm⟩
    |succ j=>cases b
  refine .list (.list a) xs ad cap u f g m (fun k j c b=>?_) (fun k j c b=>?_)
  ·obtain ⟨x,e,rfl,rfl⟩:=l k j c b;exact d k 0 ⟨.nl a,x⟩ ((congrArg (Option.map fun x:den T.U (.nl a)=>(zc6 T (.nl a) x)[0]?) e).trans rfl)
  ·obtain ⟨x,e,rfl,rfl⟩:=l k j c b;exact CR.unNl1 (i k 0 ⟨.nl a,x⟩ ((congrArg (Option.map fun x:den T.U (.nl a)=>(zc6 T (.nl a) x)[0]?) e).trans rfl))
def wg3 {R:Type} {r:R} {t:Ty} {a:AV T.U} {K:den T.U t->Option R} (h:rdN T H t a K=some r) (m:yy7 T w S φ H a.ids) {v:Value} (c:VR T w S φ a v) (φ':Nat->RA) (k: ∀b∈S',b∈S) (s: ∀i∈a.ids,∀ad,(φ i).ad=some ad->ad.block∉S'): ∃x,K x=some r/\VR T w S' φ' (zp6 T t x) v:=by
 unfold rdN at h;split at h
 ·rename_i e f xs K;split at h
  ·rename_i d;subst d;refine ⟨xs,h,?_⟩;have c:CR T w S (.nl f) xs v:=c;cases c with
   |nl _ _ ad cap g j=>exact CR.sub0 g k
  ·cases h
 ·rename_i e f xs K;split at h
  ·rename_i d;subst d;split at h
   ·rename_i l;refine ⟨xs,h,?_⟩;have c:CR T w S (.list f) xs v:=c;cases c with
    |list _ _ ad cap u g j y z A=>exact .nl _ xs ad cap (CR.sub0 (.list _ xs ad cap u g j y z A) k) fun q=>by subst q;exact absurd l (Nat.lt_irrefl 0)
   ·cases h
  ·cases h
 ·rename_i e i K;split at h
  ·rename_i f C xs n;split at h
   ·rename_i d;subst d;split at h
    ·rename_i l;refine ⟨xs,h,?_⟩;rw [VR] at c;subst c;have o:=qb6 (m i (by simp [AV.ids]) _ n rfl) k (s i (by simp [AV.ids]));obtain ⟨B,p,g,j,_⟩:=m i (by simp [AV.ids]) _ n rfl;rw [j] at o⊢;exact .nl _ xs _ _ o fun q=>by subst q;exact absurd l (Nat.lt_irrefl 0)
    ·cases h
   ·cases h
  ·cases h
 ·cases h
def vb8 {R:Type} {r:R} {t:Ty} {a:AV T.U} {K:den T.U t->Option R} (h:qb2 T H t a K=some r) (q:yy7 T w S φ H a.ids) {v:Value} (k:VR T w S φ a v) (φ':Nat->RA) (l: ∀b∈S',b∈S) (s: ∀i∈a.ids,∀ad,(φ i).ad=some ad->ad.block∉S'): ∃x,K x=some r/\VR T w S' φ' (zp6 T t x) v:=by
 unfold qb2 at h;split at h
 ·rename_i e i K;split at h
  ·rename_i L M xs p;split at h
   ·rename_i u;subst u;refine ⟨xs,h,?_⟩;rw [VR] at k;subst k;exact qb6 (q i (by simp [AV.ids]) _ p rfl) l (s i (by simp [AV.ids]))
   ·cases h
  ·cases h
 ·rename_i e i sz o n K;split at h
  ·rename_i L M xs p;split at h
   ·rename_i C;have:=X1 C;subst this;split at h
    ·rename_i u;subst u;split at h
     ·rename_i D;refine ⟨_,h,?_⟩;obtain ⟨ad,rfl,N,c,d,_⟩:=k;have f:=q i (by simp [AV.ids]) _ p rfl;have O:=qb6 f l (s i (by simp [AV.ids]));have Q:(List.take n (List.drop o xs)).length=n:=by rw [Y6,Q7];omega
      rcases c with c|⟨g,E,G⟩
      ·subst c;rw [List.take_zero];exact CR.empty fun c=>(d c).2
      ·obtain ⟨B,V,y,z,_⟩:=f;rw [z] at O;have j:=CR.sub O D;by_cases X:n=0
       ·subst X;rw [List.take_zero];exact CR.empty fun c=>(d c).2
       ·have A:zm5 (φ i).ad (φ i).cap o (szT T M)=ad:=by
         have:=y.le.1;unfold zm5;rw [if_neg (by omega),E,G];simp only [Z8,Addr.add];split
         ·rename_i Y;simp [Y]
         ·simp
        rw [A] at j;exact j
     ·cases h
    ·cases h
   ·cases h
  ·cases h
 ·rename_i e i o sz n lo m K;split at h
  ·rename_i L cs p;split at h
   ·rename_i b r W;split at h
    ·rename_i t n' xs I;have:=zu3 I;subst this;split at h
     ·rename_i c;rw [X3] at c;obtain ⟨y,z⟩:=c;have y:=X1 y;have z:=X1 z;subst y;subst z;split at h
      ·rename_i u;subst u;exact ⟨_,h,gg5 (q i (by simp [AV.ids]) _ p rfl) W k rfl l (s i (by simp [AV.ids]))⟩
      ·unfold nlL at h;split at h
       ·rename_i a b ys K';split at h
        ·rename_i J;subst J;exact ⟨_,h,CR.unNl (gg5 (q i (by simp [AV.ids]) _ p rfl) W k rfl l (s i (by simp [AV.ids])))⟩
        ·cases h
       ·cases h
     ·cases h
    ·cases h
   ·cases h
  ·cases h
 ·split at h
  ·rename_i x Z;exact ⟨x,h,vd8 (yg8 Z k φ') φ' l⟩
  ·exact wg3 h q k φ' l s
def vb6 {R:Type} {r:R}: ∀ {ts:List Ty} {aS:List (AV T.U)} {K:List (Cell T.U)->Option R},vb3 T H ts aS K=some r->yy7 T w S φ H (za1 aS)-> ∀ {vs:List Value},VRL T w S φ aS vs-> ∀(φ':Nat->RA),(∀b∈S',b∈S)->(∀i∈za1 aS,∀ad,(φ i).ad=some ad->ad.block∉S')-> ∃l,K l=some r/\VRL T w S' φ' (l.map .cell) vs
 | [],[],K,h,_,[],_,_,_,_=>⟨[],h,trivial⟩
 | [],[],_,_,_,_::_,hv,_,_,_=>hv.elim
 | [],_::_,_,h,_,_,_,_,_,_=>by cases h
 |_::_,[],_,h,_,_,_,_,_,_=>by cases h
 |t::ts,a::aS,_,_,_,[],hv,_,_,_=>hv.elim
 |t::ts,a::aS,K,h,hs,v::vs,hv,φ',hS,hb=>by
  have h:(match t.one with|true=>qb2 T H t a (fun x=>vb3 T H ts aS fun l=>K (⟨t,x⟩::l))|false=>none)=some r:=h;split at h<;>try (cases h;done)
  rename_i ht;obtain ⟨x,h1,h2⟩:=vb8 h (fun i hi=>hs i (by rw [za1];exact X4.2 (.inl hi))) hv.1 φ' hS fun i hi=>hb i (by rw [za1];exact X4.2 (.inl hi));obtain ⟨l,h3,h4⟩:=vb6 h1 (fun i hi=>hs i (by rw [za1];exact X4.2 (.inr hi))) hv.2 φ' hS fun i hi=>hb i (by rw [za1];exact X4.2 (.inr hi));refine ⟨_,h3,?_,h4⟩;cases t<;>first|exact h2|cases ht
def jx3 {R:Type} {r:R} {t:Ty} {a:AV T.U} {K:den T.U t->Option R} (h:rdF T H t a K=some r) (e:yy7 T w S φ H a.ids) {v:Value} (f:VR T w S φ a v) (φ':Nat->RA) (g: ∀b∈S',b∈S) (k: ∀i∈a.ids,∀ad,(φ i).ad=some ad->ad.block∉S'): ∃x,K x=some r/\VR T w S' φ' (zp6 T t x) v:=by
 unfold rdF at h;split at h
 ·rename_i i cs K;obtain ⟨vs,rfl,m⟩:=f;obtain ⟨l,c,n⟩:=vb6 h (by intro j d;exact e j (by rw [AV.ids];exact d)) m φ' g fun j d=>k j (by rw [AV.ids];exact d);split at c
  ·rename_i x o;refine ⟨x,c,vs,rfl,?_⟩;rw [T.packed _ _ _ o];exact n
  ·cases c
 ·exact vb8 h e f φ' g k
def vx4 {R:Type} {r:R} {t:Ty} {a:AV T.U} {K:den T.U t->Option R} (h:rdF T H t a K=some r) (b:yy7 T w S φ H a.ids) {v:Value} (c:VR T w S φ a v) (φ':Nat->RA): ∃x,K x=some r/\VR T w [] φ' (zp6 T t x) v:=
 jx3 h b c φ' (by simp) (by simp)
def wg1 {R:Type} {r:R} {t:Ty} {a:AV T.U} {K:den T.U t->Option R} (h:rdN T H t a K=some r): ∃x,K x=some r/\ ∀ {e:Type} (b:den T.U t->Option e),rdN T H t a b=b x:=by
 unfold rdN at h;split at h
 ·split at h
  ·rename_i c;subst c;exact ⟨_,h,fun b=>by simp only [rdN,dite_true]⟩
  ·cases h
 ·split at h
  ·rename_i c;subst c;split at h
   ·rename_i d;exact ⟨_,h,fun b=>by simp only [rdN,dite_true,if_pos d]⟩
   ·cases h
  ·cases h
 ·split at h
  ·rename_i f;split at h
   ·rename_i c;subst c;split at h
    ·rename_i d;exact ⟨_,h,fun b=>by simp only [rdN,f,dite_true,if_pos d]⟩
    ·cases h
   ·cases h
  ·cases h
 ·cases h
def jx2 {R:Type} {r:R} {t:Ty} {a:AV T.U} {K:den T.U t->Option R} (h:qb2 T H t a K=some r): ∃x,K x=some r/\ ∀ {R':Type} (K':den T.U t->Option R'),qb2 T H t a K'=K' x:=by
 unfold qb2 at h⊢;split at h
 ·split at h
  ·rename_i hi;split at h
   ·rename_i ht;subst ht;exact ⟨_,h,fun K'=>by simp only [dite_true]⟩
   ·cases h
  ·cases h
 ·grind
 ·split at h
  ·rename_i hi;split at h
   ·rename_i hl;split at h
    ·rename_i hb;split at h
     ·rename_i hn;split at h
      ·rename_i ht;subst ht;exact ⟨_,h,fun K'=>by simp only [dite_true]⟩
      ·rename_i hne;unfold nlL at h;split at h
       ·split at h
        ·rename_i hab;subst hab;exact ⟨_,h,fun K'=>by simp only [dif_neg hne,nlL,dite_true]⟩
        ·cases h
       ·cases h
     ·cases h
    ·cases h
   ·cases h
  ·cases h
 ·rename_i t a K hn1 hn2 hn3;split at h
  ·rename_i x hx;refine ⟨x,h,fun K'=>?_⟩;split
   ·exact (hn1 _ _ K rfl rfl HEq.rfl).elim
   ·exact (hn2 _ _ _ _ _ K rfl rfl HEq.rfl).elim
   ·exact (hn3 _ _ _ _ _ _ _ K rfl rfl HEq.rfl).elim
   ·rw [hx]
  ·rename_i hx;obtain ⟨x,h1,h2⟩:=wg1 h;refine ⟨x,h1,fun K'=>?_⟩;split
   ·exact (hn1 _ _ K rfl rfl HEq.rfl).elim
   ·exact (hn2 _ _ _ _ _ K rfl rfl HEq.rfl).elim
   ·exact (hn3 _ _ _ _ _ _ _ K rfl rfl HEq.rfl).elim
   ·rw [hx];exact h2 K'
def vb4 {R:Type} {r:R}: ∀ {ts:List Ty} {aS:List (AV T.U)} {K:List (Cell T.U)->Option R},vb3 T H ts aS K=some r-> ∃l,K l=some r/\ ∀ {R':Type} (K':List (Cell T.U)->Option R'),vb3 T H ts aS K'=K' l
 | [],[],K,h=>⟨[],h,fun K'=>rfl⟩
 | [],_::_,_,h=>by cases h
 |_::_,[],_,h=>by cases h
 |t::ts,a::aS,K,h=>by
  have h:(match t.one with|true=>qb2 T H t a (fun x=>vb3 T H ts aS fun l=>K (⟨t,x⟩::l))|false=>none)=some r:=h;split at h<;>try (cases h;done)
  rename_i ht;obtain ⟨x,h1,h2⟩:=jx2 h;obtain ⟨l,h3,h4⟩:=vb4 h1;refine ⟨_,h3,fun K'=>?_⟩;show (match t.one with|true=>qb2 T H t a (fun x=>vb3 T H ts aS fun l=>K' (⟨t,x⟩::l))|false=>none)=_;rw [ht];simp only;rw [h2,h4]
def jr7 {R:Type} {r:R} {t:Ty} {a:AV T.U} {K:den T.U t->Option R} (h:rdF T H t a K=some r): ∃x,K x=some r/\ ∀ {R':Type} (K':den T.U t->Option R'),rdF T H t a K'=K' x:=by
 unfold rdF at h⊢;split at h
 ·rename_i i cs K;obtain ⟨l,h1,h2⟩:=vb4 h
  grind
 ·rename_i t a K hn;obtain ⟨x,h1,h2⟩:=jx2 h;refine ⟨x,h1,fun K'=>?_⟩;split
  ·exact (hn _ _ K rfl rfl HEq.rfl).elim
  ·exact h2 K'
def zw0 (s:ByteArray):List Int:=s.data.toList.map fun b=>(b.toNat:Int)
def qk2 (s):(zw0 s).length=s.size:=(V1 _).trans M0
def yz0 (l:List Int):ByteArray:=l.foldl (fun r n=>r.push (UInt8.ofNat n.toNat)) ByteArray.empty
end
end Go.X
