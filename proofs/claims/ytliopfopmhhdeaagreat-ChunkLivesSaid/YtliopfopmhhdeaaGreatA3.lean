import Derived.Test.YtliopfopmhhdeaaGreatA2
set_option linter.defProp false
namespace Go.X
open Go.RowKit Go.V
mutual
def jl6 {U:Nat->Type}: ∀a:AV U,a.ren id=a
 | .cell _=>by rw [AV.ren]
 | .ptr _ _=>by rw [AV.ren];rfl
 | .eptr _ _ _ _=>by rw [AV.ren];rfl
 | .lptr _ _ _ _=>by rw [AV.ren]
 | .own _=>by rw [AV.ren];rfl
 | .sl _ _ _ _=>by rw [AV.ren];rfl
 | .agg cs=>by rw [AV.ren,zq2 cs]
 | .tup cs=>by rw [AV.ren,zq2 cs]
 | .fn _ a b=>by rw [AV.ren,zq2 a,zq2 b]
 | .ifc _ a=>by rw [AV.ren,jl6 a]
 | .raw _=>by rw [AV.ren]
 | .arr _ _ _=>by rw [AV.ren]
 | .aptr _ _ _ _ _ _=>by rw [AV.ren];rfl
 | .asl _ _ _ _ _ _=>by rw [AV.ren];rfl
 | .mp _=>by rw [AV.ren];rfl
 | .hmp _=>by rw [AV.ren];rfl
def zq2 {U:Nat->Type}: ∀l:List (AV U),zh7 id l=l
 | []=>rfl
 |a::r=>by rw [zh7,jl6 a,zq2 r]
end
section
variable {T:Tab} {P:Program} {w w':World} {S S':List Nat} {φ φ':Nat->RA}
def VR.phiS {a:AV T.U} {v:Value} (h:VR T w S φ a v) (hi: ∀i∈a.ids,RSame (φ' i) (φ i)):VR T w S φ' a v:=by
 have:=VR.renS T (ρ:=id) (φ':=φ') hi h;rwa [jl6] at this
def VR.phi {a:AV T.U} {v:Value} (h:VR T w S φ a v) (hi: ∀i∈a.ids,φ' i=φ i):VR T w S φ' a v:=by
 have:=VR.ren T (ρ:=id) (φ':=φ') hi h;rwa [jl6] at this
def VRL.phi {aS:List (AV T.U)} {vs:List Value} (h:VRL T w S φ aS vs) (hi: ∀i∈j8 aS,φ' i=φ i):VRL T w S φ' aS vs:=by
 have:=VRL.ren T (ρ:=id) (φ':=φ') hi h;rwa [zq2] at this
def BR.phi {cs:List (AV T.U)} {vs:List Value} (h:BR T w S φ cs vs) (hi: ∀i∈j8 cs,φ' i=φ i):BR T w S φ' cs vs:=⟨h.1.phi (by rw [jh9];exact hi),h.2⟩
def jx7 {U:Nat->Type}: ∀l:List (Int×AV U),jx6 id l=l
 | []=>rfl
 |(x,a)::r=>by rw [jx6,jl6 a,jx7 r]
def okA (H:List (Ent T.U)) (a:AV T.U):Prop:=(∀i∈a.ids,i<H.length)/\match a with| .eptr i sz k _=> ∀e t xs,H[i]?=some (.row e t xs)->k<xs.length/\szT T t=sz|_=>True
def Ent.cellIds {U:Nat->Type}:Ent U->List Nat| .blk _ cs=>j8 cs| .map _ es=>idsM es| .drow _ _ _ _ op=>kk8 op| .pmap _ _ _ _ op=>qo0 op|_=> []
def va9 {U:Nat->Type} (op:Option (Nat×List (AV U))):vn1 id op=op:=by
 cases op with
 |none=>rfl
 |some p=>obtain ⟨a,cs⟩:=p;rw [vn1,zq2]
def va8 (op:Option (Int×Nat)):vn0 id op=op:=by cases op<;>rfl
def EntR.phiE {i:Nat} {e:Ent T.U} (h:EntR T w S φ i e) (hi:φ' i=φ i) (hc: ∀k∈e.cellIds,RSame (φ' k) (φ k)):EntR T w S φ' i e:=by
 cases e with
 |blk e cs=>
  obtain ⟨g,c,a1,a2,a3,a4⟩:=h;have:=a4.renS T (ρ:=id) (φ':=φ') hc;rw [zq2] at this;exact ⟨g,c,by rw [hi];exact a1,a2,a3,this⟩
 |row e t xs=>obtain ⟨B,vals,a1,a2,a3,a4,a5⟩:=h;exact ⟨B,vals,by rw [hi];exact a1,by rw [hi];exact a2,a3,a4,by rw [hi];exact a5⟩
 |map k es=>
  obtain ⟨g,l,c,a1,a2,a3,a4,a5⟩:=h;have:=a4.renS T (ρ:=id) (φ':=φ') hc;rw [jx7] at this;exact ⟨g,l,c,by rw [hi];exact a1,a2,a3,this,a5⟩
 |tmap k t m=>obtain ⟨g,l,c,a1,a2⟩:=h;exact ⟨g,l,c,by rw [hi];exact a1,a2⟩
 |drow e d fe xs op=>
  obtain ⟨B,vals,a1,a2,a3,a4,a5⟩:=h;have:=a5.renS T (ρ:=id) (φ':=φ') hc;rw [va9] at this;exact ⟨B,vals,by rw [hi];exact a1,by rw [hi];exact a2,a3,by rw [hi];exact a4,by rw [hi];exact this⟩
 |pmap k be d m op=>
  obtain ⟨g,l,c,bs,a1,a2,a3,a4,a5⟩:=h;have:=a4.renS T (ρ:=id) (φ':=φ') hc;rw [va8] at this;exact ⟨g,l,c,bs,by rw [hi];exact a1,a2,a3,by rw [hi];exact this,a5⟩
 |hid=>unfold EntR;rw [hi];exact h
 |gone=>trivial
structure Ow where
 chg:List Nat
 ex:List Nat
 pin:List RA
structure Sim (T:Tab) (w0:World) (S0:Ow) (st:St T) (F':PF) (w:World) (S:List Nat) (φ:Nat->RA):Prop where
 fr:FR T w S φ st.F F'
 ids: ∀i a,st.F.get T i=some a->okA st.H a
 chg:Chg S0.chg w0 w
 own: ∀b∈S,(b∈S0.ex\/w0.heap.size<=b)/\b<w.heap.size
 ex: ∀b∈S0.ex,b∉S0.chg->b<w0.heap.size->b∈S
 lives: ∀(i:Nat) (e:Ent T.U),st.H[i]?=some e->e.live=true-> ∀a,At (φ i) a->a.block∈S/\(a.block∈S0.chg\/w0.heap.size<=a.block)
 pins: ∀(k:Nat) (r:RA),S0.pin[k]?=some r->RSame (φ k) r/\k<st.H.length
 ents: ∀(i:Nat) (e:Ent T.U),st.H[i]?=some e->EntR T w S φ i e
 eids: ∀(i:Nat) (e:Ent T.U),st.H[i]?=some e-> ∀j∈e.cellIds,j<st.H.length
 apart: ∀(i j:Nat) (e e':Ent T.U),st.H[i]?=some e->st.H[j]?=some e'->e.live=true->e'.live=true->i≠j-> ∀a b,At (φ i) a->At (φ j) b->a.block≠b.block
def zc0 (T:Tab) (w0:World) (S0:Ow) (st:St T) (F':PF) (w:World):Prop:= ∃S φ,Sim T w0 S0 st F' w S φ
variable {w0:World} {S0:Ow} {F:AF T} {H:List (Ent T.U)} {F':PF}
def qe5 {dst:Option Tmp} {a:AV T.U} {i:Nat} {b:AV T.U} (h:(za1 T F dst a).get T i=some b):(dst=some i/\b=a)\/(dst≠some i/\F.get T i=some b):=by
 cases dst with
 |none=>exact .inr ⟨by simp,h⟩
 |some d=>
  simp only [za1,AF.get] at h;split at h
  ·rename_i hb;have:=X1 hb;subst this;simp only [X0] at h;exact .inl ⟨rfl,h.symm⟩
  ·rename_i hb;exact .inr ⟨by simp only [ne_eq,X0];intro e;subst e;simp at hb,h⟩
def qn9 {dst:Option Tmp} {v:Value} {i:Nat} (h:dst≠some i):(upd F' dst v).get i=F'.get i:=by
 cases dst with
 |none=>rfl
 |some d=>
  simp only [upd,PF.get];split
  ·rename_i hb;have:=X1 hb;subst this;exact absurd rfl h
  ·rfl
def qn8 {i:Nat} {v:Value}:(upd F' (some i) v).get i=some v:=by
 simp [upd,PF.get,J7]
def Sim.slot (h:Sim T w0 S0 ⟨F,H⟩ F' w S φ) {dst:Option Tmp} {a:AV T.U} {v:Value} (hv:VR T w S φ a v) (hok:okA H a):Sim T w0 S0 ⟨za1 T F dst a,H⟩ (upd F' dst v) w S φ:=by
 refine ⟨?_,?_,h.chg,h.own,h.ex,h.lives,h.pins,h.ents,h.eids,h.apart⟩
 ·intro i b hb;rcases qe5 hb with ⟨rfl,rfl⟩|⟨h1,h2⟩
  ·exact ⟨v,qn8,hv⟩
  ·obtain ⟨u,hu,hr⟩:=h.fr i b h2;exact ⟨u,by rw [qn9 h1];exact hu,hr⟩
 ·intro i b hb;rcases qe5 hb with ⟨_,rfl⟩|⟨_,h2⟩
  ·exact hok
  ·exact h.ids i b h2
def Sim.pure (h:Sim T w0 S0 ⟨F,H⟩ F' w S φ) (hc:Chg [] w w'):Sim T w0 S0 ⟨F,H⟩ F' w' S φ:=by
 refine ⟨?_,h.ids,h.chg.pure hc,fun b hb=>⟨(h.own b hb).1,V3 (h.own b hb).2 hc.size⟩,h.ex,h.lives,h.pins,?_,h.eids,h.apart⟩
 ·intro i a ha;obtain ⟨v,h1,h2⟩:=h.fr i a ha;exact ⟨v,h1,h2.chg T hc (by simp) (fun b hb=>.inl hb)⟩
 ·intro i e he;have hl:e.live=true-> ∀a,At (φ i) a->a.block∈S:=fun hlv a ha=>(h.lives i e he hlv a ha).1;exact (h.ents i e he).chg T hc (by simp) (fun b hb=>.inl hb) fun hlv a ha=>⟨by simp,hl hlv a ha⟩
def zu1 (φ:Nat->RA) (n:Nat) (r:RA):Nat->RA:=fun i=>if i=n then r else φ i
def zb8 {n i:Nat} {r:RA} (h:i≠n):zu1 φ n r i=φ i:=by unfold zu1;rw [if_neg h]
def j5 {n:Nat} {r:RA}:zu1 φ n r n=r:=by unfold zu1;rw [if_pos rfl]
def zd5 (h:Sim T w0 S0 ⟨F,H⟩ F' w S φ) {i:Nat} {e:Ent T.U} (he:H[i]?=some e) (hl:e.live=true) {a:Addr} (ha:At (φ i) a):a.block∈S:=(h.lives i e he hl a ha).1
def kq4 (h:Sim T w0 S0 ⟨F,H⟩ F' w S φ) {i:Nat} {e:Ent T.U} (he:H[i]?=some e) (hl:e.live=true) {a:Addr} (ha:(φ i).ad=some a):a.block∈S:=(h.lives i e he hl a (.inl ha)).1
def RA.all (r:RA):List Nat:=zb2 r.ad++r.xs
def zn2 {r:RA} {b:Nat}:b∈r.all↔ ∃a,At r a/\a.block=b:=by
 unfold RA.all;rw [X4];constructor
 ·rintro (h|h)
  ·unfold zb2 at h;split at h
   ·rename_i a ha;simp at h;exact ⟨a,.inl ha,h.symm⟩
   ·cases h
  ·exact ⟨⟨b,0,none⟩,.inr h,rfl⟩
 ·rintro ⟨a,h|h,rfl⟩
  ·left;rw [h];simp [zb2]
  ·exact .inr h
def yd8 {ad:Option Addr} {n c:Nat} {a:Addr} (h:At ⟨ad,n,c,[]⟩ a):ad=some a:=by
 rcases h with h|h
 ·exact h
 ·cases h
def zv3 {g n c:Nat} {a:Addr} (h:At ⟨some ⟨g,0,none⟩,n,c,[]⟩ a):a.block=g:=by
 rcases h with h|h
 ·simp only [X0] at h;subst h;rfl
 ·cases h
def Sim.addG (h:Sim T w0 S0 ⟨F,H⟩ F' w S φ) {Tc:List Nat} (hc:Chg Tc w w') (hT: ∀b∈Tc,b∈S) (hTc: ∀b∈Tc,b∈S0.chg\/w0.heap.size<=b) (hfree: ∀(j:Nat) (e:Ent T.U),H[j]?=some e->e.live=true-> ∀a,At (φ j) a->a.block∉Tc) (hsub: ∀b∈S,b∈S') (hS': ∀b∈S',b∈S\/(w.heap.size<=b/\b<w'.heap.size)) {r:RA} {e:Ent T.U} (hr: ∀a,At r a->w.heap.size<=a.block\/a.block∈Tc) (hrS: ∀a,At r a->a.block∈S')
  (he:EntR T w' S' (zu1 φ H.length r) H.length e) (hids: ∀j∈e.cellIds,j<H.length+1):
  Sim T w0 S0 ⟨F,H++ [e]⟩ F' w' S' (zu1 φ H.length r):=by
 have hS: ∀b∈S',b∈S\/w.heap.size<=b:=fun b hb=>(hS' b hb).imp id And.left;have get: ∀i f,(H++ [e])[i]?=some f->(i<H.length/\H[i]?=some f)\/(i=H.length/\f=e):=by
  intro i f hf;rcases M2 i H.length with hi|hi|hi
  ·rw [X8 hi] at hf;exact .inl ⟨hi,hf⟩
  ·subst hi;simp at hf;exact .inr ⟨rfl,hf.symm⟩
  ·rw [Y5 (by simp;omega)] at hf;cases hf
 have hnew: ∀(j:Nat) (f:Ent T.U),H[j]?=some f->f.live=true-> ∀a,At (φ j) a-> ∀b,At r b->a.block≠b.block:=by
  intro j f hf hl a ha b hb e;rcases hr b hb with hg|hg
  ·have:=(h.own _ (zd5 h hf hl ha)).2;omega
  ·exact hfree j f hf hl a ha (e▸hg)
 refine ⟨?_,?_,?_,?_,fun b hb q1 q2=>hsub _ (h.ex b hb q1 q2),?_,fun k r hk=>?_,?_,?_,?_⟩
 ·intro i a ha;obtain ⟨v,h1,h2⟩:=h.fr i a ha;refine ⟨v,h1,(h2.chg T hc hT hS).phi fun j hj=>zb8 ?_⟩;have:=(h.ids i a ha).1 j hj;simp only at this;omega
 ·intro i a ha;obtain ⟨h1,h2⟩:=h.ids i a ha;refine ⟨fun j hj=>by have:=h1 j hj;simp at this⊢;omega,?_⟩;cases a with
  |eptr j sz k c=>
   intro e' t xs hx;rcases get _ _ hx with ⟨_,hx⟩|⟨hj,_⟩
   ·exact h2 e' t xs hx
   ·have:=h1 j (by simp [AV.ids]);simp at this;omega
  |_=>trivial
 ·exact h.chg.step hc hTc
 ·intro b hb;rcases hS' b hb with hb|⟨hg,hgl⟩
  ·exact ⟨(h.own b hb).1,V3 (h.own b hb).2 hc.size⟩
  ·exact ⟨.inr (W9 h.chg.size hg),hgl⟩
 ·intro i f hf hl a ha;rcases get i f hf with ⟨hi,hf⟩|⟨rfl,rfl⟩
  ·rw [zb8 (by omega)] at ha;have q:=h.lives i f hf hl a ha;exact ⟨hsub _ q.1,q.2⟩
  ·rw [j5] at ha;refine ⟨hrS a ha,?_⟩;rcases hr a ha with hg|hg
   ·exact .inr (W9 h.chg.size hg)
   ·exact hTc _ hg
 ·obtain ⟨h1,h2⟩:=h.pins k r hk;simp only at h2;exact ⟨by rw [zb8 (by omega)];exact h1,by simp only [X9];omega⟩
 ·intro i f hf;rcases get i f hf with ⟨hi,hf⟩|⟨rfl,rfl⟩
  ·have h1:=(h.ents i f hf).chg T hc (S':=S') hT hS fun hl a ha=>⟨hfree i f hf hl a ha,hsub _ (zd5 h hf hl ha)⟩;have hne:i≠H.length:=by omega
   refine h1.phiE (zb8 hne) fun j hj=>.of (zb8 ?_);have:=h.eids i _ hf j hj;simp only at this;omega
  ·exact he
 ·intro i f hf j hj;simp only [X9,U5,T7];rcases get i f hf with ⟨hi,hf⟩|⟨rfl,rfl⟩
  ·have:=h.eids i f hf j hj;simp only at this;omega
  ·exact hids j hj
 ·intro i j f f' hf hf' hl hl' hij a b ha hb;rcases get i f hf with ⟨hi,hk⟩|⟨rfl,rfl⟩<;>rcases get j f' hf' with ⟨hj,hk'⟩|⟨rfl,rfl⟩
  ·rw [zb8 (by omega)] at ha hb;exact h.apart i j f f' hk hk' hl hl' hij a b ha hb
  ·rw [zb8 (by omega)] at ha;rw [j5] at hb;exact hnew i f hk hl a ha b hb
  ·rw [j5] at ha;rw [zb8 (by omega)] at hb;exact (hnew j f' hk' hl' b hb a ha).symm
  ·exact absurd rfl hij
def Sim.add (h:Sim T w0 S0 ⟨F,H⟩ F' w S φ) {g:Nat} (hc:Chg [] w w') (hg:w.heap.size<=g) (hgl:g<w'.heap.size) {r:RA} {e:Ent T.U} (hr: ∀a,At r a->a.block=g) (he:EntR T w' (g::S) (zu1 φ H.length r) H.length e) (hids: ∀j∈e.cellIds,j<H.length+1):
  Sim T w0 S0 ⟨F,H++ [e]⟩ F' w' (g::S) (zu1 φ H.length r):=h.addG hc (by simp) (by simp) (fun _ _ _ _ _ _=>by simp) (fun b hb=>Z4 _ hb) (fun b hb=>by
  rcases Z0.1 hb with rfl|hb
  ·exact .inr ⟨hg,hgl⟩
  ·exact .inl hb) (fun a ha=>.inl (by rw [hr a ha];exact hg)) (fun a ha=>by rw [hr a ha];exact U2 ..) he hids
def Sim.upd (h:Sim T w0 S0 ⟨F,H⟩ F' w S φ) {i:Nat} {e0 e:Ent T.U} (hi:H[i]?=some e0) (hlv:e0.live=true) {Tc:List Nat} (hc:Chg Tc w w') (hT: ∀b∈Tc,∃a,At (φ i) a/\a.block=b)
  (he:EntR T w' S φ i e) (hids: ∀j∈e.cellIds,j<H.length) (hrow: ∀e1 t xs,e=.row e1 t xs-> ∃e2 ys,e0=.row e2 t ys/\ys.length<=xs.length):Sim T w0 S0 ⟨F,H.set i e⟩ F' w' S φ:=by
 have hTS: ∀b∈Tc,b∈S:=by
  intro b hb;obtain ⟨a,ha,rfl⟩:=hT b hb;exact zd5 h hi hlv ha
 have hil:i<H.length:=(X2.1 hi).1;have get: ∀j f,(H.set i e)[j]?=some f->(j=i/\f=e)\/(j≠i/\H[j]?=some f):=by
  intro j f hf;by_cases hji:j=i
  ·subst hji;rw [Q0 hil] at hf;simp only [X0] at hf;exact .inl ⟨rfl,hf.symm⟩
  ·rw [Z5 (Ne.symm hji)] at hf;exact .inr ⟨hji,hf⟩
 refine ⟨?_,?_,?_,?_,h.ex,?_,fun k r hk=>?_,?_,?_,?_⟩
 ·intro j a ha;obtain ⟨v,h1,h2⟩:=h.fr j a ha;exact ⟨v,h1,h2.chg T hc hTS (fun b hb=>.inl hb)⟩
 ·intro j a ha;obtain ⟨h1,h2⟩:=h.ids j a ha;refine ⟨fun x hx=>by simpa using h1 x hx,?_⟩;cases a with
  |eptr y sz k c=>
   intro e1 t xs hx;rcases get _ _ hx with ⟨hy,hx2⟩|⟨_,hx2⟩
   ·obtain ⟨e2,ys,he2,hl⟩:=hrow e1 t xs hx2.symm;subst he2;subst hy;obtain ⟨g1,g2⟩:=h2 e2 t ys hi;exact ⟨by omega,g2⟩
   ·exact h2 e1 t xs hx2
  |_=>trivial
 ·refine h.chg.step hc fun b hb=>?_;obtain ⟨a,ha,rfl⟩:=hT b hb;exact (h.lives i e0 hi hlv a ha).2
 ·exact fun b hb=>⟨(h.own b hb).1,V3 (h.own b hb).2 hc.size⟩
 ·intro j f hf hl a ha;rcases get j f hf with ⟨rfl,rfl⟩|⟨_,hf⟩
  ·exact h.lives j e0 hi hlv a ha
  ·exact h.lives j f hf hl a ha
 ·obtain ⟨h1,h2⟩:=h.pins k r hk;exact ⟨h1,by simpa using h2⟩
 ·intro j f hf;rcases get j f hf with ⟨rfl,rfl⟩|⟨hji,hf⟩
  ·exact he
  ·refine (h.ents j f hf).chg T hc hTS (fun b hb=>.inl hb) fun hl a ha=>⟨fun hb=>?_,zd5 h hf hl ha⟩;obtain ⟨a',ha',hbe⟩:=hT _ hb;exact h.apart j i f e0 hf hi hl hlv hji a a' ha ha' hbe.symm
 ·intro j f hf x hx;simp only [Q1];rcases get j f hf with ⟨rfl,rfl⟩|⟨_,hf⟩
  ·exact hids x hx
  ·exact h.eids j f hf x hx
 ·intro j k f f' hf hf' hl hl' hjk a b ha hb;rcases get j f hf with ⟨rfl,rfl⟩|⟨hj,hk⟩<;>rcases get k f' hf' with ⟨rfl,rfl⟩|⟨hj',hk'⟩
  ·exact absurd rfl hjk
  ·exact h.apart j k e0 f' hi hk' hlv hl' hjk a b ha hb
  ·exact h.apart j k f e0 hk hi hl hlv hjk a b ha hb
  ·exact h.apart j k f f' hk hk' hl hl' hjk a b ha hb
def Sim.drop (h:Sim T w0 S0 ⟨F,H⟩ F' w S φ) (i:Nat):Sim T w0 S0 ⟨F,H.set i .gone⟩ F' w S φ:=by
 have get: ∀(j:Nat) (f:Ent T.U),(H.set i .gone)[j]?=some f->f=.gone\/H[j]?=some f:=by
  intro j f hf;by_cases hji:j=i
  ·subst hji;by_cases hl:j<H.length
   ·rw [Q0 hl] at hf;simp only [X0] at hf;exact .inl hf.symm
   ·rw [Y5 (by simp;omega)] at hf;cases hf
  ·rw [Z5 (Ne.symm hji)] at hf;exact .inr hf
 refine ⟨h.fr,?_,h.chg,h.own,h.ex,?_,fun k r hk=>?_,?_,?_,?_⟩
 ·intro j a ha;obtain ⟨h1,h2⟩:=h.ids j a ha;refine ⟨fun x hx=>by simpa using h1 x hx,?_⟩;cases a with
  |eptr y sz k c=>
   intro e1 t xs hx;rcases get _ _ hx with hx|hx
   ·cases hx
   ·exact h2 e1 t xs hx
  |_=>trivial
 ·intro j f hf hl a ha;rcases get j f hf with rfl|hf
  ·cases hl
  ·exact h.lives j f hf hl a ha
 ·obtain ⟨h1,h2⟩:=h.pins k r hk;exact ⟨h1,by simpa using h2⟩
 ·intro j f hf;rcases get j f hf with rfl|hf
  ·trivial
  ·exact h.ents j f hf
 ·intro j f hf x hx;simp only [Q1];rcases get j f hf with rfl|hf
  ·cases hx
  ·exact h.eids j f hf x hx
 ·intro j k f f' hf hf' hl hl' hjk a b ha hb;rcases get j f hf with rfl|hk
  ·cases hl
  ·rcases get k f' hf' with rfl|hk'
   ·cases hl'
   ·exact h.apart j k f f' hk hk' hl hl' hjk a b ha hb
end
end Go.X
namespace Go.X
open Go.RowKit Go.V
section
variable {T:Tab} {P:Program} {w w':World} {S S':List Nat} {φ φ':Nat->RA} {w0:World} {S0:Ow} {F:AF T} {H:List (Ent T.U)} {F':PF}
variable {rd:List Nat} {ops:Array Oper} {Q:Exit->Act->World->Prop} {k n:Nat} {ds:List Deferred} {o:Oper}
def zp5 (P:Program) (ops:Array Oper) (Q:Exit->Act->World->Prop) (k n:Nat) (ds:List Deferred) (w0:World) (S0:Ow) (st:St T):Prop:= ∀F1 w1,zc0 T w0 S0 st F1 w1->WR P ops Q k n ds F1 w1
def zm3 {a:AV T.U} (h:a.ids= []) (h2: ∀i sz k c,a≠.eptr i sz k c):okA H a:=by
 refine ⟨fun i hi=>(by rw [h] at hi;cases hi),?_⟩;cases a<;>first|trivial|exact absurd rfl (h2 _ _ _ _)
def ys2 (v:Value):(yo6 T v).ids= []:=by cases v<;>rfl
def yk4: ∀l:List Value,j8 (l.map (yo6 T))= []
 | []=>rfl
 |v::r=>by rw [U1,j8,ys2,yk4 r];rfl
def jv4 (v:Value):(ofV T v).ids= []:=by
 have h:=ys2 (T:=T) v;cases v<;>first|exact h|(show (AV.agg _).ids= [];rw [AV.ids];exact yk4 _)
def kq6 (v:Value):okA H (ofV T v):=zm3 (jv4 v) (by intro i sz k c;cases v<;>simp [ofV,yo6])
def zb5 (h:Sim T w0 S0 ⟨F,H⟩ F' w S φ) {x:Operand} {a:AV T.U} (ha:aev T F x=some a):okA H a:=by
 cases x with
 |tmp t=>exact h.ids t a ha
 |const v=>simp only [aev,X0] at ha;subst ha;exact kq6 v
 |global g=>cases ha
 |func f=>simp only [aev,X0] at ha;subst ha;exact zm3 rfl (by intros;simp)
def qb6 {e:TypeId} (hd:dec ops k n F'=some o) (hop:o.op=.alloc e):yr4 ops k n F'=some (o.dst,e):=by
 unfold yr4;rw [hd];cases o;simp only at hop;subst hop;rfl
def vd5 {e:TypeId} {x:Operand} (hd:dec ops k n F'=some o) (hop:o.op=.box e x):jy4 ops k n F'=some (o.dst,e,evD F' x):=by
 unfold jy4;rw [hd];cases o;simp only at hop;subst hop;rfl
def zw2 {t:TypeId} {x:Operand} (hd:dec ops k n F'=some o) (hop:o.op=.load t x):zn0 ops k n F'=some (o.dst,t,evD F' x):=by
 unfold zn0;rw [hd];cases o;simp only at hop;subst hop;rfl
def ye1 {a:AV T.U} (h:zz6 T a=true):j8 (zd4 T a)=a.ids:=by
 rcases yl8 h with ⟨cs,rfl⟩|⟨_,h2⟩
 ·rfl
 ·rw [h2,j8,j8,J4]
def kp6 {e:TypeId} {x:Operand} (hd:dec ops k n F'=some o) (hop:o.op=.box e x) {a:AV T.U} (ha:aev T F x=some a) {cs:List (AV T.U)} (hcs: ∀(w:World) (S:List Nat) (φ:Nat->RA) (v:Value),VR T w S φ a v->BR T w S φ cs v.cells.toList) (hci: ∀i∈j8 cs,i∈a.ids) (h:Sim T w0 S0 ⟨F,H⟩ F' w S φ)
  (K:zp5 P ops Q (k+1) n ds w0 S0 (⟨za1 T F o.dst (.ptr H.length 0),H++ [.blk e cs]⟩:St T)):WR P ops Q k n ds F' w:=by
 obtain ⟨v,h1,h2⟩:=z8 h.fr ha;have hak:=zb5 h ha;refine WR.box (v:=v) (by rw [vd5 hd hop,j6 h1]) _ rfl fun g w' hN=>K _ _ ⟨g::S,zu1 φ H.length ⟨some ⟨g,0,none⟩,0,0,[]⟩,?_⟩;have hS: ∀b∈g::S,b∈S\/w.heap.size<=b:=by
  intro b hb;rcases Z0.1 hb with rfl|hb
  ·exact .inr hN.fresh
  ·exact .inl hb
 have h3:=h.add (r:=⟨some ⟨g,0,none⟩,0,0,[]⟩) hN.chg hN.fresh hN.blk.lt (fun a ha=>zv3 ha) (e:=.blk e cs)
  ⟨g,v.cells,by rw [j5],hN.blk,by simp,((hcs _ _ _ _ h2).chg T hN.chg (by simp) hS).phi fun i hi=>zb8 (by have:=hak.1 i (hci i hi);omega)⟩
  (by intro j hj;rw [Ent.cellIds] at hj;have:=hak.1 j (hci j hj);omega)
 refine h3.slot ⟨g,by rw [j5],rfl⟩ ⟨by intro i hi;simp [AV.ids] at hi;subst hi;simp,trivial⟩
def jd8 {t:TypeId} {cs:List (AV T.U)} {j:Nat} {a:AV T.U} (h:zs2 T P t cs j=some a): ∃i d,P.info? t=some i/\P.underlying t=some d/\jk3 T cs j i.size (ya1 d)=some a:=by
 unfold zs2 at h;split at h
 ·rename_i i d hi hd;exact ⟨i,d,hi,hd,h⟩
 ·cases h
def qx9 {t:TypeId} {cs:List (AV T.U)} {c:Array Value} {j:Nat} {a:AV T.U} (hc:BR T w S φ cs c.toList) (h:ja4 T P t cs j=some a): ∃v,ldv P t c j=some v/\VR T w S φ a v:=by
 unfold ja4 at h;split at h
 ·rename_i i d hi hd;obtain ⟨v,h2,h3,h4⟩:=vp0 hc h;refine ⟨v,?_,h3⟩;unfold ldv;rw [hi,hd];cases d<;>simp only [ya1] at h2 h4⊢ <;>first|simpa using h2|(rw [show Nat.ble (j+i.size) c.size=true from W5 (h4 trivial)];simpa using h2)
 ·cases h
def jp9 {t:TypeId} {cs:List (AV T.U)} {j:Nat} {a:AV T.U} (h:ja4 T P t cs j=some a): ∀i∈a.ids,i∈j8 cs:=by
 unfold ja4 at h;split at h
 ·exact vo9 h
 ·cases h
def zi4 {a:AV T.U}: ∀ {l:List (AV T.U)},a∈l-> ∀i∈a.ids,i∈j8 l
 | [],h,_,_=>by cases h
 |b::r,h,i,hi=>by
  rw [j8];rcases Z0.1 h with rfl|h
  ·exact X4.2 (.inl hi)
  ·exact X4.2 (.inr (zi4 h i hi))
def zq0 {i:Nat}: ∀ {l:List (AV T.U)},i∈j8 l-> ∃a∈l,i∈a.ids
 | [],h=>by cases h
 |b::r,h=>by
  rw [j8] at h;rcases X4.1 h with h|h
  ·exact ⟨b,by simp,h⟩
  ·obtain ⟨a,h1,h2⟩:=zq0 h;exact ⟨a,Z4 _ h1,h2⟩
def jh5 {cs:List (AV T.U)} {j m:Nat} {ag:Bool} {a:AV T.U} (h:jk3 T cs j m ag=some a): ∀i∈a.ids,i∈j8 cs:=by
 unfold jk3 at h;split at h
 ·split at h
  ·simp only [X0] at h;subst h;intro i hi;rw [AV.ids] at hi;obtain ⟨b,hb,hi⟩:=zq0 hi;exact zi4 (List.mem_of_mem_drop (N0 hb)) i hi
  ·cases h
 ·intro i hi;exact zi4 (X6 h) i hi
def noE (cs:List (AV T.U)):Prop:= ∀a∈cs,∀i sz k c,a≠.eptr i sz k c
def kd8 {cs:List (AV T.U)} (hn:noE cs) {j m:Nat} {ag:Bool} {a:AV T.U} (h:jk3 T cs j m ag=some a) (hl: ∀i∈j8 cs,i<H.length):okA H a:=by
 refine ⟨fun i hi=>hl i (jh5 h i hi),?_⟩;cases a with
 |eptr i sz k c=>
  unfold jk3 at h;split at h
  ·split at h
   ·cases h
   ·cases h
  ·exact absurd rfl (hn _ (X6 h) i sz k c)
 |_=>trivial
def Same (φ:Nat->RA) (rd:List Nat) (w w1:World):Prop:= ∀e∈rd,∀a,(φ e).ad=some a->a.block<w.heap.size->w1.heap[a.block]?=w.heap[a.block]?
def QR (P:Program) (F':PF) (o:Oper) (S:List Nat) (φ:Nat->RA) (rd:List Nat) (w:World) (v:Value):Prop:= ∀w1,Chg S w w1->Same φ rd w w1->(execOp (evD F') o).run P w1=.ok (.value v) w1
def Same.pure {rd:List Nat} {w1:World} (hc:Chg [] w w1):Same φ rd w w1:=fun _ _ _ _ hlt=>hc.block _ hlt (by simp)
def qu5 {w1:World} (hc:Chg [] w w1) (S:List Nat):Chg S w w1:=(Chg.refl S w).step hc (by simp)
def Rg.same {ad:Option Addr} {cs:List Value} {w1:World} (h:Rg w ad cs) (hb:w1.heap[bk ad]?=w.heap[bk ad]?):Rg w1 ad cs:=fun j u hj=>⟨(h j u hj).1,(World.cell?_of_block hb).trans (h j u hj).2⟩
def yf8 {o':Oper} (h:dec ops k n F'=some o) (h':dec ops k n F'=some o'):o'=o:=by rw [h] at h';cases h';rfl
def QR.load {t:TypeId} {g j:Nat} {c:Array Value} {e:TypeId} {dst:Option Tmp} (h0:dec ops k n F'=some o) (hb: ∀w1,Chg S w w1->Same φ rd w w1->Blk w1 g c e) (hd:zn0 ops k n F'=some (dst,t,.pointer (some ⟨g,j,none⟩))) (v:Value) (hv:ldv P t c j=some v):QR P F' o S φ rd w v:=by
 intro w1 hc hs;obtain ⟨op,hdec,_,he⟩:=zi8 hd;rw [<-yf8 h0 hdec,he];simp [Instr.loadAt,Instr.sureAddr,zs4 (hb w1 hc hs) hv]
def QR.load1 {dst:Option Tmp} {t:TypeId} {a:Addr} (h0:dec ops k n F'=some o) (hd:zn0 ops k n F'=some (dst,t,.pointer (some a))) (hs:zj2 P t=true) (v:Value) (hv: ∀w1,Chg S w w1->Same φ rd w w1->w1.cell? a=some v):QR P F' o S φ rd w v:=by
 intro w1 hc hsm;obtain ⟨op,hdec,_,he⟩:=zi8 hd;rw [<-yf8 h0 hdec,he];simp [Instr.loadAt,Instr.sureAddr,zf0 hs (hv w1 hc hsm)]
def QR.loadA {dst:Option Tmp} {t:TypeId} {ad:Option Addr} {j:Nat} {cs:List Value} {sz:Nat} (h0:dec ops k n F'=some o) (hr: ∀w1,Chg S w w1->Same φ rd w w1->Rg w1 ad cs) (hd:zn0 ops k n F'=some (dst,t,.pointer (some ⟨bk ad,of ad+j,none⟩))) (ha:zj2 P t=false) (hu:(P.underlying t).isSome=true) (hs:yt2 P t=some sz) (vs:List Value) (hl:vs.length=sz) (hv:(cs.drop j).take sz=vs):QR P F' o S φ rd w (.agg vs.toArray):=by
 intro w1 hc1 hsm1;have hr:=hr w1 hc1 hsm1;obtain ⟨op,hdec,_,he⟩:=zi8 hd;rw [<-yf8 h0 hdec];obtain ⟨d,hd'⟩:=N6.1 hu;have hag:ya1 d=true:=by
  unfold zj2 at ha;rw [hd'] at ha;cases d<;>first|rfl|cases ha
 have hs':(sizeOf t).run P w1=.ok sz w1:=by
  unfold yt2 at hs;cases hin:P.info? t with
  |none=>rw [hin] at hs;cases hs
  |some inf=>rw [hin] at hs;simp at hs;simp [sizeOf,typeInfo,hin,hs]
 have hc:=run_loadCells_list (P:=P) (w:=w1) ⟨bk ad,of ad+j,none⟩ vs (fun i v hi=>by
  have hadd:(⟨bk ad,of ad+j,none⟩:Addr).add i=⟨bk ad,of ad+(j+i),none⟩:=by unfold Addr.add;split<;>simp_all [V1]
  rw [hadd];rw [<-hv,Z3] at hi;split at hi
  ·rw [Q6] at hi;exact (hr (j+i) v hi).2
  ·cases hi)
 rw [hl] at hc;have hlv:(loadVar t ⟨bk ad,of ad+j,none⟩).run P w1=.ok (.agg vs.toArray) w1:=by
  unfold loadVar;rw [Sem.run_bind,zu8 hd',hag];simp only [Result.andThen_ok,if_true,Sem.run_bind,hs',hc,Sem.run_pure]
 rw [he];simp [Instr.loadAt,Instr.sureAddr,hlv]
def QR.indexS {dst:Option Tmp} {t:TypeId} {b o1 m cap:Nat} {kk:IntKind} {i:Int} (h0:dec ops k n F'=some o) (hd:zo8 ops k n F'=some (dst,t,.slice (some ⟨b,o1,none⟩) m cap,.int kk i)) (sz:Nat) (hsz:zk5 P t=some sz) (j:Nat) (hj:i=(j:Int)) (hi:j<m):QR P F' o S φ rd w (.pointer (some ⟨b,o1+j*sz,none⟩)):=by
 subst hj;obtain ⟨op,hdec,_,hrun⟩:=yd0 hd hsz (by omega) (by omega);rw [<-yf8 h0 hdec];intro w1 _ _;simpa using hrun w1
def QR.sliceH {dst:Option Tmp} {t e:TypeId} {ad:Option Addr} {m cap:Nat} {kk:IntKind} {h:Int} {sz by_:Nat} {zc:Array Value} (h0:dec ops k n F'=some o) (hd:zo9 ops k n F'=some (dst,t,.slice ad m cap,none,some (.int kk h))) (hi:zl5 P t=some (e,sz,by_,zc)) (j:Nat) (hj:h=(j:Int)) (hle:j<=cap):QR P F' o S φ rd w (.slice ad j cap):=by
 subst hj;intro w _ _;obtain ⟨o',hdec,_,he⟩:=zl4 hd;obtain ⟨i,z,hu,hin,_⟩:=zb4 hi;have hel:P.elem t=e:=by simp [Program.elem,hu]
 have hs:(sizeOf e).run P w=.ok i.size w:=by simp [sizeOf,typeInfo,hin]
 rw [<-yf8 h0 hdec,he,Sem.run_bind,run_sliceAt_slice w t _ _ _ _ (zt0 hu),run_slice_h w t ad m cap (zt0 hu) kk j (by omega) (by omega),hel,hs];simp only [Result.andThen_ok,sliced,Z1,M1,J5];split<;>(cases ad<;>simp [Addr.add])
def QR.sliceLH {dst:Option Tmp} {t e:TypeId} {ad:Option Addr} {m cap:Nat} {kl kk:IntKind} {l h:Int} {sz by_:Nat} {zc:Array Value} (h0:dec ops k n F'=some o) (hd:zo9 ops k n F'=some (dst,t,.slice ad m cap,some (.int kl l),some (.int kk h))) (hi:zl5 P t=some (e,sz,by_,zc)) (i j:Nat) (hl:l=(i:Int)) (hj:h=(j:Int)) (hij:i<=j) (hle:j<=cap):
  QR P F' o S φ rd w (.slice (if cap=i then ad else ad.map (·.add (i*sz))) (j-i) (cap-i)):=by
 subst hj hl;intro w _ _;obtain ⟨o',hdec,_,he⟩:=zl4 hd;obtain ⟨inf,z,hu,hin,_,hsz,_⟩:=zb4 hi;have hel:P.elem t=e:=by simp [Program.elem,hu]
 have hs:(sizeOf e).run P w=.ok sz w:=by simp [sizeOf,typeInfo,hin,hsz]
 rw [<-yf8 h0 hdec,he,Sem.run_bind,run_sliceAt_slice w t _ _ _ _ (zt0 hu),run_slice_lh w t ad m cap (zt0 hu) kl kk i j (by omega) (by omega) (by omega),hel,hs];simp only [Result.andThen_ok,sliced,Z1];rfl
def QR.sliceL {dst:Option Tmp} {t e:TypeId} {ad:Option Addr} {m cap:Nat} {kl:IntKind} {l:Int} {sz by_:Nat} {zc:Array Value} (h0:dec ops k n F'=some o) (hd:zo9 ops k n F'=some (dst,t,.slice ad m cap,some (.int kl l),none)) (hi:zl5 P t=some (e,sz,by_,zc)) (i:Nat) (hl:l=(i:Int)) (hle:i<=m):
  QR P F' o S φ rd w (.slice (if cap=i then ad else ad.map (·.add (i*sz))) (m-i) (cap-i)):=by
 subst hl;intro w _ _;obtain ⟨o',hdec,_,he⟩:=zl4 hd;obtain ⟨inf,z,hu,hin,_,hsz,_⟩:=zb4 hi;have hel:P.elem t=e:=by simp [Program.elem,hu]
 have hs:(sizeOf e).run P w=.ok sz w:=by simp [sizeOf,typeInfo,hin,hsz]
 rw [<-yf8 h0 hdec,he,Sem.run_bind,run_sliceAt_slice w t _ _ _ _ (zt0 hu),run_slice_l w t ad m cap (zt0 hu) kl i (by omega) (by omega),hel,hs];simp only [Result.andThen_ok,sliced,Z1];rfl
def qo6 {Z:Prop} {t:TypeId} {x:Operand} (hd:dec ops k n F'=some o) (hop:o.op=.load t x) {i j:Nat} {e:TypeId} {cs:List (AV T.U)} {a:AV T.U} (hx:aev T F x=some (.ptr i j)) (hi:H[i]?=some (.blk e cs)) (hn: ∀i sz k c,a≠.eptr i sz k c) (hl:ja4 T P t cs j=some a)
  (h:Sim T w0 S0 ⟨F,H⟩ F' w S φ) (hrd:i∈rd) (K: ∀v,QR P F' o S φ rd w v->VR T w S φ a v->okA H a->Z):Z:=by
 obtain ⟨v,h1,g,h2,rfl⟩:=z8 h.fr hx;obtain ⟨g',c,h3,hb,h5,h6⟩:=h.ents i _ hi;rw [h2] at h3;simp only [X0,Addr.mk.injEq,and_true] at h3;subst h3;obtain ⟨v,h7,h8⟩:=qx9 h6 hl;refine K v (QR.load hd (fun w1 _ hsm=>(hsm i hrd _ h2 hb.lt).trans hb) (by rw [zw2 hd hop,j6 h1]) v h7) h8 ⟨fun i hi'=>h.eids _ _ hi i (jp9 hl i hi'),?_⟩;cases a<;>first|trivial|exact absurd rfl (hn _ _ _ _)
def yn6 (t:Ty) (x:den T.U t):j8 (zt6 T t x)= []:=by
 unfold zt6;generalize za3 T t x=l;induction l with
 |nil=>rfl
 |cons c r ih=>rw [U1,j8,ih];rfl
def yn7 (t:Ty) (x:den T.U t):noE (zt6 T t x):=by
 intro a ha i sz k c e;unfold zt6 at ha;obtain ⟨c',_,rfl⟩:=U3.1 ha;cases e
def jv1 {Z:Prop} {t:TypeId} {x:Operand} (hd:dec ops k n F'=some o) (hop:o.op=.load t x) {b o0 c:Nat} {cs:List (AV T.U)} {vals:List Value} {a:AV T.U} (hx:ev F' x=some (.pointer (some ⟨b,o0+c,none⟩)))
  (hr: ∀w1,Chg S w w1->Same φ rd w w1->Rg w1 (some ⟨b,o0,none⟩) vals) (hv:VRL T w S φ cs vals) (hn:noE cs) (hids:j8 cs= []) (hl:zs2 T P t cs c=some a)
  (K: ∀v,QR P F' o S φ rd w v->VR T w S φ a v->okA H a->Z):Z:=by
 obtain ⟨i,d,hi,hu,hc⟩:=jd8 hl;have hok:okA H a:=kd8 hn hc (by rw [hids];intro i hi;cases hi);have hdl:=zw2 hd hop;rw [j6 hx] at hdl;cases hag:ya1 d with
 |false=>
  rw [hag] at hc;obtain ⟨v,h1,h2⟩:=hv.get T (show cs[c]?=some a from hc);have hs:zj2 P t=true:=by unfold zj2;rw [hu];cases d<;>simp_all [ya1]
  refine K v (QR.load1 hd hdl hs v ?_) h2 hok;exact fun w1 hc hsm=>(hr w1 hc hsm c v h1).2
 |true=>
  rw [hag] at hc;unfold jk3 at hc;simp only at hc;split at hc
  ·rename_i hle;simp only [X0] at hc;subst hc;have hs:zj2 P t=false:=by unfold zj2;rw [hu];cases d<;>simp_all [ya1]
   have hlen:=hv.len T;have hle:=Y1 hle;refine K _ (QR.loadA (ad:=some ⟨b,o0,none⟩) (j:=c) (cs:=vals) (sz:=i.size) hd hr hdl hs (by rw [hu];rfl) (by unfold yt2;rw [hi];rfl) ((vals.drop c).take i.size) (by rw [Y6,Q7];omega) rfl) ⟨_,rfl,?_⟩ hok;simpa using (hv.drop T c).take T i.size
  ·cases hc
def zm0 {α:Type} {xs:List α} {k:Nat} (d:α) (hk:k<xs.length):xs[k]?=some (xs.getD k d):=by
 rw [Y2,Y0 hk];rfl
def vf0 {e:Ty} {xs:List (den T.U e)} {ad:Option Addr} {cap:Nat} (h:CR T w S (.list e) xs (.slice ad xs.length cap)) {k:Nat} (hk:k<xs.length):
  ∃vals,Rg w (some ⟨bk ad,of ad+k*szT T e,none⟩) vals/\VRL T w S φ (zt6 T e (xs.getD k (zy1 T e))) vals/\bk ad∉S:=by
 generalize hv:Value.slice ad xs.length cap=v at h;cases h with
 |list _ _ ad' cap' u hcap hnil had hcell hrel=>
  simp only [Value.slice.injEq,true_and] at hv;obtain ⟨rfl,rfl⟩:=hv;have hx:=zm0 (zy1 T e) hk;generalize xs.getD k (zy1 T e)=x at *;refine ⟨(List.range (szT T e)).map (u k),?_,?_,(had (fun e0=>by subst e0;simp at hk)).2.2⟩
  ·intro j v hj;refine ⟨rfl,?_⟩;simp only [bk,of];have hjl:j<szT T e:=by
    have:=(X2.1 hj).1;simpa using this
   rw [W4,List.getElem?_range hjl] at hj;simp only [Z8,X0] at hj;subst hj;have hc:(za3 T e x)[j]?=some ((za3 T e x)[j]'(by rw [v8];exact hjl)):=Y0 _;have:=hcell k j _ (by rw [hx];exact congrArg some hc);rw [V1];exact this
  ·have key: ∀(l:List (Cell T.U)) (s m:Nat),l.length=m->(∀j c,l[j]?=some c->CR T w S c.t c.x (u k (s+j)))->VRL T w S φ (l.map .cell) ((List.range' s m).map (u k)):=by
    intro l;induction l with
    |nil=>intro s m hm _;simp at hm;subst hm;simp [VRL]
    |cons c r ih=>
     intro s m hm hc;cases m with
     |zero=>simp at hm
     |succ m=>
      rw [U1,List.range'_succ,U1];refine ⟨hc 0 c rfl,ih (s+1) m (by simpa using hm) fun j c' hj=>?_⟩;have:=hc (j+1) c' (by simpa using hj);rwa [show s+1+j=s+(j+1) by omega]
   have:=key (za3 T e x) 0 (szT T e) (v8 T e x) (fun j c hj=>by rw [U0];exact hrel k j c (by rw [hx];exact congrArg some hj));unfold zt6;rw [List.range_eq_range'];exact this
def qc3 {Z:Prop} {t:TypeId} {x:Operand} (hd:dec ops k n F'=some o) (hop:o.op=.load t x) {e:Ty} {xs:List (den T.U e)} {i c:Nat} {a:AV T.U} (hx:aev T F x=some (.lptr e xs i c)) (hl:zs2 T P t (zt6 T e (xs.getD i (zy1 T e))) c=some a)
  (h:Sim T w0 S0 ⟨F,H⟩ F' w S φ) (K: ∀v,QR P F' o S φ rd w v->VR T w S φ a v->okA H a->Z):Z:=by
 obtain ⟨v,h1,ad,cap,h2,h3,rfl⟩:=z8 h.fr hx;obtain ⟨vals,h4,h5,h6⟩:=vf0 (φ:=φ) h2 h3;exact jv1 hd hop (b:=bk ad) (o0:=of ad+i*szT T e) (c:=c) (by rw [h1,V1]) (fun w1 hc _=>h4.chg hc (.inl h6)) h5 (yn7 _ _) (yn6 _ _) hl K
def yy4 {t:TypeId} {x y:Operand} (hd:dec ops k n F'=some o) (hop:o.op=.indexAddr t x y):zo8 ops k n F'=some (o.dst,t,evD F' x,evD F' y):=by
 unfold zo8;rw [hd];cases o;simp only at hop;subst hop;rfl
def zy4 {t:TypeId} {e:Ty} (h:yq4 T P t e=true):zk5 P t=some (szT T e):=by
 unfold yq4 at h;split at h
 ·rename_i s hs;rw [hs,X1 h]
 ·cases h
def q7 {R:Type} {c:Prop} [Decidable c] {x:Option R} {r:R} (h:(if c then x else none)=some r):c/\x=some r:=by
 split at h
 ·rename_i hc;exact ⟨hc,h⟩
 ·cases h
def jb4 (h:Sim T w0 S0 ⟨F,H⟩ F' w S φ) {i:Nat} {e:TypeId} {ty:Ty} {xs:List (den T.U ty)} (hi:H[i]?=some (.row e ty xs)) (hx:0<xs.length):
  ∃g c B vals,(φ i).ad=some ⟨g,0,none⟩/\(φ i).n=xs.length/\Own w B e (szT T ty) (φ i).ad xs.length (φ i).cap vals/\Blk w g c e/\(φ i).cap*szT T ty<=c.size/\c.toList.take (xs.length*szT T ty)=vals/\CellsR T w S (xs.flatMap (za3 T ty)) vals/\g∈S/\B<=g/\B<=w.heap.size/\xs.length<=(φ i).cap/\(φ i).cap<=maxLen:=by
 obtain ⟨B,vals,h1,h2,h3,h4,h5⟩:=h.ents i _ hi;rw [h2] at h1;rcases h1.cases with ⟨_,hn,_⟩|⟨c,had,hB,hb,hle,hm,hs,ht⟩
 ·omega
 ·exact ⟨bk (φ i).ad,c,B,vals,had,h2,h1,hb,hs,ht,h4,h5 _ had,hB,h3,hle,hm⟩
def yf9 {α β:Type} {f:α->List β} {sz:Nat} (hf: ∀y,(f y).length=sz): ∀ {l:List α} {k:Nat} {x:α},l[k]?=some x->((l.flatMap f).drop (k*sz)).take sz=f x
 | [],k,x,h=>by simp at h
 |y::r,0,x,h=>by
  simp at h;subst h;rw [V5,M1,N2,Z7 (by rw [hf];exact W8 _),Q4 (by rw [hf];exact W8 _)]
 |y::r,k+1,x,h=>by
  rw [V5,show (k+1)*sz=(f y).length+k*sz by rw [hf,V9,J6],<-List.drop_drop,List.drop_left];exact yf9 hf (by simpa using h)
def CellsR.vrl: ∀ {cs:List (Cell T.U)} {vs:List Value},CellsR T w S cs vs->VRL T w S φ (cs.map .cell) vs
 | [],[],_=>trivial
 | [],_::_,h=>by have:=h.1;simp at this
 |_::_,[],h=>by have:=h.1;simp at this
 |c::r,v::s,h=>⟨h.2 0 c v rfl rfl,CellsR.vrl ⟨by have:=h.1;simpa using this,fun j c' v' h1 h2=>h.2 (j+1) c' v' (by simpa using h1) (by simpa using h2)⟩⟩
def CellsR.cut {cs:List (Cell T.U)} {vs:List Value} (h:CellsR T w S cs vs) (a b:Nat):CellsR T w S ((cs.drop a).take b) ((vs.drop a).take b):=by
 refine ⟨by rw [Y6,Y6,Q7,Q7,h.1],fun j c v h1 h2=>?_⟩;rw [Z3] at h1 h2;split at h1
 ·rename_i hj;rw [if_pos hj] at h2;rw [Q6] at h1 h2;exact h.2 _ c v h1 h2
 ·cases h1
def vu5 (h:Sim T w0 S0 ⟨F,H⟩ F' w S φ) {i:Nat} {e:TypeId} {ty:Ty} {xs:List (den T.U ty)} (hi:H[i]?=some (.row e ty xs)) {j:Nat} (hj:j<xs.length):
  ∃g vals,(φ i).ad=some ⟨g,0,none⟩/\Rg w (some ⟨g,0+j*szT T ty,none⟩) vals/\VRL T w S φ (zt6 T ty (xs.getD j (zy1 T ty))) vals:=by
 obtain ⟨g,c,B,vals,h1,_,h3,_,_,_,h4,_⟩:=jb4 h hi (by omega);refine ⟨g,(vals.drop (j*szT T ty)).take (szT T ty),h1,?_,?_⟩
 ·have hr:=h3.rg;rw [h1] at hr;exact hr.sub (j*szT T ty) (szT T ty) _ (fun _=>rfl)
 ·have hc:=h4.cut (j*szT T ty) (szT T ty);rw [yf9 (v8 T ty) (zm0 (zy1 T ty) hj)] at hc;exact hc.vrl
def qc2 {Z:Prop} {t:TypeId} {x:Operand} (hd:dec ops k n F'=some o) (hop:o.op=.load t x) {i sz j c:Nat} {e:TypeId} {ty:Ty} {xs:List (den T.U ty)} {a:AV T.U} (hx:aev T F x=some (.eptr i sz j c)) (hi:H[i]?=some (.row e ty xs)) (hl:zs2 T P t (zt6 T ty (xs.getD j (zy1 T ty))) c=some a)
  (h:Sim T w0 S0 ⟨F,H⟩ F' w S φ) (hrd:i∈rd) (K: ∀v,QR P F' o S φ rd w v->VR T w S φ a v->okA H a->Z):Z:=by
 obtain ⟨v,h1,g,h2,rfl⟩:=z8 h.fr hx;obtain ⟨hj,hsz⟩:=(zb5 h hx).2 e ty xs hi;obtain ⟨g',vals,h3,h4,h5⟩:=vu5 h hi hj;have hlt:=(h.own _ (kq4 h hi rfl h2)).2;rw [h2] at h3;simp only [X0,Addr.mk.injEq,and_true] at h3;subst h3;subst hsz;exact jv1 hd hop (b:=g) (o0:=0+j*szT T ty) (c:=c) (by rw [h1,V1]) (fun w1 _ hsm=>Rg.same h4 (show w1.heap[g]?=w.heap[g]? from hsm i hrd ⟨g,0,none⟩ h2 hlt)) h5 (yn7 _ _) (yn6 _ _) hl K
def ke7 {Z:Prop} {R:Type} {r:R} {t:TypeId} {x y:Operand} (hd:dec ops k n F'=some o) (hop:o.op=.indexAddr t x y) {s:AV T.U} {kk:IntKind} {j:Int} (hx:aev T F x=some s) (hy:aev T F y=some (cI T kk j)) {K0:AV T.U->Option R} (hK0:zz2 T P t H s j K0=some r)
  (h:Sim T w0 S0 ⟨F,H⟩ F' w S φ) (K: ∀a v,K0 a=some r->QR P F' o S φ rd w v->VR T w S φ a v->okA H a->Z):Z:=by
 obtain ⟨X,h1,h2⟩:=z8 h.fr hx;obtain ⟨Y,h3,h4⟩:=z8 h.fr hy;have e:=v7 h4;subst e;have hdi:=yy4 hd hop;rw [j6 h1,j6 h3] at hdi;unfold zz2 at hK0;split at hK0
 ·rename_i e xs;split at hK0
  ·rename_i hel;obtain ⟨hj,hK⟩:=q7 hK0;have h2:CR T w S (.list e) xs X:=h2;have h2':=h2;cases h2' with
   |list _ _ ad cap u hcap hnil had hcell hrel=>
    have hne:xs≠ []:=by intro e;subst e;simp at hj;omega
    obtain ⟨ha,_,_⟩:=had hne;generalize bk ad=b at ha;generalize of ad=of0 at ha;subst ha;refine K _ _ hK (QR.indexS hd hdi _ (zy4 hel) j.toNat (by omega) (by omega)) ⟨_,cap,h2,by omega,rfl⟩ ?_;exact ⟨fun i hi=>(by cases hi),trivial⟩
  ·cases hK0
 ·rename_i i;split at hK0
  ·rename_i e ty xs hi;split at hK0
   ·rename_i hel;obtain ⟨hj,hK⟩:=q7 hK0;obtain ⟨g,c,B,vals,h5,h6,_⟩:=jb4 h hi (by omega);rw [VR] at h2;subst h2;rw [h5,h6] at hdi;refine K _ _ hK (QR.indexS hd hdi _ (zy4 hel) j.toNat (by omega) (by omega)) ⟨g,h5,by simp⟩ ?_;refine ⟨(zb5 h hx).1,?_⟩;intro e1 t1 ys hy1;have hi':H[i]?=some (.row e ty xs):=hi;rw [hi'] at hy1;simp only [X0,Ent.row.injEq] at hy1;obtain ⟨rfl,rfl,hh⟩:=hy1;have:=eq_of_heq hh;subst this;exact ⟨by omega,rfl⟩
   ·cases hK0
  ·cases hK0
 ·rename_i i sz o1 m;split at hK0
  ·rename_i e ty xs hi;split at hK0
   ·rename_i hel hsz;have hsz:=X1 hsz;subst hsz;obtain ⟨hj,hK1⟩:=q7 hK0;obtain ⟨hj2,hK⟩:=q7 hK1;obtain ⟨ad,rfl,hcap,hn,_⟩:=h2;rcases hn with hn|⟨g,hg1,hg2⟩
    ·omega
    ·subst hg2;refine K _ _ hK (QR.indexS hd hdi _ (zy4 hel) j.toNat (by omega) (by omega)) ⟨g,hg1,by simp [V6]⟩ ?_;refine ⟨(zb5 h hx).1,?_⟩;intro e1 t1 ys hy1;have hi':H[i]?=some (.row e ty xs):=hi;rw [hi'] at hy1;simp only [X0,Ent.row.injEq] at hy1;obtain ⟨rfl,rfl,hh⟩:=hy1;have:=eq_of_heq hh;subst this;exact ⟨by omega,rfl⟩
   ·cases hK0
  ·rename_i e cs hi;split at hK0
   ·rename_i s hes;split at hK0
    ·rename_i hsz;have hsz:=X1 hsz;subst hsz;obtain ⟨hj,hK⟩:=q7 hK0;obtain ⟨ad,rfl,hcap,hn,_⟩:=h2;rcases hn with hn|⟨g,hg1,hg2⟩
     ·omega
     ·subst hg2;exact K _ _ hK (QR.indexS hd hdi _ hes j.toNat (by omega) (by omega)) ⟨g,hg1,by simp [V6]⟩ ⟨(zb5 h hx).1,trivial⟩
    ·cases hK0
   ·cases hK0
  ·cases hK0
 ·rename_i i o0 sz n0 lo m;split at hK0
  ·rename_i s hes;split at hK0
   ·rename_i hsz;have hsz:=X1 hsz;subst hsz;obtain ⟨hj,hK⟩:=q7 hK0;obtain ⟨g,ad,hg,rfl,hle,had⟩:=h2;rcases had with had|rfl
    ·omega
    ·exact K _ _ hK (QR.indexS hd hdi _ hes j.toNat (by omega) (by omega)) ⟨g,hg,by omega,by simp [V6,V1]⟩ ⟨(zb5 h hx).1,trivial⟩
   ·cases hK0
  ·cases hK0
 ·cases hK0
def qb7 {t:TypeId} {x:Operand} {lo hi:Option Operand} (hd:dec ops k n F'=some o) (hop:o.op=.slice t x lo hi none):zo9 ops k n F'=some (o.dst,t,evD F' x,lo.map (evD F'),hi.map (evD F')):=by
 unfold zo9;rw [hd];cases o;simp only at hop;subst hop;rfl
def jh7 {t:TypeId} {e:Ty} (h:eIs T P t e=true): ∃et by_ zc,zl5 P t=some (et,szT T e,by_,zc):=by
 unfold eIs at h;split at h
 ·rename_i et sz by_ zc hs;exact ⟨et,by_,zc,by rw [hs,X1 h]⟩
 ·cases h
def zk8 (ad:Option Addr) (cap i sz:Nat):Option Addr:=if cap=i then ad else ad.map (·.add (i*sz))
def qs4 (ad:Option Addr) (cap sz:Nat):zk8 ad cap 0 sz=ad:=by
 unfold zk8;split
 ·rfl
 ·cases ad<;>simp [Addr.add]
def zy7 {Z:Prop} {t:TypeId} {x:Operand} {lo hi:Option Operand} (hd:dec ops k n F'=some o) (hop:o.op=.slice t x lo hi none) {ad:Option Addr} {m cap sz et by_:Nat} {zc:Array Value} (hX:ev F' x=some (.slice ad m cap)) (hmc:m<=cap) {l h:Option Int} {kl kh:IntKind}
  (hl:lo.map (evD F')=l.map (Value.int kl)) (hh:hi.map (evD F')=h.map (Value.int kh)) (he:zl5 P t=some (et,sz,by_,zc)) (hj:0<=l.getD 0/\l.getD 0<=h.getD m/\h.getD m<=cap) (hne:l≠none\/h≠none)
  (K:QR P F' o S φ rd w (.slice (if l=none then ad else zk8 ad cap (l.getD 0).toNat sz) ((h.getD m).toNat-(l.getD 0).toNat) (if l=none then cap else cap-(l.getD 0).toNat))->Z):Z:=by
 have hds:=qb7 hd hop;rw [j6 hX,hl,hh] at hds;cases l with
 |none=>
  cases h with
  |none=>simp at hne
  |some h=>
   have:=QR.sliceH (S:=S) (φ:=φ) (rd:=rd) (w:=w) hd hds he h.toNat (by simp at hj;omega) (by simp at hj;omega);exact K (by simpa using this)
 |some l=>
  cases h with
  |none=>
   have:=QR.sliceL (S:=S) (φ:=φ) (rd:=rd) (w:=w) hd hds he l.toNat (by simp at hj;omega) (by simp at hj;omega);exact K (by simpa [zk8] using this)
  |some h=>
   have:=QR.sliceLH (S:=S) (φ:=φ) (rd:=rd) (w:=w) hd hds he l.toNat h.toNat (by simp at hj;omega) (by simp at hj;omega) (by simp at hj;omega) (by simp at hj;omega);exact K (by simpa [zk8] using this)
def CR.sub {e:Ty} {xs:List (den T.U e)} {ad:Option Addr} {cap i m:Nat} (h:CR T w S (.list e) xs (.slice ad xs.length cap)) (hle:i+m<=xs.length):CR T w S (.list e) ((xs.drop i).take m) (.slice (zk8 ad cap i (szT T e)) m (cap-i)):=by
 generalize hv:Value.slice ad xs.length cap=v at h;cases h with
 |list _ _ ad' cap' u hcap hnil had hcell hrel=>
  simp only [Value.slice.injEq,true_and] at hv;obtain ⟨rfl,rfl⟩:=hv;have hlen:((xs.drop i).take m).length=m:=by rw [Y6,Q7];omega
  have hne:(xs.drop i).take m≠ []->xs≠ []:=by intro h e;subst e;simp at h
  have hpos:(xs.drop i).take m≠ []->0<m:=by
   intro h;cases m with
   |zero=>simp at h
   |succ m=>omega
  have hat: ∀j,j<m->((xs.drop i).take m)[j]?=xs[i+j]?:=by intro j hj;rw [Z3,if_pos hj,Q6]
  have hadr:(xs.drop i).take m≠ []->zk8 ad cap i (szT T e)=some ⟨bk ad,of ad+i*szT T e,none⟩:=by
   intro h;obtain ⟨h1,_,_⟩:=had (hne h);have:=hpos h;unfold zk8;rw [if_neg (by omega)];generalize bk ad=b at h1⊢;generalize of ad=o1 at h1⊢;subst h1;simp only [Z8,Addr.add];split
   ·rename_i h0;rw [h0];rfl
   ·rfl
  have hres:CR T w S (.list e) ((xs.drop i).take m) (.slice (zk8 ad cap i (szT T e)) ((xs.drop i).take m).length (cap-i)):=by
   refine .list e _ _ _ (fun k j=>u (i+k) j) (by rw [hlen];omega) ?_ ?_ ?_ ?_
   ·intro ha;unfold zk8 at ha;split at ha
    ·have:=hnil ha;rw [hlen];omega
    ·cases ad with
     |none=>have:=hnil rfl;rw [hlen];omega
     |some a=>cases ha
   ·intro h;obtain ⟨h1,h2,h3⟩:=had (hne h);rw [hadr h];exact ⟨rfl,h2,h3⟩
   ·intro k j c hk;have hkm:k<m:=by
     apply Classical.byContradiction;intro hn;rw [Y5 (by rw [hlen];omega)] at hk;cases hk
    have hn:(xs.drop i).take m≠ []:=by intro e;rw [e] at hk;simp at hk
    rw [hat k hkm] at hk;have:=hcell (i+k) j c hk;rw [hadr hn];show w.cell? ⟨bk ad,of ad+i*szT T e+(k*szT T e+j),none⟩=some (u (i+k) j);rw [show of ad+i*szT T e+(k*szT T e+j)=of ad+((i+k)*szT T e+j) by rw [V6];omega];exact this
   ·intro k j c hk;have hkm:k<m:=by
     apply Classical.byContradiction;intro hn;rw [Y5 (by rw [hlen];omega)] at hk;cases hk
    rw [hat k hkm] at hk;exact hrel (i+k) j c hk
  rwa [hlen] at hres
def jt8 (F:AF T):Option Operand->Option (Option Int)
 |none=>some none
 |some x=>match aev T F x with|some a=>(match intOf T a with|some i=>some (some i)|none=>none)|none=>none
def yr1 (hF:FR T w S φ F F') {x:Option Operand} {l:Option Int} (h:jt8 F x=some l): ∃kl,x.map (evD F')=l.map (Value.int kl):=by
 cases x with
 |none=>simp only [jt8,X0] at h;subst h;exact ⟨.i64,rfl⟩
 |some y=>
  simp only [jt8] at h;split at h
  ·rename_i a ha;split at h
   ·rename_i i hi;simp only [X0] at h;subst h;obtain ⟨v,h1,h2⟩:=z8 hF ha;unfold intOf at hi;split at hi
    ·rename_i k x;have e:=v7 h2;subst e;refine ⟨k,?_⟩;have hi:x=i:=X5 hi;subst hi;show some (evD F' y)=some (Value.int k x);rw [j6 h1]
    ·cases hi
   ·cases h
  ·cases h
def ki8 {Z:Prop} {R:Type} {r:R} {t:TypeId} {x:Operand} {lo hi:Option Operand} (hd:dec ops k n F'=some o) (hop:o.op=.slice t x lo hi none) {s:AV T.U} {l m:Option Int} (hx:aev T F x=some s) (hlo:jt8 F lo=some l) (hhi:jt8 F hi=some m) (hne:l≠none\/m≠none)
  {K0:AV T.U->Option R} (hK0:yc7 T P t H s l m K0=some r) (h:Sim T w0 S0 ⟨F,H⟩ F' w S φ) (K: ∀a v,K0 a=some r->QR P F' o S φ rd w v->VR T w S φ a v->okA H a->Z):Z:=by
 obtain ⟨X,h1,h2⟩:=z8 h.fr hx;obtain ⟨kl,e1⟩:=yr1 h.fr hlo;obtain ⟨kh,e2⟩:=yr1 h.fr hhi;unfold yc7 at hK0;split at hK0
 ·rename_i e xs;simp only at hK0;split at hK0
  ·rename_i he;obtain ⟨hj,hK⟩:=q7 hK0;obtain ⟨et,by_,zc,hei⟩:=jh7 he;have h2:CR T w S (.list e) xs X:=h2;have h2':=h2;cases h2' with
   |list _ _ ad cap u hcap hnil had hcell hrel=>
    refine zy7 hd hop h1 hcap e1 e2 hei ⟨hj.1,hj.2.1,Int.le_trans hj.2.2 (by have:=hcap;omega)⟩ hne fun hq=>K (.cell ⟨.list e,_⟩) _ hK hq ?_ ⟨fun i hi=>(by cases hi),trivial⟩;show CR T w S (.list e) (List.take ((m.getD (xs.length:Int)).toNat-(l.getD 0).toNat) (List.drop (l.getD 0).toNat xs)) _;have hle:(l.getD 0).toNat+((m.getD (xs.length:Int)).toNat-(l.getD 0).toNat)<=xs.length:=by omega
    have:=CR.sub h2 hle;cases l with
    |none=>
     have e0:zk8 ad cap 0 (szT T e)=ad:=by
      unfold zk8;split
      ·rfl
      ·cases ad with
       |none=>rfl
       |some a=>simp [Addr.add]
     simpa [e0] using this
    |some l=>simpa using this
  ·cases hK0
 ·rename_i i;split at hK0
  ·rename_i e ty xs hi;simp only at hK0;split at hK0
   ·rename_i he;obtain ⟨hj,hK⟩:=q7 hK0;obtain ⟨et,by_,zc,hei⟩:=jh7 he;rw [VR] at h2;subst h2;obtain ⟨B,vals,g1,g2,_,_,_⟩:=h.ents i _ hi;have hcap:(φ i).n<=(φ i).cap:=g1.le.1;rw [<-g2] at hj;refine zy7 hd hop h1 hcap e1 e2 hei ⟨hj.1,hj.2.1,by have:=hj.2.2;omega⟩ hne fun hq=>K (.sl i (szT T ty) (l.getD 0).toNat ((m.getD (xs.length:Int)).toNat-(l.getD 0).toNat)) _ hK hq ?_ ⟨(zb5 h hx).1,trivial⟩;have hlo:(if l=none then (φ i).cap else (φ i).cap-(l.getD 0).toNat)=(φ i).cap-(l.getD 0).toNat:=by cases l<;>simp
    have had0:(l.getD 0).toNat=0->(if l=none then (φ i).ad else zk8 (φ i).ad (φ i).cap (l.getD 0).toNat (szT T ty))=(φ i).ad:=by
     intro h0;cases l with
     |none=>rfl
     |some l=>simp only [reduceCtorEq,if_false];rw [h0,qs4]
    rw [VR,<-g2,hlo];refine ⟨_,rfl,?_,?_,?_,had0⟩
    ·cases l<;>simp at hj⊢ <;>omega
    ·rcases g1.cases with ⟨_,hn,_⟩|⟨c,had,_,_,_⟩
     ·left;omega
     ·by_cases h0:(m.getD ((φ i).n:Int)).toNat-(l.getD 0).toNat=0
      ·exact .inl h0
      ·obtain ⟨g,hg⟩: ∃g,(φ i).ad=some ⟨g,0,none⟩:=⟨_,had⟩;refine .inr ⟨g,hg,?_⟩;cases l with
       |none=>simpa using hg
       |some l=>
        simp only [reduceCtorEq,if_false,V2] at hj h0⊢;unfold zk8;rw [if_neg (by omega),hg];simp only [Z8,Addr.add];split
        ·rename_i hz;simp [hz]
        ·simp
    ·intro ha;rcases g1.cases with ⟨hn0,hn,hc0,_⟩|⟨c,had,_,_,_⟩
     ·cases l<;>simp at hj⊢ <;>omega
     ·cases l with
      |none=>simp at ha;rw [ha] at had;cases had
      |some l=>
       simp only [reduceCtorEq,if_false,V2] at ha hj⊢;unfold zk8 at ha;split at ha
       ·rw [ha] at had;cases had
       ·rw [had] at ha;cases ha
   ·cases hK0
  ·cases hK0
 ·rename_i i sz o1 m1;split at hK0
  ·rename_i e ty xs hi;simp only at hK0;split at hK0
   ·rename_i he hsz;have hsz:=X1 hsz;subst hsz;obtain ⟨hj,hK⟩:=q7 hK0;obtain ⟨et,by_,zc,hei⟩:=jh7 he;obtain ⟨ad,rfl,hcap,hn,hnil,hz1⟩:=h2;have hrow:xs.length<=(φ i).cap:=by
     obtain ⟨B,vals,g1,g2,_,_,_⟩:=h.ents i _ hi;have:=g1.le.1;omega
    have hjc:m.getD (m1:Int)<=(((φ i).cap-o1:Nat):Int):=by
     have:=hj.2.1;rcases hj.2.2 with h3|⟨h3,_⟩<;>omega
    refine zy7 hd hop h1 (by omega) e1 e2 hei ⟨hj.1,hj.2.1,hjc⟩ hne fun hq=>K (.sl i (szT T ty) (o1+(l.getD 0).toNat) ((m.getD (m1:Int)).toNat-(l.getD 0).toNat)) _ hK hq ?_ ⟨(zb5 h hx).1,trivial⟩;have hlo:(if l=none then (φ i).cap-o1 else (φ i).cap-o1-(l.getD 0).toNat)=(φ i).cap-(o1+(l.getD 0).toNat):=by cases l<;>simp<;>omega
    have had0:o1+(l.getD 0).toNat=0->(if l=none then ad else zk8 ad ((φ i).cap-o1) (l.getD 0).toNat (szT T ty))=(φ i).ad:=by
     intro h0;rw [<-hz1 (by omega)];cases l with
     |none=>rfl
     |some l=>simp only [reduceCtorEq,if_false];rw [show (Option.getD (some l) (0:Int)).toNat=0 by omega,qs4]
    rw [VR,hlo];refine ⟨_,rfl,?_,?_,?_,had0⟩
    ·have:=hj.1;have:=hj.2.1;omega
    ·by_cases h0:(m.getD (m1:Int)).toNat-(l.getD 0).toNat=0
     ·exact .inl h0
     ·have hn: ∃g,(φ i).ad=some ⟨g,0,none⟩/\ad=some ⟨g,0+o1*szT T ty,none⟩:=by
       rcases hn with hn|hn
       ·rcases hj.2.2 with h3|⟨h3,h4⟩
        ·omega
        ·have ho:o1=0:=by omega
         subst ho;obtain ⟨B,vals,g1,g2,_,_,_⟩:=h.ents i _ hi;rcases g1.cases with ⟨_,hn0,_⟩|⟨c,had,_,_,_⟩
         ·omega
         ·exact ⟨_,had,(hz1 rfl).trans (had.trans (by rw [M1]))⟩
       ·exact hn
      rcases hn with ⟨g,hg1,hg2⟩
      ·refine .inr ⟨g,hg1,?_⟩;subst hg2;cases l with
       |none=>simp
       |some l=>
        simp only [reduceCtorEq,if_false,V2] at hj h0⊢;unfold zk8;rw [if_neg (by omega)];simp only [Z8,Addr.add];split
        ·rename_i hz;simp [V6,hz]
        ·simp [V6]
    ·intro ha;cases l with
     |none=>simp at ha;have:=hnil ha;simp at hj⊢;omega
     |some l=>
      simp only [reduceCtorEq,if_false,V2] at ha hj⊢;unfold zk8 at ha;split at ha
      ·have:=hnil ha;omega
      ·cases ad with
       |none=>have:=hnil rfl;omega
       |some a=>cases ha
   ·cases hK0
  ·cases hK0
 ·rename_i i o0 sz n0 o1 m1;simp only at hK0;split at hK0
  ·rename_i et s by_ zc hei;split at hK0
   ·rename_i hsz;have hsz:=X1 hsz;subst hsz;obtain ⟨hj,hK⟩:=q7 hK0;obtain ⟨g,ad,hg,rfl,hle,had⟩:=h2;refine zy7 hd hop h1 (by omega) e1 e2 hei ⟨hj.1,hj.2.1,by have:=hj.2.2;omega⟩ hne fun hq=>K (.asl i o0 s n0 (o1+(l.getD 0).toNat) ((m.getD (m1:Int)).toNat-(l.getD 0).toNat)) _ hK hq ?_ ⟨(zb5 h hx).1,trivial⟩;rw [VR];cases l with
    |none=>exact ⟨g,ad,hg,by simp,by simp at hj⊢;omega,by simpa using had⟩
    |some l=>
     simp only [reduceCtorEq,if_false,V2] at hj⊢;unfold zk8;split
     ·rename_i hc0;exact ⟨g,ad,hg,by rw [Nat.sub_sub],by omega,.inl (by omega)⟩
     ·rename_i hc0;refine ⟨g,ad.add (l.toNat*s),hg,by rw [Nat.sub_sub];rfl,by omega,?_⟩;rcases had with had|had
      ·left;omega
      ·right;subst had;simp only [Addr.add];split
       ·rename_i hz;simp [V6,hz]
       ·simp [V6,V1]
   ·cases hK0
  ·cases hK0
 ·cases hK0
end
end Go.X
namespace Go.X
open Go.RowKit Go.V
section
variable {T:Tab} {P:Program} {w w':World} {S S':List Nat} {φ φ':Nat->RA} {w0:World} {S0:Ow} {F:AF T} {H:List (Ent T.U)} {F':PF}
variable {ops:Array Oper} {Q:Exit->Act->World->Prop} {k n:Nat} {ds:List Deferred} {o:Oper}
def yh2 {t:TypeId} {x y:Operand} (hd:dec ops k n F'=some o) (hop:o.op=.store t x y) (hdst:o.dst=none):zx7 ops k n F'=some (t,evD F' x,evD F' y):=by
 unfold zx7;rw [hd];cases o;simp only at hop hdst;subst hop;subst hdst;rfl
def ym6: ∀ {aS:List (AV T.U)} {vs:List Value},aS.all (zv4 T)=true->VRL T w S φ aS vs->vs.all Value.oneCell'=true
 | [],[],_,_=>rfl
 | [],_::_,_,h=>h.elim
 |_::_,[],_,h=>h.elim
 |a::r,v::s,h,hv=>by
  simp only [J1,X3] at h⊢;exact ⟨(yp7 h.1 hv.1).2,ym6 h.2 hv.2⟩
def ya4 {t:TypeId} {o0 m:Nat} {a:AV T.U} (h:jk6 T P t o0 m a=true): ∃i,P.info? t=some i/\zz6 T a=true/\(zd4 T a).length=i.size/\o0+i.size<=m/\(zd4 T a).all (zv4 T)=true:=by
 unfold jk6 at h;split at h
 ·rename_i i hi;simp only [X3] at h;exact ⟨i,hi,h.1,X1 h.2.1,Y1 h.2.2.1,h.2.2.2⟩
 ·cases h
def qa9 {t:TypeId} {o0 m:Nat} {a:AV T.U} (h:jk6 T P t o0 m a=true) {v:Value} (hv:VR T w S φ a v) {c:Array Value} {p:Nat} (hm:p+m<=c.size):stv P t c (p+o0) v=some (zz4 c (p+o0) v.cells.toList):=by
 obtain ⟨i,hi,h1,h2,h3,h4⟩:=ya4 h;have hc:=zi9 h1 hv;have hl:=hc.len T;have ho:=ym6 h4 hc;unfold stv;rw [hi];simp only;rw [show (Nat.beq v.cells.size i.size&&(Nat.ble (p+o0+i.size) c.size&&v.cells.toList.all Value.oneCell'))=true from ?_];simp only [X3];refine ⟨?_,W5 (by omega),ho⟩;have:v.cells.size=i.size:=by rw [<-h2,hl];simp
 rw [this];exact J7 _
def yx2: ∀ {aS cs:List (AV T.U)} {o0:Nat},∀i∈j8 (yg8 T cs o0 aS),i∈j8 cs\/i∈j8 aS
 | [],cs,o0,i,h=>.inl h
 |a::r,cs,o0,i,h=>by
  rw [yg8] at h;rcases yx2 i h with h|h
  ·obtain ⟨b,hb,hi⟩:=zq0 h;rcases M0 hb with hb|hb
   ·exact .inl (zi4 hb i hi)
   ·subst hb;exact .inr (by rw [j8];exact X4.2 (.inl hi))
  ·exact .inr (by rw [j8];exact X4.2 (.inr h))
def zi7 {α:Type} (cs:List α) (o:Nat):List α->List α
 | []=>cs
 |a::r=>zi7 (cs.set o a) (o+1) r
def jv9: ∀(l cs:List (Cell T.U)) (o0:Nat),vy5 T cs o0 l=zi7 cs o0 l
 | [],_,_=>rfl
 |a::r,cs,o0=>by rw [vy5,zi7,jv9 r]
def ya9: ∀(l:List Value) (c:Array Value) (o0:Nat),(zz4 c o0 l).toList=zi7 c.toList o0 l
 | [],_,_=>rfl
 |v::r,c,o0=>by rw [zz4,zi7,ya9 r,S8]
def qg8 {α:Type}: ∀(l cs:List α) (o0:Nat),(zi7 cs o0 l).length=cs.length
 | [],_,_=>rfl
 |a::r,cs,o0=>by rw [zi7,qg8 r,Q1]
def yk8 {α:Type}: ∀(l cs:List α) (o0 m:Nat),(zi7 cs o0 l).take m=zi7 (cs.take m) o0 l
 | [],_,_,_=>rfl
 |a::r,cs,o0,m=>by rw [zi7,zi7,yk8 r,List.take_set]
def yi4 {α:Type}: ∀(l pre mid post:List α) (o0:Nat),o0+l.length<=mid.length->zi7 (pre++mid++post) (pre.length+o0) l=pre++zi7 mid o0 l++post
 | [],_,_,_,_,_=>rfl
 |a::r,pre,mid,post,o0,h=>by
  simp only [U5] at h;rw [zi7,zi7,Q2,List.set_append_right _ _ (by omega),N1,List.set_append_left _ _ (by omega),<-List.append_assoc,V1];exact yi4 r pre _ post (o0+1) (by rw [Q1];omega)
def flatMap_split {α β:Type} {f:α->List β} {sz:Nat} (hf: ∀y,(f y).length=sz) {l:List α} {j:Nat} {x:α} (hj:l[j]?=some x):
  l.flatMap f=(l.take j).flatMap f++f x++(l.drop (j+1)).flatMap f/\((l.take j).flatMap f).length=j*sz:=by
 have hlt:=(X2.1 hj).1;have hx:=(X2.1 hj).2;constructor
 ·conv=>lhs;rw [<-List.take_append_drop j l,M5 hlt,hx]
  rw [J2,V5,Q2]
 ·rw [flatMap_lenT hf,Y6,V7 (by omega)]
where
 flatMap_lenT {α β:Type} {f:α->List β} {sz:Nat} (hf: ∀y,(f y).length=sz): ∀ {l:List α},(l.flatMap f).length=l.length*sz:=by
  intro l;induction l with
  |nil=>simp
  |cons a r ih=>rw [V5,X9,hf,ih,U5,V9,J6]
def yh3 {α β:Type} {f:α->List β} {sz:Nat} (hf: ∀y,(f y).length=sz) {xs:List α} {j c:Nat} {x y:α} {l:List β} (hj:xs[j]?=some x) (hy:f y=zi7 (f x) c l) (hc:c+l.length<=sz):(xs.set j y).flatMap f=zi7 (xs.flatMap f) (j*sz+c) l:=by
 have hlt:=(X2.1 hj).1;obtain ⟨h1,h2⟩:=flatMap_split hf hj;have hj2:(xs.set j y)[j]?=some y:=Q0 hlt;obtain ⟨h3,h4⟩:=flatMap_split hf hj2;rw [h1,h3,<-h2,yi4 _ _ _ _ _ (by rw [hf];exact hc),hy];rw [List.take_set_of_le (W8 _),List.drop_set_of_lt (by omega)]
def CellsR.set {cs:List (Cell T.U)} {vs:List Value} (h:CellsR T w S cs vs) (j:Nat) {c:Cell T.U} {v:Value} (hc:yj1 T w S c v):CellsR T w S (cs.set j c) (vs.set j v):=by
 refine ⟨by rw [Q1,Q1,h.1],fun i c' v' h1 h2=>?_⟩;by_cases hij:j=i
 ·subst hij;have l1:=(X2.1 h1).1;have l2:=(X2.1 h2).1;rw [Q1] at l1 l2;rw [Q0 l1] at h1;rw [Q0 l2] at h2;simp only [X0] at h1 h2;subst h1;subst h2;exact hc
 ·rw [Z5 hij] at h1 h2;exact h.2 i c' v' h1 h2
def CellsR.put: ∀ {l:List (Cell T.U)} {vl:List Value} {cs:List (Cell T.U)} {vs:List Value} {p:Nat},CellsR T w S l vl->CellsR T w S cs vs->CellsR T w S (zi7 cs p l) (zi7 vs p vl)
 | [],[],_,_,_,_,h=>h
 | [],_::_,_,_,_,h,_=>by have:=h.1;simp at this
 |_::_,[],_,_,_,h,_=>by have:=h.1;simp at this
 |c::r,v::s,cs,vs,p,h,h'=>by
  rw [zi7,zi7];exact CellsR.put (l:=r) (vl:=s) ⟨by have:=h.1;simpa using this,fun j c' v' h1 h2=>h.2 (j+1) c' v' (by simpa using h1) (by simpa using h2)⟩ (h'.set p (h.2 0 c v rfl rfl))
def zr5: ∀ {aS:List (AV T.U)} {l:List (Cell T.U)} {vs:List Value},cellsOf T aS=some l->VRL T w S φ aS vs->CellsR T w S l vs
 | [],l,vs,h,hv=>by
  simp only [cellsOf,X0] at h;subst h;cases vs with
  |nil=>exact ⟨rfl,fun j c v h=>by simp at h⟩
  |cons _ _=>exact hv.elim
 |a::r,l,vs,h,hv=>by
  unfold cellsOf at h;split at h
  ·rename_i c l' hc hl;simp only [X0] at h;subst h;cases vs with
   |nil=>exact hv.elim
   |cons v s=>
    have ih:=zr5 hl hv.2;have hcv:yj1 T w S c v:=by
     cases a with
     |cell c'=>simp only [jy2,X0] at hc;subst hc;exact hv.1
     |_=>cases hc
    refine ⟨by simp [ih.1],fun j c' v' h1 h2=>?_⟩;cases j with
    |zero=>simp at h1 h2;subst h1;subst h2;exact hcv
    |succ j=>exact ih.2 j c' v' (by simpa using h1) (by simpa using h2)
  ·cases h
def jm1 {t:TypeId} {x y:Operand} (hd:dec ops k n F'=some o) (hop:o.op=.store t x y) (hdst:o.dst=none) {i sz j c:Nat} {e:TypeId} {ty:Ty} {xs:List (den T.U ty)} {a:AV T.U} (hx:aev T F x=some (.eptr i sz j c)) (hy:aev T F y=some a) (hi:H[i]?=some (.row e ty xs))
  (hf:jk6 T P t c (szT T ty) a=true) {l:List (Cell T.U)} (hl:cellsOf T (zd4 T a)=some l) {y':den T.U ty} (hy':yn3 T ty (vy5 T (za3 T ty (xs.getD j (zy1 T ty))) c l)=some y')
  (h:Sim T w0 S0 ⟨F,H⟩ F' w S φ) (K:zp5 P ops Q (k+1) n ds w0 S0 (⟨F,H.set i (.row e ty (xs.set j y'))⟩:St T)):WR P ops Q k n ds F' w:=by
 obtain ⟨X,h1,g,h2,rfl⟩:=z8 h.fr hx;obtain ⟨v,h3,h4⟩:=z8 h.fr hy;obtain ⟨hj,hsz⟩:=(zb5 h hx).2 e ty xs hi;subst hsz;obtain ⟨g',carr,B,vals,a1,a2,a3,a4,a5,a6,a7,a8,a9,a10,a11,a12⟩:=jb4 h hi (by omega);rw [h2] at a1;simp only [X0,Addr.mk.injEq,and_true] at a1;subst a1;obtain ⟨ii,hii,f1,f2,f3,f4⟩:=ya4 hf;have hds:=yh2 hd hop hdst;rw [j6 h1,j6 h3] at hds;have hle:j*szT T ty+szT T ty<=xs.length*szT T ty:=by rw [<-Nat.succ_mul];exact Q9 _ hj
 have hle2:xs.length*szT T ty<=carr.size:=W9 (Q9 _ a11) a5;have hst:=qa9 hf h4 (c:=carr) (p:=0+j*szT T ty) (by omega);rw [V1] at hst;have hcr:=zr5 hl (zi9 f1 h4);refine WR.store a4 hds _ hst fun w' hb' hc=>K _ _ ⟨S,φ,h.upd hi rfl hc ?_ ⟨B,(zz4 carr (0+(j*szT T ty+c)) v.cells.toList).toList.take (xs.length*szT T ty),?_,by rw [Q1];exact a2,W9 a10 hc.size,?_,?_⟩ ?_ ?_⟩
 ·intro b hb;simp at hb;subst hb;exact ⟨_,.inl h2,rfl⟩
 ·rw [h2,a2];exact Own.ofBlk hb' a9 a11 (by have:=a12;unfold maxLen at this;omega) (by rw [yk9];exact a5) _ rfl
 ·have hlen:c+l.length<=szT T ty:=by
   have:=hcr.1;have hv:=(zi9 f1 h4).len T;rw [this,<-hv,f2];exact f3
  have hfm:=yh3 (v8 T ty) (zm0 (zy1 T ty) hj) (l:=l) (y:=y') (c:=c) (by rw [zm8 T hy',jv9]) hlen;rw [hfm,ya9,yk8,U0,a6];exact (CellsR.put hcr a7).chg T hc (by intro b hb;simp at hb;subst hb;exact a8) (fun b hb=>.inl hb)
 ·intro a ha;rw [h2] at ha;simp only [X0] at ha;subst ha;exact a8
 ·intro q hq;cases hq
 ·intro e1 t1 zs he;simp only [Ent.row.injEq] at he;obtain ⟨rfl,rfl,hh⟩:=he;have:=eq_of_heq hh;subst this;exact ⟨e,xs,rfl,by rw [Q1];exact W8 _⟩
def jq9 {α:Type}: ∀(us l:List α) (x:α) (o:Nat),zi7 (x::l) (o+1) us=x::zi7 l o us
 | [],_,_,_=>rfl
 |u::r,l,x,o=>by rw [zi7,zi7,List.set_cons_succ,jq9 r (l.set o u) x (o+1)]
def ys7 {α:Type}: ∀(us l:List α),us.length<=l.length->zi7 l 0 us=us++l.drop us.length
 | [],l,_=>rfl
 |u::r,[],h=>by simp at h
 |u::r,x::l,h=>by
  rw [zi7,List.set_cons_zero,jq9,ys7 r l (by simpa using h)];rfl
def vs5 {α:Type} (us pre l:List α) (o:Nat) (h:o+us.length<=l.length):zi7 (pre++l) (pre.length+o) us=pre++zi7 l o us:=by
 have:=yi4 us pre l [] o h;simpa using this
def VRL.putOnes: ∀ {aS l l':List (AV T.U)} {B us:List Value},Go.X.putOnes T l aS=some l'->BR T w S φ l B->VRL T w S φ aS us->BR T w S φ l' (us++B.drop us.length)/\us.length<=B.length/\ ∀i∈j8 l',i∈j8 l\/i∈j8 aS
 | [],l,l',B,us,h,h1,h2=>by
  simp only [Go.X.putOnes,X0] at h;subst h;cases us with
  |nil=>exact ⟨h1,U4 _,fun i hi=>.inl hi⟩
  |cons _ _=>exact h2.elim
 |b::aS,[],l',B,us,h,h1,h2=>by cases h
 |b::aS,a::l,l',B,us,h,h1,h2=>by
  unfold Go.X.putOnes at h;split at h
  ·rename_i hn;rw [X3] at hn;split at h
   ·rename_i s hs;simp only [X0] at h;subst h;obtain ⟨g1,g2⟩:=h1;rw [zg3,zp1 T hn.1] at g1
    match B,us,g1,h2 with
    |v::B,u::us,g1,h2=>
     obtain ⟨q1,q2,q3⟩:=VRL.putOnes hs ⟨g1.2,g2.2⟩ h2.2;refine ⟨⟨?_,ya6 T hn.2,q1.2⟩,by simpa using q2,fun i hi=>?_⟩
     ·rw [zg3,zp1 T hn.2];exact ⟨h2.1,q1.1⟩
     ·rw [j8] at hi;rcases X4.1 hi with hi|hi
      ·exact .inr (by rw [j8];exact X4.2 (.inl hi))
      ·rcases q3 i hi with hi|hi
       ·exact .inl (by rw [j8];exact X4.2 (.inr hi))
       ·exact .inr (by rw [j8];exact X4.2 (.inr hi))
    | [],_,g1,_=>exact g1.elim
    |_::_,[],_,h2=>exact h2.elim
   ·cases h
  ·cases h
def BR.turn {f:List (AV T.U)->Option (List (AV T.U))} {cs cs':List (AV T.U)} {o d:Nat} {vs us:List Value} {ex:List Nat} (h:yt5 T f cs o=some cs') (hb:BR T w S φ cs vs)
  (hf: ∀(l l':List (AV T.U)) (B:List Value),f l=some l'->BR T w S φ l B->BR T w S φ l' (zi7 B d us)/\d+us.length<=B.length/\ ∀i∈j8 l',i∈j8 l\/i∈ex):
  BR T w S φ cs' (zi7 vs (o+d) us)/\o+d+us.length<=vs.length/\ ∀i∈j8 cs',i∈j8 cs\/i∈ex:=by
 obtain ⟨pre,l,l',h1,h2,h3,h4⟩:=jh1 h hb.2;obtain ⟨h5,h6⟩:=BR.at hb h1 h4;obtain ⟨g1,g2,g3⟩:=hf l l' _ h3 h5;have hlv:o<=vs.length:=by omega
 have htl:(vs.take o).length=o:=by rw [Y6];omega
 have hdl:(vs.drop o).length=vs.length-o:=Q7 ..;have e:zi7 vs (o+d) us=vs.take o++zi7 (vs.drop o) d us:=by
  have:=vs5 us (vs.take o) (vs.drop o) d g2;rw [Q8,htl] at this;exact this
 have hp:VRL T w S φ (zg3 T pre) (vs.take o):=by
  have:=hb.1.take T o;rwa [h1,yb8,Z7 (by omega),Q4 (by omega)] at this
 have hlp:zw6 T pre:=by have:=hb.2;rw [h1,yw9] at this;exact this.1
 refine ⟨⟨?_,?_⟩,by omega,fun i hi=>?_⟩
 ·rw [h2,yb8,e];exact VRL.app T hp g1.1
 ·rw [h2,yw9];exact ⟨hlp,g1.2⟩
 ·rw [h2,yi0] at hi;rw [h1,yi0];rcases X4.1 hi with hi|hi
  ·exact .inl (X4.2 (.inl hi))
  ·exact (g3 i hi).imp (fun h=>X4.2 (.inr h)) id
def jf7 {t:Ty} {n:Nat} {xs:List (den T.U t)} {l l':List (AV T.U)} {B us:List Value} (h:jz9 T t n xs l=some l') (hb:BR T w S φ l B) (hl:xs.length=n) (hc:CellsR T w S (xs.flatMap (za3 T t)) us):
  BR T w S φ l' (zi7 B 0 us)/\0+us.length<=B.length/\ ∀i∈j8 l',i∈j8 l\/i∈([]:List Nat):=by
 unfold jz9 at h;split at h
 ·rename_i a r;split at h
  ·rename_i t' n' ys ha;have:=zs6 ha;subst this;split at h
   ·rename_i hn;rw [X3] at hn;obtain ⟨h1,h2⟩:=hn;have h1:=X1 h1;have h2:=X1 h2;simp only [X0] at h;subst h;have hus:us.length=n*szT T t:=by rw [<-hc.1,flatMap_lenT (v8 T t),hl]
    have he:(jc9 T (.arr t' n' ys)).length=us.length:=by rw [yb7 T hb.2.1,hus,wd,h1,h2]
    have hBl:=hb.1.len T;rw [zg3,X9,he] at hBl;rw [ys7 us B (by omega)];refine ⟨⟨?_,hl,hb.2.2⟩,by omega,fun i hi=>.inl hi⟩;rw [zg3];refine VRL.app T (VRL.cells.2 hc) ?_;have:=hb.1.drop T us.length;rwa [zg3,List.drop_append_of_le_length (by omega),R8 (by omega)] at this
   ·cases h
  ·cases h
 ·cases h
def qc6 {n sz k c:Nat} {l:List (Cell T.U)} {l1 l2:List (AV T.U)} {B us:List Value} (h:jw0 T n sz k c l l1=some l2) (hb:BR T w S φ l1 B) (hk:k<n) (hc:CellsR T w S l us):
  BR T w S φ l2 (zi7 B (k*sz+c) us)/\k*sz+c+us.length<=B.length/\ ∀i∈j8 l2,i∈j8 l1\/i∈([]:List Nat):=by
 unfold jw0 at h;split at h
 ·rename_i a r;split at h
  ·rename_i ty n' xs ha;have:=zs6 ha;subst this;split at h
   ·rename_i hn;rw [X3,X3] at hn;obtain ⟨h1,h2,h3⟩:=hn;have h1:=X1 h1;have h2:=X1 h2;have h3:=Y1 h3;subst h1;subst h2;split at h
    ·rename_i y hy;simp only [X0] at h;subst h;have hxl:xs.length=n':=hb.2.1;have he:(jc9 T (.arr ty n' xs)).length=n'*szT T ty:=by rw [yb7 T hb.2.1];rfl
     have hBl:=hb.1.len T;rw [zg3,X9,he] at hBl;have hle:k*szT T ty+szT T ty<=n'*szT T ty:=by rw [<-Nat.succ_mul];exact Q9 _ hk
     have hul:=hc.1;have h4:CellsR T w S (xs.flatMap (za3 T ty)) (B.take (n'*szT T ty)):=by
      have:=hb.1.take T (n'*szT T ty);rw [zg3,Z7 (by omega),Q4 (by omega)] at this;exact VRL.cells.1 this
     have h5:=CellsR.put (p:=k*szT T ty+c) hc h4;have hfm:=yh3 (v8 T ty) (zm0 (zy1 T ty) (show k<xs.length by omega)) (l:=l) (y:=y) (c:=c) (by rw [zm8 T hy,jv9]) h3;rw [<-hfm] at h5;have htl:(B.take (n'*szT T ty)).length=n'*szT T ty:=by rw [Y6];omega
     have e:zi7 B (k*szT T ty+c) us=zi7 (B.take (n'*szT T ty)) (k*szT T ty+c) us++B.drop (n'*szT T ty):=by
      have:=yi4 us [] (B.take (n'*szT T ty)) (B.drop (n'*szT T ty)) (k*szT T ty+c) (by omega);simpa using this
     refine ⟨⟨?_,by show (xs.set k y).length=n';rw [Q1];exact hxl,hb.2.2⟩,by omega,fun i hi=>.inl hi⟩;rw [zg3,e];refine VRL.app T (VRL.cells.2 h5) ?_;have:=hb.1.drop T (n'*szT T ty);rwa [zg3,List.drop_append_of_le_length (by omega),R8 (by omega)] at this
    ·cases h
   ·cases h
  ·cases h
 ·cases h
def CellsR.app {cs ds:List (Cell T.U)} {vs us:List Value} (h:CellsR T w S cs vs) (h':CellsR T w S ds us):CellsR T w S (cs++ds) (vs++us):=by
 refine ⟨by simp [h.1,h'.1],fun j c v h1 h2=>?_⟩;rcases V0 j cs.length with hj|hj
 ·rw [X8 hj] at h1;rw [X8 (by rw [<-h.1];exact hj)] at h2;exact h.2 j c v h1 h2
 ·rw [Z2 hj] at h1;rw [Z2 (by rw [<-h.1];exact hj),<-h.1] at h2;exact h'.2 _ c v h1 h2
def yb2 {ty:Ty}: ∀ {m:Nat} {cs:List (AV T.U)} {xs:List (den T.U ty)} {vs:List Value},jg7 T ty m cs=some xs->VRL T w S φ cs vs->xs.length=m/\CellsR T w S (xs.flatMap (za3 T ty)) vs
 |0,[],xs,vs,h,hv=>by
  simp only [jg7,X0] at h;subst h;cases vs with
  |nil=>exact ⟨rfl,rfl,fun j c v h=>by simp at h⟩
  |cons _ _=>exact hv.elim
 |0,_::_,_,_,h,_=>by cases h
 |m+1,cs,xs,vs,h,hv=>by
  unfold jg7 at h;split at h
  ·rename_i l hl;split at h
   ·rename_i x rr hx hr;simp only [X0] at h;subst h;have h1:=zr5 hl (hv.take T (szT T ty));obtain ⟨h2,h3⟩:=yb2 hr (hv.drop T (szT T ty));refine ⟨by rw [U5,h2],?_⟩;rw [V5,zm8 T hx,<-List.take_append_drop (szT T ty) vs];exact h1.app h3
   ·cases h
  ·cases h
def qp8 {bs:List (AV T.U)} {l l':List (AV T.U)} {B us:List Value} (h:qt4 T bs l=some l') (hb:BR T w S φ l B) (hc:VRL T w S φ bs us):
  BR T w S φ l' (zi7 B 0 us)/\0+us.length<=B.length/\ ∀i∈j8 l',i∈j8 l\/i∈([]:List Nat):=by
 unfold qt4 at h;split at h
 ·split at h
  ·split at h
   ·rename_i xs hxs;obtain ⟨h1,h2⟩:=yb2 hxs hc;exact jf7 h hb h1 h2
   ·cases h
  ·cases h
 ·cases h
def qr4 {t:TypeId} {cs cs':List (AV T.U)} {o:Nat} {a:AV T.U} (h:storeB T P t cs o a=some cs') {vs:List Value} (hb:BR T w S φ cs vs) {v:Value} (hv:VR T w S φ a v):
  BR T w S φ cs' (zi7 vs o v.cells.toList)/\(∀i∈j8 cs',i∈j8 cs\/i∈a.ids)/\ ∀c:Array Value,c.size=vs.length->stv P t c o v=some (zz4 c o v.cells.toList):=by
 unfold storeB at h;split at h
 ·rename_i ty n xs ha;have:=zs6 ha;subst this;obtain ⟨us,rfl,hl,hc⟩:=hv;split at h
  ·rename_i i hi;split at h
   ·rename_i hn;have hn:=X1 hn;obtain ⟨g1,g2,g3⟩:=BR.turn (d:=0) (us:=us.toList) (ex:= []) h hb fun l l' B hf hB=>jf7 hf hB hl hc;have hus:us.size=i.size:=by have:=hc.1;rw [flatMap_lenT (v8 T ty),hl] at this;simp at this;omega
    refine ⟨g1,fun i hi=>(g3 i hi).imp id (fun h=>absurd h (by simp)),fun c hcs=>?_⟩;unfold stv;rw [hi];simp only;rw [show (Nat.beq (Value.agg us).cells.size i.size&&(Nat.ble (o+i.size) c.size&&(Value.agg us).cells.toList.all Value.oneCell'))=true from ?_];simp only [X3];refine ⟨?_,W5 (by simp at g2;omega),?_⟩
    ·show Nat.beq us.size i.size=true;rw [hus];exact J7 _
    ·show us.toList.all Value.oneCell'=true;rw [Y8];intro u hu;obtain ⟨j,hj⟩:=Y9.1 hu;have hjl:=(X2.1 hj).1;obtain ⟨cc,hx⟩: ∃cc,(xs.flatMap (za3 T ty))[j]?=some cc:=⟨_,Y0 (by rw [hc.1];exact hjl)⟩;have hcr:=hc.2 j cc u hx hj;obtain ⟨ct,cx⟩:=cc;have hcr:CR T w S ct cx u:=hcr;cases hcr<;>rfl
   ·cases h
  ·cases h
 ·split at h
  ·rename_i ha hf;obtain ⟨ii,hii,f1,f2,f3,f4⟩:=ya4 hf;have hcr:=zi9 f1 hv;have hbl:=hb.1.len T;obtain ⟨g1,g2,g3⟩:=BR.turn (d:=0) (us:=v.cells.toList) (ex:=j8 (zd4 T a)) h hb fun l l' B hf hB=>by
    unfold kg7 at hf;split at hf
    ·rename_i r hr;simp only [X0] at hf;subst hf;obtain ⟨q1,q2,q3⟩:=VRL.putOnes hr hB hcr;exact ⟨by rw [ys7 _ _ q2];exact q1,by omega,q3⟩
    ·obtain ⟨q1,q2,q3⟩:=qp8 hf hB hcr;exact ⟨q1,q2,fun i hi=>(q3 i hi).imp id fun h=>by cases h⟩
   refine ⟨g1,fun i hi=>(g3 i hi).imp id fun h=>by rw [ye1 f1] at h;exact h,fun c hcs=>?_⟩;have hcl:=hcr.len T;have:=qa9 hf hv (c:=c) (p:=o) (by rw [hcl];omega);exact this
  ·cases h
def yq2 {t:TypeId} {x y:Operand} (hd:dec ops k n F'=some o) (hop:o.op=.store t x y) (hdst:o.dst=none) {i g p:Nat} {e:TypeId} {cs cs':List (AV T.U)} {a:AV T.U} (h1:ev F' x=some (.pointer (some ⟨g,p,none⟩))) (h2:(φ i).ad=some ⟨g,0,none⟩) (hy:aev T F y=some a) (hi:H[i]?=some (.blk e cs))
  (hst: ∀(vs:List Value) (v:Value),BR T w S φ cs vs->VR T w S φ a v->BR T w S φ cs' (zi7 vs p v.cells.toList)/\(∀j∈j8 cs',j∈j8 cs\/j∈a.ids)/\ ∀c:Array Value,c.size=vs.length->stv P t c p v=some (zz4 c p v.cells.toList))
  (h:Sim T w0 S0 ⟨F,H⟩ F' w S φ) (K:zp5 P ops Q (k+1) n ds w0 S0 (⟨F,H.set i (.blk e cs')⟩:St T)):WR P ops Q k n ds F' w:=by
 obtain ⟨v,h3,h4⟩:=z8 h.fr hy;obtain ⟨g',c,h5,hb,h7,h8⟩:=h.ents i _ hi;rw [h2] at h5;simp only [X0,Addr.mk.injEq,and_true] at h5;subst h5;have hok:=zb5 h hy;have hds:=yh2 hd hop hdst;rw [j6 h1,j6 h3] at hds;obtain ⟨q1,q2,q3⟩:=hst _ v h8 h4;refine WR.store hb hds _ (q3 c (by simp)) fun w' hb' hc=>K _ _ ⟨S,φ,h.upd hi rfl hc ?_ ⟨g,_,h2,hb',h7,?_⟩ ?_ ?_⟩
 ·intro b hb;simp at hb;subst hb;exact ⟨_,.inl h2,rfl⟩
 ·rw [ya9];exact q1.chg T hc (by intro b hb;simp at hb;subst hb;exact h7) (fun b hb=>.inl hb)
 ·intro q hq;rw [Ent.cellIds] at hq;rcases q2 q hq with hq|hq
  ·exact h.eids _ _ hi q hq
  ·exact hok.1 q hq
 ·intro e1 t1 xs he;cases he
def CR.oneCell {t:Ty} {x:den T.U t} {v:Value} (h:CR T w S t x v):v.oneCell'=true:=by cases h<;>rfl
def CellsR.one {cs:List (Cell T.U)} {vs:List Value} (h:CellsR T w S cs vs): ∀u∈vs,u.oneCell'=true:=by
 intro u hu;obtain ⟨j,hj⟩:=Y9.1 hu;have hl:=(X2.1 hj).1;have:=h.2 j (cs[j]'(by rw [h.1];exact hl)) u (Y0 _) hj;exact CR.oneCell this
def u9 {α β:Type} {f:α->List β} {sz:Nat} (hf: ∀y,(f y).length=sz) (l:List α):(l.flatMap f).length=l.length*sz:=flatMap_split.flatMap_lenT hf
def ji5 {e:Ty} {xs:List (den T.U e)} {ad:Option Addr} {n cap:Nat} (h:CR T w S (.list e) xs (.slice ad n cap)):n=xs.length/\(ad=none->n=0/\cap=0)/\ ∃vals,Rg w ad vals/\CellsR T w S (xs.flatMap (za3 T e)) vals:=by
 generalize hv:Value.slice ad n cap=v at h;cases h with
 |list _ _ ad' cap' u hcap hnil had hcell hrel=>
  simp only [Value.slice.injEq] at hv;obtain ⟨rfl,rfl,rfl⟩:=hv;refine ⟨rfl,hnil,?_⟩;by_cases hx:xs= []
  ·subst hx;exact ⟨[],Rg.nil _ _,rfl,fun j c v h=>by simp at h⟩
  obtain ⟨ha,_,_⟩:=had hx;have key: ∀(l:List (den T.U e)) (s:Nat),(∀k x,l[k]?=some x->xs[s+k]?=some x)->
    ∃vals:List Value,CellsR T w S (l.flatMap (za3 T e)) vals/\ ∀j v,vals[j]?=some v->w.cell? ⟨bk ad,of ad+(s*szT T e+j),none⟩=some v:=by
   intro l;induction l with
   |nil=>intro s _;exact ⟨[],⟨rfl,fun j c v h=>by simp at h⟩,fun j v h=>by simp at h⟩
   |cons x r ih=>
    intro s hs;obtain ⟨vals,h1,h2⟩:=ih (s+1) (fun k y hk=>by rw [show s+1+k=s+(k+1) by omega];exact hs (k+1) y (by simpa using hk));have h0:xs[s]?=some x:=by simpa using hs 0 x rfl
    have hlen:((List.range (szT T e)).map (u s)).length=szT T e:=by simp
    refine ⟨(List.range (szT T e)).map (u s)++vals,?_,?_⟩
    ·rw [V5];refine CellsR.app ⟨by rw [v8,hlen],fun j c v hc hv=>?_⟩ h1;have hj:j<szT T e:=by have:=(X2.1 hv).1;rw [hlen] at this;exact this
     rw [W4,List.getElem?_range hj] at hv;simp only [Z8,X0] at hv;subst hv;exact hrel s j c (by rw [h0];exact congrArg some hc)
    ·intro j v hv;rcases V0 j (szT T e) with hj|hj
     ·rw [X8 (by rw [hlen];exact hj),W4,List.getElem?_range hj] at hv;simp only [Z8,X0] at hv;subst hv;have hc:(za3 T e x)[j]?=some ((za3 T e x)[j]'(by rw [v8];exact hj)):=Y0 _;exact hcell s j _ (by rw [h0];exact congrArg some hc)
     ·rw [Z2 (by rw [hlen];exact hj),hlen] at hv;have:=h2 _ v hv;rwa [show (s+1)*szT T e+(j-szT T e)=s*szT T e+j by rw [V9];omega] at this
  obtain ⟨vals,h1,h2⟩:=key xs 0 (fun k x hk=>by rw [U0];exact hk);refine ⟨vals,fun j v hv=>⟨ha,?_⟩,h1⟩;have:=h2 j v hv;rwa [M1,U0] at this
def kd5 {t:Ty} {c:Cell T.U} {xs:List (den T.U t)} (h:c.aS (.list t)=some xs):c=⟨.list t,xs⟩:=Cell.as_eq h
def vh7 {ty:Ty} {a:AV T.U} {xs:List (den T.U ty)} (ha:appA.rowIn T ty H a=some xs) (h:Sim T w0 S0 ⟨F,H⟩ F' w S φ) {v:Value} (hv:VR T w S φ a v):
  ∃ad cap vals,v=.slice ad xs.length cap/\(ad=none->xs.length=0/\cap=0)/\Rg w ad vals/\CellsR T w S (xs.flatMap (za3 T ty)) vals:=by
 unfold appA.rowIn at ha;split at ha
 ·rename_i c;split at ha
  ·rename_i ys hc;have ha:ys=xs:=X5 ha;subst ha;have:=kd5 hc;subst this;have hv:CR T w S (.list ty) ys v:=hv;have hv':=hv;cases hv' with
   |list _ _ ad cap u hcap hnil had hcell hrel=>
    obtain ⟨_,h2,vals,h3,h4⟩:=ji5 hv;exact ⟨ad,cap,vals,rfl,h2,h3,h4⟩
  ·cases ha
 ·rename_i i;split at ha
  ·rename_i e ty' ys hi;split at ha
   ·rename_i ht;subst ht;simp only [X0] at ha;subst ha;obtain ⟨B,vals,h1,h2,_,h4,_⟩:=h.ents i _ hi;rw [VR] at hv;subst hv;rw [h2] at h1⊢;exact ⟨_,_,vals,rfl,h1.nil0,h1.rg,h4⟩
   ·cases ha
  ·cases ha
 ·simp only [X0] at ha;subst ha;rw [VR] at hv;subst hv;exact ⟨none,0,[],rfl,fun _=>⟨rfl,rfl⟩,Rg.nil _ _,rfl,fun j c v h=>by simp at h⟩
 ·cases ha
def yp8 {α β:Type} {f:α->List β} {sz:Nat} (hf: ∀y,(f y).length=sz) (xs:List α) (o n:Nat):((xs.drop o).take n).flatMap f=((xs.flatMap f).drop (o*sz)).take (n*sz):=by
 have key: ∀(l:List α) (k:Nat),(l.take k).flatMap f=(l.flatMap f).take (k*sz)/\(l.drop k).flatMap f=(l.flatMap f).drop (k*sz):=by
  intro l;induction l with
  |nil=>intro k;simp
  |cons a r ih=>
   intro k;cases k with
   |zero=>simp
   |succ k=>
    obtain ⟨i1,i2⟩:=ih k;have e:(k+1)*sz=(f a).length+k*sz:=by rw [hf,V9,J6]
    refine ⟨?_,?_⟩
    ·rw [List.take_succ_cons,V5,V5,i1,e,List.take_append,Q4 (Nat.le_add_right _ _),N1]
    ·rw [List.drop_succ_cons,V5,i2,e,List.drop_append];simp
 rw [(key _ n).1,(key _ o).2]
def vu4 {R:Type} {r:R} {ty:Ty} {a:AV T.U} {K:List (den T.U ty)->Option R} (ha:appA.rowX T ty H a K=some r) (h:Sim T w0 S0 ⟨F,H⟩ F' w S φ) {v:Value} (hv:VR T w S φ a v):
  ∃xs,K xs=some r/\ ∃ad cap vals,v=.slice ad xs.length cap/\(ad=none->xs.length=0/\cap=0)/\Rg w ad vals/\CellsR T w S (xs.flatMap (za3 T ty)) vals:=by
 unfold appA.rowX at ha;split at ha
 ·rename_i ys hy;exact ⟨ys,ha,vh7 hy h hv⟩
 ·rename_i hy;clear hy;split at ha<;>try (cases ha;done)
  rename_i i sz o n;split at ha<;>try (cases ha;done)
  rename_i e ty' xs hi;split at ha<;>try (cases ha;done)
  rename_i hsz;have:=X1 hsz;subst this;split at ha<;>try (cases ha;done)
  rename_i ht;subst ht;split at ha<;>try (cases ha;done)
  rename_i hle;refine ⟨_,ha,?_⟩;obtain ⟨B,vals,h1,h2,_,h4,_⟩:=h.ents i _ hi;obtain ⟨ad,rfl,hcap,hn,hnil,_⟩:=hv;have hlen:(List.take n (List.drop o xs)).length=n:=by rw [Y6,Q7];omega
  refine ⟨ad,(φ i).cap-o,(vals.drop (o*szT T ty')).take (n*szT T ty'),?_,?_,?_,?_,?_⟩
  ·show Value.slice ad n _=Value.slice ad (List.take n (List.drop o xs)).length _;rw [hlen]
  ·intro hn';show (List.take n (List.drop o xs)).length=0/\_;rw [hlen];exact hnil hn'
  ·intro j u hj;rcases hn with rfl|⟨g,hg1,hg2⟩
   ·simp at hj
   ·rw [Z3] at hj;split at hj<;>try (cases hj;done)
    rw [Q6] at hj;obtain ⟨_,q⟩:=h1.rg _ _ hj;subst hg2;rw [hg1] at q;refine ⟨rfl,?_⟩;simp only [bk,of,U0] at q⊢;exact q
  ·rw [yp8 (v8 T ty'),Y6,Q7,Y6,Q7,h4.1]
  ·intro j c v hc hv;rw [yp8 (v8 T ty'),Z3] at hc;rw [Z3] at hv;split at hc<;>try (cases hc;done)
   rename_i hj;rw [if_pos hj] at hv;rw [Q6] at hc hv;exact h4.2 _ _ _ hc hv
def jo5 {x y:Operand} {t:TypeId} {c:Call} (hd:dec ops k n F'=some o) (hop:o.op=.call c) (hc:c.callee=.builtin .append) (ha:c.args.toList= [x,y]) (hat:c.argTypes.toList= [t,t]):jb1 ops k n F'=some (o.dst,t,evD F' x,evD F' y):=by
 unfold jb1;rw [hd];cases o;cases c;simp only at hop hc ha hat;subst hop;subst hc;simp only [ha,hat,J7]
def vs1 {w:World} {B:Nat} {e:TypeId} {sz:Nat} {ad:Option Addr} {n cap:Nat} {cs:List Value} (h:Own w B e sz ad n cap cs) {m:Nat} (hm:m<=n):Own w B e sz ad m cap (cs.take (m*sz)):=by
 have hl:=h.len;have hmn:m*sz<=n*sz:=Q9 _ hm;rcases h.cases with ⟨rfl,rfl,rfl,rfl⟩|⟨c,had,hB,hb,hnc,hcm,hs,ht⟩
 ·have:m=0:=by omega
  subst this;rw [List.take_nil];exact h
 ·obtain ⟨g,rfl⟩: ∃g,ad=some ⟨g,0,none⟩:=⟨_,had⟩;refine ⟨by rw [Y6,hl];omega,.inr ⟨g,cap,c,rfl,hB,hb,by omega,hcm,hs,?_⟩⟩;rw [<-ht,List.take_take];congr 1;omega
def jo8 {t:Ty}: ∀(zs:List (den T.U t)) (n:Nat),(zs.take n).flatMap (za3 T t)=(zs.flatMap (za3 T t)).take (n*szT T t)
 | [],n=>by simp
 |z::r,0=>by simp
 |z::r,n+1=>by
  rw [List.take_succ_cons,V5,V5,List.take_append,v8,V9,Nat.add_sub_cancel,Q4 (l:=za3 T t z) (by rw [v8];omega),jo8 r n]
def CellsR.takeN {t:Ty} {zs:List (den T.U t)} {vals:List Value} (h:CellsR T w S (zs.flatMap (za3 T t)) vals) (n:Nat):CellsR T w S ((zs.take n).flatMap (za3 T t)) (vals.take (n*szT T t)):=by
 have e:=jo8 zs n;rw [e];refine ⟨by rw [Y6,Y6,h.1],fun j c v h1 h2=>?_⟩;rw [Z3] at h1 h2;split at h1
 ·rename_i hj;rw [if_pos hj] at h2;exact h.2 j c v h1 h2
 ·cases h1
def ki6 {R:Type} {r:R} {ty:Ty} {s:AV T.U} {K:List (den T.U ty)->Option R} (h:appA.rowB T ty H s K=some r): ∃xs,(appA.rowIn T ty H s=some xs\/ ∃i n e zs,s=.sl i (szT T ty) 0 n/\H[i]?=some (.row e ty zs)/\n<=zs.length/\xs=zs.take n)/\K xs=some r:=by
 unfold appA.rowB at h;split at h
 ·rename_i i sz o n;split at h
  ·rename_i e ty' zs hi;split at h
   ·rename_i hb;rw [X3] at hb;have h1:=X1 hb.1;have h2:=X1 hb.2;subst h1;subst h2;split at h
    ·rename_i ht;subst ht;split at h
     ·rename_i hn;exact ⟨_,.inr ⟨i,n,e,zs,rfl,hi,hn,rfl⟩,h⟩
     ·cases h
    ·cases h
   ·cases h
  ·cases h
 ·split at h
  ·rename_i xs hx;exact ⟨xs,.inl hx,h⟩
  ·cases h
def vc6 {R:Type} {r:R} {x y:Operand} {t:TypeId} {c:Call} (hd:dec ops k n F'=some o) (hop:o.op=.call c) (hc:c.callee=.builtin .append) (ha:c.args.toList= [x,y]) (hat:c.argTypes.toList= [t,t]) {ty:Ty} {s a:AV T.U} (hx:aev T F x=some s) (hy:aev T F y=some a)
  {K0:AV T.U->List (Ent T.U)->Option R} (hK0:appA T P ty t H s a K0=some r) (h:Sim T w0 S0 ⟨F,H⟩ F' w S φ) (K: ∀b H1,K0 b H1=some r->zp5 P ops Q (k+1) n ds w0 S0 (⟨za1 T F o.dst b,H1⟩:St T)):WR P ops Q k n ds F' w:=by
 obtain ⟨X,h1,h2⟩:=z8 h.fr hx;obtain ⟨Y,h3,h4⟩:=z8 h.fr hy;unfold appA at hK0;split at hK0
 ·rename_i et sz by_ zc he;split at hK0
  ·rename_i hb;simp only [X3] at hb;have hsz:=X1 hb.1;subst hsz;have hs1:=Y1 hb.2.1;have hby:=Y1 hb.2.2.1;have hek:=hb.2.2.2;obtain ⟨xs,hxs,hK0⟩:=ki6 hK0
   ·obtain ⟨ys,hK1,xd,xcap,news,rfl,hnil,hrg,hcr⟩:=vu4 hK0 h h4;obtain ⟨hle,hK⟩:=q7 hK1;clear hK0 hK1;have hda:=jo5 hd hop hc ha hat;rw [j6 h1,j6 h3] at hda;have hl:news.length=ys.length*szT T ty:=by rw [<-hcr.1,u9 (v8 T ty)]
    have hle':xs.length+ys.length<=140737488355328:=W9 (Nat.le_mul_of_pos_right _ hby) hle;have hown: ∃ad cap B cs,X=.slice ad xs.length cap/\Own w B et (szT T ty) ad xs.length cap cs/\B<=w.heap.size/\CellsR T w S (xs.flatMap (za3 T ty)) cs/\(∀b∈zb2 ad,b∈S)/\(∀b∈zb2 ad,b∈S0.chg\/w0.heap.size<=b)/\
      (∀(j:Nat) (e:Ent T.U),(appA.goneA T H s)[j]?=some e->e.live=true-> ∀q,At (φ j) q->q.block∉zb2 ad)/\Sim T w0 S0 ⟨F,appA.goneA T H s⟩ F' w S φ/\(appA.goneA T H s).length=H.length:=by
     rcases hxs with hxs|⟨i,n,e',zs,rfl,hi,hn,hxs⟩
     rotate_left
     ·obtain ⟨B,vals,q1,q2,q3,q4,q5⟩:=h.ents i _ hi;have hee:e'=et:=by
       unfold appA.eOk at hek;simp only [hi] at hek;exact X1 hek
      subst hee;obtain ⟨ad,rfl,p1,_,_,p5⟩:=h2;have p5:=p5 rfl;subst p5;have hlen:xs.length=n:=by rw [hxs,Y6];omega
      refine ⟨(φ i).ad,(φ i).cap,B,vals.take (n*szT T ty),by rw [hlen];rfl,by rw [hlen];exact vs1 q1 (by omega),q3,?_,?_,?_,?_,h.drop i,by simp [appA.goneA]⟩
      ·rw [hxs];exact q4.takeN n
      ·intro b hb;unfold zb2 at hb;split at hb
       ·rename_i a hq;simp at hb;subst hb;exact q5 a hq
       ·cases hb
      ·intro b hb;unfold zb2 at hb;split at hb
       ·rename_i a hq;simp at hb;subst hb;exact (h.lives i _ hi rfl a (.inl hq)).2
       ·cases hb
      ·intro j f hf hl q hq hm;have hji:j≠i:=by
        intro e;subst e;have hlt:j<H.length:=(X2.1 hi).1;rw [show appA.goneA T H (.sl j (szT T ty) 0 n)=H.set j .gone from rfl,Q0 hlt] at hf;simp only [X0] at hf;subst hf;cases hl
       rw [show appA.goneA T H (.sl i (szT T ty) 0 n)=H.set i .gone from rfl,Z5 (Ne.symm hji)] at hf;unfold zb2 at hm;split at hm
       ·rename_i a ha';simp at hm;exact h.apart j i f _ hf hi hl rfl hji q a hq (.inl ha') hm
       ·cases hm
     unfold appA.rowIn at hxs;split at hxs
     ·cases hek
     ·rename_i i;split at hxs
      ·rename_i e' ty' zs hi;split at hxs
       ·rename_i ht;subst ht;have hxs:zs=xs:=X5 hxs;subst hxs;obtain ⟨B,vals,q1,q2,q3,q4,q5⟩:=h.ents i _ hi;have hee:e'=et:=by
         unfold appA.eOk at hek;have hi':H[i]?=some (.row e' ty' zs):=hi;simp only [hi'] at hek;exact X1 hek
        subst hee;rw [VR] at h2;subst h2;rw [q2] at q1⊢;refine ⟨_,_,B,vals,rfl,q1,q3,q4,?_,?_,?_,h.drop i,by simp [appA.goneA]⟩
        ·intro b hb;unfold zb2 at hb;split at hb
         ·rename_i a hq;simp at hb;subst hb;exact q5 a hq
         ·cases hb
        ·intro b hb;unfold zb2 at hb;split at hb
         ·rename_i a hq;simp at hb;subst hb;exact (h.lives i _ hi rfl a (.inl hq)).2
         ·cases hb
        ·intro j f hf hl q hq hm;have hji:j≠i:=by
          intro e;subst e;have hlt:j<H.length:=(X2.1 hi).1;rw [show appA.goneA T H (.own j)=H.set j .gone from rfl,Q0 hlt] at hf;simp only [X0] at hf;subst hf;cases hl
         rw [show appA.goneA T H (.own i)=H.set i .gone from rfl,Z5 (Ne.symm hji)] at hf;unfold zb2 at hm;split at hm
         ·rename_i a ha';simp at hm;exact h.apart j i f _ hf hi hl rfl hji q a hq (.inl ha') hm
         ·cases hm
       ·cases hxs
      ·cases hxs
     ·have hxs: []=xs:=X5 hxs;subst hxs;rw [VR] at h2;subst h2;exact ⟨none,0,w.heap.size,[],rfl,Own.nil _ _ _ _,W8 _,⟨rfl,fun j c v h=>(by simp at h)⟩,fun b hb=>(by cases hb),fun b hb=>(by cases hb),fun j e _ _ q _=>(by simp [zb2]),h,rfl⟩
     ·cases hxs
    obtain ⟨ad,cap,B,cs,rfl,o1,o2,o3,o4,oc,o5,o6,o7⟩:=hown;refine WR.append o1 hrg hda he hl hs1 hcr.one o2 (by omega) hle hnil fun ad' cap' w' g1 g2 g3=>?_;have hnl:(xs++ys).length=xs.length+ys.length:=X9;have hS1: ∃S1:List Nat,(∀b∈S,b∈S1)/\(∀b∈S1,b∈S\/(w.heap.size<=b/\b<w'.heap.size))/\(∀q,ad'=some q->q.block∈S1)/\ ∀q,ad'=some q->w.heap.size<=q.block\/q.block∈zb2 ad:=by
     cases ad' with
     |none=>exact ⟨S,fun _ h=>h,fun _ h=>.inl h,fun q h=>(by cases h),fun q h=>(by cases h)⟩
     |some q=>
      have hlt:q.block<w'.heap.size:=by
       rcases g1.ge with hn|hn
       ·cases hn
       ·exact hn.2
      have hor:w.heap.size<=q.block\/q.block∈zb2 ad:=by
       rcases g3 with g3|g3
       ·right;rw [<-g3];simp [zb2]
       ·left;exact g3
      refine ⟨q.block::S,fun b hb=>Z4 _ hb,fun b hb=>?_,fun q' h=>by simp only [X0] at h;subst h;simp,fun q' h=>by simp only [X0] at h;subst h;exact hor⟩;rcases Z0.1 hb with rfl|hb
      ·rcases hor with hor|hor
       ·exact .inr ⟨hor,hlt⟩
       ·exact .inl (o4 _ hor)
      ·exact .inl hb
    obtain ⟨S1,s1,s2,s3,s4⟩:=hS1;have hCr:CellsR T w' S1 ((xs++ys).flatMap (za3 T ty)) (cs++news):=by
     rw [J2];exact (o3.app hcr).chg T g2 o4 (fun b hb=>(s2 b hb).imp id And.left)
    have hadd:=o6.addG g2 o4 oc o5 s1 s2 (r:=⟨ad',xs.length+ys.length,cap',[]⟩) (fun q hq=>s4 q (yd8 hq)) (fun q hq=>s3 q (yd8 hq)) (e:=.row et ty (xs++ys))
     ⟨B,cs++news,by rw [j5];exact g1,by rw [j5,hnl],W9 o2 g2.size,hCr,fun q hq=>by rw [j5] at hq;exact s3 q hq⟩ (by intro q hq;cases hq)
    rw [o7] at hadd;refine K _ _ hK _ _ ⟨_,_,hadd.slot (a:=.own H.length) (by rw [VR,j5]) ⟨?_,trivial⟩⟩;intro q hq;simp [AV.ids] at hq;subst hq;rw [X9,o7];simp
  ·cases hK0
 ·cases hK0
def jc6 {t:TypeId} {x y:Operand} (hd:dec ops k n F'=some o) (hop:o.op=.makeSlice t x y):yu0 ops k n F'=some (o.dst,t,evD F' x,evD F' y):=by
 unfold yu0;rw [hd];cases o;simp only at hop;subst hop;rfl
def zu7 {α β:Type} {f:α->List β} {sz:Nat} {x:α} (hx:(f x).length=sz): ∀(m j:Nat),j<m*sz->((List.replicate m x).flatMap f)[j]?=(f x)[j%sz]?
 |0,j,h=>by simp at h
 |m+1,j,h=>by
  rw [List.replicate_succ,V5];rcases V0 j sz with hj|hj
  ·rw [X8 (by omega),T6 hj]
  ·rw [Z2 (by omega),hx,zu7 hx m (j-sz) (by rw [V9] at h;omega)];congr 1;exact (Nat.mod_eq_sub_mod hj).symm
def yc9 {l:List Value} {cs:List (Cell T.U)} (h:cellsOf T (l.map (yo6 T))=some cs):CellsR T w S cs l:=zr5 (φ:=fun _=>⟨none,0,0,[]⟩) h (ya7 T l)
def kf3 {R:Type} {r:R} {x y:Operand} {t:TypeId} (hd:dec ops k n F'=some o) (hop:o.op=.makeSlice t x y) {ty:Ty} {k1 k2:IntKind} {l c:Int} (hx:aev T F x=some (cI T k1 l)) (hy:aev T F y=some (cI T k2 c))
  {K0:AV T.U->List (Ent T.U)->Option R} (hK0:jn0 T P ty t H l c K0=some r) (h:Sim T w0 S0 ⟨F,H⟩ F' w S φ) (K: ∀b H1,K0 b H1=some r->zp5 P ops Q (k+1) n ds w0 S0 (⟨za1 T F o.dst b,H1⟩:St T)):WR P ops Q k n ds F' w:=by
 obtain ⟨X,h1,h2⟩:=z8 h.fr hx;obtain ⟨Y,h3,h4⟩:=z8 h.fr hy;have e1:=v7 h2;have e2:=v7 h4;subst e1;subst e2;unfold jn0 at hK0;split at hK0
 ·rename_i e sz by_ zc he;split at hK0
  ·rename_i z hsz hz;have hsz:=X1 hsz;subst hsz;split at hK0
   ·rename_i x0 hx0;obtain ⟨⟨g1,g2,g3,g4⟩,hK⟩:=q7 hK0;have hdm:=jc6 hd hop;rw [j6 h1,j6 h3] at hdm;obtain ⟨i,zv,_,_,_,_,_,_,hzs⟩:=zb4 he;refine WR.make hdm he l.toNat c.toNat (by omega) (by omega) (by omega) g3 (by omega) fun g w' hN=>?_;have hown:=Own.made (m:=l.toNat) (m':=c.toNat) hN (by omega) (by omega);have hS: ∀b∈g::S,b∈S\/w.heap.size<=b:=by
     intro b hb;rcases Z0.1 hb with rfl|hb
     ·exact .inr hN.fresh
     ·exact .inl hb
    have hz':CellsR T w' (g::S) (za3 T ty x0) zc.toList:=by rw [zm8 T hx0];exact yc9 hz
    have hc:CellsR T w' (g::S) ((List.replicate l.toNat x0).flatMap (za3 T ty)) ((madeCells zc (c.toNat*szT T ty)).toList.take (l.toNat*szT T ty)):=by
     have hml:(madeCells zc (c.toNat*szT T ty)).toList.length=c.toNat*szT T ty:=by rw [J9,size_madeCells]
     have hlc:l.toNat*szT T ty<=c.toNat*szT T ty:=Q9 _ (by omega);refine ⟨by rw [u9 (v8 T ty),Z9,Y6,hml,V7 hlc],fun j c v h1 h2=>?_⟩;have hj:=(X2.1 h1).1;rw [u9 (v8 T ty),Z9] at hj;rw [zu7 (v8 T ty x0) _ _ hj] at h1;rw [Z3,if_pos hj] at h2;refine hz'.2 _ c v h1 ?_;have hpos:0<szT T ty:=by
      rcases M7 (szT T ty) with h0|h0
      ·rw [h0] at hj;omega
      ·exact h0
     rw [<-hzs] at hpos;unfold madeCells at h2;simp only [M6,T5,W4] at h2;rw [List.getElem?_range (by omega)] at h2;simp only [Z8,X0] at h2;subst h2;rw [<-hzs,Array.getElem?_toList,Z6 (Nat.mod_lt _ hpos)];congr 1;rw [getElem!_pos zc _ (Nat.mod_lt _ hpos)]
    have hadd:=h.add (r:=⟨some ⟨g,0,none⟩,l.toNat,c.toNat,[]⟩) hN.chg hN.fresh hN.blk.lt (fun a ha=>zv3 ha) (e:=.row e ty (List.replicate l.toNat x0))
     ⟨w.heap.size,_,by rw [j5];exact hown,by rw [j5,Z9],hN.chg.size,hc,fun a ha=>by rw [j5] at ha;simp only [X0] at ha;subst ha;simp⟩ (by intro j hj;cases hj)
    refine K _ _ hK _ _ ⟨_,_,hadd.slot (a:=.own H.length) (by rw [VR,j5]) ⟨by intro i hi;simp [AV.ids] at hi;subst hi;simp,trivial⟩⟩
   ·cases hK0
  ·cases hK0
 ·cases hK0
def jh6 {t:TypeId} {len:Nat} {ps:Array (Nat×Operand)} {e:TypeId} {c:Array Value} (hd:dec ops k n F'=some o) (hop:o.op=.buildSlice t len ps) (hb:zv9 P t len (ps.toList.map fun p=>(p.1,evD F' p.2))=some (e,c)):vj9 P ops k n F'=some (o.dst,len,e,c):=by
 unfold vj9;rw [hd];cases o;simp only at hop;subst hop;have:(ps.map fun p=>(p.1,evD F' p.2)).toList=ps.toList.map fun p=>(p.1,evD F' p.2):=by simp
 simp only [this,hb]
def vd0 {t:TypeId} {len:Nat} {ps:Array (Nat×Operand)} (hd:dec ops k n F'=some o) (hop:o.op=.buildSlice t len ps) {ty:Ty} {l:List (Nat×AV T.U)} (hl:zu0 T F ps.toList=some l) {e:TypeId} {xs:List (den T.U ty)} (hb:qs2 T P ty t len l=some (e,xs))
  (h:Sim T w0 S0 ⟨F,H⟩ F' w S φ) (K:zp5 P ops Q (k+1) n ds w0 S0 (⟨za1 T F o.dst (.own H.length),H++ [.row e ty xs]⟩:St T)):WR P ops Q k n ds F' w:=by
 unfold qs2 at hb;split at hb
 ·rename_i et sz by_ zc he;split at hb
  ·rename_i hok;simp only [X3] at hok;have hsz:=X1 hok.1;subst hsz;have hs1:=Y1 hok.2.1;have h16:=Y1 hok.2.2;split at hb
   ·rename_i cs hcs;split at hb
    ·rename_i zs hzs;simp only [X0,X7] at hb;obtain ⟨rfl,rfl⟩:=hb;obtain ⟨i,zv,hu,hin,hzv,hsi,_,hzc,hzl⟩:=zb4 he;subst hzc;obtain ⟨e1,e2⟩:=zx1 h.fr hl;have hz0:VRL T w S φ ((List.range (len*szT T ty)).map fun j=>yo6 T (zv.cells[j%szT T ty]!)) ((Array.range (len*i.size)).map (zv.cells[· %zv.cells.size]!)).toList:=by
      rw [hsi,hzl,M6,T5];generalize List.range (len*szT T ty)=rr;induction rr with
      |nil=>trivial
      |cons a r ih=>exact ⟨yi3 T _,ih⟩
     obtain ⟨c',g1,g2⟩:=ya3 hz0 e1 e2 hcs;obtain ⟨r1,r2⟩:=yb2 hzs g2;have hbs:zv9 P t len (ps.toList.map fun p=>(p.1,evD F' p.2))=some (et,c'):=by
      unfold zv9;rw [hu];simp only [hin];rw [hsi,W5 h16];simp only;rw [hsi] at g1;have hfin:Instr.fill (fun j=>some (j*szT T ty,szT T ty)) ((Array.range (len*szT T ty)).map (zv.cells[· %zv.cells.size]!)) (ps.toList.map fun p=>(p.1,evD F' p.2))=some c':=g1;cases hz:Nat.beq (len*szT T ty) 0 with
      |true=>
       have:=X1 hz;simp only;rw [this] at hfin⊢;have hr0:Array.range 0= #[]:=rfl;rw [hr0] at hfin⊢;have em: ∀f:Nat->Value,Array.map f #[]= #[]:=fun f=>by simp
       rw [em] at hfin⊢;rw [hfin]
      |false=>simp only [hzv,hfin]
     have hclen:c'.size=len*szT T ty:=by
      have:=g2.len T;have h2:=r2.1;rw [u9 (v8 T ty),r1] at h2;simpa using h2.symm
     refine WR.bslice c' (jh6 hd hop hbs) fun g w' hN=>?_;have hS: ∀b∈g::S,b∈S\/w.heap.size<=b:=by
      intro b hb;rcases Z0.1 hb with rfl|hb
      ·exact .inr hN.fresh
      ·exact .inl hb
     have hle:len<=9223372036854775807:=by
      have:len<=len*szT T ty:=Nat.le_mul_of_pos_right _ hs1;omega
     have htk:c'.toList.take (len*szT T ty)=c'.toList:=Q4 (by rw [J9,hclen];exact W8 _);have hown:=Own.ofBlk hN.blk hN.fresh (W8 len) hle (Nat.le_of_eq hclen.symm) _ htk;have hadd:=h.add (r:=⟨some ⟨g,0,none⟩,len,len,[]⟩) hN.chg hN.fresh hN.blk.lt (fun a ha=>zv3 ha) (e:=.row et ty zs)
      ⟨w.heap.size,_,by rw [j5];exact hown,by rw [j5,r1],hN.chg.size,r2.chg T hN.chg (by simp) hS,fun a ha=>by rw [j5] at ha;simp only [X0] at ha;subst ha;simp⟩ (by intro j hj;cases hj)
     refine K _ _ ⟨_,_,hadd.slot (a:=.own H.length) (by rw [VR,j5]) ⟨by intro i hi;simp [AV.ids] at hi;subst hi;simp,trivial⟩⟩
    ·cases hb
   ·cases hb
  ·cases hb
 ·cases hb
end
end Go.X
namespace Go.X
open Go.RowKit Go.V
def j7 {α β:Type} (o:Option α) (f:α->Option β):Option β:=match o with|some a=>f a|none=>none
def zd8 {α β:Type} {o:Option α} {f:α->Option β} {y:β} (h:j7 o f=some y): ∃a,o=some a/\f a=some y:=by
 unfold j7 at h;split at h
 ·exact ⟨_,rfl,h⟩
 ·cases h
section
variable (T:Tab)
def jb0:Ty->Bool
 | .user i=>T.scal i
 |t=>t.scal
def vj6 {U:Nat->Type}:Cell U->Value
 |⟨.int k,x⟩=>.int k x
 |⟨.bool,x⟩=>.bool x
 |⟨.str,x⟩=>.string x
 |_=>undef
def ko6 (t:Ty) (x:den T.U t):Value:=
 match t,x with
 | .user i,x=>.agg ((T.cells i x).map vj6).toArray
 | .int k,x=>.int k x
 | .bool,x=>.bool x
 | .str,x=>.string x
 | .list _,_=>undef
 | .nl _,_=>undef
def zn4 (t:Ty) (x:den T.U t):AV T.U:=
 match t,x with
 | .user i,x=>.agg ((T.cells i x).map .cell)
 | .int k,x=>.cell ⟨.int k,x⟩
 | .bool,x=>.cell ⟨.bool,x⟩
 | .str,x=>.cell ⟨.str,x⟩
 | .list e,x=>.cell ⟨.list e,x⟩
 | .nl e,x=>.cell ⟨.nl e,x⟩
def jl3 (t:Ty) (a:AV T.U):Option (den T.U t):=
 match t,a with
 | .user i,.agg cs=>match cellsOf T cs with|some l=>T.pack i l|none=>none
 | .user _,_=>none
 | .list _,.raw (.slice none 0 0)=>some []
 | .nl _,.raw (.slice none 0 0)=>some []
 |t,.cell c=>c.aS t
 |_,_=>none
def nlL {R:Type} (t e:Ty) (xs:List (den T.U t)) (K:List (den T.U e)->Option R):Option R:=
 match t,e,xs,K with
 | .nl a,.list b,xs,K=>if h:a=b then K (h▸xs:List (List (den T.U b))) else none
 |_,_,_,_=>none
def rdN {R:Type} (H:List (Ent T.U)) (t:Ty) (a:AV T.U) (K:den T.U t->Option R):Option R:=
 match t,a,K with
 | .list e,.cell ⟨.nl e',xs⟩,K=>if h:e'=e then K (h▸xs:List (den T.U e)) else none
 | .nl e,.cell ⟨.list e',xs⟩,K=>if h:e'=e then (if 0<(h▸xs:List (den T.U e)).length then K (h▸xs:List (den T.U e)) else none) else none
 | .nl e,.own i,K=>match H[i]? with
  |some (.row _ t xs)=>if h:t=e then (if 0<(h▸xs:List (den T.U e)).length then K (h▸xs:List (den T.U e)) else none) else none
  |_=>none
 |_,_,_=>none
def jl5 {R:Type} (H:List (Ent T.U)) (t:Ty) (a:AV T.U) (K:den T.U t->Option R):Option R:=
 match t,a,K with
 | .list e,.own i,K=>match H[i]? with
  |some (.row _ t xs)=>(if h:t=e then K (h▸xs) else none)
  |_=>none
 | .list e,.sl i sz o n,K=>match H[i]? with
  |some (.row _ t xs)=>match Nat.beq sz (szT T t) with
   |true=>(if h:t=e then (if o+n<=xs.length then K ((h▸xs:List (den T.U e)).drop o |>.take n) else none) else none)
   |false=>none
  |_=>none
 | .list e,.asl i o sz n lo m,K=>match H[i]? with
  |some (.blk _ cs)=>match yy9 T cs o with
   |some (b::_)=>match jb8 b with
    |some ⟨t,n',xs⟩=>match Nat.beq n' n&&Nat.beq sz (szT T t) with
     |true=>(if h:t=e then K ((h▸xs:List (den T.U e)).drop lo |>.take m) else nlL T t e ((xs.drop lo).take m) K)
     |false=>none
    |none=>none
   |_=>none
  |_=>none
 |t,a,K=>match jl3 T t a with|some x=>K x|none=>rdN T H t a K
def qj4 {R:Type} (H:List (Ent T.U)):List Ty->List (AV T.U)->(List (Cell T.U)->Option R)->Option R
 | [],[],K=>K []
 |t::ts,a::aS,K=>match t.one with|true=>jl5 T H t a fun x=>qj4 H ts aS fun l=>K (⟨t,x⟩::l)|false=>none
 |_,_,_=>none
def qr9 (i:Nat):List Ty:=(T.cells i (T.d i)).map (·.t)
def rdF {R:Type} (H:List (Ent T.U)) (t:Ty) (a:AV T.U) (K:den T.U t->Option R):Option R:=
 match t,a,K with
 | .user i,.agg cs,K=>qj4 T H (qr9 T i) cs fun l=>match T.pack i l with|some x=>K x|none=>none
 |t,a,K=>jl5 T H t a K
end
section
variable {T:Tab} {P:Program} {w w':World} {S S':List Nat} {φ φ':Nat->RA} {w0:World} {S0:Ow} {F:AF T} {H:List (Ent T.U)} {F':PF}
def CR.sub0 {t:Ty} {x:den T.U t} {v:Value} (h:CR T w S t x v) (hS: ∀b∈S',b∈S):CR T w S' t x v:=h.chg T (Chg.refl [] w) (by simp) fun b hb=>.inl (hS b hb)
def yv9: ∀ {cs:List (Cell T.U)} {vs:List Value},VRL T w S φ (cs.map .cell) vs-> ∀(S':List Nat) (φ':Nat->RA),(∀b∈S',b∈S)->VRL T w S' φ' (cs.map .cell) vs
 | [],[],_,_,_,_=>trivial
 | [],_::_,h,_,_,_=>h.elim
 |_::_,[],h,_,_,_=>h.elim
 |_::_,_::_,h,S',φ',hS=>⟨CR.sub0 h.1 hS,yv9 h.2 S' φ' hS⟩
def ql5 {t:Ty} {x:den T.U t} {v:Value} (h:VR T w S φ (zn4 T t x) v) (φ':Nat->RA) (hS: ∀b∈S',b∈S):VR T w S' φ' (zn4 T t x) v:=by
 cases t with
 |user i=>
  obtain ⟨vs,h1,h2⟩:=h;exact ⟨vs,h1,yv9 h2 _ _ hS⟩
 |int k=>exact CR.sub0 h hS
 |bool=>exact CR.sub0 h hS
 |str=>exact CR.sub0 h hS
 |list e=>exact CR.sub0 h hS
 |nl e=>exact CR.sub0 h hS
def zr4: ∀ {aS:List (AV T.U)} {l:List (Cell T.U)},cellsOf T aS=some l->aS=l.map .cell
 | [],l,h=>by simp only [cellsOf,X0] at h;subst h;rfl
 |a::r,l,h=>by
  unfold cellsOf at h;split at h
  ·rename_i c l' hc hl;simp only [X0] at h;subst h;rw [U1,<-zr4 hl];unfold jy2 at hc;split at hc
   ·simp only [X0] at hc;subst hc;rfl
   ·cases hc
  ·cases h
def CR.empty {e:Ty} {ad:Option Addr} {cap:Nat} (hn:ad=none->cap=0):CR T w S (.list e) [] (.slice ad 0 cap):=
 .list e [] ad cap (fun _ _=>undef) (U4 _) (fun h=>⟨rfl,hn h⟩) (fun h=>absurd rfl h) (fun k j c h=>by simp at h) fun k j c h=>by simp at h
def CR.recap {e:Ty} {xs:List (den T.U e)} {ad:Option Addr} {cap cap':Nat} (h:CR T w S (.list e) xs (.slice ad xs.length cap)) (hc:xs.length<=cap') (hn:ad=none->cap'=0):CR T w S (.list e) xs (.slice ad xs.length cap'):=by
 generalize hv:Value.slice ad xs.length cap=v at h;cases h with
 |list _ _ ad' cap0 u hcap hnil had hcell hrel=>
  simp only [Value.slice.injEq,true_and] at hv;obtain ⟨rfl,rfl⟩:=hv;exact .list e xs ad cap' u hc (fun h=>⟨(hnil h).1,hn h⟩) had hcell hrel
def jm0 {i:Nat} {e:TypeId} {t:Ty} {xs:List (den T.U t)} (h:EntR T w S φ i (.row e t xs)) (hS: ∀b∈S',b∈S) (hb: ∀a,(φ i).ad=some a->a.block∉S'):CR T w S' (.list t) xs (.slice (φ i).ad (φ i).n (φ i).cap):=by
 obtain ⟨B,vals,h1,h2,h3,h4,h5⟩:=h;have hat: ∀(k j:Nat) (c:Cell T.U),(xs[k]?.map fun x=>(za3 T t x)[j]?)=some (some c)->(xs.flatMap (za3 T t))[k*szT T t+j]?=some c:=by
  intro k j c hk;cases hx:xs[k]? with
  |none=>rw [hx] at hk;cases hk
  |some x=>
   rw [hx] at hk;simp only [Z8,X0] at hk;have:=yf9 (v8 T t) hx;have hj:j<szT T t:=by have:=(X2.1 hk).1;rwa [v8] at this
   rw [<-this,Z3,if_pos hj,Q6] at hk;exact hk
 have hval: ∀(k j:Nat) (c:Cell T.U),(xs[k]?.map fun x=>(za3 T t x)[j]?)=some (some c)->vals[k*szT T t+j]?=some (vals.getD (k*szT T t+j) undef):=by
  intro k j c hk;have:=(X2.1 (hat k j c hk)).1;rw [h4.1] at this;exact zm0 undef this
 rw [h2];rw [h2] at h1;refine .list t xs _ _ (fun k j=>vals.getD (k*szT T t+j) undef) h1.le.1 h1.nil0 ?_ ?_ ?_
 ·intro hne;rcases h1.cases with ⟨_,hn,_⟩|⟨c,had,_,hb',_⟩
  ·exact absurd (T4 hn) hne
  ·exact ⟨by rw [had];rfl,hb'.lt,hb _ had⟩
 ·intro k j c hk;exact (h1.rg _ _ (hval k j c hk)).2
 ·intro k j c hk;exact CR.sub0 (h4.2 _ c _ (hat k j c hk) (hval k j c hk)) hS
def CR.nilS {e:Ty}:CR T w S (.list e) [] (.slice none 0 0):=CR.empty fun _=>rfl
def kp5 {t:Ty} {c:Cell T.U} {x:den T.U t} (h:c.aS t=some x) {v:Value} (hv:VR T w S φ (.cell c) v) (ht: ∀i,t≠.user i):VR T w S φ (zn4 T t x) v:=by
 have:=Cell.as_eq h;subst this;cases t<;>first|exact hv|exact absurd rfl (ht _)
def yc2 {t:Ty} {a:AV T.U} {x:den T.U t} (h:jl3 T t a=some x) {v:Value} (hv:VR T w S φ a v) (φ':Nat->RA):VR T w S φ' (zn4 T t x) v:=by
 have one: ∀ {t:Ty} {c:Cell T.U} {x:den T.U t},(∀i,t≠.user i)->c.aS t=some x->VR T w S φ (.cell c) v->VR T w S φ' (zn4 T t x) v:=
  fun hnu h hv=>ql5 (kp5 h hv hnu) φ' fun _ h=>h
 cases t with
 |user i=>
  cases a<;>simp only [jl3,reduceCtorEq] at h;rename_i cs;split at h
  ·rename_i l hl;have:=T.packed _ _ _ h;obtain ⟨vs,h1,h2⟩:=hv;refine ⟨vs,h1,?_⟩;rw [this];rw [zr4 hl] at h2;exact yv9 h2 _ _ fun _ h=>h
  ·cases h
 |list e=>
  cases a with
  |cell c=>exact one (by intro i hi;cases hi) h hv
  |raw u=>
   have hu:u=.slice none 0 0/\x= []:=by
    cases u with
    |slice ad n c=>
     cases ad with
     |some _=>cases h
     |none=>
      cases n with
      |succ _=>cases h
      |zero=>
       cases c with
       |succ _=>cases h
       |zero=>exact ⟨rfl,(X5 h).symm⟩
    |_=>cases h
   obtain ⟨rfl,rfl⟩:=hu;rw [VR] at hv;subst hv;exact CR.nilS
  |_=>cases h
 |nl e=>
  cases a with
  |cell c=>exact one (by intro i hi;cases hi) h hv
  |raw u=>
   have hu:u=.slice none 0 0/\x= []:=by
    cases u with
    |slice ad n c=>
     cases ad with
     |some _=>cases h
     |none=>
      cases n with
      |succ _=>cases h
      |zero=>
       cases c with
       |succ _=>cases h
       |zero=>exact ⟨rfl,(X5 h).symm⟩
    |_=>cases h
   obtain ⟨rfl,rfl⟩:=hu;rw [VR] at hv;subst hv;exact .nl e [] none 0 CR.nilS fun _=>⟨rfl,rfl⟩
  |_=>cases h
 |int k=>cases a<;>first|(cases h;done)|exact one (by intro i hi;cases hi) h hv
 |bool=>cases a<;>first|(cases h;done)|exact one (by intro i hi;cases hi) h hv
 |str=>cases a<;>first|(cases h;done)|exact one (by intro i hi;cases hi) h hv
def gb5 {g p cap:Nat} {t:Ty} {xs:List (den T.U t)} {vals:List Value} (hb:g<w.heap.size) (hr:Rg w (some ⟨g,p,none⟩) vals) (h4:CellsR T w S (xs.flatMap (za3 T t)) vals) (hcap:xs.length<=cap) (hS: ∀b∈S',b∈S) (hg:g∉S'):CR T w S' (.list t) xs (.slice (some ⟨g,p,none⟩) xs.length cap):=by
 have hat: ∀(k j:Nat) (c:Cell T.U),(xs[k]?.map fun x=>(za3 T t x)[j]?)=some (some c)->(xs.flatMap (za3 T t))[k*szT T t+j]?=some c:=by
  intro k j c hk;cases hx:xs[k]? with
  |none=>rw [hx] at hk;cases hk
  |some x=>
   rw [hx] at hk;simp only [Z8,X0] at hk;have:=yf9 (v8 T t) hx;have hj:j<szT T t:=by have:=(X2.1 hk).1;rwa [v8] at this
   rw [<-this,Z3,if_pos hj,Q6] at hk;exact hk
 have hval: ∀(k j:Nat) (c:Cell T.U),(xs[k]?.map fun x=>(za3 T t x)[j]?)=some (some c)->vals[k*szT T t+j]?=some (vals.getD (k*szT T t+j) undef):=by
  intro k j c hk;have:=(X2.1 (hat k j c hk)).1;rw [h4.1] at this;exact zm0 undef this
 refine .list t xs _ _ (fun k j=>vals.getD (k*szT T t+j) undef) hcap (by simp) ?_ ?_ ?_
 ·intro hne;exact ⟨rfl,hb,hg⟩
 ·intro k j c hk;exact (hr _ _ (hval k j c hk)).2
 ·intro k j c hk;exact CR.sub0 (h4.2 _ c _ (hat k j c hk) (hval k j c hk)) hS
def vv9 {i:Nat} {e:TypeId} {cs r:List (AV T.U)} {o n:Nat} {t:Ty} {xs:List (den T.U t)} (h:EntR T w S φ i (.blk e cs)) (hl:yy9 T cs o=some (.arr t n xs::r)):
  ∃g c vals,(φ i).ad=some ⟨g,0,none⟩/\Blk w g c e/\g∈S/\xs.length=n/\Rg w (some ⟨g,o,none⟩) vals/\CellsR T w S (xs.flatMap (za3 T t)) vals:=by
 obtain ⟨g,c,h1,h2,h3,h4⟩:=h;obtain ⟨pre,h5,h6⟩:=yx0 hl h4.2;obtain ⟨h7,h8⟩:=BR.at h4 h5 h6;have he:(jc9 T (.arr t n xs)).length=n*szT T t:=by rw [yb7 T h7.2.1];rfl
 have h9:=h7.1.take T (n*szT T t);rw [zg3,Z7 (by omega),Q4 (by omega)] at h9;refine ⟨g,c,_,h1,h2,h3,h7.2.1,Rg.blk h2 _ (fun j u hj=>?_),VRL.cells.1 h9⟩;rw [Z3] at hj;split at hj
 ·rw [Q6] at hj;simpa using hj
 ·cases hj
def vw0 {i:Nat} {e:TypeId} {cs r:List (AV T.U)} {o n lo m:Nat} {t:Ty} {xs:List (den T.U t)} (h:EntR T w S φ i (.blk e cs)) (hl:yy9 T cs o=some (.arr t n xs::r)) {v:Value} (hv:VR T w S φ' (.asl i o (szT T t) n lo m) v) (hφ:φ' i=φ i) (hS: ∀b∈S',b∈S) (hb: ∀a,(φ i).ad=some a->a.block∉S'):
  CR T w S' (.list t) ((xs.drop lo).take m) v:=by
 obtain ⟨g,c,vals,h1,h2,h3,h4,h5,h6⟩:=vv9 h hl;obtain ⟨g',ad,a1,rfl,a2,a3⟩:=hv;rw [hφ,h1] at a1;simp only [X0,Addr.mk.injEq,and_true] at a1;subst a1;have hcr:=gb5 (S':=S') h2.lt h5 h6 (cap:=n) (by omega) hS (hb _ h1);rcases V0 lo n with hlt|hge
 ·have hs:=CR.sub hcr (i:=lo) (m:=m) (by omega);have hc:zk8 (some (⟨g,o,none⟩:Addr)) n lo (szT T t)=some ad:=by
   rcases a3 with a3|a3
   ·omega
   ·subst a3;unfold zk8;rw [if_neg (by omega)];simp only [Z8,Addr.add];split
    ·rename_i hz;simp [hz]
    ·rfl
  rwa [hc] at hs
 ·have:m=0:=by omega
  subst this;rw [List.take_zero];exact CR.empty (by simp)
def ge6 {U:Nat->Type}:Ent U->Bool| .blk _ _=>true| .row _ _ _=>true|_=>false
def yq9 (T:Tab) (w:World) (S:List Nat) (φ:Nat->RA) (H:List (Ent T.U)) (ids:List Nat):Prop:= ∀i∈ids,∀(en:Ent T.U),H[i]?=some en->ge6 en=true->EntR T w S φ i en
def CR.unNl1 {a:Ty} {x:List (den T.U a)} {v:Value} (h:CR T w S (.nl a) x v):CR T w S (.list a) x v:=by
 cases h with
 |nl _ _ ad cap h1 h2=>exact h1
def CR.unNl {a:Ty} {xs:List (List (den T.U a))} {v:Value} (h:CR T w S (.list (.nl a)) xs v):CR T w S (.list (.list a)) xs v:=by
 cases h with
 |list _ _ ad cap u hcap hnil had hcell hrel=>
  have key: ∀(k j:Nat) (c:Cell T.U),(xs[k]?.map fun x=>(za3 T (.list a) x)[j]?)=some (some c)-> ∃x,xs[k]?=some x/\j=0/\c=⟨.list a,x⟩:=by
   intro k j c hc;cases hx:xs[k]? with
   |none=>rw [hx] at hc;cases hc
   |some x=>
    rw [hx] at hc;have hc:(za3 T (.list a) x)[j]?=some c:=X5 hc;cases j with
    |zero=>exact ⟨x,rfl,rfl,(X5 hc).symm⟩
    |succ j=>cases hc
  refine .list (.list a) xs ad cap u hcap hnil had (fun k j c hc=>?_) (fun k j c hc=>?_)
  ·obtain ⟨x,hx,rfl,rfl⟩:=key k j c hc;exact hcell k 0 ⟨.nl a,x⟩ ((congrArg (Option.map fun x:den T.U (.nl a)=>(za3 T (.nl a) x)[0]?) hx).trans rfl)
  ·obtain ⟨x,hx,rfl,rfl⟩:=key k j c hc;exact CR.unNl1 (hrel k 0 ⟨.nl a,x⟩ ((congrArg (Option.map fun x:den T.U (.nl a)=>(za3 T (.nl a) x)[0]?) hx).trans rfl))
def ki3 {R:Type} {r:R} {t:Ty} {a:AV T.U} {K:den T.U t->Option R} (h:rdN T H t a K=some r) (hs:yq9 T w S φ H a.ids) {v:Value} (hv:VR T w S φ a v) (φ':Nat->RA) (hS: ∀b∈S',b∈S) (hb: ∀i∈a.ids,∀ad,(φ i).ad=some ad->ad.block∉S'): ∃x,K x=some r/\VR T w S' φ' (zn4 T t x) v:=by
 unfold rdN at h;split at h
 ·rename_i e e' xs K;split at h
  ·rename_i ht;subst ht;refine ⟨xs,h,?_⟩;have hv:CR T w S (.nl e') xs v:=hv;cases hv with
   |nl _ _ ad cap h1 h2=>exact CR.sub0 h1 hS
  ·cases h
 ·rename_i e e' xs K;split at h
  ·rename_i ht;subst ht;split at h
   ·rename_i hp;refine ⟨xs,h,?_⟩;have hv:CR T w S (.list e') xs v:=hv;cases hv with
    |list _ _ ad cap u h1 h2 h3 h4 h5=>exact .nl _ xs ad cap (CR.sub0 (.list _ xs ad cap u h1 h2 h3 h4 h5) hS) fun q=>by subst q;exact absurd hp (Nat.lt_irrefl 0)
   ·cases h
  ·cases h
 ·rename_i e i K;split at h
  ·rename_i e' t' xs hi;split at h
   ·rename_i ht;subst ht;split at h
    ·rename_i hp;refine ⟨xs,h,?_⟩;rw [VR] at hv;subst hv;have hr:=jm0 (hs i (by simp [AV.ids]) _ hi rfl) hS (hb i (by simp [AV.ids]));obtain ⟨B,vals,h1,h2,_⟩:=hs i (by simp [AV.ids]) _ hi rfl;rw [h2] at hr⊢;exact .nl _ xs _ _ hr fun q=>by subst q;exact absurd hp (Nat.lt_irrefl 0)
    ·cases h
   ·cases h
  ·cases h
 ·cases h
def qj9 {R:Type} {r:R} {t:Ty} {a:AV T.U} {K:den T.U t->Option R} (h:jl5 T H t a K=some r) (hs:yq9 T w S φ H a.ids) {v:Value} (hv:VR T w S φ a v) (φ':Nat->RA) (hS: ∀b∈S',b∈S) (hb: ∀i∈a.ids,∀ad,(φ i).ad=some ad->ad.block∉S'): ∃x,K x=some r/\VR T w S' φ' (zn4 T t x) v:=by
 unfold jl5 at h;split at h
 ·rename_i e i K;split at h
  ·rename_i e' t' xs hi;split at h
   ·rename_i ht;subst ht;refine ⟨xs,h,?_⟩;rw [VR] at hv;subst hv;exact jm0 (hs i (by simp [AV.ids]) _ hi rfl) hS (hb i (by simp [AV.ids]))
   ·cases h
  ·cases h
 ·rename_i e i sz o n K;split at h
  ·rename_i e' t' xs hi;split at h
   ·rename_i hsz;have:=X1 hsz;subst this;split at h
    ·rename_i ht;subst ht;split at h
     ·rename_i hle;refine ⟨_,h,?_⟩;obtain ⟨ad,rfl,hcap,hn,hnil,_⟩:=hv;have hent:=hs i (by simp [AV.ids]) _ hi rfl;have hr:=jm0 hent hS (hb i (by simp [AV.ids]));have hlen:(List.take n (List.drop o xs)).length=n:=by rw [Y6,Q7];omega
      rcases hn with hn|⟨g,hg1,hg2⟩
      ·subst hn;rw [List.take_zero];exact CR.empty fun hn=>(hnil hn).2
      ·obtain ⟨B,vals,h1,h2,_⟩:=hent;rw [h2] at hr;have hsub:=CR.sub hr hle;by_cases h0:n=0
       ·subst h0;rw [List.take_zero];exact CR.empty fun hn=>(hnil hn).2
       ·have hcut:zk8 (φ i).ad (φ i).cap o (szT T t')=ad:=by
         have:=h1.le.1;unfold zk8;rw [if_neg (by omega),hg1,hg2];simp only [Z8,Addr.add];split
         ·rename_i hz;simp [hz]
         ·simp
        rw [hcut] at hsub;exact hsub
     ·cases h
    ·cases h
   ·cases h
  ·cases h
 ·rename_i e i o sz n lo m K;split at h
  ·rename_i e' cs hi;split at h
   ·rename_i b r hl;split at h
    ·rename_i t n' xs hb';have:=zs6 hb';subst this;split at h
     ·rename_i hn;rw [X3] at hn;obtain ⟨h1,h2⟩:=hn;have h1:=X1 h1;have h2:=X1 h2;subst h1;subst h2;split at h
      ·rename_i ht;subst ht;exact ⟨_,h,vw0 (hs i (by simp [AV.ids]) _ hi rfl) hl hv rfl hS (hb i (by simp [AV.ids]))⟩
      ·unfold nlL at h;split at h
       ·rename_i a b ys K';split at h
        ·rename_i hab;subst hab;exact ⟨_,h,CR.unNl (vw0 (hs i (by simp [AV.ids]) _ hi rfl) hl hv rfl hS (hb i (by simp [AV.ids])))⟩
        ·cases h
       ·cases h
     ·cases h
    ·cases h
   ·cases h
  ·cases h
 ·split at h
  ·rename_i x hx;exact ⟨x,h,ql5 (yc2 hx hv φ') φ' hS⟩
  ·exact ki3 h hs hv φ' hS hb
def qj7 {R:Type} {r:R}: ∀ {ts:List Ty} {aS:List (AV T.U)} {K:List (Cell T.U)->Option R},qj4 T H ts aS K=some r->yq9 T w S φ H (j8 aS)-> ∀ {vs:List Value},VRL T w S φ aS vs-> ∀(φ':Nat->RA),(∀b∈S',b∈S)->(∀i∈j8 aS,∀ad,(φ i).ad=some ad->ad.block∉S')-> ∃l,K l=some r/\VRL T w S' φ' (l.map .cell) vs
 | [],[],K,h,_,[],_,_,_,_=>⟨[],h,trivial⟩
 | [],[],_,_,_,_::_,hv,_,_,_=>hv.elim
 | [],_::_,_,h,_,_,_,_,_,_=>by cases h
 |_::_,[],_,h,_,_,_,_,_,_=>by cases h
 |t::ts,a::aS,_,_,_,[],hv,_,_,_=>hv.elim
 |t::ts,a::aS,K,h,hs,v::vs,hv,φ',hS,hb=>by
  have h:(match t.one with|true=>jl5 T H t a (fun x=>qj4 T H ts aS fun l=>K (⟨t,x⟩::l))|false=>none)=some r:=h;split at h<;>try (cases h;done)
  rename_i ht;obtain ⟨x,h1,h2⟩:=qj9 h (fun i hi=>hs i (by rw [j8];exact X4.2 (.inl hi))) hv.1 φ' hS fun i hi=>hb i (by rw [j8];exact X4.2 (.inl hi));obtain ⟨l,h3,h4⟩:=qj7 h1 (fun i hi=>hs i (by rw [j8];exact X4.2 (.inr hi))) hv.2 φ' hS fun i hi=>hb i (by rw [j8];exact X4.2 (.inr hi));refine ⟨_,h3,?_,h4⟩;cases t<;>first|exact h2|cases ht
def jj2 {R:Type} {r:R} {t:Ty} {a:AV T.U} {K:den T.U t->Option R} (h:rdF T H t a K=some r) (hs:yq9 T w S φ H a.ids) {v:Value} (hv:VR T w S φ a v) (φ':Nat->RA) (hS: ∀b∈S',b∈S) (hb: ∀i∈a.ids,∀ad,(φ i).ad=some ad->ad.block∉S'): ∃x,K x=some r/\VR T w S' φ' (zn4 T t x) v:=by
 unfold rdF at h;split at h
 ·rename_i i cs K;obtain ⟨vs,rfl,h2⟩:=hv;obtain ⟨l,h3,h4⟩:=qj7 h (by intro j hj;exact hs j (by rw [AV.ids];exact hj)) h2 φ' hS fun j hj=>hb j (by rw [AV.ids];exact hj);split at h3
  ·rename_i x hx;refine ⟨x,h3,vs,rfl,?_⟩;rw [T.packed _ _ _ hx];exact h4
  ·cases h3
 ·exact qj9 h hs hv φ' hS hb
def va4 {R:Type} {r:R} {t:Ty} {a:AV T.U} {K:den T.U t->Option R} (h:rdF T H t a K=some r) (hs:yq9 T w S φ H a.ids) {v:Value} (hv:VR T w S φ a v) (φ':Nat->RA): ∃x,K x=some r/\VR T w [] φ' (zn4 T t x) v:=
 jj2 h hs hv φ' (by simp) (by simp)
def ki1 {R:Type} {r:R} {t:Ty} {a:AV T.U} {K:den T.U t->Option R} (h:rdN T H t a K=some r): ∃x,K x=some r/\ ∀ {R':Type} (K':den T.U t->Option R'),rdN T H t a K'=K' x:=by
 unfold rdN at h;split at h
 ·split at h
  ·rename_i ht;subst ht;exact ⟨_,h,fun K'=>by simp only [rdN,dite_true]⟩
  ·cases h
 ·split at h
  ·rename_i ht;subst ht;split at h
   ·rename_i hp;exact ⟨_,h,fun K'=>by simp only [rdN,dite_true,if_pos hp]⟩
   ·cases h
  ·cases h
 ·split at h
  ·rename_i hi;split at h
   ·rename_i ht;subst ht;split at h
    ·rename_i hp;exact ⟨_,h,fun K'=>by simp only [rdN,hi,dite_true,if_pos hp]⟩
    ·cases h
   ·cases h
  ·cases h
 ·cases h
def jj1 {R:Type} {r:R} {t:Ty} {a:AV T.U} {K:den T.U t->Option R} (h:jl5 T H t a K=some r): ∃x,K x=some r/\ ∀ {R':Type} (K':den T.U t->Option R'),jl5 T H t a K'=K' x:=by
 unfold jl5 at h⊢;split at h
 ·split at h
  ·rename_i hi;split at h
   ·rename_i ht;subst ht;exact ⟨_,h,fun K'=>by simp only [dite_true]⟩
   ·cases h
  ·cases h
 ·split at h
  ·rename_i hi;split at h
   ·rename_i hsz;split at h
    ·rename_i ht;subst ht;split at h
     ·rename_i hle;exact ⟨_,h,fun K'=>by simp only [dite_true,if_pos hle]⟩
     ·cases h
    ·cases h
   ·cases h
  ·cases h
 ·split at h
  ·rename_i hi;split at h
   ·rename_i hl;split at h
    ·rename_i hb;split at h
     ·rename_i hn;split at h
      ·rename_i ht;subst ht;exact ⟨_,h,fun K'=>by simp only [dite_true]⟩
      ·rename_i hne;unfold nlL at h;split at h
       ·split at h
        ·rename_i hab;subst hab;exact ⟨_,h,fun K'=>by simp only [dif_neg hne,nlL,dite_true]⟩
        ·cases h
       ·cases h
     ·cases h
    ·cases h
   ·cases h
  ·cases h
 ·rename_i t a K hn1 hn2 hn3;split at h
  ·rename_i x hx;refine ⟨x,h,fun K'=>?_⟩;split
   ·exact (hn1 _ _ K rfl rfl HEq.rfl).elim
   ·exact (hn2 _ _ _ _ _ K rfl rfl HEq.rfl).elim
   ·exact (hn3 _ _ _ _ _ _ _ K rfl rfl HEq.rfl).elim
   ·rw [hx]
  ·rename_i hx;obtain ⟨x,h1,h2⟩:=ki1 h;refine ⟨x,h1,fun K'=>?_⟩;split
   ·exact (hn1 _ _ K rfl rfl HEq.rfl).elim
   ·exact (hn2 _ _ _ _ _ K rfl rfl HEq.rfl).elim
   ·exact (hn3 _ _ _ _ _ _ _ K rfl rfl HEq.rfl).elim
   ·rw [hx];exact h2 K'
def qj5 {R:Type} {r:R}: ∀ {ts:List Ty} {aS:List (AV T.U)} {K:List (Cell T.U)->Option R},qj4 T H ts aS K=some r-> ∃l,K l=some r/\ ∀ {R':Type} (K':List (Cell T.U)->Option R'),qj4 T H ts aS K'=K' l
 | [],[],K,h=>⟨[],h,fun K'=>rfl⟩
 | [],_::_,_,h=>by cases h
 |_::_,[],_,h=>by cases h
 |t::ts,a::aS,K,h=>by
  have h:(match t.one with|true=>jl5 T H t a (fun x=>qj4 T H ts aS fun l=>K (⟨t,x⟩::l))|false=>none)=some r:=h;split at h<;>try (cases h;done)
  rename_i ht;obtain ⟨x,h1,h2⟩:=jj1 h;obtain ⟨l,h3,h4⟩:=qj5 h1;refine ⟨_,h3,fun K'=>?_⟩;show (match t.one with|true=>jl5 T H t a (fun x=>qj4 T H ts aS fun l=>K' (⟨t,x⟩::l))|false=>none)=_;rw [ht];simp only;rw [h2,h4]
def jg2 {R:Type} {r:R} {t:Ty} {a:AV T.U} {K:den T.U t->Option R} (h:rdF T H t a K=some r): ∃x,K x=some r/\ ∀ {R':Type} (K':den T.U t->Option R'),rdF T H t a K'=K' x:=by
 unfold rdF at h⊢;split at h
 ·rename_i i cs K;obtain ⟨l,h1,h2⟩:=qj5 h;split at h1
  ·rename_i x hx;exact ⟨x,h1,fun K'=>by simp only [h2,hx]⟩
  ·cases h1
 ·rename_i t a K hn;obtain ⟨x,h1,h2⟩:=jj1 h;refine ⟨x,h1,fun K'=>?_⟩;split
  ·exact (hn _ _ K rfl rfl HEq.rfl).elim
  ·exact h2 K'
def zt4 (s:ByteArray):List Int:=s.data.toList.map fun b=>(b.toNat:Int)
def jt7 (s:ByteArray):(zt4 s).length=s.size:=(U7 _).trans J9
def zs7 (l:List Int):ByteArray:=l.foldl (fun r n=>r.push (UInt8.ofNat n.toNat)) ByteArray.empty
end
end Go.X
