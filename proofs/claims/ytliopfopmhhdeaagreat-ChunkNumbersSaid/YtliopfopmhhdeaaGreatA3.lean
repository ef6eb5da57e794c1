import Derived.Test.YtliopfopmhhdeaaGreatA2
set_option linter.defProp false
namespace Go.X
open Go.RowKit Go.V
mutual
def jn7 {U}: ∀a:AV U,a.ren id=a
 | .cell _=>by rw [AV.ren]
 | .ptr _ _=>by rw [AV.ren];rfl
 | .eptr _ _ _ _=>by rw [AV.ren];rfl
 | .lptr _ _ _ _=>by rw [AV.ren]
 | .own _=>by rw [AV.ren];rfl
 | .sl _ _ _ _=>by rw [AV.ren];rfl
 | .agg cs=>by rw [AV.ren,zr4 cs]
 | .tup cs=>by rw [AV.ren,zr4 cs]
 | .fn _ a b=>by rw [AV.ren,zr4 a,zr4 b]
 | .ifc _ a=>by rw [AV.ren,jn7 a]
 | .raw _=>by rw [AV.ren]
 | .arr _ _ _=>by rw [AV.ren]
 | .aptr _ _ _ _ _ _=>by rw [AV.ren];rfl
 | .asl _ _ _ _ _ _=>by rw [AV.ren];rfl
 | .mp _=>by rw [AV.ren];rfl
 | .hmp _=>by rw [AV.ren];rfl
def zr4 {U}: ∀l:List (AV U),zi2 id l=l
 | []=>rfl
 |a::r=>by rw [zi2,jn7 a,zr4 r]
end
section
variable {T:Tab} {P:Program} {w w':World} {S S':List Nat} {φ φ':Nat->RA}
def VR.phiS {a v} (h:VR T w S φ a v) (b: ∀i∈a.ids,RSame (φ' i) (φ i)):VR T w S φ' a v:=by
 have:=VR.renS T (ρ:=id) (φ':=φ') b h;rwa [jn7] at this
def VR.phi {a v} (h:VR T w S φ a v) (b: ∀i∈a.ids,φ' i=φ i):VR T w S φ' a v:=by
 have:=VR.ren T (ρ:=id) (φ':=φ') b h;rwa [jn7] at this
def VRL.phi {aS:List (AV T.U)} {vs:List Value} (h:VRL T w S φ aS vs) (hi: ∀i∈q7 aS,φ' i=φ i):VRL T w S φ' aS vs:=by
 have:=VRL.ren T (ρ:=id) (φ':=φ') hi h;rwa [zr4] at this
def BR.phi {cs vs} (h:BR T w S φ cs vs) (a: ∀i∈q7 cs,φ' i=φ i):BR T w S φ' cs vs:=⟨h.1.phi (by rw [jk0];exact a),h.2⟩
def qa5 {U}: ∀l:List (Int×AV U),qa4 id l=l
 | []=>rfl
 |(x,a)::r=>by rw [qa4,jn7 a,qa5 r]
def okA (H:List (Ent T.U)) (a:AV T.U):Prop:=(∀i∈a.ids,i<H.length)/\match a with| .eptr i sz k _=> ∀e t xs,H[i]?=some (.row e t xs)->k<xs.length/\szT T t=sz|_=>True
def Ent.cellIds {U:Nat->Type}:Ent U->List Nat| .blk _ cs=>q7 cs| .map _ es=>idsM es| .drow _ _ _ _ a=>kr3 a| .pmap _ _ _ _ a=>qs2 a|_=> []
def ve7 {U} (b:Option (Nat×List (AV U))):vq8 id b=b:=by
 cases b with
 |none=>rfl
 |some p=>obtain ⟨a,cs⟩:=p;rw [vq8,zr4]
def ve6 (a):vq7 id a=a:=by cases a<;>rfl
def EntR.phiE {i e} (h:EntR T w S φ i e) (a:φ' i=φ i) (q: ∀k∈e.cellIds,RSame (φ' k) (φ k)):EntR T w S φ' i e:=by
 cases e with
 |blk e cs=>
  obtain ⟨g,c,b,f,n,o⟩:=h;have:=o.renS T (ρ:=id) (φ':=φ') q;rw [zr4] at this;exact ⟨g,c,by rw [a];exact b,f,n,this⟩
 |row e t xs=>obtain ⟨B,j,b,f,n,o,p⟩:=h;exact ⟨B,j,by rw [a];exact b,by rw [a];exact f,n,o,by rw [a];exact p⟩
 |map k es=>
  obtain ⟨g,l,c,b,f,n,o,p⟩:=h;have:=o.renS T (ρ:=id) (φ':=φ') q;rw [qa5] at this;exact ⟨g,l,c,by rw [a];exact b,f,n,this,p⟩
 |tmap k t m=>obtain ⟨g,l,c,b,f⟩:=h;exact ⟨g,l,c,by rw [a];exact b,f⟩
 |drow e d fe xs r=>
  obtain ⟨B,j,b,f,n,o,p⟩:=h;have:=p.renS T (ρ:=id) (φ':=φ') q;rw [ve7] at this;exact ⟨B,j,by rw [a];exact b,by rw [a];exact f,n,by rw [a];exact o,by rw [a];exact this⟩
 |pmap k u d m r=>
  obtain ⟨g,l,c,s,b,f,n,o,p⟩:=h;have:=o.renS T (ρ:=id) (φ':=φ') q;rw [ve6] at this;exact ⟨g,l,c,s,by rw [a];exact b,f,n,by rw [a];exact this,p⟩
 |hid=>unfold EntR;rw [a];exact h
 |gone=>trivial
structure Ow where
 chg:List Nat
 ex:List Nat
 pin:List RA
structure Sim (T:Tab) (w0:World) (S0:Ow) (st:St T) (F':PF) (w:World) (S:List Nat) (φ:Nat->RA):Prop where
 fr:FR T w S φ st.F F'
 ids: ∀i a,st.F.get T i=some a->okA st.H a
 chg:Chg S0.chg w0 w
 own: ∀b∈S,(b∈S0.ex\/w0.heap.size<=b)/\b<w.heap.size
 ex: ∀b∈S0.ex,b∉S0.chg->b<w0.heap.size->b∈S
 lives: ∀(i:Nat) (e:Ent T.U),st.H[i]?=some e->e.live=true-> ∀a,At (φ i) a->a.block∈S/\(a.block∈S0.chg\/w0.heap.size<=a.block)
 pins: ∀(k:Nat) (r:RA),S0.pin[k]?=some r->RSame (φ k) r/\k<st.H.length
 ents: ∀(i:Nat) (e:Ent T.U),st.H[i]?=some e->EntR T w S φ i e
 eids: ∀(i:Nat) (e:Ent T.U),st.H[i]?=some e-> ∀j∈e.cellIds,j<st.H.length
 apart: ∀(i j:Nat) (e e':Ent T.U),st.H[i]?=some e->st.H[j]?=some e'->e.live=true->e'.live=true->i≠j-> ∀a b,At (φ i) a->At (φ j) b->a.block≠b.block
def zc4 (T:Tab) (w0:World) (S0:Ow) (st:St T) (F':PF) (w:World):Prop:= ∃S φ,Sim T w0 S0 st F' w S φ
variable {w0:World} {S0:Ow} {F:AF T} {H:List (Ent T.U)} {F':PF}
def qh6 {dst a i b} (h:(za5 T F dst a).get T i=some b):(dst=some i/\b=a)\/(dst≠some i/\F.get T i=some b):=by
 cases dst with
 |none=>exact .inr ⟨by simp,h⟩
 |some d=>
  simp only [za5,AF.get] at h;split at h
  ·rename_i c;have:=X1 c;subst this;simp only [X0] at h;exact .inl ⟨rfl,h.symm⟩
  ·rename_i c;exact .inr ⟨by simp only [ne_eq,X0];intro e;subst e;simp at c,h⟩
def qs1 {dst v i} (h:dst≠some i):(upd F' dst v).get i=F'.get i:=by
 cases dst with
 |none=>rfl
 |some d=>
  simp only [upd,PF.get];split
  ·rename_i a;have:=X1 a;subst this;exact absurd rfl h
  ·rfl
def qs0 {i v}:(upd F' (some i) v).get i=some v:=by
 simp [upd,PF.get,J2]
def Sim.slot (h:Sim T w0 S0 ⟨F,H⟩ F' w S φ) {dst a v} (f:VR T w S φ a v) (c:okA H a):Sim T w0 S0 ⟨za5 T F dst a,H⟩ (upd F' dst v) w S φ:=by
 refine ⟨?_,?_,h.chg,h.own,h.ex,h.lives,h.pins,h.ents,h.eids,h.apart⟩
 ·intro i b d;rcases qh6 d with ⟨rfl,rfl⟩|⟨g,e⟩
  ·exact ⟨v,qs0,f⟩
  ·obtain ⟨u,j,k⟩:=h.fr i b e;exact ⟨u,by rw [qs1 g];exact j,k⟩
 ·intro i b d;rcases qh6 d with ⟨_,rfl⟩|⟨_,e⟩
  ·exact c
  ·exact h.ids i b e
def Sim.pure (h:Sim T w0 S0 ⟨F,H⟩ F' w S φ) (g:Chg [] w w'):Sim T w0 S0 ⟨F,H⟩ F' w' S φ:=by
 refine ⟨?_,h.ids,h.chg.pure g,fun b d=>⟨(h.own b d).1,V4 (h.own b d).2 g.size⟩,h.ex,h.lives,h.pins,?_,h.eids,h.apart⟩
 ·intro i a f;obtain ⟨v,k,l⟩:=h.fr i a f;exact ⟨v,k,l.chg T g (by simp) (fun b d=>.inl d)⟩
 ·intro i e j;have m:e.live=true-> ∀a,At (φ i) a->a.block∈S:=fun c a f=>(h.lives i e j c a f).1;exact (h.ents i e j).chg T g (by simp) (fun b d=>.inl d) fun c a f=>⟨by simp,m c a f⟩
def zu8 (φ:Nat->RA) (n:Nat) (r:RA):Nat->RA:=fun i=>if i=n then r else φ i
def zc3 {n i r} (h:i≠n):zu8 φ n r i=φ i:=by unfold zu8;rw [if_neg h]
def j6 {n r}:zu8 φ n r n=r:=by unfold zu8;rw [if_pos rfl]
def ze2 (h:Sim T w0 S0 ⟨F,H⟩ F' w S φ) {i e} (b:H[i]?=some e) (c:e.live=true) {a} (d:At (φ i) a):a.block∈S:=(h.lives i e b c a d).1
def kw9 (h:Sim T w0 S0 ⟨F,H⟩ F' w S φ) {i e} (b:H[i]?=some e) (c:e.live=true) {a} (d:(φ i).ad=some a):a.block∈S:=(h.lives i e b c a (.inl d)).1
def RA.all (r:RA):List Nat:=zb7 r.ad++r.xs
def zo7 {r b}:b∈r.all↔ ∃a,At r a/\a.block=b:=by
 unfold RA.all;rw [X4];constructor
 ·rintro (h|h)
  ·unfold zb7 at h;split at h
   ·rename_i a c;simp at h;exact ⟨a,.inl c,h.symm⟩
   ·cases h
  ·exact ⟨⟨b,0,none⟩,.inr h,rfl⟩
 ·rintro ⟨a,h|h,rfl⟩
  ·left;rw [h];simp [zb7]
  ·exact .inr h
def yf3 {ad n c a} (h:At ⟨ad,n,c,[]⟩ a):ad=some a:=by
 rcases h with h|h
 ·exact h
 ·cases h
def zw1 {g n c a} (h:At ⟨some ⟨g,0,none⟩,n,c,[]⟩ a):a.block=g:=by
 rcases h with h|h
 ·simp only [X0] at h;subst h;rfl
 ·cases h
def Sim.addG (h:Sim T w0 S0 ⟨F,H⟩ F' w S φ) {Tc} (J:Chg Tc w w') (V: ∀b∈Tc,b∈S) (A: ∀b∈Tc,b∈S0.chg\/w0.heap.size<=b) (n: ∀(j:Nat) (e:Ent T.U),H[j]?=some e->e.live=true-> ∀a,At (φ j) a->a.block∉Tc) (o: ∀b∈S,b∈S') (B: ∀b∈S',b∈S\/(w.heap.size<=b/\b<w'.heap.size)) {r e} (W: ∀a,At r a->w.heap.size<=a.block\/a.block∈Tc) (L: ∀a,At r a->a.block∈S')
  (Y:EntR T w' S' (zu8 φ H.length r) H.length e) (C: ∀j∈e.cellIds,j<H.length+1):
  Sim T w0 S0 ⟨F,H++ [e]⟩ F' w' S' (zu8 φ H.length r):=by
 have X: ∀b∈S',b∈S\/w.heap.size<=b:=fun b l=>(B b l).imp id And.left;have m: ∀i f,(H++ [e])[i]?=some f->(i<H.length/\H[i]?=some f)\/(i=H.length/\f=e):=by
  intro i f d;rcases M1 i H.length with u|u|u
  ·rw [X8 u] at d;exact .inl ⟨u,d⟩
  ·subst u;simp at d;exact .inr ⟨rfl,d.symm⟩
  ·rw [Y5 (by simp;omega)] at d;cases d
 have x: ∀(j:Nat) (f:Ent T.U),H[j]?=some f->f.live=true-> ∀a,At (φ j) a-> ∀b,At r b->a.block≠b.block:=by
  intro j f d p a g b l e;rcases W b l with y|y
  ·have:=(h.own _ (ze2 h d p g)).2;omega
  ·exact n j f d p a g (e▸y)
 refine ⟨?_,?_,?_,?_,fun b l Z q2=>o _ (h.ex b l Z q2),?_,fun k r K=>?_,?_,?_,?_⟩
 ·intro i a g;obtain ⟨v,z,D⟩:=h.fr i a g;refine ⟨v,z,(D.chg T J V X).phi fun j s=>zc3 ?_⟩;have:=(h.ids i a g).1 j s;simp only at this;omega
 ·intro i a g;obtain ⟨z,D⟩:=h.ids i a g;refine ⟨fun j s=>by have:=z j s;simp at this⊢;omega,?_⟩;cases a with
  |eptr j sz k c=>
   intro e' t xs M;rcases m _ _ M with ⟨_,M⟩|⟨s,_⟩
   ·exact D e' t xs M
   ·have:=z j (by simp [AV.ids]);simp at this;omega
  |_=>trivial
 ·exact h.chg.step J A
 ·intro b l;rcases B b l with l|⟨y,N⟩
  ·exact ⟨(h.own b l).1,V4 (h.own b l).2 J.size⟩
  ·exact ⟨.inr (W9 h.chg.size y),N⟩
 ·intro i f d p a g;rcases m i f d with ⟨u,d⟩|⟨rfl,rfl⟩
  ·rw [zc3 (by omega)] at g;have q:=h.lives i f d p a g;exact ⟨o _ q.1,q.2⟩
  ·rw [j6] at g;refine ⟨L a g,?_⟩;rcases W a g with y|y
   ·exact .inr (W9 h.chg.size y)
   ·exact A _ y
 ·obtain ⟨z,D⟩:=h.pins k r K;simp only at D;exact ⟨by rw [zc3 (by omega)];exact z,by simp only [X9];omega⟩
 ·intro i f d;rcases m i f d with ⟨u,d⟩|⟨rfl,rfl⟩
  ·have z:=(h.ents i f d).chg T J (S':=S') V X fun p a g=>⟨n i f d p a g,o _ (ze2 h d p g)⟩;have O:i≠H.length:=by omega
   refine z.phiE (zc3 O) fun j s=>.of (zc3 ?_);have:=h.eids i _ d j s;simp only at this;omega
  ·exact Y
 ·intro i f d j s;simp only [X9,U7,R2];rcases m i f d with ⟨u,d⟩|⟨rfl,rfl⟩
  ·have:=h.eids i f d j s;simp only at this;omega
  ·exact C j s
 ·intro i j f Q d R p E G a b g l;rcases m i f d with ⟨u,K⟩|⟨rfl,rfl⟩<;>rcases m j Q R with ⟨s,I⟩|⟨rfl,rfl⟩
  ·rw [zc3 (by omega)] at g l;exact h.apart i j f Q K I p E G a b g l
  ·rw [zc3 (by omega)] at g;rw [j6] at l;exact x i f K p a g b l
  ·rw [j6] at g;rw [zc3 (by omega)] at l;exact (x j Q I E b l a g).symm
  ·exact absurd rfl G
def Sim.add (h:Sim T w0 S0 ⟨F,H⟩ F' w S φ) {g} (m:Chg [] w w') (k:w.heap.size<=g) (f:g<w'.heap.size) {r e} (l: ∀a,At r a->a.block=g) (n:EntR T w' (g::S) (zu8 φ H.length r) H.length e) (c: ∀j∈e.cellIds,j<H.length+1):
  Sim T w0 S0 ⟨F,H++ [e]⟩ F' w' (g::S) (zu8 φ H.length r):=h.addG m (by simp) (by simp) (fun _ _ _ _ _ _=>by simp) (fun b d=>Z4 _ d) (fun b d=>by
  rcases Z0.1 d with rfl|d
  ·exact .inr ⟨k,f⟩
  ·exact .inl d) (fun a i=>.inl (by rw [l a i];exact k)) (fun a i=>by rw [l a i];exact U3 ..) n c
def Sim.upd (h:Sim T w0 S0 ⟨F,H⟩ F' w S φ) {i e0 e} (q:H[i]?=some e0) (m:e0.live=true) {Tc} (J:Chg Tc w w') (M: ∀b∈Tc,∃a,At (φ i) a/\a.block=b)
  (Y:EntR T w' S φ i e) (B: ∀j∈e.cellIds,j<H.length) (C: ∀K t xs,e=.row K t xs-> ∃N ys,e0=.row N t ys/\ys.length<=xs.length):Sim T w0 S0 ⟨F,H.set i e⟩ F' w' S φ:=by
 have D: ∀b∈Tc,b∈S:=by
  intro b l;obtain ⟨a,g,rfl⟩:=M b l;exact ze2 h q m g
 have O:i<H.length:=(X2.1 q).1;have n: ∀j f,(H.set i e)[j]?=some f->(j=i/\f=e)\/(j≠i/\H[j]?=some f):=by
  intro j f d;by_cases o:j=i
  ·subst o;rw [Q0 O] at d;simp only [X0] at d;exact .inl ⟨rfl,d.symm⟩
  ·rw [Z5 (Ne.symm o)] at d;exact .inr ⟨o,d⟩
 refine ⟨?_,?_,?_,?_,h.ex,?_,fun k r L=>?_,?_,?_,?_⟩
 ·intro j a g;obtain ⟨v,E,z⟩:=h.fr j a g;exact ⟨v,E,z.chg T J D (fun b l=>.inl l)⟩
 ·intro j a g;obtain ⟨E,z⟩:=h.ids j a g;refine ⟨fun x A=>by simpa using E x A,?_⟩;cases a with
  |eptr y sz k c=>
   intro K t xs A;rcases n _ _ A with ⟨Z,u⟩|⟨_,u⟩
   ·obtain ⟨N,ys,Q,s⟩:=C K t xs u.symm;subst Q;subst Z;obtain ⟨g1,g2⟩:=z N t ys q;exact ⟨by omega,g2⟩
   ·exact z K t xs u
  |_=>trivial
 ·refine h.chg.step J fun b l=>?_;obtain ⟨a,g,rfl⟩:=M b l;exact (h.lives i e0 q m a g).2
 ·exact fun b l=>⟨(h.own b l).1,V4 (h.own b l).2 J.size⟩
 ·intro j f d s a g;rcases n j f d with ⟨rfl,rfl⟩|⟨_,d⟩
  ·exact h.lives j e0 q m a g
  ·exact h.lives j f d s a g
 ·obtain ⟨E,z⟩:=h.pins k r L;exact ⟨E,by simpa using z⟩
 ·intro j f d;rcases n j f d with ⟨rfl,rfl⟩|⟨o,d⟩
  ·exact Y
  ·refine (h.ents j f d).chg T J D (fun b l=>.inl l) fun s a g=>⟨fun l=>?_,ze2 h d s g⟩;obtain ⟨a',R,V⟩:=M _ l;exact h.apart j i f e0 d q s m o a a' g R V.symm
 ·intro j f d x A;simp only [Q1];rcases n j f d with ⟨rfl,rfl⟩|⟨_,d⟩
  ·exact B x A
  ·exact h.eids j f d x A
 ·intro j k f W d X s G p a b g l;rcases n j f d with ⟨rfl,rfl⟩|⟨hj,L⟩<;>rcases n k W X with ⟨rfl,rfl⟩|⟨hj',I⟩
  ·exact absurd rfl p
  ·exact h.apart j k e0 W q I m G p a b g l
  ·exact h.apart j k f e0 L q s m p a b g l
  ·exact h.apart j k f W L I s G p a b g l
def Sim.drop (h:Sim T w0 S0 ⟨F,H⟩ F' w S φ) (i:Nat):Sim T w0 S0 ⟨F,H.set i .gone⟩ F' w S φ:=by
 have get: ∀(j:Nat) (f:Ent T.U),(H.set i .gone)[j]?=some f->f=.gone\/H[j]?=some f:=by
  intro j f hf;by_cases hji:j=i
  ·subst hji;by_cases hl:j<H.length
   ·rw [Q0 hl] at hf;simp only [X0] at hf;exact .inl hf.symm
   ·rw [Y5 (by simp;omega)] at hf;cases hf
  ·rw [Z5 (Ne.symm hji)] at hf;exact .inr hf
 refine ⟨h.fr,?_,h.chg,h.own,h.ex,?_,fun k r hk=>?_,?_,?_,?_⟩
 ·intro j a ha;obtain ⟨h1,h2⟩:=h.ids j a ha;refine ⟨fun x hx=>by simpa using h1 x hx,?_⟩;cases a with
  |eptr y sz k c=>
   intro e1 t xs hx;rcases get _ _ hx with hx|hx
   ·cases hx
   ·exact h2 e1 t xs hx
  |_=>trivial
 ·intro j f hf hl a ha;rcases get j f hf with rfl|hf
  ·cases hl
  ·exact h.lives j f hf hl a ha
 ·obtain ⟨h1,h2⟩:=h.pins k r hk;exact ⟨h1,by simpa using h2⟩
 ·intro j f hf;rcases get j f hf with rfl|hf
  ·trivial
  ·exact h.ents j f hf
 ·intro j f hf x hx;simp only [Q1];rcases get j f hf with rfl|hf
  ·cases hx
  ·exact h.eids j f hf x hx
 ·intro j k f f' hf hf' hl hl' hjk a b ha hb;rcases get j f hf with rfl|hk
  ·cases hl
  ·rcases get k f' hf' with rfl|hk'
   ·cases hl'
   ·exact h.apart j k f f' hk hk' hl hl' hjk a b ha hb
end
end Go.X
namespace Go.X
open Go.RowKit Go.V
section
variable {T:Tab} {P:Program} {w w':World} {S S':List Nat} {φ φ':Nat->RA} {w0:World} {S0:Ow} {F:AF T} {H:List (Ent T.U)} {F':PF}
variable {rd:List Nat} {ops:Array Oper} {Q:Exit->Act->World->Prop} {k n:Nat} {ds:List Deferred} {o:Oper}
def zq8 (P:Program) (ops:Array Oper) (Q:Exit->Act->World->Prop) (k n:Nat) (ds:List Deferred) (w0:World) (S0:Ow) (st:St T):Prop:= ∀F1 a,zc4 T w0 S0 st F1 a->WR P ops Q k n ds F1 a
def zn4 {a} (h:a.ids= []) (d: ∀i sz k c,a≠.eptr i sz k c):okA H a:=by
 refine ⟨fun i b=>(by rw [h] at b;cases b),?_⟩;cases a<;>first|trivial|exact absurd rfl (d _ _ _ _)
def yu5 (v:Value):(yq8 T v).ids= []:=by cases v<;>rfl
def yl8: ∀l:List Value,q7 (l.map (yq8 T))= []
 | []=>rfl
 |v::r=>by rw [U1,q7,yu5,yl8 r];rfl
def jx9 (v:Value):(ofV T v).ids= []:=by
 have h:=yu5 (T:=T) v;cases v<;>first|exact h|(show (AV.agg _).ids= [];rw [AV.ids];exact yl8 _)
def kx1 (v:Value):okA H (ofV T v):=zn4 (jx9 v) (by intro i sz k c;cases v<;>simp [ofV,yq8])
def zb9 (h:Sim T w0 S0 ⟨F,H⟩ F' w S φ) {x:Operand} {a:AV T.U} (ha:aev T F x=some a):okA H a:=by
 cases x with
 |tmp t=>exact h.ids t a ha
 |const v=>simp only [aev,X0] at ha;subst ha;exact kx1 v
 |global g=>cases ha
 |func f=>simp only [aev,X0] at ha;subst ha;exact zn4 rfl (by intros;simp)
def qe5 {e} (b:dec ops k n F'=some o) (a:o.op=.alloc e):yt7 ops k n F'=some (o.dst,e):=by
 unfold yt7;rw [b];cases o;simp only at a;subst a;rfl
def vh5 {e x} (b:dec ops k n F'=some o) (a:o.op=.box e x):qb1 ops k n F'=some (o.dst,e,evD F' x):=by
 unfold qb1;rw [b];cases o;simp only at a;subst a;rfl
def zx0 {t x} (b:dec ops k n F'=some o) (a:o.op=.load t x):zo4 ops k n F'=some (o.dst,t,evD F' x):=by
 unfold zo4;rw [b];cases o;simp only at a;subst a;rfl
def yf7 {a} (h:ya8 T a=true):q7 (ze7 T a)=a.ids:=by
 rcases yn3 h with ⟨cs,rfl⟩|⟨_,b⟩
 ·rfl
 ·rw [b,q7,q7,J7]
def kw0 {e x} (u:dec ops k n F'=some o) (p:o.op=.box e x) {a} (l:aev T F x=some a) {cs} (q: ∀(w:World) (S:List Nat) (φ:Nat->RA) (v:Value),VR T w S φ a v->BR T w S φ cs v.cells.toList) (d: ∀i∈q7 cs,i∈a.ids) (h:Sim T w0 S0 ⟨F,H⟩ F' w S φ)
  (K:zq8 P ops Q (k+1) n ds w0 S0 (⟨za5 T F o.dst (.ptr H.length 0),H++ [.blk e cs]⟩:St T)):WR P ops Q k n ds F' w:=by
 obtain ⟨v,y,z⟩:=j7 h.fr l;have f:=zb9 h l;refine WR.box (v:=v) (by rw [vh5 u p,j8 y]) _ rfl fun g w' c=>K _ _ ⟨g::S,zu8 φ H.length ⟨some ⟨g,0,none⟩,0,0,[]⟩,?_⟩;have A: ∀b∈g::S,b∈S\/w.heap.size<=b:=by
  intro b s;rcases Z0.1 s with rfl|s
  ·exact .inr c.fresh
  ·exact .inl s
 have B:=h.add (r:=⟨some ⟨g,0,none⟩,0,0,[]⟩) c.chg c.fresh c.blk.lt (fun a l=>zw1 l) (e:=.blk e cs)
  ⟨g,v.cells,by rw [j6],c.blk,by simp,((q _ _ _ _ z).chg T c.chg (by simp) A).phi fun i m=>zc3 (by have:=f.1 i (d i m);omega)⟩
  (by intro j t;rw [Ent.cellIds] at t;have:=f.1 j (d j t);omega)
 refine B.slot ⟨g,by rw [j6],rfl⟩ ⟨by intro i m;simp [AV.ids] at m;subst m;simp,trivial⟩
def jf9 {t cs j a} (h:zt0 T P t cs j=some a): ∃i d,P.info? t=some i/\P.underlying t=some d/\jm4 T cs j i.size (yb5 d)=some a:=by
 unfold zt0 at h;split at h
 ·rename_i i d b c;exact ⟨i,d,b,c,h⟩
 ·cases h
def vc2 {t cs c j a} (f:BR T w S φ cs c.toList) (h:jc6 T P t cs j=some a): ∃v,ldv P t c j=some v/\VR T w S φ a v:=by
 unfold jc6 at h;split at h
 ·rename_i i d g l;obtain ⟨v,b,m,e⟩:=vs9 f h;refine ⟨v,?_,m⟩;unfold ldv;rw [g,l];cases d<;>simp only [yb5] at b e⊢ <;>first|simpa using b|(rw [show Nat.ble (j+i.size) c.size=true from W5 (e trivial)];simpa using b)
 ·cases h
def js6 {t cs j a} (h:jc6 T P t cs j=some a): ∀i∈a.ids,i∈q7 cs:=by
 unfold jc6 at h;split at h
 ·exact vs8 h
 ·cases h
def zh9 {a:AV T.U}: ∀ {l},a∈l-> ∀i∈a.ids,i∈q7 l
 | [],h,_,_=>by cases h
 |b::r,h,i,c=>by
  rw [q7];rcases Z0.1 h with rfl|h
  ·exact X4.2 (.inl c)
  ·exact X4.2 (.inr (zh9 h i c))
def zr2 {i:Nat}: ∀ {l:List (AV T.U)},i∈q7 l-> ∃a∈l,i∈a.ids
 | [],h=>by cases h
 |b::r,h=>by
  rw [q7] at h;rcases X4.1 h with h|h
  ·exact ⟨b,by simp,h⟩
  ·obtain ⟨a,c,d⟩:=zr2 h;exact ⟨a,Z4 _ c,d⟩
def jj6 {cs j m d a} (h:jm4 T cs j m d=some a): ∀i∈a.ids,i∈q7 cs:=by
 unfold jm4 at h;split at h
 ·split at h
  ·simp only [X0] at h;subst h;intro i c;rw [AV.ids] at c;obtain ⟨b,e,c⟩:=zr2 c;exact zh9 (List.mem_of_mem_drop (N3 e)) i c
  ·cases h
 ·intro i c;exact zh9 (X6 h) i c
def noE (cs:List (AV T.U)):Prop:= ∀a∈cs,∀i sz k c,a≠.eptr i sz k c
def kj4 {cs} (b:noE cs) {j m d a} (h:jm4 T cs j m d=some a) (e: ∀i∈q7 cs,i<H.length):okA H a:=by
 refine ⟨fun i f=>e i (jj6 h i f),?_⟩;cases a with
 |eptr i sz k c=>
  unfold jm4 at h;split at h
  ·split at h
   ·cases h
   ·cases h
  ·exact absurd rfl (b _ (X6 h) i sz k c)
 |_=>trivial
def Same (φ:Nat->RA) (rd:List Nat) (w b:World):Prop:= ∀e∈rd,∀a,(φ e).ad=some a->a.block<w.heap.size->b.heap[a.block]?=w.heap[a.block]?
def QR (P:Program) (F':PF) (o:Oper) (S:List Nat) (φ:Nat->RA) (rd:List Nat) (w:World) (v:Value):Prop:= ∀a,Chg S w a->Same φ rd w a->(execOp (evD F') o).run P a=.ok (.value v) a
def Same.pure {rd b} (c:Chg [] w b):Same φ rd w b:=fun _ _ _ _ a=>c.block _ a (by simp)
def qy9 {w1:World} (hc:Chg [] w w1) (S:List Nat):Chg S w w1:=(Chg.refl S w).step hc (by simp)
def Rg.same {ad cs a} (h:Rg w ad cs) (c:a.heap[bk ad]?=w.heap[bk ad]?):Rg a ad cs:=fun j u b=>⟨(h j u b).1,(World.cell?_of_block c).trans (h j u b).2⟩
def yh4 {o'} (h:dec ops k n F'=some o) (a:dec ops k n F'=some o'):o'=o:=by rw [h] at a;cases a;rfl
def QR.load {t:TypeId} {g j:Nat} {c:Array Value} {e:TypeId} {dst:Option Tmp} (h0:dec ops k n F'=some o) (hb: ∀w1,Chg S w w1->Same φ rd w w1->Blk w1 g c e) (hd:zo4 ops k n F'=some (dst,t,.pointer (some ⟨g,j,none⟩))) (v:Value) (hv:ldv P t c j=some v):QR P F' o S φ rd w v:=by
 intro w1 hc hs;obtain ⟨op,hdec,_,he⟩:=zj3 hd;rw [<-yh4 h0 hdec,he];simp [Instr.loadAt,Instr.sureAddr,zt3 (hb w1 hc hs) hv]
def QR.load1 {dst:Option Tmp} {t:TypeId} {a:Addr} (h0:dec ops k n F'=some o) (hd:zo4 ops k n F'=some (dst,t,.pointer (some a))) (hs:zj9 P t=true) (v:Value) (hv: ∀w1,Chg S w w1->Same φ rd w w1->w1.cell? a=some v):QR P F' o S φ rd w v:=by
 intro w1 hc hsm;obtain ⟨op,hdec,_,he⟩:=zj3 hd;rw [<-yh4 h0 hdec,he];simp [Instr.loadAt,Instr.sureAddr,zf9 hs (hv w1 hc hsm)]
def QR.loadA {dst:Option Tmp} {t:TypeId} {ad:Option Addr} {j:Nat} {cs:List Value} {sz:Nat} (h0:dec ops k n F'=some o) (hr: ∀w1,Chg S w w1->Same φ rd w w1->Rg w1 ad cs) (hd:zo4 ops k n F'=some (dst,t,.pointer (some ⟨bk ad,of ad+j,none⟩))) (ha:zj9 P t=false) (hu:(P.underlying t).isSome=true) (hs:yv5 P t=some sz) (vs:List Value) (hl:vs.length=sz) (hv:(cs.drop j).take sz=vs):QR P F' o S φ rd w (.agg vs.toArray):=by
 intro w1 hc1 hsm1;have hr:=hr w1 hc1 hsm1;obtain ⟨op,hdec,_,he⟩:=zj3 hd;rw [<-yh4 h0 hdec];obtain ⟨d,hd'⟩:=T0.1 hu;have hag:yb5 d=true:=by
  unfold zj9 at ha;rw [hd'] at ha;cases d<;>first|rfl|cases ha
 have hs':(sizeOf t).run P w1=.ok sz w1:=by
  unfold yv5 at hs;cases hin:P.info? t with
  |none=>rw [hin] at hs;cases hs
  |some inf=>rw [hin] at hs;simp at hs;simp [sizeOf,typeInfo,hin,hs]
 have hc:=run_loadCells_list (P:=P) (w:=w1) ⟨bk ad,of ad+j,none⟩ vs (fun i v hi=>by
  have hadd:(⟨bk ad,of ad+j,none⟩:Addr).add i=⟨bk ad,of ad+(j+i),none⟩:=by unfold Addr.add;split<;>simp_all [V2]
  rw [hadd];rw [<-hv,Z3] at hi;split at hi
  ·rw [Q6] at hi;exact (hr (j+i) v hi).2
  ·cases hi)
 rw [hl] at hc;have hlv:(loadVar t ⟨bk ad,of ad+j,none⟩).run P w1=.ok (.agg vs.toArray) w1:=by
  unfold loadVar;rw [Sem.run_bind,zv6 hd',hag];simp only [Result.andThen_ok,if_true,Sem.run_bind,hs',hc,Sem.run_pure]
 rw [he];simp [Instr.loadAt,Instr.sureAddr,hlv]
def QR.indexS {dst:Option Tmp} {t:TypeId} {b o1 m cap:Nat} {kk:IntKind} {i:Int} (h0:dec ops k n F'=some o) (hd:zq2 ops k n F'=some (dst,t,.slice (some ⟨b,o1,none⟩) m cap,.int kk i)) (sz:Nat) (hsz:zl6 P t=some sz) (j:Nat) (hj:i=(j:Int)) (hi:j<m):QR P F' o S φ rd w (.pointer (some ⟨b,o1+j*sz,none⟩)):=by
 subst hj;obtain ⟨op,hdec,_,hrun⟩:=ye5 hd hsz (by omega) (by omega);rw [<-yh4 h0 hdec];intro w1 _ _;simpa using hrun w1
def QR.sliceH {dst:Option Tmp} {t e:TypeId} {ad:Option Addr} {m cap:Nat} {kk:IntKind} {h:Int} {sz by_:Nat} {zc:Array Value} (h0:dec ops k n F'=some o) (hd:zm8 ops k n F'=some (dst,t,.slice ad m cap,none,some (.int kk h))) (hi:zk6 P t=some (e,sz,by_,zc)) (j:Nat) (hj:h=(j:Int)) (hle:j<=cap):QR P F' o S φ rd w (.slice ad j cap):=by
 subst hj;intro w _ _;obtain ⟨o',hdec,_,he⟩:=zj8 hd;obtain ⟨i,z,hu,hin,_⟩:=zb3 hi;have hel:P.elem t=e:=by simp [Program.elem,hu]
 have hs:(sizeOf e).run P w=.ok i.size w:=by simp [sizeOf,typeInfo,hin]
 rw [<-yh4 h0 hdec,he,Sem.run_bind,run_sliceAt_slice w t _ _ _ _ (zl1 hu),run_slice_h w t ad m cap (zl1 hu) kk j (by omega) (by omega),hel,hs];simp only [Result.andThen_ok,sliced,Z1,M4,J4];split<;>(cases ad<;>simp [Addr.add])
def QR.sliceLH {dst:Option Tmp} {t e:TypeId} {ad:Option Addr} {m cap:Nat} {kl kk:IntKind} {l h:Int} {sz by_:Nat} {zc:Array Value} (h0:dec ops k n F'=some o) (hd:zm8 ops k n F'=some (dst,t,.slice ad m cap,some (.int kl l),some (.int kk h))) (hi:zk6 P t=some (e,sz,by_,zc)) (i j:Nat) (hl:l=(i:Int)) (hj:h=(j:Int)) (hij:i<=j) (hle:j<=cap):
  QR P F' o S φ rd w (.slice (if cap=i then ad else ad.map (·.add (i*sz))) (j-i) (cap-i)):=by
 subst hj hl;intro w _ _;obtain ⟨o',hdec,_,he⟩:=zj8 hd;obtain ⟨inf,z,hu,hin,_,hsz,_⟩:=zb3 hi;have hel:P.elem t=e:=by simp [Program.elem,hu]
 have hs:(sizeOf e).run P w=.ok sz w:=by simp [sizeOf,typeInfo,hin,hsz]
 rw [<-yh4 h0 hdec,he,Sem.run_bind,run_sliceAt_slice w t _ _ _ _ (zl1 hu),run_slice_lh w t ad m cap (zl1 hu) kl kk i j (by omega) (by omega) (by omega),hel,hs];simp only [Result.andThen_ok,sliced,Z1];rfl
def QR.sliceL {dst:Option Tmp} {t e:TypeId} {ad:Option Addr} {m cap:Nat} {kl:IntKind} {l:Int} {sz by_:Nat} {zc:Array Value} (h0:dec ops k n F'=some o) (hd:zm8 ops k n F'=some (dst,t,.slice ad m cap,some (.int kl l),none)) (hi:zk6 P t=some (e,sz,by_,zc)) (i:Nat) (hl:l=(i:Int)) (hle:i<=m):
  QR P F' o S φ rd w (.slice (if cap=i then ad else ad.map (·.add (i*sz))) (m-i) (cap-i)):=by
 subst hl;intro w _ _;obtain ⟨o',hdec,_,he⟩:=zj8 hd;obtain ⟨inf,z,hu,hin,_,hsz,_⟩:=zb3 hi;have hel:P.elem t=e:=by simp [Program.elem,hu]
 have hs:(sizeOf e).run P w=.ok sz w:=by simp [sizeOf,typeInfo,hin,hsz]
 rw [<-yh4 h0 hdec,he,Sem.run_bind,run_sliceAt_slice w t _ _ _ _ (zl1 hu),run_slice_l w t ad m cap (zl1 hu) kl i (by omega) (by omega),hel,hs];simp only [Result.andThen_ok,sliced,Z1];rfl
def qs8 {Z:Prop} {t:TypeId} {x:Operand} (p:dec ops k n F'=some o) (b:o.op=.load t x) {i j:Nat} {e:TypeId} {cs:List (AV T.U)} {a:AV T.U} (y:aev T F x=some (.ptr i j)) (q:H[i]?=some (.blk e cs)) (z: ∀i sz k c,a≠.eptr i sz k c) (r:jc6 T P t cs j=some a)
  (h:Sim T w0 S0 ⟨F,H⟩ F' w S φ) (d:i∈rd) (K: ∀v,QR P F' o S φ rd w v->VR T w S φ a v->okA H a->Z):Z:=by
 obtain ⟨v,A,g,s,rfl⟩:=j7 h.fr y;obtain ⟨E,c,f,u,G,B⟩:=h.ents i _ q;rw [s] at f;simp only [X0,Addr.mk.injEq,and_true] at f;subst f;obtain ⟨v,C,D⟩:=vc2 B r;refine K v (QR.load p (fun I _ l=>(l i d _ s u.lt).trans u) (by rw [zx0 p b,j8 A]) v C) D ⟨fun i m=>h.eids _ _ q i (js6 r i m),?_⟩;cases a<;>first|trivial|exact absurd rfl (z _ _ _ _)
def yp2 (t:Ty) (x:den T.U t):q7 (zu4 T t x)= []:=by
 unfold zu4;generalize zb1 T t x=l;induction l with
 |nil=>rfl
 |cons c r ih=>rw [U1,q7,ih];rfl
def yp3 (t:Ty) (x:den T.U t):noE (zu4 T t x):=by
 intro a ha i sz k c e;unfold zu4 at ha;obtain ⟨c',_,rfl⟩:=U2.1 ha;cases e
def jx6 {Z:Prop} {t:TypeId} {x:Operand} (q:dec ops k n F'=some o) (r:o.op=.load t x) {b o0 c:Nat} {cs:List (AV T.U)} {e:List Value} {a:AV T.U} (D:ev F' x=some (.pointer (some ⟨b,o0+c,none⟩)))
  (B: ∀h,Chg S w h->Same φ rd w h->Rg h (some ⟨b,o0,none⟩) e) (s:VRL T w S φ cs e) (E:noE cs) (l:q7 cs= []) (G:zt0 T P t cs c=some a)
  (K: ∀v,QR P F' o S φ rd w v->VR T w S φ a v->okA H a->Z):Z:=by
 obtain ⟨i,d,u,y,f⟩:=jf9 G;have m:okA H a:=kj4 E f (by rw [l];intro i u;cases u);have g:=zx0 q r;rw [j8 D] at g;cases hag:yb5 d with
 |false=>
  rw [hag] at f;obtain ⟨v,I,J⟩:=s.get T (show cs[c]?=some a from f);have z:zj9 P t=true:=by unfold zj9;rw [y];cases d<;>simp_all [yb5]
  refine K v (QR.load1 q g z v ?_) J m;exact fun h f A=>(B h f A c v I).2
 |true=>
  rw [hag] at f;unfold jm4 at f;simp only at f;split at f
  ·rename_i p;simp only [X0] at f;subst f;have z:zj9 P t=false:=by unfold zj9;rw [y];cases d<;>simp_all [yb5]
   have C:=s.len T;have p:=Y1 p;refine K _ (QR.loadA (ad:=some ⟨b,o0,none⟩) (j:=c) (cs:=e) (sz:=i.size) q B g z (by rw [y];rfl) (by unfold yv5;rw [u];rfl) ((e.drop c).take i.size) (by rw [Y6,Q7];omega) rfl) ⟨_,rfl,?_⟩ m;simpa using (s.drop T c).take T i.size
  ·cases f
def zn0 {α} {xs:List α} {k} (d:α) (a:k<xs.length):xs[k]?=some (xs.getD k d):=by
 rw [Y2,Y0 a];rfl
def vi7 {e xs ad cap} (h:CR T w S (.list e) xs (.slice ad xs.length cap)) {k} (z:k<xs.length):
  ∃a,Rg w (some ⟨bk ad,of ad+k*szT T e,none⟩) a/\VRL T w S φ (zu4 T e (xs.getD k (zz9 T e))) a/\bk ad∉S:=by
 generalize A:Value.slice ad xs.length cap=v at h;cases h with
 |list _ _ G B u C D q d f=>
  simp only [Value.slice.injEq,true_and] at A;obtain ⟨rfl,rfl⟩:=A;have E:=zn0 (zz9 T e) z;generalize xs.getD k (zz9 T e)=x at *;refine ⟨(List.range (szT T e)).map (u k),?_,?_,(q (fun e0=>by subst e0;simp at z)).2.2⟩
  ·intro j v b;refine ⟨rfl,?_⟩;simp only [bk,of];have g:j<szT T e:=by
    have:=(X2.1 b).1;simpa using this
   rw [W4,List.getElem?_range g] at b;simp only [Z8,X0] at b;subst b;have p:(zb1 T e x)[j]?=some ((zb1 T e x)[j]'(by rw [k7];exact g)):=Y0 _;have:=d k j _ (by rw [E];exact congrArg some p);rw [V2];exact this
  ·have y: ∀(l:List (Cell T.U)) (s m:Nat),l.length=m->(∀j c,l[j]?=some c->CR T w S c.t c.x (u k (s+j)))->VRL T w S φ (l.map .cell) ((List.range' s m).map (u k)):=by
    intro l;induction l with
    |nil=>intro s m i _;simp at i;subst i;simp [VRL]
    |cons c r I=>
     intro s m i p;cases m with
     |zero=>simp at i
     |succ m=>
      rw [U1,List.range'_succ,U1];refine ⟨p 0 c rfl,I (s+1) m (by simpa using i) fun j c' b=>?_⟩;have:=p (j+1) c' (by simpa using b);rwa [show s+1+j=s+(j+1) by omega]
   have:=y (zb1 T e x) 0 (szT T e) (k7 T e x) (fun j c b=>by rw [U0];exact f k j c (by rw [E];exact congrArg some b));unfold zu4;rw [List.range_eq_range'];exact this
def qf2 {Z:Prop} {t:TypeId} {x:Operand} (g:dec ops k n F'=some o) (d:o.op=.load t x) {e:Ty} {xs:List (den T.U e)} {i c:Nat} {a:AV T.U} (j:aev T F x=some (.lptr e xs i c)) (l:zt0 T P t (zu4 T e (xs.getD i (zz9 T e))) c=some a)
  (h:Sim T w0 S0 ⟨F,H⟩ F' w S φ) (K: ∀v,QR P F' o S φ rd w v->VR T w S φ a v->okA H a->Z):Z:=by
 obtain ⟨v,m,ad,cap,p,q,rfl⟩:=j7 h.fr j;obtain ⟨f,r,s,u⟩:=vi7 (φ:=φ) p q;exact jx6 g d (b:=bk ad) (o0:=of ad+i*szT T e) (c:=c) (by rw [m,V2]) (fun z y _=>r.chg y (.inl u)) s (yp3 _ _) (yp2 _ _) l K
def ja7 {t x y} (b:dec ops k n F'=some o) (a:o.op=.indexAddr t x y):zq2 ops k n F'=some (o.dst,t,evD F' x,evD F' y):=by
 unfold zq2;rw [b];cases o;simp only at a;subst a;rfl
def zz3 {t e} (h:ys7 T P t e=true):zl6 P t=some (szT T e):=by
 unfold ys7 at h;split at h
 ·rename_i s a;rw [a,X1 h]
 ·cases h
def v6 {R:Type} {c:Prop} [Decidable c] {x:Option R} {r:R} (h:(if c then x else none)=some r):c/\x=some r:=by
 split at h
 ·rename_i a;exact ⟨a,h⟩
 ·cases h
def jd6 (h:Sim T w0 S0 ⟨F,H⟩ F' w S φ) {i:Nat} {e:TypeId} {ty:Ty} {xs:List (den T.U ty)} (hi:H[i]?=some (.row e ty xs)) (hx:0<xs.length):
  ∃g c B vals,(φ i).ad=some ⟨g,0,none⟩/\(φ i).n=xs.length/\Own w B e (szT T ty) (φ i).ad xs.length (φ i).cap vals/\Blk w g c e/\(φ i).cap*szT T ty<=c.size/\c.toList.take (xs.length*szT T ty)=vals/\CellsR T w S (xs.flatMap (zb1 T ty)) vals/\g∈S/\B<=g/\B<=w.heap.size/\xs.length<=(φ i).cap/\(φ i).cap<=maxLen:=by
 obtain ⟨B,vals,h1,h2,h3,h4,h5⟩:=h.ents i _ hi;rw [h2] at h1;rcases h1.cases with ⟨_,hn,_⟩|⟨c,had,hB,hb,hle,hm,hs,ht⟩
 ·omega
 ·exact ⟨bk (φ i).ad,c,B,vals,had,h2,h1,hb,hs,ht,h4,h5 _ had,hB,h3,hle,hm⟩
def yh5 {α b:Type} {f:α->List b} {sz:Nat} (a: ∀y,(f y).length=sz): ∀ {l:List α} {k:Nat} {x:α},l[k]?=some x->((l.flatMap f).drop (k*sz)).take sz=f x
 | [],k,x,h=>by simp at h
 |y::r,0,x,h=>by
  simp at h;subst h;rw [V5,M4,N0,Z7 (by rw [a];exact W8 _),Q4 (by rw [a];exact W8 _)]
 |y::r,k+1,x,h=>by
  rw [V5,show (k+1)*sz=(f y).length+k*sz by rw [a,J0,J8],<-List.drop_drop,List.drop_left];exact yh5 a (by simpa using h)
def CellsR.vrl: ∀ {cs vs},CellsR T w S cs vs->VRL T w S φ (cs.map .cell) vs
 | [],[],_=>trivial
 | [],_::_,h=>by have:=h.1;simp at this
 |_::_,[],h=>by have:=h.1;simp at this
 |c::r,v::s,h=>⟨h.2 0 c v rfl rfl,CellsR.vrl ⟨by have:=h.1;simpa using this,fun j c' a b d=>h.2 (j+1) c' a (by simpa using b) (by simpa using d)⟩⟩
def CellsR.cut {cs:List (Cell T.U)} {vs:List Value} (h:CellsR T w S cs vs) (a b:Nat):CellsR T w S ((cs.drop a).take b) ((vs.drop a).take b):=by
 refine ⟨by rw [Y6,Y6,Q7,Q7,h.1],fun j c v h1 h2=>?_⟩;rw [Z3] at h1 h2;split at h1
 ·rename_i hj;rw [if_pos hj] at h2;rw [Q6] at h1 h2;exact h.2 _ c v h1 h2
 ·cases h1
def vz0 (h:Sim T w0 S0 ⟨F,H⟩ F' w S φ) {i e ty xs} (l:H[i]?=some (.row e ty xs)) {j} (m:j<xs.length):
  ∃g a,(φ i).ad=some ⟨g,0,none⟩/\Rg w (some ⟨g,0+j*szT T ty,none⟩) a/\VRL T w S φ (zu4 T ty (xs.getD j (zz9 T ty))) a:=by
 obtain ⟨g,c,B,a,b,_,p,_,_,_,q,_⟩:=jd6 h l (by omega);refine ⟨g,(a.drop (j*szT T ty)).take (szT T ty),b,?_,?_⟩
 ·have d:=p.rg;rw [b] at d;exact d.sub (j*szT T ty) (szT T ty) _ (fun _=>rfl)
 ·have f:=q.cut (j*szT T ty) (szT T ty);rw [yh5 (k7 T ty) (zn0 (zz9 T ty) m)] at f;exact f.vrl
def qf1 {Z:Prop} {t:TypeId} {x:Operand} (z:dec ops k n F'=some o) (d:o.op=.load t x) {i sz j c:Nat} {e:TypeId} {ty:Ty} {xs:List (den T.U ty)} {a:AV T.U} (u:aev T F x=some (.eptr i sz j c)) (f:H[i]?=some (.row e ty xs)) (A:zt0 T P t (zu4 T ty (xs.getD j (zz9 T ty))) c=some a)
  (h:Sim T w0 S0 ⟨F,H⟩ F' w S φ) (l:i∈rd) (K: ∀v,QR P F' o S φ rd w v->VR T w S φ a v->okA H a->Z):Z:=by
 obtain ⟨v,B,g,m,rfl⟩:=j7 h.fr u;obtain ⟨C,p⟩:=(zb9 h u).2 e ty xs f;obtain ⟨I,y,q,D,E⟩:=vz0 h f C;have r:=(h.own _ (kw9 h f rfl m)).2;rw [m] at q;simp only [X0,Addr.mk.injEq,and_true] at q;subst q;subst p;exact jx6 z d (b:=g) (o0:=0+j*szT T ty) (c:=c) (by rw [B,V2]) (fun G _ s=>Rg.same D (show G.heap[g]?=w.heap[g]? from s i l ⟨g,0,none⟩ m r)) E (yp3 _ _) (yp2 _ _) A K
def kk4 {Z:Prop} {R:Type} {r:R} {t:TypeId} {x y:Operand} (M:dec ops k n F'=some o) (W:o.op=.indexAddr t x y) {s:AV T.U} {kk:IntKind} {j:Int} (N:aev T F x=some s) (hy:aev T F y=some (cI T kk j)) {K0:AV T.U->Option R} (d:ya3 T P t H s j K0=some r)
  (h:Sim T w0 S0 ⟨F,H⟩ F' w S φ) (K: ∀a v,K0 a=some r->QR P F' o S φ rd w v->VR T w S φ a v->okA H a->Z):Z:=by
 obtain ⟨X,h1,z⟩:=j7 h.fr N;obtain ⟨Y,h3,h4⟩:=j7 h.fr hy;have e:=v8 h4;subst e;have l:=ja7 M W;rw [j8 h1,j8 h3] at l;unfold ya3 at d;split at d
 ·rename_i e xs;split at d
  ·rename_i q;obtain ⟨O,A⟩:=v6 d;have z:CR T w S (.list e) xs X:=z;have h2':=z;cases h2' with
   |list _ _ ad cap u D hnil C hcell hrel=>
    have hne:xs≠ []:=by intro e;subst e;simp at O;omega
    obtain ⟨ha,_,_⟩:=C hne;generalize bk ad=b at ha;generalize of ad=of0 at ha;subst ha;refine K _ _ A (QR.indexS M l _ (zz3 q) j.toNat (by omega) (by omega)) ⟨_,cap,z,by omega,rfl⟩ ?_;exact ⟨fun i E=>(by cases E),trivial⟩
  ·cases d
 ·rename_i i;split at d
  ·rename_i e ty xs E;split at d
   ·rename_i q;obtain ⟨O,A⟩:=v6 d;obtain ⟨g,c,B,vals,h5,h6,_⟩:=jd6 h E (by omega);rw [VR] at z;subst z;rw [h5,h6] at l;refine K _ _ A (QR.indexS M l _ (zz3 q) j.toNat (by omega) (by omega)) ⟨g,h5,by simp⟩ ?_;refine ⟨(zb9 h N).1,?_⟩;intro e1 t1 ys p;have G:H[i]?=some (.row e ty xs):=E;rw [G] at p;simp only [X0,Ent.row.injEq] at p;obtain ⟨rfl,rfl,hh⟩:=p;have:=eq_of_heq hh;subst this;exact ⟨by omega,rfl⟩
   ·cases d
  ·cases d
 ·rename_i i sz o1 m;split at d
  ·rename_i e ty xs E;split at d
   ·rename_i q f;have f:=X1 f;subst f;obtain ⟨O,hK1⟩:=v6 d;obtain ⟨hj2,A⟩:=v6 hK1;obtain ⟨ad,rfl,D,V,_⟩:=z;rcases V with V|⟨g,I,J⟩
    ·omega
    ·subst J;refine K _ _ A (QR.indexS M l _ (zz3 q) j.toNat (by omega) (by omega)) ⟨g,I,by simp [V8]⟩ ?_;refine ⟨(zb9 h N).1,?_⟩;intro e1 t1 ys p;have G:H[i]?=some (.row e ty xs):=E;rw [G] at p;simp only [X0,Ent.row.injEq] at p;obtain ⟨rfl,rfl,hh⟩:=p;have:=eq_of_heq hh;subst this;exact ⟨by omega,rfl⟩
   ·cases d
  ·rename_i e cs E;split at d
   ·rename_i s L;split at d
    ·rename_i f;have f:=X1 f;subst f;obtain ⟨O,A⟩:=v6 d;obtain ⟨ad,rfl,D,V,_⟩:=z;rcases V with V|⟨g,I,J⟩
     ·omega
     ·subst J;exact K _ _ A (QR.indexS M l _ L j.toNat (by omega) (by omega)) ⟨g,I,by simp [V8]⟩ ⟨(zb9 h N).1,trivial⟩
    ·cases d
   ·cases d
  ·cases d
 ·rename_i i o0 sz n0 lo m;split at d
  ·rename_i s L;split at d
   ·rename_i f;have f:=X1 f;subst f;obtain ⟨O,A⟩:=v6 d;obtain ⟨g,ad,hg,rfl,hle,C⟩:=z;rcases C with C|rfl
    ·omega
    ·exact K _ _ A (QR.indexS M l _ L j.toNat (by omega) (by omega)) ⟨g,hg,by omega,by simp [V8,V2]⟩ ⟨(zb9 h N).1,trivial⟩
   ·cases d
  ·cases d
 ·cases d
def qe6 {t:TypeId} {x:Operand} {lo hi:Option Operand} (hd:dec ops k n F'=some o) (hop:o.op=.slice t x lo hi none):zm8 ops k n F'=some (o.dst,t,evD F' x,lo.map (evD F'),hi.map (evD F')):=by
 unfold zm8;rw [hd];cases o;simp only at hop;subst hop;rfl
def jj8 {t e} (h:eIs T P t e=true): ∃b a c,zk6 P t=some (b,szT T e,a,c):=by
 unfold eIs at h;split at h
 ·rename_i b sz a c d;exact ⟨b,a,c,by rw [d,X1 h]⟩
 ·cases h
def zj0 (ad:Option Addr) (cap i sz:Nat):Option Addr:=if cap=i then ad else ad.map (·.add (i*sz))
def qw6 (ad:Option Addr) (cap sz:Nat):zj0 ad cap 0 sz=ad:=by
 unfold zj0;split
 ·rfl
 ·cases ad<;>simp [Addr.add]
def zz7 {Z:Prop} {t:TypeId} {x:Operand} {lo hi:Option Operand} (hd:dec ops k n F'=some o) (hop:o.op=.slice t x lo hi none) {ad:Option Addr} {m cap sz et by_:Nat} {zc:Array Value} (hX:ev F' x=some (.slice ad m cap)) (hmc:m<=cap) {l h:Option Int} {kl kh:IntKind}
  (hl:lo.map (evD F')=l.map (Value.int kl)) (hh:hi.map (evD F')=h.map (Value.int kh)) (he:zk6 P t=some (et,sz,by_,zc)) (hj:0<=l.getD 0/\l.getD 0<=h.getD m/\h.getD m<=cap) (hne:l≠none\/h≠none)
  (K:QR P F' o S φ rd w (.slice (if l=none then ad else zj0 ad cap (l.getD 0).toNat sz) ((h.getD m).toNat-(l.getD 0).toNat) (if l=none then cap else cap-(l.getD 0).toNat))->Z):Z:=by
 have hds:=qe6 hd hop;rw [j8 hX,hl,hh] at hds;cases l with
 |none=>
  cases h with
  |none=>simp at hne
  |some h=>
   have:=QR.sliceH (S:=S) (φ:=φ) (rd:=rd) (w:=w) hd hds he h.toNat (by simp at hj;omega) (by simp at hj;omega);exact K (by simpa using this)
 |some l=>
  cases h with
  |none=>
   have:=QR.sliceL (S:=S) (φ:=φ) (rd:=rd) (w:=w) hd hds he l.toNat (by simp at hj;omega) (by simp at hj;omega);exact K (by simpa [zj0] using this)
  |some h=>
   have:=QR.sliceLH (S:=S) (φ:=φ) (rd:=rd) (w:=w) hd hds he l.toNat h.toNat (by simp at hj;omega) (by simp at hj;omega) (by simp at hj;omega) (by simp at hj;omega);exact K (by simpa [zj0] using this)
def CR.sub {e} {xs:List (den T.U e)} {ad cap i m} (h:CR T w S (.list e) xs (.slice ad xs.length cap)) (I:i+m<=xs.length):CR T w S (.list e) ((xs.drop i).take m) (.slice (zj0 ad cap i (szT T e)) m (cap-i)):=by
 generalize D:Value.slice ad xs.length cap=v at h;cases h with
 |list _ _ J E u G g r p s=>
  simp only [Value.slice.injEq,true_and] at D;obtain ⟨rfl,rfl⟩:=D;have d:((xs.drop i).take m).length=m:=by rw [Y6,Q7];omega
  have t:(xs.drop i).take m≠ []->xs≠ []:=by intro h e;subst e;simp at h
  have x:(xs.drop i).take m≠ []->0<m:=by
   intro h;cases m with
   |zero=>simp at h
   |succ m=>omega
  have y: ∀j,j<m->((xs.drop i).take m)[j]?=xs[i+j]?:=by intro j K;rw [Z3,if_pos K,Q6]
  have l:(xs.drop i).take m≠ []->zj0 ad cap i (szT T e)=some ⟨bk ad,of ad+i*szT T e,none⟩:=by
   intro h;obtain ⟨A,_,_⟩:=r (t h);have:=x h;unfold zj0;rw [if_neg (by omega)];generalize bk ad=b at A⊢;generalize of ad=o1 at A⊢;subst A;simp only [Z8,Addr.add];split
   ·rename_i L;rw [L];rfl
   ·rfl
  have z:CR T w S (.list e) ((xs.drop i).take m) (.slice (zj0 ad cap i (szT T e)) ((xs.drop i).take m).length (cap-i)):=by
   refine .list e _ _ _ (fun k j=>u (i+k) j) (by rw [d];omega) ?_ ?_ ?_ ?_
   ·intro B;unfold zj0 at B;split at B
    ·have:=g B;rw [d];omega
    ·cases ad with
     |none=>have:=g rfl;rw [d];omega
     |some a=>cases B
   ·intro h;obtain ⟨A,M,N⟩:=r (t h);rw [l h];exact ⟨rfl,M,N⟩
   ·intro k j c f;have q:k<m:=by
     apply Classical.byContradiction;intro C;rw [Y5 (by rw [d];omega)] at f;cases f
    have C:(xs.drop i).take m≠ []:=by intro e;rw [e] at f;simp at f
    rw [y k q] at f;have:=p (i+k) j c f;rw [l C];show w.cell? ⟨bk ad,of ad+i*szT T e+(k*szT T e+j),none⟩=some (u (i+k) j);rw [show of ad+i*szT T e+(k*szT T e+j)=of ad+((i+k)*szT T e+j) by rw [V8];omega];exact this
   ·intro k j c f;have q:k<m:=by
     apply Classical.byContradiction;intro C;rw [Y5 (by rw [d];omega)] at f;cases f
    rw [y k q] at f;exact s (i+k) j c f
  rwa [d] at z
def jw1 (F:AF T):Option Operand->Option (Option Int)
 |none=>some none
 |some x=>match aev T F x with|some a=>(match intOf T a with|some i=>some (some i)|none=>none)|none=>none
def yt4 (hF:FR T w S φ F F') {x l} (h:jw1 F x=some l): ∃kl,x.map (evD F')=l.map (Value.int kl):=by
 cases x with
 |none=>simp only [jw1,X0] at h;subst h;exact ⟨.i64,rfl⟩
 |some y=>
  simp only [jw1] at h;split at h
  ·rename_i a c;split at h
   ·rename_i i b;simp only [X0] at h;subst h;obtain ⟨v,d,f⟩:=j7 hF c;unfold intOf at b;split at b
    ·rename_i k x;have e:=v8 f;subst e;refine ⟨k,?_⟩;have b:x=i:=X5 b;subst b;show some (evD F' y)=some (Value.int k x);rw [j8 d]
    ·cases b
   ·cases h
  ·cases h
def kp2 {Z:Prop} {R:Type} {r:R} {t:TypeId} {x:Operand} {lo E:Option Operand} (hd:dec ops k n F'=some o) (G:o.op=.slice t x lo E none) {s:AV T.U} {l m:Option Int} (hx:aev T F x=some s) (A:jw1 F lo=some l) (hhi:jw1 F E=some m) (I:l≠none\/m≠none)
  {K0:AV T.U->Option R} (b:ye2 T P t H s l m K0=some r) (h:Sim T w0 S0 ⟨F,H⟩ F' w S φ) (K: ∀a v,K0 a=some r->QR P F' o S φ rd w v->VR T w S φ a v->okA H a->Z):Z:=by
 obtain ⟨X,h1,J⟩:=j7 h.fr hx;obtain ⟨kl,e1⟩:=yt4 h.fr A;obtain ⟨kh,e2⟩:=yt4 h.fr hhi;unfold ye2 at b;split at b
 ·rename_i e xs;simp only at b;split at b
  ·rename_i he;obtain ⟨f,O⟩:=v6 b;obtain ⟨et,V,zc,q⟩:=jj8 he;have J:CR T w S (.list e) xs X:=J;have h2':=J;cases h2' with
   |list _ _ ad cap u j z d hcell hrel=>
    refine zz7 hd G h1 j e1 e2 q ⟨f.1,f.2.1,Int.le_trans f.2.2 (by have:=j;omega)⟩ I fun W=>K (.cell ⟨.list e,_⟩) _ O W ?_ ⟨fun i E=>(by cases E),trivial⟩;show CR T w S (.list e) (List.take ((m.getD (xs.length:Int)).toNat-(l.getD 0).toNat) (List.drop (l.getD 0).toNat xs)) _;have hle:(l.getD 0).toNat+((m.getD (xs.length:Int)).toNat-(l.getD 0).toNat)<=xs.length:=by omega
    have:=CR.sub J hle;cases l with
    |none=>
     have e0:zj0 ad cap 0 (szT T e)=ad:=by
      unfold zj0;split
      ·rfl
      ·cases ad with
       |none=>rfl
       |some a=>simp [Addr.add]
     simpa [e0] using this
    |some l=>simpa using this
  ·cases b
 ·rename_i i;split at b
  ·rename_i e ty xs E;simp only at b;split at b
   ·rename_i he;obtain ⟨f,O⟩:=v6 b;obtain ⟨et,V,zc,q⟩:=jj8 he;rw [VR] at J;subst J;obtain ⟨B,L,Y,g2,_,_,_⟩:=h.ents i _ E;have j:(φ i).n<=(φ i).cap:=Y.le.1;rw [<-g2] at f;refine zz7 hd G h1 j e1 e2 q ⟨f.1,f.2.1,by have:=f.2.2;omega⟩ I fun W=>K (.sl i (szT T ty) (l.getD 0).toNat ((m.getD (xs.length:Int)).toNat-(l.getD 0).toNat)) _ O W ?_ ⟨(zb9 h hx).1,trivial⟩;have A:(if l=none then (φ i).cap else (φ i).cap-(l.getD 0).toNat)=(φ i).cap-(l.getD 0).toNat:=by cases l<;>simp
    have C:(l.getD 0).toNat=0->(if l=none then (φ i).ad else zj0 (φ i).ad (φ i).cap (l.getD 0).toNat (szT T ty))=(φ i).ad:=by
     intro M;cases l with
     |none=>rfl
     |some l=>simp only [reduceCtorEq,if_false];rw [M,qw6]
    rw [VR,<-g2,A];refine ⟨_,rfl,?_,?_,?_,C⟩
    ·cases l<;>simp at f⊢ <;>omega
    ·rcases Y.cases with ⟨_,N,_⟩|⟨c,d,_,_,_⟩
     ·left;omega
     ·by_cases M:(m.getD ((φ i).n:Int)).toNat-(l.getD 0).toNat=0
      ·exact .inl M
      ·obtain ⟨g,hg⟩: ∃g,(φ i).ad=some ⟨g,0,none⟩:=⟨_,d⟩;refine .inr ⟨g,hg,?_⟩;cases l with
       |none=>simpa using hg
       |some l=>
        simp only [reduceCtorEq,if_false,V3] at f M⊢;unfold zj0;rw [if_neg (by omega),hg];simp only [Z8,Addr.add];split
        ·rename_i hz;simp [hz]
        ·simp
    ·intro p;rcases Y.cases with ⟨hn0,N,hc0,_⟩|⟨c,d,_,_,_⟩
     ·cases l<;>simp at f⊢ <;>omega
     ·cases l with
      |none=>simp at p;rw [p] at d;cases d
      |some l=>
       simp only [reduceCtorEq,if_false,V3] at p f⊢;unfold zj0 at p;split at p
       ·rw [p] at d;cases d
       ·rw [d] at p;cases p
   ·cases b
  ·cases b
 ·rename_i i sz D m1;split at b
  ·rename_i e ty xs E;simp only at b;split at b
   ·rename_i he y;have y:=X1 y;subst y;obtain ⟨f,O⟩:=v6 b;obtain ⟨et,V,zc,q⟩:=jj8 he;obtain ⟨ad,rfl,j,N,z,hz1⟩:=J;have hrow:xs.length<=(φ i).cap:=by
     obtain ⟨B,L,Y,g2,_,_,_⟩:=h.ents i _ E;have:=Y.le.1;omega
    have hjc:m.getD (m1:Int)<=(((φ i).cap-D:Nat):Int):=by
     have:=f.2.1;rcases f.2.2 with h3|⟨h3,_⟩<;>omega
    refine zz7 hd G h1 (by omega) e1 e2 q ⟨f.1,f.2.1,hjc⟩ I fun W=>K (.sl i (szT T ty) (D+(l.getD 0).toNat) ((m.getD (m1:Int)).toNat-(l.getD 0).toNat)) _ O W ?_ ⟨(zb9 h hx).1,trivial⟩;have A:(if l=none then (φ i).cap-D else (φ i).cap-D-(l.getD 0).toNat)=(φ i).cap-(D+(l.getD 0).toNat):=by cases l<;>simp<;>omega
    have C:D+(l.getD 0).toNat=0->(if l=none then ad else zj0 ad ((φ i).cap-D) (l.getD 0).toNat (szT T ty))=(φ i).ad:=by
     intro M;rw [<-hz1 (by omega)];cases l with
     |none=>rfl
     |some l=>simp only [reduceCtorEq,if_false];rw [show (Option.getD (some l) (0:Int)).toNat=0 by omega,qw6]
    rw [VR,A];refine ⟨_,rfl,?_,?_,?_,C⟩
    ·have:=f.1;have:=f.2.1;omega
    ·by_cases M:(m.getD (m1:Int)).toNat-(l.getD 0).toNat=0
     ·exact .inl M
     ·have N: ∃g,(φ i).ad=some ⟨g,0,none⟩/\ad=some ⟨g,0+D*szT T ty,none⟩:=by
       rcases N with N|N
       ·rcases f.2.2 with h3|⟨h3,h4⟩
        ·omega
        ·have ho:D=0:=by omega
         subst ho;obtain ⟨B,L,Y,g2,_,_,_⟩:=h.ents i _ E;rcases Y.cases with ⟨_,hn0,_⟩|⟨c,d,_,_,_⟩
         ·omega
         ·exact ⟨_,d,(hz1 rfl).trans (d.trans (by rw [M4]))⟩
       ·exact N
      rcases N with ⟨g,hg1,hg2⟩
      ·refine .inr ⟨g,hg1,?_⟩;subst hg2;cases l with
       |none=>simp
       |some l=>
        simp only [reduceCtorEq,if_false,V3] at f M⊢;unfold zj0;rw [if_neg (by omega)];simp only [Z8,Addr.add];split
        ·rename_i hz;simp [V8,hz]
        ·simp [V8]
    ·intro p;cases l with
     |none=>simp at p;have:=z p;simp at f⊢;omega
     |some l=>
      simp only [reduceCtorEq,if_false,V3] at p f⊢;unfold zj0 at p;split at p
      ·have:=z p;omega
      ·cases ad with
       |none=>have:=z rfl;omega
       |some a=>cases p
   ·cases b
  ·cases b
 ·rename_i i o0 sz n0 D m1;simp only at b;split at b
  ·rename_i et s V zc q;split at b
   ·rename_i y;have y:=X1 y;subst y;obtain ⟨f,O⟩:=v6 b;obtain ⟨g,ad,hg,rfl,hle,d⟩:=J;refine zz7 hd G h1 (by omega) e1 e2 q ⟨f.1,f.2.1,by have:=f.2.2;omega⟩ I fun W=>K (.asl i o0 s n0 (D+(l.getD 0).toNat) ((m.getD (m1:Int)).toNat-(l.getD 0).toNat)) _ O W ?_ ⟨(zb9 h hx).1,trivial⟩;rw [VR];cases l with
    |none=>exact ⟨g,ad,hg,by simp,by simp at f⊢;omega,by simpa using d⟩
    |some l=>
     simp only [reduceCtorEq,if_false,V3] at f⊢;unfold zj0;split
     ·rename_i hc0;exact ⟨g,ad,hg,by rw [Nat.sub_sub],by omega,.inl (by omega)⟩
     ·rename_i hc0;refine ⟨g,ad.add (l.toNat*s),hg,by rw [Nat.sub_sub];rfl,by omega,?_⟩;rcases d with d|d
      ·left;omega
      ·right;subst d;simp only [Addr.add];split
       ·rename_i hz;simp [V8,hz]
       ·simp [V8,V2]
   ·cases b
  ·cases b
 ·cases b
end
end Go.X
namespace Go.X
open Go.RowKit Go.V
section
variable {T:Tab} {P:Program} {w w':World} {S S':List Nat} {φ φ':Nat->RA} {w0:World} {S0:Ow} {F:AF T} {H:List (Ent T.U)} {F':PF}
variable {ops:Array Oper} {Q:Exit->Act->World->Prop} {k n:Nat} {ds:List Deferred} {o:Oper}
def yi7 {t x y} (c:dec ops k n F'=some o) (b:o.op=.store t x y) (a:o.dst=none):zy5 ops k n F'=some (t,evD F' x,evD F' y):=by
 unfold zy5;rw [c];cases o;simp only at b a;subst b;subst a;rfl
def yo1: ∀ {aS:List (AV T.U)} {vs:List Value},aS.all (zw3 T)=true->VRL T w S φ aS vs->vs.all Value.oneCell'=true
 | [],[],_,_=>rfl
 | [],_::_,_,h=>h.elim
 |_::_,[],_,h=>h.elim
 |a::r,v::s,h,hv=>by
  simp only [J1,X3] at h⊢;exact ⟨(yr9 h.1 hv.1).2,yo1 h.2 hv.2⟩
def yb7 {t o0 m a} (h:jm7 T P t o0 m a=true): ∃i,P.info? t=some i/\ya8 T a=true/\(ze7 T a).length=i.size/\o0+i.size<=m/\(ze7 T a).all (zw3 T)=true:=by
 unfold jm7 at h;split at h
 ·rename_i i b;simp only [X3] at h;exact ⟨i,b,h.1,X1 h.2.1,Y1 h.2.2.1,h.2.2.2⟩
 ·cases h
def qd8 {t o0 m a} (h:jm7 T P t o0 m a=true) {v} (d:VR T w S φ a v) {c p} (r:p+m<=c.size):stv P t c (p+o0) v=some (ya6 c (p+o0) v.cells.toList):=by
 obtain ⟨i,e,f,g,s,j⟩:=yb7 h;have b:=zj4 f d;have l:=b.len T;have q:=yo1 j b;unfold stv;rw [e];simp only;rw [show (Nat.beq v.cells.size i.size&&(Nat.ble (p+o0+i.size) c.size&&v.cells.toList.all Value.oneCell'))=true from ?_];simp only [X3];refine ⟨?_,W5 (by omega),q⟩;have:v.cells.size=i.size:=by rw [<-g,l];simp
 rw [this];exact J2 _
def yz4: ∀ {aS cs:List (AV T.U)} {o0:Nat},∀i∈q7 (yi5 T cs o0 aS),i∈q7 cs\/i∈q7 aS
 | [],cs,o0,i,h=>.inl h
 |a::r,cs,o0,i,h=>by
  rw [yi5] at h;rcases yz4 i h with h|h
  ·obtain ⟨b,hb,hi⟩:=zr2 h;rcases M0 hb with hb|hb
   ·exact .inl (zh9 hb i hi)
   ·subst hb;exact .inr (by rw [q7];exact X4.2 (.inl hi))
  ·exact .inr (by rw [q7];exact X4.2 (.inr h))
def zj2 {α:Type} (cs:List α) (o:Nat):List α->List α
 | []=>cs
 |a::r=>zj2 (cs.set o a) (o+1) r
def jy4: ∀(l cs:List (Cell T.U)) (o0:Nat),kd3 T cs o0 l=zj2 cs o0 l
 | [],_,_=>rfl
 |a::r,cs,o0=>by rw [kd3,zj2,jy4 r]
def yc2: ∀(l:List Value) (c:Array Value) (o0:Nat),(ya6 c o0 l).toList=zj2 c.toList o0 l
 | [],_,_=>rfl
 |v::r,c,o0=>by rw [ya6,zj2,yc2 r,A1]
def qj7 {α}: ∀(l cs:List α) (o0:Nat),(zj2 cs o0 l).length=cs.length
 | [],_,_=>rfl
 |a::r,cs,o0=>by rw [zj2,qj7 r,Q1]
def ym1 {α}: ∀(l cs:List α) (o0 m:Nat),(zj2 cs o0 l).take m=zj2 (cs.take m) o0 l
 | [],_,_,_=>rfl
 |a::r,cs,o0,m=>by rw [zj2,zj2,ym1 r,List.take_set]
def yj9 {α}: ∀(l pre c b:List α) (o0:Nat),o0+l.length<=c.length->zj2 (pre++c++b) (pre.length+o0) l=pre++zj2 c o0 l++b
 | [],_,_,_,_,_=>rfl
 |a::r,pre,c,b,o0,h=>by
  simp only [U7] at h;rw [zj2,zj2,Q2,List.set_append_right _ _ (by omega),M9,List.set_append_left _ _ (by omega),<-List.append_assoc,V2];exact yj9 r pre _ b (o0+1) (by rw [Q1];omega)
def flatMap_split {α c:Type} {f:α->List c} {sz:Nat} (d: ∀y,(f y).length=sz) {l:List α} {j:Nat} {x:α} (b:l[j]?=some x):
  l.flatMap f=(l.take j).flatMap f++f x++(l.drop (j+1)).flatMap f/\((l.take j).flatMap f).length=j*sz:=by
 have a:=(X2.1 b).1;have e:=(X2.1 b).2;constructor
 ·conv=>lhs;rw [<-List.take_append_drop j l,M6 a,e]
  rw [J3,V5,Q2]
 ·rw [flatMap_lenT d,Y6,V6 (by omega)]
where
 flatMap_lenT {α β:Type} {f:α->List β} {sz:Nat} (hf: ∀y,(f y).length=sz): ∀ {l:List α},(l.flatMap f).length=l.length*sz:=by
  intro l;induction l with
  |nil=>simp
  |cons a r ih=>rw [V5,X9,hf,ih,U7,J0,J8]
def yi8 {α e:Type} {f:α->List e} {sz:Nat} (a: ∀y,(f y).length=sz) {xs:List α} {j c:Nat} {x y:α} {l:List e} (g:xs[j]?=some x) (h:f y=zj2 (f x) c l) (i:c+l.length<=sz):(xs.set j y).flatMap f=zj2 (xs.flatMap f) (j*sz+c) l:=by
 have b:=(X2.1 g).1;obtain ⟨m,p⟩:=flatMap_split a g;have d:(xs.set j y)[j]?=some y:=Q0 b;obtain ⟨q,r⟩:=flatMap_split a d;rw [m,q,<-p,yj9 _ _ _ _ _ (by rw [a];exact i),h];rw [List.take_set_of_le (W8 _),List.drop_set_of_lt (by omega)]
def CellsR.set {cs:List (Cell T.U)} {vs:List Value} (h:CellsR T w S cs vs) (j:Nat) {c:Cell T.U} {v:Value} (hc:yk5 T w S c v):CellsR T w S (cs.set j c) (vs.set j v):=by
 refine ⟨by rw [Q1,Q1,h.1],fun i c' v' h1 h2=>?_⟩;by_cases hij:j=i
 ·subst hij;have l1:=(X2.1 h1).1;have l2:=(X2.1 h2).1;rw [Q1] at l1 l2;rw [Q0 l1] at h1;rw [Q0 l2] at h2;simp only [X0] at h1 h2;subst h1;subst h2;exact hc
 ·rw [Z5 hij] at h1 h2;exact h.2 i c' v' h1 h2
def CellsR.put: ∀ {l vl cs vs p},CellsR T w S l vl->CellsR T w S cs vs->CellsR T w S (zj2 cs p l) (zj2 vs p vl)
 | [],[],_,_,_,_,h=>h
 | [],_::_,_,_,_,h,_=>by have:=h.1;simp at this
 |_::_,[],_,_,_,h,_=>by have:=h.1;simp at this
 |c::r,v::s,cs,vs,p,h,a=>by
  rw [zj2,zj2];exact CellsR.put (l:=r) (vl:=s) ⟨by have:=h.1;simpa using this,fun j c' b d e=>h.2 (j+1) c' b (by simpa using d) (by simpa using e)⟩ (a.set p (h.2 0 c v rfl rfl))
def zs4: ∀ {aS:List (AV T.U)} {l:List (Cell T.U)} {vs:List Value},zd7 T aS=some l->VRL T w S φ aS vs->CellsR T w S l vs
 | [],l,vs,h,hv=>by
  simp only [zd7,X0] at h;subst h;cases vs with
  |nil=>exact ⟨rfl,fun j c v h=>by simp at h⟩
  |cons _ _=>exact hv.elim
 |a::r,l,vs,h,hv=>by
  unfold zd7 at h;split at h
  ·rename_i c l' hc hl;simp only [X0] at h;subst h;cases vs with
   |nil=>exact hv.elim
   |cons v s=>
    have ih:=zs4 hl hv.2;have hcv:yk5 T w S c v:=by
     cases a with
     |cell c'=>simp only [qa9,X0] at hc;subst hc;exact hv.1
     |_=>cases hc
    refine ⟨by simp [ih.1],fun j c' v' h1 h2=>?_⟩;cases j with
    |zero=>simp at h1 h2;subst h1;subst h2;exact hcv
    |succ j=>exact ih.2 j c' v' (by simpa using h1) (by simpa using h2)
  ·cases h
def jo2 {t:TypeId} {x y:Operand} (hd:dec ops k n F'=some o) (hop:o.op=.store t x y) (hdst:o.dst=none) {i sz j c:Nat} {e:TypeId} {ty:Ty} {xs:List (den T.U ty)} {a:AV T.U} (hx:aev T F x=some (.eptr i sz j c)) (hy:aev T F y=some a) (hi:H[i]?=some (.row e ty xs))
  (hf:jm7 T P t c (szT T ty) a=true) {l:List (Cell T.U)} (hl:zd7 T (ze7 T a)=some l) {y':den T.U ty} (hy':yo8 T ty (kd3 T (zb1 T ty (xs.getD j (zz9 T ty))) c l)=some y')
  (h:Sim T w0 S0 ⟨F,H⟩ F' w S φ) (K:zq8 P ops Q (k+1) n ds w0 S0 (⟨F,H.set i (.row e ty (xs.set j y'))⟩:St T)):WR P ops Q k n ds F' w:=by
 obtain ⟨X,h1,g,h2,rfl⟩:=j7 h.fr hx;obtain ⟨v,h3,h4⟩:=j7 h.fr hy;obtain ⟨hj,hsz⟩:=(zb9 h hx).2 e ty xs hi;subst hsz;obtain ⟨g',carr,B,vals,a1,a2,a3,a4,a5,a6,a7,a8,a9,a10,a11,a12⟩:=jd6 h hi (by omega);rw [h2] at a1;simp only [X0,Addr.mk.injEq,and_true] at a1;subst a1;obtain ⟨ii,hii,f1,f2,f3,f4⟩:=yb7 hf;have hds:=yi7 hd hop hdst;rw [j8 h1,j8 h3] at hds;have hle:j*szT T ty+szT T ty<=xs.length*szT T ty:=by rw [<-Nat.succ_mul];exact Q9 _ hj
 have hle2:xs.length*szT T ty<=carr.size:=W9 (Q9 _ a11) a5;have hst:=qd8 hf h4 (c:=carr) (p:=0+j*szT T ty) (by omega);rw [V2] at hst;have hcr:=zs4 hl (zj4 f1 h4);refine WR.store a4 hds _ hst fun w' hb' hc=>K _ _ ⟨S,φ,h.upd hi rfl hc ?_ ⟨B,(ya6 carr (0+(j*szT T ty+c)) v.cells.toList).toList.take (xs.length*szT T ty),?_,by rw [Q1];exact a2,W9 a10 hc.size,?_,?_⟩ ?_ ?_⟩
 ·intro b hb;simp at hb;subst hb;exact ⟨_,.inl h2,rfl⟩
 ·rw [h2,a2];exact Own.ofBlk hb' a9 a11 (by have:=a12;unfold maxLen at this;omega) (by rw [ym2];exact a5) _ rfl
 ·have hlen:c+l.length<=szT T ty:=by
   have:=hcr.1;have hv:=(zj4 f1 h4).len T;rw [this,<-hv,f2];exact f3
  have hfm:=yi8 (k7 T ty) (zn0 (zz9 T ty) hj) (l:=l) (y:=y') (c:=c) (by rw [zo2 T hy',jy4]) hlen;rw [hfm,yc2,ym1,U0,a6];exact (CellsR.put hcr a7).chg T hc (by intro b hb;simp at hb;subst hb;exact a8) (fun b hb=>.inl hb)
 ·intro a ha;rw [h2] at ha;simp only [X0] at ha;subst ha;exact a8
 ·intro q hq;cases hq
 ·intro e1 t1 zs he;simp only [Ent.row.injEq] at he;obtain ⟨rfl,rfl,hh⟩:=he;have:=eq_of_heq hh;subst this;exact ⟨e,xs,rfl,by rw [Q1];exact W8 _⟩
def jt6 {α}: ∀(us l:List α) (x:α) (o:Nat),zj2 (x::l) (o+1) us=x::zj2 l o us
 | [],_,_,_=>rfl
 |u::r,l,x,o=>by rw [zj2,zj2,List.set_cons_succ,jt6 r (l.set o u) x (o+1)]
def yu9 {α}: ∀(us l:List α),us.length<=l.length->zj2 l 0 us=us++l.drop us.length
 | [],l,_=>rfl
 |u::r,[],h=>by simp at h
 |u::r,x::l,h=>by
  rw [zj2,List.set_cons_zero,jt6,yu9 r l (by simpa using h)];rfl
def vw8 {α} (us pre l:List α) (o:Nat) (h:o+us.length<=l.length):zj2 (pre++l) (pre.length+o) us=pre++zj2 l o us:=by
 have:=yj9 us pre l [] o h;simpa using this
def VRL.putOnes: ∀ {aS l l':List (AV T.U)} {B us:List Value},Go.X.putOnes T l aS=some l'->BR T w S φ l B->VRL T w S φ aS us->BR T w S φ l' (us++B.drop us.length)/\us.length<=B.length/\ ∀i∈q7 l',i∈q7 l\/i∈q7 aS
 | [],l,l',B,us,h,h1,h2=>by
  simp only [Go.X.putOnes,X0] at h;subst h;cases us with
  |nil=>exact ⟨h1,U4 _,fun i hi=>.inl hi⟩
  |cons _ _=>exact h2.elim
 |b::aS,[],l',B,us,h,h1,h2=>by cases h
 |b::aS,a::l,l',B,us,h,h1,h2=>by
  unfold Go.X.putOnes at h;split at h
  ·rename_i hn;rw [X3] at hn;split at h
   ·rename_i s hs;simp only [X0] at h;subst h;obtain ⟨g1,g2⟩:=h1;rw [zg9,zq4 T hn.1] at g1
    match B,us,g1,h2 with
    |v::B,u::us,g1,h2=>
     obtain ⟨q1,q2,q3⟩:=VRL.putOnes hs ⟨g1.2,g2.2⟩ h2.2;refine ⟨⟨?_,yb9 T hn.2,q1.2⟩,by simpa using q2,fun i hi=>?_⟩
     ·rw [zg9,zq4 T hn.2];exact ⟨h2.1,q1.1⟩
     ·rw [q7] at hi;rcases X4.1 hi with hi|hi
      ·exact .inr (by rw [q7];exact X4.2 (.inl hi))
      ·rcases q3 i hi with hi|hi
       ·exact .inl (by rw [q7];exact X4.2 (.inr hi))
       ·exact .inr (by rw [q7];exact X4.2 (.inr hi))
    | [],_,g1,_=>exact g1.elim
    |_::_,[],_,h2=>exact h2.elim
   ·cases h
  ·cases h
def BR.turn {f:List (AV T.U)->Option (List (AV T.U))} {cs a:List (AV T.U)} {o d:Nat} {vs us:List Value} {ex:List Nat} (h:yv8 T f cs o=some a) (c:BR T w S φ cs vs)
  (r: ∀(l l':List (AV T.U)) (B:List Value),f l=some l'->BR T w S φ l B->BR T w S φ l' (zj2 B d us)/\d+us.length<=B.length/\ ∀i∈q7 l',i∈q7 l\/i∈ex):
  BR T w S φ a (zj2 vs (o+d) us)/\o+d+us.length<=vs.length/\ ∀i∈q7 a,i∈q7 cs\/i∈ex:=by
 obtain ⟨pre,l,l',g,j,s,t⟩:=jj1 h c.2;obtain ⟨u,C⟩:=BR.at c g t;obtain ⟨q,v,x⟩:=r l l' _ s u;have y:o<=vs.length:=by omega
 have m:(vs.take o).length=o:=by rw [Y6];omega
 have z:(vs.drop o).length=vs.length-o:=Q7 ..;have e:zj2 vs (o+d) us=vs.take o++zj2 (vs.drop o) d us:=by
  have:=vw8 us (vs.take o) (vs.drop o) d v;rw [Q8,m] at this;exact this
 have A:VRL T w S φ (zg9 T pre) (vs.take o):=by
  have:=c.1.take T o;rwa [g,yd2,Z7 (by omega),Q4 (by omega)] at this
 have p:zx4 T pre:=by have:=c.2;rw [g,yz1] at this;exact this.1
 refine ⟨⟨?_,?_⟩,by omega,fun i b=>?_⟩
 ·rw [j,yd2,e];exact VRL.app T A q.1
 ·rw [j,yz1];exact ⟨p,q.2⟩
 ·rw [j,yj4] at b;rw [g,yj4];rcases X4.1 b with b|b
  ·exact .inl (X4.2 (.inl b))
  ·exact (x i b).imp (fun h=>X4.2 (.inr h)) id
def jh5 {t n xs l l' B us} (h:qc7 T t n xs l=some l') (b:BR T w S φ l B) (g:xs.length=n) (j:CellsR T w S (xs.flatMap (zb1 T t)) us):
  BR T w S φ l' (zj2 B 0 us)/\0+us.length<=B.length/\ ∀i∈q7 l',i∈q7 l\/i∈([]:List Nat):=by
 unfold qc7 at h;split at h
 ·rename_i a r;split at h
  ·rename_i p q ys s;have:=zt5 s;subst this;split at h
   ·rename_i m;rw [X3] at m;obtain ⟨c,d⟩:=m;have c:=X1 c;have d:=X1 d;simp only [X0] at h;subst h;have e:us.length=n*szT T t:=by rw [<-j.1,flatMap_lenT (k7 T t),g]
    have u:(je9 T (.arr p q ys)).length=us.length:=by rw [yd1 T b.2.1,e,wd,c,d]
    have f:=b.1.len T;rw [zg9,X9,u] at f;rw [yu9 us B (by omega)];refine ⟨⟨?_,g,b.2.2⟩,by omega,fun i v=>.inl v⟩;rw [zg9];refine VRL.app T (VRL.cells.2 j) ?_;have:=b.1.drop T us.length;rwa [zg9,List.drop_append_of_le_length (by omega),S8 (by omega)] at this
   ·cases h
  ·cases h
 ·cases h
def qf5 {n sz k c l f l2 B us} (h:jy5 T n sz k c l f=some l2) (d:BR T w S φ f B) (z:k<n) (u:CellsR T w S l us):
  BR T w S φ l2 (zj2 B (k*sz+c) us)/\k*sz+c+us.length<=B.length/\ ∀i∈q7 l2,i∈q7 f\/i∈([]:List Nat):=by
 unfold jy5 at h;split at h
 ·rename_i a r;split at h
  ·rename_i ty b xs A;have:=zt5 A;subst this;split at h
   ·rename_i v;rw [X3,X3] at v;obtain ⟨g,j,m⟩:=v;have g:=X1 g;have j:=X1 j;have m:=Y1 m;subst g;subst j;split at h
    ·rename_i y C;simp only [X0] at h;subst h;have q:xs.length=b:=d.2.1;have D:(je9 T (.arr ty b xs)).length=b*szT T ty:=by rw [yd1 T d.2.1];rfl
     have s:=d.1.len T;rw [zg9,X9,D] at s;have E:k*szT T ty+szT T ty<=b*szT T ty:=by rw [<-Nat.succ_mul];exact Q9 _ z
     have G:=u.1;have I:CellsR T w S (xs.flatMap (zb1 T ty)) (B.take (b*szT T ty)):=by
      have:=d.1.take T (b*szT T ty);rw [zg9,Z7 (by omega),Q4 (by omega)] at this;exact VRL.cells.1 this
     have x:=CellsR.put (p:=k*szT T ty+c) u I;have t:=yi8 (k7 T ty) (zn0 (zz9 T ty) (show k<xs.length by omega)) (l:=l) (y:=y) (c:=c) (by rw [zo2 T C,jy4]) m;rw [<-t] at x;have J:(B.take (b*szT T ty)).length=b*szT T ty:=by rw [Y6];omega
     have e:zj2 B (k*szT T ty+c) us=zj2 (B.take (b*szT T ty)) (k*szT T ty+c) us++B.drop (b*szT T ty):=by
      have:=yj9 us [] (B.take (b*szT T ty)) (B.drop (b*szT T ty)) (k*szT T ty+c) (by omega);simpa using this
     refine ⟨⟨?_,by show (xs.set k y).length=b;rw [Q1];exact q,d.2.2⟩,by omega,fun i K=>.inl K⟩;rw [zg9,e];refine VRL.app T (VRL.cells.2 x) ?_;have:=d.1.drop T (b*szT T ty);rwa [zg9,List.drop_append_of_le_length (by omega),S8 (by omega)] at this
    ·cases h
   ·cases h
  ·cases h
 ·cases h
def CellsR.app {cs ds vs us} (h:CellsR T w S cs vs) (e:CellsR T w S ds us):CellsR T w S (cs++ds) (vs++us):=by
 refine ⟨by simp [h.1,e.1],fun j c v b d=>?_⟩;rcases V1 j cs.length with a|a
 ·rw [X8 a] at b;rw [X8 (by rw [<-h.1];exact a)] at d;exact h.2 j c v b d
 ·rw [Z2 a] at b;rw [Z2 (by rw [<-h.1];exact a),<-h.1] at d;exact e.2 _ c v b d
def yc5 {ty}: ∀ {m cs xs vs},ji6 T ty m cs=some xs->VRL T w S φ cs vs->xs.length=m/\CellsR T w S (xs.flatMap (zb1 T ty)) vs
 |0,[],xs,vs,h,a=>by
  simp only [ji6,X0] at h;subst h;cases vs with
  |nil=>exact ⟨rfl,rfl,fun j c v h=>by simp at h⟩
  |cons _ _=>exact a.elim
 |0,_::_,_,_,h,_=>by cases h
 |m+1,cs,xs,vs,h,a=>by
  unfold ji6 at h;split at h
  ·rename_i l b;split at h
   ·rename_i x p d e;simp only [X0] at h;subst h;have f:=zs4 b (a.take T (szT T ty));obtain ⟨g,i⟩:=yc5 e (a.drop T (szT T ty));refine ⟨by rw [U7,g],?_⟩;rw [V5,zo2 T d,<-List.take_append_drop (szT T ty) vs];exact f.app i
   ·cases h
  ·cases h
def qt8 {b l l' B us} (h:qx7 T b l=some l') (c:BR T w S φ l B) (d:VRL T w S φ b us):
  BR T w S φ l' (zj2 B 0 us)/\0+us.length<=B.length/\ ∀i∈q7 l',i∈q7 l\/i∈([]:List Nat):=by
 unfold qx7 at h;split at h
 ·split at h
  ·split at h
   ·rename_i xs a;obtain ⟨e,f⟩:=yc5 a d;exact jh5 h c e f
   ·cases h
  ·cases h
 ·cases h
def qv6 {t cs f o a} (h:storeB T P t cs o a=some f) {vs} (x:BR T w S φ cs vs) {v} (y:VR T w S φ a v):
  BR T w S φ f (zj2 vs o v.cells.toList)/\(∀i∈q7 f,i∈q7 cs\/i∈a.ids)/\ ∀c:Array Value,c.size=vs.length->stv P t c o v=some (ya6 c o v.cells.toList):=by
 unfold storeB at h;split at h
 ·rename_i ty n xs L;have:=zt5 L;subst this;obtain ⟨us,rfl,M,m⟩:=y;split at h
  ·rename_i i g;split at h
   ·rename_i N;have N:=X1 N;obtain ⟨z,O,A⟩:=BR.turn (d:=0) (us:=us.toList) (ex:= []) h x fun l l' B e q=>jh5 e q M m;have C:us.size=i.size:=by have:=m.1;rw [flatMap_lenT (k7 T ty),M] at this;simp at this;omega
    refine ⟨z,fun i g=>(A i g).imp id (fun h=>absurd h (by simp)),fun c D=>?_⟩;unfold stv;rw [g];simp only;rw [show (Nat.beq (Value.agg us).cells.size i.size&&(Nat.ble (o+i.size) c.size&&(Value.agg us).cells.toList.all Value.oneCell'))=true from ?_];simp only [X3];refine ⟨?_,W5 (by simp at O;omega),?_⟩
    ·show Nat.beq us.size i.size=true;rw [C];exact J2 _
    ·show us.toList.all Value.oneCell'=true;rw [Y8];intro u W;obtain ⟨j,R⟩:=Y9.1 W;have E:=(X2.1 R).1;obtain ⟨s,X⟩: ∃s,(xs.flatMap (zb1 T ty))[j]?=some s:=⟨_,Y0 (by rw [m.1];exact E)⟩;have b:=m.2 j s u X R;obtain ⟨Y,Z⟩:=s;have b:CR T w S Y Z u:=b;cases b<;>rfl
   ·cases h
  ·cases h
 ·split at h
  ·rename_i L e;obtain ⟨ii,hii,V,f2,f3,f4⟩:=yb7 e;have b:=zj4 V y;have hbl:=x.1.len T;obtain ⟨z,O,A⟩:=BR.turn (d:=0) (us:=v.cells.toList) (ex:=q7 (ze7 T a)) h x fun l l' B e q=>by
    unfold km4 at e;split at e
    ·rename_i r hr;simp only [X0] at e;subst e;obtain ⟨G,I,J⟩:=VRL.putOnes hr q b;exact ⟨by rw [yu9 _ _ I];exact G,by omega,J⟩
    ·obtain ⟨G,I,J⟩:=qt8 e q b;exact ⟨G,I,fun i g=>(J i g).imp id fun h=>by cases h⟩
   refine ⟨z,fun i g=>(A i g).imp id fun h=>by rw [yf7 V] at h;exact h,fun c D=>?_⟩;have K:=b.len T;have:=qd8 e y (c:=c) (p:=o) (by rw [K];omega);exact this
  ·cases h
def ys5 {t x y} (J:dec ops k n F'=some o) (s:o.op=.store t x y) (m:o.dst=none) {i g p e cs f a} (L:ev F' x=some (.pointer (some ⟨g,p,none⟩))) (u:(φ i).ad=some ⟨g,0,none⟩) (E:aev T F y=some a) (z:H[i]?=some (.blk e cs))
  (A: ∀(vs:List Value) (v:Value),BR T w S φ cs vs->VR T w S φ a v->BR T w S φ f (zj2 vs p v.cells.toList)/\(∀j∈q7 f,j∈q7 cs\/j∈a.ids)/\ ∀c:Array Value,c.size=vs.length->stv P t c p v=some (ya6 c p v.cells.toList))
  (h:Sim T w0 S0 ⟨F,H⟩ F' w S φ) (K:zq8 P ops Q (k+1) n ds w0 S0 (⟨F,H.set i (.blk e f)⟩:St T)):WR P ops Q k n ds F' w:=by
 obtain ⟨v,M,N⟩:=j7 h.fr E;obtain ⟨Y,c,B,d,G,O⟩:=h.ents i _ z;rw [u] at B;simp only [X0,Addr.mk.injEq,and_true] at B;subst B;have C:=zb9 h E;have r:=yi7 J s m;rw [j8 L,j8 M] at r;obtain ⟨R,V,W⟩:=A _ v O N;refine WR.store d r _ (W c (by simp)) fun w' D I=>K _ _ ⟨S,φ,h.upd z rfl I ?_ ⟨g,_,u,D,G,?_⟩ ?_ ?_⟩
 ·intro b d;simp at d;subst d;exact ⟨_,.inl u,rfl⟩
 ·rw [yc2];exact R.chg T I (by intro b d;simp at d;subst d;exact G) (fun b d=>.inl d)
 ·intro q l;rw [Ent.cellIds] at l;rcases V q l with l|l
  ·exact h.eids _ _ z q l
  ·exact C.1 q l
 ·intro Z t1 xs X;cases X
def CR.oneCell {t x v} (h:CR T w S t x v):v.oneCell'=true:=by cases h<;>rfl
def CellsR.one {cs vs} (h:CellsR T w S cs vs): ∀u∈vs,u.oneCell'=true:=by
 intro u b;obtain ⟨j,a⟩:=Y9.1 b;have c:=(X2.1 a).1;have:=h.2 j (cs[j]'(by rw [h.1];exact c)) u (Y0 _) a;exact CR.oneCell this
def u9 {α a:Type} {f:α->List a} {sz:Nat} (b: ∀y,(f y).length=sz) (l:List α):(l.flatMap f).length=l.length*sz:=flatMap_split.flatMap_lenT b
def jk6 {e} {xs:List (den T.U e)} {ad n cap} (h:CR T w S (.list e) xs (.slice ad n cap)):n=xs.length/\(ad=none->n=0/\cap=0)/\ ∃a,Rg w ad a/\CellsR T w S (xs.flatMap (zb1 T e)) a:=by
 generalize d:Value.slice ad n cap=v at h;cases h with
 |list _ _ J C u D i p f m=>
  simp only [Value.slice.injEq] at d;obtain ⟨rfl,rfl,rfl⟩:=d;refine ⟨rfl,i,?_⟩;by_cases E:xs= []
  ·subst E;exact ⟨[],Rg.nil _ _,rfl,fun j c v h=>by simp at h⟩
  obtain ⟨K,_,_⟩:=p E;have q: ∀(l:List (den T.U e)) (s:Nat),(∀k x,l[k]?=some x->xs[s+k]?=some x)->
    ∃a:List Value,CellsR T w S (l.flatMap (zb1 T e)) a/\ ∀j v,a[j]?=some v->w.cell? ⟨bk ad,of ad+(s*szT T e+j),none⟩=some v:=by
   intro l;induction l with
   |nil=>intro s _;exact ⟨[],⟨rfl,fun j c v h=>by simp at h⟩,fun j v h=>by simp at h⟩
   |cons x r L=>
    intro s G;obtain ⟨a,t,z⟩:=L (s+1) (fun k y A=>by rw [show s+1+k=s+(k+1) by omega];exact G (k+1) y (by simpa using A));have I:xs[s]?=some x:=by simpa using G 0 x rfl
    have b:((List.range (szT T e)).map (u s)).length=szT T e:=by simp
    refine ⟨(List.range (szT T e)).map (u s)++a,?_,?_⟩
    ·rw [V5];refine CellsR.app ⟨by rw [k7,b],fun j c v B d=>?_⟩ t;have g:j<szT T e:=by have:=(X2.1 d).1;rw [b] at this;exact this
     rw [W4,List.getElem?_range g] at d;simp only [Z8,X0] at d;subst d;exact m s j c (by rw [I];exact congrArg some B)
    ·intro j v d;rcases V1 j (szT T e) with g|g
     ·rw [X8 (by rw [b];exact g),W4,List.getElem?_range g] at d;simp only [Z8,X0] at d;subst d;have B:(zb1 T e x)[j]?=some ((zb1 T e x)[j]'(by rw [k7];exact g)):=Y0 _;exact f s j _ (by rw [I];exact congrArg some B)
     ·rw [Z2 (by rw [b];exact g),b] at d;have:=z _ v d;rwa [show (s+1)*szT T e+(j-szT T e)=s*szT T e+j by rw [J0];omega] at this
  obtain ⟨a,t,z⟩:=q xs 0 (fun k x A=>by rw [U0];exact A);refine ⟨a,fun j v d=>⟨K,?_⟩,t⟩;have:=z j v d;rwa [M4,U0] at this
def kj0 {t:Ty} {c:Cell T.U} {xs:List (den T.U t)} (h:c.aS (.list t)=some xs):c=⟨.list t,xs⟩:=Cell.as_eq h
def vl4 {ty a xs} (d:appA.rowIn T ty H a=some xs) (h:Sim T w0 S0 ⟨F,H⟩ F' w S φ) {v} (f:VR T w S φ a v):
  ∃ad cap b,v=.slice ad xs.length cap/\(ad=none->xs.length=0/\cap=0)/\Rg w ad b/\CellsR T w S (xs.flatMap (zb1 T ty)) b:=by
 unfold appA.rowIn at d;split at d
 ·rename_i c;split at d
  ·rename_i ys x;have d:ys=xs:=X5 d;subst d;have:=kj0 x;subst this;have f:CR T w S (.list ty) ys v:=f;have g:=f;cases g with
   |list _ _ ad cap u r s y l t=>
    obtain ⟨_,m,b,z,p⟩:=jk6 f;exact ⟨ad,cap,b,rfl,m,z,p⟩
  ·cases d
 ·rename_i i;split at d
  ·rename_i e ty' ys A;split at d
   ·rename_i C;subst C;simp only [X0] at d;subst d;obtain ⟨B,b,q,m,_,p,_⟩:=h.ents i _ A;rw [VR] at f;subst f;rw [m] at q⊢;exact ⟨_,_,b,rfl,q.nil0,q.rg,p⟩
   ·cases d
  ·cases d
 ·simp only [X0] at d;subst d;rw [VR] at f;subst f;exact ⟨none,0,[],rfl,fun _=>⟨rfl,rfl⟩,Rg.nil _ _,rfl,fun j c v h=>by simp at h⟩
 ·cases d
def ys0 {α c:Type} {f:α->List c} {sz:Nat} (d: ∀y,(f y).length=sz) (xs:List α) (o n:Nat):((xs.drop o).take n).flatMap f=((xs.flatMap f).drop (o*sz)).take (n*sz):=by
 have b: ∀(l:List α) (k:Nat),(l.take k).flatMap f=(l.flatMap f).take (k*sz)/\(l.drop k).flatMap f=(l.flatMap f).drop (k*sz):=by
  intro l;induction l with
  |nil=>intro k;simp
  |cons a r g=>
   intro k;cases k with
   |zero=>simp
   |succ k=>
    obtain ⟨h,i⟩:=g k;have e:(k+1)*sz=(f a).length+k*sz:=by rw [d,J0,J8]
    refine ⟨?_,?_⟩
    ·rw [List.take_succ_cons,V5,V5,h,e,List.take_append,Q4 (Nat.le_add_right _ _),M9]
    ·rw [List.drop_succ_cons,V5,i,e,List.drop_append];simp
 rw [(b _ n).1,(b _ o).2]
def vy9 {R:Type} {r:R} {ty:Ty} {a:AV T.U} {K:List (den T.U ty)->Option R} (b:appA.rowX T ty H a K=some r) (h:Sim T w0 S0 ⟨F,H⟩ F' w S φ) {v:Value} (m:VR T w S φ a v):
  ∃xs,K xs=some r/\ ∃ad cap d,v=.slice ad xs.length cap/\(ad=none->xs.length=0/\cap=0)/\Rg w ad d/\CellsR T w S (xs.flatMap (zb1 T ty)) d:=by
 unfold appA.rowX at b;split at b
 ·rename_i ys t;exact ⟨ys,b,vl4 t h m⟩
 ·rename_i t;clear t;split at b<;>try (cases b;done)
  rename_i i sz o n;split at b<;>try (cases b;done)
  rename_i e ty' xs E;split at b<;>try (cases b;done)
  rename_i x;have:=X1 x;subst this;split at b<;>try (cases b;done)
  rename_i G;subst G;split at b<;>try (cases b;done)
  rename_i I;refine ⟨_,b,?_⟩;obtain ⟨B,d,J,M,_,C,_⟩:=h.ents i _ E;obtain ⟨ad,rfl,D,L,p,_⟩:=m;have f:(List.take n (List.drop o xs)).length=n:=by rw [Y6,Q7];omega
  refine ⟨ad,(φ i).cap-o,(d.drop (o*szT T ty')).take (n*szT T ty'),?_,?_,?_,?_,?_⟩
  ·show Value.slice ad n _=Value.slice ad (List.take n (List.drop o xs)).length _;rw [f]
  ·intro y;show (List.take n (List.drop o xs)).length=0/\_;rw [f];exact p y
  ·intro j u l;rcases L with rfl|⟨g,z,A⟩
   ·simp at l
   ·rw [Z3] at l;split at l<;>try (cases l;done)
    rw [Q6] at l;obtain ⟨_,q⟩:=J.rg _ _ l;subst A;rw [z] at q;refine ⟨rfl,?_⟩;simp only [bk,of,U0] at q⊢;exact q
  ·rw [ys0 (k7 T ty'),Y6,Q7,Y6,Q7,C.1]
  ·intro j c v s m;rw [ys0 (k7 T ty'),Z3] at s;rw [Z3] at m;split at s<;>try (cases s;done)
   rename_i l;rw [if_pos l] at m;rw [Q6] at s m;exact C.2 _ _ _ s m
def jr0 {x y t c} (f:dec ops k n F'=some o) (a:o.op=.call c) (d:c.callee=.builtin .append) (e:c.args.toList= [x,y]) (b:c.argTypes.toList= [t,t]):jd2 ops k n F'=some (o.dst,t,evD F' x,evD F' y):=by
 unfold jd2;rw [f];cases o;cases c;simp only at a d e b;subst a;subst d;simp only [e,b,J2]
def vw1 {w:World} {B:Nat} {e:TypeId} {sz:Nat} {ad:Option Addr} {n cap:Nat} {cs:List Value} (h:Own w B e sz ad n cap cs) {m:Nat} (hm:m<=n):Own w B e sz ad m cap (cs.take (m*sz)):=by
 have hl:=h.len;have hmn:m*sz<=n*sz:=Q9 _ hm;rcases h.cases with ⟨rfl,rfl,rfl,rfl⟩|⟨c,had,hB,hb,hnc,hcm,hs,ht⟩
 ·have:m=0:=by omega
  subst this;rw [List.take_nil];exact h
 ·obtain ⟨g,rfl⟩: ∃g,ad=some ⟨g,0,none⟩:=⟨_,had⟩;refine ⟨by rw [Y6,hl];omega,.inr ⟨g,cap,c,rfl,hB,hb,by omega,hcm,hs,?_⟩⟩;rw [<-ht,List.take_take];congr 1;omega
def jr4 {t:Ty}: ∀(zs:List (den T.U t)) (n:Nat),(zs.take n).flatMap (zb1 T t)=(zs.flatMap (zb1 T t)).take (n*szT T t)
 | [],n=>by simp
 |z::r,0=>by simp
 |z::r,n+1=>by
  rw [List.take_succ_cons,V5,V5,List.take_append,k7,J0,Nat.add_sub_cancel,Q4 (l:=zb1 T t z) (by rw [k7];omega),jr4 r n]
def CellsR.takeN {t:Ty} {zs:List (den T.U t)} {vals:List Value} (h:CellsR T w S (zs.flatMap (zb1 T t)) vals) (n:Nat):CellsR T w S ((zs.take n).flatMap (zb1 T t)) (vals.take (n*szT T t)):=by
 have e:=jr4 zs n;rw [e];refine ⟨by rw [Y6,Y6,h.1],fun j c v h1 h2=>?_⟩;rw [Z3] at h1 h2;split at h1
 ·rename_i hj;rw [if_pos hj] at h2;exact h.2 j c v h1 h2
 ·cases h1
def kp0 {R:Type} {r:R} {ty:Ty} {s:AV T.U} {K:List (den T.U ty)->Option R} (h:appA.rowB T ty H s K=some r): ∃xs,(appA.rowIn T ty H s=some xs\/ ∃i n e zs,s=.sl i (szT T ty) 0 n/\H[i]?=some (.row e ty zs)/\n<=zs.length/\xs=zs.take n)/\K xs=some r:=by
 unfold appA.rowB at h;split at h
 ·rename_i i sz o n;split at h
  ·rename_i e ty' zs hi;split at h
   ·rename_i hb;rw [X3] at hb;have h1:=X1 hb.1;have h2:=X1 hb.2;subst h1;subst h2;split at h
    ·rename_i ht;subst ht;split at h
     ·rename_i hn;exact ⟨_,.inr ⟨i,n,e,zs,rfl,hi,hn,rfl⟩,h⟩
     ·cases h
    ·cases h
   ·cases h
  ·cases h
 ·split at h
  ·rename_i xs hx;exact ⟨xs,.inl hx,h⟩
  ·cases h
def vg5 {R:Type} {r:R} {x y:Operand} {t:TypeId} {c:Call} (hd:dec ops k n F'=some o) (hop:o.op=.call c) (hc:c.callee=.builtin .append) (ha:c.args.toList= [x,y]) (hat:c.argTypes.toList= [t,t]) {ty:Ty} {s a:AV T.U} (hx:aev T F x=some s) (hy:aev T F y=some a)
  {K0:AV T.U->List (Ent T.U)->Option R} (hK0:appA T P ty t H s a K0=some r) (h:Sim T w0 S0 ⟨F,H⟩ F' w S φ) (K: ∀b H1,K0 b H1=some r->zq8 P ops Q (k+1) n ds w0 S0 (⟨za5 T F o.dst b,H1⟩:St T)):WR P ops Q k n ds F' w:=by
 obtain ⟨X,h1,h2⟩:=j7 h.fr hx;obtain ⟨Y,h3,h4⟩:=j7 h.fr hy;unfold appA at hK0;split at hK0
 ·rename_i et sz by_ zc he;split at hK0
  ·rename_i hb;simp only [X3] at hb;have hsz:=X1 hb.1;subst hsz;have hs1:=Y1 hb.2.1;have hby:=Y1 hb.2.2.1;have hek:=hb.2.2.2;obtain ⟨xs,hxs,hK0⟩:=kp0 hK0
   ·obtain ⟨ys,hK1,xd,xcap,news,rfl,hnil,hrg,hcr⟩:=vy9 hK0 h h4;obtain ⟨hle,hK⟩:=v6 hK1;clear hK0 hK1;have hda:=jr0 hd hop hc ha hat;rw [j8 h1,j8 h3] at hda;have hl:news.length=ys.length*szT T ty:=by rw [<-hcr.1,u9 (k7 T ty)]
    have hle':xs.length+ys.length<=140737488355328:=W9 (Nat.le_mul_of_pos_right _ hby) hle;have hown: ∃ad cap B cs,X=.slice ad xs.length cap/\Own w B et (szT T ty) ad xs.length cap cs/\B<=w.heap.size/\CellsR T w S (xs.flatMap (zb1 T ty)) cs/\(∀b∈zb7 ad,b∈S)/\(∀b∈zb7 ad,b∈S0.chg\/w0.heap.size<=b)/\
      (∀(j:Nat) (e:Ent T.U),(appA.goneA T H s)[j]?=some e->e.live=true-> ∀q,At (φ j) q->q.block∉zb7 ad)/\Sim T w0 S0 ⟨F,appA.goneA T H s⟩ F' w S φ/\(appA.goneA T H s).length=H.length:=by
     rcases hxs with hxs|⟨i,n,e',zs,rfl,hi,hn,hxs⟩
     rotate_left
     ·obtain ⟨B,vals,q1,q2,q3,q4,q5⟩:=h.ents i _ hi;have hee:e'=et:=by
       unfold appA.eOk at hek;simp only [hi] at hek;exact X1 hek
      subst hee;obtain ⟨ad,rfl,p1,_,_,p5⟩:=h2;have p5:=p5 rfl;subst p5;have hlen:xs.length=n:=by rw [hxs,Y6];omega
      refine ⟨(φ i).ad,(φ i).cap,B,vals.take (n*szT T ty),by rw [hlen];rfl,by rw [hlen];exact vw1 q1 (by omega),q3,?_,?_,?_,?_,h.drop i,by simp [appA.goneA]⟩
      ·rw [hxs];exact q4.takeN n
      ·intro b hb;unfold zb7 at hb;split at hb
       ·rename_i a hq;simp at hb;subst hb;exact q5 a hq
       ·cases hb
      ·intro b hb;unfold zb7 at hb;split at hb
       ·rename_i a hq;simp at hb;subst hb;exact (h.lives i _ hi rfl a (.inl hq)).2
       ·cases hb
      ·intro j f hf hl q hq hm;have hji:j≠i:=by
        intro e;subst e;have hlt:j<H.length:=(X2.1 hi).1;rw [show appA.goneA T H (.sl j (szT T ty) 0 n)=H.set j .gone from rfl,Q0 hlt] at hf;simp only [X0] at hf;subst hf;cases hl
       rw [show appA.goneA T H (.sl i (szT T ty) 0 n)=H.set i .gone from rfl,Z5 (Ne.symm hji)] at hf;unfold zb7 at hm;split at hm
       ·rename_i a ha';simp at hm;exact h.apart j i f _ hf hi hl rfl hji q a hq (.inl ha') hm
       ·cases hm
     unfold appA.rowIn at hxs;split at hxs
     ·cases hek
     ·rename_i i;split at hxs
      ·rename_i e' ty' zs hi;split at hxs
       ·rename_i ht;subst ht;have hxs:zs=xs:=X5 hxs;subst hxs;obtain ⟨B,vals,q1,q2,q3,q4,q5⟩:=h.ents i _ hi;have hee:e'=et:=by
         unfold appA.eOk at hek;have hi':H[i]?=some (.row e' ty' zs):=hi;simp only [hi'] at hek;exact X1 hek
        subst hee;rw [VR] at h2;subst h2;rw [q2] at q1⊢;refine ⟨_,_,B,vals,rfl,q1,q3,q4,?_,?_,?_,h.drop i,by simp [appA.goneA]⟩
        ·intro b hb;unfold zb7 at hb;split at hb
         ·rename_i a hq;simp at hb;subst hb;exact q5 a hq
         ·cases hb
        ·intro b hb;unfold zb7 at hb;split at hb
         ·rename_i a hq;simp at hb;subst hb;exact (h.lives i _ hi rfl a (.inl hq)).2
         ·cases hb
        ·intro j f hf hl q hq hm;have hji:j≠i:=by
          intro e;subst e;have hlt:j<H.length:=(X2.1 hi).1;rw [show appA.goneA T H (.own j)=H.set j .gone from rfl,Q0 hlt] at hf;simp only [X0] at hf;subst hf;cases hl
         rw [show appA.goneA T H (.own i)=H.set i .gone from rfl,Z5 (Ne.symm hji)] at hf;unfold zb7 at hm;split at hm
         ·rename_i a ha';simp at hm;exact h.apart j i f _ hf hi hl rfl hji q a hq (.inl ha') hm
         ·cases hm
       ·cases hxs
      ·cases hxs
     ·have hxs: []=xs:=X5 hxs;subst hxs;rw [VR] at h2;subst h2;exact ⟨none,0,w.heap.size,[],rfl,Own.nil _ _ _ _,W8 _,⟨rfl,fun j c v h=>(by simp at h)⟩,fun b hb=>(by cases hb),fun b hb=>(by cases hb),fun j e _ _ q _=>(by simp [zb7]),h,rfl⟩
     ·cases hxs
    obtain ⟨ad,cap,B,cs,rfl,o1,o2,o3,o4,oc,o5,o6,o7⟩:=hown;refine WR.append o1 hrg hda he hl hs1 hcr.one o2 (by omega) hle hnil fun ad' cap' w' g1 g2 g3=>?_;have hnl:(xs++ys).length=xs.length+ys.length:=X9;have hS1: ∃S1:List Nat,(∀b∈S,b∈S1)/\(∀b∈S1,b∈S\/(w.heap.size<=b/\b<w'.heap.size))/\(∀q,ad'=some q->q.block∈S1)/\ ∀q,ad'=some q->w.heap.size<=q.block\/q.block∈zb7 ad:=by
     cases ad' with
     |none=>exact ⟨S,fun _ h=>h,fun _ h=>.inl h,fun q h=>(by cases h),fun q h=>(by cases h)⟩
     |some q=>
      have hlt:q.block<w'.heap.size:=by
       rcases g1.ge with hn|hn
       ·cases hn
       ·exact hn.2
      have hor:w.heap.size<=q.block\/q.block∈zb7 ad:=by
       rcases g3 with g3|g3
       ·right;rw [<-g3];simp [zb7]
       ·left;exact g3
      refine ⟨q.block::S,fun b hb=>Z4 _ hb,fun b hb=>?_,fun q' h=>by simp only [X0] at h;subst h;simp,fun q' h=>by simp only [X0] at h;subst h;exact hor⟩;rcases Z0.1 hb with rfl|hb
      ·rcases hor with hor|hor
       ·exact .inr ⟨hor,hlt⟩
       ·exact .inl (o4 _ hor)
      ·exact .inl hb
    obtain ⟨S1,s1,s2,s3,s4⟩:=hS1;have hCr:CellsR T w' S1 ((xs++ys).flatMap (zb1 T ty)) (cs++news):=by
     rw [J3];exact (o3.app hcr).chg T g2 o4 (fun b hb=>(s2 b hb).imp id And.left)
    have hadd:=o6.addG g2 o4 oc o5 s1 s2 (r:=⟨ad',xs.length+ys.length,cap',[]⟩) (fun q hq=>s4 q (yf3 hq)) (fun q hq=>s3 q (yf3 hq)) (e:=.row et ty (xs++ys))
     ⟨B,cs++news,by rw [j6];exact g1,by rw [j6,hnl],W9 o2 g2.size,hCr,fun q hq=>by rw [j6] at hq;exact s3 q hq⟩ (by intro q hq;cases hq)
    rw [o7] at hadd;refine K _ _ hK _ _ ⟨_,_,hadd.slot (a:=.own H.length) (by rw [VR,j6]) ⟨?_,trivial⟩⟩;intro q hq;simp [AV.ids] at hq;subst hq;rw [X9,o7];simp
  ·cases hK0
 ·cases hK0
def je7 {t x y} (b:dec ops k n F'=some o) (a:o.op=.makeSlice t x y):yw2 ops k n F'=some (o.dst,t,evD F' x,evD F' y):=by
 unfold yw2;rw [b];cases o;simp only at a;subst a;rfl
def zv5 {α c:Type} {f:α->List c} {sz:Nat} {x:α} (b:(f x).length=sz): ∀(m j:Nat),j<m*sz->((List.replicate m x).flatMap f)[j]?=(f x)[j%sz]?
 |0,j,h=>by simp at h
 |m+1,j,h=>by
  rw [List.replicate_succ,V5];rcases V1 j sz with a|a
  ·rw [X8 (by omega),R1 a]
  ·rw [Z2 (by omega),b,zv5 b m (j-sz) (by rw [J0] at h;omega)];congr 1;exact (Nat.mod_eq_sub_mod a).symm
def ye4 {l cs} (h:zd7 T (l.map (yq8 T))=some cs):CellsR T w S cs l:=zs4 (φ:=fun _=>⟨none,0,0,[]⟩) h (yc1 T l)
def kl0 {R:Type} {r:R} {x y:Operand} {t:TypeId} (hd:dec ops k n F'=some o) (L:o.op=.makeSlice t x y) {ty:Ty} {k1 k2:IntKind} {l c:Int} (hx:aev T F x=some (cI T k1 l)) (hy:aev T F y=some (cI T k2 c))
  {K0:AV T.U->List (Ent T.U)->Option R} (d:jp2 T P ty t H l c K0=some r) (h:Sim T w0 S0 ⟨F,H⟩ F' w S φ) (K: ∀b H1,K0 b H1=some r->zq8 P ops Q (k+1) n ds w0 S0 (⟨za5 T F o.dst b,H1⟩:St T)):WR P ops Q k n ds F' w:=by
 obtain ⟨X,A,p⟩:=j7 h.fr hx;obtain ⟨Y,h3,h4⟩:=j7 h.fr hy;have e1:=v8 p;have e2:=v8 h4;subst e1;subst e2;unfold jp2 at d;split at d
 ·rename_i e sz by_ I he;split at d
  ·rename_i z q hz;have q:=X1 q;subst q;split at d
   ·rename_i J M;obtain ⟨⟨g1,g2,g3,g4⟩,hK⟩:=v6 d;have B:=je7 hd L;rw [j8 A,j8 h3] at B;obtain ⟨i,zv,_,_,_,_,_,_,C⟩:=zb3 he;refine WR.make B he l.toNat c.toNat (by omega) (by omega) (by omega) g3 (by omega) fun g w' s=>?_;have D:=Own.made (m:=l.toNat) (m':=c.toNat) s (by omega) (by omega);have hS: ∀b∈g::S,b∈S\/w.heap.size<=b:=by
     intro b N;rcases Z0.1 N with rfl|N
     ·exact .inr s.fresh
     ·exact .inl N
    have O:CellsR T w' (g::S) (zb1 T ty J) I.toList:=by rw [zo2 T M];exact ye4 hz
    have hc:CellsR T w' (g::S) ((List.replicate l.toNat J).flatMap (zb1 T ty)) ((madeCells I (c.toNat*szT T ty)).toList.take (l.toNat*szT T ty)):=by
     have V:(madeCells I (c.toNat*szT T ty)).toList.length=c.toNat*szT T ty:=by rw [J9,size_madeCells]
     have W:l.toNat*szT T ty<=c.toNat*szT T ty:=Q9 _ (by omega);refine ⟨by rw [u9 (k7 T ty),Z9,Y6,V,V6 W],fun j c v A p=>?_⟩;have u:=(X2.1 A).1;rw [u9 (k7 T ty),Z9] at u;rw [zv5 (k7 T ty J) _ _ u] at A;rw [Z3,if_pos u] at p;refine O.2 _ c v A ?_;have f:0<szT T ty:=by
      rcases M8 (szT T ty) with Z|Z
      ·rw [Z] at u;omega
      ·exact Z
     rw [<-C] at f;unfold madeCells at p;simp only [M7,R0,W4] at p;rw [List.getElem?_range (by omega)] at p;simp only [Z8,X0] at p;subst p;rw [<-C,Array.getElem?_toList,Z6 (Nat.mod_lt _ f)];congr 1;rw [getElem!_pos I _ (Nat.mod_lt _ f)]
    have E:=h.add (r:=⟨some ⟨g,0,none⟩,l.toNat,c.toNat,[]⟩) s.chg s.fresh s.blk.lt (fun a G=>zw1 G) (e:=.row e ty (List.replicate l.toNat J))
     ⟨w.heap.size,_,by rw [j6];exact D,by rw [j6,Z9],s.chg.size,hc,fun a G=>by rw [j6] at G;simp only [X0] at G;subst G;simp⟩ (by intro j u;cases u)
    refine K _ _ hK _ _ ⟨_,_,E.slot (a:=.own H.length) (by rw [VR,j6]) ⟨by intro i hi;simp [AV.ids] at hi;subst hi;simp,trivial⟩⟩
   ·cases d
  ·cases d
 ·cases d
def jj7 {t:TypeId} {len:Nat} {ps:Array (Nat×Operand)} {e:TypeId} {c:Array Value} (hd:dec ops k n F'=some o) (hop:o.op=.buildSlice t len ps) (hb:zw8 P t len (ps.toList.map fun p=>(p.1,evD F' p.2))=some (e,c)):vn6 P ops k n F'=some (o.dst,len,e,c):=by
 unfold vn6;rw [hd];cases o;simp only at hop;subst hop;have:(ps.map fun p=>(p.1,evD F' p.2)).toList=ps.toList.map fun p=>(p.1,evD F' p.2):=by simp
 simp only [this,hb]
def vg9 {t:TypeId} {len:Nat} {ps:Array (Nat×Operand)} (hd:dec ops k n F'=some o) (hop:o.op=.buildSlice t len ps) {ty:Ty} {l:List (Nat×AV T.U)} (hl:zu7 T F ps.toList=some l) {e:TypeId} {xs:List (den T.U ty)} (hb:qw4 T P ty t len l=some (e,xs))
  (h:Sim T w0 S0 ⟨F,H⟩ F' w S φ) (K:zq8 P ops Q (k+1) n ds w0 S0 (⟨za5 T F o.dst (.own H.length),H++ [.row e ty xs]⟩:St T)):WR P ops Q k n ds F' w:=by
 unfold qw4 at hb;split at hb
 ·rename_i et sz by_ zc he;split at hb
  ·rename_i hok;simp only [X3] at hok;have hsz:=X1 hok.1;subst hsz;have hs1:=Y1 hok.2.1;have h16:=Y1 hok.2.2;split at hb
   ·rename_i cs hcs;split at hb
    ·rename_i zs hzs;simp only [X0,X7] at hb;obtain ⟨rfl,rfl⟩:=hb;obtain ⟨i,zv,hu,hin,hzv,hsi,_,hzc,hzl⟩:=zb3 he;subst hzc;obtain ⟨e1,e2⟩:=zx9 h.fr hl;have hz0:VRL T w S φ ((List.range (len*szT T ty)).map fun j=>yq8 T (zv.cells[j%szT T ty]!)) ((Array.range (len*i.size)).map (zv.cells[· %zv.cells.size]!)).toList:=by
      rw [hsi,hzl,M7,R0];generalize List.range (len*szT T ty)=rr;induction rr with
      |nil=>trivial
      |cons a r ih=>exact ⟨yj7 T _,ih⟩
     obtain ⟨c',g1,g2⟩:=yb6 hz0 e1 e2 hcs;obtain ⟨r1,r2⟩:=yc5 hzs g2;have hbs:zw8 P t len (ps.toList.map fun p=>(p.1,evD F' p.2))=some (et,c'):=by
      unfold zw8;rw [hu];simp only [hin];rw [hsi,W5 h16];simp only;rw [hsi] at g1;have hfin:Instr.fill (fun j=>some (j*szT T ty,szT T ty)) ((Array.range (len*szT T ty)).map (zv.cells[· %zv.cells.size]!)) (ps.toList.map fun p=>(p.1,evD F' p.2))=some c':=g1;cases hz:Nat.beq (len*szT T ty) 0 with
      |true=>
       have:=X1 hz;simp only;rw [this] at hfin⊢;have hr0:Array.range 0= #[]:=rfl;rw [hr0] at hfin⊢;have em: ∀f:Nat->Value,Array.map f #[]= #[]:=fun f=>by simp
       rw [em] at hfin⊢;rw [hfin]
      |false=>simp only [hzv,hfin]
     have hclen:c'.size=len*szT T ty:=by
      have:=g2.len T;have h2:=r2.1;rw [u9 (k7 T ty),r1] at h2;simpa using h2.symm
     refine WR.bslice c' (jj7 hd hop hbs) fun g w' hN=>?_;have hS: ∀b∈g::S,b∈S\/w.heap.size<=b:=by
      intro b hb;rcases Z0.1 hb with rfl|hb
      ·exact .inr hN.fresh
      ·exact .inl hb
     have hle:len<=9223372036854775807:=by
      have:len<=len*szT T ty:=Nat.le_mul_of_pos_right _ hs1;omega
     have htk:c'.toList.take (len*szT T ty)=c'.toList:=Q4 (by rw [J9,hclen];exact W8 _);have hown:=Own.ofBlk hN.blk hN.fresh (W8 len) hle (N7 hclen.symm) _ htk;have hadd:=h.add (r:=⟨some ⟨g,0,none⟩,len,len,[]⟩) hN.chg hN.fresh hN.blk.lt (fun a ha=>zw1 ha) (e:=.row et ty zs)
      ⟨w.heap.size,_,by rw [j6];exact hown,by rw [j6,r1],hN.chg.size,r2.chg T hN.chg (by simp) hS,fun a ha=>by rw [j6] at ha;simp only [X0] at ha;subst ha;simp⟩ (by intro j hj;cases hj)
     refine K _ _ ⟨_,_,hadd.slot (a:=.own H.length) (by rw [VR,j6]) ⟨by intro i hi;simp [AV.ids] at hi;subst hi;simp,trivial⟩⟩
    ·cases hb
   ·cases hb
  ·cases hb
 ·cases hb
end
end Go.X
namespace Go.X
open Go.RowKit Go.V
def j5 {α b:Type} (o:Option α) (f:α->Option b):Option b:=match o with|some a=>f a|none=>none
def za7 {α b:Type} {o:Option α} {f:α->Option b} {y:b} (h:j5 o f=some y): ∃a,o=some a/\f a=some y:=by
 unfold j5 at h;split at h
 ·exact ⟨_,rfl,h⟩
 ·cases h
section
variable (T:Tab)
def jd1:Ty->Bool
 | .user i=>T.scal i
 |t=>t.scal
def vn4 {U:Nat->Type}:Cell U->Value
 |⟨.int k,x⟩=>.int k x
 |⟨.bool,x⟩=>.bool x
 |⟨.str,x⟩=>.string x
 |_=>undef
def kv2 (t:Ty) (x:den T.U t):Value:=
 match t,x with
 | .user i,x=>.agg ((T.cells i x).map vn4).toArray
 | .int k,x=>.int k x
 | .bool,x=>.bool x
 | .str,x=>.string x
 | .list _,_=>undef
 | .nl _,_=>undef
def zo9 (t:Ty) (x:den T.U t):AV T.U:=
 match t,x with
 | .user i,x=>.agg ((T.cells i x).map .cell)
 | .int k,x=>.cell ⟨.int k,x⟩
 | .bool,x=>.cell ⟨.bool,x⟩
 | .str,x=>.cell ⟨.str,x⟩
 | .list e,x=>.cell ⟨.list e,x⟩
 | .nl e,x=>.cell ⟨.nl e,x⟩
def jn4 (t:Ty) (a:AV T.U):Option (den T.U t):=
 match t,a with
 | .user i,.agg cs=>match zd7 T cs with|some l=>T.pack i l|none=>none
 | .user _,_=>none
 | .list _,.raw (.slice none 0 0)=>some []
 | .nl _,.raw (.slice none 0 0)=>some []
 |t,.cell c=>c.aS t
 |_,_=>none
def nlL {R:Type} (t e:Ty) (xs:List (den T.U t)) (K:List (den T.U e)->Option R):Option R:=
 match t,e,xs,K with
 | .nl a,.list b,xs,K=>if h:a=b then K (h▸xs:List (List (den T.U b))) else none
 |_,_,_,_=>none
def rdN {R:Type} (H:List (Ent T.U)) (t:Ty) (a:AV T.U) (K:den T.U t->Option R):Option R:=
 match t,a,K with
 | .list e,.cell ⟨.nl b,xs⟩,K=>if h:b=e then K (h▸xs:List (den T.U e)) else none
 | .nl e,.cell ⟨.list b,xs⟩,K=>if h:b=e then (if 0<(h▸xs:List (den T.U e)).length then K (h▸xs:List (den T.U e)) else none) else none
 | .nl e,.own i,K=>match H[i]? with
  |some (.row _ t xs)=>if h:t=e then (if 0<(h▸xs:List (den T.U e)).length then K (h▸xs:List (den T.U e)) else none) else none
  |_=>none
 |_,_,_=>none
def jn6 {R:Type} (H:List (Ent T.U)) (t:Ty) (a:AV T.U) (K:den T.U t->Option R):Option R:=
 match t,a,K with
 | .list e,.own i,K=>match H[i]? with
  |some (.row _ t xs)=>(if h:t=e then K (h▸xs) else none)
  |_=>none
 | .list e,.sl i sz o n,K=>match H[i]? with
  |some (.row _ t xs)=>match Nat.beq sz (szT T t) with
   |true=>(if h:t=e then (if o+n<=xs.length then K ((h▸xs:List (den T.U e)).drop o |>.take n) else none) else none)
   |false=>none
  |_=>none
 | .list e,.asl i o sz n c m,K=>match H[i]? with
  |some (.blk _ cs)=>match jb2 T cs o with
   |some (b::_)=>match jd9 b with
    |some ⟨t,d,xs⟩=>match Nat.beq d n&&Nat.beq sz (szT T t) with
     |true=>(if h:t=e then K ((h▸xs:List (den T.U e)).drop c |>.take m) else nlL T t e ((xs.drop c).take m) K)
     |false=>none
    |none=>none
   |_=>none
  |_=>none
 |t,a,K=>match jn4 T t a with|some x=>K x|none=>rdN T H t a K
def qn4 {R:Type} (H:List (Ent T.U)):List Ty->List (AV T.U)->(List (Cell T.U)->Option R)->Option R
 | [],[],K=>K []
 |t::ts,a::aS,K=>match t.one with|true=>jn6 T H t a fun x=>qn4 H ts aS fun l=>K (⟨t,x⟩::l)|false=>none
 |_,_,_=>none
def qw1 (i:Nat):List Ty:=(T.cells i (T.d i)).map (·.t)
def rdF {R:Type} (H:List (Ent T.U)) (t:Ty) (a:AV T.U) (K:den T.U t->Option R):Option R:=
 match t,a,K with
 | .user i,.agg cs,K=>qn4 T H (qw1 T i) cs fun l=>match T.pack i l with|some x=>K x|none=>none
 |t,a,K=>jn6 T H t a K
end
section
variable {T:Tab} {P:Program} {w w':World} {S S':List Nat} {φ φ':Nat->RA} {w0:World} {S0:Ow} {F:AF T} {H:List (Ent T.U)} {F':PF}
def CR.sub0 {t x v} (h:CR T w S t x v) (a: ∀b∈S',b∈S):CR T w S' t x v:=h.chg T (Chg.refl [] w) (by simp) fun b c=>.inl (a b c)
def yy1: ∀ {cs:List (Cell T.U)} {vs},VRL T w S φ (cs.map .cell) vs-> ∀(S':List Nat) (φ':Nat->RA),(∀b∈S',b∈S)->VRL T w S' φ' (cs.map .cell) vs
 | [],[],_,_,_,_=>trivial
 | [],_::_,h,_,_,_=>h.elim
 |_::_,[],h,_,_,_=>h.elim
 |_::_,_::_,h,S',φ',a=>⟨CR.sub0 h.1 a,yy1 h.2 S' φ' a⟩
def qp6 {t:Ty} {x:den T.U t} {v:Value} (h:VR T w S φ (zo9 T t x) v) (φ':Nat->RA) (hS: ∀b∈S',b∈S):VR T w S' φ' (zo9 T t x) v:=by
 cases t with
 |user i=>
  obtain ⟨vs,h1,h2⟩:=h;exact ⟨vs,h1,yy1 h2 _ _ hS⟩
 |int k=>exact CR.sub0 h hS
 |bool=>exact CR.sub0 h hS
 |str=>exact CR.sub0 h hS
 |list e=>exact CR.sub0 h hS
 |nl e=>exact CR.sub0 h hS
def zs3: ∀ {aS:List (AV T.U)} {l:List (Cell T.U)},zd7 T aS=some l->aS=l.map .cell
 | [],l,h=>by simp only [zd7,X0] at h;subst h;rfl
 |a::r,l,h=>by
  unfold zd7 at h;split at h
  ·rename_i c l' hc hl;simp only [X0] at h;subst h;rw [U1,<-zs3 hl];unfold qa9 at hc;split at hc
   ·simp only [X0] at hc;subst hc;rfl
   ·cases hc
  ·cases h
def CR.empty {e ad cap} (a:ad=none->cap=0):CR T w S (.list e) [] (.slice ad 0 cap):=
 .list e [] ad cap (fun _ _=>undef) (U4 _) (fun h=>⟨rfl,a h⟩) (fun h=>absurd rfl h) (fun k j c h=>by simp at h) fun k j c h=>by simp at h
def CR.recap {e xs ad cap a} (h:CR T w S (.list e) xs (.slice ad xs.length cap)) (k:xs.length<=a) (l:ad=none->a=0):CR T w S (.list e) xs (.slice ad xs.length a):=by
 generalize g:Value.slice ad xs.length cap=v at h;cases h with
 |list _ _ m i u j c f b d=>
  simp only [Value.slice.injEq,true_and] at g;obtain ⟨rfl,rfl⟩:=g;exact .list e xs ad a u k (fun h=>⟨(c h).1,l h⟩) f b d
def jo0 {i e t xs} (h:EntR T w S φ i (.row e t xs)) (u: ∀b∈S',b∈S) (v: ∀a,(φ i).ad=some a->a.block∉S'):CR T w S' (.list t) xs (.slice (φ i).ad (φ i).n (φ i).cap):=by
 obtain ⟨B,f,l,r,A,s,C⟩:=h;have m: ∀(k j:Nat) (c:Cell T.U),(xs[k]?.map fun x=>(zb1 T t x)[j]?)=some (some c)->(xs.flatMap (zb1 T t))[k*szT T t+j]?=some c:=by
  intro k j c d;cases hx:xs[k]? with
  |none=>rw [hx] at d;cases d
  |some x=>
   rw [hx] at d;simp only [Z8,X0] at d;have:=yh5 (k7 T t) hx;have y:j<szT T t:=by have:=(X2.1 d).1;rwa [k7] at this
   rw [<-this,Z3,if_pos y,Q6] at d;exact d
 have g: ∀(k j:Nat) (c:Cell T.U),(xs[k]?.map fun x=>(zb1 T t x)[j]?)=some (some c)->f[k*szT T t+j]?=some (f.getD (k*szT T t+j) undef):=by
  intro k j c d;have:=(X2.1 (m k j c d)).1;rw [s.1] at this;exact zn0 undef this
 rw [r];rw [r] at l;refine .list t xs _ _ (fun k j=>f.getD (k*szT T t+j) undef) l.le.1 l.nil0 ?_ ?_ ?_
 ·intro p;rcases l.cases with ⟨_,z,_⟩|⟨c,o,_,q,_⟩
  ·exact absurd (T9 z) p
  ·exact ⟨by rw [o];rfl,q.lt,v _ o⟩
 ·intro k j c d;exact (l.rg _ _ (g k j c d)).2
 ·intro k j c d;exact CR.sub0 (s.2 _ c _ (m k j c d) (g k j c d)) u
def CR.nilS {e}:CR T w S (.list e) [] (.slice none 0 0):=CR.empty fun _=>rfl
def kv9 {t:Ty} {c:Cell T.U} {x:den T.U t} (h:c.aS t=some x) {v:Value} (hv:VR T w S φ (.cell c) v) (ht: ∀i,t≠.user i):VR T w S φ (zo9 T t x) v:=by
 have:=Cell.as_eq h;subst this;cases t<;>first|exact hv|exact absurd rfl (ht _)
def yd7 {t:Ty} {a:AV T.U} {x:den T.U t} (h:jn4 T t a=some x) {v:Value} (hv:VR T w S φ a v) (φ':Nat->RA):VR T w S φ' (zo9 T t x) v:=by
 have one: ∀ {t:Ty} {c:Cell T.U} {x:den T.U t},(∀i,t≠.user i)->c.aS t=some x->VR T w S φ (.cell c) v->VR T w S φ' (zo9 T t x) v:=
  fun hnu h hv=>qp6 (kv9 h hv hnu) φ' fun _ h=>h
 cases t with
 |user i=>
  cases a<;>simp only [jn4,reduceCtorEq] at h;rename_i cs;split at h
  ·rename_i l hl;have:=T.packed _ _ _ h;obtain ⟨vs,h1,h2⟩:=hv;refine ⟨vs,h1,?_⟩;rw [this];rw [zs3 hl] at h2;exact yy1 h2 _ _ fun _ h=>h
  ·cases h
 |list e=>
  cases a with
  |cell c=>exact one (by intro i hi;cases hi) h hv
  |raw u=>
   have hu:u=.slice none 0 0/\x= []:=by
    cases u with
    |slice ad n c=>
     cases ad with
     |some _=>cases h
     |none=>
      cases n with
      |succ _=>cases h
      |zero=>
       cases c with
       |succ _=>cases h
       |zero=>exact ⟨rfl,(X5 h).symm⟩
    |_=>cases h
   obtain ⟨rfl,rfl⟩:=hu;rw [VR] at hv;subst hv;exact CR.nilS
  |_=>cases h
 |nl e=>
  cases a with
  |cell c=>exact one (by intro i hi;cases hi) h hv
  |raw u=>
   have hu:u=.slice none 0 0/\x= []:=by
    cases u with
    |slice ad n c=>
     cases ad with
     |some _=>cases h
     |none=>
      cases n with
      |succ _=>cases h
      |zero=>
       cases c with
       |succ _=>cases h
       |zero=>exact ⟨rfl,(X5 h).symm⟩
    |_=>cases h
   obtain ⟨rfl,rfl⟩:=hu;rw [VR] at hv;subst hv;exact .nl e [] none 0 CR.nilS fun _=>⟨rfl,rfl⟩
  |_=>cases h
 |int k=>cases a<;>first|(cases h;done)|exact one (by intro i hi;cases hi) h hv
 |bool=>cases a<;>first|(cases h;done)|exact one (by intro i hi;cases hi) h hv
 |str=>cases a<;>first|(cases h;done)|exact one (by intro i hi;cases hi) h hv
def gi7 {g p cap t} {xs:List (den T.U t)} {a} (l:g<w.heap.size) (m:Rg w (some ⟨g,p,none⟩) a) (i:CellsR T w S (xs.flatMap (zb1 T t)) a) (f:xs.length<=cap) (n: ∀b∈S',b∈S) (o:g∉S'):CR T w S' (.list t) xs (.slice (some ⟨g,p,none⟩) xs.length cap):=by
 have h: ∀(k j:Nat) (c:Cell T.U),(xs[k]?.map fun x=>(zb1 T t x)[j]?)=some (some c)->(xs.flatMap (zb1 T t))[k*szT T t+j]?=some c:=by
  intro k j c d;cases hx:xs[k]? with
  |none=>rw [hx] at d;cases d
  |some x=>
   rw [hx] at d;simp only [Z8,X0] at d;have:=yh5 (k7 T t) hx;have q:j<szT T t:=by have:=(X2.1 d).1;rwa [k7] at this
   rw [<-this,Z3,if_pos q,Q6] at d;exact d
 have e: ∀(k j:Nat) (c:Cell T.U),(xs[k]?.map fun x=>(zb1 T t x)[j]?)=some (some c)->a[k*szT T t+j]?=some (a.getD (k*szT T t+j) undef):=by
  intro k j c d;have:=(X2.1 (h k j c d)).1;rw [i.1] at this;exact zn0 undef this
 refine .list t xs _ _ (fun k j=>a.getD (k*szT T t+j) undef) f (by simp) ?_ ?_ ?_
 ·intro r;exact ⟨rfl,l,o⟩
 ·intro k j c d;exact (m _ _ (e k j c d)).2
 ·intro k j c d;exact CR.sub0 (i.2 _ c _ (h k j c d) (e k j c d)) n
def ka7 {i e cs r o n t xs} (h:EntR T w S φ i (.blk e cs)) (m:jb2 T cs o=some (.arr t n xs::r)):
  ∃g c a,(φ i).ad=some ⟨g,0,none⟩/\Blk w g c e/\g∈S/\xs.length=n/\Rg w (some ⟨g,o,none⟩) a/\CellsR T w S (xs.flatMap (zb1 T t)) a:=by
 obtain ⟨g,c,p,f,q,k⟩:=h;obtain ⟨pre,s,v⟩:=yz2 m k.2;obtain ⟨d,x⟩:=BR.at k s v;have y:(je9 T (.arr t n xs)).length=n*szT T t:=by rw [yd1 T d.2.1];rfl
 have l:=d.1.take T (n*szT T t);rw [zg9,Z7 (by omega),Q4 (by omega)] at l;refine ⟨g,c,_,p,f,q,d.2.1,Rg.blk f _ (fun j u b=>?_),VRL.cells.1 l⟩;rw [Z3] at b;split at b
 ·rw [Q6] at b;simpa using b
 ·cases b
def ka8 {i:Nat} {e:TypeId} {cs r:List (AV T.U)} {o n lo m:Nat} {t:Ty} {xs:List (den T.U t)} (h:EntR T w S φ i (.blk e cs)) (hl:jb2 T cs o=some (.arr t n xs::r)) {v:Value} (hv:VR T w S φ' (.asl i o (szT T t) n lo m) v) (hφ:φ' i=φ i) (hS: ∀b∈S',b∈S) (hb: ∀a,(φ i).ad=some a->a.block∉S'):
  CR T w S' (.list t) ((xs.drop lo).take m) v:=by
 obtain ⟨g,c,vals,h1,h2,h3,h4,h5,h6⟩:=ka7 h hl;obtain ⟨g',ad,a1,rfl,a2,a3⟩:=hv;rw [hφ,h1] at a1;simp only [X0,Addr.mk.injEq,and_true] at a1;subst a1;have hcr:=gi7 (S':=S') h2.lt h5 h6 (cap:=n) (by omega) hS (hb _ h1);rcases V1 lo n with hlt|hge
 ·have hs:=CR.sub hcr (i:=lo) (m:=m) (by omega);have hc:zj0 (some (⟨g,o,none⟩:Addr)) n lo (szT T t)=some ad:=by
   rcases a3 with a3|a3
   ·omega
   ·subst a3;unfold zj0;rw [if_neg (by omega)];simp only [Z8,Addr.add];split
    ·rename_i hz;simp [hz]
    ·rfl
  rwa [hc] at hs
 ·have:m=0:=by omega
  subst this;rw [List.take_zero];exact CR.empty (by simp)
def gl9 {U:Nat->Type}:Ent U->Bool| .blk _ _=>true| .row _ _ _=>true|_=>false
def yt2 (T:Tab) (w:World) (S:List Nat) (φ:Nat->RA) (H:List (Ent T.U)) (ids:List Nat):Prop:= ∀i∈ids,∀(a:Ent T.U),H[i]?=some a->gl9 a=true->EntR T w S φ i a
def CR.unNl1 {a x v} (h:CR T w S (.nl a) x v):CR T w S (.list a) x v:=by
 cases h with
 |nl _ _ ad cap b c=>exact b
def CR.unNl {a:Ty} {xs:List (List (den T.U a))} {v:Value} (h:CR T w S (.list (.nl a)) xs v):CR T w S (.list (.list a)) xs v:=by
 cases h with
 |list _ _ ad cap u f g m d i=>
  have l: ∀(k j:Nat) (c:Cell T.U),(xs[k]?.map fun x=>(zb1 T (.list a) x)[j]?)=some (some c)-> ∃x,xs[k]?=some x/\j=0/\c=⟨.list a,x⟩:=by
   intro k j c b;cases e:xs[k]? with
   |none=>rw [e] at b;cases b
   |some x=>
    rw [e] at b;have b:(zb1 T (.list a) x)[j]?=some c:=X5 b;cases j with
    |zero=>exact ⟨x,rfl,rfl,(X5 b).symm⟩
    |succ j=>cases b
  refine .list (.list a) xs ad cap u f g m (fun k j c b=>?_) (fun k j c b=>?_)
  ·obtain ⟨x,e,rfl,rfl⟩:=l k j c b;exact d k 0 ⟨.nl a,x⟩ ((congrArg (Option.map fun x:den T.U (.nl a)=>(zb1 T (.nl a) x)[0]?) e).trans rfl)
  ·obtain ⟨x,e,rfl,rfl⟩:=l k j c b;exact CR.unNl1 (i k 0 ⟨.nl a,x⟩ ((congrArg (Option.map fun x:den T.U (.nl a)=>(zb1 T (.nl a) x)[0]?) e).trans rfl))
def ko6 {R:Type} {r:R} {t:Ty} {a:AV T.U} {K:den T.U t->Option R} (h:rdN T H t a K=some r) (m:yt2 T w S φ H a.ids) {v:Value} (c:VR T w S φ a v) (φ':Nat->RA) (k: ∀b∈S',b∈S) (s: ∀i∈a.ids,∀ad,(φ i).ad=some ad->ad.block∉S'): ∃x,K x=some r/\VR T w S' φ' (zo9 T t x) v:=by
 unfold rdN at h;split at h
 ·rename_i e f xs K;split at h
  ·rename_i d;subst d;refine ⟨xs,h,?_⟩;have c:CR T w S (.nl f) xs v:=c;cases c with
   |nl _ _ ad cap g j=>exact CR.sub0 g k
  ·cases h
 ·rename_i e f xs K;split at h
  ·rename_i d;subst d;split at h
   ·rename_i l;refine ⟨xs,h,?_⟩;have c:CR T w S (.list f) xs v:=c;cases c with
    |list _ _ ad cap u g j y z A=>exact .nl _ xs ad cap (CR.sub0 (.list _ xs ad cap u g j y z A) k) fun q=>by subst q;exact absurd l (Nat.lt_irrefl 0)
   ·cases h
  ·cases h
 ·rename_i e i K;split at h
  ·rename_i f C xs n;split at h
   ·rename_i d;subst d;split at h
    ·rename_i l;refine ⟨xs,h,?_⟩;rw [VR] at c;subst c;have o:=jo0 (m i (by simp [AV.ids]) _ n rfl) k (s i (by simp [AV.ids]));obtain ⟨B,p,g,j,_⟩:=m i (by simp [AV.ids]) _ n rfl;rw [j] at o⊢;exact .nl _ xs _ _ o fun q=>by subst q;exact absurd l (Nat.lt_irrefl 0)
    ·cases h
   ·cases h
  ·cases h
 ·cases h
def qn9 {R:Type} {r:R} {t:Ty} {a:AV T.U} {K:den T.U t->Option R} (h:jn6 T H t a K=some r) (q:yt2 T w S φ H a.ids) {v:Value} (k:VR T w S φ a v) (φ':Nat->RA) (l: ∀b∈S',b∈S) (s: ∀i∈a.ids,∀ad,(φ i).ad=some ad->ad.block∉S'): ∃x,K x=some r/\VR T w S' φ' (zo9 T t x) v:=by
 unfold jn6 at h;split at h
 ·rename_i e i K;split at h
  ·rename_i L M xs p;split at h
   ·rename_i u;subst u;refine ⟨xs,h,?_⟩;rw [VR] at k;subst k;exact jo0 (q i (by simp [AV.ids]) _ p rfl) l (s i (by simp [AV.ids]))
   ·cases h
  ·cases h
 ·rename_i e i sz o n K;split at h
  ·rename_i L M xs p;split at h
   ·rename_i C;have:=X1 C;subst this;split at h
    ·rename_i u;subst u;split at h
     ·rename_i D;refine ⟨_,h,?_⟩;obtain ⟨ad,rfl,N,c,d,_⟩:=k;have f:=q i (by simp [AV.ids]) _ p rfl;have O:=jo0 f l (s i (by simp [AV.ids]));have Q:(List.take n (List.drop o xs)).length=n:=by rw [Y6,Q7];omega
      rcases c with c|⟨g,E,G⟩
      ·subst c;rw [List.take_zero];exact CR.empty fun c=>(d c).2
      ·obtain ⟨B,V,y,z,_⟩:=f;rw [z] at O;have j:=CR.sub O D;by_cases X:n=0
       ·subst X;rw [List.take_zero];exact CR.empty fun c=>(d c).2
       ·have A:zj0 (φ i).ad (φ i).cap o (szT T M)=ad:=by
         have:=y.le.1;unfold zj0;rw [if_neg (by omega),E,G];simp only [Z8,Addr.add];split
         ·rename_i Y;simp [Y]
         ·simp
        rw [A] at j;exact j
     ·cases h
    ·cases h
   ·cases h
  ·cases h
 ·rename_i e i o sz n lo m K;split at h
  ·rename_i L cs p;split at h
   ·rename_i b r W;split at h
    ·rename_i t n' xs I;have:=zt5 I;subst this;split at h
     ·rename_i c;rw [X3] at c;obtain ⟨y,z⟩:=c;have y:=X1 y;have z:=X1 z;subst y;subst z;split at h
      ·rename_i u;subst u;exact ⟨_,h,ka8 (q i (by simp [AV.ids]) _ p rfl) W k rfl l (s i (by simp [AV.ids]))⟩
      ·unfold nlL at h;split at h
       ·rename_i a b ys K';split at h
        ·rename_i J;subst J;exact ⟨_,h,CR.unNl (ka8 (q i (by simp [AV.ids]) _ p rfl) W k rfl l (s i (by simp [AV.ids])))⟩
        ·cases h
       ·cases h
     ·cases h
    ·cases h
   ·cases h
  ·cases h
 ·split at h
  ·rename_i x Z;exact ⟨x,h,qp6 (yd7 Z k φ') φ' l⟩
  ·exact ko6 h q k φ' l s
def qn7 {R:Type} {r:R}: ∀ {ts:List Ty} {aS:List (AV T.U)} {K:List (Cell T.U)->Option R},qn4 T H ts aS K=some r->yt2 T w S φ H (q7 aS)-> ∀ {vs:List Value},VRL T w S φ aS vs-> ∀(φ':Nat->RA),(∀b∈S',b∈S)->(∀i∈q7 aS,∀ad,(φ i).ad=some ad->ad.block∉S')-> ∃l,K l=some r/\VRL T w S' φ' (l.map .cell) vs
 | [],[],K,h,_,[],_,_,_,_=>⟨[],h,trivial⟩
 | [],[],_,_,_,_::_,hv,_,_,_=>hv.elim
 | [],_::_,_,h,_,_,_,_,_,_=>by cases h
 |_::_,[],_,h,_,_,_,_,_,_=>by cases h
 |t::ts,a::aS,_,_,_,[],hv,_,_,_=>hv.elim
 |t::ts,a::aS,K,h,hs,v::vs,hv,φ',hS,hb=>by
  have h:(match t.one with|true=>jn6 T H t a (fun x=>qn4 T H ts aS fun l=>K (⟨t,x⟩::l))|false=>none)=some r:=h;split at h<;>try (cases h;done)
  rename_i ht;obtain ⟨x,h1,h2⟩:=qn9 h (fun i hi=>hs i (by rw [q7];exact X4.2 (.inl hi))) hv.1 φ' hS fun i hi=>hb i (by rw [q7];exact X4.2 (.inl hi));obtain ⟨l,h3,h4⟩:=qn7 h1 (fun i hi=>hs i (by rw [q7];exact X4.2 (.inr hi))) hv.2 φ' hS fun i hi=>hb i (by rw [q7];exact X4.2 (.inr hi));refine ⟨_,h3,?_,h4⟩;cases t<;>first|exact h2|cases ht
def jl3 {R:Type} {r:R} {t:Ty} {a:AV T.U} {K:den T.U t->Option R} (h:rdF T H t a K=some r) (e:yt2 T w S φ H a.ids) {v:Value} (f:VR T w S φ a v) (φ':Nat->RA) (g: ∀b∈S',b∈S) (k: ∀i∈a.ids,∀ad,(φ i).ad=some ad->ad.block∉S'): ∃x,K x=some r/\VR T w S' φ' (zo9 T t x) v:=by
 unfold rdF at h;split at h
 ·rename_i i cs K;obtain ⟨vs,rfl,m⟩:=f;obtain ⟨l,c,n⟩:=qn7 h (by intro j d;exact e j (by rw [AV.ids];exact d)) m φ' g fun j d=>k j (by rw [AV.ids];exact d);split at c
  ·rename_i x o;refine ⟨x,c,vs,rfl,?_⟩;rw [T.packed _ _ _ o];exact n
  ·cases c
 ·exact qn9 h e f φ' g k
def ve2 {R:Type} {r:R} {t:Ty} {a:AV T.U} {K:den T.U t->Option R} (h:rdF T H t a K=some r) (b:yt2 T w S φ H a.ids) {v:Value} (c:VR T w S φ a v) (φ':Nat->RA): ∃x,K x=some r/\VR T w [] φ' (zo9 T t x) v:=
 jl3 h b c φ' (by simp) (by simp)
def ko4 {R:Type} {r:R} {t:Ty} {a:AV T.U} {K:den T.U t->Option R} (h:rdN T H t a K=some r): ∃x,K x=some r/\ ∀ {R':Type} (K':den T.U t->Option R'),rdN T H t a K'=K' x:=by
 unfold rdN at h;split at h
 ·split at h
  ·rename_i ht;subst ht;exact ⟨_,h,fun K'=>by simp only [rdN,dite_true]⟩
  ·cases h
 ·split at h
  ·rename_i ht;subst ht;split at h
   ·rename_i hp;exact ⟨_,h,fun K'=>by simp only [rdN,dite_true,if_pos hp]⟩
   ·cases h
  ·cases h
 ·split at h
  ·rename_i hi;split at h
   ·rename_i ht;subst ht;split at h
    ·rename_i hp;exact ⟨_,h,fun K'=>by simp only [rdN,hi,dite_true,if_pos hp]⟩
    ·cases h
   ·cases h
  ·cases h
 ·cases h
def jl2 {R:Type} {r:R} {t:Ty} {a:AV T.U} {K:den T.U t->Option R} (h:jn6 T H t a K=some r): ∃x,K x=some r/\ ∀ {R':Type} (K':den T.U t->Option R'),jn6 T H t a K'=K' x:=by
 unfold jn6 at h⊢;split at h
 ·split at h
  ·rename_i hi;split at h
   ·rename_i ht;subst ht;exact ⟨_,h,fun K'=>by simp only [dite_true]⟩
   ·cases h
  ·cases h
 ·split at h
  ·rename_i hi;split at h
   ·rename_i hsz;split at h
    ·rename_i ht;subst ht;split at h
     ·rename_i hle;exact ⟨_,h,fun K'=>by simp only [dite_true,if_pos hle]⟩
     ·cases h
    ·cases h
   ·cases h
  ·cases h
 ·split at h
  ·rename_i hi;split at h
   ·rename_i hl;split at h
    ·rename_i hb;split at h
     ·rename_i hn;split at h
      ·rename_i ht;subst ht;exact ⟨_,h,fun K'=>by simp only [dite_true]⟩
      ·rename_i hne;unfold nlL at h;split at h
       ·split at h
        ·rename_i hab;subst hab;exact ⟨_,h,fun K'=>by simp only [dif_neg hne,nlL,dite_true]⟩
        ·cases h
       ·cases h
     ·cases h
    ·cases h
   ·cases h
  ·cases h
 ·rename_i t a K hn1 hn2 hn3;split at h
  ·rename_i x hx;refine ⟨x,h,fun K'=>?_⟩;split
   ·exact (hn1 _ _ K rfl rfl HEq.rfl).elim
   ·exact (hn2 _ _ _ _ _ K rfl rfl HEq.rfl).elim
   ·exact (hn3 _ _ _ _ _ _ _ K rfl rfl HEq.rfl).elim
   ·rw [hx]
  ·rename_i hx;obtain ⟨x,h1,h2⟩:=ko4 h;refine ⟨x,h1,fun K'=>?_⟩;split
   ·exact (hn1 _ _ K rfl rfl HEq.rfl).elim
   ·exact (hn2 _ _ _ _ _ K rfl rfl HEq.rfl).elim
   ·exact (hn3 _ _ _ _ _ _ _ K rfl rfl HEq.rfl).elim
   ·rw [hx];exact h2 K'
def qn5 {R:Type} {r:R}: ∀ {ts:List Ty} {aS:List (AV T.U)} {K:List (Cell T.U)->Option R},qn4 T H ts aS K=some r-> ∃l,K l=some r/\ ∀ {R':Type} (K':List (Cell T.U)->Option R'),qn4 T H ts aS K'=K' l
 | [],[],K,h=>⟨[],h,fun K'=>rfl⟩
 | [],_::_,_,h=>by cases h
 |_::_,[],_,h=>by cases h
 |t::ts,a::aS,K,h=>by
  have h:(match t.one with|true=>jn6 T H t a (fun x=>qn4 T H ts aS fun l=>K (⟨t,x⟩::l))|false=>none)=some r:=h;split at h<;>try (cases h;done)
  rename_i ht;obtain ⟨x,h1,h2⟩:=jl2 h;obtain ⟨l,h3,h4⟩:=qn5 h1;refine ⟨_,h3,fun K'=>?_⟩;show (match t.one with|true=>jn6 T H t a (fun x=>qn4 T H ts aS fun l=>K' (⟨t,x⟩::l))|false=>none)=_;rw [ht];simp only;rw [h2,h4]
def ji1 {R:Type} {r:R} {t:Ty} {a:AV T.U} {K:den T.U t->Option R} (h:rdF T H t a K=some r): ∃x,K x=some r/\ ∀ {R':Type} (K':den T.U t->Option R'),rdF T H t a K'=K' x:=by
 unfold rdF at h⊢;split at h
 ·rename_i i cs K;obtain ⟨l,h1,h2⟩:=qn5 h;split at h1
  ·rename_i x hx;exact ⟨x,h1,fun K'=>by simp only [h2,hx]⟩
  ·cases h1
 ·rename_i t a K hn;obtain ⟨x,h1,h2⟩:=jl2 h;refine ⟨x,h1,fun K'=>?_⟩;split
  ·exact (hn _ _ K rfl rfl HEq.rfl).elim
  ·exact h2 K'
def zu3 (s:ByteArray):List Int:=s.data.toList.map fun b=>(b.toNat:Int)
def jw0 (s):(zu3 s).length=s.size:=(U6 _).trans J9
def zt6 (l:List Int):ByteArray:=l.foldl (fun r n=>r.push (UInt8.ofNat n.toNat)) ByteArray.empty
end
end Go.X
