import Derived.Test.YtampgjnliepkiaaGreatA2
set_option linter.defProp false
namespace Go.X
open Go.RowKit Go.V
mutual
def jp5 {U}: ∀a:AV U,a.ren id=a
 | .cell _=>by rw [AV.ren]
 | .ptr _ _=>by rw [AV.ren];rfl
 | .eptr _ _ _ _=>by rw [AV.ren];rfl
 | .lptr _ _ _ _=>by rw [AV.ren]
 | .own _=>by rw [AV.ren];rfl
 | .sl _ _ _ _=>by rw [AV.ren];rfl
 | .agg cs=>by rw [AV.ren,zr6 cs]
 | .tup cs=>by rw [AV.ren,zr6 cs]
 | .fn _ a b=>by rw [AV.ren,zr6 a,zr6 b]
 | .ifc _ a=>by rw [AV.ren,jp5 a]
 | .raw _=>by rw [AV.ren]
 | .arr _ _ _=>by rw [AV.ren]
 | .aptr _ _ _ _ _ _=>by rw [AV.ren];rfl
 | .asl _ _ _ _ _ _=>by rw [AV.ren];rfl
 | .mp _=>by rw [AV.ren];rfl
 | .hmp _=>by rw [AV.ren];rfl
def zr6 {U}: ∀l:List (AV U),zi6 id l=l
 | []=>rfl
 |a::r=>by rw [zi6,jp5 a,zr6 r]
end
section
variable {T:Tab} {P:Program} {w w':World} {S S':List Nat} {φ φ':Nat->RA}
def VR.phiS {a v} (h:VR T w S φ a v) (b: ∀i∈a.ids,RSame (φ' i) (φ i)):VR T w S φ' a v:=by
 have:=VR.renS T (ρ:=id) (φ':=φ') b h;rwa [jp5] at this
def VR.phi {a v} (h:VR T w S φ a v) (b: ∀i∈a.ids,φ' i=φ i):VR T w S φ' a v:=by
 have:=VR.ren T (ρ:=id) (φ':=φ') b h;rwa [jp5] at this
def VRL.phi {aS:List (AV T.U)} {vs:List Value} (h:VRL T w S φ aS vs) (hi: ∀i∈u0 aS,φ' i=φ i):VRL T w S φ' aS vs:=by
 have:=VRL.ren T (ρ:=id) (φ':=φ') hi h;rwa [zr6] at this
def BR.phi {cs vs} (h:BR T w S φ cs vs) (a: ∀i∈u0 cs,φ' i=φ i):BR T w S φ' cs vs:=⟨h.1.phi (by rw [jk5];exact a),h.2⟩
def qb0 {U}: ∀l:List (Int×AV U),qa9 id l=l
 | []=>rfl
 |(x,a)::r=>by rw [qa9,jp5 a,qb0 r]
def okA (H:List (Ent T.U)) (a:AV T.U):Prop:=(∀i∈a.ids,i<H.length)/\match a with| .eptr i sz k _=> ∀e t xs,H[i]?=some (.row e t xs)->k<xs.length/\szT T t=sz|_=>True
def Ent.cellIds {U:Nat->Type}:Ent U->List Nat| .blk _ cs=>u0 cs| .map _ es=>idsM es| .drow _ _ _ _ a=>gm5 a| .pmap _ _ _ _ a=>kp5 a|_=> []
def vk8 {U} (b:Option (Nat×List (AV U))):kc7 id b=b:=by
 cases b with
 |none=>rfl
 |some p=>obtain ⟨a,cs⟩:=p;rw [kc7,zr6]
def vk7 (a):kc6 id a=a:=by cases a<;>rfl
def EntR.phiE {i e} (h:EntR T w S φ i e) (a:φ' i=φ i) (q: ∀k∈e.cellIds,RSame (φ' k) (φ k)):EntR T w S φ' i e:=by
 cases e with
 |blk e cs=>
  obtain ⟨g,c,b,f,n,o⟩:=h;have:=o.renS T (ρ:=id) (φ':=φ') q;rw [zr6] at this;exact ⟨g,c,by rw [a];exact b,f,n,this⟩
 |row e t xs=>obtain ⟨B,j,b,f,n,o,p⟩:=h;exact ⟨B,j,by rw [a];exact b,by rw [a];exact f,n,o,by rw [a];exact p⟩
 |map k es=>
  obtain ⟨g,l,c,b,f,n,o,p⟩:=h;have:=o.renS T (ρ:=id) (φ':=φ') q;rw [qb0] at this;exact ⟨g,l,c,by rw [a];exact b,f,n,this,p⟩
 |tmap k t m=>obtain ⟨g,l,c,b,f⟩:=h;exact ⟨g,l,c,by rw [a];exact b,f⟩
 |drow e d fe xs r=>
  obtain ⟨B,j,b,f,n,o,p⟩:=h;have:=p.renS T (ρ:=id) (φ':=φ') q;rw [vk8] at this;exact ⟨B,j,by rw [a];exact b,by rw [a];exact f,n,by rw [a];exact o,by rw [a];exact this⟩
 |pmap k u d m r=>
  obtain ⟨g,l,c,s,b,f,n,o,p⟩:=h;have:=o.renS T (ρ:=id) (φ':=φ') q;rw [vk7] at this;exact ⟨g,l,c,s,by rw [a];exact b,f,n,by rw [a];exact this,p⟩
 |hid=>unfold EntR;rw [a];exact h
 |gone=>trivial
structure Ow where
 chg:List Nat
 ex:List Nat
 pin:List RA
structure Sim (T:Tab) (w0:World) (S0:Ow) (st:St T) (F':PF) (w:World) (S:List Nat) (φ:Nat->RA):Prop where
 fr:FR T w S φ st.F F'
 ids: ∀i a,st.F.get T i=some a->okA st.H a
 chg:Chg S0.chg w0 w
 own: ∀b∈S,(b∈S0.ex\/w0.heap.size<=b)/\b<w.heap.size
 ex: ∀b∈S0.ex,b∉S0.chg->b<w0.heap.size->b∈S
 lives: ∀(i:Nat) (e:Ent T.U),st.H[i]?=some e->e.live=true-> ∀a,At (φ i) a->a.block∈S/\(a.block∈S0.chg\/w0.heap.size<=a.block)
 pins: ∀(k:Nat) (r:RA),S0.pin[k]?=some r->RSame (φ k) r/\k<st.H.length
 ents: ∀(i:Nat) (e:Ent T.U),st.H[i]?=some e->EntR T w S φ i e
 eids: ∀(i:Nat) (e:Ent T.U),st.H[i]?=some e-> ∀j∈e.cellIds,j<st.H.length
 apart: ∀(i j:Nat) (e e':Ent T.U),st.H[i]?=some e->st.H[j]?=some e'->e.live=true->e'.live=true->i≠j-> ∀a b,At (φ i) a->At (φ j) b->a.block≠b.block
def zc1 (T:Tab) (w0:World) (S0:Ow) (st:St T) (F':PF) (w:World):Prop:= ∃S φ,Sim T w0 S0 st F' w S φ
variable {w0:World} {S0:Ow} {F:AF T} {H:List (Ent T.U)} {F':PF}
def qk5 {dst a i b} (h:(za9 T F dst a).get T i=some b):(dst=some i/\b=a)\/(dst≠some i/\F.get T i=some b):=by
 cases dst with
 |none=>exact .inr ⟨by simp,h⟩
 |some d=>
  simp only [za9,AF.get] at h;split at h
  ·rename_i c;have:=X1 c;subst this;simp only [X0] at h;exact .inl ⟨rfl,h.symm⟩
  ·rename_i c;exact .inr ⟨by simp only [ne_eq,X0];intro e;subst e;simp at c,h⟩
def qv7 {dst v i} (h:dst≠some i):(upd F' dst v).get i=F'.get i:=by
 cases dst with
 |none=>rfl
 |some d=>
  simp only [upd,PF.get];split
  ·rename_i a;have:=X1 a;subst this;exact absurd rfl h
  ·rfl
def qv6 {i v}:(upd F' (some i) v).get i=some v:=by
 simp [upd,PF.get,V7]
def Sim.slot (h:Sim T w0 S0 ⟨F,H⟩ F' w S φ) {dst a v} (f:VR T w S φ a v) (c:okA H a):Sim T w0 S0 ⟨za9 T F dst a,H⟩ (upd F' dst v) w S φ:=by
 refine ⟨?_,?_,h.chg,h.own,h.ex,h.lives,h.pins,h.ents,h.eids,h.apart⟩
 ·intro i b d;rcases qk5 d with ⟨rfl,rfl⟩|⟨g,e⟩
  ·exact ⟨v,qv6,f⟩
  ·obtain ⟨u,j,k⟩:=h.fr i b e;exact ⟨u,by rw [qv7 g];exact j,k⟩
 ·intro i b d;rcases qk5 d with ⟨_,rfl⟩|⟨_,e⟩
  ·exact c
  ·exact h.ids i b e
def Sim.pure (h:Sim T w0 S0 ⟨F,H⟩ F' w S φ) (g:Chg [] w w'):Sim T w0 S0 ⟨F,H⟩ F' w' S φ:=by
 refine ⟨?_,h.ids,h.chg.pure g,fun b d=>⟨(h.own b d).1,V1 (h.own b d).2 g.size⟩,h.ex,h.lives,h.pins,?_,h.eids,h.apart⟩
 ·intro i a f;obtain ⟨v,k,l⟩:=h.fr i a f;exact ⟨v,k,l.chg T g (by simp) (fun b d=>.inl d)⟩
 ·intro i e j;have m:e.live=true-> ∀a,At (φ i) a->a.block∈S:=fun c a f=>(h.lives i e j c a f).1;exact (h.ents i e j).chg T g (by simp) (fun b d=>.inl d) fun c a f=>⟨by simp,m c a f⟩
def zw1 (φ:Nat->RA) (n:Nat) (r:RA):Nat->RA:=fun i=>if i=n then r else φ i
def zc9 {n i r} (h:i≠n):zw1 φ n r i=φ i:=by unfold zw1;rw [if_neg h]
def k7 {n r}:zw1 φ n r n=r:=by unfold zw1;rw [if_pos rfl]
def zf5 (h:Sim T w0 S0 ⟨F,H⟩ F' w S φ) {i e} (b:H[i]?=some e) (c:e.live=true) {a} (d:At (φ i) a):a.block∈S:=(h.lives i e b c a d).1
def wc0 (h:Sim T w0 S0 ⟨F,H⟩ F' w S φ) {i e} (b:H[i]?=some e) (c:e.live=true) {a} (d:(φ i).ad=some a):a.block∈S:=(h.lives i e b c a (.inl d)).1
def RA.all (r:RA):List Nat:=zc7 r.ad++r.xs
def zr4 {r b}:b∈r.all↔ ∃a,At r a/\a.block=b:=by
 unfold RA.all;rw [X4];constructor
 ·rintro (h|h)
  ·unfold zc7 at h;split at h
   ·rename_i a c;simp at h;exact ⟨a,.inl c,h.symm⟩
   ·cases h
  ·exact ⟨⟨b,0,none⟩,.inr h,rfl⟩
 ·rintro ⟨a,h|h,rfl⟩
  ·left;rw [h];simp [zc7]
  ·exact .inr h
def yf0 {ad n c a} (h:At ⟨ad,n,c,[]⟩ a):ad=some a:=by
 rcases h with h|h
 ·exact h
 ·cases h
def ya0 {g n c a} (h:At ⟨some ⟨g,0,none⟩,n,c,[]⟩ a):a.block=g:=by
 rcases h with h|h
 ·simp only [X0] at h;subst h;rfl
 ·cases h
def Sim.addG (h:Sim T w0 S0 ⟨F,H⟩ F' w S φ) {Tc} (J:Chg Tc w w') (V: ∀b∈Tc,b∈S) (A: ∀b∈Tc,b∈S0.chg\/w0.heap.size<=b) (n: ∀(j:Nat) (e:Ent T.U),H[j]?=some e->e.live=true-> ∀a,At (φ j) a->a.block∉Tc) (o: ∀b∈S,b∈S') (B: ∀b∈S',b∈S\/(w.heap.size<=b/\b<w'.heap.size)) {r e} (W: ∀a,At r a->w.heap.size<=a.block\/a.block∈Tc) (L: ∀a,At r a->a.block∈S')
  (Y:EntR T w' S' (zw1 φ H.length r) H.length e) (C: ∀j∈e.cellIds,j<H.length+1):
  Sim T w0 S0 ⟨F,H++ [e]⟩ F' w' S' (zw1 φ H.length r):=by
 have X: ∀b∈S',b∈S\/w.heap.size<=b:=fun b l=>(B b l).imp id And.left;have m: ∀i f,(H++ [e])[i]?=some f->(i<H.length/\H[i]?=some f)\/(i=H.length/\f=e):=by
  intro i f d;rcases M1 i H.length with u|u|u
  ·rw [X8 u] at d;exact .inl ⟨u,d⟩
  ·subst u;simp at d;exact .inr ⟨rfl,d.symm⟩
  ·rw [Y5 (by simp;omega)] at d;cases d
 have x: ∀(j:Nat) (f:Ent T.U),H[j]?=some f->f.live=true-> ∀a,At (φ j) a-> ∀b,At r b->a.block≠b.block:=by
  intro j f d p a g b l e;rcases W b l with y|y
  ·have:=(h.own _ (zf5 h d p g)).2;omega
  ·exact n j f d p a g (e▸y)
 refine ⟨?_,?_,?_,?_,fun b l Z q2=>o _ (h.ex b l Z q2),?_,fun k r K=>?_,?_,?_,?_⟩
 ·intro i a g;obtain ⟨v,z,D⟩:=h.fr i a g;refine ⟨v,z,(D.chg T J V X).phi fun j s=>zc9 ?_⟩;have:=(h.ids i a g).1 j s;simp only at this;omega
 ·intro i a g;obtain ⟨z,D⟩:=h.ids i a g;refine ⟨fun j s=>by have:=z j s;simp at this⊢;omega,?_⟩;cases a with
  |eptr j sz k c=>
   intro e' t xs M;rcases m _ _ M with ⟨_,M⟩|⟨s,_⟩
   ·exact D e' t xs M
   ·have:=z j (by simp [AV.ids]);simp at this;omega
  |_=>trivial
 ·exact h.chg.step J A
 ·intro b l;rcases B b l with l|⟨y,N⟩
  ·exact ⟨(h.own b l).1,V1 (h.own b l).2 J.size⟩
  ·exact ⟨.inr (W7 h.chg.size y),N⟩
 ·intro i f d p a g;rcases m i f d with ⟨u,d⟩|⟨rfl,rfl⟩
  ·rw [zc9 (by omega)] at g;have q:=h.lives i f d p a g;exact ⟨o _ q.1,q.2⟩
  ·rw [k7] at g;refine ⟨L a g,?_⟩;rcases W a g with y|y
   ·exact .inr (W7 h.chg.size y)
   ·exact A _ y
 ·obtain ⟨z,D⟩:=h.pins k r K;simp only at D;exact ⟨by rw [zc9 (by omega)];exact z,by simp only [X9];omega⟩
 ·intro i f d;rcases m i f d with ⟨u,d⟩|⟨rfl,rfl⟩
  ·have z:=(h.ents i f d).chg T J (S':=S') V X fun p a g=>⟨n i f d p a g,o _ (zf5 h d p g)⟩;have O:i≠H.length:=by omega
   refine z.phiE (zc9 O) fun j s=>.of (zc9 ?_);have:=h.eids i _ d j s;simp only at this;omega
  ·exact Y
 ·intro i f d j s;simp only [X9,U5,N5];rcases m i f d with ⟨u,d⟩|⟨rfl,rfl⟩
  ·have:=h.eids i f d j s;simp only at this;omega
  ·exact C j s
 ·intro i j f Q d R p E G a b g l;rcases m i f d with ⟨u,K⟩|⟨rfl,rfl⟩<;>rcases m j Q R with ⟨s,I⟩|⟨rfl,rfl⟩
  ·rw [zc9 (by omega)] at g l;exact h.apart i j f Q K I p E G a b g l
  ·rw [zc9 (by omega)] at g;rw [k7] at l;exact x i f K p a g b l
  ·rw [k7] at g;rw [zc9 (by omega)] at l;exact (x j Q I E b l a g).symm
  ·exact absurd rfl G
def Sim.add (h:Sim T w0 S0 ⟨F,H⟩ F' w S φ) {g} (m:Chg [] w w') (k:w.heap.size<=g) (f:g<w'.heap.size) {r e} (l: ∀a,At r a->a.block=g) (n:EntR T w' (g::S) (zw1 φ H.length r) H.length e) (c: ∀j∈e.cellIds,j<H.length+1):
  Sim T w0 S0 ⟨F,H++ [e]⟩ F' w' (g::S) (zw1 φ H.length r):=h.addG m (by simp) (by simp) (fun _ _ _ _ _ _=>by simp) (fun b d=>Z4 _ d) (fun b d=>by
  rcases Z0.1 d with rfl|d
  ·exact .inr ⟨k,f⟩
  ·exact .inl d) (fun a i=>.inl (by rw [l a i];exact k)) (fun a i=>by rw [l a i];exact U1 ..) n c
def Sim.upd (h:Sim T w0 S0 ⟨F,H⟩ F' w S φ) {i e0 e} (q:H[i]?=some e0) (m:e0.live=true) {Tc} (J:Chg Tc w w') (M: ∀b∈Tc,∃a,At (φ i) a/\a.block=b)
  (Y:EntR T w' S φ i e) (B: ∀j∈e.cellIds,j<H.length) (C: ∀K t xs,e=.row K t xs-> ∃N ys,e0=.row N t ys/\ys.length<=xs.length):Sim T w0 S0 ⟨F,H.set i e⟩ F' w' S φ:=by
 have D: ∀b∈Tc,b∈S:=by
  intro b l;obtain ⟨a,g,rfl⟩:=M b l;exact zf5 h q m g
 have O:i<H.length:=(X2.1 q).1;have n: ∀j f,(H.set i e)[j]?=some f->(j=i/\f=e)\/(j≠i/\H[j]?=some f):=by
  intro j f d;by_cases o:j=i
  ·subst o;rw [Q0 O] at d;simp only [X0] at d;exact .inl ⟨rfl,d.symm⟩
  ·rw [Z5 (Ne.symm o)] at d;exact .inr ⟨o,d⟩
 refine ⟨?_,?_,?_,?_,h.ex,?_,fun k r L=>?_,?_,?_,?_⟩
 ·intro j a g;obtain ⟨v,E,z⟩:=h.fr j a g;exact ⟨v,E,z.chg T J D (fun b l=>.inl l)⟩
 ·intro j a g;obtain ⟨E,z⟩:=h.ids j a g;refine ⟨fun x A=>by simpa using E x A,?_⟩;cases a with
  |eptr y sz k c=>
   intro K t xs A;rcases n _ _ A with ⟨Z,u⟩|⟨_,u⟩
   ·obtain ⟨N,ys,Q,s⟩:=C K t xs u.symm;subst Q;subst Z;obtain ⟨g1,g2⟩:=z N t ys q;exact ⟨by omega,g2⟩
   ·exact z K t xs u
  |_=>trivial
 ·refine h.chg.step J fun b l=>?_;obtain ⟨a,g,rfl⟩:=M b l;exact (h.lives i e0 q m a g).2
 ·exact fun b l=>⟨(h.own b l).1,V1 (h.own b l).2 J.size⟩
 ·intro j f d s a g;rcases n j f d with ⟨rfl,rfl⟩|⟨_,d⟩
  ·exact h.lives j e0 q m a g
  ·exact h.lives j f d s a g
 ·obtain ⟨E,z⟩:=h.pins k r L;exact ⟨E,by simpa using z⟩
 ·intro j f d;rcases n j f d with ⟨rfl,rfl⟩|⟨o,d⟩
  ·exact Y
  ·refine (h.ents j f d).chg T J D (fun b l=>.inl l) fun s a g=>⟨fun l=>?_,zf5 h d s g⟩;obtain ⟨a',R,V⟩:=M _ l;exact h.apart j i f e0 d q s m o a a' g R V.symm
 ·intro j f d x A;simp only [Q1];rcases n j f d with ⟨rfl,rfl⟩|⟨_,d⟩
  ·exact B x A
  ·exact h.eids j f d x A
 ·intro j k f W d X s G p a b g l;rcases n j f d with ⟨rfl,rfl⟩|⟨hj,L⟩<;>rcases n k W X with ⟨rfl,rfl⟩|⟨hj',I⟩
  ·exact absurd rfl p
  ·exact h.apart j k e0 W q I m G p a b g l
  ·exact h.apart j k f e0 L q s m p a b g l
  ·exact h.apart j k f W L I s G p a b g l
def Sim.drop (h:Sim T w0 S0 ⟨F,H⟩ F' w S φ) (i):Sim T w0 S0 ⟨F,H.set i .gone⟩ F' w S φ:=by
 have e: ∀(j:Nat) (f:Ent T.U),(H.set i .gone)[j]?=some f->f=.gone\/H[j]?=some f:=by
  intro j f d;by_cases m:j=i
  ·subst m;by_cases l:j<H.length
   ·rw [Q0 l] at d;simp only [X0] at d;exact .inl d.symm
   ·rw [Y5 (by simp;omega)] at d;cases d
  ·rw [Z5 (Ne.symm m)] at d;exact .inr d
 refine ⟨h.fr,?_,h.chg,h.own,h.ex,?_,fun k r p=>?_,?_,?_,?_⟩
 ·intro j a n;obtain ⟨q,s⟩:=h.ids j a n;refine ⟨fun x g=>by simpa using q x g,?_⟩;cases a with
  |eptr y sz k c=>
   intro B t xs g;rcases e _ _ g with g|g
   ·cases g
   ·exact s B t xs g
  |_=>trivial
 ·intro j f d l a n;rcases e j f d with rfl|d
  ·cases l
  ·exact h.lives j f d l a n
 ·obtain ⟨q,s⟩:=h.pins k r p;exact ⟨q,by simpa using s⟩
 ·intro j f d;rcases e j f d with rfl|d
  ·trivial
  ·exact h.ents j f d
 ·intro j f d x g;simp only [Q1];rcases e j f d with rfl|d
  ·cases g
  ·exact h.eids j f d x g
 ·intro j k f A d u l o v a b n C;rcases e j f d with rfl|p
  ·cases l
  ·rcases e k A u with rfl|z
   ·cases o
   ·exact h.apart j k f A p z l o v a b n C
end
end Go.X
namespace Go.X
open Go.RowKit Go.V
section
variable {T:Tab} {P:Program} {w w':World} {S S':List Nat} {φ φ':Nat->RA} {w0:World} {S0:Ow} {F:AF T} {H:List (Ent T.U)} {F':PF}
variable {rd:List Nat} {ops:Array Oper} {Q:Exit->Act->World->Prop} {k n:Nat} {ds:List Deferred} {o:Oper}
def zp6 (P:Program) (ops:Array Oper) (Q:Exit->Act->World->Prop) (k n:Nat) (ds:List Deferred) (w0:World) (S0:Ow) (st:St T):Prop:= ∀F1 a,zc1 T w0 S0 st F1 a->WR P ops Q k n ds F1 a
def zo0 {a} (h:a.ids= []) (d: ∀i sz k c,a≠.eptr i sz k c):okA H a:=by
 refine ⟨fun i b=>(by rw [h] at b;cases b),?_⟩;cases a<;>first|trivial|exact absurd rfl (d _ _ _ _)
def yk3 (v):(yi9 T v).ids= []:=by cases v<;>rfl
def ym6: ∀l:List Value,u0 (l.map (yi9 T))= []
 | []=>rfl
 |v::r=>by rw [U2,u0,yk3,ym6 r];rfl
def jz5 (v):(ofV T v).ids= []:=by
 have h:=yk3 (T:=T) v;cases v<;>first|exact h|(show (AV.agg _).ids= [];rw [AV.ids];exact ym6 _)
def wc3 (v):okA H (ofV T v):=zo0 (jz5 v) (by intro i sz k c;cases v<;>simp [ofV,yi9])
def zc5 (h:Sim T w0 S0 ⟨F,H⟩ F' w S φ) {x:Operand} {a:AV T.U} (ha:aev T F x=some a):okA H a:=by
 cases x with
 |tmp t=>exact h.ids t a ha
 |const v=>simp only [aev,X0] at ha;subst ha;exact wc3 v
 |global g=>cases ha
 |func f=>simp only [aev,X0] at ha;subst ha;exact zo0 rfl (by intros;simp)
def qh2 {e} (b:dec ops k n F'=some o) (a:o.op=.alloc e):yu9 ops k n F'=some (o.dst,e):=by
 unfold yu9;rw [b];cases o;simp only at a;subst a;rfl
def vo1 {e x} (b:dec ops k n F'=some o) (a:o.op=.box e x):qb6 ops k n F'=some (o.dst,e,evD F' x):=by
 unfold qb6;rw [b];cases o;simp only at a;subst a;rfl
def zx5 {t x} (b:dec ops k n F'=some o) (a:o.op=.load t x):zp1 ops k n F'=some (o.dst,t,evD F' x):=by
 unfold zp1;rw [b];cases o;simp only at a;subst a;rfl
def yf1 {a} (h:ya9 T a=true):u0 (ze9 T a)=a.ids:=by
 rcases yn6 h with ⟨cs,rfl⟩|⟨_,b⟩
 ·rfl
 ·rw [b,u0,u0,J7]
def wa9 {e x} (u:dec ops k n F'=some o) (p:o.op=.box e x) {a} (l:aev T F x=some a) {cs} (q: ∀(w:World) (S:List Nat) (φ:Nat->RA) (v:Value),VR T w S φ a v->BR T w S φ cs v.cells.toList) (d: ∀i∈u0 cs,i∈a.ids) (h:Sim T w0 S0 ⟨F,H⟩ F' w S φ)
  (K:zp6 P ops Q (k+1) n ds w0 S0 (⟨za9 T F o.dst (.ptr H.length 0),H++ [.blk e cs]⟩:St T)):WR P ops Q k n ds F' w:=by
 obtain ⟨v,y,z⟩:=v8 h.fr l;have f:=zc5 h l;refine WR.box (v:=v) (by rw [vo1 u p,k8 y]) _ rfl fun g w' c=>K _ _ ⟨g::S,zw1 φ H.length ⟨some ⟨g,0,none⟩,0,0,[]⟩,?_⟩;have A: ∀b∈g::S,b∈S\/w.heap.size<=b:=by
  intro b s;rcases Z0.1 s with rfl|s
  ·exact .inr c.fresh
  ·exact .inl s
 have B:=h.add (r:=⟨some ⟨g,0,none⟩,0,0,[]⟩) c.chg c.fresh c.blk.lt (fun a l=>ya0 l) (e:=.blk e cs)
  ⟨g,v.cells,by rw [k7],c.blk,by simp,((q _ _ _ _ z).chg T c.chg (by simp) A).phi fun i m=>zc9 (by have:=f.1 i (d i m);omega)⟩
  (by intro j t;rw [Ent.cellIds] at t;have:=f.1 j (d j t);omega)
 refine B.slot ⟨g,by rw [k7],rfl⟩ ⟨by intro i m;simp [AV.ids] at m;subst m;simp,trivial⟩
def jg0 {t cs j a} (h:zt5 T P t cs j=some a): ∃i d,P.info? t=some i/\P.underlying t=some d/\jn4 T cs j i.size (zz9 d)=some a:=by
 unfold zt5 at h;split at h
 ·rename_i i d b c;exact ⟨i,d,b,c,h⟩
 ·cases h
def vg4 {t cs c j a} (f:BR T w S φ cs c.toList) (h:jc2 T P t cs j=some a): ∃v,ldv P t c j=some v/\VR T w S φ a v:=by
 unfold jc2 at h;split at h
 ·rename_i i d g l;obtain ⟨v,b,m,e⟩:=ke9 f h;refine ⟨v,?_,m⟩;unfold ldv;rw [g,l];cases d<;>simp only [zz9] at b e⊢ <;>first|simpa using b|(rw [show Nat.ble (j+i.size) c.size=true from W3 (e trivial)];simpa using b)
 ·cases h
def jt9 {t cs j a} (h:jc2 T P t cs j=some a): ∀i∈a.ids,i∈u0 cs:=by
 unfold jc2 at h;split at h
 ·exact ke8 h
 ·cases h
def zd7 {a:AV T.U}: ∀ {l},a∈l-> ∀i∈a.ids,i∈u0 l
 | [],h,_,_=>by cases h
 |b::r,h,i,c=>by
  rw [u0];rcases Z0.1 h with rfl|h
  ·exact X4.2 (.inl c)
  ·exact X4.2 (.inr (zd7 h i c))
def zm0 {i:Nat}: ∀ {l:List (AV T.U)},i∈u0 l-> ∃a∈l,i∈a.ids
 | [],h=>by cases h
 |b::r,h=>by
  rw [u0] at h;rcases X4.1 h with h|h
  ·exact ⟨b,by simp,h⟩
  ·obtain ⟨a,c,d⟩:=zm0 h;exact ⟨a,Z4 _ c,d⟩
def jk1 {cs j m d a} (h:jn4 T cs j m d=some a): ∀i∈a.ids,i∈u0 cs:=by
 unfold jn4 at h;split at h
 ·split at h
  ·simp only [X0] at h;subst h;intro i c;rw [AV.ids] at c;obtain ⟨b,e,c⟩:=zm0 c;exact zd7 (List.mem_of_mem_drop (J8 e)) i c
  ·cases h
 ·intro i c;exact zd7 (X6 h) i c
def noE (cs:List (AV T.U)):Prop:= ∀a∈cs,∀i sz k c,a≠.eptr i sz k c
def gb0 {cs} (b:noE cs) {j m d a} (h:jn4 T cs j m d=some a) (e: ∀i∈u0 cs,i<H.length):okA H a:=by
 refine ⟨fun i f=>e i (jk1 h i f),?_⟩;cases a with
 |eptr i sz k c=>
  unfold jn4 at h;split at h
  ·split at h
   ·cases h
   ·cases h
  ·exact absurd rfl (b _ (X6 h) i sz k c)
 |_=>trivial
def Same (φ:Nat->RA) (rd:List Nat) (w b:World):Prop:= ∀e∈rd,∀a,(φ e).ad=some a->a.block<w.heap.size->b.heap[a.block]?=w.heap[a.block]?
def QR (P:Program) (F':PF) (o:Oper) (S:List Nat) (φ:Nat->RA) (rd:List Nat) (w:World) (v:Value):Prop:= ∀a,Chg S w a->Same φ rd w a->(execOp (evD F') o).run P a=.ok (.value v) a
def Same.pure {rd b} (c:Chg [] w b):Same φ rd w b:=fun _ _ _ _ a=>c.block _ a (by simp)
def vf0 {a} (b:Chg [] w a) (S):Chg S w a:=(Chg.refl S w).step b (by simp)
def Rg.same {ad cs a} (h:Rg w ad cs) (c:a.heap[bk ad]?=w.heap[bk ad]?):Rg a ad cs:=fun j u b=>⟨(h j u b).1,(World.cell?_of_block c).trans (h j u b).2⟩
def yh2 {o'} (h:dec ops k n F'=some o) (a:dec ops k n F'=some o'):o'=o:=by rw [h] at a;cases a;rfl
def QR.load {t g j c e dst} (d:dec ops k n F'=some o) (f: ∀a,Chg S w a->Same φ rd w a->Blk a g c e) (h:zp1 ops k n F'=some (dst,t,.pointer (some ⟨g,j,none⟩))) (v) (i:ldv P t c j=some v):QR P F' o S φ rd w v:=by
 intro a l m;obtain ⟨q,b,_,p⟩:=zg8 h;rw [<-yh2 d b,p];simp [Instr.loadAt,Instr.sureAddr,zm6 (f a l m) i]
def QR.load1 {dst t a} (e:dec ops k n F'=some o) (f:zp1 ops k n F'=some (dst,t,.pointer (some a))) (g:zi3 P t=true) (v) (h: ∀b,Chg S w b->Same φ rd w b->b.cell? a=some v):QR P F' o S φ rd w v:=by
 intro b i d;obtain ⟨l,c,_,j⟩:=zg8 f;rw [<-yh2 e c,j];simp [Instr.loadAt,Instr.sureAddr,zi7 g (h b i d)]
def QR.loadA {dst t ad j cs sz} (x:dec ops k n F'=some o) (l: ∀a,Chg S w a->Same φ rd w a->Rg a ad cs) (y:zp1 ops k n F'=some (dst,t,.pointer (some ⟨bk ad,of ad+j,none⟩))) (m:zi3 P t=false) (z:(P.underlying t).isSome=true) (b:zv7 P t=some sz) (vs) (A:vs.length=sz) (B:(cs.drop j).take sz=vs):QR P F' o S φ rd w (.agg vs.toArray):=by
 intro a p c;have l:=l a p c;obtain ⟨E,e,_,C⟩:=zg8 y;rw [<-yh2 x e];obtain ⟨d,f⟩:=N4.1 z;have q:zz9 d=true:=by
  unfold zi3 at m;rw [f] at m;cases d<;>first|rfl|cases m
 have r:(sizeOf t).run P a=.ok sz a:=by
  unfold zv7 at b;cases hin:P.info? t with
  |none=>rw [hin] at b;cases b
  |some D=>rw [hin] at b;simp at b;simp [sizeOf,typeInfo,hin,b]
 have u:=run_loadCells_list (P:=P) (w:=a) ⟨bk ad,of ad+j,none⟩ vs (fun i v g=>by
  have h:(⟨bk ad,of ad+j,none⟩:Addr).add i=⟨bk ad,of ad+(j+i),none⟩:=by unfold Addr.add;split<;>simp_all [U9]
  rw [h];rw [<-B,Z3] at g;split at g
  ·rw [Q6] at g;exact (l (j+i) v g).2
  ·cases g)
 rw [A] at u;have s:(loadVar t ⟨bk ad,of ad+j,none⟩).run P a=.ok (.agg vs.toArray) a:=by
  unfold loadVar;rw [Sem.run_bind,zl1 f,q];simp only [Result.andThen_ok,if_true,Sem.run_bind,r,u,Sem.run_pure]
 rw [C];simp [Instr.loadAt,Instr.sureAddr,s]
def QR.indexS {dst t b e m cap f i} (g:dec ops k n F'=some o) (h:zu0 ops k n F'=some (dst,t,.slice (some ⟨b,e,none⟩) m cap,.int f i)) (sz:Nat) (d:zn3 P t=some sz) (j:Nat) (l:i=(j:Int)) (q:j<m):QR P F' o S φ rd w (.pointer (some ⟨b,e+j*sz,none⟩)):=by
 subst l;obtain ⟨r,a,_,c⟩:=ys1 h d (by omega) (by omega);rw [<-yh2 g a];intro p _ _;simpa using c p
def QR.sliceH {dst t e ad m cap g h sz b l} (p:dec ops k n F'=some o) (q:zy8 ops k n F'=some (dst,t,.slice ad m cap,none,some (.int g h))) (r:zp5 P t=some (e,sz,b,l)) (j:Nat) (s:h=(j:Int)) (u:j<=cap):QR P F' o S φ rd w (.slice ad j cap):=by
 subst s;intro w _ _;obtain ⟨o',a,_,v⟩:=ya2 q;obtain ⟨i,z,c,d,_⟩:=zd2 r;have f:P.elem t=e:=by simp [Program.elem,c]
 have x:(sizeOf e).run P w=.ok i.size w:=by simp [sizeOf,typeInfo,d]
 rw [<-yh2 p a,v,Sem.run_bind,run_sliceAt_slice w t _ _ _ _ (yo2 c),run_slice_h w t ad m cap (yo2 c) g j (by omega) (by omega),f,x];simp only [Result.andThen_ok,sliced,Z1,M0,J5];split<;>(cases ad<;>simp [Addr.add])
def QR.sliceLH {dst t e ad m cap kl p l h sz b q} (r:dec ops k n F'=some o) (s:zy8 ops k n F'=some (dst,t,.slice ad m cap,some (.int kl l),some (.int p h))) (u:zp5 P t=some (e,sz,b,q)) (i j:Nat) (v:l=(i:Int)) (x:h=(j:Int)) (y:i<=j) (A:j<=cap):
  QR P F' o S φ rd w (.slice (if cap=i then ad else ad.map (·.add (i*sz))) (j-i) (cap-i)):=by
 subst x v;intro w _ _;obtain ⟨o',a,_,B⟩:=ya2 s;obtain ⟨C,z,c,d,_,f,_⟩:=zd2 u;have g:P.elem t=e:=by simp [Program.elem,c]
 have D:(sizeOf e).run P w=.ok sz w:=by simp [sizeOf,typeInfo,d,f]
 rw [<-yh2 r a,B,Sem.run_bind,run_sliceAt_slice w t _ _ _ _ (yo2 c),run_slice_lh w t ad m cap (yo2 c) kl p i j (by omega) (by omega) (by omega),g,D];simp only [Result.andThen_ok,sliced,Z1];rfl
def QR.sliceL {dst t e ad m cap kl l sz b h} (j:dec ops k n F'=some o) (p:zy8 ops k n F'=some (dst,t,.slice ad m cap,some (.int kl l),none)) (q:zp5 P t=some (e,sz,b,h)) (i:Nat) (r:l=(i:Int)) (s:i<=m):
  QR P F' o S φ rd w (.slice (if cap=i then ad else ad.map (·.add (i*sz))) (m-i) (cap-i)):=by
 subst r;intro w _ _;obtain ⟨o',a,_,u⟩:=ya2 p;obtain ⟨v,z,c,d,_,f,_⟩:=zd2 q;have g:P.elem t=e:=by simp [Program.elem,c]
 have x:(sizeOf e).run P w=.ok sz w:=by simp [sizeOf,typeInfo,d,f]
 rw [<-yh2 j a,u,Sem.run_bind,run_sliceAt_slice w t _ _ _ _ (yo2 c),run_slice_l w t ad m cap (yo2 c) kl i (by omega) (by omega),g,x];simp only [Result.andThen_ok,sliced,Z1];rfl
def qw4 {Z:Prop} {t:TypeId} {x:Operand} (p:dec ops k n F'=some o) (b:o.op=.load t x) {i j:Nat} {e:TypeId} {cs:List (AV T.U)} {a:AV T.U} (y:aev T F x=some (.ptr i j)) (q:H[i]?=some (.blk e cs)) (z: ∀i sz k c,a≠.eptr i sz k c) (r:jc2 T P t cs j=some a)
  (h:Sim T w0 S0 ⟨F,H⟩ F' w S φ) (d:i∈rd) (K: ∀v,QR P F' o S φ rd w v->VR T w S φ a v->okA H a->Z):Z:=by
 obtain ⟨v,A,g,s,rfl⟩:=v8 h.fr y;obtain ⟨E,c,f,u,G,B⟩:=h.ents i _ q;rw [s] at f;simp only [X0,Addr.mk.injEq,and_true] at f;subst f;obtain ⟨v,C,D⟩:=vg4 B r;refine K v (QR.load p (fun I _ l=>(l i d _ s u.lt).trans u) (by rw [zx5 p b,k8 A]) v C) D ⟨fun i m=>h.eids _ _ q i (jt9 r i m),?_⟩;cases a<;>first|trivial|exact absurd rfl (z _ _ _ _)
def yp8 (t x):u0 (zu6 T t x)= []:=by
 unfold zu6;generalize zb5 T t x=l;induction l with
 |nil=>rfl
 |cons c r a=>rw [U2,u0,a];rfl
def yp9 (t x):noE (zu6 T t x):=by
 intro a b i sz k c e;unfold zu6 at b;obtain ⟨c',_,rfl⟩:=U0.1 b;cases e
def jz4 {Z:Prop} {t:TypeId} {x:Operand} (q:dec ops k n F'=some o) (r:o.op=.load t x) {b o0 c:Nat} {cs:List (AV T.U)} {e:List Value} {a:AV T.U} (D:ev F' x=some (.pointer (some ⟨b,o0+c,none⟩)))
  (B: ∀h,Chg S w h->Same φ rd w h->Rg h (some ⟨b,o0,none⟩) e) (s:VRL T w S φ cs e) (E:noE cs) (l:u0 cs= []) (G:zt5 T P t cs c=some a)
  (K: ∀v,QR P F' o S φ rd w v->VR T w S φ a v->okA H a->Z):Z:=by
 obtain ⟨i,d,u,y,f⟩:=jg0 G;have m:okA H a:=gb0 E f (by rw [l];intro i u;cases u);have g:=zx5 q r;rw [k8 D] at g;cases hag:zz9 d with
 |false=>
  rw [hag] at f;obtain ⟨v,I,J⟩:=s.get T (show cs[c]?=some a from f);have z:zi3 P t=true:=by unfold zi3;rw [y];cases d<;>simp_all [zz9]
  refine K v (QR.load1 q g z v ?_) J m;exact fun h f A=>(B h f A c v I).2
 |true=>
  rw [hag] at f;unfold jn4 at f;simp only at f;split at f
  ·rename_i p;simp only [X0] at f;subst f;have z:zi3 P t=false:=by unfold zi3;rw [y];cases d<;>simp_all [zz9]
   have C:=s.len T;have p:=Y1 p;refine K _ (QR.loadA (ad:=some ⟨b,o0,none⟩) (j:=c) (cs:=e) (sz:=i.size) q B g z (by rw [y];rfl) (by unfold zv7;rw [u];rfl) ((e.drop c).take i.size) (by rw [Y6,Q7];omega) rfl) ⟨_,rfl,?_⟩ m;simpa using (s.drop T c).take T i.size
  ·cases f
def zn5 {α} {xs:List α} {k} (d:α) (a:k<xs.length):xs[k]?=some (xs.getD k d):=by
 rw [Y2,Y0 a];rfl
def vp8 {e xs ad cap} (h:CR T w S (.list e) xs (.slice ad xs.length cap)) {k} (z:k<xs.length):
  ∃a,Rg w (some ⟨bk ad,of ad+k*szT T e,none⟩) a/\VRL T w S φ (zu6 T e (xs.getD k (zz2 T e))) a/\bk ad∉S:=by
 generalize A:Value.slice ad xs.length cap=v at h;cases h with
 |list _ _ G B u C D q d f=>
  simp only [Value.slice.injEq,true_and] at A;obtain ⟨rfl,rfl⟩:=A;have E:=zn5 (zz2 T e) z;generalize xs.getD k (zz2 T e)=x at *;refine ⟨(List.range (szT T e)).map (u k),?_,?_,(q (fun e0=>by subst e0;simp at z)).2.2⟩
  ·intro j v b;refine ⟨rfl,?_⟩;simp only [bk,of];have g:j<szT T e:=by
    have:=(X2.1 b).1;simpa using this
   rw [W2,List.getElem?_range g] at b;simp only [Z8,X0] at b;subst b;have p:(zb5 T e x)[j]?=some ((zb5 T e x)[j]'(by rw [za2];exact g)):=Y0 _;have:=d k j _ (by rw [E];exact congrArg some p);rw [U9];exact this
  ·have y: ∀(l:List (Cell T.U)) (s m:Nat),l.length=m->(∀j c,l[j]?=some c->CR T w S c.t c.x (u k (s+j)))->VRL T w S φ (l.map .cell) ((List.range' s m).map (u k)):=by
    intro l;induction l with
    |nil=>intro s m i _;simp at i;subst i;simp [VRL]
    |cons c r I=>
     intro s m i p;cases m with
     |zero=>simp at i
     |succ m=>
      rw [U2,List.range'_succ,U2];refine ⟨p 0 c rfl,I (s+1) m (by simpa using i) fun j c' b=>?_⟩;have:=p (j+1) c' (by simpa using b);rwa [show s+1+j=s+(j+1) by omega]
   have:=y (zb5 T e x) 0 (szT T e) (za2 T e x) (fun j c b=>by rw [W8];exact f k j c (by rw [E];exact congrArg some b));unfold zu6;rw [List.range_eq_range'];exact this
def qi1 {Z:Prop} {t:TypeId} {x:Operand} (g:dec ops k n F'=some o) (d:o.op=.load t x) {e:Ty} {xs:List (den T.U e)} {i c:Nat} {a:AV T.U} (j:aev T F x=some (.lptr e xs i c)) (l:zt5 T P t (zu6 T e (xs.getD i (zz2 T e))) c=some a)
  (h:Sim T w0 S0 ⟨F,H⟩ F' w S φ) (K: ∀v,QR P F' o S φ rd w v->VR T w S φ a v->okA H a->Z):Z:=by
 obtain ⟨v,m,ad,cap,p,q,rfl⟩:=v8 h.fr j;obtain ⟨f,r,s,u⟩:=vp8 (φ:=φ) p q;exact jz4 g d (b:=bk ad) (o0:=of ad+i*szT T e) (c:=c) (by rw [m,U9]) (fun z y _=>r.chg y (.inl u)) s (yp9 _ _) (yp8 _ _) l K
def ja9 {t x y} (b:dec ops k n F'=some o) (a:o.op=.indexAddr t x y):zu0 ops k n F'=some (o.dst,t,evD F' x,evD F' y):=by
 unfold zu0;rw [b];cases o;simp only at a;subst a;rfl
def zz4 {t e} (h:yt2 T P t e=true):zn3 P t=some (szT T e):=by
 unfold yt2 at h;split at h
 ·rename_i s a;rw [a,X1 h]
 ·cases h
def u9 {R:Type} {c:Prop} [Decidable c] {x:Option R} {r:R} (h:(if c then x else none)=some r):c/\x=some r:=by
 split at h
 ·rename_i a;exact ⟨a,h⟩
 ·cases h
def jd9 (h:Sim T w0 S0 ⟨F,H⟩ F' w S φ) {i:Nat} {e:TypeId} {ty:Ty} {xs:List (den T.U ty)} (hi:H[i]?=some (.row e ty xs)) (hx:0<xs.length):
  ∃g c B vals,(φ i).ad=some ⟨g,0,none⟩/\(φ i).n=xs.length/\Own w B e (szT T ty) (φ i).ad xs.length (φ i).cap vals/\Blk w g c e/\(φ i).cap*szT T ty<=c.size/\c.toList.take (xs.length*szT T ty)=vals/\CellsR T w S (xs.flatMap (zb5 T ty)) vals/\g∈S/\B<=g/\B<=w.heap.size/\xs.length<=(φ i).cap/\(φ i).cap<=maxLen:=by
 obtain ⟨B,vals,h1,h2,h3,h4,h5⟩:=h.ents i _ hi;rw [h2] at h1;rcases h1.cases with ⟨_,hn,_⟩|⟨c,had,hB,hb,hle,hm,hs,ht⟩
 ·omega
 ·exact ⟨bk (φ i).ad,c,B,vals,had,h2,h1,hb,hs,ht,h4,h5 _ had,hB,h3,hle,hm⟩
def yh3 {α b:Type} {f:α->List b} {sz:Nat} (a: ∀y,(f y).length=sz): ∀ {l:List α} {k:Nat} {x:α},l[k]?=some x->((l.flatMap f).drop (k*sz)).take sz=f x
 | [],k,x,h=>by simp at h
 |y::r,0,x,h=>by
  simp at h;subst h;rw [V2,M0,J9,Z7 (by rw [a];exact W6 _),Q4 (by rw [a];exact W6 _)]
 |y::r,k+1,x,h=>by
  rw [V2,show (k+1)*sz=(f y).length+k*sz by rw [a,U8,J4],<-List.drop_drop,List.drop_left];exact yh3 a (by simpa using h)
def CellsR.vrl: ∀ {cs vs},CellsR T w S cs vs->VRL T w S φ (cs.map .cell) vs
 | [],[],_=>trivial
 | [],_::_,h=>by have:=h.1;simp at this
 |_::_,[],h=>by have:=h.1;simp at this
 |c::r,v::s,h=>⟨h.2 0 c v rfl rfl,CellsR.vrl ⟨by have:=h.1;simpa using this,fun j c' a b d=>h.2 (j+1) c' a (by simpa using b) (by simpa using d)⟩⟩
def CellsR.cut {cs vs} (h:CellsR T w S cs vs) (a b):CellsR T w S ((cs.drop a).take b) ((vs.drop a).take b):=by
 refine ⟨by rw [Y6,Y6,Q7,Q7,h.1],fun j c v d e=>?_⟩;rw [Z3] at d e;split at d
 ·rename_i f;rw [if_pos f] at e;rw [Q6] at d e;exact h.2 _ c v d e
 ·cases d
def km0 (h:Sim T w0 S0 ⟨F,H⟩ F' w S φ) {i e ty xs} (l:H[i]?=some (.row e ty xs)) {j} (m:j<xs.length):
  ∃g a,(φ i).ad=some ⟨g,0,none⟩/\Rg w (some ⟨g,0+j*szT T ty,none⟩) a/\VRL T w S φ (zu6 T ty (xs.getD j (zz2 T ty))) a:=by
 obtain ⟨g,c,B,a,b,_,p,_,_,_,q,_⟩:=jd9 h l (by omega);refine ⟨g,(a.drop (j*szT T ty)).take (szT T ty),b,?_,?_⟩
 ·have d:=p.rg;rw [b] at d;exact d.sub (j*szT T ty) (szT T ty) _ (fun _=>rfl)
 ·have f:=q.cut (j*szT T ty) (szT T ty);rw [yh3 (za2 T ty) (zn5 (zz2 T ty) m)] at f;exact f.vrl
def qi0 {Z:Prop} {t:TypeId} {x:Operand} (z:dec ops k n F'=some o) (d:o.op=.load t x) {i sz j c:Nat} {e:TypeId} {ty:Ty} {xs:List (den T.U ty)} {a:AV T.U} (u:aev T F x=some (.eptr i sz j c)) (f:H[i]?=some (.row e ty xs)) (A:zt5 T P t (zu6 T ty (xs.getD j (zz2 T ty))) c=some a)
  (h:Sim T w0 S0 ⟨F,H⟩ F' w S φ) (l:i∈rd) (K: ∀v,QR P F' o S φ rd w v->VR T w S φ a v->okA H a->Z):Z:=by
 obtain ⟨v,B,g,m,rfl⟩:=v8 h.fr u;obtain ⟨C,p⟩:=(zc5 h u).2 e ty xs f;obtain ⟨I,y,q,D,E⟩:=km0 h f C;have r:=(h.own _ (wc0 h f rfl m)).2;rw [m] at q;simp only [X0,Addr.mk.injEq,and_true] at q;subst q;subst p;exact jz4 z d (b:=g) (o0:=0+j*szT T ty) (c:=c) (by rw [B,U9]) (fun G _ s=>Rg.same D (show G.heap[g]?=w.heap[g]? from s i l ⟨g,0,none⟩ m r)) E (yp9 _ _) (yp8 _ _) A K
def gd7 {Z:Prop} {R:Type} {r:R} {t:TypeId} {x y:Operand} (hd:dec ops k n F'=some o) (hop:o.op=.indexAddr t x y) {s:AV T.U} {kk:IntKind} {j:Int} (hx:aev T F x=some s) (hy:aev T F y=some (cI T kk j)) {K0:AV T.U->Option R} (hK0:zw5 T P t H s j K0=some r)
  (h:Sim T w0 S0 ⟨F,H⟩ F' w S φ) (K: ∀a v,K0 a=some r->QR P F' o S φ rd w v->VR T w S φ a v->okA H a->Z):Z:=by
 obtain ⟨X,h1,h2⟩:=v8 h.fr hx;obtain ⟨Y,h3,h4⟩:=v8 h.fr hy;have e:=za3 h4;subst e;have hdi:=ja9 hd hop;rw [k8 h1,k8 h3] at hdi;unfold zw5 at hK0;split at hK0
 ·rename_i e xs;split at hK0
  ·rename_i hel;obtain ⟨hj,hK⟩:=u9 hK0;have h2:CR T w S (.list e) xs X:=h2;have h2':=h2;cases h2' with
   |list _ _ ad cap u hcap hnil had hcell hrel=>
    have hne:xs≠ []:=by intro e;subst e;simp at hj;omega
    obtain ⟨ha,_,_⟩:=had hne;generalize bk ad=b at ha;generalize of ad=of0 at ha;subst ha;refine K _ _ hK (QR.indexS hd hdi _ (zz4 hel) j.toNat (by omega) (by omega)) ⟨_,cap,h2,by omega,rfl⟩ ?_;exact ⟨fun i hi=>(by cases hi),trivial⟩
  ·cases hK0
 ·rename_i i;split at hK0
  ·rename_i e ty xs hi;split at hK0
   ·rename_i hel;obtain ⟨hj,hK⟩:=u9 hK0;obtain ⟨g,c,B,vals,h5,h6,_⟩:=jd9 h hi (by omega);rw [VR] at h2;subst h2;rw [h5,h6] at hdi;refine K _ _ hK (QR.indexS hd hdi _ (zz4 hel) j.toNat (by omega) (by omega)) ⟨g,h5,by simp⟩ ?_;refine ⟨(zc5 h hx).1,?_⟩;intro e1 t1 ys hy1;have hi':H[i]?=some (.row e ty xs):=hi;rw [hi'] at hy1;simp only [X0,Ent.row.injEq] at hy1;obtain ⟨rfl,rfl,hh⟩:=hy1;have:=eq_of_heq hh;subst this;exact ⟨by omega,rfl⟩
   ·cases hK0
  ·cases hK0
 ·rename_i i sz o1 m;split at hK0
  ·rename_i e ty xs hi;split at hK0
   ·rename_i hel hsz;have hsz:=X1 hsz;subst hsz;obtain ⟨hj,hK1⟩:=u9 hK0;obtain ⟨hj2,hK⟩:=u9 hK1;obtain ⟨ad,rfl,hcap,hn,_⟩:=h2;rcases hn with hn|⟨g,hg1,hg2⟩
    ·omega
    ·subst hg2;refine K _ _ hK (QR.indexS hd hdi _ (zz4 hel) j.toNat (by omega) (by omega)) ⟨g,hg1,by simp [V5]⟩ ?_;refine ⟨(zc5 h hx).1,?_⟩;intro e1 t1 ys hy1;have hi':H[i]?=some (.row e ty xs):=hi;rw [hi'] at hy1;simp only [X0,Ent.row.injEq] at hy1;obtain ⟨rfl,rfl,hh⟩:=hy1;have:=eq_of_heq hh;subst this;exact ⟨by omega,rfl⟩
   ·cases hK0
  ·rename_i e cs hi;split at hK0
   ·rename_i s hes;split at hK0
    ·rename_i hsz;have hsz:=X1 hsz;subst hsz;obtain ⟨hj,hK⟩:=u9 hK0;obtain ⟨ad,rfl,hcap,hn,_⟩:=h2;rcases hn with hn|⟨g,hg1,hg2⟩
     ·omega
     ·subst hg2;exact K _ _ hK (QR.indexS hd hdi _ hes j.toNat (by omega) (by omega)) ⟨g,hg1,by simp [V5]⟩ ⟨(zc5 h hx).1,trivial⟩
    ·cases hK0
   ·cases hK0
  ·cases hK0
 ·rename_i i o0 sz n0 lo m;split at hK0
  ·rename_i s hes;split at hK0
   ·rename_i hsz;have hsz:=X1 hsz;subst hsz;obtain ⟨hj,hK⟩:=u9 hK0;obtain ⟨g,ad,hg,rfl,hle,had⟩:=h2;rcases had with had|rfl
    ·omega
    ·split at hK
     ·exact K _ _ hK (QR.indexS hd hdi _ hes j.toNat (by omega) (by omega)) ⟨g,hg,by omega,by simp [V5,U9]⟩ ⟨(zc5 h hx).1,trivial⟩
     ·exact K _ _ hK (QR.indexS hd hdi _ hes j.toNat (by omega) (by omega)) ⟨g,hg,by simp [V5,U9]⟩ ⟨(zc5 h hx).1,trivial⟩
   ·cases hK0
  ·cases hK0
 ·cases hK0
def qh4 {t x b c} (d:dec ops k n F'=some o) (a:o.op=.slice t x b c none):zy8 ops k n F'=some (o.dst,t,evD F' x,b.map (evD F'),c.map (evD F')):=by
 unfold zy8;rw [d];cases o;simp only at a;subst a;rfl
def jk3 {t e} (h:eIs T P t e=true): ∃b a c,zp5 P t=some (b,szT T e,a,c):=by
 unfold eIs at h;split at h
 ·rename_i b sz a c d;exact ⟨b,a,c,by rw [d,X1 h]⟩
 ·cases h
def zl3 (ad:Option Addr) (cap i sz:Nat):Option Addr:=if cap=i then ad else ad.map (·.add (i*sz))
def vb1 (ad cap sz):zl3 ad cap 0 sz=ad:=by
 unfold zl3;split
 ·rfl
 ·cases ad<;>simp [Addr.add]
def zz8 {Z:Prop} {t:TypeId} {x:Operand} {i j:Option Operand} (c:dec ops k n F'=some o) (d:o.op=.slice t x i j none) {ad:Option Addr} {m cap sz p e:Nat} {q:Array Value} (r:ev F' x=some (.slice ad m cap)) (s:m<=cap) {l h:Option Int} {kl kh:IntKind}
  (u:i.map (evD F')=l.map (Value.int kl)) (v:j.map (evD F')=h.map (Value.int kh)) (f:zp5 P t=some (p,sz,e,q)) (b:0<=l.getD 0/\l.getD 0<=h.getD m/\h.getD m<=cap) (g:l≠none\/h≠none)
  (K:QR P F' o S φ rd w (.slice (if l=none then ad else zl3 ad cap (l.getD 0).toNat sz) ((h.getD m).toNat-(l.getD 0).toNat) (if l=none then cap else cap-(l.getD 0).toNat))->Z):Z:=by
 have a:=qh4 c d;rw [k8 r,u,v] at a;cases l with
 |none=>
  cases h with
  |none=>simp at g
  |some h=>
   have:=QR.sliceH (S:=S) (φ:=φ) (rd:=rd) (w:=w) c a f h.toNat (by simp at b;omega) (by simp at b;omega);exact K (by simpa using this)
 |some l=>
  cases h with
  |none=>
   have:=QR.sliceL (S:=S) (φ:=φ) (rd:=rd) (w:=w) c a f l.toNat (by simp at b;omega) (by simp at b;omega);exact K (by simpa [zl3] using this)
  |some h=>
   have:=QR.sliceLH (S:=S) (φ:=φ) (rd:=rd) (w:=w) c a f l.toNat h.toNat (by simp at b;omega) (by simp at b;omega) (by simp at b;omega) (by simp at b;omega);exact K (by simpa [zl3] using this)
def CR.sub {e} {xs:List (den T.U e)} {ad cap i m} (h:CR T w S (.list e) xs (.slice ad xs.length cap)) (I:i+m<=xs.length):CR T w S (.list e) ((xs.drop i).take m) (.slice (zl3 ad cap i (szT T e)) m (cap-i)):=by
 generalize D:Value.slice ad xs.length cap=v at h;cases h with
 |list _ _ J E u G g r p s=>
  simp only [Value.slice.injEq,true_and] at D;obtain ⟨rfl,rfl⟩:=D;have d:((xs.drop i).take m).length=m:=by rw [Y6,Q7];omega
  have t:(xs.drop i).take m≠ []->xs≠ []:=by intro h e;subst e;simp at h
  have x:(xs.drop i).take m≠ []->0<m:=by
   intro h;cases m with
   |zero=>simp at h
   |succ m=>omega
  have y: ∀j,j<m->((xs.drop i).take m)[j]?=xs[i+j]?:=by intro j K;rw [Z3,if_pos K,Q6]
  have l:(xs.drop i).take m≠ []->zl3 ad cap i (szT T e)=some ⟨bk ad,of ad+i*szT T e,none⟩:=by
   intro h;obtain ⟨A,_,_⟩:=r (t h);have:=x h;unfold zl3;rw [if_neg (by omega)];generalize bk ad=b at A⊢;generalize of ad=o1 at A⊢;subst A;simp only [Z8,Addr.add];split
   ·rename_i L;rw [L];rfl
   ·rfl
  have z:CR T w S (.list e) ((xs.drop i).take m) (.slice (zl3 ad cap i (szT T e)) ((xs.drop i).take m).length (cap-i)):=by
   refine .list e _ _ _ (fun k j=>u (i+k) j) (by rw [d];omega) ?_ ?_ ?_ ?_
   ·intro B;unfold zl3 at B;split at B
    ·have:=g B;rw [d];omega
    ·cases ad with
     |none=>have:=g rfl;rw [d];omega
     |some a=>cases B
   ·intro h;obtain ⟨A,M,N⟩:=r (t h);rw [l h];exact ⟨rfl,M,N⟩
   ·intro k j c f;have q:k<m:=by
     apply Classical.byContradiction;intro C;rw [Y5 (by rw [d];omega)] at f;cases f
    have C:(xs.drop i).take m≠ []:=by intro e;rw [e] at f;simp at f
    rw [y k q] at f;have:=p (i+k) j c f;rw [l C];show w.cell? ⟨bk ad,of ad+i*szT T e+(k*szT T e+j),none⟩=some (u (i+k) j);rw [show of ad+i*szT T e+(k*szT T e+j)=of ad+((i+k)*szT T e+j) by rw [V5];omega];exact this
   ·intro k j c f;have q:k<m:=by
     apply Classical.byContradiction;intro C;rw [Y5 (by rw [d];omega)] at f;cases f
    rw [y k q] at f;exact s (i+k) j c f
  rwa [d] at z
def jy5 (F:AF T):Option Operand->Option (Option Int)
 |none=>some none
 |some x=>match aev T F x with|some a=>(match intOf T a with|some i=>some (some i)|none=>none)|none=>none
def yu6 (hF:FR T w S φ F F') {x l} (h:jy5 F x=some l): ∃kl,x.map (evD F')=l.map (Value.int kl):=by
 cases x with
 |none=>simp only [jy5,X0] at h;subst h;exact ⟨.i64,rfl⟩
 |some y=>
  simp only [jy5] at h;split at h
  ·rename_i a c;split at h
   ·rename_i i b;simp only [X0] at h;subst h;obtain ⟨v,d,f⟩:=v8 hF c;unfold intOf at b;split at b
    ·rename_i k x;have e:=za3 f;subst e;refine ⟨k,?_⟩;have b:x=i:=X5 b;subst b;show some (evD F' y)=some (Value.int k x);rw [k8 d]
    ·cases b
   ·cases h
  ·cases h
def gk2 {Z:Prop} {R:Type} {r:R} {t:TypeId} {x:Operand} {lo E:Option Operand} (hd:dec ops k n F'=some o) (G:o.op=.slice t x lo E none) {s:AV T.U} {l m:Option Int} (hx:aev T F x=some s) (A:jy5 F lo=some l) (hhi:jy5 F E=some m) (I:l≠none\/m≠none)
  {K0:AV T.U->Option R} (b:ye7 T P t H s l m K0=some r) (h:Sim T w0 S0 ⟨F,H⟩ F' w S φ) (K: ∀a v,K0 a=some r->QR P F' o S φ rd w v->VR T w S φ a v->okA H a->Z):Z:=by
 obtain ⟨X,h1,J⟩:=v8 h.fr hx;obtain ⟨kl,e1⟩:=yu6 h.fr A;obtain ⟨kh,e2⟩:=yu6 h.fr hhi;unfold ye7 at b;split at b
 ·rename_i e xs;simp only at b;split at b
  ·rename_i he;obtain ⟨f,O⟩:=u9 b;obtain ⟨et,V,zc,q⟩:=jk3 he;have J:CR T w S (.list e) xs X:=J;have h2':=J;cases h2' with
   |list _ _ ad cap u j z d hcell hrel=>
    refine zz8 hd G h1 j e1 e2 q ⟨f.1,f.2.1,Int.le_trans f.2.2 (by have:=j;omega)⟩ I fun W=>K (.cell ⟨.list e,_⟩) _ O W ?_ ⟨fun i E=>(by cases E),trivial⟩;show CR T w S (.list e) (List.take ((m.getD (xs.length:Int)).toNat-(l.getD 0).toNat) (List.drop (l.getD 0).toNat xs)) _;have hle:(l.getD 0).toNat+((m.getD (xs.length:Int)).toNat-(l.getD 0).toNat)<=xs.length:=by omega
    have:=CR.sub J hle;cases l with
    |none=>
     have e0:zl3 ad cap 0 (szT T e)=ad:=by
      unfold zl3;split
      ·rfl
      ·cases ad with
       |none=>rfl
       |some a=>simp [Addr.add]
     simpa [e0] using this
    |some l=>simpa using this
  ·cases b
 ·rename_i i;split at b
  ·rename_i e ty xs E;simp only at b;split at b
   ·rename_i he;obtain ⟨f,O⟩:=u9 b;obtain ⟨et,V,zc,q⟩:=jk3 he;rw [VR] at J;subst J;obtain ⟨B,L,Y,g2,_,_,_⟩:=h.ents i _ E;have j:(φ i).n<=(φ i).cap:=Y.le.1;rw [<-g2] at f;refine zz8 hd G h1 j e1 e2 q ⟨f.1,f.2.1,by have:=f.2.2;omega⟩ I fun W=>K (.sl i (szT T ty) (l.getD 0).toNat ((m.getD (xs.length:Int)).toNat-(l.getD 0).toNat)) _ O W ?_ ⟨(zc5 h hx).1,trivial⟩;have A:(if l=none then (φ i).cap else (φ i).cap-(l.getD 0).toNat)=(φ i).cap-(l.getD 0).toNat:=by cases l<;>simp
    have C:(l.getD 0).toNat=0->(if l=none then (φ i).ad else zl3 (φ i).ad (φ i).cap (l.getD 0).toNat (szT T ty))=(φ i).ad:=by
     intro M;cases l with
     |none=>rfl
     |some l=>simp only [reduceCtorEq,if_false];rw [M,vb1]
    rw [VR,<-g2,A];refine ⟨_,rfl,?_,?_,?_,C⟩
    ·cases l<;>simp at f⊢ <;>omega
    ·rcases Y.cases with ⟨_,N,_⟩|⟨c,d,_,_,_⟩
     ·left;omega
     ·by_cases M:(m.getD ((φ i).n:Int)).toNat-(l.getD 0).toNat=0
      ·exact .inl M
      ·obtain ⟨g,hg⟩: ∃g,(φ i).ad=some ⟨g,0,none⟩:=⟨_,d⟩;refine .inr ⟨g,hg,?_⟩;cases l with
       |none=>simpa using hg
       |some l=>
        simp only [reduceCtorEq,if_false,V3] at f M⊢;unfold zl3;rw [if_neg (by omega),hg];simp only [Z8,Addr.add];split
        ·rename_i hz;simp [hz]
        ·simp
    ·intro p;rcases Y.cases with ⟨hn0,N,hc0,_⟩|⟨c,d,_,_,_⟩
     ·cases l<;>simp at f⊢ <;>omega
     ·cases l with
      |none=>simp at p;rw [p] at d;cases d
      |some l=>
       simp only [reduceCtorEq,if_false,V3] at p f⊢;unfold zl3 at p;split at p
       ·rw [p] at d;cases d
       ·rw [d] at p;cases p
   ·cases b
  ·cases b
 ·rename_i i sz D m1;split at b
  ·rename_i e ty xs E;simp only at b;split at b
   ·rename_i he y;have y:=X1 y;subst y;obtain ⟨f,O⟩:=u9 b;obtain ⟨et,V,zc,q⟩:=jk3 he;obtain ⟨ad,rfl,j,N,z,hz1⟩:=J;have hrow:xs.length<=(φ i).cap:=by
     obtain ⟨B,L,Y,g2,_,_,_⟩:=h.ents i _ E;have:=Y.le.1;omega
    have hjc:m.getD (m1:Int)<=(((φ i).cap-D:Nat):Int):=by
     have:=f.2.1;rcases f.2.2 with h3|⟨h3,_⟩<;>omega
    refine zz8 hd G h1 (by omega) e1 e2 q ⟨f.1,f.2.1,hjc⟩ I fun W=>K (.sl i (szT T ty) (D+(l.getD 0).toNat) ((m.getD (m1:Int)).toNat-(l.getD 0).toNat)) _ O W ?_ ⟨(zc5 h hx).1,trivial⟩;have A:(if l=none then (φ i).cap-D else (φ i).cap-D-(l.getD 0).toNat)=(φ i).cap-(D+(l.getD 0).toNat):=by cases l<;>simp<;>omega
    have C:D+(l.getD 0).toNat=0->(if l=none then ad else zl3 ad ((φ i).cap-D) (l.getD 0).toNat (szT T ty))=(φ i).ad:=by
     intro M;rw [<-hz1 (by omega)];cases l with
     |none=>rfl
     |some l=>simp only [reduceCtorEq,if_false];rw [show (Option.getD (some l) (0:Int)).toNat=0 by omega,vb1]
    rw [VR,A];refine ⟨_,rfl,?_,?_,?_,C⟩
    ·have:=f.1;have:=f.2.1;omega
    ·by_cases M:(m.getD (m1:Int)).toNat-(l.getD 0).toNat=0
     ·exact .inl M
     ·have N: ∃g,(φ i).ad=some ⟨g,0,none⟩/\ad=some ⟨g,0+D*szT T ty,none⟩:=by
       rcases N with N|N
       ·rcases f.2.2 with h3|⟨h3,h4⟩
        ·omega
        ·have ho:D=0:=by omega
         subst ho;obtain ⟨B,L,Y,g2,_,_,_⟩:=h.ents i _ E;rcases Y.cases with ⟨_,hn0,_⟩|⟨c,d,_,_,_⟩
         ·omega
         ·exact ⟨_,d,(hz1 rfl).trans (d.trans (by rw [M0]))⟩
       ·exact N
      rcases N with ⟨g,hg1,hg2⟩
      ·refine .inr ⟨g,hg1,?_⟩;subst hg2;cases l with
       |none=>simp
       |some l=>
        simp only [reduceCtorEq,if_false,V3] at f M⊢;unfold zl3;rw [if_neg (by omega)];simp only [Z8,Addr.add];split
        ·rename_i hz;simp [V5,hz]
        ·simp [V5]
    ·intro p;cases l with
     |none=>simp at p;have:=z p;simp at f⊢;omega
     |some l=>
      simp only [reduceCtorEq,if_false,V3] at p f⊢;unfold zl3 at p;split at p
      ·have:=z p;omega
      ·cases ad with
       |none=>have:=z rfl;omega
       |some a=>cases p
   ·cases b
  ·cases b
 ·rename_i i o0 sz n0 D m1;simp only at b;split at b
  ·rename_i et s V zc q;split at b
   ·rename_i y;have y:=X1 y;subst y;obtain ⟨f,O⟩:=u9 b;obtain ⟨g,ad,hg,rfl,hle,d⟩:=J;refine zz8 hd G h1 (by omega) e1 e2 q ⟨f.1,f.2.1,by have:=f.2.2;omega⟩ I fun W=>K (.asl i o0 s n0 (D+(l.getD 0).toNat) ((m.getD (m1:Int)).toNat-(l.getD 0).toNat)) _ O W ?_ ⟨(zc5 h hx).1,trivial⟩;rw [VR];cases l with
    |none=>exact ⟨g,ad,hg,by simp,by simp at f⊢;omega,by simpa using d⟩
    |some l=>
     simp only [reduceCtorEq,if_false,V3] at f⊢;unfold zl3;split
     ·rename_i hc0;exact ⟨g,ad,hg,by rw [Nat.sub_sub],by omega,.inl (by omega)⟩
     ·rename_i hc0;refine ⟨g,ad.add (l.toNat*s),hg,by rw [Nat.sub_sub];rfl,by omega,?_⟩;rcases d with d|d
      ·left;omega
      ·right;subst d;simp only [Addr.add];split
       ·rename_i hz;simp [V5,hz]
       ·simp [V5,U9]
   ·cases b
  ·cases b
 ·cases b
end
end Go.X
namespace Go.X
open Go.RowKit Go.V
section
variable {T:Tab} {P:Program} {w w':World} {S S':List Nat} {φ φ':Nat->RA} {w0:World} {S0:Ow} {F:AF T} {H:List (Ent T.U)} {F':PF}
variable {ops:Array Oper} {Q:Exit->Act->World->Prop} {k n:Nat} {ds:List Deferred} {o:Oper}
def yj1 {t x y} (c:dec ops k n F'=some o) (b:o.op=.store t x y) (a:o.dst=none):zn1 ops k n F'=some (t,evD F' x,evD F' y):=by
 unfold zn1;rw [c];cases o;simp only at b a;subst b;subst a;rfl
def ya3: ∀ {aS:List (AV T.U)} {vs:List Value},aS.all (zu7 T)=true->VRL T w S φ aS vs->vs.all Value.oneCell'=true
 | [],[],_,_=>rfl
 | [],_::_,_,h=>h.elim
 |_::_,[],_,h=>h.elim
 |a::r,v::s,h,hv=>by
  simp only [J6,X3] at h⊢;exact ⟨(ys3 h.1 hv.1).2,ya3 h.2 hv.2⟩
def yb9 {t o0 m a} (h:jn8 T P t o0 m a=true): ∃i,P.info? t=some i/\ya9 T a=true/\(ze9 T a).length=i.size/\o0+i.size<=m/\(ze9 T a).all (zu7 T)=true:=by
 unfold jn8 at h;split at h
 ·rename_i i b;simp only [X3] at h;exact ⟨i,b,h.1,X1 h.2.1,Y1 h.2.2.1,h.2.2.2⟩
 ·cases h
def qg2 {t o0 m a} (h:jn8 T P t o0 m a=true) {v} (d:VR T w S φ a v) {c p} (r:p+m<=c.size):stv P t c (p+o0) v=some (yg2 c (p+o0) v.cells.toList):=by
 obtain ⟨i,e,f,g,s,j⟩:=yb9 h;have b:=zj5 f d;have l:=b.len T;have q:=ya3 j b;unfold stv;rw [e];simp only;rw [show (Nat.beq v.cells.size i.size&&(Nat.ble (p+o0+i.size) c.size&&v.cells.toList.all Value.oneCell'))=true from ?_];simp only [X3];refine ⟨?_,W3 (by omega),q⟩;have:v.cells.size=i.size:=by rw [<-g,l];simp
 rw [this];exact V7 _
def yz8: ∀ {aS cs:List (AV T.U)} {o0:Nat},∀i∈u0 (yi7 T cs o0 aS),i∈u0 cs\/i∈u0 aS
 | [],cs,o0,i,h=>.inl h
 |a::r,cs,o0,i,h=>by
  rw [yi7] at h;rcases yz8 i h with h|h
  ·obtain ⟨b,hb,hi⟩:=zm0 h;rcases N2 hb with hb|hb
   ·exact .inl (zd7 hb i hi)
   ·subst hb;exact .inr (by rw [u0];exact X4.2 (.inl hi))
  ·exact .inr (by rw [u0];exact X4.2 (.inr h))
def zj2 {α:Type} (cs:List α) (o:Nat):List α->List α
 | []=>cs
 |a::r=>zj2 (cs.set o a) (o+1) r
def qa1: ∀(l cs o0),ks2 T cs o0 l=zj2 cs o0 l
 | [],_,_=>rfl
 |a::r,cs,o0=>by rw [ks2,zj2,qa1 r]
def yc4: ∀(l c o0),(yg2 c o0 l).toList=zj2 c.toList o0 l
 | [],_,_=>rfl
 |v::r,c,o0=>by rw [yg2,zj2,yc4 r,A1]
def qm8 {α}: ∀(l cs:List α) (o0:Nat),(zj2 cs o0 l).length=cs.length
 | [],_,_=>rfl
 |a::r,cs,o0=>by rw [zj2,qm8 r,Q1]
def ym9 {α}: ∀(l cs:List α) (o0 m:Nat),(zj2 cs o0 l).take m=zj2 (cs.take m) o0 l
 | [],_,_,_=>rfl
 |a::r,cs,o0,m=>by rw [zj2,zj2,ym9 r,List.take_set]
def yk4 {α}: ∀(l pre c b:List α) (o0:Nat),o0+l.length<=c.length->zj2 (pre++c++b) (pre.length+o0) l=pre++zj2 c o0 l++b
 | [],_,_,_,_,_=>rfl
 |a::r,pre,c,b,o0,h=>by
  simp only [U5] at h;rw [zj2,zj2,Q2,List.set_append_right _ _ (by omega),N7,List.set_append_left _ _ (by omega),<-List.append_assoc,U9];exact yk4 r pre _ b (o0+1) (by rw [Q1];omega)
def flatMap_split {α c:Type} {f:α->List c} {sz:Nat} (d: ∀y,(f y).length=sz) {l:List α} {j:Nat} {x:α} (b:l[j]?=some x):
  l.flatMap f=(l.take j).flatMap f++f x++(l.drop (j+1)).flatMap f/\((l.take j).flatMap f).length=j*sz:=by
 have a:=(X2.1 b).1;have e:=(X2.1 b).2;constructor
 ·conv=>lhs;rw [<-List.take_append_drop j l,V8 a,e]
  rw [J0,V2,Q2]
 ·rw [flatMap_lenT d,Y6,V9 (by omega)]
where
 flatMap_lenT {α β:Type} {f:α->List β} {sz:Nat} (hf: ∀y,(f y).length=sz): ∀ {l:List α},(l.flatMap f).length=l.length*sz:=by
  intro l;induction l with
  |nil=>simp
  |cons a r ih=>rw [V2,X9,hf,ih,U5,U8,J4]
def yj2 {α e:Type} {f:α->List e} {sz:Nat} (a: ∀y,(f y).length=sz) {xs:List α} {j c:Nat} {x y:α} {l:List e} (g:xs[j]?=some x) (h:f y=zj2 (f x) c l) (i:c+l.length<=sz):(xs.set j y).flatMap f=zj2 (xs.flatMap f) (j*sz+c) l:=by
 have b:=(X2.1 g).1;obtain ⟨m,p⟩:=flatMap_split a g;have d:(xs.set j y)[j]?=some y:=Q0 b;obtain ⟨q,r⟩:=flatMap_split a d;rw [m,q,<-p,yk4 _ _ _ _ _ (by rw [a];exact i),h];rw [List.take_set_of_le (W6 _),List.drop_set_of_lt (by omega)]
def CellsR.set {cs vs} (h:CellsR T w S cs vs) (j) {c v} (f:yl2 T w S c v):CellsR T w S (cs.set j c) (vs.set j v):=by
 refine ⟨by rw [Q1,Q1,h.1],fun i c' g a b=>?_⟩;by_cases d:j=i
 ·subst d;have e:=(X2.1 a).1;have l2:=(X2.1 b).1;rw [Q1] at e l2;rw [Q0 e] at a;rw [Q0 l2] at b;simp only [X0] at a b;subst a;subst b;exact f
 ·rw [Z5 d] at a b;exact h.2 i c' g a b
def CellsR.put: ∀ {l vl cs vs p},CellsR T w S l vl->CellsR T w S cs vs->CellsR T w S (zj2 cs p l) (zj2 vs p vl)
 | [],[],_,_,_,_,h=>h
 | [],_::_,_,_,_,h,_=>by have:=h.1;simp at this
 |_::_,[],_,_,_,h,_=>by have:=h.1;simp at this
 |c::r,v::s,cs,vs,p,h,a=>by
  rw [zj2,zj2];exact CellsR.put (l:=r) (vl:=s) ⟨by have:=h.1;simpa using this,fun j c' b d e=>h.2 (j+1) c' b (by simpa using d) (by simpa using e)⟩ (a.set p (h.2 0 c v rfl rfl))
def zt0: ∀ {aS:List (AV T.U)} {l:List (Cell T.U)} {vs:List Value},cellsOf T aS=some l->VRL T w S φ aS vs->CellsR T w S l vs
 | [],l,vs,h,hv=>by
  simp only [cellsOf,X0] at h;subst h;cases vs with
  |nil=>exact ⟨rfl,fun j c v h=>by simp at h⟩
  |cons _ _=>exact hv.elim
 |a::r,l,vs,h,hv=>by
  unfold cellsOf at h;split at h
  ·rename_i c l' hc hl;simp only [X0] at h;subst h;cases vs with
   |nil=>exact hv.elim
   |cons v s=>
    have ih:=zt0 hl hv.2;have hcv:yl2 T w S c v:=by
     cases a with
     |cell c'=>simp only [qb5,X0] at hc;subst hc;exact hv.1
     |_=>cases hc
    refine ⟨by simp [ih.1],fun j c' v' h1 h2=>?_⟩;cases j with
    |zero=>simp at h1 h2;subst h1;subst h2;exact hcv
    |succ j=>exact ih.2 j c' v' (by simpa using h1) (by simpa using h2)
  ·cases h
def jp9 {t:TypeId} {x y:Operand} (hd:dec ops k n F'=some o) (hop:o.op=.store t x y) (hdst:o.dst=none) {i sz j c:Nat} {e:TypeId} {ty:Ty} {xs:List (den T.U ty)} {a:AV T.U} (hx:aev T F x=some (.eptr i sz j c)) (hy:aev T F y=some a) (hi:H[i]?=some (.row e ty xs))
  (hf:jn8 T P t c (szT T ty) a=true) {l:List (Cell T.U)} (hl:cellsOf T (ze9 T a)=some l) {y':den T.U ty} (hy':yp4 T ty (ks2 T (zb5 T ty (xs.getD j (zz2 T ty))) c l)=some y')
  (h:Sim T w0 S0 ⟨F,H⟩ F' w S φ) (K:zp6 P ops Q (k+1) n ds w0 S0 (⟨F,H.set i (.row e ty (xs.set j y'))⟩:St T)):WR P ops Q k n ds F' w:=by
 obtain ⟨X,h1,g,h2,rfl⟩:=v8 h.fr hx;obtain ⟨v,h3,h4⟩:=v8 h.fr hy;obtain ⟨hj,hsz⟩:=(zc5 h hx).2 e ty xs hi;subst hsz;obtain ⟨g',carr,B,vals,a1,a2,a3,a4,a5,a6,a7,a8,a9,a10,a11,a12⟩:=jd9 h hi (by omega);rw [h2] at a1;simp only [X0,Addr.mk.injEq,and_true] at a1;subst a1;obtain ⟨ii,hii,f1,f2,f3,f4⟩:=yb9 hf;have hds:=yj1 hd hop hdst;rw [k8 h1,k8 h3] at hds;have hle:j*szT T ty+szT T ty<=xs.length*szT T ty:=by rw [<-Nat.succ_mul];exact Q9 _ hj
 have hle2:xs.length*szT T ty<=carr.size:=W7 (Q9 _ a11) a5;have hst:=qg2 hf h4 (c:=carr) (p:=0+j*szT T ty) (by omega);rw [U9] at hst;have hcr:=zt0 hl (zj5 f1 h4);refine WR.store a4 hds _ hst fun w' hb' hc=>K _ _ ⟨S,φ,h.upd hi rfl hc ?_ ⟨B,(yg2 carr (0+(j*szT T ty+c)) v.cells.toList).toList.take (xs.length*szT T ty),?_,by rw [Q1];exact a2,W7 a10 hc.size,?_,?_⟩ ?_ ?_⟩
 ·intro b hb;simp at hb;subst hb;exact ⟨_,.inl h2,rfl⟩
 ·rw [h2,a2];exact Own.ofBlk hb' a9 a11 (by have:=a12;unfold maxLen at this;omega) (by rw [yn0];exact a5) _ rfl
 ·have hlen:c+l.length<=szT T ty:=by
   have:=hcr.1;have hv:=(zj5 f1 h4).len T;rw [this,<-hv,f2];exact f3
  have hfm:=yj2 (za2 T ty) (zn5 (zz2 T ty) hj) (l:=l) (y:=y') (c:=c) (by rw [zo8 T hy',qa1]) hlen;rw [hfm,yc4,ym9,W8,a6];exact (CellsR.put hcr a7).chg T hc (by intro b hb;simp at hb;subst hb;exact a8) (fun b hb=>.inl hb)
 ·intro a ha;rw [h2] at ha;simp only [X0] at ha;subst ha;exact a8
 ·intro q hq;cases hq
 ·intro e1 t1 zs he;simp only [Ent.row.injEq] at he;obtain ⟨rfl,rfl,hh⟩:=he;have:=eq_of_heq hh;subst this;exact ⟨e,xs,rfl,by rw [Q1];exact W6 _⟩
def jv0 {α}: ∀(us l:List α) (x:α) (o:Nat),zj2 (x::l) (o+1) us=x::zj2 l o us
 | [],_,_,_=>rfl
 |u::r,l,x,o=>by rw [zj2,zj2,List.set_cons_succ,jv0 r (l.set o u) x (o+1)]
def yw6 {α}: ∀(us l:List α),us.length<=l.length->zj2 l 0 us=us++l.drop us.length
 | [],l,_=>rfl
 |u::r,[],h=>by simp at h
 |u::r,x::l,h=>by
  rw [zj2,List.set_cons_zero,jv0,yw6 r l (by simpa using h)];rfl
def kh9 {α} (us pre l:List α) (o:Nat) (h:o+us.length<=l.length):zj2 (pre++l) (pre.length+o) us=pre++zj2 l o us:=by
 have:=yk4 us pre l [] o h;simpa using this
def VRL.putOnes: ∀ {aS l l':List (AV T.U)} {B us:List Value},Go.X.putOnes T l aS=some l'->BR T w S φ l B->VRL T w S φ aS us->BR T w S φ l' (us++B.drop us.length)/\us.length<=B.length/\ ∀i∈u0 l',i∈u0 l\/i∈u0 aS
 | [],l,l',B,us,h,h1,h2=>by
  simp only [Go.X.putOnes,X0] at h;subst h;cases us with
  |nil=>exact ⟨h1,U3 _,fun i hi=>.inl hi⟩
  |cons _ _=>exact h2.elim
 |b::aS,[],l',B,us,h,h1,h2=>by cases h
 |b::aS,a::l,l',B,us,h,h1,h2=>by
  unfold Go.X.putOnes at h;split at h
  ·rename_i hn;rw [X3] at hn;split at h
   ·rename_i s hs;simp only [X0] at h;subst h;obtain ⟨g1,g2⟩:=h1;rw [zh3,zq7 T hn.1] at g1
    match B,us,g1,h2 with
    |v::B,u::us,g1,h2=>
     obtain ⟨q1,q2,q3⟩:=VRL.putOnes hs ⟨g1.2,g2.2⟩ h2.2;refine ⟨⟨?_,yc1 T hn.2,q1.2⟩,by simpa using q2,fun i hi=>?_⟩
     ·rw [zh3,zq7 T hn.2];exact ⟨h2.1,q1.1⟩
     ·rw [u0] at hi;rcases X4.1 hi with hi|hi
      ·exact .inr (by rw [u0];exact X4.2 (.inl hi))
      ·rcases q3 i hi with hi|hi
       ·exact .inl (by rw [u0];exact X4.2 (.inr hi))
       ·exact .inr (by rw [u0];exact X4.2 (.inr hi))
    | [],_,g1,_=>exact g1.elim
    |_::_,[],_,h2=>exact h2.elim
   ·cases h
  ·cases h
def BR.turn {f:List (AV T.U)->Option (List (AV T.U))} {cs a:List (AV T.U)} {o d:Nat} {vs us:List Value} {ex:List Nat} (h:yw9 T f cs o=some a) (c:BR T w S φ cs vs)
  (r: ∀(l l':List (AV T.U)) (B:List Value),f l=some l'->BR T w S φ l B->BR T w S φ l' (zj2 B d us)/\d+us.length<=B.length/\ ∀i∈u0 l',i∈u0 l\/i∈ex):
  BR T w S φ a (zj2 vs (o+d) us)/\o+d+us.length<=vs.length/\ ∀i∈u0 a,i∈u0 cs\/i∈ex:=by
 obtain ⟨pre,l,l',g,j,s,t⟩:=jj2 h c.2;obtain ⟨u,C⟩:=BR.at c g t;obtain ⟨q,v,x⟩:=r l l' _ s u;have y:o<=vs.length:=by omega
 have m:(vs.take o).length=o:=by rw [Y6];omega
 have z:(vs.drop o).length=vs.length-o:=Q7 ..;have e:zj2 vs (o+d) us=vs.take o++zj2 (vs.drop o) d us:=by
  have:=kh9 us (vs.take o) (vs.drop o) d v;rw [Q8,m] at this;exact this
 have A:VRL T w S φ (zh3 T pre) (vs.take o):=by
  have:=c.1.take T o;rwa [g,yd4,Z7 (by omega),Q4 (by omega)] at this
 have p:zz6 T pre:=by have:=c.2;rw [g,yz6] at this;exact this.1
 refine ⟨⟨?_,?_⟩,by omega,fun i b=>?_⟩
 ·rw [j,yd4,e];exact VRL.app T A q.1
 ·rw [j,yz6];exact ⟨p,q.2⟩
 ·rw [j,yk1] at b;rw [g,yk1];rcases X4.1 b with b|b
  ·exact .inl (X4.2 (.inl b))
  ·exact (x i b).imp (fun h=>X4.2 (.inr h)) id
def jh3 {t n xs l l' B us} (h:qe4 T t n xs l=some l') (b:BR T w S φ l B) (g:xs.length=n) (j:CellsR T w S (xs.flatMap (zb5 T t)) us):
  BR T w S φ l' (zj2 B 0 us)/\0+us.length<=B.length/\ ∀i∈u0 l',i∈u0 l\/i∈([]:List Nat):=by
 unfold qe4 at h;split at h
 ·rename_i a r;split at h
  ·rename_i p q ys s;have:=zt8 s;subst this;split at h
   ·rename_i m;rw [X3] at m;obtain ⟨c,d⟩:=m;have c:=X1 c;have d:=X1 d;simp only [X0] at h;subst h;have e:us.length=n*szT T t:=by rw [<-j.1,flatMap_lenT (za2 T t),g]
    have u:(jf3 T (.arr p q ys)).length=us.length:=by rw [yd3 T b.2.1,e,wd,c,d]
    have f:=b.1.len T;rw [zh3,X9,u] at f;rw [yw6 us B (by omega)];refine ⟨⟨?_,g,b.2.2⟩,by omega,fun i v=>.inl v⟩;rw [zh3];refine VRL.app T (VRL.cells.2 j) ?_;have:=b.1.drop T us.length;rwa [zh3,List.drop_append_of_le_length (by omega),M4 (by omega)] at this
   ·cases h
  ·cases h
 ·cases h
def qi6 {n sz k c l f l2 B us} (h:qa2 T n sz k c l f=some l2) (d:BR T w S φ f B) (z:k<n) (u:CellsR T w S l us):
  BR T w S φ l2 (zj2 B (k*sz+c) us)/\k*sz+c+us.length<=B.length/\ ∀i∈u0 l2,i∈u0 f\/i∈([]:List Nat):=by
 unfold qa2 at h;split at h
 ·rename_i a r;split at h
  ·rename_i ty b xs A;have:=zt8 A;subst this;split at h
   ·rename_i v;rw [X3,X3] at v;obtain ⟨g,j,m⟩:=v;have g:=X1 g;have j:=X1 j;have m:=Y1 m;subst g;subst j;split at h
    ·rename_i y C;simp only [X0] at h;subst h;have q:xs.length=b:=d.2.1;have D:(jf3 T (.arr ty b xs)).length=b*szT T ty:=by rw [yd3 T d.2.1];rfl
     have s:=d.1.len T;rw [zh3,X9,D] at s;have E:k*szT T ty+szT T ty<=b*szT T ty:=by rw [<-Nat.succ_mul];exact Q9 _ z
     have G:=u.1;have I:CellsR T w S (xs.flatMap (zb5 T ty)) (B.take (b*szT T ty)):=by
      have:=d.1.take T (b*szT T ty);rw [zh3,Z7 (by omega),Q4 (by omega)] at this;exact VRL.cells.1 this
     have x:=CellsR.put (p:=k*szT T ty+c) u I;have t:=yj2 (za2 T ty) (zn5 (zz2 T ty) (show k<xs.length by omega)) (l:=l) (y:=y) (c:=c) (by rw [zo8 T C,qa1]) m;rw [<-t] at x;have J:(B.take (b*szT T ty)).length=b*szT T ty:=by rw [Y6];omega
     have e:zj2 B (k*szT T ty+c) us=zj2 (B.take (b*szT T ty)) (k*szT T ty+c) us++B.drop (b*szT T ty):=by
      have:=yk4 us [] (B.take (b*szT T ty)) (B.drop (b*szT T ty)) (k*szT T ty+c) (by omega);simpa using this
     refine ⟨⟨?_,by show (xs.set k y).length=b;rw [Q1];exact q,d.2.2⟩,by omega,fun i K=>.inl K⟩;rw [zh3,e];refine VRL.app T (VRL.cells.2 x) ?_;have:=d.1.drop T (b*szT T ty);rwa [zh3,List.drop_append_of_le_length (by omega),M4 (by omega)] at this
    ·cases h
   ·cases h
  ·cases h
 ·cases h
def CellsR.app {cs ds vs us} (h:CellsR T w S cs vs) (e:CellsR T w S ds us):CellsR T w S (cs++ds) (vs++us):=by
 refine ⟨by simp [h.1,e.1],fun j c v b d=>?_⟩;rcases U7 j cs.length with a|a
 ·rw [X8 a] at b;rw [X8 (by rw [<-h.1];exact a)] at d;exact h.2 j c v b d
 ·rw [Z2 a] at b;rw [Z2 (by rw [<-h.1];exact a),<-h.1] at d;exact e.2 _ c v b d
def yc6 {ty}: ∀ {m cs xs vs},ji4 T ty m cs=some xs->VRL T w S φ cs vs->xs.length=m/\CellsR T w S (xs.flatMap (zb5 T ty)) vs
 |0,[],xs,vs,h,a=>by
  simp only [ji4,X0] at h;subst h;cases vs with
  |nil=>exact ⟨rfl,rfl,fun j c v h=>by simp at h⟩
  |cons _ _=>exact a.elim
 |0,_::_,_,_,h,_=>by cases h
 |m+1,cs,xs,vs,h,a=>by
  unfold ji4 at h;split at h
  ·rename_i l b;split at h
   ·rename_i x p d e;simp only [X0] at h;subst h;have f:=zt0 b (a.take T (szT T ty));obtain ⟨g,i⟩:=yc6 e (a.drop T (szT T ty));refine ⟨by rw [U5,g],?_⟩;rw [V2,zo8 T d,<-List.take_append_drop (szT T ty) vs];exact f.app i
   ·cases h
  ·cases h
def qx5 {b l l' B us} (h:vc2 T b l=some l') (c:BR T w S φ l B) (d:VRL T w S φ b us):
  BR T w S φ l' (zj2 B 0 us)/\0+us.length<=B.length/\ ∀i∈u0 l',i∈u0 l\/i∈([]:List Nat):=by
 unfold vc2 at h;split at h
 ·split at h
  ·split at h
   ·rename_i xs a;obtain ⟨e,f⟩:=yc6 a d;exact jh3 h c e f
   ·cases h
  ·cases h
 ·cases h
def qz8 {t cs f o a} (h:storeB T P t cs o a=some f) {vs} (x:BR T w S φ cs vs) {v} (y:VR T w S φ a v):
  BR T w S φ f (zj2 vs o v.cells.toList)/\(∀i∈u0 f,i∈u0 cs\/i∈a.ids)/\ ∀c:Array Value,c.size=vs.length->stv P t c o v=some (yg2 c o v.cells.toList):=by
 unfold storeB at h;split at h
 ·rename_i ty n xs L;have:=zt8 L;subst this;obtain ⟨us,rfl,M,m⟩:=y;split at h
  ·rename_i i g;split at h
   ·rename_i N;have N:=X1 N;obtain ⟨z,O,A⟩:=BR.turn (d:=0) (us:=us.toList) (ex:= []) h x fun l l' B e q=>jh3 e q M m;have C:us.size=i.size:=by have:=m.1;rw [flatMap_lenT (za2 T ty),M] at this;simp at this;omega
    refine ⟨z,fun i g=>(A i g).imp id (fun h=>absurd h (by simp)),fun c D=>?_⟩;unfold stv;rw [g];simp only;rw [show (Nat.beq (Value.agg us).cells.size i.size&&(Nat.ble (o+i.size) c.size&&(Value.agg us).cells.toList.all Value.oneCell'))=true from ?_];simp only [X3];refine ⟨?_,W3 (by simp at O;omega),?_⟩
    ·show Nat.beq us.size i.size=true;rw [C];exact V7 _
    ·show us.toList.all Value.oneCell'=true;rw [Y8];intro u W;obtain ⟨j,R⟩:=Y9.1 W;have E:=(X2.1 R).1;obtain ⟨s,X⟩: ∃s,(xs.flatMap (zb5 T ty))[j]?=some s:=⟨_,Y0 (by rw [m.1];exact E)⟩;have b:=m.2 j s u X R;obtain ⟨Y,Z⟩:=s;have b:CR T w S Y Z u:=b;cases b<;>rfl
   ·cases h
  ·cases h
 ·split at h
  ·rename_i L e;obtain ⟨ii,hii,V,f2,f3,f4⟩:=yb9 e;have b:=zj5 V y;have hbl:=x.1.len T;obtain ⟨z,O,A⟩:=BR.turn (d:=0) (us:=v.cells.toList) (ex:=u0 (ze9 T a)) h x fun l l' B e q=>by
    unfold gg1 at e;split at e
    ·rename_i r hr;simp only [X0] at e;subst e;obtain ⟨G,I,J⟩:=VRL.putOnes hr q b;exact ⟨by rw [yw6 _ _ I];exact G,by omega,J⟩
    ·obtain ⟨G,I,J⟩:=qx5 e q b;exact ⟨G,I,fun i g=>(J i g).imp id fun h=>by cases h⟩
   refine ⟨z,fun i g=>(A i g).imp id fun h=>by rw [yf1 V] at h;exact h,fun c D=>?_⟩;have K:=b.len T;have:=qg2 e y (c:=c) (p:=o) (by rw [K];omega);exact this
  ·cases h
def ys9 {t x y} (J:dec ops k n F'=some o) (s:o.op=.store t x y) (m:o.dst=none) {i g p e cs f a} (L:ev F' x=some (.pointer (some ⟨g,p,none⟩))) (u:(φ i).ad=some ⟨g,0,none⟩) (E:aev T F y=some a) (z:H[i]?=some (.blk e cs))
  (A: ∀(vs:List Value) (v:Value),BR T w S φ cs vs->VR T w S φ a v->BR T w S φ f (zj2 vs p v.cells.toList)/\(∀j∈u0 f,j∈u0 cs\/j∈a.ids)/\ ∀c:Array Value,c.size=vs.length->stv P t c p v=some (yg2 c p v.cells.toList))
  (h:Sim T w0 S0 ⟨F,H⟩ F' w S φ) (K:zp6 P ops Q (k+1) n ds w0 S0 (⟨F,H.set i (.blk e f)⟩:St T)):WR P ops Q k n ds F' w:=by
 obtain ⟨v,M,N⟩:=v8 h.fr E;obtain ⟨Y,c,B,d,G,O⟩:=h.ents i _ z;rw [u] at B;simp only [X0,Addr.mk.injEq,and_true] at B;subst B;have C:=zc5 h E;have r:=yj1 J s m;rw [k8 L,k8 M] at r;obtain ⟨R,V,W⟩:=A _ v O N;refine WR.store d r _ (W c (by simp)) fun w' D I=>K _ _ ⟨S,φ,h.upd z rfl I ?_ ⟨g,_,u,D,G,?_⟩ ?_ ?_⟩
 ·intro b d;simp at d;subst d;exact ⟨_,.inl u,rfl⟩
 ·rw [yc4];exact R.chg T I (by intro b d;simp at d;subst d;exact G) (fun b d=>.inl d)
 ·intro q l;rw [Ent.cellIds] at l;rcases V q l with l|l
  ·exact h.eids _ _ z q l
  ·exact C.1 q l
 ·intro Z t1 xs X;cases X
def CR.oneCell {t x v} (h:CR T w S t x v):v.oneCell'=true:=by cases h<;>rfl
def CellsR.one {cs vs} (h:CellsR T w S cs vs): ∀u∈vs,u.oneCell'=true:=by
 intro u b;obtain ⟨j,a⟩:=Y9.1 b;have c:=(X2.1 a).1;have:=h.2 j (cs[j]'(by rw [h.1];exact c)) u (Y0 _) a;exact CR.oneCell this
def za7 {α a:Type} {f:α->List a} {sz:Nat} (b: ∀y,(f y).length=sz) (l:List α):(l.flatMap f).length=l.length*sz:=flatMap_split.flatMap_lenT b
def jl1 {e} {xs:List (den T.U e)} {ad n cap} (h:CR T w S (.list e) xs (.slice ad n cap)):n=xs.length/\(ad=none->n=0/\cap=0)/\ ∃a,Rg w ad a/\CellsR T w S (xs.flatMap (zb5 T e)) a:=by
 generalize d:Value.slice ad n cap=v at h;cases h with
 |list _ _ J C u D i p f m=>
  simp only [Value.slice.injEq] at d;obtain ⟨rfl,rfl,rfl⟩:=d;refine ⟨rfl,i,?_⟩;by_cases E:xs= []
  ·subst E;exact ⟨[],Rg.nil _ _,rfl,fun j c v h=>by simp at h⟩
  obtain ⟨K,_,_⟩:=p E;have q: ∀(l:List (den T.U e)) (s:Nat),(∀k x,l[k]?=some x->xs[s+k]?=some x)->
    ∃a:List Value,CellsR T w S (l.flatMap (zb5 T e)) a/\ ∀j v,a[j]?=some v->w.cell? ⟨bk ad,of ad+(s*szT T e+j),none⟩=some v:=by
   intro l;induction l with
   |nil=>intro s _;exact ⟨[],⟨rfl,fun j c v h=>by simp at h⟩,fun j v h=>by simp at h⟩
   |cons x r L=>
    intro s G;obtain ⟨a,t,z⟩:=L (s+1) (fun k y A=>by rw [show s+1+k=s+(k+1) by omega];exact G (k+1) y (by simpa using A));have I:xs[s]?=some x:=by simpa using G 0 x rfl
    have b:((List.range (szT T e)).map (u s)).length=szT T e:=by simp
    refine ⟨(List.range (szT T e)).map (u s)++a,?_,?_⟩
    ·rw [V2];refine CellsR.app ⟨by rw [za2,b],fun j c v B d=>?_⟩ t;have g:j<szT T e:=by have:=(X2.1 d).1;rw [b] at this;exact this
     rw [W2,List.getElem?_range g] at d;simp only [Z8,X0] at d;subst d;exact m s j c (by rw [I];exact congrArg some B)
    ·intro j v d;rcases U7 j (szT T e) with g|g
     ·rw [X8 (by rw [b];exact g),W2,List.getElem?_range g] at d;simp only [Z8,X0] at d;subst d;have B:(zb5 T e x)[j]?=some ((zb5 T e x)[j]'(by rw [za2];exact g)):=Y0 _;exact f s j _ (by rw [I];exact congrArg some B)
     ·rw [Z2 (by rw [b];exact g),b] at d;have:=z _ v d;rwa [show (s+1)*szT T e+(j-szT T e)=s*szT T e+j by rw [U8];omega] at this
  obtain ⟨a,t,z⟩:=q xs 0 (fun k x A=>by rw [W8];exact A);refine ⟨a,fun j v d=>⟨K,?_⟩,t⟩;have:=z j v d;rwa [M0,W8] at this
def ga5 {t:Ty} {c:Cell T.U} {xs:List (den T.U t)} (h:c.aS (.list t)=some xs):c=⟨.list t,xs⟩:=Cell.as_eq h
def vt7 {ty a xs} (d:appA.rowIn T ty H a=some xs) (h:Sim T w0 S0 ⟨F,H⟩ F' w S φ) {v} (f:VR T w S φ a v):
  ∃ad cap b,v=.slice ad xs.length cap/\(ad=none->xs.length=0/\cap=0)/\Rg w ad b/\CellsR T w S (xs.flatMap (zb5 T ty)) b:=by
 unfold appA.rowIn at d;split at d
 ·rename_i c;split at d
  ·rename_i ys x;have d:ys=xs:=X5 d;subst d;have:=ga5 x;subst this;have f:CR T w S (.list ty) ys v:=f;have g:=f;cases g with
   |list _ _ ad cap u r s y l t=>
    obtain ⟨_,m,b,z,p⟩:=jl1 f;exact ⟨ad,cap,b,rfl,m,z,p⟩
  ·cases d
 ·rename_i i;split at d
  ·rename_i e ty' ys A;split at d
   ·rename_i C;subst C;simp only [X0] at d;subst d;obtain ⟨B,b,q,m,_,p,_⟩:=h.ents i _ A;rw [VR] at f;subst f;rw [m] at q⊢;exact ⟨_,_,b,rfl,q.nil0,q.rg,p⟩
   ·cases d
  ·cases d
 ·simp only [X0] at d;subst d;rw [VR] at f;subst f;exact ⟨none,0,[],rfl,fun _=>⟨rfl,rfl⟩,Rg.nil _ _,rfl,fun j c v h=>by simp at h⟩
 ·cases d
def ys4 {α c:Type} {f:α->List c} {sz:Nat} (d: ∀y,(f y).length=sz) (xs:List α) (o n:Nat):((xs.drop o).take n).flatMap f=((xs.flatMap f).drop (o*sz)).take (n*sz):=by
 have b: ∀(l:List α) (k:Nat),(l.take k).flatMap f=(l.flatMap f).take (k*sz)/\(l.drop k).flatMap f=(l.flatMap f).drop (k*sz):=by
  intro l;induction l with
  |nil=>intro k;simp
  |cons a r g=>
   intro k;cases k with
   |zero=>simp
   |succ k=>
    obtain ⟨h,i⟩:=g k;have e:(k+1)*sz=(f a).length+k*sz:=by rw [d,U8,J4]
    refine ⟨?_,?_⟩
    ·rw [List.take_succ_cons,V2,V2,h,e,List.take_append,Q4 (Nat.le_add_right _ _),N7]
    ·rw [List.drop_succ_cons,V2,i,e,R4];simp
 rw [(b _ n).1,(b _ o).2]
def kl9 {R:Type} {r:R} {ty:Ty} {a:AV T.U} {K:List (den T.U ty)->Option R} (b:appA.rowX T ty H a K=some r) (h:Sim T w0 S0 ⟨F,H⟩ F' w S φ) {v:Value} (m:VR T w S φ a v):
  ∃xs,K xs=some r/\ ∃ad cap d,v=.slice ad xs.length cap/\(ad=none->xs.length=0/\cap=0)/\Rg w ad d/\CellsR T w S (xs.flatMap (zb5 T ty)) d:=by
 unfold appA.rowX at b;split at b
 ·rename_i ys t;exact ⟨ys,b,vt7 t h m⟩
 ·rename_i t;clear t;split at b<;>try (cases b;done)
  rename_i i sz o n;split at b<;>try (cases b;done)
  rename_i e ty' xs E;split at b<;>try (cases b;done)
  rename_i x;have:=X1 x;subst this;split at b<;>try (cases b;done)
  rename_i G;subst G;split at b<;>try (cases b;done)
  rename_i I;refine ⟨_,b,?_⟩;obtain ⟨B,d,J,M,_,C,_⟩:=h.ents i _ E;obtain ⟨ad,rfl,D,L,p,_⟩:=m;have f:(List.take n (List.drop o xs)).length=n:=by rw [Y6,Q7];omega
  refine ⟨ad,(φ i).cap-o,(d.drop (o*szT T ty')).take (n*szT T ty'),?_,?_,?_,?_,?_⟩
  ·show Value.slice ad n _=Value.slice ad (List.take n (List.drop o xs)).length _;rw [f]
  ·intro y;show (List.take n (List.drop o xs)).length=0/\_;rw [f];exact p y
  ·intro j u l;rcases L with rfl|⟨g,z,A⟩
   ·simp at l
   ·rw [Z3] at l;split at l<;>try (cases l;done)
    rw [Q6] at l;obtain ⟨_,q⟩:=J.rg _ _ l;subst A;rw [z] at q;refine ⟨rfl,?_⟩;simp only [bk,of,W8] at q⊢;exact q
  ·rw [ys4 (za2 T ty'),Y6,Q7,Y6,Q7,C.1]
  ·intro j c v s m;rw [ys4 (za2 T ty'),Z3] at s;rw [Z3] at m;split at s<;>try (cases s;done)
   rename_i l;rw [if_pos l] at m;rw [Q6] at s m;exact C.2 _ _ _ s m
def yz0 {x y t c} (f:dec ops k n F'=some o) (a:o.op=.call c) (d:c.callee=.builtin .append) (e:c.args.toList= [x,y]) (b:c.argTypes.toList= [t,t]):jd2 ops k n F'=some (o.dst,t,evD F' x,evD F' y):=by
 unfold jd2;rw [f];cases o;cases c;simp only at a d e b;subst a;subst d;simp only [e,b,V7]
def kh4 {w:World} {B:Nat} {e:TypeId} {sz:Nat} {ad:Option Addr} {n cap:Nat} {cs:List Value} (h:Own w B e sz ad n cap cs) {m:Nat} (hm:m<=n):Own w B e sz ad m cap (cs.take (m*sz)):=by
 have hl:=h.len;have hmn:m*sz<=n*sz:=Q9 _ hm;rcases h.cases with ⟨rfl,rfl,rfl,rfl⟩|⟨c,had,hB,hb,hnc,hcm,hs,ht⟩
 ·have:m=0:=by omega
  subst this;rw [List.take_nil];exact h
 ·obtain ⟨g,rfl⟩: ∃g,ad=some ⟨g,0,none⟩:=⟨_,had⟩;refine ⟨by rw [Y6,hl];omega,.inr ⟨g,cap,c,rfl,hB,hb,by omega,hcm,hs,?_⟩⟩;rw [<-ht,T8];congr 1;omega
def js9 {t:Ty}: ∀(zs:List (den T.U t)) (n:Nat),(zs.take n).flatMap (zb5 T t)=(zs.flatMap (zb5 T t)).take (n*szT T t)
 | [],n=>by simp
 |z::r,0=>by simp
 |z::r,n+1=>by
  rw [List.take_succ_cons,V2,V2,List.take_append,za2,U8,Nat.add_sub_cancel,Q4 (l:=zb5 T t z) (by rw [za2];omega),js9 r n]
def CellsR.takeN {t:Ty} {zs:List (den T.U t)} {vals:List Value} (h:CellsR T w S (zs.flatMap (zb5 T t)) vals) (n:Nat):CellsR T w S ((zs.take n).flatMap (zb5 T t)) (vals.take (n*szT T t)):=by
 have e:=js9 zs n;rw [e];refine ⟨by rw [Y6,Y6,h.1],fun j c v h1 h2=>?_⟩;rw [Z3] at h1 h2;split at h1
 ·rename_i hj;rw [if_pos hj] at h2;exact h.2 j c v h1 h2
 ·cases h1
def gj9 {R:Type} {r:R} {ty:Ty} {s:AV T.U} {K:List (den T.U ty)->Option R} (h:appA.rowB T ty H s K=some r): ∃xs,(appA.rowIn T ty H s=some xs\/ ∃i n e zs,s=.sl i (szT T ty) 0 n/\H[i]?=some (.row e ty zs)/\n<=zs.length/\xs=zs.take n)/\K xs=some r:=by
 unfold appA.rowB at h;split at h
 ·rename_i i sz o n;split at h
  ·rename_i e ty' zs hi;split at h
   ·rename_i hb;rw [X3] at hb;have h1:=X1 hb.1;have h2:=X1 hb.2;subst h1;subst h2;split at h
    ·rename_i ht;subst ht;split at h
     ·rename_i hn;exact ⟨_,.inr ⟨i,n,e,zs,rfl,hi,hn,rfl⟩,h⟩
     ·cases h
    ·cases h
   ·cases h
  ·cases h
 ·split at h
  ·rename_i xs hx;exact ⟨xs,.inl hx,h⟩
  ·cases h
def vm8 {R:Type} {r:R} {x y:Operand} {t:TypeId} {c:Call} (hd:dec ops k n F'=some o) (hop:o.op=.call c) (hc:c.callee=.builtin .append) (ha:c.args.toList= [x,y]) (hat:c.argTypes.toList= [t,t]) {ty:Ty} {s a:AV T.U} (hx:aev T F x=some s) (hy:aev T F y=some a)
  {K0:AV T.U->List (Ent T.U)->Option R} (hK0:appA T P ty t H s a K0=some r) (h:Sim T w0 S0 ⟨F,H⟩ F' w S φ) (K: ∀b H1,K0 b H1=some r->zp6 P ops Q (k+1) n ds w0 S0 (⟨za9 T F o.dst b,H1⟩:St T)):WR P ops Q k n ds F' w:=by
 obtain ⟨X,h1,h2⟩:=v8 h.fr hx;obtain ⟨Y,h3,h4⟩:=v8 h.fr hy;unfold appA at hK0;split at hK0
 ·rename_i et sz by_ zc he;split at hK0
  ·rename_i hb;simp only [X3] at hb;have hsz:=X1 hb.1;subst hsz;have hs1:=Y1 hb.2.1;have hby:=Y1 hb.2.2.1;have hek:=hb.2.2.2;obtain ⟨xs,hxs,hK0⟩:=gj9 hK0
   ·obtain ⟨ys,hK1,xd,xcap,news,rfl,hnil,hrg,hcr⟩:=kl9 hK0 h h4;obtain ⟨hle,hK⟩:=u9 hK1;clear hK0 hK1;have hda:=yz0 hd hop hc ha hat;rw [k8 h1,k8 h3] at hda;have hl:news.length=ys.length*szT T ty:=by rw [<-hcr.1,za7 (za2 T ty)]
    have hle':xs.length+ys.length<=140737488355328:=W7 (Nat.le_mul_of_pos_right _ hby) hle;have hown: ∃ad cap B cs,X=.slice ad xs.length cap/\Own w B et (szT T ty) ad xs.length cap cs/\B<=w.heap.size/\CellsR T w S (xs.flatMap (zb5 T ty)) cs/\(∀b∈zc7 ad,b∈S)/\(∀b∈zc7 ad,b∈S0.chg\/w0.heap.size<=b)/\
      (∀(j:Nat) (e:Ent T.U),(appA.goneA T H s)[j]?=some e->e.live=true-> ∀q,At (φ j) q->q.block∉zc7 ad)/\Sim T w0 S0 ⟨F,appA.goneA T H s⟩ F' w S φ/\(appA.goneA T H s).length=H.length:=by
     rcases hxs with hxs|⟨i,n,e',zs,rfl,hi,hn,hxs⟩
     rotate_left
     ·obtain ⟨B,vals,q1,q2,q3,q4,q5⟩:=h.ents i _ hi;have hee:e'=et:=by
       unfold appA.eOk at hek;simp only [hi] at hek;exact X1 hek
      subst hee;obtain ⟨ad,rfl,p1,_,_,p5⟩:=h2;have p5:=p5 rfl;subst p5;have hlen:xs.length=n:=by rw [hxs,Y6];omega
      refine ⟨(φ i).ad,(φ i).cap,B,vals.take (n*szT T ty),by rw [hlen];rfl,by rw [hlen];exact kh4 q1 (by omega),q3,?_,?_,?_,?_,h.drop i,by simp [appA.goneA]⟩
      ·rw [hxs];exact q4.takeN n
      ·intro b hb;unfold zc7 at hb;split at hb
       ·rename_i a hq;simp at hb;subst hb;exact q5 a hq
       ·cases hb
      ·intro b hb;unfold zc7 at hb;split at hb
       ·rename_i a hq;simp at hb;subst hb;exact (h.lives i _ hi rfl a (.inl hq)).2
       ·cases hb
      ·intro j f hf hl q hq hm;have hji:j≠i:=by
        intro e;subst e;have hlt:j<H.length:=(X2.1 hi).1;rw [show appA.goneA T H (.sl j (szT T ty) 0 n)=H.set j .gone from rfl,Q0 hlt] at hf;simp only [X0] at hf;subst hf;cases hl
       rw [show appA.goneA T H (.sl i (szT T ty) 0 n)=H.set i .gone from rfl,Z5 (Ne.symm hji)] at hf;unfold zc7 at hm;split at hm
       ·rename_i a ha';simp at hm;exact h.apart j i f _ hf hi hl rfl hji q a hq (.inl ha') hm
       ·cases hm
     unfold appA.rowIn at hxs;split at hxs
     ·cases hek
     ·rename_i i;split at hxs
      ·rename_i e' ty' zs hi;split at hxs
       ·rename_i ht;subst ht;have hxs:zs=xs:=X5 hxs;subst hxs;obtain ⟨B,vals,q1,q2,q3,q4,q5⟩:=h.ents i _ hi;have hee:e'=et:=by
         unfold appA.eOk at hek;have hi':H[i]?=some (.row e' ty' zs):=hi;simp only [hi'] at hek;exact X1 hek
        subst hee;rw [VR] at h2;subst h2;rw [q2] at q1⊢;refine ⟨_,_,B,vals,rfl,q1,q3,q4,?_,?_,?_,h.drop i,by simp [appA.goneA]⟩
        ·intro b hb;unfold zc7 at hb;split at hb
         ·rename_i a hq;simp at hb;subst hb;exact q5 a hq
         ·cases hb
        ·intro b hb;unfold zc7 at hb;split at hb
         ·rename_i a hq;simp at hb;subst hb;exact (h.lives i _ hi rfl a (.inl hq)).2
         ·cases hb
        ·intro j f hf hl q hq hm;have hji:j≠i:=by
          intro e;subst e;have hlt:j<H.length:=(X2.1 hi).1;rw [show appA.goneA T H (.own j)=H.set j .gone from rfl,Q0 hlt] at hf;simp only [X0] at hf;subst hf;cases hl
         rw [show appA.goneA T H (.own i)=H.set i .gone from rfl,Z5 (Ne.symm hji)] at hf;unfold zc7 at hm;split at hm
         ·rename_i a ha';simp at hm;exact h.apart j i f _ hf hi hl rfl hji q a hq (.inl ha') hm
         ·cases hm
       ·cases hxs
      ·cases hxs
     ·have hxs: []=xs:=X5 hxs;subst hxs;rw [VR] at h2;subst h2;exact ⟨none,0,w.heap.size,[],rfl,Own.nil _ _ _ _,W6 _,⟨rfl,fun j c v h=>(by simp at h)⟩,fun b hb=>(by cases hb),fun b hb=>(by cases hb),fun j e _ _ q _=>(by simp [zc7]),h,rfl⟩
     ·cases hxs
    obtain ⟨ad,cap,B,cs,rfl,o1,o2,o3,o4,oc,o5,o6,o7⟩:=hown;refine WR.append o1 hrg hda he hl hs1 hcr.one o2 (by omega) hle hnil fun ad' cap' w' g1 g2 g3=>?_;have hnl:(xs++ys).length=xs.length+ys.length:=X9;have hS1: ∃S1:List Nat,(∀b∈S,b∈S1)/\(∀b∈S1,b∈S\/(w.heap.size<=b/\b<w'.heap.size))/\(∀q,ad'=some q->q.block∈S1)/\ ∀q,ad'=some q->w.heap.size<=q.block\/q.block∈zc7 ad:=by
     cases ad' with
     |none=>exact ⟨S,fun _ h=>h,fun _ h=>.inl h,fun q h=>(by cases h),fun q h=>(by cases h)⟩
     |some q=>
      have hlt:q.block<w'.heap.size:=by
       rcases g1.ge with hn|hn
       ·cases hn
       ·exact hn.2
      have hor:w.heap.size<=q.block\/q.block∈zc7 ad:=by
       rcases g3 with g3|g3
       ·right;rw [<-g3];simp [zc7]
       ·left;exact g3
      refine ⟨q.block::S,fun b hb=>Z4 _ hb,fun b hb=>?_,fun q' h=>by simp only [X0] at h;subst h;simp,fun q' h=>by simp only [X0] at h;subst h;exact hor⟩;rcases Z0.1 hb with rfl|hb
      ·rcases hor with hor|hor
       ·exact .inr ⟨hor,hlt⟩
       ·exact .inl (o4 _ hor)
      ·exact .inl hb
    obtain ⟨S1,s1,s2,s3,s4⟩:=hS1;have hCr:CellsR T w' S1 ((xs++ys).flatMap (zb5 T ty)) (cs++news):=by
     rw [J0];exact (o3.app hcr).chg T g2 o4 (fun b hb=>(s2 b hb).imp id And.left)
    have hadd:=o6.addG g2 o4 oc o5 s1 s2 (r:=⟨ad',xs.length+ys.length,cap',[]⟩) (fun q hq=>s4 q (yf0 hq)) (fun q hq=>s3 q (yf0 hq)) (e:=.row et ty (xs++ys))
     ⟨B,cs++news,by rw [k7];exact g1,by rw [k7,hnl],W7 o2 g2.size,hCr,fun q hq=>by rw [k7] at hq;exact s3 q hq⟩ (by intro q hq;cases hq)
    rw [o7] at hadd;refine K _ _ hK _ _ ⟨_,_,hadd.slot (a:=.own H.length) (by rw [VR,k7]) ⟨?_,trivial⟩⟩;intro q hq;simp [AV.ids] at hq;subst hq;rw [X9,o7];simp
  ·cases hK0
 ·cases hK0
def jf1 {t x y} (b:dec ops k n F'=some o) (a:o.op=.makeSlice t x y):yh1 ops k n F'=some (o.dst,t,evD F' x,evD F' y):=by
 unfold yh1;rw [b];cases o;simp only at a;subst a;rfl
def zv5 {α c:Type} {f:α->List c} {sz:Nat} {x:α} (b:(f x).length=sz): ∀(m j:Nat),j<m*sz->((List.replicate m x).flatMap f)[j]?=(f x)[j%sz]?
 |0,j,h=>by simp at h
 |m+1,j,h=>by
  rw [List.replicate_succ,V2];rcases U7 j sz with a|a
  ·rw [X8 (by omega),R6 a]
  ·rw [Z2 (by omega),b,zv5 b m (j-sz) (by rw [U8] at h;omega)];congr 1;exact (Nat.mod_eq_sub_mod a).symm
def ye9 {l cs} (h:cellsOf T (l.map (yi9 T))=some cs):CellsR T w S cs l:=zt0 (φ:=fun _=>⟨none,0,0,[]⟩) h (yc2 T l)
def ge6 {R:Type} {r:R} {x y:Operand} {t:TypeId} (hd:dec ops k n F'=some o) (L:o.op=.makeSlice t x y) {ty:Ty} {k1 k2:IntKind} {l c:Int} (hx:aev T F x=some (cI T k1 l)) (hy:aev T F y=some (cI T k2 c))
  {K0:AV T.U->List (Ent T.U)->Option R} (d:jr1 T P ty t H l c K0=some r) (h:Sim T w0 S0 ⟨F,H⟩ F' w S φ) (K: ∀b H1,K0 b H1=some r->zp6 P ops Q (k+1) n ds w0 S0 (⟨za9 T F o.dst b,H1⟩:St T)):WR P ops Q k n ds F' w:=by
 obtain ⟨X,A,p⟩:=v8 h.fr hx;obtain ⟨Y,h3,h4⟩:=v8 h.fr hy;have e1:=za3 p;have e2:=za3 h4;subst e1;subst e2;unfold jr1 at d;split at d
 ·rename_i e sz by_ I he;split at d
  ·rename_i z q hz;have q:=X1 q;subst q;split at d
   ·rename_i J M;obtain ⟨⟨g1,g2,g3,g4⟩,hK⟩:=u9 d;have B:=jf1 hd L;rw [k8 A,k8 h3] at B;obtain ⟨i,zv,_,_,_,_,_,_,C⟩:=zd2 he;refine WR.make B he l.toNat c.toNat (by omega) (by omega) (by omega) g3 (by omega) fun g w' s=>?_;have D:=Own.made (m:=l.toNat) (m':=c.toNat) s (by omega) (by omega);have hS: ∀b∈g::S,b∈S\/w.heap.size<=b:=by
     intro b N;rcases Z0.1 N with rfl|N
     ·exact .inr s.fresh
     ·exact .inl N
    have O:CellsR T w' (g::S) (zb5 T ty J) I.toList:=by rw [zo8 T M];exact ye9 hz
    have hc:CellsR T w' (g::S) ((List.replicate l.toNat J).flatMap (zb5 T ty)) ((madeCells I (c.toNat*szT T ty)).toList.take (l.toNat*szT T ty)):=by
     have V:(madeCells I (c.toNat*szT T ty)).toList.length=c.toNat*szT T ty:=by rw [J1,size_madeCells]
     have W:l.toNat*szT T ty<=c.toNat*szT T ty:=Q9 _ (by omega);refine ⟨by rw [za7 (za2 T ty),Z9,Y6,V,V9 W],fun j c v A p=>?_⟩;have u:=(X2.1 A).1;rw [za7 (za2 T ty),Z9] at u;rw [zv5 (za2 T ty J) _ _ u] at A;rw [Z3,if_pos u] at p;refine O.2 _ c v A ?_;have f:0<szT T ty:=by
      rcases N0 (szT T ty) with Z|Z
      ·rw [Z] at u;omega
      ·exact Z
     rw [<-C] at f;unfold madeCells at p;simp only [M7,T5,W2] at p;rw [List.getElem?_range (by omega)] at p;simp only [Z8,X0] at p;subst p;rw [<-C,Array.getElem?_toList,Z6 (Nat.mod_lt _ f)];congr 1;rw [getElem!_pos I _ (Nat.mod_lt _ f)]
    have E:=h.add (r:=⟨some ⟨g,0,none⟩,l.toNat,c.toNat,[]⟩) s.chg s.fresh s.blk.lt (fun a G=>ya0 G) (e:=.row e ty (List.replicate l.toNat J))
     ⟨w.heap.size,_,by rw [k7];exact D,by rw [k7,Z9],s.chg.size,hc,fun a G=>by rw [k7] at G;simp only [X0] at G;subst G;simp⟩ (by intro j u;cases u)
    refine K _ _ hK _ _ ⟨_,_,E.slot (a:=.own H.length) (by rw [VR,k7]) ⟨by intro i hi;simp [AV.ids] at hi;subst hi;simp,trivial⟩⟩
   ·cases d
  ·cases d
 ·cases d
def jk2 {t a ps e c} (d:dec ops k n F'=some o) (b:o.op=.buildSlice t a ps) (f:zx2 P t a (ps.toList.map fun p=>(p.1,evD F' p.2))=some (e,c)):vw4 P ops k n F'=some (o.dst,a,e,c):=by
 unfold vw4;rw [d];cases o;simp only at b;subst b;have:(ps.map fun p=>(p.1,evD F' p.2)).toList=ps.toList.map fun p=>(p.1,evD F' p.2):=by simp
 simp only [this,f]
def vn4 {t:TypeId} {len:Nat} {ps:Array (Nat×Operand)} (hd:dec ops k n F'=some o) (hop:o.op=.buildSlice t len ps) {ty:Ty} {l:List (Nat×AV T.U)} (hl:zs0 T F ps.toList=some l) {e:TypeId} {xs:List (den T.U ty)} (hb:va8 T P ty t len l=some (e,xs))
  (h:Sim T w0 S0 ⟨F,H⟩ F' w S φ) (K:zp6 P ops Q (k+1) n ds w0 S0 (⟨za9 T F o.dst (.own H.length),H++ [.row e ty xs]⟩:St T)):WR P ops Q k n ds F' w:=by
 unfold va8 at hb;split at hb
 ·rename_i et sz by_ zc he;split at hb
  ·rename_i hok;simp only [X3] at hok;have hsz:=X1 hok.1;subst hsz;have hs1:=Y1 hok.2.1;have h16:=Y1 hok.2.2;split at hb
   ·rename_i cs hcs;split at hb
    ·rename_i zs hzs;simp only [X0,X7] at hb;obtain ⟨rfl,rfl⟩:=hb;obtain ⟨i,zv,hu,hin,hzv,hsi,_,hzc,hzl⟩:=zd2 he;subst hzc;obtain ⟨e1,e2⟩:=zy4 h.fr hl;have hz0:VRL T w S φ ((List.range (len*szT T ty)).map fun j=>yi9 T (zv.cells[j%szT T ty]!)) ((Array.range (len*i.size)).map (zv.cells[· %zv.cells.size]!)).toList:=by
      rw [hsi,hzl,M7,T5];generalize List.range (len*szT T ty)=rr;induction rr with
      |nil=>trivial
      |cons a r ih=>exact ⟨ye2 T _,ih⟩
     obtain ⟨c',g1,g2⟩:=yb8 hz0 e1 e2 hcs;obtain ⟨r1,r2⟩:=yc6 hzs g2;have hbs:zx2 P t len (ps.toList.map fun p=>(p.1,evD F' p.2))=some (et,c'):=by
      unfold zx2;rw [hu];simp only [hin];rw [hsi,W3 h16];simp only;rw [hsi] at g1;have hfin:Instr.fill (fun j=>some (j*szT T ty,szT T ty)) ((Array.range (len*szT T ty)).map (zv.cells[· %zv.cells.size]!)) (ps.toList.map fun p=>(p.1,evD F' p.2))=some c':=g1;cases hz:Nat.beq (len*szT T ty) 0 with
      |true=>
       have:=X1 hz;simp only;rw [this] at hfin⊢;have hr0:Array.range 0= #[]:=rfl;rw [hr0] at hfin⊢;have em: ∀f:Nat->Value,Array.map f #[]= #[]:=fun f=>by simp
       rw [em] at hfin⊢;rw [hfin]
      |false=>simp only [hzv,hfin]
     have hclen:c'.size=len*szT T ty:=by
      have:=g2.len T;have h2:=r2.1;rw [za7 (za2 T ty),r1] at h2;simpa using h2.symm
     refine WR.bslice c' (jk2 hd hop hbs) fun g w' hN=>?_;have hS: ∀b∈g::S,b∈S\/w.heap.size<=b:=by
      intro b hb;rcases Z0.1 hb with rfl|hb
      ·exact .inr hN.fresh
      ·exact .inl hb
     have hle:len<=9223372036854775807:=by
      have:len<=len*szT T ty:=Nat.le_mul_of_pos_right _ hs1;omega
     have htk:c'.toList.take (len*szT T ty)=c'.toList:=Q4 (by rw [J1,hclen];exact W6 _);have hown:=Own.ofBlk hN.blk hN.fresh (W6 len) hle (Nat.le_of_eq hclen.symm) _ htk;have hadd:=h.add (r:=⟨some ⟨g,0,none⟩,len,len,[]⟩) hN.chg hN.fresh hN.blk.lt (fun a ha=>ya0 ha) (e:=.row et ty zs)
      ⟨w.heap.size,_,by rw [k7];exact hown,by rw [k7,r1],hN.chg.size,r2.chg T hN.chg (by simp) hS,fun a ha=>by rw [k7] at ha;simp only [X0] at ha;subst ha;simp⟩ (by intro j hj;cases hj)
     refine K _ _ ⟨_,_,hadd.slot (a:=.own H.length) (by rw [VR,k7]) ⟨by intro i hi;simp [AV.ids] at hi;subst hi;simp,trivial⟩⟩
    ·cases hb
   ·cases hb
  ·cases hb
 ·cases hb
end
end Go.X
namespace Go.X
open Go.RowKit Go.V
def q9 {α b:Type} (o:Option α) (f:α->Option b):Option b:=match o with|some a=>f a|none=>none
def zb9 {α b:Type} {o:Option α} {f:α->Option b} {y:b} (h:q9 o f=some y): ∃a,o=some a/\f a=some y:=by
 unfold q9 at h;split at h
 ·exact ⟨_,rfl,h⟩
 ·cases h
section
variable (T:Tab)
def jc8:Ty->Bool
 | .user i=>T.scal i
 |t=>t.scal
def vw1 {U:Nat->Type}:Cell U->Value
 |⟨.int k,x⟩=>.int k x
 |⟨.bool,x⟩=>.bool x
 |⟨.str,x⟩=>.string x
 |_=>undef
def gz9 (t:Ty) (x:den T.U t):Value:=
 match t,x with
 | .user i,x=>.agg ((T.cells i x).map vw1).toArray
 | .int k,x=>.int k x
 | .bool,x=>.bool x
 | .str,x=>.string x
 | .list _,_=>undef
 | .nl _,_=>undef
def zo3 (t:Ty) (x:den T.U t):AV T.U:=
 match t,x with
 | .user i,x=>.agg ((T.cells i x).map .cell)
 | .int k,x=>.cell ⟨.int k,x⟩
 | .bool,x=>.cell ⟨.bool,x⟩
 | .str,x=>.cell ⟨.str,x⟩
 | .list e,x=>.cell ⟨.list e,x⟩
 | .nl e,x=>.cell ⟨.nl e,x⟩
def jo3 (t:Ty) (a:AV T.U):Option (den T.U t):=
 match t,a with
 | .user i,.agg cs=>match cellsOf T cs with|some l=>T.pack i l|none=>none
 | .user _,_=>none
 | .list _,.raw (.slice none 0 0)=>some []
 | .nl _,.raw (.slice none 0 0)=>some []
 |t,.cell c=>c.aS t
 |_,_=>none
def nlL {R:Type} (t e:Ty) (xs:List (den T.U t)) (K:List (den T.U e)->Option R):Option R:=
 match t,e,xs,K with
 | .nl a,.list b,xs,K=>if h:a=b then K (h▸xs:List (List (den T.U b))) else none
 |_,_,_,_=>none
def rdN {R:Type} (H:List (Ent T.U)) (t:Ty) (a:AV T.U) (K:den T.U t->Option R):Option R:=
 match t,a,K with
 | .list e,.cell ⟨.nl b,xs⟩,K=>if h:b=e then K (h▸xs:List (den T.U e)) else none
 | .nl e,.cell ⟨.list b,xs⟩,K=>if h:b=e then (if 0<(h▸xs:List (den T.U e)).length then K (h▸xs:List (den T.U e)) else none) else none
 | .nl e,.own i,K=>match H[i]? with
  |some (.row _ t xs)=>if h:t=e then (if 0<(h▸xs:List (den T.U e)).length then K (h▸xs:List (den T.U e)) else none) else none
  |_=>none
 |_,_,_=>none
def jp2 {R:Type} (H:List (Ent T.U)) (t:Ty) (a:AV T.U) (K:den T.U t->Option R):Option R:=
 match t,a,K with
 | .list e,.own i,K=>match H[i]? with
  |some (.row _ t xs)=>(if h:t=e then K (h▸xs) else none)
  |_=>none
 | .list e,.sl i sz o n,K=>match H[i]? with
  |some (.row _ t xs)=>match Nat.beq sz (szT T t) with
   |true=>(if h:t=e then (if o+n<=xs.length then K ((h▸xs:List (den T.U e)).drop o |>.take n) else none) else none)
   |false=>none
  |_=>none
 | .list e,.asl i o sz n c m,K=>match H[i]? with
  |some (.blk _ cs)=>match yx7 T cs o with
   |some (b::_)=>match ja5 b with
    |some ⟨t,d,xs⟩=>match Nat.beq d n&&Nat.beq sz (szT T t) with
     |true=>(if h:t=e then K ((h▸xs:List (den T.U e)).drop c |>.take m) else nlL T t e ((xs.drop c).take m) K)
     |false=>none
    |none=>none
   |_=>none
  |_=>none
 |t,a,K=>match jo3 T t a with|some x=>K x|none=>rdN T H t a K
def qr0 {R:Type} (H:List (Ent T.U)):List Ty->List (AV T.U)->(List (Cell T.U)->Option R)->Option R
 | [],[],K=>K []
 |t::ts,a::aS,K=>match t.one with|true=>jp2 T H t a fun x=>qr0 H ts aS fun l=>K (⟨t,x⟩::l)|false=>none
 |_,_,_=>none
def va3 (i:Nat):List Ty:=(T.cells i (T.d i)).map (·.t)
def rdF {R:Type} (H:List (Ent T.U)) (t:Ty) (a:AV T.U) (K:den T.U t->Option R):Option R:=
 match t,a,K with
 | .user i,.agg cs,K=>qr0 T H (va3 T i) cs fun l=>match T.pack i l with|some x=>K x|none=>none
 |t,a,K=>jp2 T H t a K
end
section
variable {T:Tab} {P:Program} {w w':World} {S S':List Nat} {φ φ':Nat->RA} {w0:World} {S0:Ow} {F:AF T} {H:List (Ent T.U)} {F':PF}
def CR.sub0 {t x v} (h:CR T w S t x v) (a: ∀b∈S',b∈S):CR T w S' t x v:=h.chg T (Chg.refl [] w) (by simp) fun b c=>.inl (a b c)
def yy8: ∀ {cs:List (Cell T.U)} {vs},VRL T w S φ (cs.map .cell) vs-> ∀(S':List Nat) (φ':Nat->RA),(∀b∈S',b∈S)->VRL T w S' φ' (cs.map .cell) vs
 | [],[],_,_,_,_=>trivial
 | [],_::_,h,_,_,_=>h.elim
 |_::_,[],h,_,_,_=>h.elim
 |_::_,_::_,h,S',φ',a=>⟨CR.sub0 h.1 a,yy8 h.2 S' φ' a⟩
def qt2 {t x v} (h:VR T w S φ (zo3 T t x) v) (φ') (a: ∀b∈S',b∈S):VR T w S' φ' (zo3 T t x) v:=by
 cases t with
 |user i=>
  obtain ⟨vs,c,d⟩:=h;exact ⟨vs,c,yy8 d _ _ a⟩
 |int k=>exact CR.sub0 h a
 |bool=>exact CR.sub0 h a
 |str=>exact CR.sub0 h a
 |list e=>exact CR.sub0 h a
 |nl e=>exact CR.sub0 h a
def zs9: ∀ {aS:List (AV T.U)} {l:List (Cell T.U)},cellsOf T aS=some l->aS=l.map .cell
 | [],l,h=>by simp only [cellsOf,X0] at h;subst h;rfl
 |a::r,l,h=>by
  unfold cellsOf at h;split at h
  ·rename_i c l' hc hl;simp only [X0] at h;subst h;rw [U2,<-zs9 hl];unfold qb5 at hc;split at hc
   ·simp only [X0] at hc;subst hc;rfl
   ·cases hc
  ·cases h
def CR.empty {e ad cap} (a:ad=none->cap=0):CR T w S (.list e) [] (.slice ad 0 cap):=
 .list e [] ad cap (fun _ _=>undef) (U3 _) (fun h=>⟨rfl,a h⟩) (fun h=>absurd rfl h) (fun k j c h=>by simp at h) fun k j c h=>by simp at h
def CR.recap {e xs ad cap a} (h:CR T w S (.list e) xs (.slice ad xs.length cap)) (k:xs.length<=a) (l:ad=none->a=0):CR T w S (.list e) xs (.slice ad xs.length a):=by
 generalize g:Value.slice ad xs.length cap=v at h;cases h with
 |list _ _ m i u j c f b d=>
  simp only [Value.slice.injEq,true_and] at g;obtain ⟨rfl,rfl⟩:=g;exact .list e xs ad a u k (fun h=>⟨(c h).1,l h⟩) f b d
def jp8 {i e t xs} (h:EntR T w S φ i (.row e t xs)) (u: ∀b∈S',b∈S) (v: ∀a,(φ i).ad=some a->a.block∉S'):CR T w S' (.list t) xs (.slice (φ i).ad (φ i).n (φ i).cap):=by
 obtain ⟨B,f,l,r,A,s,C⟩:=h;have m: ∀(k j:Nat) (c:Cell T.U),(xs[k]?.map fun x=>(zb5 T t x)[j]?)=some (some c)->(xs.flatMap (zb5 T t))[k*szT T t+j]?=some c:=by
  intro k j c d;cases hx:xs[k]? with
  |none=>rw [hx] at d;cases d
  |some x=>
   rw [hx] at d;simp only [Z8,X0] at d;have:=yh3 (za2 T t) hx;have y:j<szT T t:=by have:=(X2.1 d).1;rwa [za2] at this
   rw [<-this,Z3,if_pos y,Q6] at d;exact d
 have g: ∀(k j:Nat) (c:Cell T.U),(xs[k]?.map fun x=>(zb5 T t x)[j]?)=some (some c)->f[k*szT T t+j]?=some (f.getD (k*szT T t+j) undef):=by
  intro k j c d;have:=(X2.1 (m k j c d)).1;rw [s.1] at this;exact zn5 undef this
 rw [r];rw [r] at l;refine .list t xs _ _ (fun k j=>f.getD (k*szT T t+j) undef) l.le.1 l.nil0 ?_ ?_ ?_
 ·intro p;rcases l.cases with ⟨_,z,_⟩|⟨c,o,_,q,_⟩
  ·exact absurd (T1 z) p
  ·exact ⟨by rw [o];rfl,q.lt,v _ o⟩
 ·intro k j c d;exact (l.rg _ _ (g k j c d)).2
 ·intro k j c d;exact CR.sub0 (s.2 _ c _ (m k j c d) (g k j c d)) u
def CR.nilS {e}:CR T w S (.list e) [] (.slice none 0 0):=CR.empty fun _=>rfl
def wa8 {t:Ty} {c:Cell T.U} {x:den T.U t} (h:c.aS t=some x) {v:Value} (hv:VR T w S φ (.cell c) v) (ht: ∀i,t≠.user i):VR T w S φ (zo3 T t x) v:=by
 have:=Cell.as_eq h;subst this;cases t<;>first|exact hv|exact absurd rfl (ht _)
def ye1 {t:Ty} {a:AV T.U} {x:den T.U t} (h:jo3 T t a=some x) {v:Value} (hv:VR T w S φ a v) (φ':Nat->RA):VR T w S φ' (zo3 T t x) v:=by
 have one: ∀ {t:Ty} {c:Cell T.U} {x:den T.U t},(∀i,t≠.user i)->c.aS t=some x->VR T w S φ (.cell c) v->VR T w S φ' (zo3 T t x) v:=
  fun hnu h hv=>qt2 (wa8 h hv hnu) φ' fun _ h=>h
 cases t with
 |user i=>
  cases a<;>simp only [jo3,reduceCtorEq] at h;rename_i cs;split at h
  ·rename_i l hl;have:=T.packed _ _ _ h;obtain ⟨vs,h1,h2⟩:=hv;refine ⟨vs,h1,?_⟩;rw [this];rw [zs9 hl] at h2;exact yy8 h2 _ _ fun _ h=>h
  ·cases h
 |list e=>
  cases a with
  |cell c=>exact one (by intro i hi;cases hi) h hv
  |raw u=>
   have hu:u=.slice none 0 0/\x= []:=by
    cases u with
    |slice ad n c=>
     cases ad with
     |some _=>cases h
     |none=>
      cases n with
      |succ _=>cases h
      |zero=>
       cases c with
       |succ _=>cases h
       |zero=>exact ⟨rfl,(X5 h).symm⟩
    |_=>cases h
   obtain ⟨rfl,rfl⟩:=hu;rw [VR] at hv;subst hv;exact CR.nilS
  |_=>cases h
 |nl e=>
  cases a with
  |cell c=>exact one (by intro i hi;cases hi) h hv
  |raw u=>
   have hu:u=.slice none 0 0/\x= []:=by
    cases u with
    |slice ad n c=>
     cases ad with
     |some _=>cases h
     |none=>
      cases n with
      |succ _=>cases h
      |zero=>
       cases c with
       |succ _=>cases h
       |zero=>exact ⟨rfl,(X5 h).symm⟩
    |_=>cases h
   obtain ⟨rfl,rfl⟩:=hu;rw [VR] at hv;subst hv;exact .nl e [] none 0 CR.nilS fun _=>⟨rfl,rfl⟩
  |_=>cases h
 |int k=>cases a<;>first|(cases h;done)|exact one (by intro i hi;cases hi) h hv
 |bool=>cases a<;>first|(cases h;done)|exact one (by intro i hi;cases hi) h hv
 |str=>cases a<;>first|(cases h;done)|exact one (by intro i hi;cases hi) h hv
def uf0 {g p cap t} {xs:List (den T.U t)} {a} (l:g<w.heap.size) (m:Rg w (some ⟨g,p,none⟩) a) (i:CellsR T w S (xs.flatMap (zb5 T t)) a) (f:xs.length<=cap) (n: ∀b∈S',b∈S) (o:g∉S'):CR T w S' (.list t) xs (.slice (some ⟨g,p,none⟩) xs.length cap):=by
 have h: ∀(k j:Nat) (c:Cell T.U),(xs[k]?.map fun x=>(zb5 T t x)[j]?)=some (some c)->(xs.flatMap (zb5 T t))[k*szT T t+j]?=some c:=by
  intro k j c d;cases hx:xs[k]? with
  |none=>rw [hx] at d;cases d
  |some x=>
   rw [hx] at d;simp only [Z8,X0] at d;have:=yh3 (za2 T t) hx;have q:j<szT T t:=by have:=(X2.1 d).1;rwa [za2] at this
   rw [<-this,Z3,if_pos q,Q6] at d;exact d
 have e: ∀(k j:Nat) (c:Cell T.U),(xs[k]?.map fun x=>(zb5 T t x)[j]?)=some (some c)->a[k*szT T t+j]?=some (a.getD (k*szT T t+j) undef):=by
  intro k j c d;have:=(X2.1 (h k j c d)).1;rw [i.1] at this;exact zn5 undef this
 refine .list t xs _ _ (fun k j=>a.getD (k*szT T t+j) undef) f (by simp) ?_ ?_ ?_
 ·intro r;exact ⟨rfl,l,o⟩
 ·intro k j c d;exact (m _ _ (e k j c d)).2
 ·intro k j c d;exact CR.sub0 (i.2 _ c _ (h k j c d) (e k j c d)) n
def ko0 {i e cs r o n t xs} (h:EntR T w S φ i (.blk e cs)) (m:yx7 T cs o=some (.arr t n xs::r)):
  ∃g c a,(φ i).ad=some ⟨g,0,none⟩/\Blk w g c e/\g∈S/\xs.length=n/\Rg w (some ⟨g,o,none⟩) a/\CellsR T w S (xs.flatMap (zb5 T t)) a:=by
 obtain ⟨g,c,p,f,q,k⟩:=h;obtain ⟨pre,s,v⟩:=yz7 m k.2;obtain ⟨d,x⟩:=BR.at k s v;have y:(jf3 T (.arr t n xs)).length=n*szT T t:=by rw [yd3 T d.2.1];rfl
 have l:=d.1.take T (n*szT T t);rw [zh3,Z7 (by omega),Q4 (by omega)] at l;refine ⟨g,c,_,p,f,q,d.2.1,Rg.blk f _ (fun j u b=>?_),VRL.cells.1 l⟩;rw [Z3] at b;split at b
 ·rw [Q6] at b;simpa using b
 ·cases b
def ko1 {i e cs r o n d m t xs} (h:EntR T w S φ i (.blk e cs)) (s:yx7 T cs o=some (.arr t n xs::r)) {v} (u:VR T w S φ' (.asl i o (szT T t) n d m) v) (j:φ' i=φ i) (x: ∀b∈S',b∈S) (y: ∀a,(φ i).ad=some a->a.block∉S'):
  CR T w S' (.list t) ((xs.drop d).take m) v:=by
 obtain ⟨g,c,p,q,z,J,K,A,B⟩:=ko0 h s;obtain ⟨L,ad,k,rfl,M,f⟩:=u;rw [j,q] at k;simp only [X0,Addr.mk.injEq,and_true] at k;subst k;have l:=uf0 (S':=S') z.lt A B (cap:=n) (by omega) x (y _ q);rcases U7 d n with C|D
 ·have E:=CR.sub l (i:=d) (m:=m) (by omega);have G:zl3 (some (⟨g,o,none⟩:Addr)) n d (szT T t)=some ad:=by
   rcases f with f|f
   ·omega
   ·subst f;unfold zl3;rw [if_neg (by omega)];simp only [Z8,Addr.add];split
    ·rename_i I;simp [I]
    ·rfl
  rwa [G] at E
 ·have:m=0:=by omega
  subst this;rw [List.take_zero];exact CR.empty (by simp)
def uo0 {U:Nat->Type}:Ent U->Bool| .blk _ _=>true| .row _ _ _=>true|_=>false
def yu5 (T:Tab) (w:World) (S:List Nat) (φ:Nat->RA) (H:List (Ent T.U)) (ids:List Nat):Prop:= ∀i∈ids,∀(a:Ent T.U),H[i]?=some a->uo0 a=true->EntR T w S φ i a
def CR.unNl1 {a x v} (h:CR T w S (.nl a) x v):CR T w S (.list a) x v:=by
 cases h with
 |nl _ _ ad cap b c=>exact b
def CR.unNl {a:Ty} {xs:List (List (den T.U a))} {v:Value} (h:CR T w S (.list (.nl a)) xs v):CR T w S (.list (.list a)) xs v:=by
 cases h with
 |list _ _ ad cap u f g m d i=>
  have l: ∀(k j:Nat) (c:Cell T.U),(xs[k]?.map fun x=>(zb5 T (.list a) x)[j]?)=some (some c)-> ∃x,xs[k]?=some x/\j=0/\c=⟨.list a,x⟩:=by
   intro k j c b;cases e:xs[k]? with
   |none=>rw [e] at b;cases b
   |some x=>
    rw [e] at b;have b:(zb5 T (.list a) x)[j]?=some c:=X5 b;cases j with
    |zero=>exact ⟨x,rfl,rfl,(X5 b).symm⟩
    |succ j=>cases b
  refine .list (.list a) xs ad cap u f g m (fun k j c b=>?_) (fun k j c b=>?_)
  ·obtain ⟨x,e,rfl,rfl⟩:=l k j c b;exact d k 0 ⟨.nl a,x⟩ ((congrArg (Option.map fun x:den T.U (.nl a)=>(zb5 T (.nl a) x)[0]?) e).trans rfl)
  ·obtain ⟨x,e,rfl,rfl⟩:=l k j c b;exact CR.unNl1 (i k 0 ⟨.nl a,x⟩ ((congrArg (Option.map fun x:den T.U (.nl a)=>(zb5 T (.nl a) x)[0]?) e).trans rfl))
def gj4 {R:Type} {r:R} {t:Ty} {a:AV T.U} {K:den T.U t->Option R} (h:rdN T H t a K=some r) (m:yu5 T w S φ H a.ids) {v:Value} (c:VR T w S φ a v) (φ':Nat->RA) (k: ∀b∈S',b∈S) (s: ∀i∈a.ids,∀ad,(φ i).ad=some ad->ad.block∉S'): ∃x,K x=some r/\VR T w S' φ' (zo3 T t x) v:=by
 unfold rdN at h;split at h
 ·rename_i e f xs K;split at h
  ·rename_i d;subst d;refine ⟨xs,h,?_⟩;have c:CR T w S (.nl f) xs v:=c;cases c with
   |nl _ _ ad cap g j=>exact CR.sub0 g k
  ·cases h
 ·rename_i e f xs K;split at h
  ·rename_i d;subst d;split at h
   ·rename_i l;refine ⟨xs,h,?_⟩;have c:CR T w S (.list f) xs v:=c;cases c with
    |list _ _ ad cap u g j y z A=>exact .nl _ xs ad cap (CR.sub0 (.list _ xs ad cap u g j y z A) k) fun q=>by subst q;exact absurd l (Nat.lt_irrefl 0)
   ·cases h
  ·cases h
 ·rename_i e i K;split at h
  ·rename_i f C xs n;split at h
   ·rename_i d;subst d;split at h
    ·rename_i l;refine ⟨xs,h,?_⟩;rw [VR] at c;subst c;have o:=jp8 (m i (by simp [AV.ids]) _ n rfl) k (s i (by simp [AV.ids]));obtain ⟨B,p,g,j,_⟩:=m i (by simp [AV.ids]) _ n rfl;rw [j] at o⊢;exact .nl _ xs _ _ o fun q=>by subst q;exact absurd l (Nat.lt_irrefl 0)
    ·cases h
   ·cases h
  ·cases h
 ·cases h
def qr5 {R:Type} {r:R} {t:Ty} {a:AV T.U} {K:den T.U t->Option R} (h:jp2 T H t a K=some r) (q:yu5 T w S φ H a.ids) {v:Value} (k:VR T w S φ a v) (φ':Nat->RA) (l: ∀b∈S',b∈S) (s: ∀i∈a.ids,∀ad,(φ i).ad=some ad->ad.block∉S'): ∃x,K x=some r/\VR T w S' φ' (zo3 T t x) v:=by
 unfold jp2 at h;split at h
 ·rename_i e i K;split at h
  ·rename_i L M xs p;split at h
   ·rename_i u;subst u;refine ⟨xs,h,?_⟩;rw [VR] at k;subst k;exact jp8 (q i (by simp [AV.ids]) _ p rfl) l (s i (by simp [AV.ids]))
   ·cases h
  ·cases h
 ·rename_i e i sz o n K;split at h
  ·rename_i L M xs p;split at h
   ·rename_i C;have:=X1 C;subst this;split at h
    ·rename_i u;subst u;split at h
     ·rename_i D;refine ⟨_,h,?_⟩;obtain ⟨ad,rfl,N,c,d,_⟩:=k;have f:=q i (by simp [AV.ids]) _ p rfl;have O:=jp8 f l (s i (by simp [AV.ids]));have Q:(List.take n (List.drop o xs)).length=n:=by rw [Y6,Q7];omega
      rcases c with c|⟨g,E,G⟩
      ·subst c;rw [List.take_zero];exact CR.empty fun c=>(d c).2
      ·obtain ⟨B,V,y,z,_⟩:=f;rw [z] at O;have j:=CR.sub O D;by_cases X:n=0
       ·subst X;rw [List.take_zero];exact CR.empty fun c=>(d c).2
       ·have A:zl3 (φ i).ad (φ i).cap o (szT T M)=ad:=by
         have:=y.le.1;unfold zl3;rw [if_neg (by omega),E,G];simp only [Z8,Addr.add];split
         ·rename_i Y;simp [Y]
         ·simp
        rw [A] at j;exact j
     ·cases h
    ·cases h
   ·cases h
  ·cases h
 ·rename_i e i o sz n lo m K;split at h
  ·rename_i L cs p;split at h
   ·rename_i b r W;split at h
    ·rename_i t n' xs I;have:=zt8 I;subst this;split at h
     ·rename_i c;rw [X3] at c;obtain ⟨y,z⟩:=c;have y:=X1 y;have z:=X1 z;subst y;subst z;split at h
      ·rename_i u;subst u;exact ⟨_,h,ko1 (q i (by simp [AV.ids]) _ p rfl) W k rfl l (s i (by simp [AV.ids]))⟩
      ·unfold nlL at h;split at h
       ·rename_i a b ys K';split at h
        ·rename_i J;subst J;exact ⟨_,h,CR.unNl (ko1 (q i (by simp [AV.ids]) _ p rfl) W k rfl l (s i (by simp [AV.ids])))⟩
        ·cases h
       ·cases h
     ·cases h
    ·cases h
   ·cases h
  ·cases h
 ·split at h
  ·rename_i x Z;exact ⟨x,h,qt2 (ye1 Z k φ') φ' l⟩
  ·exact gj4 h q k φ' l s
def qr3 {R:Type} {r:R}: ∀ {ts:List Ty} {aS:List (AV T.U)} {K:List (Cell T.U)->Option R},qr0 T H ts aS K=some r->yu5 T w S φ H (u0 aS)-> ∀ {vs:List Value},VRL T w S φ aS vs-> ∀(φ':Nat->RA),(∀b∈S',b∈S)->(∀i∈u0 aS,∀ad,(φ i).ad=some ad->ad.block∉S')-> ∃l,K l=some r/\VRL T w S' φ' (l.map .cell) vs
 | [],[],K,h,_,[],_,_,_,_=>⟨[],h,trivial⟩
 | [],[],_,_,_,_::_,hv,_,_,_=>hv.elim
 | [],_::_,_,h,_,_,_,_,_,_=>by cases h
 |_::_,[],_,h,_,_,_,_,_,_=>by cases h
 |t::ts,a::aS,_,_,_,[],hv,_,_,_=>hv.elim
 |t::ts,a::aS,K,h,hs,v::vs,hv,φ',hS,hb=>by
  have h:(match t.one with|true=>jp2 T H t a (fun x=>qr0 T H ts aS fun l=>K (⟨t,x⟩::l))|false=>none)=some r:=h;split at h<;>try (cases h;done)
  rename_i ht;obtain ⟨x,h1,h2⟩:=qr5 h (fun i hi=>hs i (by rw [u0];exact X4.2 (.inl hi))) hv.1 φ' hS fun i hi=>hb i (by rw [u0];exact X4.2 (.inl hi));obtain ⟨l,h3,h4⟩:=qr3 h1 (fun i hi=>hs i (by rw [u0];exact X4.2 (.inr hi))) hv.2 φ' hS fun i hi=>hb i (by rw [u0];exact X4.2 (.inr hi));refine ⟨_,h3,?_,h4⟩;cases t<;>first|exact h2|cases ht
def jm6 {R:Type} {r:R} {t:Ty} {a:AV T.U} {K:den T.U t->Option R} (h:rdF T H t a K=some r) (e:yu5 T w S φ H a.ids) {v:Value} (f:VR T w S φ a v) (φ':Nat->RA) (g: ∀b∈S',b∈S) (k: ∀i∈a.ids,∀ad,(φ i).ad=some ad->ad.block∉S'): ∃x,K x=some r/\VR T w S' φ' (zo3 T t x) v:=by
 unfold rdF at h;split at h
 ·rename_i i cs K;obtain ⟨vs,rfl,m⟩:=f;obtain ⟨l,c,n⟩:=qr3 h (by intro j d;exact e j (by rw [AV.ids];exact d)) m φ' g fun j d=>k j (by rw [AV.ids];exact d);split at c
  ·rename_i x o;refine ⟨x,c,vs,rfl,?_⟩;rw [T.packed _ _ _ o];exact n
  ·cases c
 ·exact qr5 h e f φ' g k
def vk5 {R:Type} {r:R} {t:Ty} {a:AV T.U} {K:den T.U t->Option R} (h:rdF T H t a K=some r) (b:yu5 T w S φ H a.ids) {v:Value} (c:VR T w S φ a v) (φ':Nat->RA): ∃x,K x=some r/\VR T w [] φ' (zo3 T t x) v:=
 jm6 h b c φ' (by simp) (by simp)
def gj2 {R:Type} {r:R} {t:Ty} {a:AV T.U} {K:den T.U t->Option R} (h:rdN T H t a K=some r): ∃x,K x=some r/\ ∀ {e:Type} (b:den T.U t->Option e),rdN T H t a b=b x:=by
 unfold rdN at h;split at h
 ·split at h
  ·rename_i c;subst c;exact ⟨_,h,fun b=>by simp only [rdN,dite_true]⟩
  ·cases h
 ·split at h
  ·rename_i c;subst c;split at h
   ·rename_i d;exact ⟨_,h,fun b=>by simp only [rdN,dite_true,if_pos d]⟩
   ·cases h
  ·cases h
 ·split at h
  ·rename_i f;split at h
   ·rename_i c;subst c;split at h
    ·rename_i d;exact ⟨_,h,fun b=>by simp only [rdN,f,dite_true,if_pos d]⟩
    ·cases h
   ·cases h
  ·cases h
 ·cases h
def jm5 {R:Type} {r:R} {t:Ty} {a:AV T.U} {K:den T.U t->Option R} (h:jp2 T H t a K=some r): ∃x,K x=some r/\ ∀ {m:Type} (b:den T.U t->Option m),jp2 T H t a b=b x:=by
 unfold jp2 at h⊢;split at h
 ·split at h
  ·rename_i l;split at h
   ·rename_i c;subst c;exact ⟨_,h,fun b=>by simp only [dite_true]⟩
   ·cases h
  ·cases h
 ·split at h
  ·rename_i l;split at h
   ·rename_i n;split at h
    ·rename_i c;subst c;split at h
     ·rename_i g;exact ⟨_,h,fun b=>by simp only [dite_true,if_pos g]⟩
     ·cases h
    ·cases h
   ·cases h
  ·cases h
 ·split at h
  ·rename_i l;split at h
   ·rename_i q;split at h
    ·rename_i s;split at h
     ·rename_i u;split at h
      ·rename_i c;subst c;exact ⟨_,h,fun b=>by simp only [dite_true]⟩
      ·rename_i i;unfold nlL at h;split at h
       ·split at h
        ·rename_i j;subst j;exact ⟨_,h,fun b=>by simp only [dif_neg i,nlL,dite_true]⟩
        ·cases h
       ·cases h
     ·cases h
    ·cases h
   ·cases h
  ·cases h
 ·rename_i t a K d e f;split at h
  ·rename_i x k;refine ⟨x,h,fun b=>?_⟩;split
   ·exact (d _ _ K rfl rfl HEq.rfl).elim
   ·exact (e _ _ _ _ _ K rfl rfl HEq.rfl).elim
   ·exact (f _ _ _ _ _ _ _ K rfl rfl HEq.rfl).elim
   ·rw [k]
  ·rename_i k;obtain ⟨x,o,p⟩:=gj2 h;refine ⟨x,o,fun b=>?_⟩;split
   ·exact (d _ _ K rfl rfl HEq.rfl).elim
   ·exact (e _ _ _ _ _ K rfl rfl HEq.rfl).elim
   ·exact (f _ _ _ _ _ _ _ K rfl rfl HEq.rfl).elim
   ·rw [k];exact p b
def qr1 {R:Type} {r:R}: ∀ {ts:List Ty} {aS:List (AV T.U)} {K:List (Cell T.U)->Option R},qr0 T H ts aS K=some r-> ∃l,K l=some r/\ ∀ {R':Type} (K':List (Cell T.U)->Option R'),qr0 T H ts aS K'=K' l
 | [],[],K,h=>⟨[],h,fun K'=>rfl⟩
 | [],_::_,_,h=>by cases h
 |_::_,[],_,h=>by cases h
 |t::ts,a::aS,K,h=>by
  have h:(match t.one with|true=>jp2 T H t a (fun x=>qr0 T H ts aS fun l=>K (⟨t,x⟩::l))|false=>none)=some r:=h;split at h<;>try (cases h;done)
  rename_i ht;obtain ⟨x,h1,h2⟩:=jm5 h;obtain ⟨l,h3,h4⟩:=qr1 h1;refine ⟨_,h3,fun K'=>?_⟩;show (match t.one with|true=>jp2 T H t a (fun x=>qr0 T H ts aS fun l=>K' (⟨t,x⟩::l))|false=>none)=_;rw [ht];simp only;rw [h2,h4]
def jh8 {R:Type} {r:R} {t:Ty} {a:AV T.U} {K:den T.U t->Option R} (h:rdF T H t a K=some r): ∃x,K x=some r/\ ∀ {e:Type} (b:den T.U t->Option e),rdF T H t a b=b x:=by
 unfold rdF at h⊢;split at h
 ·rename_i i cs K;obtain ⟨l,c,d⟩:=qr1 h;split at c
  ·rename_i x f;exact ⟨x,c,fun b=>by simp only [d,f]⟩
  ·cases c
 ·rename_i t a K g;obtain ⟨x,c,d⟩:=jm5 h;refine ⟨x,c,fun b=>?_⟩;split
  ·exact (g _ _ K rfl rfl HEq.rfl).elim
  ·exact d b
def zu5 (s:ByteArray):List Int:=s.data.toList.map fun b=>(b.toNat:Int)
def jy1 (s):(zu5 s).length=s.size:=(W9 _).trans J1
def yu7 (l:List Int):ByteArray:=l.foldl (fun r n=>r.push (UInt8.ofNat n.toNat)) ByteArray.empty
end
end Go.X
