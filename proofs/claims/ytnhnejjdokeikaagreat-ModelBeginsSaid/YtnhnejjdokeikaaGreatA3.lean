import Derived.Test.YtnhnejjdokeikaaGreatA2
set_option linter.defProp false
namespace Go.X
open Go.RowKit Go.V
mutual
def jo1 {U}: ∀a:AV U,a.ren id=a
 | .cell _=>by rw [AV.ren]
 | .ptr _ _=>by rw [AV.ren];rfl
 | .eptr _ _ _ _=>by rw [AV.ren];rfl
 | .lptr _ _ _ _=>by rw [AV.ren]
 | .own _=>by rw [AV.ren];rfl
 | .sl _ _ _ _=>by rw [AV.ren];rfl
 | .agg cs=>by rw [AV.ren,zo2 cs]
 | .tup cs=>by rw [AV.ren,zo2 cs]
 | .fn _ a b=>by rw [AV.ren,zo2 a,zo2 b]
 | .ifc _ a=>by rw [AV.ren,jo1 a]
 | .raw _=>by rw [AV.ren]
 | .arr _ _ _=>by rw [AV.ren]
 | .aptr _ _ _ _ _ _=>by rw [AV.ren];rfl
 | .asl _ _ _ _ _ _=>by rw [AV.ren];rfl
 | .mp _=>by rw [AV.ren];rfl
 | .hmp _=>by rw [AV.ren];rfl
def zo2 {U}: ∀l:List (AV U),zi5 id l=l
 | []=>rfl
 |a::r=>by rw [zi5,jo1 a,zo2 r]
end
section
variable {T:Tab} {P:Program} {w w':World} {S S':List Nat} {φ φ':Nat->RA}
def VR.phiS {a v} (h:VR T w S φ a v) (b: ∀i∈a.ids,RSame (φ' i) (φ i)):VR T w S φ' a v:=by
 have:=VR.renS T (ρ:=id) (φ':=φ') b h;rwa [jo1] at this
def VR.phi {a v} (h:VR T w S φ a v) (b: ∀i∈a.ids,φ' i=φ i):VR T w S φ' a v:=by
 have:=VR.ren T (ρ:=id) (φ':=φ') b h;rwa [jo1] at this
def VRL.phi {aS vs} (h:VRL T w S φ aS vs) (a: ∀i∈v8 aS,φ' i=φ i):VRL T w S φ' aS vs:=by
 have:=VRL.ren T (ρ:=id) (φ':=φ') a h;rwa [zo2] at this
def BR.phi {cs vs} (h:BR T w S φ cs vs) (a: ∀i∈v8 cs,φ' i=φ i):BR T w S φ' cs vs:=⟨h.1.phi (by rw [jj1];exact a),h.2⟩
def qa0 {U}: ∀l:List (Int×AV U),jz9 id l=l
 | []=>rfl
 |(x,a)::r=>by rw [jz9,jo1 a,qa0 r]
def okA (H:List (Ent T.U)) (a:AV T.U):Prop:=(∀i∈a.ids,i<H.length)/\match a with| .eptr i sz k _=> ∀e t xs,H[i]?=some (.row e t xs)->k<xs.length/\szT T t=sz|_=>True
def Ent.cellIds {U:Nat->Type}:Ent U->List Nat| .blk _ cs=>v8 cs| .map _ es=>idsM es| .drow _ _ _ _ a=>gj3 a| .pmap _ _ _ _ a=>ki8 a|_=> []
def vi9 {U} (b:Option (Nat×List (AV U))):vy1 id b=b:=by
 cases b with
 |none=>rfl
 |some p=>obtain ⟨a,cs⟩:=p;rw [vy1,zo2]
def vi8 (a):vy0 id a=a:=by cases a<;>rfl
def EntR.phiE {i e} (h:EntR T w S φ i e) (a:φ' i=φ i) (q: ∀k∈e.cellIds,RSame (φ' k) (φ k)):EntR T w S φ' i e:=by
 cases e with
 |blk e cs=>
  obtain ⟨g,c,b,f,n,o⟩:=h;have:=o.renS T (ρ:=id) (φ':=φ') q;rw [zo2] at this;exact ⟨g,c,by rw [a];exact b,f,n,this⟩
 |row e t xs=>obtain ⟨B,j,b,f,n,o,p⟩:=h;exact ⟨B,j,by rw [a];exact b,by rw [a];exact f,n,o,by rw [a];exact p⟩
 |map k es=>
  obtain ⟨g,l,c,b,f,n,o,p⟩:=h;have:=o.renS T (ρ:=id) (φ':=φ') q;rw [qa0] at this;exact ⟨g,l,c,by rw [a];exact b,f,n,this,p⟩
 |tmap k t m=>obtain ⟨g,l,c,b,f⟩:=h;exact ⟨g,l,c,by rw [a];exact b,f⟩
 |drow e d fe xs r=>
  obtain ⟨B,j,b,f,n,o,p⟩:=h;have:=p.renS T (ρ:=id) (φ':=φ') q;rw [vi9] at this;exact ⟨B,j,by rw [a];exact b,by rw [a];exact f,n,by rw [a];exact o,by rw [a];exact this⟩
 |pmap k u d m r=>
  obtain ⟨g,l,c,s,b,f,n,o,p⟩:=h;have:=o.renS T (ρ:=id) (φ':=φ') q;rw [vi8] at this;exact ⟨g,l,c,s,by rw [a];exact b,f,n,by rw [a];exact this,p⟩
 |hid=>unfold EntR;rw [a];exact h
 |gone=>trivial
structure Ow where
 chg:List Nat
 ex:List Nat
 pin:List RA
structure Sim (T:Tab) (w0:World) (S0:Ow) (st:St T) (F':PF) (w:World) (S:List Nat) (φ:Nat->RA):Prop where
 fr:FR T w S φ st.F F'
 ids: ∀i a,st.F.get T i=some a->okA st.H a
 chg:Chg S0.chg w0 w
 own: ∀b∈S,(b∈S0.ex\/w0.heap.size<=b)/\b<w.heap.size
 ex: ∀b∈S0.ex,b∉S0.chg->b<w0.heap.size->b∈S
 lives: ∀(i:Nat) (e:Ent T.U),st.H[i]?=some e->e.live=true-> ∀a,At (φ i) a->a.block∈S/\(a.block∈S0.chg\/w0.heap.size<=a.block)
 pins: ∀(k:Nat) (r:RA),S0.pin[k]?=some r->RSame (φ k) r/\k<st.H.length
 ents: ∀(i:Nat) (e:Ent T.U),st.H[i]?=some e->EntR T w S φ i e
 eids: ∀(i:Nat) (e:Ent T.U),st.H[i]?=some e-> ∀j∈e.cellIds,j<st.H.length
 apart: ∀(i j:Nat) (e e':Ent T.U),st.H[i]?=some e->st.H[j]?=some e'->e.live=true->e'.live=true->i≠j-> ∀a b,At (φ i) a->At (φ j) b->a.block≠b.block
def zd2 (T:Tab) (w0:World) (S0:Ow) (st:St T) (F':PF) (w:World):Prop:= ∃S φ,Sim T w0 S0 st F' w S φ
variable {w0:World} {S0:Ow} {F:AF T} {H:List (Ent T.U)} {F':PF}
def qj8 {dst a i b} (h:(zc2 T F dst a).get T i=some b):(dst=some i/\b=a)\/(dst≠some i/\F.get T i=some b):=by
 cases dst with
 |none=>exact .inr ⟨by simp,h⟩
 |some d=>
  simp only [zc2,AF.get] at h;split at h
  ·rename_i c;have:=X1 c;subst this;simp only [X0] at h;exact .inl ⟨rfl,h.symm⟩
  ·rename_i c;exact .inr ⟨by simp only [ne_eq,X0];intro e;subst e;simp at c,h⟩
def qt2 {dst v i} (h:dst≠some i):(upd F' dst v).get i=F'.get i:=by
 cases dst with
 |none=>rfl
 |some d=>
  simp only [upd,PF.get];split
  ·rename_i a;have:=X1 a;subst this;exact absurd rfl h
  ·rfl
def qt1 {i v}:(upd F' (some i) v).get i=some v:=by
 simp [upd,PF.get,J2]
def Sim.slot (h:Sim T w0 S0 ⟨F,H⟩ F' w S φ) {dst a v} (f:VR T w S φ a v) (c:okA H a):Sim T w0 S0 ⟨zc2 T F dst a,H⟩ (upd F' dst v) w S φ:=by
 refine ⟨?_,?_,h.chg,h.own,h.ex,h.lives,h.pins,h.ents,h.eids,h.apart⟩
 ·intro i b d;rcases qj8 d with ⟨rfl,rfl⟩|⟨g,e⟩
  ·exact ⟨v,qt1,f⟩
  ·obtain ⟨u,j,k⟩:=h.fr i b e;exact ⟨u,by rw [qt2 g];exact j,k⟩
 ·intro i b d;rcases qj8 d with ⟨_,rfl⟩|⟨_,e⟩
  ·exact c
  ·exact h.ids i b e
def Sim.pure (h:Sim T w0 S0 ⟨F,H⟩ F' w S φ) (g:Chg [] w w'):Sim T w0 S0 ⟨F,H⟩ F' w' S φ:=by
 refine ⟨?_,h.ids,h.chg.pure g,fun b d=>⟨(h.own b d).1,V5 (h.own b d).2 g.size⟩,h.ex,h.lives,h.pins,?_,h.eids,h.apart⟩
 ·intro i a f;obtain ⟨v,k,l⟩:=h.fr i a f;exact ⟨v,k,l.chg T g (by simp) (fun b d=>.inl d)⟩
 ·intro i e j;have m:e.live=true-> ∀a,At (φ i) a->a.block∈S:=fun c a f=>(h.lives i e j c a f).1;exact (h.ents i e j).chg T g (by simp) (fun b d=>.inl d) fun c a f=>⟨by simp,m c a f⟩
def setR (φ:Nat->RA) (n:Nat) (r:RA):Nat->RA:=fun i=>if i=n then r else φ i
def zf0 {n i r} (h:i≠n):setR φ n r i=φ i:=by unfold setR;rw [if_neg h]
def w6 {n r}:setR φ n r n=r:=by unfold setR;rw [if_pos rfl]
def zi7 (h:Sim T w0 S0 ⟨F,H⟩ F' w S φ) {i e} (b:H[i]?=some e) (c:e.live=true) {a} (d:At (φ i) a):a.block∈S:=(h.lives i e b c a d).1
def wc6 (h:Sim T w0 S0 ⟨F,H⟩ F' w S φ) {i e} (b:H[i]?=some e) (c:e.live=true) {a} (d:(φ i).ad=some a):a.block∈S:=(h.lives i e b c a (.inl d)).1
def RA.all (r:RA):List Nat:=zv1 r.ad++r.xs
def zy0 {r b}:b∈r.all↔ ∃a,At r a/\a.block=b:=by
 unfold RA.all;rw [X4];constructor
 ·rintro (h|h)
  ·unfold zv1 at h;split at h
   ·rename_i a c;simp at h;exact ⟨a,.inl c,h.symm⟩
   ·cases h
  ·exact ⟨⟨b,0,none⟩,.inr h,rfl⟩
 ·rintro ⟨a,h|h,rfl⟩
  ·left;rw [h];simp [zv1]
  ·exact .inr h
def yb7 {ad n c a} (h:At ⟨ad,n,c,[]⟩ a):ad=some a:=by
 rcases h with h|h
 ·exact h
 ·cases h
def yj6 {g n c a} (h:At ⟨some ⟨g,0,none⟩,n,c,[]⟩ a):a.block=g:=by
 rcases h with h|h
 ·simp only [X0] at h;subst h;rfl
 ·cases h
def Sim.addG (h:Sim T w0 S0 ⟨F,H⟩ F' w S φ) {Tc} (J:Chg Tc w w') (V: ∀b∈Tc,b∈S) (A: ∀b∈Tc,b∈S0.chg\/w0.heap.size<=b) (n: ∀(j:Nat) (e:Ent T.U),H[j]?=some e->e.live=true-> ∀a,At (φ j) a->a.block∉Tc) (o: ∀b∈S,b∈S') (B: ∀b∈S',b∈S\/(w.heap.size<=b/\b<w'.heap.size)) {r e} (W: ∀a,At r a->w.heap.size<=a.block\/a.block∈Tc) (L: ∀a,At r a->a.block∈S')
  (Y:EntR T w' S' (setR φ H.length r) H.length e) (C: ∀j∈e.cellIds,j<H.length+1):
  Sim T w0 S0 ⟨F,H++ [e]⟩ F' w' S' (setR φ H.length r):=by
 have X: ∀b∈S',b∈S\/w.heap.size<=b:=fun b l=>(B b l).imp id And.left;have m: ∀i f,(H++ [e])[i]?=some f->(i<H.length/\H[i]?=some f)\/(i=H.length/\f=e):=by
  intro i f d;rcases K9 i H.length with u|u|u
  ·rw [X8 u] at d;exact .inl ⟨u,d⟩
  ·subst u;simp at d;exact .inr ⟨rfl,d.symm⟩
  ·rw [Y5 (by simp;omega)] at d;cases d
 have x: ∀(j:Nat) (f:Ent T.U),H[j]?=some f->f.live=true-> ∀a,At (φ j) a-> ∀b,At r b->a.block≠b.block:=by
  intro j f d p a g b l e;rcases W b l with y|y
  ·have:=(h.own _ (zi7 h d p g)).2;omega
  ·exact n j f d p a g (e▸y)
 refine ⟨?_,?_,?_,?_,fun b l Z q2=>o _ (h.ex b l Z q2),?_,fun k r K=>?_,?_,?_,?_⟩
 ·intro i a g;obtain ⟨v,z,D⟩:=h.fr i a g;refine ⟨v,z,(D.chg T J V X).phi fun j s=>zf0 ?_⟩;have:=(h.ids i a g).1 j s;simp only at this;omega
 ·intro i a g;obtain ⟨z,D⟩:=h.ids i a g;refine ⟨fun j s=>by have:=z j s;simp at this⊢;omega,?_⟩;cases a with
  |eptr j sz k c=>
   intro e' t xs M;rcases m _ _ M with ⟨_,M⟩|⟨s,_⟩
   ·exact D e' t xs M
   ·have:=z j (by simp [AV.ids]);simp at this;omega
  |_=>trivial
 ·exact h.chg.step J A
 ·intro b l;rcases B b l with l|⟨y,N⟩
  ·exact ⟨(h.own b l).1,V5 (h.own b l).2 J.size⟩
  ·exact ⟨.inr (W9 h.chg.size y),N⟩
 ·intro i f d p a g;rcases m i f d with ⟨u,d⟩|⟨rfl,rfl⟩
  ·rw [zf0 (by omega)] at g;have q:=h.lives i f d p a g;exact ⟨o _ q.1,q.2⟩
  ·rw [w6] at g;refine ⟨L a g,?_⟩;rcases W a g with y|y
   ·exact .inr (W9 h.chg.size y)
   ·exact A _ y
 ·obtain ⟨z,D⟩:=h.pins k r K;simp only at D;exact ⟨by rw [zf0 (by omega)];exact z,by simp only [X9];omega⟩
 ·intro i f d;rcases m i f d with ⟨u,d⟩|⟨rfl,rfl⟩
  ·have z:=(h.ents i f d).chg T J (S':=S') V X fun p a g=>⟨n i f d p a g,o _ (zi7 h d p g)⟩;have O:i≠H.length:=by omega
   refine z.phiE (zf0 O) fun j s=>.of (zf0 ?_);have:=h.eids i _ d j s;simp only at this;omega
  ·exact Y
 ·intro i f d j s;simp only [X9,U6,List.length_nil];rcases m i f d with ⟨u,d⟩|⟨rfl,rfl⟩
  ·have:=h.eids i f d j s;simp only at this;omega
  ·exact C j s
 ·intro i j f Q d R p E G a b g l;rcases m i f d with ⟨u,K⟩|⟨rfl,rfl⟩<;>rcases m j Q R with ⟨s,I⟩|⟨rfl,rfl⟩
  ·rw [zf0 (by omega)] at g l;exact h.apart i j f Q K I p E G a b g l
  ·rw [zf0 (by omega)] at g;rw [w6] at l;exact x i f K p a g b l
  ·rw [w6] at g;rw [zf0 (by omega)] at l;exact (x j Q I E b l a g).symm
  ·exact absurd rfl G
def Sim.add (h:Sim T w0 S0 ⟨F,H⟩ F' w S φ) {g} (m:Chg [] w w') (k:w.heap.size<=g) (f:g<w'.heap.size) {r e} (l: ∀a,At r a->a.block=g) (n:EntR T w' (g::S) (setR φ H.length r) H.length e) (c: ∀j∈e.cellIds,j<H.length+1):
  Sim T w0 S0 ⟨F,H++ [e]⟩ F' w' (g::S) (setR φ H.length r):=h.addG m (by simp) (by simp) (fun _ _ _ _ _ _=>by simp) (fun b d=>Z4 _ d) (fun b d=>by
  rcases Z0.1 d with rfl|d
  ·exact .inr ⟨k,f⟩
  ·exact .inl d) (fun a i=>.inl (by rw [l a i];exact k)) (fun a i=>by rw [l a i];exact U2 ..) n c
def Sim.upd (h:Sim T w0 S0 ⟨F,H⟩ F' w S φ) {i e0 e} (q:H[i]?=some e0) (m:e0.live=true) {Tc} (J:Chg Tc w w') (M: ∀b∈Tc,∃a,At (φ i) a/\a.block=b)
  (Y:EntR T w' S φ i e) (B: ∀j∈e.cellIds,j<H.length) (C: ∀K t xs,e=.row K t xs-> ∃N ys,e0=.row N t ys/\ys.length<=xs.length):Sim T w0 S0 ⟨F,H.set i e⟩ F' w' S φ:=by
 have D: ∀b∈Tc,b∈S:=by
  intro b l;obtain ⟨a,g,rfl⟩:=M b l;exact zi7 h q m g
 have O:i<H.length:=(X2.1 q).1;have n: ∀j f,(H.set i e)[j]?=some f->(j=i/\f=e)\/(j≠i/\H[j]?=some f):=by
  intro j f d;by_cases o:j=i
  ·subst o;rw [Q0 O] at d;simp only [X0] at d;exact .inl ⟨rfl,d.symm⟩
  ·rw [Z5 (Ne.symm o)] at d;exact .inr ⟨o,d⟩
 refine ⟨?_,?_,?_,?_,h.ex,?_,fun k r L=>?_,?_,?_,?_⟩
 ·intro j a g;obtain ⟨v,E,z⟩:=h.fr j a g;exact ⟨v,E,z.chg T J D (fun b l=>.inl l)⟩
 ·intro j a g;obtain ⟨E,z⟩:=h.ids j a g;refine ⟨fun x A=>by simpa using E x A,?_⟩;cases a with
  |eptr y sz k c=>
   intro K t xs A;rcases n _ _ A with ⟨Z,u⟩|⟨_,u⟩
   ·obtain ⟨N,ys,Q,s⟩:=C K t xs u.symm;subst Q;subst Z;obtain ⟨g1,g2⟩:=z N t ys q;exact ⟨by omega,g2⟩
   ·exact z K t xs u
  |_=>trivial
 ·refine h.chg.step J fun b l=>?_;obtain ⟨a,g,rfl⟩:=M b l;exact (h.lives i e0 q m a g).2
 ·exact fun b l=>⟨(h.own b l).1,V5 (h.own b l).2 J.size⟩
 ·intro j f d s a g;rcases n j f d with ⟨rfl,rfl⟩|⟨_,d⟩
  ·exact h.lives j e0 q m a g
  ·exact h.lives j f d s a g
 ·obtain ⟨E,z⟩:=h.pins k r L;exact ⟨E,by simpa using z⟩
 ·intro j f d;rcases n j f d with ⟨rfl,rfl⟩|⟨o,d⟩
  ·exact Y
  ·refine (h.ents j f d).chg T J D (fun b l=>.inl l) fun s a g=>⟨fun l=>?_,zi7 h d s g⟩;obtain ⟨a',R,V⟩:=M _ l;exact h.apart j i f e0 d q s m o a a' g R V.symm
 ·intro j f d x A;simp only [Q1];rcases n j f d with ⟨rfl,rfl⟩|⟨_,d⟩
  ·exact B x A
  ·exact h.eids j f d x A
 ·intro j k f W d X s G p a b g l;rcases n j f d with ⟨rfl,rfl⟩|⟨hj,L⟩<;>rcases n k W X with ⟨rfl,rfl⟩|⟨hj',I⟩
  ·exact absurd rfl p
  ·exact h.apart j k e0 W q I m G p a b g l
  ·exact h.apart j k f e0 L q s m p a b g l
  ·exact h.apart j k f W L I s G p a b g l
def Sim.drop (h:Sim T w0 S0 ⟨F,H⟩ F' w S φ) (i):Sim T w0 S0 ⟨F,H.set i .gone⟩ F' w S φ:=by
 have e: ∀(j:Nat) (f:Ent T.U),(H.set i .gone)[j]?=some f->f=.gone\/H[j]?=some f:=by
  intro j f d;by_cases m:j=i
  ·subst m;by_cases l:j<H.length
   ·rw [Q0 l] at d;simp only [X0] at d;exact .inl d.symm
   ·rw [Y5 (by simp;omega)] at d;cases d
  ·rw [Z5 (Ne.symm m)] at d;exact .inr d
 refine ⟨h.fr,?_,h.chg,h.own,h.ex,?_,fun k r p=>?_,?_,?_,?_⟩
 ·intro j a n;obtain ⟨q,s⟩:=h.ids j a n;refine ⟨fun x g=>by simpa using q x g,?_⟩;cases a with
  |eptr y sz k c=>
   intro B t xs g;rcases e _ _ g with g|g
   ·cases g
   ·exact s B t xs g
  |_=>trivial
 ·intro j f d l a n;rcases e j f d with rfl|d
  ·cases l
  ·exact h.lives j f d l a n
 ·obtain ⟨q,s⟩:=h.pins k r p;exact ⟨q,by simpa using s⟩
 ·intro j f d;rcases e j f d with rfl|d
  ·trivial
  ·exact h.ents j f d
 ·intro j f d x g;simp only [Q1];rcases e j f d with rfl|d
  ·cases g
  ·exact h.eids j f d x g
 ·intro j k f A d u l o v a b n C;rcases e j f d with rfl|p
  ·cases l
  ·rcases e k A u with rfl|z
   ·cases o
   ·exact h.apart j k f A p z l o v a b n C
end
end Go.X
namespace Go.X
open Go.RowKit Go.V
section
variable {T:Tab} {P:Program} {w w':World} {S S':List Nat} {φ φ':Nat->RA} {w0:World} {S0:Ow} {F:AF T} {H:List (Ent T.U)} {F':PF}
variable {rd:List Nat} {ops:Array Oper} {Q:Exit->Act->World->Prop} {k n:Nat} {ds:List Deferred} {o:Oper}
def zx4 (P:Program) (ops:Array Oper) (Q:Exit->Act->World->Prop) (k n:Nat) (ds:List Deferred) (w0:World) (S0:Ow) (st:St T):Prop:= ∀F1 a,zd2 T w0 S0 st F1 a->WR P ops Q k n ds F1 a
def zm6 {a} (h:a.ids= []) (d: ∀i sz k c,a≠.eptr i sz k c):okA H a:=by
 refine ⟨fun i b=>(by rw [h] at b;cases b),?_⟩;cases a<;>first|trivial|exact absurd rfl (d _ _ _ _)
def jj8 (v):(yz0 T v).ids= []:=by cases v<;>rfl
def yi5: ∀l:List Value,v8 (l.map (yz0 T))= []
 | []=>rfl
 |v::r=>by rw [W8,v8,jj8,yi5 r];rfl
def jy7 (v):(ofV T v).ids= []:=by
 have h:=jj8 (T:=T) v;cases v<;>first|exact h|(show (AV.agg _).ids= [];rw [AV.ids];exact yi5 _)
def wd1 (v):okA H (ofV T v):=zm6 (jy7 v) (by intro i sz k c;cases v<;>simp [ofV,yz0])
def zd3 (h:Sim T w0 S0 ⟨F,H⟩ F' w S φ) {x:Operand} {a:AV T.U} (ha:aev T F x=some a):okA H a:=by
 cases x with
 |tmp t=>exact h.ids t a ha
 |const v=>simp only [aev,X0] at ha;subst ha;exact wd1 v
 |global g=>cases ha
 |func f=>simp only [aev,X0] at ha;subst ha;exact zm6 rfl (by intros;simp)
def qf7 {e} (b:dec ops k n F'=some o) (a:o.op=.alloc e):yq8 ops k n F'=some (o.dst,e):=by
 unfold yq8;rw [b];cases o;simp only at a;subst a;rfl
def vl9 {e x} (b:dec ops k n F'=some o) (a:o.op=.box e x):qa8 ops k n F'=some (o.dst,e,evD F' x):=by
 unfold qa8;rw [b];cases o;simp only at a;subst a;rfl
def yb9 {t x} (b:dec ops k n F'=some o) (a:o.op=.load t x):zx6 ops k n F'=some (o.dst,t,evD F' x):=by
 unfold zx6;rw [b];cases o;simp only at a;subst a;rfl
def ym3 {a} (h:zx5 T a=true):v8 (zi0 T a)=a.ids:=by
 rcases yj8 h with ⟨cs,rfl⟩|⟨_,b⟩
 ·rfl
 ·rw [b,v8,v8,K8]
def wa6 {e x} (u:dec ops k n F'=some o) (p:o.op=.box e x) {a} (l:aev T F x=some a) {cs} (q: ∀(w:World) (S:List Nat) (φ:Nat->RA) (v:Value),VR T w S φ a v->BR T w S φ cs v.cells.toList) (d: ∀i∈v8 cs,i∈a.ids) (h:Sim T w0 S0 ⟨F,H⟩ F' w S φ)
  (K:zx4 P ops Q (k+1) n ds w0 S0 (⟨zc2 T F o.dst (.ptr H.length 0),H++ [.blk e cs]⟩:St T)):WR P ops Q k n ds F' w:=by
 obtain ⟨v,y,z⟩:=w4 h.fr l;have f:=zd3 h l;refine WR.box (v:=v) (by rw [vl9 u p,w5 y]) _ rfl fun g w' c=>K _ _ ⟨g::S,setR φ H.length ⟨some ⟨g,0,none⟩,0,0,[]⟩,?_⟩;have A: ∀b∈g::S,b∈S\/w.heap.size<=b:=by
  intro b s;rcases Z0.1 s with rfl|s
  ·exact .inr c.fresh
  ·exact .inl s
 have B:=h.add (r:=⟨some ⟨g,0,none⟩,0,0,[]⟩) c.chg c.fresh c.blk.lt (fun a l=>yj6 l) (e:=.blk e cs)
  ⟨g,v.cells,by rw [w6],c.blk,by simp,((q _ _ _ _ z).chg T c.chg (by simp) A).phi fun i m=>zf0 (by have:=f.1 i (d i m);omega)⟩
  (by intro j t;rw [Ent.cellIds] at t;have:=f.1 j (d j t);omega)
 refine B.slot ⟨g,by rw [w6],rfl⟩ ⟨by intro i m;simp [AV.ids] at m;subst m;simp,trivial⟩
def qt8 {t cs j a} (h:ja8 T P t cs j=some a): ∃i d,P.info? t=some i/\P.underlying t=some d/\qj1 T cs j i.size (yf4 d)=some a:=by
 unfold ja8 at h;split at h
 ·rename_i i d b c;exact ⟨i,d,b,c,h⟩
 ·cases h
def vf3 {t cs c j a} (f:BR T w S φ cs c.toList) (h:ja7 T P t cs j=some a): ∃v,ldv P t c j=some v/\VR T w S φ a v:=by
 unfold ja7 at h;split at h
 ·rename_i i d g l;obtain ⟨v,b,m,e⟩:=ka5 f h;refine ⟨v,?_,m⟩;unfold ldv;rw [g,l];cases d<;>simp only [yf4] at b e⊢ <;>first|simpa using b|(rw [show Nat.ble (j+i.size) c.size=true from W3 (e trivial)];simpa using b)
 ·cases h
def js5 {t cs j a} (h:ja7 T P t cs j=some a): ∀i∈a.ids,i∈v8 cs:=by
 unfold ja7 at h;split at h
 ·exact ka4 h
 ·cases h
def zh7 {a:AV T.U}: ∀ {l},a∈l-> ∀i∈a.ids,i∈v8 l
 | [],h,_,_=>by cases h
 |b::r,h,i,c=>by
  rw [v8];rcases Z0.1 h with rfl|h
  ·exact X4.2 (.inl c)
  ·exact X4.2 (.inr (zh7 h i c))
def zq1 {i:Nat}: ∀ {l:List (AV T.U)},i∈v8 l-> ∃a∈l,i∈a.ids
 | [],h=>by cases h
 |b::r,h=>by
  rw [v8] at h;rcases X4.1 h with h|h
  ·exact ⟨b,by simp,h⟩
  ·obtain ⟨a,c,d⟩:=zq1 h;exact ⟨a,Z4 _ c,d⟩
def qj2 {cs j m d a} (h:qj1 T cs j m d=some a): ∀i∈a.ids,i∈v8 cs:=by
 unfold qj1 at h;split at h
 ·split at h
  ·simp only [X0] at h;subst h;intro i c;rw [AV.ids] at c;obtain ⟨b,e,c⟩:=zq1 c;exact zh7 (List.mem_of_mem_drop (J3 e)) i c
  ·cases h
 ·intro i c;exact zh7 (X6 h) i c
def noE (cs:List (AV T.U)):Prop:= ∀a∈cs,∀i sz k c,a≠.eptr i sz k c
def ga9 {cs} (b:noE cs) {j m d a} (h:qj1 T cs j m d=some a) (e: ∀i∈v8 cs,i<H.length):okA H a:=by
 refine ⟨fun i f=>e i (qj2 h i f),?_⟩;cases a with
 |eptr i sz k c=>
  unfold qj1 at h;split at h
  ·split at h
   ·cases h
   ·cases h
  ·exact absurd rfl (b _ (X6 h) i sz k c)
 |_=>trivial
def Same (φ:Nat->RA) (rd:List Nat) (w b:World):Prop:= ∀e∈rd,∀a,(φ e).ad=some a->a.block<w.heap.size->b.heap[a.block]?=w.heap[a.block]?
def QR (P:Program) (F':PF) (o:Oper) (S:List Nat) (φ:Nat->RA) (rd:List Nat) (w:World) (v:Value):Prop:= ∀a,Chg S w a->Same φ rd w a->(execOp (evD F') o).run P a=.ok (.value v) a
def Same.pure {rd b} (c:Chg [] w b):Same φ rd w b:=fun _ _ _ _ a=>c.block _ a (by simp)
def ve0 {a} (b:Chg [] w a) (S):Chg S w a:=(Chg.refl S w).step b (by simp)
def Rg.same {ad cs a} (h:Rg w ad cs) (c:a.heap[bk ad]?=w.heap[bk ad]?):Rg a ad cs:=fun j u b=>⟨(h j u b).1,(World.cell?_of_block c).trans (h j u b).2⟩
def yd6 {o'} (h:dec ops k n F'=some o) (a:dec ops k n F'=some o'):o'=o:=by rw [h] at a;cases a;rfl
def QR.load {t g j c e dst} (d:dec ops k n F'=some o) (f: ∀a,Chg S w a->Same φ rd w a->Blk a g c e) (h:zx6 ops k n F'=some (dst,t,.pointer (some ⟨g,j,none⟩))) (v) (i:ldv P t c j=some v):QR P F' o S φ rd w v:=by
 intro a l m;obtain ⟨q,b,_,p⟩:=zr3 h;rw [<-yd6 d b,p];simp [Instr.loadAt,Instr.sureAddr,zp8 (f a l m) i]
def QR.load1 {dst t a} (e:dec ops k n F'=some o) (f:zx6 ops k n F'=some (dst,t,.pointer (some a))) (g:zt2 P t=true) (v) (h: ∀b,Chg S w b->Same φ rd w b->b.cell? a=some v):QR P F' o S φ rd w v:=by
 intro b i d;obtain ⟨l,c,_,j⟩:=zr3 f;rw [<-yd6 e c,j];simp [Instr.loadAt,Instr.sureAddr,zs4 g (h b i d)]
def QR.loadA {dst t ad j cs sz} (x:dec ops k n F'=some o) (l: ∀a,Chg S w a->Same φ rd w a->Rg a ad cs) (y:zx6 ops k n F'=some (dst,t,.pointer (some ⟨bk ad,of ad+j,none⟩))) (m:zt2 P t=false) (z:(P.underlying t).isSome=true) (b:qw6 P t=some sz) (vs) (A:vs.length=sz) (B:(cs.drop j).take sz=vs):QR P F' o S φ rd w (.agg vs.toArray):=by
 intro a p c;have l:=l a p c;obtain ⟨E,e,_,C⟩:=zr3 y;rw [<-yd6 x e];obtain ⟨d,f⟩:=N8.1 z;have q:yf4 d=true:=by
  unfold zt2 at m;rw [f] at m;cases d<;>first|rfl|cases m
 have r:(sizeOf t).run P a=.ok sz a:=by
  unfold qw6 at b;cases hin:P.info? t with
  |none=>rw [hin] at b;cases b
  |some D=>rw [hin] at b;simp at b;simp [sizeOf,typeInfo,hin,b]
 have u:=run_loadCells_list (P:=P) (w:=a) ⟨bk ad,of ad+j,none⟩ vs (fun i v g=>by
  have h:(⟨bk ad,of ad+j,none⟩:Addr).add i=⟨bk ad,of ad+(j+i),none⟩:=by unfold Addr.add;split<;>simp_all [U7]
  rw [h];rw [<-B,Z3] at g;split at g
  ·rw [Q5] at g;exact (l (j+i) v g).2
  ·cases g)
 rw [A] at u;have s:(loadVar t ⟨bk ad,of ad+j,none⟩).run P a=.ok (.agg vs.toArray) a:=by
  unfold loadVar;rw [Sem.run_bind,zr8 f,q];simp only [Result.andThen_ok,if_true,Sem.run_bind,r,u,Sem.run_pure]
 rw [C];simp [Instr.loadAt,Instr.sureAddr,s]
def QR.indexS {dst t b e m cap f i} (g:dec ops k n F'=some o) (h:yf7 ops k n F'=some (dst,t,.slice (some ⟨b,e,none⟩) m cap,.int f i)) (sz:Nat) (d:zu8 P t=some sz) (j:Nat) (l:i=(j:Int)) (q:j<m):QR P F' o S φ rd w (.pointer (some ⟨b,e+j*sz,none⟩)):=by
 subst l;obtain ⟨r,a,_,c⟩:=jx3 h d (by omega) (by omega);rw [<-yd6 g a];intro p _ _;simpa using c p
def QR.sliceH {dst t e ad m cap g h sz b l} (p:dec ops k n F'=some o) (q:zu6 ops k n F'=some (dst,t,.slice ad m cap,none,some (.int g h))) (r:zv7 P t=some (e,sz,b,l)) (j:Nat) (s:h=(j:Int)) (u:j<=cap):QR P F' o S φ rd w (.slice ad j cap):=by
 subst s;intro w _ _;obtain ⟨o',a,_,v⟩:=zw5 q;obtain ⟨i,z,c,d,_⟩:=zj2 r;have f:P.elem t=e:=by simp [Program.elem,c]
 have x:(sizeOf e).run P w=.ok i.size w:=by simp [sizeOf,typeInfo,d]
 rw [<-yd6 p a,v,Sem.run_bind,run_sliceAt_slice w t _ _ _ _ (yk3 c),run_slice_h w t ad m cap (yk3 c) g j (by omega) (by omega),f,x];simp only [Result.andThen_ok,sliced,Z1,K7,J5];split<;>(cases ad<;>simp [Addr.add])
def QR.sliceLH {dst t e ad m cap kl p l h sz b q} (r:dec ops k n F'=some o) (s:zu6 ops k n F'=some (dst,t,.slice ad m cap,some (.int kl l),some (.int p h))) (u:zv7 P t=some (e,sz,b,q)) (i j:Nat) (v:l=(i:Int)) (x:h=(j:Int)) (y:i<=j) (A:j<=cap):
  QR P F' o S φ rd w (.slice (if cap=i then ad else ad.map (·.add (i*sz))) (j-i) (cap-i)):=by
 subst x v;intro w _ _;obtain ⟨o',a,_,B⟩:=zw5 s;obtain ⟨C,z,c,d,_,f,_⟩:=zj2 u;have g:P.elem t=e:=by simp [Program.elem,c]
 have D:(sizeOf e).run P w=.ok sz w:=by simp [sizeOf,typeInfo,d,f]
 rw [<-yd6 r a,B,Sem.run_bind,run_sliceAt_slice w t _ _ _ _ (yk3 c),run_slice_lh w t ad m cap (yk3 c) kl p i j (by omega) (by omega) (by omega),g,D];simp only [Result.andThen_ok,sliced,Z1];rfl
def QR.sliceL {dst t e ad m cap kl l sz b h} (j:dec ops k n F'=some o) (p:zu6 ops k n F'=some (dst,t,.slice ad m cap,some (.int kl l),none)) (q:zv7 P t=some (e,sz,b,h)) (i:Nat) (r:l=(i:Int)) (s:i<=m):
  QR P F' o S φ rd w (.slice (if cap=i then ad else ad.map (·.add (i*sz))) (m-i) (cap-i)):=by
 subst r;intro w _ _;obtain ⟨o',a,_,u⟩:=zw5 p;obtain ⟨v,z,c,d,_,f,_⟩:=zj2 q;have g:P.elem t=e:=by simp [Program.elem,c]
 have x:(sizeOf e).run P w=.ok sz w:=by simp [sizeOf,typeInfo,d,f]
 rw [<-yd6 j a,u,Sem.run_bind,run_sliceAt_slice w t _ _ _ _ (yk3 c),run_slice_l w t ad m cap (yk3 c) kl i (by omega) (by omega),g,x];simp only [Result.andThen_ok,sliced,Z1];rfl
def qt9 {Z:Prop} {t:TypeId} {x:Operand} (p:dec ops k n F'=some o) (b:o.op=.load t x) {i j:Nat} {e:TypeId} {cs:List (AV T.U)} {a:AV T.U} (y:aev T F x=some (.ptr i j)) (q:H[i]?=some (.blk e cs)) (z: ∀i sz k c,a≠.eptr i sz k c) (r:ja7 T P t cs j=some a)
  (h:Sim T w0 S0 ⟨F,H⟩ F' w S φ) (d:i∈rd) (K: ∀v,QR P F' o S φ rd w v->VR T w S φ a v->okA H a->Z):Z:=by
 obtain ⟨v,A,g,s,rfl⟩:=w4 h.fr y;obtain ⟨E,c,f,u,G,B⟩:=h.ents i _ q;rw [s] at f;simp only [X0,Addr.mk.injEq,and_true] at f;subst f;obtain ⟨v,C,D⟩:=vf3 B r;refine K v (QR.load p (fun I _ l=>(l i d _ s u.lt).trans u) (by rw [yb9 p b,w5 A]) v C) D ⟨fun i m=>h.eids _ _ q i (js5 r i m),?_⟩;cases a<;>first|trivial|exact absurd rfl (z _ _ _ _)
def ym4 (t x):v8 (zq9 T t x)= []:=by
 unfold zq9;generalize zc4 T t x=l;induction l with
 |nil=>rfl
 |cons c r a=>rw [W8,v8,a];rfl
def ym5 (t x):noE (zq9 T t x):=by
 intro a b i sz k c e;unfold zq9 at b;obtain ⟨c',_,rfl⟩:=U0.1 b;cases e
def jy6 {Z:Prop} {t:TypeId} {x:Operand} (q:dec ops k n F'=some o) (r:o.op=.load t x) {b o0 c:Nat} {cs:List (AV T.U)} {e:List Value} {a:AV T.U} (D:ev F' x=some (.pointer (some ⟨b,o0+c,none⟩)))
  (B: ∀h,Chg S w h->Same φ rd w h->Rg h (some ⟨b,o0,none⟩) e) (s:VRL T w S φ cs e) (E:noE cs) (l:v8 cs= []) (G:ja8 T P t cs c=some a)
  (K: ∀v,QR P F' o S φ rd w v->VR T w S φ a v->okA H a->Z):Z:=by
 obtain ⟨i,d,u,y,f⟩:=qt8 G;have m:okA H a:=ga9 E f (by rw [l];intro i u;cases u);have g:=yb9 q r;rw [w5 D] at g;cases hag:yf4 d with
 |false=>
  rw [hag] at f;obtain ⟨v,I,J⟩:=s.get T (show cs[c]?=some a from f);have z:zt2 P t=true:=by unfold zt2;rw [y];cases d<;>simp_all [yf4]
  refine K v (QR.load1 q g z v ?_) J m;exact fun h f A=>(B h f A c v I).2
 |true=>
  rw [hag] at f;unfold qj1 at f;simp only at f;split at f
  ·rename_i p;simp only [X0] at f;subst f;have z:zt2 P t=false:=by unfold zt2;rw [y];cases d<;>simp_all [yf4]
   have C:=s.len T;have p:=Y1 p;refine K _ (QR.loadA (ad:=some ⟨b,o0,none⟩) (j:=c) (cs:=e) (sz:=i.size) q B g z (by rw [y];rfl) (by unfold qw6;rw [u];rfl) ((e.drop c).take i.size) (by rw [Y6,Q6];omega) rfl) ⟨_,rfl,?_⟩ m;simpa using (s.drop T c).take T i.size
  ·cases f
def zq0 {α} {xs:List α} {k} (d:α) (a:k<xs.length):xs[k]?=some (xs.getD k d):=by
 rw [Y2,Y0 a];rfl
def vn1 {e xs ad cap} (h:CR T w S (.list e) xs (.slice ad xs.length cap)) {k} (z:k<xs.length):
  ∃a,Rg w (some ⟨bk ad,of ad+k*szT T e,none⟩) a/\VRL T w S φ (zq9 T e (xs.getD k (zv2 T e))) a/\bk ad∉S:=by
 generalize A:Value.slice ad xs.length cap=v at h;cases h with
 |list _ _ G B u C D q d f=>
  simp only [Value.slice.injEq,true_and] at A;obtain ⟨rfl,rfl⟩:=A;have E:=zq0 (zv2 T e) z;generalize xs.getD k (zv2 T e)=x at *;refine ⟨(List.range (szT T e)).map (u k),?_,?_,(q (fun e0=>by subst e0;simp at z)).2.2⟩
  ·intro j v b;refine ⟨rfl,?_⟩;simp only [bk,of];have g:j<szT T e:=by
    have:=(X2.1 b).1;simpa using this
   rw [W0,List.getElem?_range g] at b;simp only [Z8,X0] at b;subst b;have p:(zc4 T e x)[j]?=some ((zc4 T e x)[j]'(by rw [za0];exact g)):=Y0 _;have:=d k j _ (by rw [E];exact congrArg some p);rw [U7];exact this
  ·have y: ∀(l:List (Cell T.U)) (s m:Nat),l.length=m->(∀j c,l[j]?=some c->CR T w S c.t c.x (u k (s+j)))->VRL T w S φ (l.map .cell) ((List.range' s m).map (u k)):=by
    intro l;induction l with
    |nil=>intro s m i _;simp at i;subst i;simp [VRL]
    |cons c r I=>
     intro s m i p;cases m with
     |zero=>simp at i
     |succ m=>
      rw [W8,List.range'_succ,W8];refine ⟨p 0 c rfl,I (s+1) m (by simpa using i) fun j c' b=>?_⟩;have:=p (j+1) c' (by simpa using b);rwa [show s+1+j=s+(j+1) by omega]
   have:=y (zc4 T e x) 0 (szT T e) (za0 T e x) (fun j c b=>by rw [W7];exact f k j c (by rw [E];exact congrArg some b));unfold zq9;rw [List.range_eq_range'];exact this
def qg6 {Z:Prop} {t:TypeId} {x:Operand} (g:dec ops k n F'=some o) (d:o.op=.load t x) {e:Ty} {xs:List (den T.U e)} {i c:Nat} {a:AV T.U} (j:aev T F x=some (.lptr e xs i c)) (l:ja8 T P t (zq9 T e (xs.getD i (zv2 T e))) c=some a)
  (h:Sim T w0 S0 ⟨F,H⟩ F' w S φ) (K: ∀v,QR P F' o S φ rd w v->VR T w S φ a v->okA H a->Z):Z:=by
 obtain ⟨v,m,ad,cap,p,q,rfl⟩:=w4 h.fr j;obtain ⟨f,r,s,u⟩:=vn1 (φ:=φ) p q;exact jy6 g d (b:=bk ad) (o0:=of ad+i*szT T e) (c:=c) (by rw [m,U7]) (fun z y _=>r.chg y (.inl u)) s (ym5 _ _) (ym4 _ _) l K
def qf9 {t x y} (b:dec ops k n F'=some o) (a:o.op=.indexAddr t x y):yf7 ops k n F'=some (o.dst,t,evD F' x,evD F' y):=by
 unfold yf7;rw [b];cases o;simp only at a;subst a;rfl
def yf1 {t e} (h:jl4 T P t e=true):zu8 P t=some (szT T e):=by
 unfold jl4 at h;split at h
 ·rename_i s a;rw [a,X1 h]
 ·cases h
def za3 {R:Type} {c:Prop} [Decidable c] {x:Option R} {r:R} (h:(if c then x else none)=some r):c/\x=some r:=by
 split at h
 ·rename_i a;exact ⟨a,h⟩
 ·cases h
def jc6 (h:Sim T w0 S0 ⟨F,H⟩ F' w S φ) {i e ty xs} (l:H[i]?=some (.row e ty xs)) (x:0<xs.length):
  ∃g c B a,(φ i).ad=some ⟨g,0,none⟩/\(φ i).n=xs.length/\Own w B e (szT T ty) (φ i).ad xs.length (φ i).cap a/\Blk w g c e/\c.size=(φ i).cap*szT T ty/\c.toList.take (xs.length*szT T ty)=a/\CellsR T w S (xs.flatMap (zc4 T ty)) a/\g∈S/\B<=g/\B<=w.heap.size/\xs.length<=(φ i).cap/\(φ i).cap<=maxLen:=by
 obtain ⟨B,a,d,j,m,p,q⟩:=h.ents i _ l;rw [j] at d;rcases d.cases with ⟨_,y,_⟩|⟨c,b,r,s,f,t,u,v⟩
 ·omega
 ·exact ⟨bk (φ i).ad,c,B,a,b,j,d,s,u,v,p,q _ b,r,m,f,t⟩
def yk4 {α b:Type} {f:α->List b} {sz:Nat} (a: ∀y,(f y).length=sz): ∀ {l:List α} {k:Nat} {x:α},l[k]?=some x->((l.flatMap f).drop (k*sz)).take sz=f x
 | [],k,x,h=>by simp at h
 |y::r,0,x,h=>by
  simp at h;subst h;rw [V3,K7,M8,Z7 (by rw [a];exact W6 _),Q3 (by rw [a];exact W6 _)]
 |y::r,k+1,x,h=>by
  rw [V3,show (k+1)*sz=(f y).length+k*sz by rw [a,K4,J1],<-List.drop_drop,List.drop_left];exact yk4 a (by simpa using h)
def CellsR.vrl: ∀ {cs vs},CellsR T w S cs vs->VRL T w S φ (cs.map .cell) vs
 | [],[],_=>trivial
 | [],_::_,h=>by have:=h.1;simp at this
 |_::_,[],h=>by have:=h.1;simp at this
 |c::r,v::s,h=>⟨h.2 0 c v rfl rfl,CellsR.vrl ⟨by have:=h.1;simpa using this,fun j c' a b d=>h.2 (j+1) c' a (by simpa using b) (by simpa using d)⟩⟩
def CellsR.cut {cs vs} (h:CellsR T w S cs vs) (a b):CellsR T w S ((cs.drop a).take b) ((vs.drop a).take b):=by
 refine ⟨by rw [Y6,Y6,Q6,Q6,h.1],fun j c v d e=>?_⟩;rw [Z3] at d e;split at d
 ·rename_i f;rw [if_pos f] at e;rw [Q5] at d e;exact h.2 _ c v d e
 ·cases d
def kg3 (h:Sim T w0 S0 ⟨F,H⟩ F' w S φ) {i e ty xs} (l:H[i]?=some (.row e ty xs)) {j} (m:j<xs.length):
  ∃g a,(φ i).ad=some ⟨g,0,none⟩/\Rg w (some ⟨g,0+j*szT T ty,none⟩) a/\VRL T w S φ (zq9 T ty (xs.getD j (zv2 T ty))) a:=by
 obtain ⟨g,c,B,a,b,_,p,_,_,_,q,_⟩:=jc6 h l (by omega);refine ⟨g,(a.drop (j*szT T ty)).take (szT T ty),b,?_,?_⟩
 ·have d:=p.rg;rw [b] at d;exact d.sub (j*szT T ty) (szT T ty) _ (fun _=>rfl)
 ·have f:=q.cut (j*szT T ty) (szT T ty);rw [yk4 (za0 T ty) (zq0 (zv2 T ty) m)] at f;exact f.vrl
def qg5 {Z:Prop} {t:TypeId} {x:Operand} (z:dec ops k n F'=some o) (d:o.op=.load t x) {i sz j c:Nat} {e:TypeId} {ty:Ty} {xs:List (den T.U ty)} {a:AV T.U} (u:aev T F x=some (.eptr i sz j c)) (f:H[i]?=some (.row e ty xs)) (A:ja8 T P t (zq9 T ty (xs.getD j (zv2 T ty))) c=some a)
  (h:Sim T w0 S0 ⟨F,H⟩ F' w S φ) (l:i∈rd) (K: ∀v,QR P F' o S φ rd w v->VR T w S φ a v->okA H a->Z):Z:=by
 obtain ⟨v,B,g,m,rfl⟩:=w4 h.fr u;obtain ⟨C,p⟩:=(zd3 h u).2 e ty xs f;obtain ⟨I,y,q,D,E⟩:=kg3 h f C;have r:=(h.own _ (wc6 h f rfl m)).2;rw [m] at q;simp only [X0,Addr.mk.injEq,and_true] at q;subst q;subst p;exact jy6 z d (b:=g) (o0:=0+j*szT T ty) (c:=c) (by rw [B,U7]) (fun G _ s=>Rg.same D (show G.heap[g]?=w.heap[g]? from s i l ⟨g,0,none⟩ m r)) E (ym5 _ _) (ym4 _ _) A K
def gc0 {Z:Prop} {R:Type} {r:R} {t:TypeId} {x y:Operand} (M:dec ops k n F'=some o) (W:o.op=.indexAddr t x y) {s:AV T.U} {kk:IntKind} {j:Int} (N:aev T F x=some s) (hy:aev T F y=some (cI T kk j)) {K0:AV T.U->Option R} (d:zw8 T P t H s j K0=some r)
  (h:Sim T w0 S0 ⟨F,H⟩ F' w S φ) (K: ∀a v,K0 a=some r->QR P F' o S φ rd w v->VR T w S φ a v->okA H a->Z):Z:=by
 obtain ⟨X,h1,z⟩:=w4 h.fr N;obtain ⟨Y,h3,h4⟩:=w4 h.fr hy;have e:=za4 h4;subst e;have l:=qf9 M W;rw [w5 h1,w5 h3] at l;unfold zw8 at d;split at d
 ·rename_i e xs;split at d
  ·rename_i q;obtain ⟨O,A⟩:=za3 d;have z:CR T w S (.list e) xs X:=z;have h2':=z;cases h2' with
   |list _ _ ad cap u D hnil C hcell hrel=>
    have hne:xs≠ []:=by intro e;subst e;simp at O;omega
    obtain ⟨ha,_,_⟩:=C hne;generalize bk ad=b at ha;generalize of ad=of0 at ha;subst ha;refine K _ _ A (QR.indexS M l _ (yf1 q) j.toNat (by omega) (by omega)) ⟨_,cap,z,by omega,rfl⟩ ?_;exact ⟨fun i E=>(by cases E),trivial⟩
  ·cases d
 ·rename_i i;split at d
  ·rename_i e ty xs E;split at d
   ·rename_i q;obtain ⟨O,A⟩:=za3 d;obtain ⟨g,c,B,vals,h5,h6,_⟩:=jc6 h E (by omega);rw [VR] at z;subst z;rw [h5,h6] at l;refine K _ _ A (QR.indexS M l _ (yf1 q) j.toNat (by omega) (by omega)) ⟨g,h5,by simp⟩ ?_;refine ⟨(zd3 h N).1,?_⟩;intro e1 t1 ys p;have G:H[i]?=some (.row e ty xs):=E;rw [G] at p;simp only [X0,Ent.row.injEq] at p;obtain ⟨rfl,rfl,hh⟩:=p;have:=eq_of_heq hh;subst this;exact ⟨by omega,rfl⟩
   ·cases d
  ·cases d
 ·rename_i i sz o1 m;split at d
  ·rename_i e ty xs E;split at d
   ·rename_i q f;have f:=X1 f;subst f;obtain ⟨O,hK1⟩:=za3 d;obtain ⟨hj2,A⟩:=za3 hK1;obtain ⟨ad,rfl,D,V,_⟩:=z;rcases V with V|⟨g,I,J⟩
    ·omega
    ·subst J;refine K _ _ A (QR.indexS M l _ (yf1 q) j.toNat (by omega) (by omega)) ⟨g,I,by simp [V7]⟩ ?_;refine ⟨(zd3 h N).1,?_⟩;intro e1 t1 ys p;have G:H[i]?=some (.row e ty xs):=E;rw [G] at p;simp only [X0,Ent.row.injEq] at p;obtain ⟨rfl,rfl,hh⟩:=p;have:=eq_of_heq hh;subst this;exact ⟨by omega,rfl⟩
   ·cases d
  ·rename_i e cs E;split at d
   ·rename_i s L;split at d
    ·rename_i f;have f:=X1 f;subst f;obtain ⟨O,A⟩:=za3 d;obtain ⟨ad,rfl,D,V,_⟩:=z;rcases V with V|⟨g,I,J⟩
     ·omega
     ·subst J;exact K _ _ A (QR.indexS M l _ L j.toNat (by omega) (by omega)) ⟨g,I,by simp [V7]⟩ ⟨(zd3 h N).1,trivial⟩
    ·cases d
   ·cases d
  ·cases d
 ·rename_i i o0 sz n0 lo m;split at d
  ·rename_i s L;split at d
   ·rename_i f;have f:=X1 f;subst f;obtain ⟨O,A⟩:=za3 d;obtain ⟨g,ad,hg,rfl,hle,C⟩:=z;rcases C with C|rfl
    ·omega
    ·exact K _ _ A (QR.indexS M l _ L j.toNat (by omega) (by omega)) ⟨g,hg,by omega,by simp [V7,U7]⟩ ⟨(zd3 h N).1,trivial⟩
   ·cases d
  ·cases d
 ·cases d
def qg1 {t x b c} (d:dec ops k n F'=some o) (a:o.op=.slice t x b c none):zu6 ops k n F'=some (o.dst,t,evD F' x,b.map (evD F'),c.map (evD F')):=by
 unfold zu6;rw [d];cases o;simp only at a;subst a;rfl
def ji9 {t e} (h:eIs T P t e=true): ∃b a c,zv7 P t=some (b,szT T e,a,c):=by
 unfold eIs at h;split at h
 ·rename_i b sz a c d;exact ⟨b,a,c,by rw [d,X1 h]⟩
 ·cases h
def zl0 (ad:Option Addr) (cap i sz:Nat):Option Addr:=if cap=i then ad else ad.map (·.add (i*sz))
def qx9 (ad cap sz):zl0 ad cap 0 sz=ad:=by
 unfold zl0;split
 ·rfl
 ·cases ad<;>simp [Addr.add]
def zw4 {Z:Prop} {t:TypeId} {x:Operand} {i j:Option Operand} (c:dec ops k n F'=some o) (d:o.op=.slice t x i j none) {ad:Option Addr} {m cap sz p e:Nat} {q:Array Value} (r:ev F' x=some (.slice ad m cap)) (s:m<=cap) {l h:Option Int} {kl kh:IntKind}
  (u:i.map (evD F')=l.map (Value.int kl)) (v:j.map (evD F')=h.map (Value.int kh)) (f:zv7 P t=some (p,sz,e,q)) (b:0<=l.getD 0/\l.getD 0<=h.getD m/\h.getD m<=cap) (g:l≠none\/h≠none)
  (K:QR P F' o S φ rd w (.slice (if l=none then ad else zl0 ad cap (l.getD 0).toNat sz) ((h.getD m).toNat-(l.getD 0).toNat) (if l=none then cap else cap-(l.getD 0).toNat))->Z):Z:=by
 have a:=qg1 c d;rw [w5 r,u,v] at a;cases l with
 |none=>
  cases h with
  |none=>simp at g
  |some h=>
   have:=QR.sliceH (S:=S) (φ:=φ) (rd:=rd) (w:=w) c a f h.toNat (by simp at b;omega) (by simp at b;omega);exact K (by simpa using this)
 |some l=>
  cases h with
  |none=>
   have:=QR.sliceL (S:=S) (φ:=φ) (rd:=rd) (w:=w) c a f l.toNat (by simp at b;omega) (by simp at b;omega);exact K (by simpa [zl0] using this)
  |some h=>
   have:=QR.sliceLH (S:=S) (φ:=φ) (rd:=rd) (w:=w) c a f l.toNat h.toNat (by simp at b;omega) (by simp at b;omega) (by simp at b;omega) (by simp at b;omega);exact K (by simpa [zl0] using this)
def CR.sub {e} {xs:List (den T.U e)} {ad cap i m} (h:CR T w S (.list e) xs (.slice ad xs.length cap)) (I:i+m<=xs.length):CR T w S (.list e) ((xs.drop i).take m) (.slice (zl0 ad cap i (szT T e)) m (cap-i)):=by
 generalize D:Value.slice ad xs.length cap=v at h;cases h with
 |list _ _ J E u G g r p s=>
  simp only [Value.slice.injEq,true_and] at D;obtain ⟨rfl,rfl⟩:=D;have d:((xs.drop i).take m).length=m:=by rw [Y6,Q6];omega
  have t:(xs.drop i).take m≠ []->xs≠ []:=by intro h e;subst e;simp at h
  have x:(xs.drop i).take m≠ []->0<m:=by
   intro h;cases m with
   |zero=>simp at h
   |succ m=>omega
  have y: ∀j,j<m->((xs.drop i).take m)[j]?=xs[i+j]?:=by intro j K;rw [Z3,if_pos K,Q5]
  have l:(xs.drop i).take m≠ []->zl0 ad cap i (szT T e)=some ⟨bk ad,of ad+i*szT T e,none⟩:=by
   intro h;obtain ⟨A,_,_⟩:=r (t h);have:=x h;unfold zl0;rw [if_neg (by omega)];generalize bk ad=b at A⊢;generalize of ad=o1 at A⊢;subst A;simp only [Z8,Addr.add];split
   ·rename_i L;rw [L];rfl
   ·rfl
  have z:CR T w S (.list e) ((xs.drop i).take m) (.slice (zl0 ad cap i (szT T e)) ((xs.drop i).take m).length (cap-i)):=by
   refine .list e _ _ _ (fun k j=>u (i+k) j) (by rw [d];omega) ?_ ?_ ?_ ?_
   ·intro B;unfold zl0 at B;split at B
    ·have:=g B;rw [d];omega
    ·cases ad with
     |none=>have:=g rfl;rw [d];omega
     |some a=>cases B
   ·intro h;obtain ⟨A,M,N⟩:=r (t h);rw [l h];exact ⟨rfl,M,N⟩
   ·intro k j c f;have q:k<m:=by
     apply Classical.byContradiction;intro C;rw [Y5 (by rw [d];omega)] at f;cases f
    have C:(xs.drop i).take m≠ []:=by intro e;rw [e] at f;simp at f
    rw [y k q] at f;have:=p (i+k) j c f;rw [l C];show w.cell? ⟨bk ad,of ad+i*szT T e+(k*szT T e+j),none⟩=some (u (i+k) j);rw [show of ad+i*szT T e+(k*szT T e+j)=of ad+((i+k)*szT T e+j) by rw [V7];omega];exact this
   ·intro k j c f;have q:k<m:=by
     apply Classical.byContradiction;intro C;rw [Y5 (by rw [d];omega)] at f;cases f
    rw [y k q] at f;exact s (i+k) j c f
  rwa [d] at z
def jy2 (F:AF T):Option Operand->Option (Option Int)
 |none=>some none
 |some x=>match aev T F x with|some a=>(match intOf T a with|some i=>some (some i)|none=>none)|none=>none
def yq4 (hF:FR T w S φ F F') {x l} (h:jy2 F x=some l): ∃kl,x.map (evD F')=l.map (Value.int kl):=by
 cases x with
 |none=>simp only [jy2,X0] at h;subst h;exact ⟨.i64,rfl⟩
 |some y=>
  simp only [jy2] at h;split at h
  ·rename_i a c;split at h
   ·rename_i i b;simp only [X0] at h;subst h;obtain ⟨v,d,f⟩:=w4 hF c;unfold intOf at b;split at b
    ·rename_i k x;have e:=za4 f;subst e;refine ⟨k,?_⟩;have b:x=i:=X5 b;subst b;show some (evD F' y)=some (Value.int k x);rw [w5 d]
    ·cases b
   ·cases h
  ·cases h
def gg7 {Z:Prop} {R:Type} {r:R} {t:TypeId} {x:Operand} {lo E:Option Operand} (hd:dec ops k n F'=some o) (G:o.op=.slice t x lo E none) {s:AV T.U} {l m:Option Int} (hx:aev T F x=some s) (A:jy2 F lo=some l) (hhi:jy2 F E=some m) (I:l≠none\/m≠none)
  {K0:AV T.U->Option R} (b:yb4 T P t H s l m K0=some r) (h:Sim T w0 S0 ⟨F,H⟩ F' w S φ) (K: ∀a v,K0 a=some r->QR P F' o S φ rd w v->VR T w S φ a v->okA H a->Z):Z:=by
 obtain ⟨X,h1,J⟩:=w4 h.fr hx;obtain ⟨kl,e1⟩:=yq4 h.fr A;obtain ⟨kh,e2⟩:=yq4 h.fr hhi;unfold yb4 at b;split at b
 ·rename_i e xs;simp only at b;split at b
  ·rename_i he;obtain ⟨f,O⟩:=za3 b;obtain ⟨et,V,zc,q⟩:=ji9 he;have J:CR T w S (.list e) xs X:=J;have h2':=J;cases h2' with
   |list _ _ ad cap u j z d hcell hrel=>
    refine zw4 hd G h1 j e1 e2 q ⟨f.1,f.2.1,Int.le_trans f.2.2 (by have:=j;omega)⟩ I fun W=>K (.cell ⟨.list e,_⟩) _ O W ?_ ⟨fun i E=>(by cases E),trivial⟩;show CR T w S (.list e) (List.take ((m.getD (xs.length:Int)).toNat-(l.getD 0).toNat) (List.drop (l.getD 0).toNat xs)) _;have hle:(l.getD 0).toNat+((m.getD (xs.length:Int)).toNat-(l.getD 0).toNat)<=xs.length:=by omega
    have:=CR.sub J hle;cases l with
    |none=>
     have e0:zl0 ad cap 0 (szT T e)=ad:=by
      unfold zl0;split
      ·rfl
      ·cases ad with
       |none=>rfl
       |some a=>simp [Addr.add]
     simpa [e0] using this
    |some l=>simpa using this
  ·cases b
 ·rename_i i;split at b
  ·rename_i e ty xs E;simp only at b;split at b
   ·rename_i he;obtain ⟨f,O⟩:=za3 b;obtain ⟨et,V,zc,q⟩:=ji9 he;rw [VR] at J;subst J;obtain ⟨B,L,Y,g2,_,_,_⟩:=h.ents i _ E;have j:(φ i).n<=(φ i).cap:=Y.le.1;rw [<-g2] at f;refine zw4 hd G h1 j e1 e2 q ⟨f.1,f.2.1,by have:=f.2.2;omega⟩ I fun W=>K (.sl i (szT T ty) (l.getD 0).toNat ((m.getD (xs.length:Int)).toNat-(l.getD 0).toNat)) _ O W ?_ ⟨(zd3 h hx).1,trivial⟩;have A:(if l=none then (φ i).cap else (φ i).cap-(l.getD 0).toNat)=(φ i).cap-(l.getD 0).toNat:=by cases l<;>simp
    have C:(l.getD 0).toNat=0->(if l=none then (φ i).ad else zl0 (φ i).ad (φ i).cap (l.getD 0).toNat (szT T ty))=(φ i).ad:=by
     intro M;cases l with
     |none=>rfl
     |some l=>simp only [reduceCtorEq,if_false];rw [M,qx9]
    rw [VR,<-g2,A];refine ⟨_,rfl,?_,?_,?_,C⟩
    ·cases l<;>simp at f⊢ <;>omega
    ·rcases Y.cases with ⟨_,N,_⟩|⟨c,d,_,_,_⟩
     ·left;omega
     ·by_cases M:(m.getD ((φ i).n:Int)).toNat-(l.getD 0).toNat=0
      ·exact .inl M
      ·obtain ⟨g,hg⟩: ∃g,(φ i).ad=some ⟨g,0,none⟩:=⟨_,d⟩;refine .inr ⟨g,hg,?_⟩;cases l with
       |none=>simpa using hg
       |some l=>
        simp only [reduceCtorEq,if_false,U8] at f M⊢;unfold zl0;rw [if_neg (by omega),hg];simp only [Z8,Addr.add];split
        ·rename_i hz;simp [hz]
        ·simp
    ·intro p;rcases Y.cases with ⟨hn0,N,hc0,_⟩|⟨c,d,_,_,_⟩
     ·cases l<;>simp at f⊢ <;>omega
     ·cases l with
      |none=>simp at p;rw [p] at d;cases d
      |some l=>
       simp only [reduceCtorEq,if_false,U8] at p f⊢;unfold zl0 at p;split at p
       ·rw [p] at d;cases d
       ·rw [d] at p;cases p
   ·cases b
  ·cases b
 ·rename_i i sz D m1;split at b
  ·rename_i e ty xs E;simp only at b;split at b
   ·rename_i he y;have y:=X1 y;subst y;obtain ⟨f,O⟩:=za3 b;obtain ⟨et,V,zc,q⟩:=ji9 he;obtain ⟨ad,rfl,j,N,z,hz1⟩:=J;have hrow:xs.length<=(φ i).cap:=by
     obtain ⟨B,L,Y,g2,_,_,_⟩:=h.ents i _ E;have:=Y.le.1;omega
    have hjc:m.getD (m1:Int)<=(((φ i).cap-D:Nat):Int):=by
     have:=f.2.1;rcases f.2.2 with h3|⟨h3,_⟩<;>omega
    refine zw4 hd G h1 (by omega) e1 e2 q ⟨f.1,f.2.1,hjc⟩ I fun W=>K (.sl i (szT T ty) (D+(l.getD 0).toNat) ((m.getD (m1:Int)).toNat-(l.getD 0).toNat)) _ O W ?_ ⟨(zd3 h hx).1,trivial⟩;have A:(if l=none then (φ i).cap-D else (φ i).cap-D-(l.getD 0).toNat)=(φ i).cap-(D+(l.getD 0).toNat):=by cases l<;>simp<;>omega
    have C:D+(l.getD 0).toNat=0->(if l=none then ad else zl0 ad ((φ i).cap-D) (l.getD 0).toNat (szT T ty))=(φ i).ad:=by
     intro M;rw [<-hz1 (by omega)];cases l with
     |none=>rfl
     |some l=>simp only [reduceCtorEq,if_false];rw [show (Option.getD (some l) (0:Int)).toNat=0 by omega,qx9]
    rw [VR,A];refine ⟨_,rfl,?_,?_,?_,C⟩
    ·have:=f.1;have:=f.2.1;omega
    ·by_cases M:(m.getD (m1:Int)).toNat-(l.getD 0).toNat=0
     ·exact .inl M
     ·have N: ∃g,(φ i).ad=some ⟨g,0,none⟩/\ad=some ⟨g,0+D*szT T ty,none⟩:=by
       rcases N with N|N
       ·rcases f.2.2 with h3|⟨h3,h4⟩
        ·omega
        ·have ho:D=0:=by omega
         subst ho;obtain ⟨B,L,Y,g2,_,_,_⟩:=h.ents i _ E;rcases Y.cases with ⟨_,hn0,_⟩|⟨c,d,_,_,_⟩
         ·omega
         ·exact ⟨_,d,(hz1 rfl).trans (d.trans (by rw [K7]))⟩
       ·exact N
      rcases N with ⟨g,hg1,hg2⟩
      ·refine .inr ⟨g,hg1,?_⟩;subst hg2;cases l with
       |none=>simp
       |some l=>
        simp only [reduceCtorEq,if_false,U8] at f M⊢;unfold zl0;rw [if_neg (by omega)];simp only [Z8,Addr.add];split
        ·rename_i hz;simp [V7,hz]
        ·simp [V7]
    ·intro p;cases l with
     |none=>simp at p;have:=z p;simp at f⊢;omega
     |some l=>
      simp only [reduceCtorEq,if_false,U8] at p f⊢;unfold zl0 at p;split at p
      ·have:=z p;omega
      ·cases ad with
       |none=>have:=z rfl;omega
       |some a=>cases p
   ·cases b
  ·cases b
 ·rename_i i o0 sz n0 D m1;simp only at b;split at b
  ·rename_i et s V zc q;split at b
   ·rename_i y;have y:=X1 y;subst y;obtain ⟨f,O⟩:=za3 b;obtain ⟨g,ad,hg,rfl,hle,d⟩:=J;refine zw4 hd G h1 (by omega) e1 e2 q ⟨f.1,f.2.1,by have:=f.2.2;omega⟩ I fun W=>K (.asl i o0 s n0 (D+(l.getD 0).toNat) ((m.getD (m1:Int)).toNat-(l.getD 0).toNat)) _ O W ?_ ⟨(zd3 h hx).1,trivial⟩;rw [VR];cases l with
    |none=>exact ⟨g,ad,hg,by simp,by simp at f⊢;omega,by simpa using d⟩
    |some l=>
     simp only [reduceCtorEq,if_false,U8] at f⊢;unfold zl0;split
     ·rename_i hc0;exact ⟨g,ad,hg,by rw [Nat.sub_sub],by omega,.inl (by omega)⟩
     ·rename_i hc0;refine ⟨g,ad.add (l.toNat*s),hg,by rw [Nat.sub_sub];rfl,by omega,?_⟩;rcases d with d|d
      ·left;omega
      ·right;subst d;simp only [Addr.add];split
       ·rename_i hz;simp [V7,hz]
       ·simp [V7,U7]
   ·cases b
  ·cases b
 ·cases b
end
end Go.X
namespace Go.X
open Go.RowKit Go.V
section
variable {T:Tab} {P:Program} {w w':World} {S S':List Nat} {φ φ':Nat->RA} {w0:World} {S0:Ow} {F:AF T} {H:List (Ent T.U)} {F':PF}
variable {ops:Array Oper} {Q:Exit->Act->World->Prop} {k n:Nat} {ds:List Deferred} {o:Oper}
def yy2 {t x y} (c:dec ops k n F'=some o) (b:o.op=.store t x y) (a:o.dst=none):yq9 ops k n F'=some (t,evD F' x,evD F' y):=by
 unfold yq9;rw [c];cases o;simp only at b a;subst b;subst a;rfl
def yk5: ∀ {aS vs},aS.all (ya4 T)=true->VRL T w S φ aS vs->vs.all Value.oneCell'=true
 | [],[],_,_=>rfl
 | [],_::_,_,h=>h.elim
 |_::_,[],_,h=>h.elim
 |a::r,v::s,h,b=>by
  simp only [U4,X3] at h⊢;exact ⟨(yo9 h.1 b.1).2,yk5 h.2 b.2⟩
def yh9 {t o0 m a} (h:qs7 T P t o0 m a=true): ∃i,P.info? t=some i/\zx5 T a=true/\(zi0 T a).length=i.size/\o0+i.size<=m/\(zi0 T a).all (ya4 T)=true:=by
 unfold qs7 at h;split at h
 ·rename_i i b;simp only [X3] at h;exact ⟨i,b,h.1,X1 h.2.1,Y1 h.2.2.1,h.2.2.2⟩
 ·cases h
def vd0 {t o0 m a} (h:qs7 T P t o0 m a=true) {v} (d:VR T w S φ a v) {c p} (r:p+m<=c.size):stv P t c (p+o0) v=some (yz2 c (p+o0) v.cells.toList):=by
 obtain ⟨i,e,f,g,s,j⟩:=yh9 h;have b:=zk4 f d;have l:=b.len T;have q:=yk5 j b;unfold stv;rw [e];simp only;rw [show (Nat.beq v.cells.size i.size&&(Nat.ble (p+o0+i.size) c.size&&v.cells.toList.all Value.oneCell'))=true from ?_];simp only [X3];refine ⟨?_,W3 (by omega),q⟩;have:v.cells.size=i.size:=by rw [<-g,l];simp
 rw [this];exact J2 _
def jt6: ∀ {aS cs o0},∀i∈v8 (jp6 T cs o0 aS),i∈v8 cs\/i∈v8 aS
 | [],cs,o0,i,h=>.inl h
 |a::r,cs,o0,i,h=>by
  rw [jp6] at h;rcases jt6 i h with h|h
  ·obtain ⟨b,c,d⟩:=zq1 h;rcases K3 c with c|c
   ·exact .inl (zh7 c i d)
   ·subst c;exact .inr (by rw [v8];exact X4.2 (.inl d))
  ·exact .inr (by rw [v8];exact X4.2 (.inr h))
def zk8 {α:Type} (cs:List α) (o:Nat):List α->List α
 | []=>cs
 |a::r=>zk8 (cs.set o a) (o+1) r
def jz2: ∀(l cs o0),kk3 T cs o0 l=zk8 cs o0 l
 | [],_,_=>rfl
 |a::r,cs,o0=>by rw [kk3,zk8,jz2 r]
def yi8: ∀(l c o0),(yz2 c o0 l).toList=zk8 c.toList o0 l
 | [],_,_=>rfl
 |v::r,c,o0=>by rw [yz2,zk8,yi8 r,Array.toList_setIfInBounds]
def kd6 {α}: ∀(l cs:List α) (o0:Nat),(zk8 cs o0 l).length=cs.length
 | [],_,_=>rfl
 |a::r,cs,o0=>by rw [zk8,kd6 r,Q1]
def yv7 {α}: ∀(l cs:List α) (o0 m:Nat),(zk8 cs o0 l).take m=zk8 (cs.take m) o0 l
 | [],_,_,_=>rfl
 |a::r,cs,o0,m=>by rw [zk8,zk8,yv7 r,List.take_set]
def yg4 {α}: ∀(l pre c b:List α) (o0:Nat),o0+l.length<=c.length->zk8 (pre++c++b) (pre.length+o0) l=pre++zk8 c o0 l++b
 | [],_,_,_,_,_=>rfl
 |a::r,pre,c,b,o0,h=>by
  simp only [U6] at h;rw [zk8,zk8,Q2,List.set_append_right _ _ (by omega),M9,List.set_append_left _ _ (by omega),<-List.append_assoc,U7];exact yg4 r pre _ b (o0+1) (by rw [Q1];omega)
def flatMap_split {α c:Type} {f:α->List c} {sz:Nat} (d: ∀y,(f y).length=sz) {l:List α} {j:Nat} {x:α} (b:l[j]?=some x):
  l.flatMap f=(l.take j).flatMap f++f x++(l.drop (j+1)).flatMap f/\((l.take j).flatMap f).length=j*sz:=by
 have a:=(X2.1 b).1;have e:=(X2.1 b).2;constructor
 ·conv=>lhs;rw [<-List.take_append_drop j l,U3 a,e]
  rw [M6,V3,Q2]
 ·rw [flatMap_lenT d,Y6,J7 (by omega)]
where
 flatMap_lenT {α β:Type} {f:α->List β} {sz:Nat} (hf: ∀y,(f y).length=sz): ∀ {l:List α},(l.flatMap f).length=l.length*sz:=by
  intro l;induction l with
  |nil=>simp
  |cons a r ih=>rw [V3,X9,hf,ih,U6,K4,J1]
def yy4 {α e:Type} {f:α->List e} {sz:Nat} (a: ∀y,(f y).length=sz) {xs:List α} {j c:Nat} {x y:α} {l:List e} (g:xs[j]?=some x) (h:f y=zk8 (f x) c l) (i:c+l.length<=sz):(xs.set j y).flatMap f=zk8 (xs.flatMap f) (j*sz+c) l:=by
 have b:=(X2.1 g).1;obtain ⟨m,p⟩:=flatMap_split a g;have d:(xs.set j y)[j]?=some y:=Q0 b;obtain ⟨q,r⟩:=flatMap_split a d;rw [m,q,<-p,yg4 _ _ _ _ _ (by rw [a];exact i),h];rw [List.take_set_of_le (W6 _),List.drop_set_of_lt (by omega)]
def CellsR.set {cs vs} (h:CellsR T w S cs vs) (j) {c v} (f:jd6 T w S c v):CellsR T w S (cs.set j c) (vs.set j v):=by
 refine ⟨by rw [Q1,Q1,h.1],fun i c' g a b=>?_⟩;by_cases d:j=i
 ·subst d;have e:=(X2.1 a).1;have l2:=(X2.1 b).1;rw [Q1] at e l2;rw [Q0 e] at a;rw [Q0 l2] at b;simp only [X0] at a b;subst a;subst b;exact f
 ·rw [Z5 d] at a b;exact h.2 i c' g a b
def CellsR.put: ∀ {l vl cs vs p},CellsR T w S l vl->CellsR T w S cs vs->CellsR T w S (zk8 cs p l) (zk8 vs p vl)
 | [],[],_,_,_,_,h=>h
 | [],_::_,_,_,_,h,_=>by have:=h.1;simp at this
 |_::_,[],_,_,_,h,_=>by have:=h.1;simp at this
 |c::r,v::s,cs,vs,p,h,a=>by
  rw [zk8,zk8];exact CellsR.put (l:=r) (vl:=s) ⟨by have:=h.1;simpa using this,fun j c' b d e=>h.2 (j+1) c' b (by simpa using d) (by simpa using e)⟩ (a.set p (h.2 0 c v rfl rfl))
def zp5: ∀ {aS l vs},cellsOf T aS=some l->VRL T w S φ aS vs->CellsR T w S l vs
 | [],l,vs,h,b=>by
  simp only [cellsOf,X0] at h;subst h;cases vs with
  |nil=>exact ⟨rfl,fun j c v h=>by simp at h⟩
  |cons _ _=>exact b.elim
 |a::r,l,vs,h,b=>by
  unfold cellsOf at h;split at h
  ·rename_i c l' d m;simp only [X0] at h;subst h;cases vs with
   |nil=>exact b.elim
   |cons v s=>
    have i:=zp5 m b.2;have e:jd6 T w S c v:=by
     cases a with
     |cell c'=>simp only [qx8,X0] at d;subst d;exact b.1
     |_=>cases d
    refine ⟨by simp [i.1],fun j c' p f g=>?_⟩;cases j with
    |zero=>simp at f g;subst f;subst g;exact e
    |succ j=>exact i.2 j c' p (by simpa using f) (by simpa using g)
  ·cases h
def jo6 {t x y} (hd:dec ops k n F'=some o) (D:o.op=.store t x y) (m:o.dst=none) {i sz j c e ty xs a} (Z:aev T F x=some (.eptr i sz j c)) (hy:aev T F y=some a) (E:H[i]?=some (.row e ty xs))
  (hf:qs7 T P t c (szT T ty) a=true) {l} (hl:cellsOf T (zi0 T a)=some l) {G} (I:ym1 T ty (kk3 T (zc4 T ty (xs.getD j (zv2 T ty))) c l)=some G)
  (h:Sim T w0 S0 ⟨F,H⟩ F' w S φ) (K:zx4 P ops Q (k+1) n ds w0 S0 (⟨F,H.set i (.row e ty (xs.set j G))⟩:St T)):WR P ops Q k n ds F' w:=by
 obtain ⟨X,h1,g,C,rfl⟩:=w4 h.fr Z;obtain ⟨v,h3,J⟩:=w4 h.fr hy;obtain ⟨hj,L⟩:=(zd3 h Z).2 e ty xs E;subst L;obtain ⟨g',d,B,vals,M,a2,a3,a4,a5,a6,a7,a8,a9,N,r,O⟩:=jc6 h E (by omega);rw [C] at M;simp only [X0,Addr.mk.injEq,and_true] at M;subst M;obtain ⟨ii,hii,f1,f2,f3,f4⟩:=yh9 hf;have s:=yy2 hd D m;rw [w5 h1,w5 h3] at s;have hle:j*szT T ty+szT T ty<=xs.length*szT T ty:=by rw [<-Nat.succ_mul];exact Q8 _ hj
 have hle2:xs.length*szT T ty<=d.size:=by rw [a5];exact Q8 _ r
 have u:=vd0 hf J (c:=d) (p:=0+j*szT T ty) (by omega);rw [U7] at u;have z:=zp5 hl (zk4 f1 J);refine WR.store a4 s _ u fun w' R V=>K _ _ ⟨S,φ,h.upd E rfl V ?_ ⟨B,(yz2 d (0+(j*szT T ty+c)) v.cells.toList).toList.take (xs.length*szT T ty),?_,by rw [Q1];exact a2,W9 N V.size,?_,?_⟩ ?_ ?_⟩
 ·intro b f;simp at f;subst f;exact ⟨_,.inl C,rfl⟩
 ·rw [C,a2];exact Own.ofBlk R a9 r (by have:=O;unfold maxLen at this;omega) (by rw [yv8];exact a5) _ rfl
 ·have A:c+l.length<=szT T ty:=by
   have:=z.1;have hv:=(zk4 f1 J).len T;rw [this,<-hv,f2];exact f3
  have W:=yy4 (za0 T ty) (zq0 (zv2 T ty) hj) (l:=l) (y:=G) (c:=c) (by rw [zn4 T I,jz2]) A;rw [W,yi8,yv7,W7,a6];exact (CellsR.put z a7).chg T V (by intro b f;simp at f;subst f;exact a8) (fun b f=>.inl f)
 ·intro a Y;rw [C] at Y;simp only [X0] at Y;subst Y;exact a8
 ·intro q hq;cases hq
 ·intro e1 t1 zs he;simp only [Ent.row.injEq] at he;obtain ⟨rfl,rfl,hh⟩:=he;have:=eq_of_heq hh;subst this;exact ⟨e,xs,rfl,by rw [Q1];exact W6 _⟩
def jt5 {α}: ∀(us l:List α) (x:α) (o:Nat),zk8 (x::l) (o+1) us=x::zk8 l o us
 | [],_,_,_=>rfl
 |u::r,l,x,o=>by rw [zk8,zk8,List.set_cons_succ,jt5 r (l.set o u) x (o+1)]
def jk2 {α}: ∀(us l:List α),us.length<=l.length->zk8 l 0 us=us++l.drop us.length
 | [],l,_=>rfl
 |u::r,[],h=>by simp at h
 |u::r,x::l,h=>by
  rw [zk8,N6,jt5,jk2 r l (by simpa using h)];rfl
def kd7 {α} (us pre l:List α) (o:Nat) (h:o+us.length<=l.length):zk8 (pre++l) (pre.length+o) us=pre++zk8 l o us:=by
 have:=yg4 us pre l [] o h;simpa using this
def VRL.putOnes: ∀ {aS l l' B us},Go.X.putOnes T l aS=some l'->BR T w S φ l B->VRL T w S φ aS us->BR T w S φ l' (us++B.drop us.length)/\us.length<=B.length/\ ∀i∈v8 l',i∈v8 l\/i∈v8 aS
 | [],l,l',B,us,h,f,d=>by
  simp only [Go.X.putOnes,X0] at h;subst h;cases us with
  |nil=>exact ⟨f,V1 _,fun i c=>.inl c⟩
  |cons _ _=>exact d.elim
 |b::aS,[],l',B,us,h,f,d=>by cases h
 |b::aS,a::l,l',B,us,h,f,d=>by
  unfold Go.X.putOnes at h;split at h
  ·rename_i g;rw [X3] at g;split at h
   ·rename_i s m;simp only [X0] at h;subst h;obtain ⟨e,p⟩:=f;rw [zi1,zo0 T g.1] at e
    match B,us,e,d with
    |v::B,u::us,e,d=>
     obtain ⟨j,q,r⟩:=VRL.putOnes m ⟨e.2,p.2⟩ d.2;refine ⟨⟨?_,zz1 T g.2,j.2⟩,by simpa using q,fun i c=>?_⟩
     ·rw [zi1,zo0 T g.2];exact ⟨d.1,j.1⟩
     ·rw [v8] at c;rcases X4.1 c with c|c
      ·exact .inr (by rw [v8];exact X4.2 (.inl c))
      ·rcases r i c with c|c
       ·exact .inl (by rw [v8];exact X4.2 (.inr c))
       ·exact .inr (by rw [v8];exact X4.2 (.inr c))
    | [],_,e,_=>exact e.elim
    |_::_,[],_,d=>exact d.elim
   ·cases h
  ·cases h
def BR.turn {f:List (AV T.U)->Option (List (AV T.U))} {cs a:List (AV T.U)} {o d:Nat} {vs us:List Value} {ex:List Nat} (h:ys6 T f cs o=some a) (c:BR T w S φ cs vs)
  (r: ∀(l l':List (AV T.U)) (B:List Value),f l=some l'->BR T w S φ l B->BR T w S φ l' (zk8 B d us)/\d+us.length<=B.length/\ ∀i∈v8 l',i∈v8 l\/i∈ex):
  BR T w S φ a (zk8 vs (o+d) us)/\o+d+us.length<=vs.length/\ ∀i∈v8 a,i∈v8 cs\/i∈ex:=by
 obtain ⟨pre,l,l',g,j,s,t⟩:=ji4 h c.2;obtain ⟨u,C⟩:=BR.at c g t;obtain ⟨q,v,x⟩:=r l l' _ s u;have y:o<=vs.length:=by omega
 have m:(vs.take o).length=o:=by rw [Y6];omega
 have z:(vs.drop o).length=vs.length-o:=Q6 ..;have e:zk8 vs (o+d) us=vs.take o++zk8 (vs.drop o) d us:=by
  have:=kd7 us (vs.take o) (vs.drop o) d v;rw [Q7,m] at this;exact this
 have A:VRL T w S φ (zi1 T pre) (vs.take o):=by
  have:=c.1.take T o;rwa [g,ya3,Z7 (by omega),Q3 (by omega)] at this
 have p:zw2 T pre:=by have:=c.2;rw [g,yv4] at this;exact this.1
 refine ⟨⟨?_,?_⟩,by omega,fun i b=>?_⟩
 ·rw [j,ya3,e];exact VRL.app T A q.1
 ·rw [j,yv4];exact ⟨p,q.2⟩
 ·rw [j,yg1] at b;rw [g,yg1];rcases X4.1 b with b|b
  ·exact .inl (X4.2 (.inl b))
  ·exact (x i b).imp (fun h=>X4.2 (.inr h)) id
def jg8 {t n xs l l' B us} (h:qc8 T t n xs l=some l') (b:BR T w S φ l B) (g:xs.length=n) (j:CellsR T w S (xs.flatMap (zc4 T t)) us):
  BR T w S φ l' (zk8 B 0 us)/\0+us.length<=B.length/\ ∀i∈v8 l',i∈v8 l\/i∈([]:List Nat):=by
 unfold qc8 at h;split at h
 ·rename_i a r;split at h
  ·rename_i p q ys s;have:=zp9 s;subst this;split at h
   ·rename_i m;rw [X3] at m;obtain ⟨c,d⟩:=m;have c:=X1 c;have d:=X1 d;simp only [X0] at h;subst h;have e:us.length=n*szT T t:=by rw [<-j.1,flatMap_lenT (za0 T t),g]
    have u:(je4 T (.arr p q ys)).length=us.length:=by rw [ya2 T b.2.1,e,wd,c,d]
    have f:=b.1.len T;rw [zi1,X9,u] at f;rw [jk2 us B (by omega)];refine ⟨⟨?_,g,b.2.2⟩,by omega,fun i v=>.inl v⟩;rw [zi1];refine VRL.app T (VRL.cells.2 j) ?_;have:=b.1.drop T us.length;rwa [zi1,List.drop_append_of_le_length (by omega),V4 (by omega)] at this
   ·cases h
  ·cases h
 ·cases h
def qg8 {n sz k c l f l2 B us} (h:jz3 T n sz k c l f=some l2) (d:BR T w S φ f B) (z:k<n) (u:CellsR T w S l us):
  BR T w S φ l2 (zk8 B (k*sz+c) us)/\k*sz+c+us.length<=B.length/\ ∀i∈v8 l2,i∈v8 f\/i∈([]:List Nat):=by
 unfold jz3 at h;split at h
 ·rename_i a r;split at h
  ·rename_i ty b xs A;have:=zp9 A;subst this;split at h
   ·rename_i v;rw [X3,X3] at v;obtain ⟨g,j,m⟩:=v;have g:=X1 g;have j:=X1 j;have m:=Y1 m;subst g;subst j;split at h
    ·rename_i y C;simp only [X0] at h;subst h;have q:xs.length=b:=d.2.1;have D:(je4 T (.arr ty b xs)).length=b*szT T ty:=by rw [ya2 T d.2.1];rfl
     have s:=d.1.len T;rw [zi1,X9,D] at s;have E:k*szT T ty+szT T ty<=b*szT T ty:=by rw [<-Nat.succ_mul];exact Q8 _ z
     have G:=u.1;have I:CellsR T w S (xs.flatMap (zc4 T ty)) (B.take (b*szT T ty)):=by
      have:=d.1.take T (b*szT T ty);rw [zi1,Z7 (by omega),Q3 (by omega)] at this;exact VRL.cells.1 this
     have x:=CellsR.put (p:=k*szT T ty+c) u I;have t:=yy4 (za0 T ty) (zq0 (zv2 T ty) (show k<xs.length by omega)) (l:=l) (y:=y) (c:=c) (by rw [zn4 T C,jz2]) m;rw [<-t] at x;have J:(B.take (b*szT T ty)).length=b*szT T ty:=by rw [Y6];omega
     have e:zk8 B (k*szT T ty+c) us=zk8 (B.take (b*szT T ty)) (k*szT T ty+c) us++B.drop (b*szT T ty):=by
      have:=yg4 us [] (B.take (b*szT T ty)) (B.drop (b*szT T ty)) (k*szT T ty+c) (by omega);simpa using this
     refine ⟨⟨?_,by show (xs.set k y).length=b;rw [Q1];exact q,d.2.2⟩,by omega,fun i K=>.inl K⟩;rw [zi1,e];refine VRL.app T (VRL.cells.2 x) ?_;have:=d.1.drop T (b*szT T ty);rwa [zi1,List.drop_append_of_le_length (by omega),V4 (by omega)] at this
    ·cases h
   ·cases h
  ·cases h
 ·cases h
def CellsR.app {cs ds vs us} (h:CellsR T w S cs vs) (e:CellsR T w S ds us):CellsR T w S (cs++ds) (vs++us):=by
 refine ⟨by simp [h.1,e.1],fun j c v b d=>?_⟩;rcases Nat.lt_or_ge j cs.length with a|a
 ·rw [X8 a] at b;rw [X8 (by rw [<-h.1];exact a)] at d;exact h.2 j c v b d
 ·rw [Z2 a] at b;rw [Z2 (by rw [<-h.1];exact a),<-h.1] at d;exact e.2 _ c v b d
def zz6 {ty}: ∀ {m cs xs vs},jh5 T ty m cs=some xs->VRL T w S φ cs vs->xs.length=m/\CellsR T w S (xs.flatMap (zc4 T ty)) vs
 |0,[],xs,vs,h,a=>by
  simp only [jh5,X0] at h;subst h;cases vs with
  |nil=>exact ⟨rfl,rfl,fun j c v h=>by simp at h⟩
  |cons _ _=>exact a.elim
 |0,_::_,_,_,h,_=>by cases h
 |m+1,cs,xs,vs,h,a=>by
  unfold jh5 at h;split at h
  ·rename_i l b;split at h
   ·rename_i x p d e;simp only [X0] at h;subst h;have f:=zp5 b (a.take T (szT T ty));obtain ⟨g,i⟩:=zz6 e (a.drop T (szT T ty));refine ⟨by rw [U6,g],?_⟩;rw [V3,zn4 T d,<-List.take_append_drop (szT T ty) vs];exact f.app i
   ·cases h
  ·cases h
def qu8 {b l l' B us} (h:qy9 T b l=some l') (c:BR T w S φ l B) (d:VRL T w S φ b us):
  BR T w S φ l' (zk8 B 0 us)/\0+us.length<=B.length/\ ∀i∈v8 l',i∈v8 l\/i∈([]:List Nat):=by
 unfold qy9 at h;split at h
 ·split at h
  ·split at h
   ·rename_i xs a;obtain ⟨e,f⟩:=zz6 a d;exact jg8 h c e f
   ·cases h
  ·cases h
 ·cases h
def qx3 {t cs f o a} (h:jo5 T P t cs o a=some f) {vs} (x:BR T w S φ cs vs) {v} (y:VR T w S φ a v):
  BR T w S φ f (zk8 vs o v.cells.toList)/\(∀i∈v8 f,i∈v8 cs\/i∈a.ids)/\ ∀c:Array Value,c.size=vs.length->stv P t c o v=some (yz2 c o v.cells.toList):=by
 unfold jo5 at h;split at h
 ·rename_i ty n xs L;have:=zp9 L;subst this;obtain ⟨us,rfl,M,m⟩:=y;split at h
  ·rename_i i g;split at h
   ·rename_i N;have N:=X1 N;obtain ⟨z,O,A⟩:=BR.turn (d:=0) (us:=us.toList) (ex:= []) h x fun l l' B e q=>jg8 e q M m;have C:us.size=i.size:=by have:=m.1;rw [flatMap_lenT (za0 T ty),M] at this;simp at this;omega
    refine ⟨z,fun i g=>(A i g).imp id (fun h=>absurd h (by simp)),fun c D=>?_⟩;unfold stv;rw [g];simp only;rw [show (Nat.beq (Value.agg us).cells.size i.size&&(Nat.ble (o+i.size) c.size&&(Value.agg us).cells.toList.all Value.oneCell'))=true from ?_];simp only [X3];refine ⟨?_,W3 (by simp at O;omega),?_⟩
    ·show Nat.beq us.size i.size=true;rw [C];exact J2 _
    ·show us.toList.all Value.oneCell'=true;rw [Y8];intro u W;obtain ⟨j,R⟩:=Y9.1 W;have E:=(X2.1 R).1;obtain ⟨s,X⟩: ∃s,(xs.flatMap (zc4 T ty))[j]?=some s:=⟨_,Y0 (by rw [m.1];exact E)⟩;have b:=m.2 j s u X R;obtain ⟨Y,Z⟩:=s;have b:CR T w S Y Z u:=b;cases b<;>rfl
   ·cases h
  ·cases h
 ·split at h
  ·rename_i L e;obtain ⟨ii,hii,V,f2,f3,f4⟩:=yh9 e;have b:=zk4 V y;have hbl:=x.1.len T;obtain ⟨z,O,A⟩:=BR.turn (d:=0) (us:=v.cells.toList) (ex:=v8 (zi0 T a)) h x fun l l' B e q=>by
    unfold gd7 at e;split at e
    ·rename_i r hr;simp only [X0] at e;subst e;obtain ⟨G,I,J⟩:=VRL.putOnes hr q b;exact ⟨by rw [jk2 _ _ I];exact G,by omega,J⟩
    ·obtain ⟨G,I,J⟩:=qu8 e q b;exact ⟨G,I,fun i g=>(J i g).imp id fun h=>by cases h⟩
   refine ⟨z,fun i g=>(A i g).imp id fun h=>by rw [ym3 V] at h;exact h,fun c D=>?_⟩;have K:=b.len T;have:=vd0 e y (c:=c) (p:=o) (by rw [K];omega);exact this
  ·cases h
def yp2 {t x y} (J:dec ops k n F'=some o) (s:o.op=.store t x y) (m:o.dst=none) {i g p e cs f a} (L:ev F' x=some (.pointer (some ⟨g,p,none⟩))) (u:(φ i).ad=some ⟨g,0,none⟩) (E:aev T F y=some a) (z:H[i]?=some (.blk e cs))
  (A: ∀(vs:List Value) (v:Value),BR T w S φ cs vs->VR T w S φ a v->BR T w S φ f (zk8 vs p v.cells.toList)/\(∀j∈v8 f,j∈v8 cs\/j∈a.ids)/\ ∀c:Array Value,c.size=vs.length->stv P t c p v=some (yz2 c p v.cells.toList))
  (h:Sim T w0 S0 ⟨F,H⟩ F' w S φ) (K:zx4 P ops Q (k+1) n ds w0 S0 (⟨F,H.set i (.blk e f)⟩:St T)):WR P ops Q k n ds F' w:=by
 obtain ⟨v,M,N⟩:=w4 h.fr E;obtain ⟨Y,c,B,d,G,O⟩:=h.ents i _ z;rw [u] at B;simp only [X0,Addr.mk.injEq,and_true] at B;subst B;have C:=zd3 h E;have r:=yy2 J s m;rw [w5 L,w5 M] at r;obtain ⟨R,V,W⟩:=A _ v O N;refine WR.store d r _ (W c (by simp)) fun w' D I=>K _ _ ⟨S,φ,h.upd z rfl I ?_ ⟨g,_,u,D,G,?_⟩ ?_ ?_⟩
 ·intro b d;simp at d;subst d;exact ⟨_,.inl u,rfl⟩
 ·rw [yi8];exact R.chg T I (by intro b d;simp at d;subst d;exact G) (fun b d=>.inl d)
 ·intro q l;rw [Ent.cellIds] at l;rcases V q l with l|l
  ·exact h.eids _ _ z q l
  ·exact C.1 q l
 ·intro Z t1 xs X;cases X
def CR.oneCell {t x v} (h:CR T w S t x v):v.oneCell'=true:=by cases h<;>rfl
def CellsR.one {cs vs} (h:CellsR T w S cs vs): ∀u∈vs,u.oneCell'=true:=by
 intro u b;obtain ⟨j,a⟩:=Y9.1 b;have c:=(X2.1 a).1;have:=h.2 j (cs[j]'(by rw [h.1];exact c)) u (Y0 _) a;exact CR.oneCell this
def zc6 {α a:Type} {f:α->List a} {sz:Nat} (b: ∀y,(f y).length=sz) (l:List α):(l.flatMap f).length=l.length*sz:=flatMap_split.flatMap_lenT b
def jj6 {e} {xs:List (den T.U e)} {ad n cap} (h:CR T w S (.list e) xs (.slice ad n cap)):n=xs.length/\(ad=none->n=0/\cap=0)/\ ∃a,Rg w ad a/\CellsR T w S (xs.flatMap (zc4 T e)) a:=by
 generalize d:Value.slice ad n cap=v at h;cases h with
 |list _ _ J C u D i p f m=>
  simp only [Value.slice.injEq] at d;obtain ⟨rfl,rfl,rfl⟩:=d;refine ⟨rfl,i,?_⟩;by_cases E:xs= []
  ·subst E;exact ⟨[],Rg.nil _ _,rfl,fun j c v h=>by simp at h⟩
  obtain ⟨K,_,_⟩:=p E;have q: ∀(l:List (den T.U e)) (s:Nat),(∀k x,l[k]?=some x->xs[s+k]?=some x)->
    ∃a:List Value,CellsR T w S (l.flatMap (zc4 T e)) a/\ ∀j v,a[j]?=some v->w.cell? ⟨bk ad,of ad+(s*szT T e+j),none⟩=some v:=by
   intro l;induction l with
   |nil=>intro s _;exact ⟨[],⟨rfl,fun j c v h=>by simp at h⟩,fun j v h=>by simp at h⟩
   |cons x r L=>
    intro s G;obtain ⟨a,t,z⟩:=L (s+1) (fun k y A=>by rw [show s+1+k=s+(k+1) by omega];exact G (k+1) y (by simpa using A));have I:xs[s]?=some x:=by simpa using G 0 x rfl
    have b:((List.range (szT T e)).map (u s)).length=szT T e:=by simp
    refine ⟨(List.range (szT T e)).map (u s)++a,?_,?_⟩
    ·rw [V3];refine CellsR.app ⟨by rw [za0,b],fun j c v B d=>?_⟩ t;have g:j<szT T e:=by have:=(X2.1 d).1;rw [b] at this;exact this
     rw [W0,List.getElem?_range g] at d;simp only [Z8,X0] at d;subst d;exact m s j c (by rw [I];exact congrArg some B)
    ·intro j v d;rcases Nat.lt_or_ge j (szT T e) with g|g
     ·rw [X8 (by rw [b];exact g),W0,List.getElem?_range g] at d;simp only [Z8,X0] at d;subst d;have B:(zc4 T e x)[j]?=some ((zc4 T e x)[j]'(by rw [za0];exact g)):=Y0 _;exact f s j _ (by rw [I];exact congrArg some B)
     ·rw [Z2 (by rw [b];exact g),b] at d;have:=z _ v d;rwa [show (s+1)*szT T e+(j-szT T e)=s*szT T e+j by rw [K4];omega] at this
  obtain ⟨a,t,z⟩:=q xs 0 (fun k x A=>by rw [W7];exact A);refine ⟨a,fun j v d=>⟨K,?_⟩,t⟩;have:=z j v d;rwa [K7,W7] at this
def ga2 {t} {c:Cell T.U} {xs} (h:c.aS (.list t)=some xs):c=⟨.list t,xs⟩:=Cell.as_eq h
def vr0 {ty a xs} (d:appA.rowIn T ty H a=some xs) (h:Sim T w0 S0 ⟨F,H⟩ F' w S φ) {v} (f:VR T w S φ a v):
  ∃ad cap b,v=.slice ad xs.length cap/\(ad=none->xs.length=0/\cap=0)/\Rg w ad b/\CellsR T w S (xs.flatMap (zc4 T ty)) b:=by
 unfold appA.rowIn at d;split at d
 ·rename_i c;split at d
  ·rename_i ys x;have d:ys=xs:=X5 d;subst d;have:=ga2 x;subst this;have f:CR T w S (.list ty) ys v:=f;have g:=f;cases g with
   |list _ _ ad cap u r s y l t=>
    obtain ⟨_,m,b,z,p⟩:=jj6 f;exact ⟨ad,cap,b,rfl,m,z,p⟩
  ·cases d
 ·rename_i i;split at d
  ·rename_i e ty' ys A;split at d
   ·rename_i C;subst C;simp only [X0] at d;subst d;obtain ⟨B,b,q,m,_,p,_⟩:=h.ents i _ A;rw [VR] at f;subst f;rw [m] at q⊢;exact ⟨_,_,b,rfl,q.nil0,q.rg,p⟩
   ·cases d
  ·cases d
 ·simp only [X0] at d;subst d;rw [VR] at f;subst f;exact ⟨none,0,[],rfl,fun _=>⟨rfl,rfl⟩,Rg.nil _ _,rfl,fun j c v h=>by simp at h⟩
 ·cases d
def yp0 {α c:Type} {f:α->List c} {sz:Nat} (d: ∀y,(f y).length=sz) (xs:List α) (o n:Nat):((xs.drop o).take n).flatMap f=((xs.flatMap f).drop (o*sz)).take (n*sz):=by
 have b: ∀(l:List α) (k:Nat),(l.take k).flatMap f=(l.flatMap f).take (k*sz)/\(l.drop k).flatMap f=(l.flatMap f).drop (k*sz):=by
  intro l;induction l with
  |nil=>intro k;simp
  |cons a r g=>
   intro k;cases k with
   |zero=>simp
   |succ k=>
    obtain ⟨h,i⟩:=g k;have e:(k+1)*sz=(f a).length+k*sz:=by rw [d,K4,J1]
    refine ⟨?_,?_⟩
    ·rw [List.take_succ_cons,V3,V3,h,e,List.take_append,Q3 (Nat.le_add_right _ _),M9]
    ·rw [List.drop_succ_cons,V3,i,e,List.drop_append];simp
 rw [(b _ n).1,(b _ o).2]
def kg2 {R:Type} {r:R} {ty:Ty} {a:AV T.U} {K:List (den T.U ty)->Option R} (b:appA.rowX T ty H a K=some r) (h:Sim T w0 S0 ⟨F,H⟩ F' w S φ) {v:Value} (m:VR T w S φ a v):
  ∃xs,K xs=some r/\ ∃ad cap d,v=.slice ad xs.length cap/\(ad=none->xs.length=0/\cap=0)/\Rg w ad d/\CellsR T w S (xs.flatMap (zc4 T ty)) d:=by
 unfold appA.rowX at b;split at b
 ·rename_i ys t;exact ⟨ys,b,vr0 t h m⟩
 ·rename_i t;clear t;split at b<;>try (cases b;done)
  rename_i i sz o n;split at b<;>try (cases b;done)
  rename_i e ty' xs E;split at b<;>try (cases b;done)
  rename_i x;have:=X1 x;subst this;split at b<;>try (cases b;done)
  rename_i G;subst G;split at b<;>try (cases b;done)
  rename_i I;refine ⟨_,b,?_⟩;obtain ⟨B,d,J,M,_,C,_⟩:=h.ents i _ E;obtain ⟨ad,rfl,D,L,p,_⟩:=m;have f:(List.take n (List.drop o xs)).length=n:=by rw [Y6,Q6];omega
  refine ⟨ad,(φ i).cap-o,(d.drop (o*szT T ty')).take (n*szT T ty'),?_,?_,?_,?_,?_⟩
  ·show Value.slice ad n _=Value.slice ad (List.take n (List.drop o xs)).length _;rw [f]
  ·intro y;show (List.take n (List.drop o xs)).length=0/\_;rw [f];exact p y
  ·intro j u l;rcases L with rfl|⟨g,z,A⟩
   ·simp at l
   ·rw [Z3] at l;split at l<;>try (cases l;done)
    rw [Q5] at l;obtain ⟨_,q⟩:=J.rg _ _ l;subst A;rw [z] at q;refine ⟨rfl,?_⟩;simp only [bk,of,W7] at q⊢;exact q
  ·rw [yp0 (za0 T ty'),Y6,Q6,Y6,Q6,C.1]
  ·intro j c v s m;rw [yp0 (za0 T ty'),Z3] at s;rw [Z3] at m;split at s<;>try (cases s;done)
   rename_i l;rw [if_pos l] at m;rw [Q5] at s m;exact C.2 _ _ _ s m
def vl8 {x y t c} (f:dec ops k n F'=some o) (a:o.op=.call c) (d:c.callee=.builtin .append) (e:c.args.toList= [x,y]) (b:c.argTypes.toList= [t,t]):jl2 ops k n F'=some (o.dst,t,evD F' x,evD F' y):=by
 unfold jl2;rw [f];cases o;cases c;simp only at a d e b;subst a;subst d;simp only [e,b,J2]
def vk4 {R:Type} {r:R} {x y:Operand} {t:TypeId} {c:Call} (hd:dec ops k n F'=some o) (hop:o.op=.call c) (hc:c.callee=.builtin .append) (ha:c.args.toList= [x,y]) (hat:c.argTypes.toList= [t,t]) {ty:Ty} {s a:AV T.U} (hx:aev T F x=some s) (hy:aev T F y=some a)
  {K0:AV T.U->List (Ent T.U)->Option R} (l:appA T P ty t H s a K0=some r) (h:Sim T w0 S0 ⟨F,H⟩ F' w S φ) (K: ∀b H1,K0 b H1=some r->zx4 P ops Q (k+1) n ds w0 S0 (⟨zc2 T F o.dst b,H1⟩:St T)):WR P ops Q k n ds F' w:=by
 obtain ⟨X,h1,h2⟩:=w4 h.fr hx;obtain ⟨Y,h3,h4⟩:=w4 h.fr hy;unfold appA at l;split at l
 ·rename_i et sz by_ zc he;split at l
  ·rename_i d;simp only [X3] at d;have hsz:=X1 d.1;subst hsz;have hs1:=Y1 d.2.1;have hby:=Y1 d.2.2.1;have z:=d.2.2.2;split at l
   ·rename_i xs g;obtain ⟨ys,G,xd,xcap,u,rfl,I,hrg,D⟩:=kg2 l h h4;obtain ⟨J,hK⟩:=za3 G;clear l G;have L:=vl8 hd hop hc ha hat;rw [w5 h1,w5 h3] at L;have hl:u.length=ys.length*szT T ty:=by rw [<-D.1,zc6 (za0 T ty)]
    have hle':xs.length+ys.length<=140737488355328:=W9 (Nat.le_mul_of_pos_right _ hby) J;have M: ∃ad cap B cs,X=.slice ad xs.length cap/\Own w B et (szT T ty) ad xs.length cap cs/\B<=w.heap.size/\CellsR T w S (xs.flatMap (zc4 T ty)) cs/\(∀b∈zv1 ad,b∈S)/\(∀b∈zv1 ad,b∈S0.chg\/w0.heap.size<=b)/\
      (∀(j:Nat) (e:Ent T.U),(appA.goneA T H s)[j]?=some e->e.live=true-> ∀q,At (φ j) q->q.block∉zv1 ad)/\Sim T w0 S0 ⟨F,appA.goneA T H s⟩ F' w S φ/\(appA.goneA T H s).length=H.length:=by
     unfold appA.rowIn at g;split at g
     ·cases z
     ·rename_i i;split at g
      ·rename_i e' ty' zs N;split at g
       ·rename_i ht;subst ht;have g:zs=xs:=X5 g;subst g;obtain ⟨B,O,q1,q2,q3,q4,q5⟩:=h.ents i _ N;have hee:e'=et:=by
         unfold appA.eOk at z;have hi':H[i]?=some (.row e' ty' zs):=N;simp only [hi'] at z;exact X1 z
        subst hee;rw [VR] at h2;subst h2;rw [q2] at q1⊢;refine ⟨_,_,B,O,rfl,q1,q3,q4,?_,?_,?_,h.drop i,by simp [appA.goneA]⟩
        ·intro b d;unfold zv1 at d;split at d
         ·rename_i a m;simp at d;subst d;exact q5 a m
         ·cases d
        ·intro b d;unfold zv1 at d;split at d
         ·rename_i a m;simp at d;subst d;exact (h.lives i _ N rfl a (.inl m)).2
         ·cases d
        ·intro j f V hl q m W;have Z:j≠i:=by
          intro e;subst e;have E:j<H.length:=(X2.1 N).1;rw [show appA.goneA T H (.own j)=H.set j .gone from rfl,Q0 E] at V;simp only [X0] at V;subst V;cases hl
         rw [show appA.goneA T H (.own i)=H.set i .gone from rfl,Z5 (Ne.symm Z)] at V;unfold zv1 at W;split at W
         ·rename_i a ha';simp at W;exact h.apart j i f _ V N hl rfl Z q a m (.inl ha') W
         ·cases W
       ·cases g
      ·cases g
     ·have g: []=xs:=X5 g;subst g;rw [VR] at h2;subst h2;exact ⟨none,0,w.heap.size,[],rfl,Own.nil _ _ _ _,W6 _,⟨rfl,fun j c v h=>(by simp at h)⟩,fun b d=>(by cases d),fun b d=>(by cases d),fun j e _ _ q _=>(by simp [zv1]),h,rfl⟩
     ·cases g
    obtain ⟨ad,cap,B,cs,rfl,o1,o2,o3,o4,oc,o5,o6,o7⟩:=M;refine WR.append o1 hrg L he hl hs1 D.one o2 (by omega) J I fun A cap' w' g1 g2 g3=>?_;have hnl:(xs++ys).length=xs.length+ys.length:=X9;have hS1: ∃S1:List Nat,(∀b∈S,b∈S1)/\(∀b∈S1,b∈S\/(w.heap.size<=b/\b<w'.heap.size))/\(∀q,A=some q->q.block∈S1)/\ ∀q,A=some q->w.heap.size<=q.block\/q.block∈zv1 ad:=by
     cases A with
     |none=>exact ⟨S,fun _ h=>h,fun _ h=>.inl h,fun q h=>(by cases h),fun q h=>(by cases h)⟩
     |some q=>
      have E:q.block<w'.heap.size:=by
       rcases g1.ge with hn|hn
       ·cases hn
       ·exact hn.2
      have p:w.heap.size<=q.block\/q.block∈zv1 ad:=by
       rcases g3 with g3|g3
       ·right;rw [<-g3];simp [zv1]
       ·left;exact g3
      refine ⟨q.block::S,fun b d=>Z4 _ d,fun b d=>?_,fun q' h=>by simp only [X0] at h;subst h;simp,fun q' h=>by simp only [X0] at h;subst h;exact p⟩;rcases Z0.1 d with rfl|d
      ·rcases p with p|p
       ·exact .inr ⟨p,E⟩
       ·exact .inl (o4 _ p)
      ·exact .inl d
    obtain ⟨S1,s1,s2,s3,s4⟩:=hS1;have hCr:CellsR T w' S1 ((xs++ys).flatMap (zc4 T ty)) (cs++u):=by
     rw [M6];exact (o3.app D).chg T g2 o4 (fun b d=>(s2 b d).imp id And.left)
    have C:=o6.addG g2 o4 oc o5 s1 s2 (r:=⟨A,xs.length+ys.length,cap',[]⟩) (fun q m=>s4 q (yb7 m)) (fun q m=>s3 q (yb7 m)) (e:=.row et ty (xs++ys))
     ⟨B,cs++u,by rw [w6];exact g1,by rw [w6,hnl],W9 o2 g2.size,hCr,fun q m=>by rw [w6] at m;exact s3 q m⟩ (by intro q m;cases m)
    rw [o7] at C;refine K _ _ hK _ _ ⟨_,_,C.slot (a:=.own H.length) (by rw [VR,w6]) ⟨?_,trivial⟩⟩;intro q m;simp [AV.ids] at m;subst m;rw [X9,o7];simp
   ·cases l
  ·cases l
 ·cases l
def qs1 {t x y} (b:dec ops k n F'=some o) (a:o.op=.makeSlice t x y):je2 ops k n F'=some (o.dst,t,evD F' x,evD F' y):=by
 unfold je2;rw [b];cases o;simp only at a;subst a;rfl
def yb6 {α c:Type} {f:α->List c} {sz:Nat} {x:α} (b:(f x).length=sz): ∀(m j:Nat),j<m*sz->((List.replicate m x).flatMap f)[j]?=(f x)[j%sz]?
 |0,j,h=>by simp at h
 |m+1,j,h=>by
  rw [List.replicate_succ,V3];rcases Nat.lt_or_ge j sz with a|a
  ·rw [X8 (by omega),Nat.mod_eq_of_lt a]
  ·rw [Z2 (by omega),b,yb6 b m (j-sz) (by rw [K4] at h;omega)];congr 1;exact (Nat.mod_eq_sub_mod a).symm
def yo6 {l cs} (h:cellsOf T (l.map (yz0 T))=some cs):CellsR T w S cs l:=zp5 (φ:=fun _=>⟨none,0,0,[]⟩) h (zz2 T l)
def gc6 {R:Type} {r:R} {x y:Operand} {t:TypeId} (hd:dec ops k n F'=some o) (L:o.op=.makeSlice t x y) {ty:Ty} {k1 k2:IntKind} {l c:Int} (hx:aev T F x=some (cI T k1 l)) (hy:aev T F y=some (cI T k2 c))
  {K0:AV T.U->List (Ent T.U)->Option R} (d:jp5 T P ty t H l c K0=some r) (h:Sim T w0 S0 ⟨F,H⟩ F' w S φ) (K: ∀b H1,K0 b H1=some r->zx4 P ops Q (k+1) n ds w0 S0 (⟨zc2 T F o.dst b,H1⟩:St T)):WR P ops Q k n ds F' w:=by
 obtain ⟨X,A,p⟩:=w4 h.fr hx;obtain ⟨Y,h3,h4⟩:=w4 h.fr hy;have e1:=za4 p;have e2:=za4 h4;subst e1;subst e2;unfold jp5 at d;split at d
 ·rename_i e sz by_ I he;split at d
  ·rename_i z q hz;have q:=X1 q;subst q;split at d
   ·rename_i J M;obtain ⟨⟨g1,g2,g3,g4⟩,hK⟩:=za3 d;have B:=qs1 hd L;rw [w5 A,w5 h3] at B;obtain ⟨i,zv,_,_,_,_,_,_,C⟩:=zj2 he;refine WR.make B he l.toNat c.toNat (by omega) (by omega) (by omega) g3 (by omega) fun g w' s=>?_;have D:=Own.made (m:=l.toNat) (m':=c.toNat) s (by omega) (by omega);have hS: ∀b∈g::S,b∈S\/w.heap.size<=b:=by
     intro b N;rcases Z0.1 N with rfl|N
     ·exact .inr s.fresh
     ·exact .inl N
    have O:CellsR T w' (g::S) (zc4 T ty J) I.toList:=by rw [zn4 T M];exact yo6 hz
    have hc:CellsR T w' (g::S) ((List.replicate l.toNat J).flatMap (zc4 T ty)) ((madeCells I (c.toNat*szT T ty)).toList.take (l.toNat*szT T ty)):=by
     have V:(madeCells I (c.toNat*szT T ty)).toList.length=c.toNat*szT T ty:=by rw [N0,size_madeCells]
     have W:l.toNat*szT T ty<=c.toNat*szT T ty:=Q8 _ (by omega);refine ⟨by rw [zc6 (za0 T ty),Z9,Y6,V,J7 W],fun j c v A p=>?_⟩;have u:=(X2.1 A).1;rw [zc6 (za0 T ty),Z9] at u;rw [yb6 (za0 T ty J) _ _ u] at A;rw [Z3,if_pos u] at p;refine O.2 _ c v A ?_;have f:0<szT T ty:=by
      rcases N3 (szT T ty) with Z|Z
      ·rw [Z] at u;omega
      ·exact Z
     rw [<-C] at f;unfold madeCells at p;simp only [N1,Array.toList_range,W0] at p;rw [List.getElem?_range (by omega)] at p;simp only [Z8,X0] at p;subst p;rw [<-C,Array.getElem?_toList,Z6 (Nat.mod_lt _ f)];congr 1;rw [getElem!_pos I _ (Nat.mod_lt _ f)]
    have E:=h.add (r:=⟨some ⟨g,0,none⟩,l.toNat,c.toNat,[]⟩) s.chg s.fresh s.blk.lt (fun a G=>yj6 G) (e:=.row e ty (List.replicate l.toNat J))
     ⟨w.heap.size,_,by rw [w6];exact D,by rw [w6,Z9],s.chg.size,hc,fun a G=>by rw [w6] at G;simp only [X0] at G;subst G;simp⟩ (by intro j u;cases u)
    refine K _ _ hK _ _ ⟨_,_,E.slot (a:=.own H.length) (by rw [VR,w6]) ⟨by intro i hi;simp [AV.ids] at hi;subst hi;simp,trivial⟩⟩
   ·cases d
  ·cases d
 ·cases d
def qj3 {t a ps e c} (d:dec ops k n F'=some o) (b:o.op=.buildSlice t a ps) (f:yd4 P t a (ps.toList.map fun p=>(p.1,evD F' p.2))=some (e,c)):vt4 P ops k n F'=some (o.dst,a,e,c):=by
 unfold vt4;rw [d];cases o;simp only at b;subst b;have:(ps.map fun p=>(p.1,evD F' p.2)).toList=ps.toList.map fun p=>(p.1,evD F' p.2):=by simp
 simp only [this,f]
def vl1 {t c ps} (hd:dec ops k n F'=some o) (B:o.op=.buildSlice t c ps) {ty l} (hl:zx2 T F ps.toList=some l) {e xs} (m:qx6 T P ty t c l=some (e,xs))
  (h:Sim T w0 S0 ⟨F,H⟩ F' w S φ) (K:zx4 P ops Q (k+1) n ds w0 S0 (⟨zc2 T F o.dst (.own H.length),H++ [.row e ty xs]⟩:St T)):WR P ops Q k n ds F' w:=by
 unfold qx6 at m;split at m
 ·rename_i Y sz by_ zc he;split at m
  ·rename_i s;simp only [X3] at s;have C:=X1 s.1;subst C;have D:=Y1 s.2.1;have E:=Y1 s.2.2;split at m
   ·rename_i cs G;split at m
    ·rename_i zs I;simp only [X0,X7] at m;obtain ⟨rfl,rfl⟩:=m;obtain ⟨i,x,hu,J,L,v,_,M,N⟩:=zj2 he;subst M;obtain ⟨e1,e2⟩:=yc6 h.fr hl;have O:VRL T w S φ ((List.range (c*szT T ty)).map fun j=>yz0 T (x.cells[j%szT T ty]!)) ((Array.range (c*i.size)).map (x.cells[· %x.cells.size]!)).toList:=by
      rw [v,N,N1,Array.toList_range];generalize List.range (c*szT T ty)=rr;induction rr with
      |nil=>trivial
      |cons a r ih=>exact ⟨yr9 T _,ih⟩
     obtain ⟨c',Z,g2⟩:=yh8 O e1 e2 G;obtain ⟨r1,r2⟩:=zz6 I g2;have R:yd4 P t c (ps.toList.map fun p=>(p.1,evD F' p.2))=some (Y,c'):=by
      unfold yd4;rw [hu];simp only [J];rw [v,W3 E];simp only;rw [v] at Z;have d:Instr.fill (fun j=>some (j*szT T ty,szT T ty)) ((Array.range (c*szT T ty)).map (x.cells[· %x.cells.size]!)) (ps.toList.map fun p=>(p.1,evD F' p.2))=some c':=Z;cases hz:Nat.beq (c*szT T ty) 0 with
      |true=>
       have:=X1 hz;simp only;rw [this] at d⊢;have V:Array.range 0= #[]:=rfl;rw [V] at d⊢;have em: ∀f:Nat->Value,Array.map f #[]= #[]:=fun f=>by simp
       rw [em] at d⊢;rw [d]
      |false=>simp only [L,d]
     have q:c'.size=c*szT T ty:=by
      have:=g2.len T;have h2:=r2.1;rw [zc6 (za0 T ty),r1] at h2;simpa using h2.symm
     refine WR.bslice c' (qj3 hd B R) fun g w' u=>?_;have hS: ∀b∈g::S,b∈S\/w.heap.size<=b:=by
      intro b m;rcases Z0.1 m with rfl|m
      ·exact .inr u.fresh
      ·exact .inl m
     have W:c<=9223372036854775807:=by
      have:c<=c*szT T ty:=Nat.le_mul_of_pos_right _ D;omega
     have X:c'.toList.take (c*szT T ty)=c'.toList:=Q3 (by rw [N0,q];exact W6 _);have y:=Own.ofBlk u.blk u.fresh (W6 c) W q _ X;have z:=h.add (r:=⟨some ⟨g,0,none⟩,c,c,[]⟩) u.chg u.fresh u.blk.lt (fun a A=>yj6 A) (e:=.row Y ty zs)
      ⟨w.heap.size,_,by rw [w6];exact y,by rw [w6,r1],u.chg.size,r2.chg T u.chg (by simp) hS,fun a A=>by rw [w6] at A;simp only [X0] at A;subst A;simp⟩ (by intro j hj;cases hj)
     refine K _ _ ⟨_,_,z.slot (a:=.own H.length) (by rw [VR,w6]) ⟨by intro i hi;simp [AV.ids] at hi;subst hi;simp,trivial⟩⟩
    ·cases m
   ·cases m
  ·cases m
 ·cases m
end
end Go.X
namespace Go.X
open Go.RowKit Go.V
def j7 {α b:Type} (o:Option α) (f:α->Option b):Option b:=match o with|some a=>f a|none=>none
def za8 {α b:Type} {o:Option α} {f:α->Option b} {y:b} (h:j7 o f=some y): ∃a,o=some a/\f a=some y:=by
 unfold j7 at h;split at h
 ·exact ⟨_,rfl,h⟩
 ·cases h
section
variable (T:Tab)
def jb4:Ty->Bool
 | .user i=>T.scal i
 |t=>t.scal
def vt2 {U:Nat->Type}:Cell U->Value
 |⟨.int k,x⟩=>.int k x
 |⟨.bool,x⟩=>.bool x
 |⟨.str,x⟩=>.string x
 |_=>undef
def wa2 (t:Ty) (x:den T.U t):Value:=
 match t,x with
 | .user i,x=>.agg ((T.cells i x).map vt2).toArray
 | .int k,x=>.int k x
 | .bool,x=>.bool x
 | .str,x=>.string x
 | .list _,_=>undef
 | .nl _,_=>undef
def zm8 (t:Ty) (x:den T.U t):AV T.U:=
 match t,x with
 | .user i,x=>.agg ((T.cells i x).map .cell)
 | .int k,x=>.cell ⟨.int k,x⟩
 | .bool,x=>.cell ⟨.bool,x⟩
 | .str,x=>.cell ⟨.str,x⟩
 | .list e,x=>.cell ⟨.list e,x⟩
 | .nl e,x=>.cell ⟨.nl e,x⟩
def jm4 (t:Ty) (a:AV T.U):Option (den T.U t):=
 match t,a with
 | .user i,.agg cs=>match cellsOf T cs with|some l=>T.pack i l|none=>none
 | .user _,_=>none
 | .list _,.raw (.slice none 0 0)=>some []
 | .nl _,.raw (.slice none 0 0)=>some []
 |t,.cell c=>c.aS t
 |_,_=>none
def nlL {R:Type} (t e:Ty) (xs:List (den T.U t)) (K:List (den T.U e)->Option R):Option R:=
 match t,e,xs,K with
 | .nl a,.list b,xs,K=>if h:a=b then K (h▸xs:List (List (den T.U b))) else none
 |_,_,_,_=>none
def rdN {R:Type} (H:List (Ent T.U)) (t:Ty) (a:AV T.U) (K:den T.U t->Option R):Option R:=
 match t,a,K with
 | .list e,.cell ⟨.nl b,xs⟩,K=>if h:b=e then K (h▸xs:List (den T.U e)) else none
 | .nl e,.cell ⟨.list b,xs⟩,K=>if h:b=e then (if 0<(h▸xs:List (den T.U e)).length then K (h▸xs:List (den T.U e)) else none) else none
 | .nl e,.own i,K=>match H[i]? with
  |some (.row _ t xs)=>if h:t=e then (if 0<(h▸xs:List (den T.U e)).length then K (h▸xs:List (den T.U e)) else none) else none
  |_=>none
 |_,_,_=>none
def jo0 {R:Type} (H:List (Ent T.U)) (t:Ty) (a:AV T.U) (K:den T.U t->Option R):Option R:=
 match t,a,K with
 | .list e,.own i,K=>match H[i]? with
  |some (.row _ t xs)=>(if h:t=e then K (h▸xs) else none)
  |_=>none
 | .list e,.sl i sz o n,K=>match H[i]? with
  |some (.row _ t xs)=>match Nat.beq sz (szT T t) with
   |true=>(if h:t=e then (if o+n<=xs.length then K ((h▸xs:List (den T.U e)).drop o |>.take n) else none) else none)
   |false=>none
  |_=>none
 | .list e,.asl i o sz n c m,K=>match H[i]? with
  |some (.blk _ cs)=>match yy8 T cs o with
   |some (b::_)=>match jd1 b with
    |some ⟨t,d,xs⟩=>match Nat.beq d n&&Nat.beq sz (szT T t) with
     |true=>(if h:t=e then K ((h▸xs:List (den T.U e)).drop c |>.take m) else nlL T t e ((xs.drop c).take m) K)
     |false=>none
    |none=>none
   |_=>none
  |_=>none
 |t,a,K=>match jm4 T t a with|some x=>K x|none=>rdN T H t a K
def qn7 {R:Type} (H:List (Ent T.U)):List Ty->List (AV T.U)->(List (Cell T.U)->Option R)->Option R
 | [],[],K=>K []
 |t::b,a::aS,K=>match t.one with|true=>jo0 T H t a fun x=>qn7 H b aS fun l=>K (⟨t,x⟩::l)|false=>none
 |_,_,_=>none
def ul7 (i:Nat):List Ty:=(T.cells i (T.d i)).map (·.t)
def rdF {R:Type} (H:List (Ent T.U)) (t:Ty) (a:AV T.U) (K:den T.U t->Option R):Option R:=
 match t,a,K with
 | .user i,.agg cs,K=>qn7 T H (ul7 T i) cs fun l=>match T.pack i l with|some x=>K x|none=>none
 |t,a,K=>jo0 T H t a K
end
section
variable {T:Tab} {P:Program} {w w':World} {S S':List Nat} {φ φ':Nat->RA} {w0:World} {S0:Ow} {F:AF T} {H:List (Ent T.U)} {F':PF}
def CR.sub0 {t x v} (h:CR T w S t x v) (a: ∀b∈S',b∈S):CR T w S' t x v:=h.chg T (Chg.refl [] w) (by simp) fun b c=>.inl (a b c)
def yu4: ∀ {cs:List (Cell T.U)} {vs},VRL T w S φ (cs.map .cell) vs-> ∀(S':List Nat) (φ':Nat->RA),(∀b∈S',b∈S)->VRL T w S' φ' (cs.map .cell) vs
 | [],[],_,_,_,_=>trivial
 | [],_::_,h,_,_,_=>h.elim
 |_::_,[],h,_,_,_=>h.elim
 |_::_,_::_,h,S',φ',a=>⟨CR.sub0 h.1 a,yu4 h.2 S' φ' a⟩
def qq5 {t x v} (h:VR T w S φ (zm8 T t x) v) (φ') (a: ∀b∈S',b∈S):VR T w S' φ' (zm8 T t x) v:=by
 cases t with
 |user i=>
  obtain ⟨vs,c,d⟩:=h;exact ⟨vs,c,yu4 d _ _ a⟩
 |int k=>exact CR.sub0 h a
 |bool=>exact CR.sub0 h a
 |str=>exact CR.sub0 h a
 |list e=>exact CR.sub0 h a
 |nl e=>exact CR.sub0 h a
def zp4: ∀ {aS l},cellsOf T aS=some l->aS=l.map .cell
 | [],l,h=>by simp only [cellsOf,X0] at h;subst h;rfl
 |a::r,l,h=>by
  unfold cellsOf at h;split at h
  ·rename_i c l' b d;simp only [X0] at h;subst h;rw [W8,<-zp4 d];unfold qx8 at b;split at b
   ·simp only [X0] at b;subst b;rfl
   ·cases b
  ·cases h
def CR.empty {e ad cap} (a:ad=none->cap=0):CR T w S (.list e) [] (.slice ad 0 cap):=
 .list e [] ad cap (fun _ _=>undef) (V1 _) (fun h=>⟨rfl,a h⟩) (fun h=>absurd rfl h) (fun k j c h=>by simp at h) fun k j c h=>by simp at h
def CR.recap {e xs ad cap a} (h:CR T w S (.list e) xs (.slice ad xs.length cap)) (k:xs.length<=a) (l:ad=none->a=0):CR T w S (.list e) xs (.slice ad xs.length a):=by
 generalize g:Value.slice ad xs.length cap=v at h;cases h with
 |list _ _ m i u j c f b d=>
  simp only [Value.slice.injEq,true_and] at g;obtain ⟨rfl,rfl⟩:=g;exact .list e xs ad a u k (fun h=>⟨(c h).1,l h⟩) f b d
def qe7 {i e t xs} (h:EntR T w S φ i (.row e t xs)) (u: ∀b∈S',b∈S) (v: ∀a,(φ i).ad=some a->a.block∉S'):CR T w S' (.list t) xs (.slice (φ i).ad (φ i).n (φ i).cap):=by
 obtain ⟨B,f,l,r,A,s,C⟩:=h;have m: ∀(k j:Nat) (c:Cell T.U),(xs[k]?.map fun x=>(zc4 T t x)[j]?)=some (some c)->(xs.flatMap (zc4 T t))[k*szT T t+j]?=some c:=by
  intro k j c d;cases hx:xs[k]? with
  |none=>rw [hx] at d;cases d
  |some x=>
   rw [hx] at d;simp only [Z8,X0] at d;have:=yk4 (za0 T t) hx;have y:j<szT T t:=by have:=(X2.1 d).1;rwa [za0] at this
   rw [<-this,Z3,if_pos y,Q5] at d;exact d
 have g: ∀(k j:Nat) (c:Cell T.U),(xs[k]?.map fun x=>(zc4 T t x)[j]?)=some (some c)->f[k*szT T t+j]?=some (f.getD (k*szT T t+j) undef):=by
  intro k j c d;have:=(X2.1 (m k j c d)).1;rw [s.1] at this;exact zq0 undef this
 rw [r];rw [r] at l;refine .list t xs _ _ (fun k j=>f.getD (k*szT T t+j) undef) l.le.1 l.nil0 ?_ ?_ ?_
 ·intro p;rcases l.cases with ⟨_,z,_⟩|⟨c,o,_,q,_⟩
  ·exact absurd (N9 z) p
  ·exact ⟨by rw [o];rfl,q.lt,v _ o⟩
 ·intro k j c d;exact (l.rg _ _ (g k j c d)).2
 ·intro k j c d;exact CR.sub0 (s.2 _ c _ (m k j c d) (g k j c d)) u
def CR.nilS {e}:CR T w S (.list e) [] (.slice none 0 0):=CR.empty fun _=>rfl
def wa5 {t c x} (h:c.aS t=some x) {v} (a:VR T w S φ (.cell c) v) (b: ∀i,t≠.user i):VR T w S φ (zm8 T t x) v:=by
 have:=Cell.as_eq h;subst this;cases t<;>first|exact a|exact absurd rfl (b _)
def yb0 {t:Ty} {a:AV T.U} {x:den T.U t} (h:jm4 T t a=some x) {v:Value} (hv:VR T w S φ a v) (φ':Nat->RA):VR T w S φ' (zm8 T t x) v:=by
 have one: ∀ {t:Ty} {c:Cell T.U} {x:den T.U t},(∀i,t≠.user i)->c.aS t=some x->VR T w S φ (.cell c) v->VR T w S φ' (zm8 T t x) v:=
  fun hnu h hv=>qq5 (wa5 h hv hnu) φ' fun _ h=>h
 cases t with
 |user i=>
  cases a<;>simp only [jm4,reduceCtorEq] at h;rename_i cs;split at h
  ·rename_i l hl;have:=T.packed _ _ _ h;obtain ⟨vs,h1,h2⟩:=hv;refine ⟨vs,h1,?_⟩;rw [this];rw [zp4 hl] at h2;exact yu4 h2 _ _ fun _ h=>h
  ·cases h
 |list e=>
  cases a with
  |cell c=>exact one (by intro i hi;cases hi) h hv
  |raw u=>
   have hu:u=.slice none 0 0/\x= []:=by
    cases u with
    |slice ad n c=>
     cases ad with
     |some _=>cases h
     |none=>
      cases n with
      |succ _=>cases h
      |zero=>
       cases c with
       |succ _=>cases h
       |zero=>exact ⟨rfl,(X5 h).symm⟩
    |_=>cases h
   obtain ⟨rfl,rfl⟩:=hu;rw [VR] at hv;subst hv;exact CR.nilS
  |_=>cases h
 |nl e=>
  cases a with
  |cell c=>exact one (by intro i hi;cases hi) h hv
  |raw u=>
   have hu:u=.slice none 0 0/\x= []:=by
    cases u with
    |slice ad n c=>
     cases ad with
     |some _=>cases h
     |none=>
      cases n with
      |succ _=>cases h
      |zero=>
       cases c with
       |succ _=>cases h
       |zero=>exact ⟨rfl,(X5 h).symm⟩
    |_=>cases h
   obtain ⟨rfl,rfl⟩:=hu;rw [VR] at hv;subst hv;exact .nl e [] none 0 CR.nilS fun _=>⟨rfl,rfl⟩
  |_=>cases h
 |int k=>cases a<;>first|(cases h;done)|exact one (by intro i hi;cases hi) h hv
 |bool=>cases a<;>first|(cases h;done)|exact one (by intro i hi;cases hi) h hv
 |str=>cases a<;>first|(cases h;done)|exact one (by intro i hi;cases hi) h hv
def ul0 {g p cap t} {xs:List (den T.U t)} {a} (l:g<w.heap.size) (m:Rg w (some ⟨g,p,none⟩) a) (i:CellsR T w S (xs.flatMap (zc4 T t)) a) (f:xs.length<=cap) (n: ∀b∈S',b∈S) (o:g∉S'):CR T w S' (.list t) xs (.slice (some ⟨g,p,none⟩) xs.length cap):=by
 have h: ∀(k j:Nat) (c:Cell T.U),(xs[k]?.map fun x=>(zc4 T t x)[j]?)=some (some c)->(xs.flatMap (zc4 T t))[k*szT T t+j]?=some c:=by
  intro k j c d;cases hx:xs[k]? with
  |none=>rw [hx] at d;cases d
  |some x=>
   rw [hx] at d;simp only [Z8,X0] at d;have:=yk4 (za0 T t) hx;have q:j<szT T t:=by have:=(X2.1 d).1;rwa [za0] at this
   rw [<-this,Z3,if_pos q,Q5] at d;exact d
 have e: ∀(k j:Nat) (c:Cell T.U),(xs[k]?.map fun x=>(zc4 T t x)[j]?)=some (some c)->a[k*szT T t+j]?=some (a.getD (k*szT T t+j) undef):=by
  intro k j c d;have:=(X2.1 (h k j c d)).1;rw [i.1] at this;exact zq0 undef this
 refine .list t xs _ _ (fun k j=>a.getD (k*szT T t+j) undef) f (by simp) ?_ ?_ ?_
 ·intro r;exact ⟨rfl,l,o⟩
 ·intro k j c d;exact (m _ _ (e k j c d)).2
 ·intro k j c d;exact CR.sub0 (i.2 _ c _ (h k j c d) (e k j c d)) n
def kh4 {i e cs r o n t xs} (h:EntR T w S φ i (.blk e cs)) (m:yy8 T cs o=some (.arr t n xs::r)):
  ∃g c a,(φ i).ad=some ⟨g,0,none⟩/\Blk w g c e/\g∈S/\xs.length=n/\Rg w (some ⟨g,o,none⟩) a/\CellsR T w S (xs.flatMap (zc4 T t)) a:=by
 obtain ⟨g,c,p,f,q,k⟩:=h;obtain ⟨pre,s,v⟩:=yv5 m k.2;obtain ⟨d,x⟩:=BR.at k s v;have y:(je4 T (.arr t n xs)).length=n*szT T t:=by rw [ya2 T d.2.1];rfl
 have l:=d.1.take T (n*szT T t);rw [zi1,Z7 (by omega),Q3 (by omega)] at l;refine ⟨g,c,_,p,f,q,d.2.1,Rg.blk f _ (fun j u b=>?_),VRL.cells.1 l⟩;rw [Z3] at b;split at b
 ·rw [Q5] at b;simpa using b
 ·cases b
def kh5 {i e cs r o n d m t xs} (h:EntR T w S φ i (.blk e cs)) (s:yy8 T cs o=some (.arr t n xs::r)) {v} (u:VR T w S φ' (.asl i o (szT T t) n d m) v) (j:φ' i=φ i) (x: ∀b∈S',b∈S) (y: ∀a,(φ i).ad=some a->a.block∉S'):
  CR T w S' (.list t) ((xs.drop d).take m) v:=by
 obtain ⟨g,c,p,q,z,J,K,A,B⟩:=kh4 h s;obtain ⟨L,ad,k,rfl,M,f⟩:=u;rw [j,q] at k;simp only [X0,Addr.mk.injEq,and_true] at k;subst k;have l:=ul0 (S':=S') z.lt A B (cap:=n) (by omega) x (y _ q);rcases Nat.lt_or_ge d n with C|D
 ·have E:=CR.sub l (i:=d) (m:=m) (by omega);have G:zl0 (some (⟨g,o,none⟩:Addr)) n d (szT T t)=some ad:=by
   rcases f with f|f
   ·omega
   ·subst f;unfold zl0;rw [if_neg (by omega)];simp only [Z8,Addr.add];split
    ·rename_i I;simp [I]
    ·rfl
  rwa [G] at E
 ·have:m=0:=by omega
  subst this;rw [List.take_zero];exact CR.empty (by simp)
def up0 {U:Nat->Type}:Ent U->Bool| .blk _ _=>true| .row _ _ _=>true|_=>false
def yq2 (T:Tab) (w:World) (S:List Nat) (φ:Nat->RA) (H:List (Ent T.U)) (ids:List Nat):Prop:= ∀i∈ids,∀(a:Ent T.U),H[i]?=some a->up0 a=true->EntR T w S φ i a
def CR.unNl1 {a x v} (h:CR T w S (.nl a) x v):CR T w S (.list a) x v:=by
 cases h with
 |nl _ _ ad cap b c=>exact b
def CR.unNl {a:Ty} {xs:List (List (den T.U a))} {v:Value} (h:CR T w S (.list (.nl a)) xs v):CR T w S (.list (.list a)) xs v:=by
 cases h with
 |list _ _ ad cap u f g m d i=>
  have l: ∀(k j:Nat) (c:Cell T.U),(xs[k]?.map fun x=>(zc4 T (.list a) x)[j]?)=some (some c)-> ∃x,xs[k]?=some x/\j=0/\c=⟨.list a,x⟩:=by
   intro k j c b;cases e:xs[k]? with
   |none=>rw [e] at b;cases b
   |some x=>
    rw [e] at b;have b:(zc4 T (.list a) x)[j]?=some c:=X5 b;cases j with
    |zero=>exact ⟨x,rfl,rfl,(X5 b).symm⟩
    |succ j=>cases b
  refine .list (.list a) xs ad cap u f g m (fun k j c b=>?_) (fun k j c b=>?_)
  ·obtain ⟨x,e,rfl,rfl⟩:=l k j c b;exact d k 0 ⟨.nl a,x⟩ ((congrArg (Option.map fun x:den T.U (.nl a)=>(zc4 T (.nl a) x)[0]?) e).trans rfl)
  ·obtain ⟨x,e,rfl,rfl⟩:=l k j c b;exact CR.unNl1 (i k 0 ⟨.nl a,x⟩ ((congrArg (Option.map fun x:den T.U (.nl a)=>(zc4 T (.nl a) x)[0]?) e).trans rfl))
def gg4 {R:Type} {r:R} {t:Ty} {a:AV T.U} {K:den T.U t->Option R} (h:rdN T H t a K=some r) (m:yq2 T w S φ H a.ids) {v:Value} (c:VR T w S φ a v) (φ':Nat->RA) (k: ∀b∈S',b∈S) (s: ∀i∈a.ids,∀ad,(φ i).ad=some ad->ad.block∉S'): ∃x,K x=some r/\VR T w S' φ' (zm8 T t x) v:=by
 unfold rdN at h;split at h
 ·rename_i e f xs K;split at h
  ·rename_i d;subst d;refine ⟨xs,h,?_⟩;have c:CR T w S (.nl f) xs v:=c;cases c with
   |nl _ _ ad cap g j=>exact CR.sub0 g k
  ·cases h
 ·rename_i e f xs K;split at h
  ·rename_i d;subst d;split at h
   ·rename_i l;refine ⟨xs,h,?_⟩;have c:CR T w S (.list f) xs v:=c;cases c with
    |list _ _ ad cap u g j y z A=>exact .nl _ xs ad cap (CR.sub0 (.list _ xs ad cap u g j y z A) k) fun q=>by subst q;exact absurd l (Nat.lt_irrefl 0)
   ·cases h
  ·cases h
 ·rename_i e i K;split at h
  ·rename_i f C xs n;split at h
   ·rename_i d;subst d;split at h
    ·rename_i l;refine ⟨xs,h,?_⟩;rw [VR] at c;subst c;have o:=qe7 (m i (by simp [AV.ids]) _ n rfl) k (s i (by simp [AV.ids]));obtain ⟨B,p,g,j,_⟩:=m i (by simp [AV.ids]) _ n rfl;rw [j] at o⊢;exact .nl _ xs _ _ o fun q=>by subst q;exact absurd l (Nat.lt_irrefl 0)
    ·cases h
   ·cases h
  ·cases h
 ·cases h
def qo2 {R:Type} {r:R} {t:Ty} {a:AV T.U} {K:den T.U t->Option R} (h:jo0 T H t a K=some r) (q:yq2 T w S φ H a.ids) {v:Value} (k:VR T w S φ a v) (φ':Nat->RA) (l: ∀b∈S',b∈S) (s: ∀i∈a.ids,∀ad,(φ i).ad=some ad->ad.block∉S'): ∃x,K x=some r/\VR T w S' φ' (zm8 T t x) v:=by
 unfold jo0 at h;split at h
 ·rename_i e i K;split at h
  ·rename_i L M xs p;split at h
   ·rename_i u;subst u;refine ⟨xs,h,?_⟩;rw [VR] at k;subst k;exact qe7 (q i (by simp [AV.ids]) _ p rfl) l (s i (by simp [AV.ids]))
   ·cases h
  ·cases h
 ·rename_i e i sz o n K;split at h
  ·rename_i L M xs p;split at h
   ·rename_i C;have:=X1 C;subst this;split at h
    ·rename_i u;subst u;split at h
     ·rename_i D;refine ⟨_,h,?_⟩;obtain ⟨ad,rfl,N,c,d,_⟩:=k;have f:=q i (by simp [AV.ids]) _ p rfl;have O:=qe7 f l (s i (by simp [AV.ids]));have Q:(List.take n (List.drop o xs)).length=n:=by rw [Y6,Q6];omega
      rcases c with c|⟨g,E,G⟩
      ·subst c;rw [List.take_zero];exact CR.empty fun c=>(d c).2
      ·obtain ⟨B,V,y,z,_⟩:=f;rw [z] at O;have j:=CR.sub O D;by_cases X:n=0
       ·subst X;rw [List.take_zero];exact CR.empty fun c=>(d c).2
       ·have A:zl0 (φ i).ad (φ i).cap o (szT T M)=ad:=by
         have:=y.le.1;unfold zl0;rw [if_neg (by omega),E,G];simp only [Z8,Addr.add];split
         ·rename_i Y;simp [Y]
         ·simp
        rw [A] at j;exact j
     ·cases h
    ·cases h
   ·cases h
  ·cases h
 ·rename_i e i o sz n lo m K;split at h
  ·rename_i L cs p;split at h
   ·rename_i b r W;split at h
    ·rename_i t n' xs I;have:=zp9 I;subst this;split at h
     ·rename_i c;rw [X3] at c;obtain ⟨y,z⟩:=c;have y:=X1 y;have z:=X1 z;subst y;subst z;split at h
      ·rename_i u;subst u;exact ⟨_,h,kh5 (q i (by simp [AV.ids]) _ p rfl) W k rfl l (s i (by simp [AV.ids]))⟩
      ·unfold nlL at h;split at h
       ·rename_i a b ys K';split at h
        ·rename_i J;subst J;exact ⟨_,h,CR.unNl (kh5 (q i (by simp [AV.ids]) _ p rfl) W k rfl l (s i (by simp [AV.ids])))⟩
        ·cases h
       ·cases h
     ·cases h
    ·cases h
   ·cases h
  ·cases h
 ·split at h
  ·rename_i x Z;exact ⟨x,h,qq5 (yb0 Z k φ') φ' l⟩
  ·exact gg4 h q k φ' l s
def qo0 {R:Type} {r:R}: ∀ {e:List Ty} {aS:List (AV T.U)} {K:List (Cell T.U)->Option R},qn7 T H e aS K=some r->yq2 T w S φ H (v8 aS)-> ∀ {vs:List Value},VRL T w S φ aS vs-> ∀(φ':Nat->RA),(∀b∈S',b∈S)->(∀i∈v8 aS,∀ad,(φ i).ad=some ad->ad.block∉S')-> ∃l,K l=some r/\VRL T w S' φ' (l.map .cell) vs
 | [],[],K,h,_,[],_,_,_,_=>⟨[],h,trivial⟩
 | [],[],_,_,_,_::_,d,_,_,_=>d.elim
 | [],_::_,_,h,_,_,_,_,_,_=>by cases h
 |_::_,[],_,h,_,_,_,_,_,_=>by cases h
 |t::e,a::aS,_,_,_,[],d,_,_,_=>d.elim
 |t::e,a::aS,K,h,f,v::vs,d,φ',g,j=>by
  have h:(match t.one with|true=>jo0 T H t a (fun x=>qn7 T H e aS fun l=>K (⟨t,x⟩::l))|false=>none)=some r:=h;split at h<;>try (cases h;done)
  rename_i k;obtain ⟨x,m,n⟩:=qo2 h (fun i c=>f i (by rw [v8];exact X4.2 (.inl c))) d.1 φ' g fun i c=>j i (by rw [v8];exact X4.2 (.inl c));obtain ⟨l,o,p⟩:=qo0 m (fun i c=>f i (by rw [v8];exact X4.2 (.inr c))) d.2 φ' g fun i c=>j i (by rw [v8];exact X4.2 (.inr c));refine ⟨_,o,?_,p⟩;cases t<;>first|exact n|cases k
def jk5 {R:Type} {r:R} {t:Ty} {a:AV T.U} {K:den T.U t->Option R} (h:rdF T H t a K=some r) (e:yq2 T w S φ H a.ids) {v:Value} (f:VR T w S φ a v) (φ':Nat->RA) (g: ∀b∈S',b∈S) (k: ∀i∈a.ids,∀ad,(φ i).ad=some ad->ad.block∉S'): ∃x,K x=some r/\VR T w S' φ' (zm8 T t x) v:=by
 unfold rdF at h;split at h
 ·rename_i i cs K;obtain ⟨vs,rfl,m⟩:=f;obtain ⟨l,c,n⟩:=qo0 h (by intro j d;exact e j (by rw [AV.ids];exact d)) m φ' g fun j d=>k j (by rw [AV.ids];exact d);split at c
  ·rename_i x o;refine ⟨x,c,vs,rfl,?_⟩;rw [T.packed _ _ _ o];exact n
  ·cases c
 ·exact qo2 h e f φ' g k
def vi4 {R:Type} {r:R} {t:Ty} {a:AV T.U} {K:den T.U t->Option R} (h:rdF T H t a K=some r) (b:yq2 T w S φ H a.ids) {v:Value} (c:VR T w S φ a v) (φ':Nat->RA): ∃x,K x=some r/\VR T w [] φ' (zm8 T t x) v:=
 jk5 h b c φ' (by simp) (by simp)
def gg2 {R:Type} {r:R} {t:Ty} {a:AV T.U} {K:den T.U t->Option R} (h:rdN T H t a K=some r): ∃x,K x=some r/\ ∀ {e:Type} (b:den T.U t->Option e),rdN T H t a b=b x:=by
 unfold rdN at h;split at h
 ·split at h
  ·rename_i c;subst c;exact ⟨_,h,fun b=>by simp only [rdN,dite_true]⟩
  ·cases h
 ·split at h
  ·rename_i c;subst c;split at h
   ·rename_i d;exact ⟨_,h,fun b=>by simp only [rdN,dite_true,if_pos d]⟩
   ·cases h
  ·cases h
 ·split at h
  ·rename_i f;split at h
   ·rename_i c;subst c;split at h
    ·rename_i d;exact ⟨_,h,fun b=>by simp only [rdN,f,dite_true,if_pos d]⟩
    ·cases h
   ·cases h
  ·cases h
 ·cases h
def jk4 {R:Type} {r:R} {t:Ty} {a:AV T.U} {K:den T.U t->Option R} (h:jo0 T H t a K=some r): ∃x,K x=some r/\ ∀ {m:Type} (b:den T.U t->Option m),jo0 T H t a b=b x:=by
 unfold jo0 at h⊢;split at h
 ·split at h
  ·rename_i l;split at h
   ·rename_i c;subst c;exact ⟨_,h,fun b=>by simp only [dite_true]⟩
   ·cases h
  ·cases h
 ·split at h
  ·rename_i l;split at h
   ·rename_i n;split at h
    ·rename_i c;subst c;split at h
     ·rename_i g;exact ⟨_,h,fun b=>by simp only [dite_true,if_pos g]⟩
     ·cases h
    ·cases h
   ·cases h
  ·cases h
 ·split at h
  ·rename_i l;split at h
   ·rename_i q;split at h
    ·rename_i s;split at h
     ·rename_i u;split at h
      ·rename_i c;subst c;exact ⟨_,h,fun b=>by simp only [dite_true]⟩
      ·rename_i i;unfold nlL at h;split at h
       ·split at h
        ·rename_i j;subst j;exact ⟨_,h,fun b=>by simp only [dif_neg i,nlL,dite_true]⟩
        ·cases h
       ·cases h
     ·cases h
    ·cases h
   ·cases h
  ·cases h
 ·rename_i t a K d e f;split at h
  ·rename_i x k;refine ⟨x,h,fun b=>?_⟩;split
   ·exact (d _ _ K rfl rfl HEq.rfl).elim
   ·exact (e _ _ _ _ _ K rfl rfl HEq.rfl).elim
   ·exact (f _ _ _ _ _ _ _ K rfl rfl HEq.rfl).elim
   ·rw [k]
  ·rename_i k;obtain ⟨x,o,p⟩:=gg2 h;refine ⟨x,o,fun b=>?_⟩;split
   ·exact (d _ _ K rfl rfl HEq.rfl).elim
   ·exact (e _ _ _ _ _ K rfl rfl HEq.rfl).elim
   ·exact (f _ _ _ _ _ _ _ K rfl rfl HEq.rfl).elim
   ·rw [k];exact p b
def qn8 {R:Type} {r:R}: ∀ {b:List Ty} {aS:List (AV T.U)} {K:List (Cell T.U)->Option R},qn7 T H b aS K=some r-> ∃l,K l=some r/\ ∀ {d:Type} (c:List (Cell T.U)->Option d),qn7 T H b aS c=c l
 | [],[],K,h=>⟨[],h,fun c=>rfl⟩
 | [],_::_,_,h=>by cases h
 |_::_,[],_,h=>by cases h
 |t::b,a::aS,K,h=>by
  have h:(match t.one with|true=>jo0 T H t a (fun x=>qn7 T H b aS fun l=>K (⟨t,x⟩::l))|false=>none)=some r:=h;split at h<;>try (cases h;done)
  rename_i e;obtain ⟨x,f,g⟩:=jk4 h;obtain ⟨l,i,j⟩:=qn8 f;refine ⟨_,i,fun c=>?_⟩;show (match t.one with|true=>jo0 T H t a (fun x=>qn7 T H b aS fun l=>c (⟨t,x⟩::l))|false=>none)=_;rw [e];simp only;rw [g,j]
def jh0 {R:Type} {r:R} {t:Ty} {a:AV T.U} {K:den T.U t->Option R} (h:rdF T H t a K=some r): ∃x,K x=some r/\ ∀ {e:Type} (b:den T.U t->Option e),rdF T H t a b=b x:=by
 unfold rdF at h⊢;split at h
 ·rename_i i cs K;obtain ⟨l,c,d⟩:=qn8 h;split at c
  ·rename_i x f;exact ⟨x,c,fun b=>by simp only [d,f]⟩
  ·cases c
 ·rename_i t a K g;obtain ⟨x,c,d⟩:=jk4 h;refine ⟨x,c,fun b=>?_⟩;split
  ·exact (g _ _ K rfl rfl HEq.rfl).elim
  ·exact d b
def zq7 (s:ByteArray):List Int:=s.data.toList.map fun b=>(b.toNat:Int)
def jy1 (s):(zq7 s).length=s.size:=(V0 _).trans N0
def yq5 (l:List Int):ByteArray:=l.foldl (fun r n=>r.push (UInt8.ofNat n.toNat)) ByteArray.empty
end
end Go.X
