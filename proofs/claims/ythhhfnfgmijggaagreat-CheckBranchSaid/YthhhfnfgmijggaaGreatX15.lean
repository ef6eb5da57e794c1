import Derived.Test.YthhhfnfgmijggaaGreatX14
namespace Go.X
open Go.RowKit Go.V
section
variable {T:Tab} {P:Program} {w w':World} {S S':List Nat} {φ φ':Nat->RA} {w0:World} {S0:Ow} {F:AF T} {H:List (Ent T.U)} {F':PF}
theorem ji3: ∀ {l m:List Nat},zd6 (l++m)=true->zd6 m=true/\ ∀i∈m,i∉l
 | [],m,h=>⟨h,fun i _ hi=>by cases hi⟩
 |a::l,m,h=>by
  rw [List.cons_append,zd6,X3,Bool.not_eq_true'] at h;obtain ⟨h1,h2⟩:=ji3 h.2;refine ⟨h1,fun i hi hm=>?_⟩;rcases Z0.1 hm with rfl|hm
  ·have:=zc5.2 (X4.2 (.inr hi):i∈l++m);rw [h.1] at this;cases this
  ·exact h2 i hi hm
theorem jx9 {Hc:List (Ent T.U)} {t s:RT} {r:List RT} {a:AV T.U} {as:List (AV T.U)} {y:zp8 T (t::s::r)} (h:va1 T Hc (t::s::r) (a::as)=some y): ∃x z,rdR T Hc t a=some x/\va1 T Hc (s::r) as=some z/\(x,z)=y:=by
 replace h:(match rdR T Hc t a,va1 T Hc (s::r) as with|some x,some y=>some (x,y)|_,_=>none)=some y:=h
 split at h
 ·rename_i x z hx hz;exact ⟨x,z,hx,hz,X5 h⟩
 ·cases h
theorem vt9 {m:Bool} {m0:Nat} {Hc:List (Ent T.U)} {Fc:AF T} {Fc':PF} {S0c:Ow} {S1c S1:List Nat} {φc:Nat->RA} (hc:Sim T w S0c ⟨Fc,Hc⟩ Fc' w' S1c φc) (hu:Up T m w' S1c S1) (hin: ∀b∈S1c,b∈S1) (hw:w0.heap.size<=w.heap.size)
  (hage: ∀(i:Nat) (e:Ent T.U),m0<=i->Hc[i]?=some e->e.live=true-> ∀a,(φc i).ad=some a->w.heap.size<=a.block) {ids:List Nat} {ios:List (TypeId×Ty)} (hty: ∀(k:Nat) (e:TypeId) (t:Ty) (xs:List (den T.U t)),k<ids.length->Hc[k]?=some (.row e t xs)->szT T t=szT T (ios.getD k (0,.bool)).2):
  ∀ {rs:List RT} (_:m=true->je4 T rs=true) (_:ya7 ids.length rs=true) {as:List (AV T.U)} {us:List Value} {y:zp8 T rs},VRL T w' S1c φc as us->va1 T Hc rs as=some y->zd6 (zt2 T rs as)=true-> ∀ {used:List Nat},(∀i∈zt2 T rs as,i∉used/\m0<=i)->
  ∀ {H:List (Ent T.U)} {φ:Nat->RA},(∀k i:Nat,ids[k]?=some i->RSame (φc k) (φ i)/\i<H.length)->Sim T w0 S0 ⟨F,H⟩ F' w' S1 φ->ki1 w Hc φc used H φ->
  ∃φ1,Sim T w0 S0 ⟨F,H++jt5 T rs y⟩ F' w' S1 φ1/\VRL T w' S1 φ1 (jb3 T ids ios H.length rs y) us/\(∀i,i<H.length->φ1 i=φ i)/\ ∀i∈w9 (jb3 T ids ios H.length rs y),i<(H++jt5 T rs y).length:=by
 intro rs;induction rs with
 |nil=>
  intro hm hp as us y hv hr hn used hd H φ hi h hf
  match as,hr,us,hv with
  | [],_,[],_=>exact ⟨φ,by simpa [jt5] using h,trivial,fun _ _=>rfl,fun i hi=>by cases hi⟩
  |_::_,hr,_,_=>cases hr
 |cons t q ih=>
  intro hm hp as us y hv hr hn used hd H φ hi h hf;have hm1:m=true->t.scal T=true:=fun e=>by have:=hm e;unfold je4 at this;simp only [X3] at this;exact this.1
  have hm2:m=true->je4 T q=true:=fun e=>by have:=hm e;unfold je4 at this;simp only [X3] at this;exact this.2
  have hp1: ∀k,t=.part k->k<ids.length:=by
   rintro k rfl
   unfold ya7 at hp;simp only [X3] at hp;simpa [Nat.blt_eq] using hp.1
  have hp2:ya7 ids.length q=true:=by
   unfold ya7 at hp;cases t<;>simp only [X3] at hp<;>first|exact hp|exact hp.2
  have hids: ∀k,t=.part k-> ∃i,ids[k]?=some i/\RSame (φc k) (φ i)/\i<H.length/\ ∀(e:TypeId) (t:Ty) (xs:List (den T.U t)),Hc[k]?=some (.row e t xs)->szT T t=szT T (ios.getD k (0,.bool)).2:=by
   intro k hk;have hlt:=hp1 k hk;have hg:=Y0 hlt;exact ⟨_,hg,(hi k _ hg).1,(hi k _ hg).2,fun e t xs=>hty k e t xs hlt⟩
  match as,hr,us,hv with
  | [],hr,_,_=>cases q<;>cases hr
  |a::as,hr,v::us,hv=>
   cases q with
   |nil=>
    cases as with
    |cons _ _=>cases hr
    |nil=>
     match us,hv with
     | [],hv=>
      obtain ⟨φ1,h1,h2,h3,h4,h5⟩:=vq6 (t:=t) (ids:=ids) (ios:=ios) hc hu hin hw hage hm1 hv.1 hr (fun i hi=>hd i (X4.2 (.inl hi))) hids h hf;exact ⟨φ1,h1,⟨h2,trivial⟩,h4,fun i hi=>h5 i (by simpa [jb3,w9] using hi)⟩
   |cons s r=>
    obtain ⟨x,z,hx,hz,rfl⟩:=jx9 hr
    replace hn:zd6 (jk0 T t a++zt2 T (s::r) as)=true:=hn
    replace hd: ∀i∈jk0 T t a++zt2 T (s::r) as,i∉used/\m0<=i:=hd
    obtain ⟨hn1,hn2⟩:=ji3 hn;obtain ⟨φ1,h1,h2,h3,h4,h5⟩:=vq6 (t:=t) (ids:=ids) (ios:=ios) hc hu hin hw hage hm1 hv.1 hx (fun i hi=>hd i (X4.2 (.inl hi))) hids h hf;have hlen:(H++entR T t x).length=H.length+t.cnt:=by cases t<;>simp [entR,RT.cnt]
    obtain ⟨φ2,g1,g2,g3,g4⟩:=ih hm2 hp2 hv.2 hz hn1 (used:=jk0 T t a++used) (fun i hi=>⟨fun hmem=>by
     rcases X4.1 hmem with hmem|hmem
     ·exact hn2 i hi hmem
     ·exact (hd i (X4.2 (.inr hi))).1 hmem,(hd i (X4.2 (.inr hi))).2⟩) (H:=H++entR T t x) (fun k i hk=>⟨(hi k i hk).1.trans (.of (h4 i (hi k i hk).2).symm),by have:=(hi k i hk).2;rw [X9];omega⟩) h1 h3
    rw [Q2,hlen] at g4;rw [Q2] at g1;rw [hlen] at g2;refine ⟨φ2,g1,⟨h2.phi fun i hi=>g3 i (h5 i hi),g2⟩,fun i hi=>(g3 i (by rw [X9];omega)).trans (h4 i hi),fun i hi=>?_⟩
    replace hi:i∈(avR T ids ios H.length t x).ids++w9 (jb3 T ids ios (H.length+t.cnt) (s::r) z):=hi
    show i<(H++(entR T t x++jt5 T (s::r) z)).length;rcases X4.1 hi with hi|hi
    ·have:=h5 i hi;simp only [X9] at this⊢;omega
    ·exact g4 i hi
theorem yd8 {as:List (AV T.U)} {us:List Value} (h:VRL T w S φ as us):VR T w S φ (zk3 T as) (yb3 us):=by
 match as,us,h with
 | [],[],h=>exact ⟨#[],rfl,h⟩
 | [a],[v],h=>exact h.1
 |a::b::r,u::v::s,h=>exact ⟨(u::v::s).toArray,rfl,h⟩
theorem vw9 {ids:List Nat} {ios:List (TypeId×Ty)} {rs:List RT}: ∀ {y:zp8 T rs} {b:Nat},∀a∈jb3 T ids ios b rs y,zi0 a=true:=by
 induction rs with
 |nil=>intro y b a ha;cases ha
 |cons t r ih=>
  intro y b a ha;have one: ∀(x:jk4 T t),zi0 (avR T ids ios b t x)=true:=by
   intro x;cases t with
   |val t=>exact yq2 t x
   |own e t=>rfl
   |part k=>rfl
  cases r with
  |nil=>simp only [jb3,Q4] at ha;subst ha;exact one _
  |cons s q=>
   simp only [jb3] at ha;rcases Z0.1 ha with rfl|ha
   ·exact one _
   ·exact ih a ha
theorem jo4 {ids:List Nat} {ios:List (TypeId×Ty)} {rs:List RT} {y:zp8 T rs} {b:Nat} (hi: ∀i∈w9 (jb3 T ids ios b rs y),i<H.length):okA H (zk3 T (jb3 T ids ios b rs y)):=by
 have hne:zi0 (zk3 T (jb3 T ids ios b rs y))=true:=by
  unfold zk3;split
  ·rename_i a hl;exact vw9 a (by rw [hl];simp)
  ·rfl
 refine zd9 hne fun i h=>hi i ?_;unfold zk3 at h;split at h
 ·rename_i a hl;rw [hl,w9];exact X4.2 (.inl h)
 ·rw [AV.ids] at h;exact h
theorem yc3 {β:Type} {H1:List (Ent T.U)} {B:Option β}: ∀ {ios:List (TypeId×Ty)} {k:Nat} {y:zz0 T ios β},rdIo T H1 B ios k=some y->B=some (yi0 T ios y)/\(yh9 T ios y).length=ios.length/\ ∀j,j<ios.length-> ∃(xs:List (den T.U (ios.getD j (0,.bool)).2)),(yh9 T ios y)[j]?=some (.row (ios.getD j (0,.bool)).1 (ios.getD j (0,.bool)).2 xs)/\H1[k+j]?=some (.row (ios.getD j (0,.bool)).1 (ios.getD j (0,.bool)).2 xs)
 | [],k,y,h=>⟨h,rfl,fun j hj=>by simp at hj⟩
 |(e,t)::r,k,y,h=>by
  unfold rdIo at h;split at h
  ·rename_i xs z hx hz;have h:(xs,z)=y:=X5 h;subst h;obtain ⟨h1,h2,h3⟩:=yc3 hz;have hk:H1[k]?=some (.row e t xs):=by
    unfold rdIo.rdAt at hx;split at hx
    ·rename_i e' t' xs' hi;split at hx
     ·rename_i hb;have:=X1 hb;subst this;split at hx
      ·rename_i ht;subst ht;have hx:xs'=xs:=X5 hx;subst hx;exact hi
      ·cases hx
     ·cases hx
    ·cases hx
   refine ⟨h1,by show (yh9 T r z).length+1=r.length+1;rw [h2],fun j hj=>?_⟩;cases j with
   |zero=>exact ⟨xs,rfl,hk⟩
   |succ j=>
    obtain ⟨ys,g1,g2⟩:=h3 j (by simpa using hj);exact ⟨ys,g1,by rw [show k+(j+1)=k+1+j by omega];exact g2⟩
  ·cases h
theorem ql9: ∀ {ps:List PT} {as:List (AV T.U)} {x:zq2 T ps},kj6 T H ps as=some x->(zm6 T ps as).length=(zc2 ps).length/\(zu0 T ps x).length=(zc2 ps).length/\
  ∀k i,(zm6 T ps as)[k]?=some i-> ∃(e:TypeId) (t:Ty) (xs:List (den T.U t)),H[i]?=some (.row e t xs)/\(zu0 T ps x)[k]?=some (.row e t xs)/\(e,t)=(zc2 ps).getD k (0,.bool):=by
 have one: ∀ {t:PT} {a:AV T.U} {x:yh8 T t},rdIn T H t a=some x->(zm6 T [t] [a]).length=(zc2 [t]).length/\(jt0 T t x).length=(zc2 [t]).length/\
   ∀k i,(zm6 T [t] [a])[k]?=some i-> ∃(e:TypeId) (t':Ty) (xs:List (den T.U t')),H[i]?=some (.row e t' xs)/\(jt0 T t x)[k]?=some (.row e t' xs)/\(e,t')=(zc2 [t]).getD k (0,.bool):=by
  intro t a x h;cases t with
  |val t=>exact ⟨by cases a<;>rfl,rfl,fun k i hk=>by cases a<;>simp [zm6] at hk⟩
  |io e t=>
   cases a<;>try (cases h;done)
   rename_i i
   replace h:rdIn.rdOwnI T H e t (.own i)=some x:=h
   unfold rdIn.rdOwnI at h;simp only at h;split at h
   ·rename_i e' t' xs hi;split at h
    ·rename_i hb;have:=X1 hb;subst this;split at h
     ·rename_i ht;subst ht;have h:xs=x:=X5 h;subst h;refine ⟨rfl,rfl,fun k i0 hk=>?_⟩;cases k with
      |zero=>cases hk;exact ⟨_,_,xs,hi,rfl,rfl⟩
      |succ k=>simp [zm6] at hk
     ·cases h
    ·cases h
   ·cases h
 have hcons: ∀(t:PT) (q:List PT),zc2 (t::q)=zc2 [t]++zc2 q:=by intro t q;cases t<;>rfl
 intro ps;induction ps with
 |nil=>
  intro as x h;cases as with
  |nil=>exact ⟨rfl,rfl,fun k i hk=>by simp [zm6] at hk⟩
  |cons _ _=>cases h
 |cons t q ih=>
  intro as x h;cases as with
  |nil=>cases q<;>cases h
  |cons a as=>
   cases q with
   |nil=>
    cases as with
    |cons _ _=>cases h
    |nil=>exact one h
   |cons s q=>
    have h:(match rdIn T H t a,kj6 T H (s::q) as with|some x,some y=>some (x,y)|_,_=>none)=some x:=h;split at h
    ·rename_i x1 y1 h1 h2;have h:(x1,y1)=x:=X5 h;subst h;obtain ⟨a1,a2,a3⟩:=one h1;obtain ⟨b1,b2,b3⟩:=ih h2;rw [ji7,hcons];show _/\(jt0 T t x1++zu0 T (s::q) y1).length=_/\ ∀k i,_-> ∃(e:TypeId) (t':Ty) (xs:List (den T.U t')),_/\(jt0 T t x1++zu0 T (s::q) y1)[k]?=_/\_;refine ⟨by rw [X9,X9,a1,b1],by rw [X9,X9,a2,b2],fun k i hk=>?_⟩;by_cases hlt:k<(zc2 [t]).length
     ·rw [X8 (by omega)] at hk;obtain ⟨e,t',xs,g1,g2,g3⟩:=a3 k i hk;exact ⟨e,t',xs,g1,by rw [X8 (by omega)];exact g2,by rw [Y2,X8 hlt,<-Y2];exact g3⟩
     ·rw [Z2 (by omega),a1] at hk;obtain ⟨e,t',xs,g1,g2,g3⟩:=b3 _ i hk;exact ⟨e,t',xs,g1,by rw [Z2 (by omega),a2];exact g2,by rw [Y2,Z2 (by omega),<-Y2];exact g3⟩
    ·cases h
theorem yz3 {b n:Nat}:b∈zd5 φ n-> ∃k,k<n/\ ∃a,At (φ k) a/\a.block=b:=by
 intro h;unfold zd5 at h;obtain ⟨k,hk,hb⟩:=List.mem_flatMap.1 h;exact ⟨k,List.mem_range.1 hk,zs1.1 hb⟩
theorem Sim.grow (h:Sim T w0 S0 ⟨F,H⟩ F' w S φ) (hc:Chg [] w w') {S1:List Nat} (h1: ∀b∈S,b∈S1) (h2: ∀b∈S1,b∈S\/(w.heap.size<=b/\b<w'.heap.size)):Sim T w0 S0 ⟨F,H⟩ F' w' S1 φ:=by
 have:=h.io (Tc:= []) hc (fun b hb _ _=>h1 b hb) h2 (ids:= []) (es:= []) rfl (by simp) (by simp) (by simp);simpa [zg3] using this
theorem Sim.forget (h:Sim T w0 S0 ⟨F,H⟩ F' w S φ) (ids:List Nat) (hpl: ∀i∈ids,∀e,H[i]?=some e->e.plain=true): ∃φ',(∀i∈ids,(φ' i).xs= [])/\(∀i,RSame (φ' i) (φ i))/\Sim T w0 S0 ⟨F,H⟩ F' w S φ':=by
 let φ':Nat->RA:=fun i=>if i∈ids then ⟨(φ i).ad,(φ i).n,(φ i).cap,[]⟩ else φ i
 have hs: ∀i,RSame (φ' i) (φ i):=fun i=>by
  show RSame (if i∈ids then ⟨(φ i).ad,(φ i).n,(φ i).cap,[]⟩ else φ i) (φ i);split
  ·exact ⟨rfl,rfl,rfl⟩
  ·exact .of rfl
 have hx: ∀i∈ids,(φ' i).xs= []:=fun i hi=>by
  show (if i∈ids then (⟨(φ i).ad,(φ i).n,(φ i).cap,[]⟩:RA) else φ i).xs= [];rw [if_pos hi]
 have hat: ∀ {i:Nat} {a:Addr},At (φ' i) a->At (φ i) a:=fun {i a} ha=>by
  rcases ha with ha|ha
  ·exact .inl ((hs i).1▸ha)
  ·by_cases hi:i∈ids
   ·rw [hx i hi] at ha;cases ha
   ·have e:φ' i=φ i:=if_neg hi;exact .inr (e▸ha)
 refine ⟨φ',hx,hs,fun i a ha=>?_,h.ids,h.chg,h.own,h.ex,fun i e he hl a ha=>h.lives i e he hl a (hat ha),fun k r hk=>⟨(hs k).trans (h.pins k r hk).1,(h.pins k r hk).2⟩,fun i e he=>?_,h.eids,fun i j e e' he he' hl hl' hij a b ha hb=>h.apart i j e e' he he' hl hl' hij a b (hat ha) (hat hb)⟩
 ·obtain ⟨v,h1,h2⟩:=h.fr i a ha;exact ⟨v,h1,h2.phiS fun j _=>hs j⟩
 ·have:=(h.ents i e he).renS (ρ:=id) (φ':=φ') (j:=i) (hs i) (by
   by_cases hi:i∈ids
   ·exact .inl (hpl i hi e he)
   ·exact .inr (congrArg RA.xs (if_neg hi:φ' i=φ i))) fun k _=>hs k
  cases e with
  |drow e d fe xs op=>simpa only [Ent.ren,vq5] using this
  |blk e cs=>simpa only [Ent.ren,zo8] using this
  |map k es=>simpa only [Ent.ren,qb6] using this
  |row e t xs=>exact this
  |tmap k t m=>exact this
  |gone=>trivial
theorem jz7 {f:FuncId} {sp:FnSpec T} (hok:ze8 T P f sp):zb4 T P f sp.toCall:=by
 intro R as H K Kp r hr w0 S0 F F' w S φ h vs hvs has;simp only [FnSpec.toCall] at hr;split at hr
 ·rename_i x hx;split at hr
  ·rename_i hb;simp only [X3] at hb;obtain ⟨hn,hpo⟩:=hb;obtain ⟨y,hy,hK⟩:=zb3 hr;obtain ⟨i1,i2,i3⟩:=ql9 hx;generalize hids:zm6 T sp.ps as=ids at *;obtain ⟨φ',hxs,hrs,h⟩:=h.forget ids fun i hi e he=>by
    obtain ⟨k,hk⟩:=Y9.1 hi;obtain ⟨_,_,_,p1,_⟩:=i3 k i hk;rw [p1] at he;cases he;rfl
   replace hvs:VRL T w S φ' as vs:=by
    have:=VRL.renS T (ρ:=id) (φ':=φ') (fun i _=>hrs i) hvs;rwa [zo8] at this
   clear hrs
   revert φ'
   intro φ hxs h hvs
   let φc:Nat->RA:=fun k=>φ (ids.getD k 0)
   have hφc: ∀k i,ids[k]?=some i->φc k=φ i:=by
    intro k i hk;show φ (ids.getD k 0)=φ i;rw [Y2,hk];rfl
   have hgk: ∀k,k<(zc2 sp.ps).length-> ∃i,ids[k]?=some i:=fun k hk=>⟨_,Y0 (by omega)⟩;have hap: ∀j k,j<(zc2 sp.ps).length->k<(zc2 sp.ps).length->j≠k-> ∀a b,At (φc j) a->At (φc k) b->a.block≠b.block:=by
    intro j k hj hk hjk a b ha hb;obtain ⟨i,gi⟩:=hgk j hj;obtain ⟨i',gi'⟩:=hgk k hk;rw [hφc j i gi] at ha;rw [hφc k i' gi'] at hb;obtain ⟨_,_,_,e1,_⟩:=i3 j i gi;obtain ⟨_,_,_,e2,_⟩:=i3 k i' gi';exact h.apart i i' _ _ e1 e2 rfl rfl (fun e=>hjk (by subst e;exact yf7 hn gi gi')) a b ha hb
   have hsin: ∀k,k<(zc2 sp.ps).length-> ∀a,At (φc k) a->a.block∈S:=by
    intro k hk a ha;obtain ⟨i,gi⟩:=hgk k hk;rw [hφc k i gi] at ha;obtain ⟨_,_,_,e1,_⟩:=i3 k i gi;exact zh4 h e1 rfl ha
   have hent: ∀k e,(zu0 T sp.ps x)[k]?=some e->EntR T w S φc k e:=by
    intro k e hk;have hlt:=(X2.1 hk).1;obtain ⟨i,gi⟩:=hgk k (by omega);obtain ⟨e1,t1,xs,g1,g2,_⟩:=i3 k i gi;rw [g2] at hk;simp only [X0] at hk;subst hk;have:=h.ents i _ g1;simp only [EntR,hφc k i gi];exact this
   refine (hok x y hy w S φc vs (km8 hx hvs (k:=0) fun j i hj=>by rw [hids] at hj;rw [Nat.zero_add];exact hφc j i hj) (fun b hb=>(h.own b hb).2) hent hsin hap).mono fun e w' hR=>?_;cases e with
   |returned v=>
    obtain ⟨F1,H1,F1',S1,φ1,as1,us,g1,g2,rfl,g4,g5,g6⟩:=hR;obtain ⟨q1,q2,q3⟩:=yc3 g4;have hpin: ∀k,k<(zc2 sp.ps).length->RSame (φ1 k) (φc k):=by
     intro k hk;exact (g1.pins k (φc k) (by simp [hk])).1
    have hS1: ∀b∈S1,b∈S\/(w.heap.size<=b/\b<w'.heap.size):=fun b hb=>by
     obtain ⟨p1,p2⟩:=g1.own b hb;rcases p1 with p1|p1
     ·exact .inl p1
     ·exact .inr ⟨p1,p2⟩
    have hg:Sim T w0 S0 ⟨F,zg3 T H ids (yh9 T (zc2 sp.ps) y)⟩ F' w' S1 φ:=by
     refine h.io g1.chg g1.ex hS1 (by rw [q2,i1]) ?_ (fun i hi a ha=>by
      obtain ⟨k,gk⟩:=Y9.1 hi;have hlt:k<(zc2 sp.ps).length:=by have:=(X2.1 gk).1;omega
      obtain ⟨ys,p4,p5⟩:=q3 k hlt;rw [Nat.zero_add] at p5;rcases ha with ha|ha
      ·exact (g1.lives k _ p5 rfl a (.inl ((hpin k hlt).1.trans (by rw [hφc k i gk];exact ha)))).1
      ·rw [hxs i hi] at ha;cases ha) ?_
     ·intro b hb;obtain ⟨k,hk,a,ha,rfl⟩:=yz3 hb;obtain ⟨i,gi⟩:=hgk k hk;exact ⟨i,X6 gi,a,by rw [<-hφc k i gi];exact ha,rfl⟩
     ·intro k i hk;obtain ⟨e1,t1,xs,p1,p2,p3⟩:=i3 k i hk;have hlt:k<(zc2 sp.ps).length:=by have:=(X2.1 hk).1;omega
      obtain ⟨ys,p4,p5⟩:=q3 k hlt;have e1':e1=((zc2 sp.ps).getD k (0,.bool)).1:=congrArg Prod.fst p3;have t1':t1=((zc2 sp.ps).getD k (0,.bool)).2:=congrArg Prod.snd p3;subst t1';subst e1';refine ⟨_,_,xs,ys,p1,p4,?_⟩;rw [Nat.zero_add] at p5;have:=(g1.ents k _ p5).renS (ρ:=id) (φ':=φ) (j:=i) (by rw [<-hφc k i hk];exact (hpin k hlt).symm) (.inl rfl) (fun q hq=>by cases hq);exact this
    obtain ⟨φ2,k1,k2,_,k4⟩:=vt9 (m:=false) (m0:=(zc2 sp.ps).length) (S1:=S1) (ids:=ids) (ios:=zc2 sp.ps) g1 (fun t x v _ h=>h) (fun _ h=>h) h.chg.size (fun i e hi he hl a ha=>by
     rcases (g1.lives i e he hl a (.inl ha)).2 with hm|hm
     ·obtain ⟨k,hk,a',ha',hbe⟩:=yz3 hm;obtain ⟨ys,p4,p5⟩:=q3 k hk;rw [Nat.zero_add] at p5;exact absurd hbe (g1.apart k i _ e p5 he rfl hl (by omega) a' a (by
       rcases ha' with ha'|ha'
       ·exact .inl ((hpin k hk).1.trans ha')
       ·obtain ⟨i',gi'⟩:=hgk k hk;rw [hφc k i' gi',hxs i' (X6 gi')] at ha';cases ha') (.inl ha))
     ·exact hm) (fun k e t xs hk hx=>by
     obtain ⟨ys,p4,p5⟩:=q3 k (by omega);rw [Nat.zero_add] at p5;rw [hx] at p5;simp only [X0,Ent.row.injEq] at p5;rw [p5.2.1]) (fun e=>by cases e) hpo g2 q1 g5 (used:= []) (fun i hi=>⟨fun hm=>(by cases hm),g6 i hi⟩) (H:=zg3 T H ids (yh9 T (zc2 sp.ps) y)) (φ:=φ) (fun k i hk=>by
     have hlt:k<(zc2 sp.ps).length:=by have:=(X2.1 hk).1;omega
     obtain ⟨_,_,_,p1,_⟩:=i3 k i hk;exact ⟨(hpin k hlt).trans (.of (hφc k i hk)),by rw [zb0];exact (X2.1 p1).1⟩) hg (by
     intro j e hj hl a ha;rcases zg7 _ _ _ (by rw [q2,i1]) hj with ⟨k,p1,p2⟩|⟨_,p2⟩
     ·obtain ⟨_,_,_,p3,_⟩:=i3 k j p1;exact .inl (h.own _ (zh4 h p3 rfl ha)).2
     ·exact .inl (h.own _ (zh4 h p2 hl ha)).2)
    rw [zb0] at k2 k4;exact ⟨_,_,hK,S1,φ2,k1,yd8 k2,jo4 k4⟩
   |panicked ch=>exact hR.elim
   |outgrown=>exact hR.elim
  ·cases hr
 ·split at hr
  ·rename_i hb;simp only [X3] at hb;obtain ⟨hsc,hpo⟩:=hb;obtain ⟨x,hx,hv,hio,hent⟩:=jv6 hr (fun i _ en hi _=>h.ents i en hi) hvs φ 0;obtain ⟨y,hy,hK⟩:=zb3 hx;have hio0:(zc2 sp.ps).length=0:=by rw [hio];rfl
   refine (hok x y hy w [] φ vs hv (fun b hb=>by cases hb) (fun k e hk=>by rw [hent] at hk;simp at hk) (fun k hk=>by omega) (fun j k hj=>by omega)).mono fun e w' hR=>?_;cases e with
   |returned v=>
    obtain ⟨F1,H1,F1',S1,φ1,as1,us,g1,g2,rfl,g4,g5,g6⟩:=hR;obtain ⟨q1,q2,q3⟩:=yc3 g4;have hchg:Chg [] w w':=by
     have:=g1.chg;rw [show zd5 φ (zc2 sp.ps).length= [] by rw [hio0];rfl] at this;exact this
    have hg:=h.grow hchg (S1:=S++S1) (fun b hb=>X4.2 (.inl hb)) (fun b hb=>by
     rcases X4.1 hb with hb|hb
     ·exact .inl hb
     ·obtain ⟨q1,q2⟩:=g1.own b hb;rcases q1 with q1|q1
      ·cases q1
      ·exact .inr ⟨q1,q2⟩)
    obtain ⟨φ2,k1,k2,_,k4⟩:=vt9 (m:=true) (m0:=0) (S1:=S++S1) (ids:= []) (ios:= []) g1 (fun t x v ht hcr=>by
     have ht:=ht rfl;cases hcr with
     |int k x=>exact .int k x
     |bool b=>exact .bool b
     |str s=>exact .str s
     |list e xs ad cap u h1 h2 h3 h4 h5=>cases ht) (fun b hb=>X4.2 (.inr hb)) h.chg.size (fun i e _ he hl a ha=>by
     rcases (g1.lives i e he hl a (.inl ha)).2 with hm|hm
     ·rw [show zd5 φ (zc2 sp.ps).length= [] by rw [hio0];rfl] at hm;cases hm
     ·exact hm) (fun k e t xs hk=>by simp at hk) (fun _=>hsc) hpo g2 q1 g5 (used:= []) (fun i _=>⟨fun hm=>(by cases hm),Nat.zero_le _⟩) (fun k i hk=>by simp at hk) hg (by
     intro j e hj hl a ha;exact .inl (h.own _ (zh4 h hj hl ha)).2)
    exact ⟨_,_,hK,S++S1,φ2,k1,yd8 k2,jo4 k4⟩
   |panicked ch=>exact hR.elim
   |outgrown=>exact hR.elim
  ·cases hr
def kg4 (T:Tab):(rs:List RT)->zp8 T rs->List Value
 | [],_=> []
 | [t],x=> [valR t x]
 |t::s::r,x=>valR t x.1::kg4 T (s::r) x.2
where
 valR:(t:RT)->jk4 T t->Value
  | .val t,x=>we8 T t x
  |_,_=>undef
theorem jv2: ∀ {cs:List (Cell T.U)},(∀c∈cs,c.t.scal=true)->VRL T w S φ (cs.map .cell) (cs.map kh0)
 | [],_=>trivial
 |⟨t,x⟩::r,h=>by
  refine ⟨?_,jv2 fun c hc=>h c (Z4 _ hc)⟩;have:=h _ (List.mem_cons_self ..);cases t with
  |int k=>exact CR.int _ _
  |bool=>exact CR.bool _
  |str=>exact CR.str _
  |list e=>cases this
  |user i=>cases this
theorem qs4: ∀ {cs:List (Cell T.U)} {vs:List Value},(∀c∈cs,c.t.scal=true)->VRL T w S φ (cs.map .cell) vs->vs=cs.map kh0
 | [],[],_,_=>rfl
 | [],_::_,_,h=>h.elim
 |_::_,[],_,h=>h.elim
 |⟨t,x⟩::r,v::vs,h,hv=>by
  have h1:=h _ (List.mem_cons_self ..);rw [List.map_cons,<-qs4 (fun c hc=>h c (Z4 _ hc)) hv.2];congr 1;cases t with
  |int k=>exact za8 hv.1
  |bool=>exact zg5 hv.1
  |str=>exact zn8 hv.1
  |list e=>cases h1
  |user i=>cases h1
theorem qz4 {t:Ty} (h:jc7 T t=true) (x:den T.U t):VR T w S φ (zn7 T t x) (we8 T t x):=by
 cases t with
 |user i=>exact ⟨_,rfl,jv2 (T.scals i x h)⟩
 |int k=>exact CR.int _ _
 |bool=>exact CR.bool _
 |str=>exact CR.str _
 |list e=>cases h
theorem vp7 {t:Ty} (h:jc7 T t=true) {x:den T.U t} {v:Value} (hv:VR T w S φ (zn7 T t x) v):v=we8 T t x:=by
 cases t with
 |user i=>
  obtain ⟨vs,rfl,h2⟩:=hv;have:=qs4 (T.scals i x h) h2;show Value.agg vs=Value.agg (List.map kh0 (T.cells i x)).toArray;rw [<-this]
 |int k=>exact za8 hv
 |bool=>exact zg5 hv
 |str=>exact zn8 hv
 |list e=>cases h
theorem gu2: ∀ {rs:List RT},qRs T rs=true-> ∀ {y:zp8 T rs} {ids:List Nat} {ios:List (TypeId×Ty)} {b:Nat},VRL T w S φ (jb3 T ids ios b rs y) (kg4 T rs y)/\w9 (jb3 T ids ios b rs y)= []:=by
 intro rs;induction rs with
 |nil=>intro h y ids ios b;exact ⟨trivial,rfl⟩
 |cons t q ih=>
  intro h y ids ios b;cases t with
  |own e t=>cases h
  |part k=>cases h
  |val t=>
   cases q with
   |nil=>
    have ht:jc7 T t=true:=by simpa [qRs] using h
    refine ⟨⟨qz4 ht y,trivial⟩,?_⟩;exact List.append_eq_nil_iff.2 ⟨yk1 (T:=T) t y,rfl⟩
   |cons s r=>
    unfold qRs at h;simp only [X3] at h;obtain ⟨h1,h2⟩:=ih h.2 (y:=y.2) (ids:=ids) (ios:=ios) (b:=b+RT.cnt (.val t));refine ⟨⟨qz4 h.1 y.1,h1⟩,?_⟩;exact List.append_eq_nil_iff.2 ⟨yk1 (T:=T) t y.1,h2⟩
theorem gn5 {w1:World} {S1:List Nat} {φ1:Nat->RA} {H1:List (Ent T.U)}: ∀ {rs:List RT},qRs T rs=true-> ∀ {y:zp8 T rs} {as:List (AV T.U)} {us:List Value},va1 T H1 rs as=some y->VRL T w1 S1 φ1 as us->us=kg4 T rs y:=by
 intro rs;induction rs with
 |nil=>
  intro h y as us hr hv
  match as,hr,us,hv with
  | [],_,[],_=>rfl
  |_::_,hr,_,_=>cases hr
 |cons t q ih=>
  intro h y as us hr hv;cases t with
  |own e t=>cases h
  |part k=>cases h
  |val t=>
   match as,hr,us,hv with
   | [],hr,_,_=>cases q<;>cases hr
   |a::as,hr,v::us,hv=>
    cases q with
    |nil=>
     have ht:jc7 T t=true:=by simpa [qRs] using h
     cases as with
     |cons _ _=>cases hr
     |nil=>
      match us,hv with
      | [],hv=>exact congrArg (fun z=> [z]) (vp7 ht (yd5 (t:=t) hr hv.1 φ1))
    |cons s r=>
     unfold qRs at h;simp only [X3] at h;obtain ⟨x,z,hx,hz,rfl⟩:=jx9 hr;show v::us=we8 T t x::kg4 T (s::r) z;rw [<-ih h.2 hz hv.2,<-vp7 h.1 (yd5 (t:=t) hx hv.1 φ1)]
theorem later {as:List (AV T.U)} {w1:World} (h:Sim T w0 S0 ⟨F,H⟩ F' w S φ) (hc:Chg S w w1) (hsm:Same φ (w9 as) w w1):jd2 T w1 S φ H (w9 as):=
  jx0 h hc hsm fun i hi=>hi
theorem ka2 {f:FuncId} {sp:FnSpec T} (hok:ze8 T P f sp):zk2 T P f sp.toCall:=by
 intro R as H K r hr w0 S0 F F' w S φ h vs hvs has;simp only [FnSpec.toCall] at hr;split at hr
 ·rename_i hq;obtain ⟨x,hx,hdet⟩:=jz2 hr;obtain ⟨y,hy,hK⟩:=zb3 hx;obtain ⟨q1,q2⟩:=gu2 (w:=w) (S:=S) (φ:=φ) hq (y:=yi0 T (zc2 sp.ps) y) (ids:= []) (ios:= []) (b:=0);refine ⟨_,_,hK,yd8 q1,jo4 (by rw [q2];intro i hi;cases hi),fun w1 hc hsm=>?_⟩;obtain ⟨x',hx',hv,hio,hent⟩:=jv6 (w:=w1) (K:=some) (by rw [hdet]) (later h hc hsm) (hvs.chg T hc (fun _ h=>h) fun b hb=>.inl hb) φ 0;have hx':=X5 hx';subst hx';have hio0:(zc2 sp.ps).length=0:=by rw [hio];rfl
  refine (hok _ y hy w1 [] φ vs hv (fun b hb=>by cases hb) (fun k e hk=>by rw [hent] at hk;simp at hk) (fun k hk=>by omega) (fun j k hj=>by omega)).mono fun e w' hR=>?_;cases e with
  |returned v=>
   obtain ⟨F1,H1,F1',S1,φ1,as1,us,g1,g2,rfl,g4,g5,g6⟩:=hR;have hchg:Chg [] w1 w':=by
    have:=g1.chg;rw [show zd5 φ (zc2 sp.ps).length= [] by rw [hio0];rfl] at this;exact this
   exact ⟨hchg,by rw [gn5 hq (yc3 g4).1 g2]⟩
  |panicked ch=>exact hR.elim
  |outgrown=>exact hR.elim
 ·cases hr
theorem gy9 (sp:FnSpec T):yh1 sp.toCall:=by
 intro R as H K Kp r hr;simp only [FnSpec.toCall] at hr;split at hr
 ·rename_i x hx;split at hr
  ·rename_i hb;obtain ⟨y,hy,hK⟩:=zb3 hr;obtain ⟨i1,i2,i3⟩:=ql9 hx;refine .inl ⟨_,_,hK,?_,fun K' Kp'=>by simp only [FnSpec.toCall,hx,hb,hy,j7]⟩;have hw:(FnSpec.toCall sp).wr as H=zm6 T sp.ps as:=by simp only [FnSpec.toCall,hx]
   rw [hw];have hlen:(yh9 T (zc2 sp.ps) (sp.g x |>.get (by rw [hy];rfl))).length=(zm6 T sp.ps as).length:=by
    have: ∀(ios:List (TypeId×Ty)) {β:Type} (y:zz0 T ios β),(yh9 T ios y).length=ios.length:=by
     intro ios;induction ios with
     |nil=>intro β y;rfl
     |cons p r ih=>intro β y;exact congrArg (· +1) (ih y.2)
    rw [this,i1]
   have hg:(sp.g x |>.get (by rw [hy];rfl))=y:=by simp [hy]
   rw [hg] at hlen;have hrow: ∀(ios:List (TypeId×Ty)) {β:Type} (y:zz0 T ios β) (k:Nat) (f:Ent T.U),(yh9 T ios y)[k]?=some f-> ∃xs,f=.row (ios.getD k (0,.bool)).1 (ios.getD k (0,.bool)).2 xs:=by
    intro ios;induction ios with
    |nil=>intro β y k f h;simp [yh9] at h
    |cons p r ih=>
     intro β y k f h;cases k with
     |zero=>
      have h:some (Ent.row p.1 p.2 y.1)=some f:=h;simp only [X0] at h;subst h;exact ⟨y.1,rfl⟩
     |succ k=>
      have h:(yh9 T r y.2)[k]?=some f:=h;obtain ⟨xs,h1⟩:=ih y.2 k f h;exact ⟨xs,h1⟩
   refine ⟨by rw [X9,zb0];omega,fun e he hn=>?_,fun e ty t ys he h=>?_⟩
   ·rw [X8 (by rw [zb0];exact he)];have hsome: ∃f,(zg3 T H (zm6 T sp.ps as) (yh9 T (zc2 sp.ps) y))[e]?=some f:=⟨_,Y0 (by rw [zb0];exact he)⟩;obtain ⟨f,hf⟩:=hsome;rcases zg7 _ _ H hlen hf with ⟨k,g1,_⟩|⟨_,g2⟩
    ·exact absurd (X6 g1) hn
    ·rw [hf,g2]
   ·rw [X8 (by rw [zb0];exact he)] at h;rcases zg7 _ _ H hlen h with ⟨k,g1,g2⟩|⟨_,g2⟩
    ·obtain ⟨e1,t1,xs,p1,p2,p3⟩:=i3 k e g1;obtain ⟨zs,q1⟩:=hrow _ y k _ g2;simp only [Ent.row.injEq] at q1;have e1:e1=ty:=(congrArg Prod.fst p3).trans q1.1.symm;have e2:t1=t:=(congrArg Prod.snd p3).trans q1.2.1.symm;subst e1;subst e2;exact ⟨xs,p1⟩
    ·exact ⟨ys,g2⟩
  ·cases hr
 ·rename_i hx;split at hr
  ·rename_i hb;obtain ⟨x,h1,hdet⟩:=jz2 hr;obtain ⟨y,hy,hK⟩:=zb3 h1;exact .inl ⟨_,_,hK,.app,fun K' Kp'=>by simp only [FnSpec.toCall,hx,hb,hdet,hy,j7]⟩
  ·cases hr
theorem ja2: ∀ {as:List (AV T.U)} {vs:List Value} {i j:Nat} {a:AV T.U},VRL T w S φ as vs->(yb1 T as i).get T j=some a-> ∃v,(jk5 vs i).get j=some v/\VR T w S φ a v
 | [],[],_,_,_,_,h=>by simp [yb1,AF.get] at h
 | [],_::_,_,_,_,h,_=>h.elim
 |_::_,[],_,_,_,h,_=>h.elim
 |b::r,v::s,i,j,a,h,hg=>by
  simp only [yb1,AF.get] at hg;simp only [jk5,PF.get];split at hg
  ·rename_i hb;simp only [X0] at hg;subst hg;exact ⟨v,by simp only [hb],h.1⟩
  ·rename_i hb;simp only [hb];exact ja2 h.2 hg
theorem yz1: ∀ {as:List (AV T.U)} {i j:Nat} {a:AV T.U},(yb1 T as i).get T j=some a->a∈as
 | [],_,_,_,h=>by simp [yb1,AF.get] at h
 |b::r,i,j,a,hg=>by
  simp only [yb1,AF.get] at hg;split at hg
  ·simp only [X0] at hg;subst hg;exact List.mem_cons_self ..
  ·exact Z4 _ (yz1 hg)
theorem gy8 {t:Ty} (x:den T.U t):okA H (zn7 T t x):=zd9 (yq2 t x) (by rw [yk1];intro i hi;cases hi)
theorem ku7: ∀ {ps:List PT} {x:zq2 T ps} {k:Nat} {H:List (Ent T.U)},k+(zc2 ps).length<=H.length-> ∀a∈yl8 T k ps x,okA H a:=by
 have one: ∀ {t:PT} {x:yh8 T t} {k:Nat} {H:List (Ent T.U)},k+t.cnt<=H.length->okA H (avP T k t x):=by
  intro t x k H h;cases t with
  |val t=>exact gy8 (t:=t) x
  |io e t=>exact ⟨fun i hi=>by simp [avP,AV.ids] at hi;subst hi;simp [PT.cnt] at h;omega,trivial⟩
 have hcons: ∀(t:PT) (q:List PT),(zc2 (t::q)).length=t.cnt+(zc2 q).length:=by
  intro t q;cases t<;>simp [zc2,PT.cnt];omega
 intro ps;induction ps with
 |nil=>intro x k H _ a h;cases h
 |cons t q ih=>
  intro x k H hk a h;rw [hcons] at hk;cases q with
  |nil=>simp only [yl8,Q4] at h;subst h;exact one (by simpa [zc2] using hk)
  |cons s r=>
   simp only [yl8] at h;rcases Z0.1 h with rfl|h
   ·exact one (by omega)
   ·exact ih (by omega) a h
theorem jv3: ∀ {ps:List PT} {x:zq2 T ps} {k:Nat},(yl8 T k ps x).length=ps.length
 | [],_,_=>rfl
 | [_],_,_=>rfl
 |_::s::r,x,k=>by simp only [yl8,List.length_cons];rw [jv3];rfl
theorem yz7: ∀ {ps:List PT} {x:zq2 T ps},(zu0 T ps x).length=(zc2 ps).length:=by
 intro ps;induction ps with
 |nil=>intro x;rfl
 |cons t q ih=>
  intro x;cases q with
  |nil=>cases t<;>rfl
  |cons s r=>
   show (jt0 T t x.1++zu0 T (s::r) x.2).length=_;rw [X9,ih];cases t<;>simp [jt0,zc2];omega
theorem vz0: ∀ {ps:List PT} {x:zq2 T ps} {e:Ent T.U},e∈zu0 T ps x->e.cellIds= []:=by
 have one: ∀ {t:PT} {x:yh8 T t} {e:Ent T.U},e∈jt0 T t x->e.cellIds= []:=by
  intro t x e h;cases t with
  |val t=>cases h
  |io e' t=>simp only [jt0,Q4] at h;subst h;rfl
 intro ps;induction ps with
 |nil=>intro x e h;cases h
 |cons t q ih=>
  intro x e h;cases q with
  |nil=>exact one h
  |cons s r=>
   have h:e∈jt0 T t x.1++zu0 T (s::r) x.2:=h;rcases X4.1 h with h|h
   ·exact one h
   ·exact ih h
theorem jm8 {F1':PF} {st:St T} (h:Sim T w0 S0 st F1' w S φ) {n:Nat} {ds:List Deferred} {a:Act} (ha:Fr n ds F1' a): ∀ {l:List ResultVar} {as:List (AV T.U)},js7 T P st l=some as->
  ∃us,VRL T w S φ as us/\ ∀ {f:ResultVar->Sem Value},(∀t,f (.tmp t)=Pure.pure (a.tmps.getD t undef))->(∀c t,f (.cell c t)=(do loadVar t (<-asAddr (a.tmps.getD c undef))))->(l.mapM f).run P w=.ok us w
 | [],as,hr=>by simp only [js7,X0] at hr;subst hr;exact ⟨[],trivial,fun _ _=>rfl⟩
 | .tmp t::r,as,hr=>by
  unfold js7 at hr;split at hr
  ·rename_i b l hb hl;simp only [X0] at hr;subst hr;obtain ⟨v,h1,h2⟩:=h.fr t b hb;obtain ⟨us,h4,h3⟩:=jm8 h ha hl;refine ⟨v::us,⟨h2,h4⟩,fun hf1 hf2=>?_⟩;have e:=(ha.val t v h1).1;simp only [List.mapM_cons,hf1,Sem.run_bind,Sem.run_pure,Result.andThen_ok,e];rw [h3 hf1 hf2];rfl
  ·cases hr
 | .cell c t::r,as,hr=>by
  unfold js7 at hr;split at hr
  ·rename_i i o l hb hl;split at hr
   ·rename_i e cs hi;split at hr
    ·rename_i b hlo;simp only [X0] at hr;subst hr;obtain ⟨v,h1,g,h2,rfl⟩:=h.fr c _ hb;obtain ⟨g',cv,h5,h6,_,h7⟩:=h.ents i _ hi;rw [h2] at h5;simp only [X0,Addr.mk.injEq,and_true] at h5;subst h5;obtain ⟨v,h8,h9⟩:=vn8 h7 hlo;obtain ⟨us,h4,h3⟩:=jm8 h ha hl;refine ⟨v::us,⟨h9,h4⟩,fun hf1 hf2=>?_⟩;have e:=(ha.val c _ h1).1;simp only [List.mapM_cons,hf2,Sem.run_bind,Result.andThen_ok,e,asAddr,Sem.run_pure,yf4 h6 h8];rw [h3 hf1 hf2];rfl
    ·cases hr
   ·cases hr
  ·cases hr
theorem jb5 {fn:Func} {F1':PF} {st:St T} (h:Sim T w0 S0 st F1' w S φ) {n:Nat} {ds:List Deferred} {a:Act} (ha:Fr n ds F1' a) {as:List (AV T.U)} (hr:js7 T P st fn.results.toList=some as): ∃us,(results fn a.tmps).run P w=.ok (yb3 us) w/\VRL T w S φ as us:=by
 obtain ⟨us,h2,h1⟩:=jm8 (P:=P) h ha hr;refine ⟨us,?_,h2⟩;unfold results;rw [Array.mapM_eq_mapM_toList];simp only [Sem.run_bind,Sem.run_map];rw [h1 (fun _=>rfl) (fun _ _=>rfl)];simp only [Result.andThen_ok]
 match us with
 | []=>rfl
 | [v]=>rfl
 |u::v::r=>
  have:(u::v::r).toArray.size≠1:=by simp
  simp only [this,dite_false];rfl
theorem yv9 {st:St T} {F1':PF} {S:List Nat} {φ:Nat->RA} {S0:Ow} {w0 w:World} (h:Sim T w0 S0 st F1' w S φ): ∀ {l:List ResultVar} {as:List (AV T.U)},js7 T P st l=some as-> ∀i∈w9 as,i<st.H.length
 | [],as,hr,i,hi=>by simp only [js7,X0] at hr;subst hr;cases hi
 | .tmp t::r,as,hr,i,hi=>by
  unfold js7 at hr;split at hr<;>try (cases hr;done)
  rename_i b l hb hl;simp only [X0] at hr;subst hr;rw [w9] at hi;rcases X4.1 hi with hi|hi
  ·exact (h.ids t b hb).1 i hi
  ·exact yv9 h hl i hi
 | .cell c t::r,as,hr,i,hi=>by
  unfold js7 at hr;split at hr<;>try (cases hr;done)
  rename_i i0 o l hb hl;split at hr<;>try (cases hr;done)
  rename_i e cs hc;split at hr<;>try (cases hr;done)
  rename_i b hlo;simp only [X0] at hr;subst hr;rw [w9] at hi;rcases X4.1 hi with hi|hi
  ·exact h.eids i0 _ hc i (jw9 hlo i hi)
  ·exact yv9 h hl i hi
theorem Sim.noF {st:St T} (h:Sim T w0 S0 st F' w S φ):Sim T w0 S0 ⟨[],st.H⟩ F' w S φ:=
 ⟨fun i a ha=>by simp [AF.get] at ha,fun i a ha=>by simp [AF.get] at ha,h.chg,h.own,h.ex,h.lives,h.pins,h.ents,h.eids,h.apart⟩
theorem za0 {C:Ctx T} {f:FuncId} {fn:Func} {c:Code} {cuts:List (Pos×Cut)} {z:Zw} {ps:List PT} {rs:List RT} {g:zq2 T ps->Option (zz0 T (zc2 ps) (zp8 T rs))} (hm:P.follows .mixedOrders=true) (hE:v7 T P C.E)
  (hf:P.funcs[f]?=some fn) (hb:fn.body=some c) (hs:Nat.ble ps.length fn.ntmps=true) (hpin:Nat.ble (zc2 ps).length C.pin=true) (hg: ∀x y,g x=some y-> ∃m,zg2 T P C cuts fn c z ps rs m x=some y):ze8 T P f ⟨ps,rs,g⟩:=by
 intro x y hy w S φ vs hvs hS hent hsin hap;obtain ⟨N,hN⟩:=hg x y hy;have hlen:vs.length=ps.length:=by rw [<-hvs.len T];exact jv3
 have hsz:vs.length<=fn.ntmps:=by rw [hlen];exact Y1 hs
 have hfr:Fr fn.ntmps [] (jk5 vs 0) {tmps:=vs.toArray++Array.replicate (fn.ntmps-vs.toArray.size) undef,defers:= []}:=by
  refine ⟨by simp;omega,rfl,fun i v hv=>?_⟩;obtain ⟨_,h2⟩:=yk2 vs 0 i v hv;simp only [Nat.sub_zero] at h2;have hi:=(X2.1 h2).1;refine ⟨?_,by omega⟩;rw [Y7,Array.getElem?_append_left (by simpa using hi)];simp [h2]
 have hrow: ∀(i:Nat) (e:Ent T.U),(zu0 T ps x)[i]?=some e->i<(zc2 ps).length:=by
  intro i e he;have:=(X2.1 he).1;rwa [yz7] at this
 have hsim:Sim T w ⟨zd5 φ (zc2 ps).length,S,(List.range (zc2 ps).length).map φ⟩ ⟨yb1 T (yl8 T 0 ps x) 0,zu0 T ps x⟩ (jk5 vs 0) w S φ:=by
  refine ⟨fun i a ha=>ja2 hvs ha,fun i a ha=>ku7 (by rw [yz7];omega) a (yz1 ha),Chg.refl _ _,fun b hb=>⟨.inl hb,hS b hb⟩,fun b hb _ _=>hb,fun i e he hl a ha=>⟨hsin i (hrow i e he) a ha,.inl ?_⟩,fun k r hk=>?_,hent,fun i e he j hj=>?_,fun i j e e' he he' _ _ hij=>hap i j (hrow i e he) (hrow j e' he') hij⟩
  ·unfold zd5;exact List.mem_flatMap.2 ⟨i,List.mem_range.2 (hrow i e he),zs1.2 ⟨a,ha,rfl⟩⟩
  ·have hlt:=(X2.1 hk).1;simp at hlt;simp [hlt] at hk;exact ⟨.of hk,by simp only [yz7];exact hlt⟩
  ·rw [vz0 (X6 he)] at hj;cases hj
 have hpin':=Y1 hpin;have key: ∀st,ki2 T P fn z ps rs st=some y-> ∀F1 w1,zc7 T w ⟨zd5 φ (zc2 ps).length,S,(List.range (zc2 ps).length).map φ⟩ st F1 w1-> ∀a,Fr fn.ntmps [] F1 a-> ∃v,(results fn a.tmps).run P w1=.ok v w1/\
   ∃(F1:AF T) (H1:List (Ent T.U)) (F1':PF) (S1:List Nat) (φ1:Nat->RA) (as:List (AV T.U)) (us:List Value),Sim T w ⟨zd5 φ (zc2 ps).length,S,(List.range (zc2 ps).length).map φ⟩ ⟨F1,H1⟩ F1' w1 S1 φ1/\VRL T w1 S1 φ1 as us/\v=yb3 us/\rdIo T H1 (va1 T H1 rs as) (zc2 ps) 0=some y/\zd6 (zt2 T rs as)=true/\ ∀i∈zt2 T rs as,(zc2 ps).length<=i:=by
  intro st hst F1 w1 ⟨S1,φ1,hsm⟩ a ha;unfold ki2 at hst;split at hst<;>try (cases hst;done)
  rename_i as0 has;obtain ⟨us,h1,h2⟩:=jb5 hsm ha has;split at hst<;>try (cases hst;done)
  rename_i as1 H1 hw;obtain ⟨φw,hsmw,hvw,_⟩:=yf3 (by simp) z.w hw hsm.noF h2 (yv9 (P:=P) hsm has);obtain ⟨as,H2,S2,hK,hsm2,hv2⟩:=yq3 z.z hst hsmw hvw;unfold gb2 at hK;split at hK<;>try (cases hK;done)
  rename_i hn;simp only [X3] at hn;refine ⟨_,h1,[],H2,F1,S2,φw,as,us,hsm2,hv2,rfl,hK,hn.1,fun i hi=>?_⟩;have:=hn.2;rw [Y8] at this;exact Y1 (this i hi)
 have hKs:KsOk (bodyPost P fn fun e w'=>match e with
   | .returned v=> ∃(F1:AF T) (H1:List (Ent T.U)) (F1':PF) (S1:List Nat) (φ1:Nat->RA) (as:List (AV T.U)) (us:List Value),Sim T w ⟨zd5 φ (zc2 ps).length,S,(List.range (zc2 ps).length).map φ⟩ ⟨F1,H1⟩ F1' w' S1 φ1/\VRL T w' S1 φ1 as us/\v=yb3 us/\
     rdIo T H1 (va1 T H1 rs as) (zc2 ps) 0=some y/\zd6 (zt2 T rs as)=true/\ ∀i∈zt2 T rs as,(zc2 ps).length<=i
   |_=>False) fn.ntmps [] w ⟨zd5 φ (zc2 ps).length,S,(List.range (zc2 ps).length).map φ⟩ y (kf1 T P fn z ps rs):=by
  refine ⟨?_,fun i st h=>(by cases h),?_,fun a st h=>(by cases h)⟩
  ·intro st hst F1 w1 hs1 a ha;obtain ⟨v,h1,h2⟩:=key st hst F1 w1 hs1 a ha;exact ⟨ha.defers,v,h1,h2⟩
  ·intro st hst F1 w1 hs1 a ha;obtain ⟨v,h1,h2⟩:=key st hst F1 w1 hs1 a ha;exact ⟨ha.defers,v,h1,h2⟩
 have hp:((List.range (zc2 ps).length).map φ).length<=C.pin:=by simpa using hpin'
 exact calls_of_wp hf hb (zf2 hm hp hE c [] _ _ _ _ w hN hKs (JOk.run hm hp hE hKs N) ⟨S,φ,hsim⟩ _ hfr)
theorem v5:v7 T P []:=fun f cs h=>by cases h
end
end Go.X
