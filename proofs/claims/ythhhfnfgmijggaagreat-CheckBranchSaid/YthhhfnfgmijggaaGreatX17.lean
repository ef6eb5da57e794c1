import Derived.Test.YthhhfnfgmijggaaGreatX16
namespace Go.X
open Go.RowKit Go.V
section
variable {T:Tab}
theorem RdOk.nil {H:List (Ent T.U)} {ids:List Nat} {l:Src} (h: ∀j∈ids,some j∈l):RdOk T H ids l l []:=⟨by simp,h,by intro i hi;cases hi⟩
theorem RdOk.one {H:List (Ent T.U)} {l:Src} {i:Nat} {e:Ent T.U} (hi:H[i]?=some e) (hl:e.live=true) (hc:e.cellIds= []):RdOk T H [i] l (l++ [some i]) [i]:=
 ⟨rfl,by intro j hj;simp at hj;subst hj;simp,by intro j hj;simp at hj;subst hj;exact ⟨e,hi,hl,by rw [hc];intro j hj;cases hj⟩⟩
theorem RdOk.app {H:List (Ent T.U)} {i1 i2:List Nat} {l l1 l2:Src} {n1 n2:List Nat} (h1:RdOk T H i1 l l1 n1) (h2:RdOk T H i2 l1 l2 n2):RdOk T H (i1++i2) l l2 (n1++n2):=by
 have hsub: ∀j,some j∈l1->some j∈l2:=fun j hj=>by rw [h2.eq];exact X4.2 (.inl hj)
 refine ⟨by rw [h2.eq,h1.eq,List.map_append,Q2],?_,?_⟩
 ·intro j hj;rcases X4.1 hj with hj|hj
  ·exact hsub j (h1.ids j hj)
  ·exact h2.ids j hj
 ·intro i hi;rcases X4.1 hi with hi|hi
  ·obtain ⟨e,a,b,c⟩:=h1.ents i hi;exact ⟨e,a,b,fun j hj=>hsub j (c j hj)⟩
  ·exact h2.ents i hi
theorem RdOk.blk {H:List (Ent T.U)} {l l':Src} {i:Nat} {e:TypeId} {cs:List (AV T.U)} {new:List Nat} (hi:H[i]?=some (.blk e cs)) (h:RdOk T H (w9 cs) (l++ [some i]) l' new):RdOk T H [i] l l' (i::new):=by
 refine ⟨by rw [h.eq];simp,?_,?_⟩
 ·intro j hj;simp at hj;subst hj;rw [h.eq];simp
 ·intro j hj;rcases Z0.1 hj with rfl|hj
  ·exact ⟨_,hi,rfl,h.ids⟩
  ·exact h.ents j hj
theorem RdOk.map {H:List (Ent T.U)} {l l':Src} {i:Nat} {k:IntKind} {keys:List Int} {cs:List (AV T.U)} {new:List Nat} (hi:H[i]?=some (.map k (yf1 keys cs))) (hz: ∀j∈idsM (yf1 keys cs),j∈w9 cs) (h:RdOk T H (w9 cs) (l++ [some i]) l' new):RdOk T H [i] l l' (i::new):=by
 refine ⟨by rw [h.eq];simp,?_,?_⟩
 ·intro j hj;simp at hj;subst hj;rw [h.eq];simp
 ·intro j hj;rcases Z0.1 hj with rfl|hj
  ·exact ⟨_,hi,rfl,fun j hj=>h.ids j (hz j hj)⟩
  ·exact h.ents j hj
theorem Places.last {ρ:Nat->Nat} {l m:Src} {i:Nat} (h:Places ρ (l++ [some i]++m)):ρ i=l.length:=h l.length i (by simp)
theorem zj0 {H:List (Ent T.U)} {ρ:Nat->Nat} {i:Nat} {e:Ent T.U} (hi:H[i]?=some e) (r:List Nat):ze7 T H ρ (i::r)=e.ren ρ::ze7 T H ρ r:=by
 rw [ze7];split
 ·rename_i e' he;rw [hi] at he;simp only [X0] at he;subst he;rfl
 ·rename_i hn;rw [hi] at hn;cases hn
theorem va3 (t:Ty) (x:den T.U t) (ρ:Nat->Nat):(zn7 T t x).ren ρ=zn7 T t x:=by
 cases t with
 |user i=>
  show (AV.agg _).ren ρ=_;rw [AV.ren];show AV.agg (zj5 ρ ((T.cells i x).map .cell))=AV.agg ((T.cells i x).map .cell);congr 1;induction T.cells i x with
  |nil=>rfl
  |cons c r ih=>rw [List.map_cons,zj5,ih,AV.ren]
 |int k=>exact AV.ren.eq_1 ..
 |bool=>exact AV.ren.eq_1 ..
 |str=>exact AV.ren.eq_1 ..
 |list e=>exact AV.ren.eq_1 ..
theorem vt4 {t:Ty} {a:AV T.U} {x:den T.U t} (h:jr8 T t a=some x) (hn:a≠.raw (.slice none 0 0)):a=zn7 T t x:=by
 have one: ∀ {t:Ty} {c:Cell T.U} {x:den T.U t},(∀i,t≠.user i)->c.as t=some x->AV.cell c=zn7 T t x:=by
  intro t c x hn h;have:=Cell.as_eq h;subst this;cases t<;>first|rfl|exact absurd rfl (hn _)
 cases t with
 |user i=>
  cases a<;>simp only [jr8,reduceCtorEq] at h;rename_i cs;split at h
  ·rename_i l hl;have:=T.packed _ _ _ h;rw [zq9 hl,<-this];rfl
  ·cases h
 |list e=>
  cases a with
  |cell c=>exact one (by intro i hi;cases hi) h
  |raw u=>
   cases u with
   |slice ad n c=>
    cases ad with
    |some _=>cases h
    |none=>
     cases n with
     |succ _=>cases h
     |zero=>
      cases c with
      |succ _=>cases h
      |zero=>exact absurd rfl hn
   |_=>cases h
  |_=>cases h
 |int k=>cases a<;>first|(cases h;done)|exact one (by intro i hi;cases hi) h
 |bool=>cases a<;>first|(cases h;done)|exact one (by intro i hi;cases hi) h
 |str=>cases a<;>first|(cases h;done)|exact one (by intro i hi;cases hi) h
def Imp (T:Tab) (a b:AV T.U):Prop:=b.ids=a.ids/\(b=a\/(zb6 T a=true/\zb6 T b=true))/\ ∀(w:World) (S:List Nat) (φ:Nat->RA) (v:Value),VR T w S φ a v->VR T w S φ b v
inductive ImpL (T:Tab):List (AV T.U)->List (AV T.U)->Prop
 |nil:ImpL T [] []
 |cons {a b:AV T.U} {as bs:List (AV T.U)}:Imp T a b->ImpL T as bs->ImpL T (a::as) (b::bs)
inductive ImpE (T:Tab):Ent T.U->Ent T.U->Prop
 |same (e:Ent T.U):ImpE T e e
 |blk {e:TypeId} {as bs:List (AV T.U)}:ImpL T as bs->ImpE T (.blk e as) (.blk e bs)
 |map {k:IntKind} {keys:List Int} {as bs:List (AV T.U)}:ImpL T as bs->ImpE T (.map k (yf1 keys as)) (.map k (yf1 keys bs))
inductive ImpH (T:Tab):List (Ent T.U)->List (Ent T.U)->Prop
 |nil:ImpH T [] []
 |cons {e f:Ent T.U} {es fs:List (Ent T.U)}:ImpE T e f->ImpH T es fs->ImpH T (e::es) (f::fs)
theorem Imp.refl (a:AV T.U):Imp T a a:=⟨rfl,.inl rfl,fun _ _ _ _ h=>h⟩
theorem Imp.of_eq {a b:AV T.U} (h:a=b):Imp T a b:=h▸.refl a
theorem ImpL.vrl {as bs:List (AV T.U)} (h:ImpL T as bs): ∀ {w:World} {S:List Nat} {φ:Nat->RA} {vs:List Value},VRL T w S φ as vs->VRL T w S φ bs vs:=by
 induction h with
 |nil=>exact fun h=>h
 |cons h1 _ ih=>
  intro w S φ vs hv
  match vs,hv with
  |v::vs,hv=>exact ⟨h1.2.2 _ _ _ _ hv.1,ih hv.2⟩
theorem ImpL.ids {as bs:List (AV T.U)} (h:ImpL T as bs):w9 bs=w9 as:=by
 induction h with
 |nil=>rfl
 |cons h1 _ ih=>rw [w9,w9,ih,h1.1]
theorem ImpL.agg {as bs:List (AV T.U)} (h:ImpL T as bs):Imp T (.agg as) (.agg bs):=⟨by rw [AV.ids,AV.ids,h.ids],.inr ⟨rfl,rfl⟩,fun w S φ v hv=>by obtain ⟨vs,h1,h2⟩:=hv;exact ⟨vs,h1,h.vrl h2⟩⟩
theorem ImpL.fn {f:Fn} {as bs as' bs':List (AV T.U)} (h:ImpL T as bs) (h':ImpL T as' bs'):Imp T (.fn f as as') (.fn f bs bs'):=⟨by rw [AV.ids,AV.ids,h.ids,h'.ids],.inr ⟨rfl,rfl⟩,fun w S φ v hv=>by obtain ⟨va,vb,h1,h2,h3⟩:=hv;exact ⟨va,vb,h1,h.vrl h2,h'.vrl h3⟩⟩
theorem Imp.ifc {t:TypeId} {a b:AV T.U} (h:Imp T a b):Imp T (.ifc t a) (.ifc t b):=⟨by rw [AV.ids,AV.ids,h.1],.inr ⟨rfl,rfl⟩,fun w S φ v hv=>by obtain ⟨u,h1,h2⟩:=hv;exact ⟨u,h1,h.2.2 _ _ _ _ h2⟩⟩
theorem ImpL.app {as bs as' bs':List (AV T.U)} (h:ImpL T as bs) (h':ImpL T as' bs'):ImpL T (as++as') (bs++bs'):=by
 induction h with
 |nil=>exact h'
 |cons h1 _ ih=>exact .cons h1 ih
theorem Imp.exp {a b:AV T.U} (h:Imp T a b):ImpL T (jk6 T a) (jk6 T b)/\(jt4 T a->jt4 T b):=by
 rcases h.2.1 with rfl|⟨h1,h2⟩
 ·refine ⟨?_,id⟩;generalize jk6 T b=l;induction l with
  |nil=>exact .nil
  |cons a r ih=>exact .cons (.refl a) ih
 ·rw [zo1 T h1,zo1 T h2];exact ⟨.cons h .nil,fun _=>yc7 T h2⟩
theorem ImpL.exp {as bs:List (AV T.U)} (h:ImpL T as bs):ImpL T (zh9 T as) (zh9 T bs)/\(zy7 T as->zy7 T bs):=by
 induction h with
 |nil=>exact ⟨.nil,id⟩
 |cons h1 _ ih=>exact ⟨h1.exp.1.app ih.1,fun hl=>⟨h1.exp.2 hl.1,ih.2 hl.2⟩⟩
theorem ImpL.br {as bs:List (AV T.U)} (h:ImpL T as bs) {w:World} {S:List Nat} {φ:Nat->RA} {vs:List Value} (hb:BR T w S φ as vs):BR T w S φ bs vs:=⟨h.exp.1.vrl hb.1,h.exp.2 hb.2⟩
theorem ImpL.mr {k:IntKind} {as bs:List (AV T.U)} (h:ImpL T as bs): ∀ {keys:List Int} {w:World} {S:List Nat} {φ:Nat->RA} {l:List MapEntry},MR T w S φ k (yf1 keys as) l->MR T w S φ k (yf1 keys bs) l:=by
 induction h with
 |nil=>exact fun h=>h
 |cons h1 _ ih=>
  intro keys w S φ l hm
  match keys,l,hm with
  | [],_,hm=>exact hm
  |_::_,[],hm=>exact hm
  |x::r,e::l,hm=>exact ⟨hm.1,h1.2.2 _ _ _ _ hm.2.1,ih hm.2.2⟩
theorem ImpL.idsM {as bs:List (AV T.U)} (h:ImpL T as bs): ∀(keys:List Int),idsM (yf1 keys bs)=idsM (yf1 keys as):=by
 induction h with
 |nil=>exact fun _=>rfl
 |cons h1 _ ih=>
  intro keys;cases keys with
  |nil=>rfl
  |cons x r=>rw [yf1,yf1,Go.X.idsM,Go.X.idsM,h1.1,ih r]
theorem jm5 {U:Nat->Type}: ∀(keys:List Int) (as:List (AV U)),∀i∈idsM (yf1 keys as),i∈w9 as
 | [],_,i,hi=>by cases hi
 |_::_,[],i,hi=>by cases hi
 |x::r,a::s,i,hi=>by
  rcases X4.1 (show i∈a.ids++idsM (yf1 r s) from hi) with hi|hi
  ·exact X4.2 (.inl hi)
  ·exact X4.2 (.inr (jm5 r s i hi))
theorem yj5 {U:Nat->Type} (ρ:Nat->Nat): ∀(keys:List Int) (as:List (AV U)),qd8 ρ (yf1 keys as)=yf1 keys (zj5 ρ as)
 | [],_=>rfl
 |_::_,[]=>rfl
 |x::r,a::s=>congrArg ((x,a.ren ρ):: ·) (yj5 ρ r s)
theorem ImpH.app {as bs as' bs':List (Ent T.U)} (h:ImpH T as bs) (h':ImpH T as' bs'):ImpH T (as++as') (bs++bs'):=by
 induction h with
 |nil=>exact h'
 |cons h1 _ ih=>exact .cons h1 ih
theorem ImpH.get {es fs:List (Ent T.U)} (h:ImpH T es fs): ∀ {i:Nat} {f:Ent T.U},fs[i]?=some f-> ∃e,es[i]?=some e/\ImpE T e f:=by
 induction h with
 |nil=>intro i f h;simp at h
 |cons h1 _ ih=>
  intro i f hf;cases i with
  |zero=>simp at hf;subst hf;exact ⟨_,rfl,h1⟩
  |succ i=>exact ih (by simpa using hf)
theorem ImpH.len {es fs:List (Ent T.U)} (h:ImpH T es fs):fs.length=es.length:=by
 induction h with
 |nil=>rfl
 |cons _ _ ih=>simp [ih]
theorem ImpE.live {e f:Ent T.U} (h:ImpE T e f):f.live=e.live:=by cases h<;>rfl
theorem ImpE.cellIds {e f:Ent T.U} (h:ImpE T e f):f.cellIds=e.cellIds:=by
 cases h with
 |same e=>rfl
 |blk h=>exact h.ids
 |map h=>exact h.idsM _
theorem ImpE.entR {e f:Ent T.U} (h:ImpE T e f) {w:World} {S:List Nat} {φ:Nat->RA} {i:Nat} (he:EntR T w S φ i e):EntR T w S φ i f:=by
 cases h with
 |same e=>exact he
 |blk h=>obtain ⟨g,c,h1,h2,h3,h4⟩:=he;exact ⟨g,c,h1,h2,h3,h.br h4⟩
 |map h=>obtain ⟨g,l,c,h1,h2,h3,h4⟩:=he;exact ⟨g,l,c,h1,h2,h3,h.mr h4⟩
theorem Sim.imp {w0:World} {S0:Ow} {F:AF T} {H H1:List (Ent T.U)} {F':PF} {w:World} {S:List Nat} {φ:Nat->RA} (h:Sim T w0 S0 ⟨F,H⟩ F' w S φ) (hi:ImpH T H H1):Sim T w0 S0 ⟨F,H1⟩ F' w S φ:=by
 refine ⟨h.fr,?_,h.chg,h.own,h.ex,?_,fun k r hk=>⟨(h.pins k r hk).1,by have:=(h.pins k r hk).2;simp only [hi.len] at this⊢;exact this⟩,?_,?_,?_⟩
 ·intro i a ha;obtain ⟨h1,h2⟩:=h.ids i a ha;refine ⟨fun j hj=>by have:=h1 j hj;simp only [hi.len] at this⊢;exact this,?_⟩;cases a with
  |eptr j sz k c=>
   intro e t xs hx;obtain ⟨e0,g1,g2⟩:=hi.get hx;cases g2 with
   |same=>exact h2 e t xs g1
  |_=>trivial
 ·intro i f hf hl a ha;obtain ⟨e0,g1,g2⟩:=hi.get hf;exact h.lives i e0 g1 (by rw [<-g2.live];exact hl) a ha
 ·intro i f hf;obtain ⟨e0,g1,g2⟩:=hi.get hf;exact g2.entR (h.ents i e0 g1)
 ·intro i f hf j hj;obtain ⟨e0,g1,g2⟩:=hi.get hf;rw [g2.cellIds] at hj;have:=h.eids i e0 g1 j hj;simp only [hi.len] at this⊢;exact this
 ·intro i j f f' hf hf' hl hl' hij a b ha hb;obtain ⟨e0,g1,g2⟩:=hi.get hf;obtain ⟨e0',g1',g2'⟩:=hi.get hf';exact h.apart i j e0 e0' g1 g1' (by rw [<-g2.live];exact hl) (by rw [<-g2'.live];exact hl') hij a b ha hb
theorem qn0 {t:Ty} {a:AV T.U} {x:den T.U t} (h:jr8 T t a=some x) (ρ:Nat->Nat):Imp T (a.ren ρ) (zn7 T t x)/\a.ids= []:=by
 by_cases hn:a=.raw (.slice none 0 0)
 ·subst hn;cases t<;>try (cases h;done)
  rename_i e;have h:([]:List (den T.U e))=x:=X5 h;subst h;refine ⟨⟨rfl,.inr ⟨rfl,rfl⟩,fun w S φ v hv=>?_⟩,rfl⟩;rw [AV.ren,VR] at hv;subst hv;exact CR.nilS
 ·have:=vt4 h hn;subst this;rw [va3];exact ⟨.refl _,yk1 t x⟩
theorem yp1 {U:Nat->Type} {a:AV U} {i:Nat} (h:gk7 a=some i):a=.own i:=by cases a<;>simp_all [gk7]
theorem vk9 {U:Nat->Type} {a:AV U} {i sz o n:Nat} (h:slI a=some (i,sz,o,n)):a=.sl i sz o n:=by cases a<;>simp_all [slI]
theorem jj9 {U:Nat->Type} {a:AV U} {i o:Nat} (h:wi2 a=some (i,o)):a=.ptr i o:=by cases a<;>simp_all [wi2]
theorem wy9 {U:Nat->Type} {a:AV U} {f:FuncId} {as bs:List (AV U)} (h:fnI a=some (f,as,bs)):a=.fn (.func f) as bs:=by
 cases a<;>try (cases h;done)
 rename_i f' _ _;cases f'<;>try (cases h;done)
 simp only [fnI,X0,X7] at h;obtain ⟨rfl,rfl,rfl⟩:=h;rfl
theorem go8 {U:Nat->Type} {a:AV U} {as:List (AV U)} (h:um2 a=some as):a=.agg as:=by cases a<;>simp_all [um2]
theorem wa0 {U:Nat->Type} {a b:AV U} {t:TypeId} (h:um3 a=some (t,b)):a=.ifc t b:=by cases a<;>simp_all [um3]
theorem km1 {U:Nat->Type} {a:AV U} (h:gf9 a=true):a=.raw (.slice none 0 0):=by
 unfold gf9 at h;split at h
 ·rfl
 ·cases h
theorem va4 {U:Nat->Type} {a:AV U} (h:gh4 a=true):a=.raw (.pointer none):=by
 unfold gh4 at h;split at h
 ·rfl
 ·cases h
theorem qr2 {U:Nat->Type} {t:Ty} {n:Nat} {a:AV U} {xs:List (den U t)} (h:gh8 t n a=some xs):a=.arr t n xs:=by
 unfold gh8 at h;split at h
 ·split at h
  ·rename_i hb;have:=X1 hb;subst this;split at h
   ·rename_i ht;subst ht;simp only [X0] at h;subst h;rfl
   ·cases h
  ·cases h
 ·cases h
theorem kz6 {U:Nat->Type} {e:Ty} {o k:Nat} {a:AV U} {xs:List (den U e)} (h:lpI e o a=some (xs,k)):a=.lptr e xs k o:=by
 unfold lpI at h;split at h
 ·split at h
  ·rename_i hb;have:=X1 hb;subst this;split at h
   ·rename_i ht;subst ht;simp only [X0,X7] at h;obtain ⟨rfl,rfl⟩:=h;rfl
   ·cases h
  ·cases h
 ·cases h
theorem vt8 {U:Nat->Type} {a:AV U} {i o sz n lo m:Nat} (h:wk7 a=some (i,o,sz,n,lo,m)):a=.asl i o sz n lo m:=by cases a<;>simp_all [wk7]
theorem qn1 {U:Nat->Type} {a:AV U} {i o sz n k c:Nat} (h:gf4 a=some (i,o,sz,n,k,c)):a=.aptr i o sz n k c:=by cases a<;>simp_all [gf4]
theorem vl6 {U:Nat->Type} {a:AV U} {i:Nat} (h:mpI a=some i):a=.mp i:=by cases a<;>simp_all [mpI]
theorem vo8 {U:Nat->Type} {a:AV U} {n:Nat} (h:um1 n a=true):a=.raw (uz1 n):=by
 unfold um1 at h;split at h<;>first|(have:=X1 h;subst this;rfl)|cases h
mutual
theorem ql0 {H:List (Ent T.U)}: ∀(s:Sh) (a:AV T.U) (l l':Src) (x:s.den T),rdS T H s a l=some (x,l')->
  ∃new,RdOk T H a.ids l l' new/\new.length=s.cnt/\ ∀ρ,Places ρ l'->Imp T (a.ren ρ) (mkA T id s x l.length)/\ImpH T (ze7 T H ρ new) (mkE T id s x l.length)
 | .val t,a,l,l',x,h=>by
  unfold rdS at h;split at h
  ·rename_i y hy;simp only [X0,X7] at h;obtain ⟨rfl,rfl⟩:=h;refine ⟨[],.nil (by rw [(qn0 hy id).2];intro j hj;cases hj),rfl,fun ρ hρ=>⟨?_,.nil⟩⟩;exact (qn0 hy ρ).1
  ·cases h
 | .row e t,a,l,l',x,h=>by
  unfold rdS at h;split at h<;>try (cases h;done)
  rename_i i ha;have:=yp1 ha;subst this;split at h
  ·rename_i xs hx;simp only [X0,X7] at h;obtain ⟨rfl,rfl⟩:=h;have hx:=zx4 hx;refine ⟨[i],.one hx rfl rfl,rfl,fun ρ hρ=>⟨.of_eq ?_,?_⟩⟩
   ·show AV.own (ρ i)=AV.own l.length;rw [show ρ i=l.length from hρ l.length i (by simp)]
   ·rw [zj0 hx];exact .cons (.same _) .nil
  ·cases h
 | .slr e t,a,l,l',x,h=>by
  unfold rdS at h;split at h<;>try (cases h;done)
  rename_i i sz o n ha;have:=vk9 ha;subst this;split at h<;>try (cases h;done)
  rename_i xs hx;split at h<;>try (cases h;done)
  rename_i hsz;simp only [X0,X7] at h;obtain ⟨rfl,rfl⟩:=h;have:=X1 hsz;subst this;have hx:=zx4 hx;refine ⟨[i],.one hx rfl rfl,rfl,fun ρ hρ=>⟨.of_eq ?_,?_⟩⟩
  ·show AV.sl (ρ i) _ o n=AV.sl l.length _ o n;rw [show ρ i=l.length from hρ l.length i (by simp)]
  ·rw [zj0 hx];exact .cons (.same _) .nil
 | .ptr o e cs,a,l,l',x,h=>by
  unfold rdS at h;split at h<;>try (cases h;done)
  rename_i i o' ha;have:=jj9 ha;subst this;split at h<;>try (cases h;done)
  rename_i as hb;split at h<;>try (cases h;done)
  rename_i ho;have:=X1 ho;subst this;have hb:=zw8 hb;obtain ⟨new,g1,g2,g3⟩:=ze4 cs as _ _ x h;refine ⟨i::new,.blk hb g1,by rw [List.length_cons,g2,Sh.cnt];omega,fun ρ hρ=>?_⟩;obtain ⟨q1,q2⟩:=g3 ρ hρ;rw [show (l++ [some i]).length=l.length+1 by simp] at q1 q2;refine ⟨.of_eq ?_,?_⟩
  ·rw [g1.eq] at hρ;show AV.ptr (ρ i) o'=AV.ptr l.length o';rw [hρ.last]
  ·rw [zj0 hb];exact .cons (.blk q1) q2
 | .slb sz n e cs,a,l,l',x,h=>by
  unfold rdS at h;split at h<;>try (cases h;done)
  rename_i i sz' o n' ha;have:=vk9 ha;subst this;split at h<;>try (cases h;done)
  rename_i as hb;split at h<;>try (cases h;done)
  rename_i ho;simp only [X3] at ho;have:=X1 ho.1;subst this;have:=X1 ho.2.1;subst this;have:=X1 ho.2.2;subst this;have hb:=zw8 hb;obtain ⟨new,g1,g2,g3⟩:=ze4 cs as _ _ x h;refine ⟨i::new,.blk hb g1,by rw [List.length_cons,g2,Sh.cnt];omega,fun ρ hρ=>?_⟩;obtain ⟨q1,q2⟩:=g3 ρ hρ;rw [show (l++ [some i]).length=l.length+1 by simp] at q1 q2;refine ⟨.of_eq ?_,?_⟩
  ·rw [g1.eq] at hρ;show AV.sl (ρ i) sz' 0 n'=AV.sl l.length sz' 0 n';rw [hρ.last]
  ·rw [zj0 hb];exact .cons (.blk q1) q2
 | .at_ p o,a,l,l',x,h=>by
  unfold rdS at h;split at h<;>try (cases h;done)
  rename_i i o' ha;have:=jj9 ha;subst this;split at h
  ·rename_i hb;simp only [X0,X7] at h;obtain ⟨_,rfl⟩:=h;simp only [X3] at hb;have:=X1 hb.1;subst this;have hs:=zh7 hb.2;refine ⟨[],.nil (by intro j hj;simp [AV.ids] at hj;subst hj;exact X6 hs),rfl,fun ρ hρ=>⟨.of_eq ?_,.nil⟩⟩;show AV.ptr (ρ i) o'=AV.ptr p o';rw [hρ p i hs]
  ·cases h
 | .own p,a,l,l',x,h=>by
  unfold rdS at h;split at h<;>try (cases h;done)
  rename_i i ha;have:=yp1 ha;subst this;split at h
  ·rename_i hb;simp only [X0,X7] at h;obtain ⟨_,rfl⟩:=h;have hs:=zh7 hb;refine ⟨[],.nil (by intro j hj;simp [AV.ids] at hj;subst hj;exact X6 hs),rfl,fun ρ hρ=>⟨.of_eq ?_,.nil⟩⟩;show AV.own (ρ i)=AV.own p;rw [hρ p i hs]
  ·cases h
 | .part p sz,a,l,l',x,h=>by
  unfold rdS at h;split at h<;>try (cases h;done)
  rename_i i sz' o n ha;have:=vk9 ha;subst this;split at h
  ·rename_i hb;simp only [X0,X7] at h;obtain ⟨rfl,rfl⟩:=h;simp only [X3] at hb;have:=X1 hb.1;subst this;have hs:=zh7 hb.2;refine ⟨[],.nil (by intro j hj;simp [AV.ids] at hj;subst hj;exact X6 hs),rfl,fun ρ hρ=>⟨.of_eq ?_,.nil⟩⟩;show AV.sl (ρ i) sz' o n=AV.sl p sz' o n;rw [hρ p i hs]
  ·cases h
 | .fn f a b,c,l,l',x,h=>by
  unfold rdS at h;split at h<;>try (cases h;done)
  rename_i f' as bs ha;have:=wy9 ha;subst this;split at h<;>try (cases h;done)
  rename_i y l1 hy;split at h<;>try (cases h;done)
  rename_i hf;have:=X1 hf;subst this;obtain ⟨z,hz,rfl⟩:=zp2 h;obtain ⟨n1,g1,g2,g3⟩:=ze4 a as _ _ y hy;obtain ⟨n2,k1,k2,k3⟩:=ze4 b bs _ _ z hz;refine ⟨n1++n2,by rw [AV.ids];exact g1.app k1,by rw [X9,g2,k2,Sh.cnt],fun ρ hρ=>?_⟩;obtain ⟨q1,q2⟩:=g3 ρ (by rw [k1.eq] at hρ;exact hρ.pre);obtain ⟨q3,q4⟩:=k3 ρ hρ;have hlen:l1.length=l.length+zb5 a:=by rw [g1.eq,X9,List.length_map,g2]
  rw [hlen] at q3 q4;refine ⟨?_,?_⟩
  ·show Imp T (.fn (.func f') (zj5 ρ as) (zj5 ρ bs)) (.fn (.func f') (zc6 T id a y l.length) (zc6 T id b z (l.length+zb5 a)));exact q1.fn q3
  ·rw [zq0];exact q2.app q4
 | .agg cs,a,l,l',x,h=>by
  unfold rdS at h;split at h<;>try (cases h;done)
  rename_i as ha;have:=go8 ha;subst this;obtain ⟨new,g1,g2,g3⟩:=ze4 cs as _ _ x h;refine ⟨new,by rw [AV.ids];exact g1,by rw [g2,Sh.cnt],fun ρ hρ=>?_⟩;obtain ⟨q1,q2⟩:=g3 ρ hρ;exact ⟨(show Imp T (.agg (zj5 ρ as)) (.agg (zc6 T id cs x l.length)) from q1.agg),q2⟩
 | .ifc t s,a,l,l',x,h=>by
  unfold rdS at h;split at h<;>try (cases h;done)
  rename_i t' a ha;have:=wa0 ha;subst this;split at h
  ·rename_i ht;have:=X1 ht;subst this;obtain ⟨new,g1,g2,g3⟩:=ql0 s a _ _ x h;refine ⟨new,by rw [AV.ids];exact g1,by rw [g2,Sh.cnt],fun ρ hρ=>?_⟩;obtain ⟨q1,q2⟩:=g3 ρ hρ;exact ⟨(show Imp T (.ifc t' (a.ren ρ)) (.ifc t' (mkA T id s x l.length)) from q1.ifc),q2⟩
  ·cases h
 | .nils,a,l,l',x,h=>by
  unfold rdS at h;split at h<;>try (cases h;done)
  rename_i ha;have:=km1 ha;subst this;simp only [X0,X7] at h;obtain ⟨_,rfl⟩:=h;exact ⟨[],.nil (by intro j hj;cases hj),rfl,fun ρ hρ=>⟨.of_eq rfl,.nil⟩⟩
 | .nilp,a,l,l',x,h=>by
  unfold rdS at h;split at h<;>try (cases h;done)
  rename_i ha;have:=va4 ha;subst this;simp only [X0,X7] at h;obtain ⟨_,rfl⟩:=h;exact ⟨[],.nil (by intro j hj;cases hj),rfl,fun ρ hρ=>⟨.of_eq rfl,.nil⟩⟩
 | .arr t n,a,l,l',x,h=>by
  unfold rdS at h;split at h
  ·rename_i xs hx;simp only [X0,X7] at h;obtain ⟨rfl,rfl⟩:=h;have:=qr2 hx;subst this;exact ⟨[],.nil (by intro j hj;cases hj),rfl,fun ρ hρ=>⟨.of_eq rfl,.nil⟩⟩
  ·cases h
 | .lp e o,a,l,l',x,h=>by
  unfold rdS at h;split at h
  ·rename_i y hx;obtain ⟨xs,k⟩:=y;simp only [X0,X7] at h;obtain ⟨rfl,rfl⟩:=h;have:=kz6 hx;subst this;exact ⟨[],.nil (by intro j hj;cases hj),rfl,fun ρ hρ=>⟨.of_eq rfl,.nil⟩⟩
  ·cases h
 | .lpk e k o,a,l,l',x,h=>by
  unfold rdS at h;split at h<;>try (cases h;done)
  rename_i y hx;split at h<;>try (cases h;done)
  rename_i hk;obtain ⟨xs,k'⟩:=y;have:=X1 hk;subst this;simp only [X0,X7] at h;obtain ⟨rfl,rfl⟩:=h;have:=kz6 hx;subst this;exact ⟨[],.nil (by intro j hj;cases hj),rfl,fun ρ hρ=>⟨.of_eq rfl,.nil⟩⟩
 | .asp p o sz n,a,l,l',x,h=>by
  unfold rdS at h;split at h<;>try (cases h;done)
  rename_i i o' sz' n' lo m ha;have:=vt8 ha;subst this;split at h
  ·rename_i hb;simp only [X0,X7] at h;obtain ⟨rfl,rfl⟩:=h;simp only [X3] at hb;have hs:=zh7 hb.1;have:=X1 hb.2.1;subst this;have:=X1 hb.2.2.1;subst this;have:=X1 hb.2.2.2;subst this;refine ⟨[],.nil (by intro j hj;simp [AV.ids] at hj;subst hj;exact X6 hs),rfl,fun ρ hρ=>⟨.of_eq ?_,.nil⟩⟩;show AV.asl (ρ i) _ _ _ _ _=AV.asl p _ _ _ _ _;rw [hρ p i hs]
  ·cases h
 | .asn e cs o sz n,a,l,l',x,h=>by
  unfold rdS at h;split at h<;>try (cases h;done)
  rename_i i o' sz' n' lo m ha;have:=vt8 ha;subst this;split at h<;>try (cases h;done)
  rename_i as hb;split at h<;>try (cases h;done)
  rename_i ho;simp only [X3] at ho;have:=X1 ho.1;subst this;have:=X1 ho.2.1;subst this;have:=X1 ho.2.2;subst this;have hb:=zw8 hb;obtain ⟨y,hy,rfl⟩:=zp2 h;obtain ⟨new,g1,g2,g3⟩:=ze4 cs as _ _ y hy;refine ⟨i::new,.blk hb g1,by rw [List.length_cons,g2,Sh.cnt];omega,fun ρ hρ=>?_⟩;obtain ⟨q1,q2⟩:=g3 ρ hρ;rw [show (l++ [some i]).length=l.length+1 by simp] at q1 q2;refine ⟨.of_eq ?_,?_⟩
  ·rw [g1.eq] at hρ;show AV.asl (ρ i) _ _ _ lo m=AV.asl l.length _ _ _ lo m;rw [hρ.last]
  ·rw [zj0 hb];exact .cons (.blk q1) q2
 | .ap p o sz n c,a,l,l',x,h=>by
  unfold rdS at h;split at h<;>try (cases h;done)
  rename_i i o' sz' n' k c' ha;have:=qn1 ha;subst this;split at h
  ·rename_i hb;simp only [X0,X7] at h;obtain ⟨rfl,rfl⟩:=h;simp only [X3] at hb;have hs:=zh7 hb.1;have:=X1 hb.2.1;subst this;have:=X1 hb.2.2.1;subst this;have:=X1 hb.2.2.2.1;subst this;have:=X1 hb.2.2.2.2;subst this;refine ⟨[],.nil (by intro j hj;simp [AV.ids] at hj;subst hj;exact X6 hs),rfl,fun ρ hρ=>⟨.of_eq ?_,.nil⟩⟩;show AV.aptr (ρ i) _ _ _ _ _=AV.aptr p _ _ _ _ _;rw [hρ p i hs]
  ·cases h
 | .mp kd keys cs,a,l,l',x,h=>by
  unfold rdS at h;split at h<;>try (cases h;done)
  rename_i i ha;have:=vl6 ha;subst this;split at h<;>try (cases h;done)
  rename_i as hb;have hb:=jh7 hb;obtain ⟨new,g1,g2,g3⟩:=ze4 cs as _ _ x h;refine ⟨i::new,.map hb (jm5 keys as) g1,by rw [List.length_cons,g2,Sh.cnt];omega,fun ρ hρ=>?_⟩;obtain ⟨q1,q2⟩:=g3 ρ hρ;rw [show (l++ [some i]).length=l.length+1 by simp] at q1 q2;refine ⟨.of_eq ?_,?_⟩
  ·rw [g1.eq] at hρ;show AV.mp (ρ i)=AV.mp l.length;rw [hρ.last]
  ·rw [zj0 hb];refine .cons ?_ q2;show ImpE T (.map kd (qd8 ρ (yf1 keys as))) _;rw [yj5];exact .map q1
 | .mpo p,a,l,l',x,h=>by
  unfold rdS at h;split at h<;>try (cases h;done)
  rename_i i ha;have:=vl6 ha;subst this;split at h
  ·rename_i hb;simp only [X0,X7] at h;obtain ⟨_,rfl⟩:=h;have hs:=zh7 hb;refine ⟨[],.nil (by intro j hj;simp [AV.ids] at hj;subst hj;exact X6 hs),rfl,fun ρ hρ=>⟨.of_eq ?_,.nil⟩⟩;show AV.mp (ρ i)=AV.mp p;rw [hρ p i hs]
  ·cases h
 | .rw n,a,l,l',x,h=>by
  unfold rdS at h;split at h<;>try (cases h;done)
  rename_i ha;have:=vo8 ha;subst this;simp only [X0,X7] at h;obtain ⟨_,rfl⟩:=h;exact ⟨[],.nil (by intro j hj;cases hj),rfl,fun ρ hρ=>⟨.of_eq (by rw [AV.ren];rfl),.nil⟩⟩
 | .tm kd t,a,l,l',x,h=>by
  unfold rdS at h;split at h<;>try (cases h;done)
  rename_i i ha;have:=vl6 ha;subst this;split at h
  ·rename_i xs hx;simp only [X0,X7] at h;obtain ⟨rfl,rfl⟩:=h;have hx:=jz1 hx;refine ⟨[i],.one hx rfl rfl,rfl,fun ρ hρ=>⟨.of_eq ?_,?_⟩⟩
   ·show AV.mp (ρ i)=AV.mp l.length;rw [show ρ i=l.length from hρ l.length i (by simp)]
   ·rw [zj0 hx];exact .cons (.same _) .nil
  ·cases h
 | .dr e d fe,a,l,l',x,h=>by
  unfold rdS at h;split at h<;>try (cases h;done)
  rename_i i ha;have:=yp1 ha;subst this;split at h
  ·rename_i xs hx;simp only [X0,X7] at h;obtain ⟨rfl,rfl⟩:=h;have hx:=yy7 hx;refine ⟨[i],.one hx rfl rfl,rfl,fun ρ hρ=>⟨.of_eq ?_,?_⟩⟩
   ·show AV.own (ρ i)=AV.own l.length;rw [show ρ i=l.length from hρ l.length i (by simp)]
   ·rw [zj0 hx];exact .cons (.same _) .nil
  ·cases h
theorem ze4 {H:List (Ent T.U)}: ∀(ss:List Sh) (as:List (AV T.U)) (l l':Src) (x:zd8 T ss),zp0 T H ss as l=some (x,l')->
  ∃new,RdOk T H (w9 as) l l' new/\new.length=zb5 ss/\ ∀ρ,Places ρ l'->ImpL T (zj5 ρ as) (zc6 T id ss x l.length)/\ImpH T (ze7 T H ρ new) (zh0 T id ss x l.length)
 | [],as,l,l',x,h=>by
  cases as with
  |cons _ _=>unfold zp0 at h;cases h
  |nil=>
   unfold zp0 at h;simp only [X0,X7] at h;obtain ⟨_,rfl⟩:=h;exact ⟨[],.nil (by intro j hj;cases hj),rfl,fun ρ hρ=>⟨.nil,.nil⟩⟩
 |s::r,as,l,l',x,h=>by
  cases as with
  |nil=>unfold zp0 at h;cases h
  |cons a as=>
   unfold zp0 at h;simp only at h;split at h<;>try (cases h;done)
   rename_i y l1 hy;obtain ⟨z,hz,rfl⟩:=zp2 h;obtain ⟨n1,g1,g2,g3⟩:=ql0 s a _ _ y hy;obtain ⟨n2,k1,k2,k3⟩:=ze4 r as _ _ z hz;refine ⟨n1++n2,by rw [w9];exact g1.app k1,by rw [X9,g2,k2,zb5],fun ρ hρ=>?_⟩;obtain ⟨q1,q2⟩:=g3 ρ (by rw [k1.eq] at hρ;exact hρ.pre);obtain ⟨q3,q4⟩:=k3 ρ hρ;have hlen:l1.length=l.length+s.cnt:=by rw [g1.eq,X9,List.length_map,g2]
   rw [hlen] at q3 q4;exact ⟨(.cons q1 q3),by rw [zq0];exact q2.app q4⟩
end
end
end Go.X
