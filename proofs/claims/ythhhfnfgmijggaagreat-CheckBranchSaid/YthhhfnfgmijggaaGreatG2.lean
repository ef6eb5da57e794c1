import Derived.Test.YthhhfnfgmijggaaGreatX9
namespace Go.X
open Go.RowKit Go.V
def yb5 (i:Nat):List Nat->Bool| []=>false|j::r=>match Nat.beq j i with|true=>true|false=>yb5 i r
def vp5 (l:List Nat):List Nat->List Nat| []=>l|i::r=>match yb5 i l with|true=>vp5 l r|false=>vp5 (l++ [i]) r
def vg7 (i:Nat):List Nat->Nat| []=>0|j::r=>match Nat.beq j i with|true=>0|false=>vg7 i r+1
def zd6:List Nat->Bool| []=>true|i::r=> !yb5 i r&&zd6 r
theorem zc5 {i:Nat}: ∀ {l:List Nat},yb5 i l=true↔i∈l
 | []=>by simp [yb5]
 |j::r=>by
  unfold yb5;split
  ·rename_i h;have:=X1 h;subst this;simp
  ·rename_i h;have hne:j≠i:=fun e=>by subst e;simp at h
   rw [zc5];simp [Ne.symm hne]
theorem yc4 {i:Nat}: ∀ {l:List Nat},i∈l->vg7 i l<l.length/\l[vg7 i l]?=some i
 | [],h=>by cases h
 |j::r,h=>by
  unfold vg7;split
  ·rename_i hb;have:=X1 hb;subst this;simp
  ·rename_i hb;have hne:j≠i:=fun e=>by subst e;simp at hb
   have hr:i∈r:=by
    rcases Z0.1 h with rfl|h
    ·exact absurd rfl hne
    ·exact h
   obtain ⟨h1,h2⟩:=yc4 hr;exact ⟨by simpa using h1,by rw [List.getElem?_cons_succ];exact h2⟩
theorem yf7: ∀ {l:List Nat},zd6 l=true-> ∀ {a b x:Nat},l[a]?=some x->l[b]?=some x->a=b
 | [],_,a,b,x,ha,_=>by simp at ha
 |i::r,h,a,b,x,ha,hb=>by
  unfold zd6 at h;simp only [X3,Bool.not_eq_true'] at h;have hni:i∉r:=fun hm=>by have:=zc5.2 hm;rw [h.1] at this;cases this
  cases a with
  |zero=>
   cases b with
   |zero=>rfl
   |succ b=>
    simp at ha hb;subst ha;exact absurd (X6 hb) hni
  |succ a=>
   cases b with
   |zero=>
    simp at ha hb;subst hb;exact absurd (X6 ha) hni
   |succ b=>
    simp at ha hb;rw [yf7 h.2 ha hb]
section
variable (T:Tab)
def zu6 (H:List (Ent T.U)):List Nat->List (Ent T.U)
 | []=>H
 |i::r=>zu6 (H.set i .gone) r
def un0 {U:Nat->Type}:Cell U->Option ((t:Ty)×List (den U t))|⟨.list t,ys⟩=>some ⟨t,ys⟩|_=>none
def ge6 {U:Nat->Type} (e:TypeId) (c:Cell U):Option ((t:Ty)×List (den U t)):=match Nat.beq e 0 with|true=>none|false=>un0 c
def ze3:List TypeId->List (Cell T.U)->Nat->List (AV T.U)×List (Ent T.U)
 |_,[],_=>([],[])
 |fe,c::r,n=>match ge6 (fe.headD 0) c with
  |some ⟨t,ys⟩=>(.own n::(ze3 fe.tail r (n+1)).1,.row (fe.headD 0) t ys::(ze3 fe.tail r (n+1)).2)
  |none=>(.cell c::(ze3 fe.tail r n).1,(ze3 fe.tail r n).2)
def elD (d:Nat) (xs:List (T.U d)) (a:Nat):List (Cell T.U):=T.cells d (xs.getD a (T.d d))
def yi3 (H:List (Ent T.U)) (k:Nat) (e:TypeId) (d:Nat) (fe:List TypeId) (xs:List (T.U d)) (a:Nat):List (Ent T.U):=
 H.set k (.drow e d fe xs (some (a,(ze3 T fe (elD T d xs a) H.length).1)))++(ze3 T fe (elD T d xs a) H.length).2
def vl3 (H:List (Ent T.U)) (t:Ty) (e:TypeId) (a:AV T.U):Option (Cell T.U×List Nat):=
 match a with
 | .own j=>match H[j]?,t with
  |some (.row e' t' ys),.list t0=>(match Nat.beq e' e&& !(Nat.beq e 0) with|true=>if t'=t0 then some (⟨.list t',ys⟩,[j]) else none|false=>none)
  |_,_=>none
 | .raw (.slice none 0 0)=>match t with| .list t0=>some (⟨.list t0,[]⟩,[])|_=>none
 | .cell c=>match c.t.scal||Nat.beq e 0 with|true=>some (c,[])|false=>none
 |_=>none
def ya9 (H:List (Ent T.U)):List Ty->List TypeId->List (AV T.U)->Option (List (Cell T.U)×List Nat)
 | [],_,[]=>some ([],[])
 |t::ts,fe,a::as=>match vl3 T H t (fe.headD 0) a,ya9 H ts fe.tail as with|some (c,l),some (cs,ls)=>some (c::cs,l++ls)|_,_=>none
 |_,_,_=>none
def yo2 (H:List (Ent T.U)) (k:Nat):List (Ent T.U):=
 match H[k]? with
 |some (.drow e d fe xs (some (a,cs)))=>match ya9 T H (kf6 T d) fe cs with
  |some (l,ids)=>match zd6 ids,T.pack d l with
   |true,some y=>zu6 T (H.set k (.drow e d fe (xs.set a y) none)) ids
   |_,_=>H
  |none=>H
 |_=>H
def closeL:List Nat->List (Ent T.U)->List (Ent T.U)
 | [],H=>H
 |k::r,H=>closeL r (yo2 T H k)
end
section
variable {T:Tab} {P:Program} {w w':World} {S S':List Nat} {φ φ':Nat->RA} {w0:World} {S0:Ow} {F:AF T} {H:List (Ent T.U)} {F':PF}
theorem zx9 {i j:Nat} {f:Ent T.U} (h:(H.set i .gone)[j]?=some f) (hl:f.live=true):j≠i/\H[j]?=some f:=by
 by_cases hji:j=i
 ·subst hji;have hlt:=(X2.1 h).1;rw [Q0 (by simpa using hlt)] at h;simp only [X0] at h;subst h;cases hl
 ·rw [Z5 (Ne.symm hji)] at h;exact ⟨hji,h⟩
theorem jz5: ∀ {ids:List Nat} {H:List (Ent T.U)} {j:Nat} {f:Ent T.U},(zu6 T H ids)[j]?=some f->f.live=true->j∉ids/\H[j]?=some f
 | [],H,j,f,h,_=>⟨by simp,h⟩
 |i::r,H,j,f,h,hl=>by
  obtain ⟨h1,h2⟩:=jz5 (ids:=r) h hl;obtain ⟨h3,h4⟩:=zx9 h2 hl;exact ⟨by simp [h3,h1],h4⟩
theorem yz9: ∀(ids:List Nat) (H:List (Ent T.U)),(zu6 T H ids).length=H.length
 | [],H=>rfl
 |i::r,H=>by rw [zu6,yz9 r];simp
theorem vy3 {c:Cell T.U} {p:(t:Ty)×List (den T.U t)} (h:un0 c=some p):c=⟨.list p.1,p.2⟩:=by
 obtain ⟨t,x⟩:=c;cases t<;>first|(cases h;done)|(simp only [un0,X0] at h;subst h;rfl)
theorem um0 {e:TypeId} (h:Nat.beq e 0=false):e≠0:=fun he=>by subst he;cases h
theorem vw1 {e:TypeId} {c:Cell T.U} {p:(t:Ty)×List (den T.U t)} (h:ge6 e c=some p):Nat.beq e 0=false/\c=⟨.list p.1,p.2⟩:=by
 unfold ge6 at h;split at h
 ·cases h
 ·rename_i he;exact ⟨he,vy3 h⟩
theorem vv5 {e:TypeId} {c:Cell T.U} (h:ge6 e c=none) (v:Value):(DC T w S e c v->yq0 T w S c v)/\zw9 T e c v= []:=by
 unfold ge6 at h;split at h
 ·rename_i he;have:=X1 he;subst this;obtain ⟨t,x⟩:=c;refine ⟨fun hd=>?_,rfl⟩;cases t<;>first|exact hd.1 rfl|exact hd
 ·rename_i he;obtain ⟨t,x⟩:=c;refine ⟨fun hd=>?_,?_⟩
  ·cases t<;>first|(cases h;done)|exact hd
  ·unfold zw9;rw [he];cases t<;>first|(cases h;done)|rfl
theorem kg3 (fe:List TypeId):fe.getD 0 0=fe.headD 0:=by cases fe<;>rfl
theorem vi7 (fe:List TypeId) (f:Nat):fe.getD (f+1) 0=fe.tail.getD f 0:=by cases fe<;>simp
theorem Sim.ghost (h:Sim T w0 S0 ⟨F,H⟩ F' w S φ) {H':List (Ent T.U)} (hlen:H.length<=H'.length) (hs: ∀i,i<H.length->RSame (φ' i) (φ i))
  (hrow: ∀(i:Nat) (e:TypeId) (t:Ty) (xs:List (den T.U t)),i<H.length->H'[i]?=some (.row e t xs)->H[i]?=some (.row e t xs))
  (hat: ∀(i:Nat) (e:Ent T.U),H'[i]?=some e->e.live=true-> ∀a,At (φ' i) a-> ∃j f b,H[j]?=some f/\f.live=true/\At (φ j) b/\b.block=a.block)
  (hent: ∀(i:Nat) (e:Ent T.U),H'[i]?=some e->EntR T w S φ' i e) (heid: ∀(i:Nat) (e:Ent T.U),H'[i]?=some e-> ∀j∈e.cellIds,j<H'.length)
  (hap: ∀(i j:Nat) (e e':Ent T.U),H'[i]?=some e->H'[j]?=some e'->e.live=true->e'.live=true->i≠j-> ∀a b,At (φ' i) a->At (φ' j) b->a.block≠b.block):Sim T w0 S0 ⟨F,H'⟩ F' w S φ':=by
 refine ⟨fun i a ha=>?_,fun i a ha=>?_,h.chg,h.own,h.ex,fun i e he hl a ha=>?_,fun k r hk=>?_,hent,heid,hap⟩
 ·obtain ⟨v,h1,h2⟩:=h.fr i a ha;exact ⟨v,h1,h2.phiS fun j hj=>hs j ((h.ids i a ha).1 j hj)⟩
 ·obtain ⟨h1,h2⟩:=h.ids i a ha;refine ⟨fun j hj=>Nat.lt_of_lt_of_le (h1 j hj) hlen,?_⟩;cases a with
  |eptr y sz k c=>intro e t xs hx;exact h2 e t xs (hrow y e t xs (h1 y (by simp [AV.ids])) hx)
  |_=>trivial
 ·obtain ⟨j,f,b,h1,h2,h3,h4⟩:=hat i e he hl a ha;rw [<-h4];exact h.lives j f h1 h2 b h3
 ·obtain ⟨h1,h2⟩:=h.pins k r hk;exact ⟨(hs k h2).trans h1,Nat.lt_of_lt_of_le h2 hlen⟩
theorem jk2: ∀(fe:List TypeId) (cs:List (Cell T.U)) (n:Nat),(ze3 T fe cs n).1.length=cs.length
 |_,[],_=>by simp [ze3]
 |fe,c::r,n=>by
  unfold ze3;split<;>simp [jk2 fe.tail r]
theorem yi9: ∀ {cs:List (Cell T.U)} {fe:List TypeId} {vs:List Value} (n:Nat),cs.length=vs.length->(∀f c v,cs[f]?=some c->vs[f]?=some v->DC T w S (fe.getD f 0) c v)->
  ∃(rs:List RA) (p:Nat->Nat),rs.length=(ze3 T fe cs n).2.length/\(∀φ':Nat->RA,(∀r ra,rs[r]?=some ra->φ' (n+r)=ra)->VRL T w S φ' (ze3 T fe cs n).1 vs)/\
   (∀r e,(ze3 T fe cs n).2[r]?=some e-> ∃ra,rs[r]?=some ra/\e.cellIds= []/\ ∀φ':Nat->RA,φ' (n+r)=ra->(∀a,ra.ad=some a->a.block∈S)->EntR T w S φ' (n+r) e)/\
   (∀r ra,rs[r]?=some ra->ra.xs= []/\ ∃c v,cs[p r]?=some c/\vs[p r]?=some v/\zw9 T (fe.getD (p r) 0) c v=zm1 ra.ad)/\(∀r r',p r=p r'->r=r')/\ ∀i∈w9 (ze3 T fe cs n).1,n<=i/\i<n+rs.length
 | [],fe,[],n,_,_=>⟨[],id,rfl,fun _ _=>by simp [ze3,VRL],fun r e h=>by simp [ze3] at h,fun r ra h=>by simp at h,fun _ _ h=>h,fun i hi=>by simp [ze3,w9] at hi⟩
 | [],_,_::_,_,h,_=>by simp at h
 |_::_,_,[],_,h,_=>by simp at h
 |c::r,fe,v::vs,n,hl,hd=>by
  have hd0:DC T w S (fe.headD 0) c v:=by have:=hd 0 c v rfl rfl;rwa [kg3] at this
  have hd1: ∀f c v,r[f]?=some c->vs[f]?=some v->DC T w S (fe.tail.getD f 0) c v:=fun f c' v' h1 h2=>by
   have:=hd (f+1) c' v' (by simpa using h1) (by simpa using h2);rwa [vi7] at this
  have hl':r.length=vs.length:=by simpa using hl
  cases hc:ge6 (fe.headD 0) c with
  |none=>
   obtain ⟨rs,p,k1,k2,k3,k4,k5,k6⟩:=yi9 (fe:=fe.tail) n hl' hd1;refine ⟨rs,fun r=>p r+1,?_,fun φ' hφ=>?_,fun r e h=>?_,fun r ra h=>?_,fun r r' h=>k5 r r' (Nat.succ.inj h),fun i hi=>?_⟩
   ·simp only [ze3,hc];exact k1
   ·simp only [ze3,hc];exact ⟨(vv5 hc v).1 hd0,k2 φ' hφ⟩
   ·simp only [ze3,hc] at h;exact k3 r e h
   ·obtain ⟨q1,c',v',q2,q3,q4⟩:=k4 r ra h;exact ⟨q1,c',v',by simpa using q2,by simpa using q3,by rw [vi7];exact q4⟩
   ·simp only [ze3,hc,w9,AV.ids,List.nil_append] at hi;exact k6 i hi
  |some q=>
   obtain ⟨t,ys⟩:=q;obtain ⟨hez,hce⟩:=vw1 hc;simp only at hce;subst hce;obtain ⟨B,ad,cap,vals,rfl,o1,o2,o3⟩:=hd0.2 (um0 hez);obtain ⟨rs,p,k1,k2,k3,k4,k5,k6⟩:=yi9 (fe:=fe.tail) (n+1) hl' hd1;refine ⟨⟨ad,List.length (α:=den T.U t) ys,cap,[]⟩::rs,fun r=>match r with|0=>0|r+1=>p r+1,?_,fun φ' hφ=>?_,fun r e h=>?_,fun r ra h=>?_,fun r r' h=>?_,fun i hi=>?_⟩
   ·simp only [ze3,hc,List.length_cons,k1]
   ·simp only [ze3,hc];refine ⟨?_,k2 φ' fun r ra h=>?_⟩
    ·have:=hφ 0 _ rfl;rw [Nat.add_zero] at this;rw [VR,this]
    ·have:=hφ (r+1) ra (by simpa using h);rwa [show n+(r+1)=n+1+r by omega] at this
   ·simp only [ze3,hc] at h;cases r with
    |zero=>
     simp only [Y4,X0] at h;subst h;refine ⟨_,rfl,rfl,fun φ' hφ hS=>?_⟩;rw [Nat.add_zero] at hφ⊢;refine ⟨B,vals,by rw [hφ];exact o1,by rw [hφ],o2,o3,fun a ha=>hS a (by rw [hφ] at ha;exact ha)⟩
    |succ r=>
     simp at h;obtain ⟨ra,q1,q2,q3⟩:=k3 r e h;refine ⟨ra,by simpa using q1,q2,fun φ' hφ hS=>?_⟩;rw [show n+(r+1)=n+1+r by omega] at hφ⊢;exact q3 φ' hφ hS
   ·cases r with
    |zero=>
     simp only [Y4,X0] at h;subst h;exact ⟨rfl,_,_,rfl,rfl,by show zw9 T (fe.getD 0 0) _ _=_;rw [kg3];unfold zw9;rw [hez]⟩
    |succ r=>
     obtain ⟨q1,c',v',q2,q3,q4⟩:=k4 r ra (by simpa using h);exact ⟨q1,c',v',by simpa using q2,by simpa using q3,by show zw9 T (fe.getD (p r+1) 0) _ _=_;rw [vi7];exact q4⟩
   ·cases r with
    |zero=>cases r' with
     |zero=>rfl
     |succ r'=>simp at h
    |succ r=>cases r' with
     |zero=>simp at h
     |succ r'=>have:=k5 r r' (by simpa using h);omega
   ·simp only [ze3,hc,w9,AV.ids,List.cons_append,List.nil_append,Z0] at hi;simp only [List.length_cons];rcases hi with rfl|hi
    ·omega
    ·have:=k6 i hi;omega
theorem qz7 {α β:Type} {f:α->List β} {sz:Nat} (hf: ∀y,(f y).length=sz) {l:List α} {a:Nat} {x:α} (hx:l[a]?=some x) {q:Nat} (hq:q<sz):(l.flatMap f)[a*sz+q]?=(f x)[q]?:=by
 rw [<-yh5 hf hx,Z3,if_pos hq,Q5]
theorem Sim.openD (h:Sim T w0 S0 ⟨F,H⟩ F' w S φ) {k:Nat} {e:TypeId} {d:Nat} {fe:List TypeId} {xs:List (T.U d)} {a:Nat} (hk:H[k]?=some (.drow e d fe xs none)) (ha:a<xs.length):
  ∃φ',(∀i,i<H.length->RSame (φ' i) (φ i))/\Sim T w0 S0 ⟨F,yi3 T H k e d fe xs a⟩ F' w S φ':=by
 obtain ⟨B,vals,o1,o2,o3,o4,o5⟩:=h.ents k _ hk;have hkl:=(X2.1 hk).1;have hxa:xs[a]?=some (xs.getD a (T.d d)):=zm4 (T.d d) ha;have hvl:vals.length=xs.length*T.size d:=by rw [o1.len,o2]
 have hle:a*T.size d+T.size d<=xs.length*T.size d:=by rw [<-Nat.succ_mul];exact Q8 _ ha
 let cs:=elD T d xs a
 let vs:=(vals.drop (a*T.size d)).take (T.size d)
 have hcsl:cs.length=T.size d:=T.len _ _;have hvsl:vs.length=T.size d:=by simp [vs];omega
 have hcs: ∀f c,cs[f]?=some c->f<T.size d/\(xs.flatMap (T.cells d))[a*T.size d+f]?=some c:=fun f c hf=>by
  have:=(X2.1 hf).1;exact ⟨by omega,by rw [qz7 (T.len d) hxa (by omega)];exact hf⟩
 have hvs: ∀f v,vs[f]?=some v->vals[a*T.size d+f]?=some v:=fun f v hf=>by
  simp only [vs,Z3] at hf;split at hf
  ·rw [Q5] at hf;exact hf
  ·cases hf
 have hdc: ∀f c v,cs[f]?=some c->vs[f]?=some v->DC T w S (fe.getD f 0) c v/\ ∀b∈zw9 T (fe.getD f 0) c v,b∈(φ k).xs/\ ∀a,(φ k).ad=some a->a.block≠b:=fun f c v h1 h2=>by
  obtain ⟨h3,h4⟩:=hcs f c h1;have:=o5.cl _ c v h4 (hvs f v h2) (fun q=>q);rwa [show (a*T.size d+f)%T.size d=f by rw [Nat.mul_comm,Nat.mul_add_mod,Nat.mod_eq_of_lt h3]] at this
 obtain ⟨rs,p,k1,k2,k3,k4,k5,k6⟩:=yi9 (fe:=fe) (S:=S) (w:=w) H.length (hcsl.trans hvsl.symm) fun f c v h1 h2=>(hdc f c v h1 h2).1
 let OB:=rs.flatMap fun ra=>zm1 ra.ad
 have hob: ∀ {b:Nat},b∈OB-> ∃(r:Nat) (ra:RA),rs[r]?=some ra/\b∈zm1 ra.ad:=fun {b} hb=>by
  obtain ⟨ra,h1,h2⟩:=List.mem_flatMap.1 hb;obtain ⟨r,hr⟩:=Y9.1 h1;exact ⟨r,ra,hr,h2⟩
 let φ':Nat->RA:=fun i=>if i<H.length then (if i=k then ⟨(φ k).ad,(φ k).n,(φ k).cap,(φ k).xs.filter fun b=> !OB.contains b⟩ else φ i) else rs.getD (i-H.length) ⟨none,0,0,[]⟩
 have pk:φ' k=⟨(φ k).ad,(φ k).n,(φ k).cap,(φ k).xs.filter fun b=> !OB.contains b⟩:=by show (if k<H.length then _ else _)=_;rw [if_pos hkl,if_pos rfl]
 have po: ∀i,i<H.length->i≠k->φ' i=φ i:=fun i hi hne=>by show (if i<H.length then _ else _)=_;rw [if_pos hi,if_neg hne]
 have pn: ∀r ra,rs[r]?=some ra->φ' (H.length+r)=ra:=fun r ra hr=>by
  show (if H.length+r<H.length then _ else _)=_;rw [if_neg (by omega),Nat.add_sub_cancel_left,Y2,hr];rfl
 have hs: ∀i,i<H.length->RSame (φ' i) (φ i):=fun i hi=>by
  by_cases he:i=k
  ·subst he;rw [pk];exact ⟨rfl,rfl,rfl⟩
  ·rw [po i hi he];exact .of rfl
 have hatk: ∀ {x},At (φ' k) x->At (φ k) x/\x.block∉OB:=fun {x} hx=>by
  rw [pk] at hx;have notOB: ∀ {b},b∈OB->b∈(φ k).xs/\ ∀a,(φ k).ad=some a->a.block≠b:=fun {b} hb=>by
   obtain ⟨r,ra,hr,hb⟩:=hob hb;obtain ⟨_,c,v,q2,q3,q4⟩:=k4 r ra hr;exact (hdc _ c v q2 q3).2 b (q4▸hb)
  rcases hx with hx|hx
  ·exact ⟨.inl hx,fun hb=>(notOB hb).2 x hx rfl⟩
  ·obtain ⟨h1,h2⟩:=Q9.1 hx;exact ⟨.inr h1,fun hb=>absurd hb (by simpa using h2)⟩
 have hatn: ∀ {r ra x},rs[r]?=some ra->At ra x->x.block∈(φ k).xs/\x.block∈OB/\ ∃c v,cs[p r]?=some c/\vs[p r]?=some v/\x.block∈zw9 T (fe.getD (p r) 0) c v:=fun {r ra x} hr hx=>by
  obtain ⟨q1,c,v,q2,q3,q4⟩:=k4 r ra hr;have had:ra.ad=some x:=by
   rcases hx with hx|hx
   ·exact hx
   ·rw [q1] at hx;cases hx
  have hb:x.block∈zm1 ra.ad:=by rw [had];simp [zm1]
  exact ⟨((hdc _ c v q2 q3).2 _ (q4▸hb)).1,List.mem_flatMap.2 ⟨ra,X6 hr,hb⟩,c,v,q2,q3,q4▸hb⟩
 have get: ∀(i:Nat) (f:Ent T.U),(yi3 T H k e d fe xs a)[i]?=some f->(i=k/\f=.drow e d fe xs (some (a,(ze3 T fe cs H.length).1)))\/(i<H.length/\i≠k/\H[i]?=some f)\/ ∃r ra,i=H.length+r/\rs[r]?=some ra/\(ze3 T fe cs H.length).2[r]?=some f:=by
  intro i f hf;unfold yi3 at hf;by_cases hi:i<H.length
  ·rw [X8 (by simpa using hi)] at hf;by_cases he:i=k
   ·subst he;rw [Q0 hkl] at hf;exact .inl ⟨rfl,(X5 hf).symm⟩
   ·rw [Z5 (Ne.symm he)] at hf;exact .inr (.inl ⟨hi,he,hf⟩)
  ·rw [Z2 (by simp;omega)] at hf;simp only [Q1] at hf;obtain ⟨ra,hr,_⟩:=k3 _ f hf;exact .inr (.inr ⟨i-H.length,ra,by omega,hr,hf⟩)
 have hlen:(yi3 T H k e d fe xs a).length=H.length+rs.length:=by unfold yi3;simp only [X9,Q1];rw [k1]
 refine ⟨φ',hs,h.ghost (by omega) hs (fun i e1 t ys hi hx=>?_) (fun i f hf hl x hx=>?_) (fun i f hf=>?_) (fun i f hf j hj=>?_) (fun i j f f' hf hf' hl hl' hij x y hx hy=>?_)⟩
 ·rcases get i _ hx with ⟨_,q⟩|⟨_,_,q⟩|⟨r,_,q,_⟩
  ·cases q
  ·exact q
  ·omega
 ·rcases get i f hf with ⟨rfl,rfl⟩|⟨q1,q2,q3⟩|⟨r,ra,rfl,q2,q3⟩
  ·exact ⟨i,_,x,hk,rfl,(hatk hx).1,rfl⟩
  ·rw [po i q1 q2] at hx;exact ⟨i,f,x,q3,hl,hx,rfl⟩
  ·rw [pn r ra q2] at hx;exact ⟨k,_,⟨x.block,0,none⟩,hk,rfl,.inr (hatn q2 hx).1,rfl⟩
 ·rcases get i f hf with ⟨rfl,rfl⟩|⟨q1,q2,q3⟩|⟨r,ra,rfl,q2,q3⟩
  ·refine ⟨B,vals,by rw [pk];exact o1,by rw [pk];exact o2,o3,fun z hz=>o4 z (by rw [pk] at hz;exact hz),fun j c v h1 h2 h3=>?_,fun j j' c c' v v' hj h1 h2 _ h4 h5 _=>o5.ap j j' c c' v v' hj h1 h2 (fun q=>q) h4 h5 fun q=>q,fun a0 cs0 hop=>?_⟩
   ·obtain ⟨g1,g2⟩:=o5.cl j c v h1 h2 (fun q=>q);refine ⟨g1,fun b hb=>?_⟩;rw [pk];refine ⟨Q9.2 ⟨(g2 b hb).1,?_⟩,(g2 b hb).2⟩;cases hq:OB.contains b with
    |false=>rfl
    |true=>
     obtain ⟨r,ra,hr,hb'⟩:=hob (List.contains_iff_mem.1 hq);obtain ⟨_,c',v',q2,q3,q4⟩:=k4 r ra hr;obtain ⟨q5,q6⟩:=hcs _ c' q2;have hmod:(a*T.size d+p r)%T.size d=p r:=by rw [Nat.mul_comm,Nat.mul_add_mod,Nat.mod_eq_of_lt q5]
     refine absurd (q4▸hb') (hmod▸o5.ap j _ c c' v v' (fun e=>h3 ?_) h1 h2 (fun q=>q) q6 (hvs _ v' q3) (fun q=>q) b hb);subst e;exact ⟨by omega,by omega⟩
   ·simp only [X0,X7] at hop;obtain ⟨rfl,rfl⟩:=hop;refine ⟨ha,(jk2 _ _ _).trans hcsl,fun f x hx=>?_⟩;obtain ⟨v,h1,h2⟩:=(k2 φ' pn).get T hx;exact ⟨v,hvs f v h1,h2⟩
  ·refine (h.ents i f q3).phiE (po i q1 q2) fun j hj=>hs j (h.eids i f q3 j hj)
  ·obtain ⟨ra',g1,g2,g3⟩:=k3 r f q3;rw [q2] at g1;obtain rfl:=X5 g1;refine g3 φ' (pn r ra q2) fun x hx=>?_;have:=(hatn q2 (.inl hx)).1;exact zh4 h hk rfl (a:=⟨x.block,0,none⟩) (.inr this)
 ·rw [hlen];rcases get i f hf with ⟨rfl,rfl⟩|⟨q1,q2,q3⟩|⟨r,ra,rfl,q2,q3⟩
  ·have:=k6 j hj;omega
  ·have:=h.eids i f q3 j hj;simp only at this;omega
  ·obtain ⟨ra',g1,g2,g3⟩:=k3 r f q3;rw [g2] at hj;cases hj
 ·rcases get i f hf with ⟨rfl,rfl⟩|⟨q1,q2,q3⟩|⟨r,ra,rfl,q2,q3⟩<;>rcases get j f' hf' with ⟨rfl,rfl⟩|⟨u1,u2,u3⟩|⟨r',ra',rfl,u2,u3⟩
  ·exact absurd rfl hij
  ·rw [po j u1 u2] at hy;exact h.apart i j _ _ hk u3 rfl hl' hij x y (hatk hx).1 hy
  ·rw [pn r' ra' u2] at hy;exact fun e=>(hatk hx).2 (e▸(hatn u2 hy).2.1)
  ·rw [po i q1 q2] at hx;exact h.apart i j _ _ q3 hk hl rfl hij x y hx (hatk hy).1
  ·rw [po i q1 q2] at hx;rw [po j u1 u2] at hy;exact h.apart i j _ _ q3 u3 hl hl' hij x y hx hy
  ·rw [po i q1 q2] at hx;rw [pn r' ra' u2] at hy;exact h.apart i k _ _ q3 hk hl rfl q2 x ⟨y.block,0,none⟩ hx (.inr (hatn u2 hy).1)
  ·rw [pn r ra q2] at hx;exact fun e=>(hatk hy).2 (e▸(hatn q2 hx).2.1)
  ·rw [pn r ra q2] at hx;rw [po j u1 u2] at hy;exact h.apart k j _ _ hk u3 rfl hl' (Ne.symm u2) ⟨x.block,0,none⟩ y (.inr (hatn q2 hx).1) hy
  ·rw [pn r ra q2] at hx;rw [pn r' ra' u2] at hy;obtain ⟨_,_,c,v,g1,g2,g3⟩:=hatn q2 hx;obtain ⟨_,_,c',v',g1',g2',g3'⟩:=hatn u2 hy;intro e;have hmod: ∀ {f:Nat},f<T.size d->(a*T.size d+f)%T.size d=f:=fun {f} hf=>by rw [Nat.mul_comm,Nat.mul_add_mod,Nat.mod_eq_of_lt hf]
   have hap:=o5.ap _ _ c c' v v' (fun q=>hij ?_) (hcs _ c g1).2 (hvs _ v g2) (fun q=>q) (hcs _ c' g1').2 (hvs _ v' g2') (fun q=>q)
   ·rw [hmod (hcs _ c g1).1,hmod (hcs _ c' g1').1] at hap;exact absurd (e▸g3') (hap _ g3)
   rw [k5 r r' (by omega)]
end
end Go.X
namespace Go.X
open Go.RowKit Go.V
section
variable {T:Tab} {P:Program} {w w':World} {S S':List Nat} {φ φ':Nat->RA} {w0:World} {S0:Ow} {F:AF T} {H:List (Ent T.U)} {F':PF}
theorem nodup_cons {i:Nat} {r:List Nat} (h:zd6 (i::r)=true):i∉r/\zd6 r=true:=by
 unfold zd6 at h;simp only [X3,Bool.not_eq_true'] at h;exact ⟨fun hm=>(by have:=zc5.2 hm;rw [h.1] at this;cases this),h.2⟩
theorem CellsR.nilC:CellsR T w S [] []:=⟨rfl,fun j c v h=>by simp at h⟩
theorem qj0 (h:Sim T w0 S0 ⟨F,H⟩ F' w S φ) {t:Ty} {e:TypeId} {a:AV T.U} {c:Cell T.U} {l:List Nat} (hc:vl3 T H t e a=some (c,l)) {v:Value} (hv:VR T w S φ a v):
  DC T w S e c v/\((l= []/\zw9 T e c v= []/\ ∀j,a≠.own j)\/ ∃j e1 t1 ys,l= [j]/\a=.own j/\H[j]?=some (.row e1 t1 ys)/\zw9 T e c v=zm1 (φ j).ad):=by
 unfold vl3 at hc;split at hc
 ·rename_i j;split at hc<;>try (cases hc;done)
  rename_i e' t' ys t0 hj;split at hc<;>try (cases hc;done)
  rename_i he;simp only [X3,Bool.not_eq_true'] at he;obtain ⟨he,hez⟩:=he;have:=X1 he;subst this;split at hc<;>try (cases hc;done)
  rename_i ht;subst ht;simp only [X0,X7] at hc;obtain ⟨rfl,rfl⟩:=hc;rw [VR] at hv;subst hv;obtain ⟨B,vals,o1,o2,o3,o4,o5⟩:=h.ents j _ hj;refine ⟨⟨fun h0=>absurd h0 (um0 hez),fun _=>⟨B,(φ j).ad,(φ j).cap,vals,by rw [o2],by rw [o2] at o1;exact o1,o3,o4⟩⟩,.inr ⟨j,_,_,ys,rfl,rfl,hj,by unfold zw9;rw [hez]⟩⟩
 ·split at hc<;>try (cases hc;done)
  rename_i t0;simp only [X0,X7] at hc;obtain ⟨rfl,rfl⟩:=hc;rw [VR] at hv;subst hv;exact ⟨⟨fun _=>CR.nilS,fun _=>⟨0,none,0,[],rfl,Own.nil _ _ _ _,Nat.zero_le _,CellsR.nilC⟩⟩,.inl ⟨rfl,by unfold zw9;cases Nat.beq e 0<;>rfl,by intro j hj;cases hj⟩⟩
 ·split at hc<;>try (cases hc;done)
  rename_i c0 _ hs;obtain ⟨t,x⟩:=c0;cases hez:Nat.beq e 0 with
  |true=>
   have:=X1 hez;subst this;simp only [X0,X7] at hc;obtain ⟨rfl,rfl⟩:=hc;refine ⟨?_,.inl ⟨rfl,rfl,by intro j hj;cases hj⟩⟩;cases t<;>first|exact ⟨fun _=>hv,fun h=>absurd rfl h⟩|exact hv
  |false=>
   rw [hez,Bool.or_false] at hs;have hcb:zw9 T e (⟨t,x⟩:Cell T.U) v= []:=by unfold zw9;rw [hez];cases t<;>first|(cases hs;done)|rfl
   simp only [X0,X7] at hc;obtain ⟨rfl,rfl⟩:=hc;refine ⟨?_,.inl ⟨rfl,hcb,by intro j hj;cases hj⟩⟩;cases t<;>first|(cases hs;done)|exact hv
 ·cases hc
theorem ys4 (h:Sim T w0 S0 ⟨F,H⟩ F' w S φ): ∀ {ts:List Ty} {fe:List TypeId} {as:List (AV T.U)} {cs:List (Cell T.U)} {ids:List Nat} {vs:List Value},ya9 T H ts fe as=some (cs,ids)->VRL T w S φ as vs->
  cs.length=as.length/\(∀(f:Nat) (c:Cell T.U) (v:Value),cs[f]?=some c->vs[f]?=some v->DC T w S (fe.getD f 0) c v)/\(∀(f:Nat) (c:Cell T.U) (v:Value) (b:Nat),cs[f]?=some c->vs[f]?=some v->b∈zw9 T (fe.getD f 0) c v-> ∃(j:Nat) (ad:Addr),as[f]?=some (AV.own j:AV T.U)/\j∈ids/\(φ j).ad=some ad/\ad.block=b)/\
   (∀j∈ids,∃e t ys,H[j]?=some (.row e t ys))/\(∀(f j:Nat),as[f]?=some (AV.own j:AV T.U)->j∈ids)/\(zd6 ids=true-> ∀(f f' j:Nat),as[f]?=some (AV.own j:AV T.U)->as[f']?=some (AV.own j:AV T.U)->f=f')
 | [],fe,[],cs,ids,vs,hc,_=>by
  simp only [ya9,X0,X7] at hc;obtain ⟨rfl,rfl⟩:=hc;exact ⟨rfl,fun f c v h=>by simp at h,fun f c v b h=>by simp at h,by simp,fun f j h=>by simp at h,fun _ f f' j h=>by simp at h⟩
 | [],_,_::_,_,_,_,hc,_=>by simp [ya9] at hc
 |_::_,_,[],_,_,_,hc,_=>by simp [ya9] at hc
 |_::_,_,_::_,_,_,[],_,hv=>hv.elim
 |t::ts,fe,a::as,cs,ids,v::vs,hc,hv=>by
  unfold ya9 at hc;split at hc<;>try (cases hc;done)
  rename_i c l cs1 ls h1 h2;simp only [X0,X7] at hc;obtain ⟨rfl,rfl⟩:=hc;obtain ⟨g1,g2⟩:=qj0 h h1 hv.1;obtain ⟨k1,k2,k3,k4,k5,k6⟩:=ys4 h h2 hv.2;refine ⟨by simp [k1],fun f c' v' q1 q2=>?_,fun f c' v' b q1 q2 q3=>?_,fun j hj=>?_,fun f j hf=>?_,fun hn f f' j q1 q2=>?_⟩
  ·cases f with
   |zero=>
    simp only [Y4,X0] at q1 q2;subst q1;subst q2;rw [kg3];exact g1
   |succ f=>rw [vi7];exact k2 f c' v' (by simpa using q1) (by simpa using q2)
  ·cases f with
   |zero=>
    simp only [Y4,X0] at q1 q2;subst q1;subst q2;rw [kg3] at q3;rcases g2 with ⟨_,u2,_⟩|⟨j,_,_,_,rfl,rfl,_,u4⟩
    ·rw [u2] at q3;cases q3
    ·rw [u4] at q3;unfold zm1 at q3;split at q3
     ·rename_i ad had;simp only [Q4] at q3;exact ⟨j,ad,rfl,by simp,had,q3.symm⟩
     ·cases q3
   |succ f=>
    rw [vi7] at q3;obtain ⟨j,ad,u1,u2,u3,u4⟩:=k3 f c' v' b (by simpa using q1) (by simpa using q2) q3;exact ⟨j,ad,by simpa using u1,X4.2 (.inr u2),u3,u4⟩
  ·rcases X4.1 hj with hj|hj
   ·rcases g2 with ⟨rfl,_⟩|⟨j',_,_,_,rfl,_,u3,_⟩
    ·cases hj
    ·simp only [Q4] at hj;subst hj;exact ⟨_,_,_,u3⟩
   ·exact k4 j hj
  ·cases f with
   |zero=>
    simp only [Y4,X0] at hf;rcases g2 with ⟨_,_,u⟩|⟨j',_,_,_,rfl,rfl,_,_⟩
    ·exact absurd hf (u j)
    ·cases hf;simp
   |succ f=>exact X4.2 (.inr (k5 f j (by simpa using hf)))
  ·have hls:zd6 ls=true/\ ∀j,a=.own j->j∉ls:=by
    rcases g2 with ⟨rfl,_,u⟩|⟨j',_,_,_,rfl,rfl,_,_⟩
    ·exact ⟨hn,fun j hj=>absurd hj (u j)⟩
    ·obtain ⟨n1,n2⟩:=nodup_cons hn;exact ⟨n2,fun j hj=>by cases hj;exact n1⟩
   cases f with
   |zero=>
    simp only [Y4,X0] at q1;cases f' with
    |zero=>rfl
    |succ f'=>exact absurd (k5 f' j (by simpa using q2)) (hls.2 j q1)
   |succ f=>
    cases f' with
    |zero=>
     simp only [Y4,X0] at q2;exact absurd (k5 f j (by simpa using q1)) (hls.2 j q2)
    |succ f'=>rw [k6 hls.1 f f' j (by simpa using q1) (by simpa using q2)]
theorem yk5 {α:Type}: ∀(l cs:List α) (o j:Nat),o+l.length<=cs.length->(zj1 cs o l)[j]?=if o<=j/\j<o+l.length then l[j-o]? else cs[j]?
 | [],cs,o,j,_=>by rw [zj1,if_neg (by simp only [List.length_nil];omega)]
 |a::r,cs,o,j,h=>by
  simp only [List.length_cons] at h;have hl:o+1+r.length<=(cs.set o a).length:=by rw [Q1];omega
  rw [zj1,yk5 r _ _ _ hl];simp only [List.length_cons];by_cases h1:o+1<=j/\j<o+1+r.length
  ·rw [if_pos h1,if_pos (by omega),show j-o=(j-(o+1))+1 by omega,List.getElem?_cons_succ]
  ·rw [if_neg h1];by_cases h2:j=o
   ·subst h2;rw [if_pos (by omega),Q0 (by omega),Nat.sub_self,Y4]
   ·rw [if_neg (by omega),Z5 (Ne.symm h2)]
theorem vw4 {α β:Type} {f:α->List β} {sz:Nat} (hf: ∀y,(f y).length=sz) {l:List α} {a:Nat} {y:α} (ha:a<l.length) (j:Nat):((l.set a y).flatMap f)[j]?=if a*sz<=j/\j<a*sz+sz then (f y)[j-a*sz]? else (l.flatMap f)[j]?:=by
 have hx:l[a]?=some l[a]:=Y0 ha;have hle:a*sz+sz<=l.length*sz:=by rw [<-Nat.succ_mul];exact Q8 _ ha
 rw [yi7 hf hx (y:=y) (l:=f y) (c:=0) (by rw [yv2 _ _ (by rw [hf,hf];exact Nat.le_refl _),hf,List.drop_of_length_le (by rw [hf];exact Nat.le_refl _),List.append_nil]) (by rw [hf];omega),yk5 _ _ _ _ (by rw [hf,zb8 hf];omega),hf,Nat.add_zero]
theorem Sim.closeD (h:Sim T w0 S0 ⟨F,H⟩ F' w S φ) {k:Nat} {e:TypeId} {d:Nat} {fe:List TypeId} {xs:List (T.U d)} {a:Nat} {as:List (AV T.U)} {l:List (Cell T.U)} {ids:List Nat} {y:T.U d} (hk:H[k]?=some (.drow e d fe xs (some (a,as)))) (hc:ya9 T H (kf6 T d) fe as=some (l,ids)) (hn:zd6 ids=true) (hp:T.pack d l=some y):
  ∃φ',(∀i,RSame (φ' i) (φ i))/\Sim T w0 S0 ⟨F,zu6 T (H.set k (.drow e d fe (xs.set a y) none)) ids⟩ F' w S φ':=by
 obtain ⟨B,vals,o1,o2,o3,o4,o5⟩:=h.ents k _ hk;have hkl:=(X2.1 hk).1;obtain ⟨ha,hal,hop⟩:=o5.opn _ _ rfl;have hvl:vals.length=xs.length*T.size d:=by rw [o1.len,o2]
 have hle:a*T.size d+T.size d<=xs.length*T.size d:=by rw [<-Nat.succ_mul];exact Q8 _ ha
 let vs:=(vals.drop (a*T.size d)).take (T.size d)
 have hvsl:vs.length=T.size d:=by simp [vs];omega
 have hvs: ∀f,f<T.size d->vs[f]?=vals[a*T.size d+f]?:=fun f hf=>by simp only [vs,Z3,if_pos hf,Q5]
 have hvrl:VRL T w S φ as vs:=by
  have key: ∀(as:List (AV T.U)) (vs:List Value),as.length=vs.length->(∀(f:Nat) (x:AV T.U),as[f]?=some x-> ∃v,vs[f]?=some v/\VR T w S φ x v)->VRL T w S φ as vs:=by
   intro as;induction as with
   |nil=>intro vs hl _;cases vs with
    |nil=>trivial
    |cons _ _=>simp at hl
   |cons x r ih=>
    intro vs hl hx;cases vs with
    |nil=>simp at hl
    |cons v s=>
     obtain ⟨v',h1,h2⟩:=hx 0 x rfl;simp only [Y4,X0] at h1;subst h1;exact ⟨h2,ih s (by simpa using hl) fun f z hz=>by simpa using hx (f+1) z (by simpa using hz)⟩
  refine key as vs (hal.trans hvsl.symm) fun f x hx=>?_;have hf:f<T.size d:=by have:=(X2.1 hx).1;omega
  rw [hvs f hf];exact hop f x hx
 obtain ⟨k1,k2,k3,k4,k5,k6⟩:=ys4 h hc hvrl;have hy:T.cells d y=l:=T.packed _ _ _ hp;have hki:k∉ids:=fun hm=>by obtain ⟨_,_,_,q⟩:=k4 k hm;rw [hk] at q;cases q
 let φ':Nat->RA:=fun i=>if i=k then ⟨(φ k).ad,(φ k).n,(φ k).cap,(φ k).xs++ids.flatMap fun j=>(φ j).all⟩ else φ i
 have pk:φ' k=⟨(φ k).ad,(φ k).n,(φ k).cap,(φ k).xs++ids.flatMap fun j=>(φ j).all⟩:=if_pos rfl;have po: ∀i,i≠k->φ' i=φ i:=fun i hi=>if_neg hi;have hs: ∀i,RSame (φ' i) (φ i):=fun i=>by
  by_cases he:i=k
  ·subst he;rw [pk];exact ⟨rfl,rfl,rfl⟩
  ·rw [po i he];exact .of rfl
 have hatk: ∀ {x},At (φ' k) x->At (φ k) x\/ ∃j∈ids,∃z,At (φ j) z/\z.block=x.block:=fun {x} hx=>by
  rw [pk] at hx;rcases hx with hx|hx
  ·exact .inl (.inl hx)
  ·rcases X4.1 hx with hx|hx
   ·exact .inl (.inr hx)
   ·obtain ⟨j,hj,hx⟩:=List.mem_flatMap.1 hx;exact .inr ⟨j,hj,zs1.1 hx⟩
 have get: ∀(i:Nat) (f:Ent T.U),(zu6 T (H.set k (.drow e d fe (xs.set a y) none)) ids)[i]?=some f->f.live=true->(i=k/\f=.drow e d fe (xs.set a y) none)\/(i∉ids/\i≠k/\H[i]?=some f):=by
  intro i f hf hl;obtain ⟨g1,g2⟩:=jz5 hf hl;by_cases he:i=k
  ·subst he;rw [Q0 hkl] at g2;exact .inl ⟨rfl,(X5 g2).symm⟩
  ·rw [Z5 (Ne.symm he)] at g2;exact .inr ⟨g1,he,g2⟩
 have hlen:(zu6 T (H.set k (.drow e d fe (xs.set a y) none)) ids).length=H.length:=by rw [yz9];simp
 have hcl: ∀ {f:Ent T.U},f=.gone\/f.live=true:=fun {f}=>by cases f<;>first|exact .inl rfl|exact .inr rfl
 have cells: ∀j c v,((xs.set a y).flatMap (T.cells d))[j]?=some c->vals[j]?=some v->(∃f,j=a*T.size d+f/\f<T.size d/\l[f]?=some c/\vs[f]?=some v)\/((xs.flatMap (T.cells d))[j]?=some c/\ ¬vo1 T (T.size d) (some (a,as)) j):=by
  intro j c v h1 h2;rw [vw4 (T.len d) ha] at h1;split at h1
  ·rename_i hj;rw [hy] at h1;refine .inl ⟨j-a*T.size d,by omega,by omega,h1,?_⟩;rw [hvs _ (by omega),show a*T.size d+(j-a*T.size d)=j by omega];exact h2
  ·rename_i hj;exact .inr ⟨h1,hj⟩
 refine ⟨φ',hs,h.ghost (by omega) (fun i _=>hs i) (fun i e1 t ys _ hx=>?_) (fun i f hf hl x hx=>?_) (fun i f hf=>?_) (fun i f hf j hj=>?_) (fun i j f f' hf hf' hl hl' hij x z hx hz=>?_)⟩
 ·rcases get i _ hx rfl with ⟨_,q⟩|⟨_,_,q⟩
  ·cases q
  ·exact q
 ·rcases get i f hf hl with ⟨rfl,rfl⟩|⟨_,q2,q3⟩
  ·rcases hatk hx with hx|⟨j,hj,z,hz,he⟩
   ·exact ⟨i,_,x,hk,rfl,hx,rfl⟩
   ·obtain ⟨_,_,_,q⟩:=k4 j hj;exact ⟨j,_,z,q,rfl,hz,he⟩
  ·rw [po i q2] at hx;exact ⟨i,f,x,q3,hl,hx,rfl⟩
 ·rcases hcl (f:=f) with rfl|hl
  ·trivial
  rcases get i f hf hl with ⟨rfl,rfl⟩|⟨_,q2,q3⟩
  ·refine ⟨B,vals,by rw [pk];exact o1,by rw [pk,Q1];exact o2,o3,fun z hz=>o4 z (by rw [pk] at hz;exact hz),fun j c v h1 h2 _=>?_,fun j j' c c' v v' hj h1 h2 _ h4 h5 _ b hb hb'=>?_,fun a0 cs0 hq=>by cases hq⟩
   ·rcases cells j c v h1 h2 with ⟨f,rfl,hf,u1,u2⟩|⟨u1,u2⟩
    ·rw [show (a*T.size d+f)%T.size d=f by rw [Nat.mul_comm,Nat.mul_add_mod,Nat.mod_eq_of_lt hf]];refine ⟨k2 f c v u1 u2,fun b hb=>?_⟩;obtain ⟨j,ad,g1,g2,g3,rfl⟩:=k3 f c v b u1 u2 hb;obtain ⟨_,_,_,q⟩:=k4 j g2;rw [pk];refine ⟨X4.2 (.inr (List.mem_flatMap.2 ⟨j,g2,zs1.2 ⟨ad,.inl g3,rfl⟩⟩)),fun z hz=>?_⟩;exact h.apart i j _ _ hk q rfl rfl (fun e=>hki (e▸g2)) z ad (.inl hz) (.inl g3)
    ·obtain ⟨g1,g2⟩:=o5.cl j c v u1 h2 u2;refine ⟨g1,fun b hb=>?_⟩;rw [pk];exact ⟨X4.2 (.inl (g2 b hb).1),(g2 b hb).2⟩
   ·have hmod: ∀ {f:Nat},f<T.size d->(a*T.size d+f)%T.size d=f:=fun {f} hf=>by rw [Nat.mul_comm,Nat.mul_add_mod,Nat.mod_eq_of_lt hf]
    have mixed: ∀ {f:Nat} {c:Cell T.U} {v:Value} {j':Nat} {c':Cell T.U} {v':Value},l[f]?=some c->vs[f]?=some v->(xs.flatMap (T.cells d))[j']?=some c'->vals[j']?=some v'-> ¬vo1 T (T.size d) (some (a,as)) j'->b∈zw9 T (fe.getD f 0) c v->b∈zw9 T (fe.getD (j'%T.size d) 0) c' v'->False:=by
     intro f c v j' c' v' u1 u2 u3 u4 u5 u6 u7;obtain ⟨j,ad,g1,g2,g3,rfl⟩:=k3 f c v b u1 u2 u6;obtain ⟨_,_,_,q⟩:=k4 j g2;have:=((o5.cl j' c' v' u3 u4 u5).2 _ u7).1;exact h.apart i j _ _ hk q rfl rfl (fun e=>hki (e▸g2)) ⟨ad.block,0,none⟩ ad (.inr this) (.inl g3) rfl
    rcases cells j c v h1 h2 with ⟨f,rfl,hf,u1,u2⟩|⟨u1,u2⟩<;>rcases cells j' c' v' h4 h5 with ⟨f',rfl,hf',u1',u2'⟩|⟨u1',u2'⟩
    ·rw [hmod hf] at hb;rw [hmod hf'] at hb';obtain ⟨j,ad,g1,g2,g3,rfl⟩:=k3 f c v b u1 u2 hb;obtain ⟨j',ad',g1',g2',g3',g4'⟩:=k3 f' c' v' _ u1' u2' hb';obtain ⟨_,_,_,q⟩:=k4 j g2;obtain ⟨_,_,_,q'⟩:=k4 j' g2';by_cases hjj:j=j'
     ·subst hjj;exact hj (by rw [k6 hn f f' j g1 g1'])
     ·exact h.apart j j' _ _ q q' rfl rfl hjj ad ad' (.inl g3) (.inl g3') g4'.symm
    ·rw [hmod hf] at hb;exact mixed u1 u2 u1' h5 u2' hb hb'
    ·rw [hmod hf'] at hb';exact mixed u1' u2' u1 h2 u2 hb' hb
    ·exact o5.ap j j' c c' v v' hj u1 h2 u2 u1' h5 u2' b hb hb'
  ·exact (h.ents i f q3).phiE (po i q2) fun j _=>hs j
 ·rw [hlen];rcases hcl (f:=f) with rfl|hl
  ·cases hj
  rcases get i f hf hl with ⟨rfl,rfl⟩|⟨_,q2,q3⟩
  ·cases hj
  ·exact h.eids i f q3 j hj
 ·have mixed: ∀ {i f x z},i∉ids->i≠k->H[i]?=some f->f.live=true->At (φ' k) x->At (φ' i) z->x.block≠z.block:=by
   intro i f x z u1 u2 u3 u4 u5 u6;rw [po i u2] at u6;rcases hatk u5 with hx|⟨j,hj,z',hz',he⟩
   ·exact h.apart k i _ _ hk u3 rfl u4 (Ne.symm u2) x z hx u6
   ·obtain ⟨_,_,_,q⟩:=k4 j hj;rw [<-he];exact h.apart j i _ _ q u3 rfl u4 (fun e=>u1 (e▸hj)) z' z hz' u6
  rcases get i f hf hl with ⟨rfl,rfl⟩|⟨q1,q2,q3⟩<;>rcases get j f' hf' hl' with ⟨rfl,rfl⟩|⟨u1,u2,u3⟩
  ·exact absurd rfl hij
  ·exact mixed u1 u2 u3 hl' hx hz
  ·exact (mixed q1 q2 q3 hl hz hx).symm
  ·rw [po i q2] at hx;rw [po j u2] at hz;exact h.apart i j _ _ q3 u3 hl hl' hij x z hx hz
theorem js8 {k:Nat} (h:zc7 T w0 S0 ⟨F,H⟩ F' w):zc7 T w0 S0 ⟨F,yo2 T H k⟩ F' w:=by
 unfold yo2;split
 ·rename_i hk;split
  ·rename_i hc;split
   ·rename_i hn hp;obtain ⟨S,φ,h⟩:=h;obtain ⟨φ',_,h'⟩:=h.closeD hk hc hn hp;exact ⟨S,φ',h'⟩
   ·exact h
  ·exact h
 ·exact h
theorem zt9: ∀(l:List Nat) {H:List (Ent T.U)},zc7 T w0 S0 ⟨F,H⟩ F' w->zc7 T w0 S0 ⟨F,closeL T l H⟩ F' w
 | [],H,h=>h
 |k::r,H,h=>zt9 r (js8 h)
theorem VRL.phiS {as:List (AV T.U)} {vs:List Value} (h:VRL T w S φ as vs) (hi: ∀i∈w9 as,RSame (φ' i) (φ i)):VRL T w S φ' as vs:=by
 have:=VRL.renS T (ρ:=id) (φ':=φ') hi h;rwa [zo8] at this
theorem Sim.closeL: ∀(l:List Nat) {H:List (Ent T.U)} {φ:Nat->RA},Sim T w0 S0 ⟨F,H⟩ F' w S φ-> ∃φ',Sim T w0 S0 ⟨F,closeL T l H⟩ F' w S φ'/\(∀i,RSame (φ' i) (φ i))/\(Go.X.closeL T l H).length=H.length
 | [],H,φ,h=>⟨φ,h,fun _=>.of rfl,rfl⟩
 |k::r,H,φ,h=>by
  have key: ∃φ',Sim T w0 S0 ⟨F,yo2 T H k⟩ F' w S φ'/\(∀i,RSame (φ' i) (φ i))/\(yo2 T H k).length=H.length:=by
   unfold yo2;split
   ·rename_i hk;split
    ·rename_i hc;split
     ·rename_i hn hp;obtain ⟨φ',h1,h2⟩:=h.closeD hk hc hn hp;exact ⟨φ',h2,h1,by rw [yz9];simp⟩
     ·exact ⟨φ,h,fun _=>.of rfl,rfl⟩
    ·exact ⟨φ,h,fun _=>.of rfl,rfl⟩
   ·exact ⟨φ,h,fun _=>.of rfl,rfl⟩
  obtain ⟨φ1,h1,h2,h3⟩:=key;obtain ⟨φ2,h4,h5,h6⟩:=Sim.closeL r h1;exact ⟨φ2,h4,fun i=>(h5 i).trans (h2 i),h6.trans h3⟩
theorem DC.frz {e:TypeId} {c:Cell T.U} {v:Value} (h:DC T w S e c v) (hS: ∀b∈S',b∈S) (hb: ∀b∈zw9 T e c v,b∈S/\b∉S'):yq0 T w S' c v:=by
 obtain ⟨t,x⟩:=c;cases t with
 |list t=>
  cases hez:Nat.beq e 0 with
  |true=>exact CR.sub0 (h.1 (X1 hez)) hS
  |false=>
  obtain ⟨B,ad,cap,vals,rfl,h1,h2,h3⟩:=h.2 (um0 hez);have hb': ∀a,ad=some a->a.block∈S/\a.block∉S':=fun a ha=>hb _ (by subst ha;simp [zw9,hez,zm1]);have:=qi0 (T:=T) (w:=w) (S:=S) (S':=S') (φ:=fun _=>⟨ad,List.length (α:=den T.U t) x,cap,[]⟩) (i:=0) (e:=e) (t:=t) (xs:=x) ⟨B,vals,h1,rfl,h2,h3,fun a ha=>(hb' a ha).1⟩ hS fun a ha=>(hb' a ha).2;exact this
 |_=>exact CR.sub0 h hS
theorem Sim.seal1 (h:Sim T w0 S0 ⟨F,H⟩ F' w S φ) (hF: ∀i a,F.get T i=some a->zi0 a=true) {k:Nat} {e:TypeId} {d:Nat} {fe:List TypeId} {xs:List (T.U d)} (hk:H[k]?=some (.drow e d fe xs none)):
  ∃S' φ',Sim T w0 S0 ⟨F,H.set k (.row e (.user d) xs)⟩ F' w S' φ':=by
 obtain ⟨B,vals,o1,o2,o3,o4,o5⟩:=h.ents k _ hk;have hkl:=(X2.1 hk).1
 let S':=S.filter fun b=> !(φ k).xs.contains b||(zm1 (φ k).ad).contains b
 let φ':Nat->RA:=fun i=>if i=k then ⟨(φ k).ad,(φ k).n,(φ k).cap,[]⟩ else φ i
 have pk:φ' k=⟨(φ k).ad,(φ k).n,(φ k).cap,[]⟩:=if_pos rfl;have po: ∀i,i≠k->φ' i=φ i:=fun i hi=>if_neg hi;have hs: ∀i,RSame (φ' i) (φ i):=fun i=>by
  by_cases he:i=k
  ·subst he;rw [pk];exact ⟨rfl,rfl,rfl⟩
  ·rw [po i he];exact .of rfl
 have hsub: ∀b∈S',b∈S:=fun b hb=>(Q9.1 hb).1;have hin: ∀ {b},b∈S->(b∉(φ k).xs\/ ∃a,(φ k).ad=some a/\a.block=b)->b∈S':=fun {b} hb hor=>by
  refine Q9.2 ⟨hb,?_⟩;rcases hor with h1|⟨a,h1,h2⟩
  ·have:(φ k).xs.contains b=false:=by
    cases hq:(φ k).xs.contains b with
    |false=>rfl
    |true=>exact absurd (List.contains_iff_mem.1 hq) h1
   rw [this];rfl
  ·have:(zm1 (φ k).ad).contains b=true:=List.contains_iff_mem.2 (by rw [h1,<-h2];simp [zm1]);rw [this,Bool.or_true]
 have hroot: ∀ {b},b∈S'->b∈(φ k).xs-> ∃a,(φ k).ad=some a/\a.block=b:=fun {b} hb hx=>by
  have:=(Q9.1 hb).2;rw [List.contains_iff_mem.2 hx,Bool.not_true,Bool.false_or] at this;have:=List.contains_iff_mem.1 this;unfold zm1 at this;split at this
  ·rename_i a ha;exact ⟨a,ha,(Q4.1 this).symm⟩
  ·cases this
 have get: ∀(i:Nat) (f:Ent T.U),(H.set k (.row e (.user d) xs))[i]?=some f->(i=k/\f=.row e (.user d) xs)\/(i≠k/\H[i]?=some f):=by
  intro i f hf;by_cases he:i=k
  ·subst he;rw [Q0 hkl] at hf;exact .inl ⟨rfl,(X5 hf).symm⟩
  ·rw [Z5 (Ne.symm he)] at hf;exact .inr ⟨he,hf⟩
 have hoff: ∀ {i f a},i≠k->H[i]?=some f->f.live=true->At (φ i) a->a.block∈S':=fun {i f a} hi hf hl ha=>
  hin (zh4 h hf hl ha) (.inl fun hx=>h.apart k i _ f hk hf rfl hl (Ne.symm hi) ⟨a.block,0,none⟩ a (.inr hx) ha rfl)
 have hatk: ∀ {a},At (φ' k) a->(φ k).ad=some a:=fun {a} ha=>by
  rw [pk] at ha;rcases ha with ha|ha
  ·exact ha
  ·cases ha
 refine ⟨S',φ',fun i a ha=>?_,fun i a ha=>⟨fun j hj=>by simpa using (h.ids i a ha).1 j hj,?_⟩,h.chg,fun b hb=>h.own b (hsub b hb),fun b hb q1 q2=>?_,fun i f hf hl a ha=>?_,fun q r hq=>⟨(hs q).trans (h.pins q r hq).1,by simpa using (h.pins q r hq).2⟩,fun i f hf=>?_,fun i f hf j hj=>?_,fun i j f f' hf hf' hl hl' hij a b ha hb=>?_⟩
 ·obtain ⟨v,h1,h2⟩:=h.fr i a ha;exact ⟨v,h1,(h2.chg T (Chg.refl [] w) (by simp) fun b hb=>.inl (hsub b hb)).phiS fun j _=>hs j⟩
 ·have:=hF i a ha;cases a<;>first|trivial|cases this
 ·refine hin (h.ex b hb q1 q2) (.inl fun hx=>?_);rcases (h.lives k _ hk rfl ⟨b,0,none⟩ (.inr hx)).2 with hm|hm
  ·exact q1 hm
  ·have hm:w0.heap.size<=b:=hm;omega
 ·rcases get i f hf with ⟨rfl,rfl⟩|⟨q1,q2⟩
  ·have ha:=hatk ha;exact ⟨hin (o4 a ha) (.inr ⟨a,ha,rfl⟩),(h.lives i _ hk rfl a (.inl ha)).2⟩
  ·rw [po i q1] at ha;exact ⟨hoff q1 q2 hl ha,(h.lives i f q2 hl a ha).2⟩
 ·rcases get i f hf with ⟨rfl,rfl⟩|⟨q1,q2⟩
  ·refine ⟨B,vals,by rw [pk];exact o1,by rw [pk];exact o2,o3,⟨?_,fun j c v h1 h2=>?_⟩,fun a ha=>?_⟩
   ·rw [o1.len,o2];exact zb8 (f:=zd1 T (.user d)) (sz:=T.size d) (fun y=>T.len d y) xs
   ·obtain ⟨g1,g2⟩:=o5.cl j c v h1 h2 (fun q=>q);refine g1.frz hsub fun b hb=>⟨zh4 h hk rfl (a:=⟨b,0,none⟩) (.inr (g2 b hb).1),fun hm=>?_⟩;obtain ⟨a,ha,hab⟩:=hroot hm (g2 b hb).1;exact (g2 b hb).2 a ha hab
   ·rw [pk] at ha;exact hin (o4 a ha) (.inr ⟨a,ha,rfl⟩)
  ·exact ((h.ents i f q2).chg T (Chg.refl [] w) (by simp) (fun b hb=>.inl (hsub b hb)) fun hl a ha=>⟨by simp,hoff q1 q2 hl ha⟩).phiE (po i q1) fun j _=>hs j
 ·rw [Q1];rcases get i f hf with ⟨rfl,rfl⟩|⟨q1,q2⟩
  ·cases hj
  ·exact h.eids i f q2 j hj
 ·rcases get i f hf with ⟨rfl,rfl⟩|⟨q1,q2⟩<;>rcases get j f' hf' with ⟨rfl,rfl⟩|⟨u1,u2⟩
  ·exact absurd rfl hij
  ·rw [po j u1] at hb;exact h.apart i j _ f' hk u2 rfl hl' hij a b (.inl (hatk ha)) hb
  ·rw [po i q1] at ha;exact h.apart i j f _ q2 hk hl rfl hij a b ha (.inl (hatk hb))
  ·rw [po i q1] at ha;rw [po j u1] at hb;exact h.apart i j f f' q2 u2 hl hl' hij a b ha hb
def kh3 (F:AF T):Bool:=F.all fun p=>zi0 p.2
theorem jj6: ∀ {F:AF T},kh3 F=true-> ∀i a,F.get T i=some a->zi0 a=true
 | [],_,i,a,h=>by simp [AF.get] at h
 |(j,b)::r,hF,i,a,h=>by
  unfold kh3 at hF;rw [List.all_cons,X3] at hF;simp only [AF.get] at h;split at h
  ·simp only [X0] at h;subst h;exact hF.1
  ·exact jj6 (F:=r) hF.2 i a h
def ky6 (H:List (Ent T.U)) (k:Nat):List (Ent T.U):=match H[k]? with|some (.drow e d _ xs none)=>H.set k (.row e (.user d) xs)|_=>H
def gf1:List Nat->List (Ent T.U)->List (Ent T.U)
 | [],H=>H
 |k::r,H=>gf1 r (ky6 H k)
theorem jb2 (hF: ∀i a,F.get T i=some a->zi0 a=true): ∀(l:List Nat) {H:List (Ent T.U)},zc7 T w0 S0 ⟨F,H⟩ F' w->zc7 T w0 S0 ⟨F,gf1 l H⟩ F' w
 | [],H,h=>h
 |k::r,H,h=>by
  refine jb2 hF r ?_;unfold ky6;split
  ·rename_i hk;obtain ⟨S,φ,h⟩:=h;obtain ⟨S',φ',h'⟩:=h.seal1 hF hk;exact ⟨S',φ',h'⟩
  ·exact h
def dzS:Nat->St T->St T
 |0,st=>st
 |1,st=>⟨st.F,closeL T (List.range st.H.length) st.H⟩
 |_,st=>match kh3 st.F with|true=>⟨st.F,gf1 (List.range st.H.length) (closeL T (List.range st.H.length) st.H)⟩|false=>st
theorem jv0: ∀(m:Nat) {st:St T},zc7 T w0 S0 st F' w->zc7 T w0 S0 (dzS m st) F' w
 |0,_,h=>h
 |1,⟨F,H⟩,h=>zt9 _ h
 |_+2,⟨F,H⟩,h=>by
  cases hF:kh3 F with
  |true=>simp only [dzS,hF];exact jb2 (jj6 hF) _ (zt9 _ h)
  |false=>simp only [dzS,hF];exact h
end
end Go.X
namespace Go.X
open Go.RowKit Go.V
section
variable {T:Tab} (P:Program) (C:Ctx T) {R:Type}
def qu2:AV T.U->Bool| .cell c=>c.t.scal|_=>false
def kx2:AV T.U->Bool| .agg cs=>cs.all qu2|a=>qu2 a
def yq8 (t:TypeId) (H:List (Ent T.U)) (k sz a c:Nat) (e:TypeId) (d:Nat) (fe:List TypeId) (xs:List (T.U d)) (op:Option (Nat×List (AV T.U))) (K:AV T.U->List (Ent T.U)->Option R):Option R:=
 match Nat.beq sz (T.size d) with
 |false=>none
 |true=>match op with
  |none=>match zr2 T P t ((elD T d xs a).map .cell) c with
   |some v=>match kx2 v with
    |true=>if a<xs.length then K v H else none
    |false=>match zr2 T P t (ze3 T fe (elD T d xs a) H.length).1 c with
     |some u=>(match zi0 u with|true=>if a<xs.length then K u (yi3 T H k e d fe xs a) else none|false=>none)
     |none=>none
   |none=>none
  |some (b,cs)=>match zr2 T P t cs c with
   |some u=>(match zi0 u with|true=>if a=b then K u H else none|false=>none)
   |none=>none
def yd2 (t:TypeId) (H:List (Ent T.U)) (k sz a c:Nat) (e:TypeId) (d:Nat) (fe:List TypeId) (xs:List (T.U d)) (op:Option (Nat×List (AV T.U))) (v:AV T.U) (K:List (Ent T.U)->Option R):Option R:=
 match Nat.beq sz (T.size d)&&jr7 T P t c (T.size d) v with
 |false=>none
 |true=>match op with
  |none=>if a<xs.length then K ((yi3 T H k e d fe xs a).set k (.drow e d fe xs (some (a,yi4 T (ze3 T fe (elD T d xs a) H.length).1 c (zf0 T v))))) else none
  |some (b,cs)=>if a=b then K (H.set k (.drow e d fe xs (some (b,yi4 T cs c (zf0 T v))))) else none
variable (T) in
def gh3 (t:Ty) (v:Value):Option (Cell T.U):=
 match t,v with
 | .list t0,.slice none 0 0=>some ⟨.list t0,[]⟩
 |_,v=>match qg2 T (ys3 T v) with|some c=>(match c.t.scal with|true=>some c|false=>none)|none=>none
variable (T) in
def yt1:List Ty->List Value->Option (List (Cell T.U))
 | [],[]=>some []
 |t::ts,v::vs=>match gh3 T t v,yt1 ts vs with|some c,some l=>some (c::l)|_,_=>none
 |_,_=>none
def jt8 (d:Nat) (fe:List TypeId) (t:TypeId) (H:List (Ent T.U)) (l c:Int) (K:AV T.U->List (Ent T.U)->Option R):Option R:=
 match zw6 P t with
 |some (e,sz,by_,zc)=>match Nat.beq sz (T.size d),yt1 T (kf6 T d) zc.toList with
  |true,some z=>match T.pack d z with
   |some x0=>if 0<=l/\l<=c/\by_*c.toNat<=281474976710656/\c<=9223372036854775807 then K (.own H.length) (H++ [.drow e d fe (List.replicate l.toNat x0) none]) else none
   |none=>none
  |_,_=>none
 |none=>none
def uy2 (n:Nat) (j:Int) (x:Nat->Option R):Option R:=if 0<=j/\j<((n:Nat):Int) then x j.toNat else none
def zm7 (o:Oper) (st:St T) (K:St T->Option R):Option (Option R):=
 match o.op with
 | .makeSlice t x y=>match C.dr t with
  |some (d,fe)=>some (match aev T st.F x,aev T st.F y with|some (.cell ⟨.int _,l⟩),some (.cell ⟨.int _,c⟩)=>jt8 P d fe t st.H l c (fun a H=>K ⟨zb7 T st.F o.dst a,H⟩)|_,_=>none)
  |none=>none
 | .indexAddr t x y=>match aev T st.F x with
  |some (.own k)=>match st.H[k]? with
   |some (.drow _ d _ xs _)=>some (match aev T st.F y,yt3 T P t (.user d) with
    |some (.cell ⟨.int _,j⟩),true=>uy2 xs.length j fun a=>K ⟨zb7 T st.F o.dst (.eptr k (T.size d) a 0),st.H⟩
    |_,_=>none)
   |_=>none
  |_=>none
 | .load t x=>match aev T st.F x with
  |some (.eptr k sz a c)=>match st.H[k]? with
   |some (.drow e d fe xs op)=>some (yq8 P t st.H k sz a c e d fe xs op fun v H=>K ⟨zb7 T st.F o.dst v,H⟩)
   |_=>none
  |_=>none
 | .store t x y=>match aev T st.F x with
  |some (.eptr k sz a c)=>match st.H[k]? with
   |some (.drow e d fe xs op)=>some (match o.dst,aev T st.F y with|none,some v=>yd2 P t st.H k sz a c e d fe xs op v fun H=>K ⟨st.F,H⟩|_,_=>none)
   |_=>none
  |_=>none
 |_=>none
end
section
variable {T:Tab} {P:Program} {C:Ctx T} {w w':World} {S S':List Nat} {φ φ':Nat->RA} {w0:World} {S0:Ow} {F:AF T} {H:List (Ent T.U)} {F':PF}
variable {ops:Array Oper} {Q:Exit->Act->World->Prop} {k n:Nat} {ds:List Deferred} {o:Oper}
theorem jz0 {R:Type} {r:R} {m:Nat} {j:Int} {x:Nat->Option R} (h:uy2 m j x=some r):(0<=j/\j<((m:Nat):Int))/\x j.toNat=some r:=za3 h
theorem jy1 {i:Nat} {e0:Ent T.U} (hi:H[i]?=some e0) (e:TypeId) (d:Nat) (fe:List TypeId) (xs:List (T.U d)) (a:Nat):(yi3 T H i e d fe xs a)[i]?=some (.drow e d fe xs (some (a,(ze3 T fe (elD T d xs a) H.length).1))):=by
 have hil:=(X2.1 hi).1;unfold yi3;rw [X8 (by simpa using hil),Q0 hil]
theorem yv5 (h:Sim T w0 S0 ⟨F,H⟩ F' w S φ) {i:Nat} {e:TypeId} {d:Nat} {fe:List TypeId} {xs:List (T.U d)} {op:Option (Nat×List (AV T.U))} (hi:H[i]?=some (.drow e d fe xs op)) {a:Nat} (ha:a<xs.length):
  ∃g c B vals,(φ i).ad=some ⟨g,0,none⟩/\(φ i).n=xs.length/\Own w B e (T.size d) (φ i).ad xs.length (φ i).cap vals/\Blk w g c e/\c.size=(φ i).cap*T.size d/\c.toList.take (xs.length*T.size d)=vals/\g∈S/\B<=g/\B<=w.heap.size/\xs.length<=(φ i).cap/\(φ i).cap<=maxLen/\DRel T w S φ (φ i) d fe xs op vals/\
   vals.length=xs.length*T.size d/\a*T.size d+T.size d<=xs.length*T.size d/\Rg w (some ⟨g,0+a*T.size d,none⟩) ((vals.drop (a*T.size d)).take (T.size d)):=by
 obtain ⟨B,vals,h1,h2,h3,h4,h5⟩:=h.ents i _ hi;rw [h2] at h1;rcases h1.cases with ⟨_,hn,_⟩|⟨c,had,hB,hb,hle,hm,hs,ht⟩
 ·omega
 ·refine ⟨bk (φ i).ad,c,B,vals,had,h2,h1,hb,hs,ht,h4 _ had,hB,h3,hle,hm,h5,h1.len,?_,?_⟩
  ·rw [<-Nat.succ_mul];exact Q8 _ ha
  ·have hr:=h1.rg;rw [had] at hr;exact hr.sub (a*T.size d) (T.size d) _ (fun _=>rfl)
theorem qz1 {Z:Prop} {rd:List Nat} {t:TypeId} {x:Operand} (hd:dec ops k n F'=some o) (hop:o.op=.load t x) {b o0 c:Nat} {cs:List (AV T.U)} {vals:List Value} {a:AV T.U} (hx:ev F' x=some (.pointer (some ⟨b,o0+c,none⟩)))
  (hr: ∀w1,Chg S w w1->Same φ rd w w1->Rg w1 (some ⟨b,o0,none⟩) vals) (hv:VRL T w S φ cs vals) (hl:zr2 T P t cs c=some a)
  (K: ∀v,QR P F' o S φ rd w v->VR T w S φ a v->(∀i∈a.ids,i∈w9 cs)->Z):Z:=by
 obtain ⟨i,d,hi,hu,hc⟩:=jj1 hl;have hok: ∀i∈a.ids,i∈w9 cs:=jo0 hc;have hdl:=zw0 hd hop;rw [u0 hx] at hdl;cases hag:yb6 d with
 |false=>
  rw [hag] at hc;obtain ⟨v,h1,h2⟩:=hv.get T (show cs[c]?=some a from hc);have hs:zn2 P t=true:=by unfold zn2;rw [hu];cases d<;>simp_all [yb6]
  refine K v (QR.load1 hd hdl hs v ?_) h2 hok;exact fun w1 hc hsm=>(hr w1 hc hsm c v h1).2
 |true=>
  rw [hag] at hc;unfold ys7 at hc;simp only at hc;split at hc
  ·rename_i hle;simp only [X0] at hc;subst hc;have hs:zn2 P t=false:=by unfold zn2;rw [hu];cases d<;>simp_all [yb6]
   have hlen:=hv.len T;have hle:=Y1 hle;refine K _ (QR.loadA (ad:=some ⟨b,o0,none⟩) (j:=c) (cs:=vals) (sz:=i.size) hd hr hdl hs (by rw [hu];rfl) (by unfold qf3;rw [hi];rfl) ((vals.drop c).take i.size) (by rw [Y6,Q6];omega) rfl) ⟨_,rfl,?_⟩ hok;simpa using (hv.drop T c).take T i.size
  ·cases hc
theorem kz2: ∀(as:List (AV T.U)) (vs:List Value),as.length=vs.length->(∀(f:Nat) (x:AV T.U),as[f]?=some x-> ∃v,vs[f]?=some v/\VR T w S φ x v)->VRL T w S φ as vs
 | [],[],_,_=>trivial
 | [],_::_,h,_=>by simp at h
 |_::_,[],h,_=>by simp at h
 |x::r,v::s,hl,hx=>by
  obtain ⟨v',h1,h2⟩:=hx 0 x rfl;simp only [Y4,X0] at h1;subst h1;exact ⟨h2,kz2 r s (by simpa using hl) fun f z hz=>by simpa using hx (f+1) z (by simpa using hz)⟩
def qr5:List (Cell T.U)->List Value->List (AV T.U)
 |c::r,v::s=>(match c.t.scal with|true=>.cell c|false=>.raw v)::qr5 r s
 |_,_=> []
theorem qq2: ∀ {cs:List (Cell T.U)} {vs:List Value},cs.length=vs.length->(∀(f:Nat) (c:Cell T.U) (v:Value),cs[f]?=some c->vs[f]?=some v->c.t.scal=true->yq0 T w S c v)->VRL T w S φ (qr5 cs vs) vs
 | [],[],_,_=>trivial
 | [],_::_,h,_=>by simp at h
 |_::_,[],h,_=>by simp at h
 |c::r,v::s,hl,hx=>by
  refine ⟨?_,qq2 (by simpa using hl) fun f c' v' h1 h2=>hx (f+1) c' v' (by simpa using h1) (by simpa using h2)⟩;cases hc:c.t.scal with
  |true=>exact hx 0 c v rfl rfl hc
  |false=>show VR T w S φ (.raw v) v;rw [VR]
theorem jm3: ∀ {cs:List (Cell T.U)} {vs:List Value},cs.length=vs.length->(qr5 cs vs).length=cs.length/\(∀(f:Nat) (c:Cell T.U),cs[f]?=some c->c.t.scal=true->(qr5 cs vs)[f]?=some (.cell c))/\w9 (qr5 cs vs)= []
 | [],[],_=>⟨rfl,fun f c h=>by simp at h,rfl⟩
 | [],_::_,h=>by simp at h
 |_::_,[],h=>by simp at h
 |c::r,v::s,hl=>by
  obtain ⟨h1,h2,h3⟩:=jm3 (cs:=r) (vs:=s) (by simpa using hl);refine ⟨by simp [qr5,h1],fun f c' hf hs=>?_,?_⟩
  ·cases f with
   |zero=>simp only [Y4,X0] at hf;subst hf;simp [qr5,hs]
   |succ f=>simpa [qr5] using h2 f c' (by simpa using hf) hs
  ·rw [qr5,w9,h3];cases c.t.scal<;>rfl
theorem vz9 {t:TypeId} {cs:List (Cell T.U)} {vs:List Value} (hl:cs.length=vs.length) {c:Nat} {v:AV T.U} (h:zr2 T P t (cs.map .cell) c=some v) (hn:kx2 v=true):zr2 T P t (qr5 cs vs) c=some v:=by
 obtain ⟨m1,m2,_⟩:=jm3 hl;unfold zr2 at h⊢;split at h<;>try (cases h;done)
 rename_i i d hi hu;unfold ys7 at h⊢;cases hag:yb6 d with
 |false=>
  rw [hag] at h;simp only at h⊢;rw [W0] at h;cases hc:cs[c]? with
  |none=>rw [hc] at h;cases h
  |some c0=>
   rw [hc] at h;simp only [Z8,X0] at h;subst h;exact m2 c c0 hc hn
 |true=>
  rw [hag] at h;simp only [List.length_map] at h⊢;rw [m1];split at h<;>try (cases h;done)
  rename_i hle;simp only [X0] at h;subst h;simp only [X0];congr 1;apply List.ext_getElem?;intro j;simp only [Z3,Q5,W0];split
  ·rename_i hj;cases hc:cs[c+j]? with
   |none=>
    rw [Y5 (by rw [m1];exact List.getElem?_eq_none_iff.1 hc)];rfl
   |some c0=>
    have hs:c0.t.scal=true:=by
     have:=Y8.1 hn (.cell c0) (Y9.2 ⟨j,by simp only [Z3,if_pos hj,Q5,W0,hc];rfl⟩);exact this
    rw [m2 _ c0 hc hs];rfl
  ·rfl
theorem wa5 {c:Cell T.U} {v:Value} {e:TypeId} (hs:c.t.scal=true) (h:DC T w S e c v):yq0 T w S c v:=by
 obtain ⟨t,x⟩:=c;cases t<;>first|(cases hs;done)|exact h
theorem kp2 {φ:Nat->RA} {d:Nat} {fe:List TypeId} {xs:List (T.U d)} {b:Nat} {cs:List (AV T.U)} {vals:List Value} {r:RA} (h:DRel T w S φ r d fe xs (some (b,cs)) vals) (hvl:vals.length=xs.length*T.size d):VRL T w S φ cs ((vals.drop (b*T.size d)).take (T.size d)):=by
 obtain ⟨hb,hl,hx⟩:=h.opn _ _ rfl;have hle:b*T.size d+T.size d<=xs.length*T.size d:=by rw [<-Nat.succ_mul];exact Q8 _ hb
 refine kz2 _ _ (by simp;omega) fun f x hf=>?_;have hfl:f<T.size d:=by have:=(X2.1 hf).1;omega
 rw [Z3,if_pos hfl,Q5];exact hx f x hf
theorem kq9 {R:Type} {r:R} {t:TypeId} {x:Operand} (hd:dec ops k n F'=some o) (hop:o.op=.load t x) {i sz a c:Nat} {e:TypeId} {d:Nat} {fe:List TypeId} {xs:List (T.U d)} {op:Option (Nat×List (AV T.U))} (hx:aev T F x=some (.eptr i sz a c)) (hi:H[i]?=some (.drow e d fe xs op))
  {K0:AV T.U->List (Ent T.U)->Option R} (hs:yq8 P t H i sz a c e d fe xs op K0=some r) (h:Sim T w0 S0 ⟨F,H⟩ F' w S φ) (HK: ∀v H1,K0 v H1=some r->zw3 P ops Q (k+1) n ds w0 S0 (⟨zb7 T F o.dst v,H1⟩:St T)):WR P ops Q k n ds F' w:=by
 unfold yq8 at hs;split at hs<;>try (cases hs;done)
 rename_i hsz;have:=X1 hsz;subst this;obtain ⟨X,h1,g0,h2,rfl⟩:=w7 h.fr hx;have opened: ∀ {H:List (Ent T.U)} {φ:Nat->RA} {b:Nat} {cs:List (AV T.U)} {u:AV T.U},Sim T w0 S0 ⟨F,H⟩ F' w S φ->(φ i).ad=some ⟨g0,0,none⟩->H[i]?=some (.drow e d fe xs (some (b,cs)))->a=b->zr2 T P t cs c=some u->zi0 u=true->K0 u H=some r->WR P ops Q k n ds F' w:=by
  intro H φ b cs u h h2 hi hab hl hne hK;subst hab;obtain ⟨_,_,_,_,hdr⟩:=h.ents i _ hi;have hb:=(hdr.2.2.opn _ _ rfl).1;obtain ⟨g,cc,B,vals,a1,a2,a3,a4,a5,a6,a7,a8,a9,a10,a11,a12,a13,a14,a15⟩:=yv5 h hi hb;rw [h2] at a1;simp only [X0,Addr.mk.injEq,and_true] at a1;subst a1;refine qz1 (rd:= [i]) hd hop (b:=g0) (o0:=0+a*T.size d) (c:=c) (by rw [h1,Nat.add_assoc]) (fun w1 _ hsm=>Rg.same a15 (show w1.heap[g0]?=w.heap[g0]? from hsm i (by simp) ⟨g0,0,none⟩ h2 a4.lt)) (kp2 a12 a13) hl fun v q1 q2 q3=>?_;exact jq8 hd (q1 w (Chg.refl _ _) fun _ _ _ _ _=>rfl) h q2 (zd9 hne fun j hj=>h.eids i _ hi j (q3 j hj)) (HK _ _ hK)
 split at hs
 ·split at hs<;>try (cases hs;done)
  rename_i v hl;split at hs
  ·rename_i hn;obtain ⟨ha,hK⟩:=za3 hs;obtain ⟨g,cc,B,vals,a1,a2,a3,a4,a5,a6,a7,a8,a9,a10,a11,a12,a13,a14,a15⟩:=yv5 h hi ha;rw [h2] at a1;simp only [X0,Addr.mk.injEq,and_true] at a1;subst a1;have hxa:xs[a]?=some (xs.getD a (T.d d)):=zm4 (T.d d) ha;have hlen:(elD T d xs a).length=((vals.drop (a*T.size d)).take (T.size d)).length:=by
    unfold elD;rw [T.len,Y6,Q6];omega
   have hm:=qq2 (w:=w) (S:=S) (φ:=φ) hlen fun f c0 v0 q1 q2 q3=>by
    have hf:f<T.size d:=by have:=(X2.1 q1).1;unfold elD at this;rw [T.len] at this;exact this
    rw [Z3,if_pos hf,Q5] at q2;exact wa5 q3 (a12.cl _ c0 v0 (by rw [qz7 (T.len d) hxa hf];exact q1) q2 fun q=>q).1
   refine qz1 (rd:= [i]) hd hop (b:=g0) (o0:=0+a*T.size d) (c:=c) (by rw [h1,Nat.add_assoc]) (fun w1 _ hsm=>Rg.same a15 (show w1.heap[g0]?=w.heap[g0]? from hsm i (by simp) ⟨g0,0,none⟩ h2 a4.lt)) hm (vz9 hlen hl hn) fun u q1 q2 q3=>?_;rw [(jm3 hlen).2.2] at q3;refine jq8 hd (q1 w (Chg.refl _ _) fun _ _ _ _ _=>rfl) h q2 (zd9 ?_ fun j hj=>by cases q3 j hj) (HK _ _ hK);cases v<;>first|rfl|cases hn
  ·split at hs<;>try (cases hs;done)
   rename_i u hu;split at hs<;>try (cases hs;done)
   rename_i hne;obtain ⟨ha,hK⟩:=za3 hs;obtain ⟨φ',hsm,h'⟩:=h.openD hi ha;exact opened h' ((hsm i (X2.1 hi).1).1.trans h2) (jy1 hi e d fe xs a) rfl hu hne hK
 ·split at hs<;>try (cases hs;done)
  rename_i u hu;split at hs<;>try (cases hs;done)
  rename_i hne;obtain ⟨hab,hK⟩:=za3 hs;exact opened h h2 hi hab hu hne hK
theorem yr4: ∀(l cs:List (AV T.U)) (o0:Nat),yi4 T cs o0 l=zj1 cs o0 l
 | [],_,_=>rfl
 |a::r,cs,o0=>by rw [yi4,zj1,yr4 r]
theorem ys8 {t:TypeId} {x y:Operand} (hd:dec ops k n F'=some o) (hop:o.op=.store t x y) (hdst:o.dst=none) {i a c:Nat} {e:TypeId} {d:Nat} {fe:List TypeId} {xs:List (T.U d)} {cs:List (AV T.U)} {v0:AV T.U} {H:List (Ent T.U)} {φ:Nat->RA} {g0:Nat} (h1:ev F' x=some (.pointer (some ⟨g0,0+(a*T.size d+c),none⟩))) (h2:(φ i).ad=some ⟨g0,0,none⟩) (hy:aev T F y=some v0) (hi:H[i]?=some (.drow e d fe xs (some (a,cs))))
  (hf:jr7 T P t c (T.size d) v0=true) (h:Sim T w0 S0 ⟨F,H⟩ F' w S φ) (K:zw3 P ops Q (k+1) n ds w0 S0 (⟨F,H.set i (.drow e d fe xs (some (a,yi4 T cs c (zf0 T v0))))⟩:St T)):WR P ops Q k n ds F' w:=by
 obtain ⟨v,h3,h4⟩:=w7 h.fr hy;obtain ⟨_,_,_,_,hdr⟩:=h.ents i _ hi;obtain ⟨hb,hcl,_⟩:=hdr.2.2.opn _ _ rfl;obtain ⟨g,carr,B,vals,a1,a2,a3,a4,a5,a6,a7,a8,a9,a10,a11,a12,a13,a14,a15⟩:=yv5 h hi hb;rw [h2] at a1;simp only [X0,Addr.mk.injEq,and_true] at a1;subst a1;obtain ⟨ii,hii,f1,f2,f3,f4⟩:=yc0 hf;have hds:=yj0 hd hop hdst;rw [u0 h1,u0 h3] at hds;have hle2:xs.length*T.size d<=carr.size:=by rw [a5];exact Q8 _ a10
 have hst:=qh4 hf h4 (c:=carr) (p:=0+a*T.size d) (by omega);rw [Nat.add_assoc] at hst;have hcr:=zj4 f1 h4;have hul:v.cells.toList.length=ii.size:=by rw [<-hcr.len T,f2]
 have hcl2:c+(zf0 T v0).length<=T.size d:=by rw [f2];exact f3
 refine WR.store a4 hds _ hst fun w' hb' hc=>K _ _ ⟨S,φ,h.upd hi rfl hc ?_ ⟨B,(yy2 carr (0+(a*T.size d+c)) v.cells.toList).toList.take (xs.length*T.size d),?_,a2,Nat.le_trans a9 hc.size,?_,?_⟩ ?_ ?_⟩
 ·intro b hb;simp at hb;subst hb;exact ⟨_,.inl h2,rfl⟩
 ·rw [h2,a2];exact Own.ofBlk hb' a8 a10 (by have:=a11;unfold maxLen at this;omega) (by rw [yl2];exact a5) _ rfl
 ·intro z hz;rw [h2] at hz;simp only [X0] at hz;subst hz;exact a7
 ·rw [yb9,yl5,Nat.zero_add,a6];have hT: ∀b∈ [g0],b∈S:=by intro b hb;simp at hb;subst hb;exact a7
  have hin: ∀j,¬vo1 T (T.size d) (some (a,cs)) j->(zj1 vals (a*T.size d+c) v.cells.toList)[j]?=vals[j]?:=fun j hj=>by
   rw [yk5 _ _ _ _ (by omega),if_neg (fun q=>hj ⟨by omega,by omega⟩)]
  have hD:=a12.chg (T:=T) (S':=S) hc hT (fun b hb=>.inl hb) fun b _ hne hm=>by
   simp at hm;subst hm;exact hne _ h2 rfl
  refine ⟨fun j c1 v1 q1 q2 q3=>hD.cl j c1 v1 q1 (by rw [<-hin j q3];exact q2) q3,fun j j' c1 c2 v1 v2 hj q1 q2 q3 q4 q5 q6=>hD.ap j j' c1 c2 v1 v2 hj q1 (by rw [<-hin j q3];exact q2) q3 q4 (by rw [<-hin j' q6];exact q5) q6,fun a0 cs0 hq=>?_⟩;simp only [X0,X7] at hq;obtain ⟨rfl,rfl⟩:=hq;refine ⟨hb,by rw [yr4,qo7];exact hcl,fun f x hx=>?_⟩;rw [yr4,yk5 _ _ _ _ (by omega)] at hx;rw [yk5 _ _ _ _ (by omega)];split at hx
  ·rename_i hfr;rw [if_pos (by rw [hul];omega),show a*T.size d+f-(a*T.size d+c)=f-c by omega];obtain ⟨v',g1,g2⟩:=hcr.get T hx;exact ⟨v',g1,g2.chg T hc hT fun b hb=>.inl hb⟩
  ·rename_i hfr;rw [if_neg (by rw [hul];omega)];exact (hD.opn _ _ rfl).2.2 f x hx
 ·intro j hj;rcases yy5 (T:=T) j hj with hj|hj
  ·exact h.eids i _ hi j hj
  ·rw [yf8 f1] at hj;exact (zd0 h hy).1 j hj
 ·intro _ _ _ he;cases he
theorem kc5 {R:Type} {r:R} {t:TypeId} {x y:Operand} (hd:dec ops k n F'=some o) (hop:o.op=.store t x y) (hdst:o.dst=none) {i sz a c:Nat} {e:TypeId} {d:Nat} {fe:List TypeId} {xs:List (T.U d)} {op:Option (Nat×List (AV T.U))} {v0:AV T.U} (hx:aev T F x=some (.eptr i sz a c)) (hy:aev T F y=some v0) (hi:H[i]?=some (.drow e d fe xs op))
  {K0:List (Ent T.U)->Option R} (hs:yd2 P t H i sz a c e d fe xs op v0 K0=some r) (h:Sim T w0 S0 ⟨F,H⟩ F' w S φ) (HK: ∀H1,K0 H1=some r->zw3 P ops Q (k+1) n ds w0 S0 (⟨F,H1⟩:St T)):WR P ops Q k n ds F' w:=by
 unfold yd2 at hs;split at hs<;>try (cases hs;done)
 rename_i hb;rw [X3] at hb;obtain ⟨hsz,hf⟩:=hb;have:=X1 hsz;subst this;obtain ⟨X,h1,g0,h2,rfl⟩:=w7 h.fr hx;split at hs
 ·obtain ⟨ha,hK⟩:=za3 hs;obtain ⟨φ',hsm,h'⟩:=h.openD hi ha;exact ys8 hd hop hdst h1 ((hsm i (X2.1 hi).1).1.trans h2) hy (jy1 hi e d fe xs a) hf h' (HK _ hK)
 ·obtain ⟨hab,hK⟩:=za3 hs;subst hab;exact ys8 hd hop hdst h1 h2 hy hi hf h (HK _ hK)
theorem ke1 {t:Ty} {v:Value} {c:Cell T.U} (h:gh3 T t v=some c) (e:TypeId):DC T w S e c v/\zw9 T e c v= []:=by
 have hz: ∀ {c:Cell T.U} {v:Value},(match c.t,v with| .list _,.slice ad _ _=>zm1 ad|_,_=>([]:List Nat))= []->zw9 T e c v= []:=fun h=>by unfold zw9;cases Nat.beq e 0;exact h;rfl
 unfold gh3 at h;split at h
 ·simp only [X0] at h;subst h;exact ⟨⟨fun _=>CR.nilS,fun _=>⟨0,none,0,[],rfl,Own.nil _ _ _ _,Nat.zero_le _,CellsR.nilC⟩⟩,hz rfl⟩
 ·split at h<;>try (cases h;done)
  rename_i c0 hc;split at h<;>try (cases h;done)
  rename_i hs;simp only [X0] at h;subst h;have h1:cellsOf T ([v].map (ys3 T))=some [c0]:=by simp only [List.map_cons,List.map_nil,cellsOf,hc]
  have h2:=(ye6 (w:=w) (S:=S) h1).2 0 c0 v rfl rfl;obtain ⟨t,x⟩:=c0;cases t<;>first|(cases hs;done)|exact ⟨h2,hz rfl⟩
theorem jh3: ∀ {ts:List Ty} {vs:List Value} {cs:List (Cell T.U)},yt1 T ts vs=some cs->cs.length=vs.length/\ ∀(f:Nat) (c:Cell T.U) (v:Value) (e:TypeId),cs[f]?=some c->vs[f]?=some v->DC T w S e c v/\zw9 T e c v= []
 | [],[],cs,h=>by simp only [yt1,X0] at h;subst h;exact ⟨rfl,fun f c v e h=>by simp at h⟩
 | [],_::_,_,h=>by simp [yt1] at h
 |_::_,[],_,h=>by simp [yt1] at h
 |t::ts,v::vs,cs,h=>by
  unfold yt1 at h;split at h<;>try (cases h;done)
  rename_i c l h1 h2;simp only [X0] at h;subst h;obtain ⟨g1,g2⟩:=jh3 h2;refine ⟨by simp [g1],fun f c' v' e q1 q2=>?_⟩;cases f with
  |zero=>simp only [Y4,X0] at q1 q2;subst q1;subst q2;exact ke1 h1 e
  |succ f=>exact g2 f c' v' e (by simpa using q1) (by simpa using q2)
theorem kl6 {R:Type} {r:R} {x y:Operand} {t:TypeId} (hd:dec ops k n F'=some o) (hop:o.op=.makeSlice t x y) {d:Nat} {fe:List TypeId} {k1 k2:IntKind} {l c:Int} (hx:aev T F x=some (cI T k1 l)) (hy:aev T F y=some (cI T k2 c))
  {K0:AV T.U->List (Ent T.U)->Option R} (hK0:jt8 P d fe t H l c K0=some r) (h:Sim T w0 S0 ⟨F,H⟩ F' w S φ) (K: ∀b H1,K0 b H1=some r->zw3 P ops Q (k+1) n ds w0 S0 (⟨zb7 T F o.dst b,H1⟩:St T)):WR P ops Q k n ds F' w:=by
 obtain ⟨X,h1,h2⟩:=w7 h.fr hx;obtain ⟨Y,h3,h4⟩:=w7 h.fr hy;have e1:=za8 h2;have e2:=za8 h4;subst e1;subst e2;unfold jt8 at hK0;split at hK0<;>try (cases hK0;done)
 rename_i e sz by_ zc he;split at hK0<;>try (cases hK0;done)
 rename_i z hsz hz;have hsz:=X1 hsz;subst hsz;split at hK0<;>try (cases hK0;done)
 rename_i x0 hx0;obtain ⟨⟨g1,g2,g3,g4⟩,hK⟩:=za3 hK0;have hdm:=jl1 hd hop;rw [u0 h1,u0 h3] at hdm;obtain ⟨i,zv,_,_,_,_,_,_,hzs⟩:=zi1 he;refine WR.make hdm he l.toNat c.toNat (by omega) (by omega) (by omega) g3 (by omega) fun g w' hN=>?_;have hown:=Own.made (m:=l.toNat) (m':=c.toNat) hN (by omega) (by omega);have hc0:T.cells d x0=z:=T.packed _ _ _ hx0;have hcell: ∀j c1 v,((List.replicate l.toNat x0).flatMap (T.cells d))[j]?=some c1->((madeCells zc (c.toNat*T.size d)).toList.take (l.toNat*T.size d))[j]?=some v->DC T w' (g::S) (fe.getD (j%T.size d) 0) c1 v/\zw9 T (fe.getD (j%T.size d) 0) c1 v= []:=by
  intro j c1 v h1 h2;have hj:=(X2.1 h1).1;rw [zb8 (T.len d),Z9] at hj;rw [zu1 (T.len d x0) _ _ hj,hc0] at h1;rw [Z3,if_pos hj] at h2;refine (jh3 (w:=w') (S:=g::S) hz).2 _ c1 v _ h1 ?_;have hpos:0<T.size d:=by
   rcases Nat.eq_zero_or_pos (T.size d) with h0|h0
   ·rw [h0] at hj;omega
   ·exact h0
  rw [<-hzs] at hpos;have hlc:l.toNat*T.size d<=c.toNat*T.size d:=Q8 _ (by omega);unfold madeCells at h2;simp only [Array.toList_map,Array.toList_range,W0] at h2;rw [List.getElem?_range (by omega)] at h2;simp only [Z8,X0] at h2;subst h2;rw [<-hzs,Array.getElem?_toList,Z6 (Nat.mod_lt _ hpos)];congr 1;rw [getElem!_pos zc _ (Nat.mod_lt _ hpos)]
 have hadd:=h.add (r:=⟨some ⟨g,0,none⟩,l.toNat,c.toNat,[]⟩) hN.chg hN.fresh hN.blk.lt (fun a ha=>yp2 ha) (e:=.drow e d fe (List.replicate l.toNat x0) none)
  ⟨w.heap.size,_,by rw [za2];exact hown,by rw [za2,Z9],hN.chg.size,fun a ha=>by rw [za2] at ha;simp only [X0] at ha;subst ha;simp,
   ⟨fun j c1 v q1 q2 _=>⟨(hcell j c1 v q1 q2).1,fun b hb=>(by rw [(hcell j c1 v q1 q2).2] at hb;cases hb)⟩,fun j j' c1 c2 v v' _ q1 q2 _ _ _ _ b hb=>(by rw [(hcell j c1 v q1 q2).2] at hb;cases hb),fun a cs hq=>(by cases hq)⟩⟩ (by intro j hj;cases hj)
 refine K _ _ hK _ _ ⟨_,_,hadd.slot (a:=.own H.length) (by rw [VR,za2]) ⟨by intro i hi;simp [AV.ids] at hi;subst hi;simp,trivial⟩⟩
theorem vv0 {t:TypeId} {x y:Operand} (hd:dec ops k n F'=some o) (hop:o.op=.indexAddr t x y) {i:Nat} {kk:IntKind} {j:Int} {e:TypeId} {d:Nat} {fe:List TypeId} {xs:List (T.U d)} {op:Option (Nat×List (AV T.U))} (hx:aev T F x=some (.own i)) (hy:aev T F y=some (cI T kk j)) (hi:H[i]?=some (.drow e d fe xs op))
  (hel:yt3 T P t (.user d)=true) (hj:0<=j/\j<((xs.length:Nat):Int)) (h:Sim T w0 S0 ⟨F,H⟩ F' w S φ) (K:zw3 P ops Q (k+1) n ds w0 S0 (⟨zb7 T F o.dst (.eptr i (T.size d) j.toNat 0),H⟩:St T)):WR P ops Q k n ds F' w:=by
 obtain ⟨X,h1,h2⟩:=w7 h.fr hx;obtain ⟨Y,h3,h4⟩:=w7 h.fr hy;have e1:=za8 h4;subst e1;have hdi:=jb4 hd hop;rw [u0 h1,u0 h3] at hdi;obtain ⟨g,cc,B,vals,a1,a2,_⟩:=yv5 h hi (a:=j.toNat) (by omega);rw [VR] at h2;subst h2;rw [a1,a2] at hdi;refine jq8 hd ((QR.indexS (S:=S) (φ:=φ) (rd:= []) (w:=w) hd hdi _ (zy4 hel) j.toNat (by omega) (by omega)) w (Chg.refl _ _) fun _ _ _ _ _=>rfl) h (a:=.eptr i (T.size d) j.toNat 0) ⟨g,a1,by simp [szT]⟩ ⟨(zd0 h hx).1,?_⟩ K;intro e1 t1 ys hy1;rw [hi] at hy1;cases hy1
theorem jb7 {R:Type} {r:R} (hd:dec ops k n F'=some o) {K:St T->Option R} {z:Option R} (hz:zm7 P C o ⟨F,H⟩ K=some z) (hr:z=some r) (h:Sim T w0 S0 ⟨F,H⟩ F' w S φ)
  (HK: ∀st,K st=some r->zw3 P ops Q (k+1) n ds w0 S0 st):WR P ops Q k n ds F' w:=by
 unfold zm7 at hz;split at hz<;>try (cases hz;done)
 ·rename_i t x y hop;split at hz<;>try (cases hz;done)
  obtain rfl:=X5 hz;split at hr<;>try (cases hr;done)
  rename_i hx hy;exact kl6 hd hop hx hy hr h fun a H1 ha=>HK _ ha
 ·rename_i t x y hop;split at hz<;>try (cases hz;done)
  rename_i i hx;split at hz<;>try (cases hz;done)
  rename_i e d fe xs op hi;obtain rfl:=X5 hz;split at hr<;>try (cases hr;done)
  rename_i kk j hy hel;obtain ⟨hj,hK⟩:=jz0 hr;exact vv0 hd hop hx hy hi hel hj h (HK _ hK)
 ·rename_i t x hop;split at hz<;>try (cases hz;done)
  rename_i i sz a c hx;split at hz<;>try (cases hz;done)
  rename_i hi;obtain rfl:=X5 hz;exact kq9 hd hop hx hi hr h fun v H1 hv=>HK _ hv
 ·rename_i t x y hop;split at hz<;>try (cases hz;done)
  rename_i i sz a c hx;split at hz<;>try (cases hz;done)
  rename_i hi;obtain rfl:=X5 hz;split at hr<;>try (cases hr;done)
  rename_i v hdst hy;exact kc5 hd hop hdst hx hy hi hr h fun H1 hv=>HK _ hv
end
end Go.X
