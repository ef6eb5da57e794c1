import Derived.Test.YthhhfnfgmijggaaGreatAB
set_option linter.defProp false
namespace Go.X
open Go.RowKit Go.V
def Sh.kshape:Sh->Bool| .row _ _=>true| .dr _ _ _=>true|s=>s.simple
section
variable (T:Tab)
def zv8 (a:Nat->Nat):(cs:List Sh)->zd9 T cs->Nat->List (AV T.U)
 | [],_,_=> []
 | .row _ _::r,x,p=>.own (a p)::zv8 a r x.2 (p+1)
 | .dr _ _ _::r,x,p=>.own (a p)::zv8 a r x.2 (p+1)
 |s::r,x,p=>mkA T a s x.1 0::zv8 a r x.2 p
def yl4:(cs:List Sh)->zd9 T cs->List (Ent T.U)
 | [],_=> []
 | .row e t::r,x=>.row e t x.1::yl4 r x.2
 | .dr e d fe::r,x=>.drow e d fe x.1 none::yl4 r x.2
 |_::r,x=>yl4 r x.2
end
section
variable {T:Tab} {P:Program}
def vk9 {s:Sh} (h:s.simple=true):s.cnt=0:=by cases s<;>first|rfl|cases h
def jh1: ∀ {a},a.all Sh.simple=true->za2 a=0
 | [],_=>rfl
 |s::r,h=>by
  rw [V1,X3] at h;rw [za2,vk9 h.1,jh1 h.2]
def rdK {H}: ∀(cs),cs.all Sh.kshape=true-> ∀(as:List (AV T.U)) (m l:Src) (x:zd9 T cs),zm8 T H cs as m=some (x,l)->as.all qo2=true->
  ∃b:List Nat,l=m++b.map some/\(∀(q i:Nat),b[q]?=some i->(yl4 T cs x)[q]?=H[i]?)/\(yl4 T cs x).length=b.length/\ ∀c:Nat->Nat,(∀(q i:Nat),l[q]?=some (some i)->c q=i)->zv8 T c cs x m.length=as
 | [],_,as,m,l,x,h,_=>by
  unfold zm8 at h;split at h
  ·have h:=congrArg Prod.snd (X5 h);exact ⟨[],by simpa using h.symm,by simp,rfl,fun _ _=>rfl⟩
  ·cases h
 |s::r,w,as,m,l,x,h,A=>by
  rw [V1,X3] at w;unfold zm8 at h;split at h<;>try (cases h;done)
  rename_i a as;rw [V1,X3] at A;split at h<;>try (cases h;done)
  rename_i y J g;obtain ⟨z,F,rfl⟩:=zl8 h;have one: ∀ {i:Nat} {e:Ent T.U},H[i]?=some e->J=m++ [some i]-> ∃b:List Nat,l=m++b.map some/\(∀(q j:Nat),b[q]?=some j->(e::yl4 T r z)[q]?=H[j]?)/\(e::yl4 T r z).length=b.length/\ ∀c:Nat->Nat,(∀(q i:Nat),l[q]?=some (some i)->c q=i)->c m.length=i/\zv8 T c r z (m.length+1)=as:=by
   intro i e K L;subst L;obtain ⟨b,B,M,N,O⟩:=rdK r w.2 as _ _ z F A.2;refine ⟨i::b,by rw [B];simp,fun q j C=>?_,by simp [N],fun c f=>⟨?_,?_⟩⟩
   ·cases q with
    |zero=>simp only [Y4,X0] at C;subst C;simpa using K.symm
    |succ q=>simpa using M q j (by simpa using C)
   ·exact f _ _ (by rw [B];simp)
   ·have:=O c f;simpa using this
  by_cases k:s.simple=true
  ·obtain ⟨rfl,B⟩:=gu0 s k a _ _ y g A.1;obtain ⟨b,o,u,v,n⟩:=rdK r w.2 as _ _ z F A.2;have G:yl4 T (s::r) (y,z)=yl4 T r z:=by cases s<;>first|rfl|cases k
   have Q: ∀c p,zv8 T c (s::r) (y,z) p=mkA T c s y 0::zv8 T c r z p:=by intro c p;cases s<;>first|rfl|cases k
   refine ⟨b,o,by rw [G];exact u,by rw [G];exact v,fun c f=>?_⟩;rw [Q,B c 0 fun p i I=>f p i ?_,n c f];rw [o,X8 (by have:=(X2.1 I).1;exact this)];exact I
  ·cases s with
   |row e t=>
    unfold rdS at g;split at g<;>try (cases g;done)
    rename_i i D;split at g<;>try (cases g;done)
    rename_i xs E;simp only [X0,X7] at g;obtain ⟨rfl,rfl⟩:=g;have:=ys7 D;subst this;obtain ⟨b,o,u,v,n⟩:=one (ya3 E) rfl;exact ⟨b,o,u,v,fun c f=>by
     show AV.own (c m.length)::zv8 T c r z (m.length+1)=_;rw [(n c f).1,(n c f).2]⟩
   |dr e d fe=>
    unfold rdS at g;split at g<;>try (cases g;done)
    rename_i i D;split at g<;>try (cases g;done)
    rename_i xs E;simp only [X0,X7] at g;obtain ⟨rfl,rfl⟩:=g;have:=ys7 D;subst this;obtain ⟨b,o,u,v,n⟩:=one (jd2 E) rfl;exact ⟨b,o,u,v,fun c f=>by
     show AV.own (c m.length)::zv8 T c r z (m.length+1)=_;rw [(n c f).1,(n c f).2]⟩
   |_=>exact absurd w.1 k
def gd9 {H o e cs k} (m:cs.all Sh.kshape=true) (r:k.all Sh.simple=true) {as} (s:jk3 H as=true) {x l} (h:zm8 T H (.ptr o e cs::k) as []=some (x,l)) (n):
  ∃(i:Nat) (b:List Nat),zb0 l=i::b/\ ∀es,es=Ent.blk e (zv8 T (σJ (zb0 l) n) cs x.1 1)::yl4 T cs x.1->es.length=(zb0 l).length/\ ∀(q j:Nat),(zb0 l)[q]?=some j->es[q]?=H[j]?:=by
 unfold zm8 at h;split at h<;>try (cases h;done)
 rename_i a t;split at h<;>try (cases h;done)
 rename_i z E f;obtain ⟨F,u,rfl⟩:=zl8 h;unfold rdS at f;split at f<;>try (cases f;done)
 rename_i i o' G;have:=jc2 G;subst this;split at f<;>try (cases f;done)
 rename_i v I;split at f<;>try (cases f;done)
 have A:=zr6 I;unfold jk3 at s;simp only [A] at s;obtain ⟨b,B,J,K,L⟩:=rdK cs m v _ _ z f s;obtain ⟨M,N,C,_⟩:=zd7 k t E l F u;rw [jh1 r] at C;have w:M= []:=T3 C;subst w;have O:l=some i::b.map some:=by rw [N.eq,B];simp
 have c:zb0 l=i::b:=by rw [O];show i::zb0 (b.map some)=_;rw [yb1]
 refine ⟨i,b,c,fun es y=>?_⟩;subst y;refine ⟨by rw [c];simp [K],fun q j g=>?_⟩;rw [c] at g;cases q with
 |zero=>
  simp only [Y4,X0] at g;subst g;rw [A,Y4];congr 2;refine L _ fun p q D=>?_;rw [c];have d:((i::b).map some)[p]?=some (some q):=by
   rw [B] at D;simpa using D
  rw [W4] at d;cases g:(i::b)[p]? with
  |none=>rw [g] at d;cases d
  |some Q=>rw [g] at d;simp only [Z8,X0] at d;subst d;exact σJ_at g
 |succ q=>simpa using J q j (by simpa using g)
def jr7: ∀(ids es H),(∀(q j:Nat),ids[q]?=some j->es[q]?=H[j]?)->ze1 T H ids es=H
 | [],es,H,_=>by cases es<;>rfl
 |i::r,[],H,_=>rfl
 |i::r,e::es,H,h=>by
  rw [ze1];have a:=h 0 i rfl;have c:H.set i e=H:=by
   obtain ⟨b,f⟩:=X2.1 a.symm;rw [Y4] at a;have:H[i]=e:=by rw [Y0 b] at a;exact (X5 a).symm
   rw [<-this,M3]
  rw [c];exact jr7 r es H fun q j d=>by simpa using h (q+1) j (by simpa using d)
def qn4 (H:List (Ent T.U)) (as:List (AV T.U)):List Sh->Bool
 | .ptr _ _ cs::a=>cs.all Sh.kshape&&(a.all Sh.simple&&jk3 H as)
 |_=>false
def ve3 (b:List Sh) (a:List PE) (x:zd9 T b) (y:zq1 T a):Prop:=match b,x with
 | .ptr _ e cs::_,x=> ∀(c:Nat->Nat) (m:Nat),mkP T c a y m=Ent.blk e (zv8 T c cs x.1 1)::yl4 T cs x.1
 |_,_=>True
def qg9 {c a x y} (d:ve3 c a x y) {H as l} (f:zm8 T H c as []=some (x,l)) (b:qn4 H as c=true) (n m):ze1 T H (zb0 l) (mkP T (σJ (zb0 l) n) a y m)=H:=by
 unfold qn4 at b;split at b
 ·rename_i o e cs c;simp only [X3] at b;obtain ⟨i,g,_,h⟩:=gd9 b.1 b.2.1 b.2.2 f n;exact jr7 _ _ _ (h _ (d _ _)).2
 ·cases b
def GSpec.toKeep (a:GSpec T) (b:CallSpec T):CallSpec T where
 call:=fun as H K c=>match zm8 T H a.ps as [] with
  |some (x,l)=>match (zd6 (zb0 l)&&yh8 T H (zb0 l) a.post)&&qn4 H as a.ps with
   |true=>z6 (a.g x) fun y=>K (zk3 T (zc0 T (σJ (zb0 l) H.length) a.rs y.2 (a.post.length+zf0 a.post))) (H++(yd1 T (σJ (zb0 l) H.length) a.post y.1 a.post.length++zg6 T (σJ (zb0 l) H.length) a.rs y.2 (a.post.length+zf0 a.post)))
   |false=>none
  |none=>b.call as H K c
 q:=b.q
 isq:=b.isq
 wr:=fun as H=>match zm8 T H a.ps as [] with|some _=> []|none=>b.wr as H
def PSpec.toKeep (a:PSpec T) (b:CallSpec T):CallSpec T where
 call:=fun as H K c=>match zm8 T H a.ps as [] with
  |some (x,l)=>match (zd6 (zb0 l)&&yh8 T H (zb0 l) a.post)&&qn4 H as a.ps with
   |true=>z6 (a.g x) fun y=>match y.2 with
    | .inl z=>K (zk3 T (zc0 T (σJ (zb0 l) H.length) a.rs z (a.post.length+zf0 a.post))) (H++(yd1 T (σJ (zb0 l) H.length) a.post y.1 a.post.length++zg6 T (σJ (zb0 l) H.length) a.rs z (a.post.length+zf0 a.post)))
    | .inr z=>c (zk3 T (zc0 T (σJ (zb0 l) H.length) [a.pv] z (a.post.length+zf0 a.post))) (H++(yd1 T (σJ (zb0 l) H.length) a.post y.1 a.post.length++zg6 T (σJ (zb0 l) H.length) [a.pv] z (a.post.length+zf0 a.post)))
   |false=>none
  |none=>b.call as H K c
 q:=b.q
 isq:=b.isq
 wr:=fun as H=>match zm8 T H a.ps as [] with|some _=> []|none=>b.wr as H
def jc6 (H N):Keeps T [] H (H++N):=⟨by simp,fun e a _=>X8 a,fun e ty t ys a h=>⟨ys,by rwa [X8 a] at h⟩⟩
def jt8 {f e b} (h:GOk T P f e) (v: ∀x y,e.g x=some y->ve3 e.ps e.post x y.1) (n:u0 T P f b/\zi6 T P f b/\yb4 b):u0 T P f (e.toKeep b)/\zi6 T P f (e.toKeep b)/\yb4 (e.toKeep b):=by
 refine ⟨fun as H K o r c=>ym4 h n.1 as H K o r ?_,n.2.1,fun as H K o r c=>?_⟩
 ·simp only [GSpec.toKeep] at c;simp only [GSpec.toCall];split at c
  ·rename_i x l d;rw [d];simp only;split at c<;>try (cases c;done)
   rename_i i;rw [X3] at i;obtain ⟨y,k,p⟩:=za0 c;rw [i.1];simp only [k,z6];rw [qg9 (v x y k) d i.2];exact p
  ·rename_i d;rw [d];exact c
 ·simp only [GSpec.toKeep] at c;split at c
  ·rename_i x l d;split at c<;>try (cases c;done)
   rename_i i;obtain ⟨y,k,p⟩:=za0 c;have m:(GSpec.toKeep e b).wr as H= []:=by simp only [GSpec.toKeep,d]
   rw [m];exact .inl ⟨_,_,p,jc6 _ _,fun u j=>by simp only [GSpec.toKeep,d,i,k,z6]⟩
  ·rename_i d;have m:(GSpec.toKeep e b).wr as H=b.wr as H:=by simp only [GSpec.toKeep,d]
   rcases n.2.2 as H K o r c with ⟨a,H1,q,s,t⟩|⟨a,H1,q,s,t⟩
   ·exact .inl ⟨a,H1,q,by rw [m];exact s,fun u j=>by simp only [GSpec.toKeep,d,t]⟩
   ·exact .inr ⟨a,H1,q,by rw [m];exact s,fun u j=>by simp only [GSpec.toKeep,d,t]⟩
def yz9 {f e b} (h:POk T P f e) (v: ∀x y,e.g x=some y->ve3 e.ps e.post x y.1) (o:u0 T P f b/\zi6 T P f b/\yb4 b):u0 T P f (e.toKeep b)/\zi6 T P f (e.toKeep b)/\yb4 (e.toKeep b):=by
 refine ⟨fun as H K p r c=>jh2 h o.1 as H K p r ?_,o.2.1,fun as H K p r c=>?_⟩
 ·simp only [PSpec.toKeep] at c;simp only [PSpec.toCall];split at c
  ·rename_i x l d;rw [d];simp only;split at c<;>try (cases c;done)
   rename_i j;rw [X3] at j;obtain ⟨y,m,k⟩:=za0 c;rw [j.1];simp only [m,z6];rw [qg9 (v x y m) d j.2];exact k
  ·rename_i d;rw [d];exact c
 ·simp only [PSpec.toKeep] at c;split at c
  ·rename_i x l d;split at c<;>try (cases c;done)
   rename_i j;obtain ⟨y,m,k⟩:=za0 c;have n:(PSpec.toKeep e b).wr as H= []:=by simp only [PSpec.toKeep,d]
   rw [n];cases hz:y.2 with
   |inl z=>
    rw [hz] at k;exact .inl ⟨_,_,k,jc6 _ _,fun q i=>by simp only [PSpec.toKeep,d,j,m,z6,hz]⟩
   |inr z=>
    rw [hz] at k;exact .inr ⟨_,_,k,jc6 _ _,fun q i=>by simp only [PSpec.toKeep,d,j,m,z6,hz]⟩
  ·rename_i d;have n:(PSpec.toKeep e b).wr as H=b.wr as H:=by simp only [PSpec.toKeep,d]
   rcases o.2.2 as H K p r c with ⟨a,H1,s,t,u⟩|⟨a,H1,s,t,u⟩
   ·exact .inl ⟨a,H1,s,by rw [n];exact t,fun q i=>by simp only [PSpec.toKeep,d,u]⟩
   ·exact .inr ⟨a,H1,s,by rw [n];exact t,fun q i=>by simp only [PSpec.toKeep,d,u]⟩
end
end Go.X
