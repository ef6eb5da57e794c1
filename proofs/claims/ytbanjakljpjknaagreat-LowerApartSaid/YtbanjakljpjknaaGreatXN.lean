import Derived.Test.YtbanjakljpjknaaGreatAB
set_option linter.defProp false
namespace Go.X
open Go.RowKit Go.V
def Sh.kshape:Sh->Bool| .row _ _=>true| .dr _ _ _=>true|s=>s.simple
section
variable (T:Tab)
def zw3 (σ:Nat->Nat):(cs:List Sh)->ze8 T cs->Nat->List (AV T.U)
 | [],_,_=> []
 | .row _ _::r,x,p=>.own (σ p)::zw3 σ r x.2 (p+1)
 | .dr _ _ _::r,x,p=>.own (σ p)::zw3 σ r x.2 (p+1)
 |s::r,x,p=>mkA T σ s x.1 0::zw3 σ r x.2 p
def yl3:(cs:List Sh)->ze8 T cs->List (Ent T.U)
 | [],_=> []
 | .row e t::r,x=>.row e t x.1::yl3 r x.2
 | .dr e d fe::r,x=>.drow e d fe x.1 none::yl3 r x.2
 |_::r,x=>yl3 r x.2
end
section
variable {T:Tab} {P:Program}
def vl0 {s:Sh} (h:s.simple=true):s.cnt=0:=by cases s<;>first|rfl|cases h
def ji1: ∀ {ss:List Sh},ss.all Sh.simple=true->zb9 ss=0
 | [],_=>rfl
 |s::r,h=>by
  rw [V6,X3] at h;rw [zb9,vl0 h.1,ji1 h.2]
def rdK {H:List (Ent T.U)}: ∀(cs:List Sh),cs.all Sh.kshape=true-> ∀(aS:List (AV T.U)) (l0 l:Src) (x:ze8 T cs),zq2 T H cs aS l0=some (x,l)->aS.all vo4=true->
  ∃new:List Nat,l=l0++new.map some/\(∀(q i:Nat),new[q]?=some i->(yl3 T cs x)[q]?=H[i]?)/\(yl3 T cs x).length=new.length/\ ∀σ:Nat->Nat,(∀(q i:Nat),l[q]?=some (some i)->σ q=i)->zw3 T σ cs x l0.length=aS
 | [],_,aS,l0,l,x,h,_=>by
  unfold zq2 at h;split at h
  ·have h:=congrArg Prod.snd (X5 h);exact ⟨[],by simpa using h.symm,by simp,rfl,fun _ _=>rfl⟩
  ·cases h
 |s::r,hs,aS,l0,l,x,h,hn=>by
  rw [V6,X3] at hs;unfold zq2 at h;split at h<;>try (cases h;done)
  rename_i a aS;rw [V6,X3] at hn;split at h<;>try (cases h;done)
  rename_i y l1 hy;obtain ⟨z,hz,rfl⟩:=zr7 h;have one: ∀ {i:Nat} {e:Ent T.U},H[i]?=some e->l1=l0++ [some i]-> ∃new:List Nat,l=l0++new.map some/\(∀(q j:Nat),new[q]?=some j->(e::yl3 T r z)[q]?=H[j]?)/\(e::yl3 T r z).length=new.length/\ ∀σ:Nat->Nat,(∀(q i:Nat),l[q]?=some (some i)->σ q=i)->σ l0.length=i/\zw3 T σ r z (l0.length+1)=aS:=by
   intro i e hi hl;subst hl;obtain ⟨new,h1,h2,h3,h4⟩:=rdK r hs.2 aS _ _ z hz hn.2;refine ⟨i::new,by rw [h1];simp,fun q j hq=>?_,by simp [h3],fun σ hσ=>⟨?_,?_⟩⟩
   ·cases q with
    |zero=>simp only [Y4,X0] at hq;subst hq;simpa using hi.symm
    |succ q=>simpa using h2 q j (by simpa using hq)
   ·exact hσ _ _ (by rw [h1];simp)
   ·have:=h4 σ hσ;simpa using this
  by_cases hsim:s.simple=true
  ·obtain ⟨rfl,h1⟩:=zak2 s hsim a _ _ y hy hn.1;obtain ⟨new,g1,g2,g3,g4⟩:=rdK r hs.2 aS _ _ z hz hn.2;have e1:yl3 T (s::r) (y,z)=yl3 T r z:=by cases s<;>first|rfl|cases hsim
   have e2: ∀σ p,zw3 T σ (s::r) (y,z) p=mkA T σ s y 0::zw3 T σ r z p:=by intro σ p;cases s<;>first|rfl|cases hsim
   refine ⟨new,g1,by rw [e1];exact g2,by rw [e1];exact g3,fun σ hσ=>?_⟩;rw [e2,h1 σ 0 fun p i hp=>hσ p i ?_,g4 σ hσ];rw [g1,X8 (by have:=(X2.1 hp).1;exact this)];exact hp
  ·cases s with
   |row e t=>
    unfold rdS at hy;split at hy<;>try (cases hy;done)
    rename_i i ha;split at hy<;>try (cases hy;done)
    rename_i xs hx;simp only [X0,X7] at hy;obtain ⟨rfl,rfl⟩:=hy;have:=yt2 ha;subst this;obtain ⟨new,g1,g2,g3,g4⟩:=one (zz8 hx) rfl;exact ⟨new,g1,g2,g3,fun σ hσ=>by
     show AV.own (σ l0.length)::zw3 T σ r z (l0.length+1)=_;rw [(g4 σ hσ).1,(g4 σ hσ).2]⟩
   |dr e d fe=>
    unfold rdS at hy;split at hy<;>try (cases hy;done)
    rename_i i ha;split at hy<;>try (cases hy;done)
    rename_i xs hx;simp only [X0,X7] at hy;obtain ⟨rfl,rfl⟩:=hy;have:=yt2 ha;subst this;obtain ⟨new,g1,g2,g3,g4⟩:=one (je6 hx) rfl;exact ⟨new,g1,g2,g3,fun σ hσ=>by
     show AV.own (σ l0.length)::zw3 T σ r z (l0.length+1)=_;rw [(g4 σ hσ).1,(g4 σ hσ).2]⟩
   |_=>exact absurd hs.1 hsim
def gd6 {H:List (Ent T.U)} {o:Nat} {e:TypeId} {cs ps:List Sh} (hcs:cs.all Sh.kshape=true) (hps:ps.all Sh.simple=true) {aS:List (AV T.U)} (hh:vn1 H aS=true) {x:ze8 T (.ptr o e cs::ps)} {l:Src} (hx:zq2 T H (.ptr o e cs::ps) aS []=some (x,l)) (n:Nat):
  ∃(i:Nat) (new:List Nat),zd9 l=i::new/\ ∀es,es=Ent.blk e (zw3 T (σJ (zd9 l) n) cs x.1 1)::yl3 T cs x.1->es.length=(zd9 l).length/\ ∀(q j:Nat),(zd9 l)[q]?=some j->es[q]?=H[j]?:=by
 unfold zq2 at hx;split at hx<;>try (cases hx;done)
 rename_i a aS';split at hx<;>try (cases hx;done)
 rename_i z l1 hz;obtain ⟨z2,hz2,rfl⟩:=zr7 hx;unfold rdS at hz;split at hz<;>try (cases hz;done)
 rename_i i o' ha;have:=jq8 ha;subst this;split at hz<;>try (cases hz;done)
 rename_i cs' hc;split at hz<;>try (cases hz;done)
 have hi:=zr2 hc;unfold vn1 at hh;simp only [hi] at hh;obtain ⟨new,g1,g2,g3,g4⟩:=rdK cs hcs cs' _ _ z hz hh;obtain ⟨n2,k1,k2,_⟩:=ze7 ps aS' l1 l z2 hz2;rw [ji1 hps] at k2;have hn2:n2= []:=T9 k2;subst hn2;have hl:l=some i::new.map some:=by rw [k1.eq,g1];simp
 have hids:zd9 l=i::new:=by rw [hl];show i::zd9 (new.map some)=_;rw [yn2]
 refine ⟨i,new,hids,fun es hes=>?_⟩;subst hes;refine ⟨by rw [hids];simp [g3],fun q j hq=>?_⟩;rw [hids] at hq;cases q with
 |zero=>
  simp only [Y4,X0] at hq;subst hq;rw [hi,Y4];congr 2;refine g4 _ fun p q hp=>?_;rw [hids];have hp':((i::new).map some)[p]?=some (some q):=by
   rw [g1] at hp;simpa using hp
  rw [W2] at hp';cases hq:(i::new)[p]? with
  |none=>rw [hq] at hp';cases hp'
  |some q'=>rw [hq] at hp';simp only [Z8,X0] at hp';subst hp';exact σJ_at hq
 |succ q=>simpa using g2 q j (by simpa using hq)
def js5: ∀(ids:List Nat) (es H:List (Ent T.U)),(∀(q j:Nat),ids[q]?=some j->es[q]?=H[j]?)->zh0 T H ids es=H
 | [],es,H,_=>by cases es<;>rfl
 |i::r,[],H,_=>rfl
 |i::r,e::es,H,h=>by
  rw [zh0];have h0:=h 0 i rfl;have hs:H.set i e=H:=by
   obtain ⟨hlt,hg⟩:=X2.1 h0.symm;rw [Y4] at h0;have:H[i]=e:=by rw [Y0 hlt] at h0;exact (X5 h0).symm
   rw [<-this,N1]
  rw [hs];exact js5 r es H fun q j hq=>by simpa using h (q+1) j (by simpa using hq)
def qp3 (H:List (Ent T.U)) (aS:List (AV T.U)):List Sh->Bool
 | .ptr _ _ cs::ps=>cs.all Sh.kshape&&(ps.all Sh.simple&&vn1 H aS)
 |_=>false
def ve4 (ps:List Sh) (post:List PE) (x:ze8 T ps) (y:zn9 T post):Prop:=match ps,x with
 | .ptr _ e cs::_,x=> ∀(σ:Nat->Nat) (m:Nat),mkP T σ post y m=Ent.blk e (zw3 T σ cs x.1 1)::yl3 T cs x.1
 |_,_=>True
def qj1 {ps:List Sh} {post:List PE} {x:ze8 T ps} {y:zn9 T post} (hy:ve4 ps post x y) {H:List (Ent T.U)} {aS:List (AV T.U)} {l:Src} (hx:zq2 T H ps aS []=some (x,l)) (hk:qp3 H aS ps=true) (n m:Nat):zh0 T H (zd9 l) (mkP T (σJ (zd9 l) n) post y m)=H:=by
 unfold qp3 at hk;split at hk
 ·rename_i o e cs ps;simp only [X3] at hk;obtain ⟨i,new,_,h2⟩:=gd6 hk.1 hk.2.1 hk.2.2 hx n;exact js5 _ _ _ (h2 _ (hy _ _)).2
 ·cases hk
def GSpec.toKeep (sp:GSpec T) (alt:CallSpec T):CallSpec T where
 call:=fun aS H K Kp=>match zq2 T H sp.ps aS [] with
  |some (x,l)=>match (ze4 (zd9 l)&&ym0 T H (zd9 l) sp.post)&&qp3 H aS sp.ps with
   |true=>j6 (sp.g x) fun y=>K (zl6 T (zd0 T (σJ (zd9 l) H.length) sp.rs y.2 (sp.post.length+zf5 sp.post))) (H++(yc8 T (σJ (zd9 l) H.length) sp.post y.1 sp.post.length++zh8 T (σJ (zd9 l) H.length) sp.rs y.2 (sp.post.length+zf5 sp.post)))
   |false=>none
  |none=>alt.call aS H K Kp
 q:=alt.q
 isq:=alt.isq
 wr:=fun aS H=>match zq2 T H sp.ps aS [] with|some _=> []|none=>alt.wr aS H
def PSpec.toKeep (sp:PSpec T) (alt:CallSpec T):CallSpec T where
 call:=fun aS H K Kp=>match zq2 T H sp.ps aS [] with
  |some (x,l)=>match (ze4 (zd9 l)&&ym0 T H (zd9 l) sp.post)&&qp3 H aS sp.ps with
   |true=>j6 (sp.g x) fun y=>match y.2 with
    | .inl z=>K (zl6 T (zd0 T (σJ (zd9 l) H.length) sp.rs z (sp.post.length+zf5 sp.post))) (H++(yc8 T (σJ (zd9 l) H.length) sp.post y.1 sp.post.length++zh8 T (σJ (zd9 l) H.length) sp.rs z (sp.post.length+zf5 sp.post)))
    | .inr z=>Kp (zl6 T (zd0 T (σJ (zd9 l) H.length) [sp.pv] z (sp.post.length+zf5 sp.post))) (H++(yc8 T (σJ (zd9 l) H.length) sp.post y.1 sp.post.length++zh8 T (σJ (zd9 l) H.length) [sp.pv] z (sp.post.length+zf5 sp.post)))
   |false=>none
  |none=>alt.call aS H K Kp
 q:=alt.q
 isq:=alt.isq
 wr:=fun aS H=>match zq2 T H sp.ps aS [] with|some _=> []|none=>alt.wr aS H
def jd9 (H N:List (Ent T.U)):Keeps T [] H (H++N):=⟨by simp,fun e he _=>X8 he,fun e ty t ys he h=>⟨ys,by rwa [X8 he] at h⟩⟩
def ju5 {f:FuncId} {sp:GSpec T} {alt:CallSpec T} (h:GOk T P f sp) (hk: ∀x y,sp.g x=some y->ve4 sp.ps sp.post x y.1) (ha:zc0 T P f alt/\zl5 T P f alt/\yj9 alt):zc0 T P f (sp.toKeep alt)/\zl5 T P f (sp.toKeep alt)/\yj9 (sp.toKeep alt):=by
 refine ⟨fun aS H K Kp r hr=>ji2 h ha.1 aS H K Kp r ?_,ha.2.1,fun aS H K Kp r hr=>?_⟩
 ·simp only [GSpec.toKeep] at hr;simp only [GSpec.toCall];split at hr
  ·rename_i x l hx;rw [hx];simp only;split at hr<;>try (cases hr;done)
   rename_i hb;rw [X3] at hb;obtain ⟨y,hy,hK⟩:=zb8 hr;rw [hb.1];simp only [hy,j6];rw [qj1 (hk x y hy) hx hb.2];exact hK
  ·rename_i hx;rw [hx];exact hr
 ·simp only [GSpec.toKeep] at hr;split at hr
  ·rename_i x l hx;split at hr<;>try (cases hr;done)
   rename_i hb;obtain ⟨y,hy,hK⟩:=zb8 hr;have hw:(GSpec.toKeep sp alt).wr aS H= []:=by simp only [GSpec.toKeep,hx]
   rw [hw];exact .inl ⟨_,_,hK,jd9 _ _,fun K' Kp'=>by simp only [GSpec.toKeep,hx,hb,hy,j6]⟩
  ·rename_i hx;have hw:(GSpec.toKeep sp alt).wr aS H=alt.wr aS H:=by simp only [GSpec.toKeep,hx]
   rcases ha.2.2 aS H K Kp r hr with ⟨a,H1,h1,h2,h3⟩|⟨a,H1,h1,h2,h3⟩
   ·exact .inl ⟨a,H1,h1,by rw [hw];exact h2,fun K' Kp'=>by simp only [GSpec.toKeep,hx,h3]⟩
   ·exact .inr ⟨a,H1,h1,by rw [hw];exact h2,fun K' Kp'=>by simp only [GSpec.toKeep,hx,h3]⟩
def jb3 {f:FuncId} {sp:PSpec T} {alt:CallSpec T} (h:POk T P f sp) (hk: ∀x y,sp.g x=some y->ve4 sp.ps sp.post x y.1) (ha:zc0 T P f alt/\zl5 T P f alt/\yj9 alt):zc0 T P f (sp.toKeep alt)/\zl5 T P f (sp.toKeep alt)/\yj9 (sp.toKeep alt):=by
 refine ⟨fun aS H K Kp r hr=>ji3 h ha.1 aS H K Kp r ?_,ha.2.1,fun aS H K Kp r hr=>?_⟩
 ·simp only [PSpec.toKeep] at hr;simp only [PSpec.toCall];split at hr
  ·rename_i x l hx;rw [hx];simp only;split at hr<;>try (cases hr;done)
   rename_i hb;rw [X3] at hb;obtain ⟨y,hy,hK⟩:=zb8 hr;rw [hb.1];simp only [hy,j6];rw [qj1 (hk x y hy) hx hb.2];exact hK
  ·rename_i hx;rw [hx];exact hr
 ·simp only [PSpec.toKeep] at hr;split at hr
  ·rename_i x l hx;split at hr<;>try (cases hr;done)
   rename_i hb;obtain ⟨y,hy,hK⟩:=zb8 hr;have hw:(PSpec.toKeep sp alt).wr aS H= []:=by simp only [PSpec.toKeep,hx]
   rw [hw];cases hz:y.2 with
   |inl z=>
    rw [hz] at hK;exact .inl ⟨_,_,hK,jd9 _ _,fun K' Kp'=>by simp only [PSpec.toKeep,hx,hb,hy,j6,hz]⟩
   |inr z=>
    rw [hz] at hK;exact .inr ⟨_,_,hK,jd9 _ _,fun K' Kp'=>by simp only [PSpec.toKeep,hx,hb,hy,j6,hz]⟩
  ·rename_i hx;have hw:(PSpec.toKeep sp alt).wr aS H=alt.wr aS H:=by simp only [PSpec.toKeep,hx]
   rcases ha.2.2 aS H K Kp r hr with ⟨a,H1,h1,h2,h3⟩|⟨a,H1,h1,h2,h3⟩
   ·exact .inl ⟨a,H1,h1,by rw [hw];exact h2,fun K' Kp'=>by simp only [PSpec.toKeep,hx,h3]⟩
   ·exact .inr ⟨a,H1,h1,by rw [hw];exact h2,fun K' Kp'=>by simp only [PSpec.toKeep,hx,h3]⟩
end
end Go.X
