import Derived.Test.YthhhfnfgmijggaaGreatXO
namespace Go.X
open Go.RowKit Go.V
structure PSpec (T:Tab) where
 ps:List Sh
 post:List PE
 rs:List Sh
 pv:Sh
 g:zd8 T ps->Option (zl5 T post×(zd8 T rs⊕zd8 T [pv]))
section
variable (T:Tab) (P:Program)
def POk (f:FuncId) (sp:PSpec T):Prop:= ∀x y,sp.g x=some y-> ∀(w:World) (S:List Nat) (φ:Nat->RA),Sim T w ⟨zd5 φ (zb5 sp.ps),S,(List.range (zb5 sp.ps)).map φ⟩ ⟨[],zh0 T id sp.ps x 0⟩ [] w S φ->
 ∀vs:List Value,VRL T w S φ (zc6 T id sp.ps x 0) vs->(∀a∈zc6 T id sp.ps x 0,okA (zh0 T id sp.ps x 0) a)->
 Calls P f vs.toArray w fun e w'=>match e with
  | .returned v=> ∃z,y.2=.inl z/\ ∃us,ji5 T sp.post sp.rs y.1 z w S φ (zb5 sp.ps) w' us/\v=yb3 us
  | .panicked ch=> ∃z,y.2=.inr z/\ ∃u,ch= [{v:=u,recovered:=false}]/\ji5 T sp.post [sp.pv] y.1 z w S φ (zb5 sp.ps) w' [u]
  | .outgrown=>False
def PSpec.toCall {T:Tab} (sp:PSpec T) (alt:CallSpec T):CallSpec T where
 call:=fun as H K Kp=>match zp0 T H sp.ps as [] with
  |some (x,l)=>match zd6 (zd4 l)&&yi1 T H (zd4 l) sp.post with
   |true=>j7 (sp.g x) fun y=>match y.2 with
    | .inl z=>K (zk3 T (zc6 T (σJ (zd4 l) H.length) sp.rs z (sp.post.length+zf5 sp.post))) (zg3 T H (zd4 l) (mkP T (σJ (zd4 l) H.length) sp.post y.1 sp.post.length)++(ya1 T (σJ (zd4 l) H.length) sp.post y.1 sp.post.length++zh0 T (σJ (zd4 l) H.length) sp.rs z (sp.post.length+zf5 sp.post)))
    | .inr z=>Kp (zk3 T (zc6 T (σJ (zd4 l) H.length) [sp.pv] z (sp.post.length+zf5 sp.post))) (zg3 T H (zd4 l) (mkP T (σJ (zd4 l) H.length) sp.post y.1 sp.post.length)++(ya1 T (σJ (zd4 l) H.length) sp.post y.1 sp.post.length++zh0 T (σJ (zd4 l) H.length) [sp.pv] z (sp.post.length+zf5 sp.post)))
   |false=>none
  |none=>alt.call as H K Kp
 q:=alt.q
 isq:=alt.isq
 wr:=fun as H=>match zp0 T H sp.ps as [] with|some (_,l)=>zd4 l|none=>alt.wr as H
def gf3 (nl:Nl) (post:List PE) (rs:List Sh) (pv:Sh) (a:AV T.U) (st:St T):Option (zl5 T post×(zd8 T rs⊕zd8 T [pv])):=
 match rdP T (ze9 T nl.bn st.H) post 0 (zt1 post 0) with
 |some (y,l)=>match zp0 T (ze9 T nl.bn st.H) [pv] [a] l with
  |some (z,l')=>match zl4 l' with|true=>some (y,.inr z)|false=>none
  |none=>none
 |none=>none
def qg4 (fn:Func) (nl:Nl) (post:List PE) (rs:List Sh) (pv:Sh):Ks T (zl5 T post×(zd8 T rs⊕zd8 T [pv])):=
 ⟨fun st=>j7 (yf9 T P fn nl post rs st) fun y=>some (y.1,.inl y.2),fun _ _=>none,fun st=>j7 (yf9 T P fn nl post rs st) fun y=>some (y.1,.inl y.2),gf3 T nl post rs pv⟩
noncomputable def zz4 (C:Ctx T) (cuts:List (Pos×Cut)) (fn:Func) (c:Code) (nl:Nl) (ps:List Sh) (post:List PE) (rs:List Sh) (pv:Sh) (m:Nat) (x:zd8 T ps):Option (zl5 T post×(zd8 T rs⊕zd8 T [pv])):=
 evC P C fn.ntmps cuts (run P C fn.ntmps cuts c (qg4 T P fn nl post rs pv) m) c [] (qg4 T P fn nl post rs pv) ⟨yb1 T (zc6 T id ps x 0) 0,zh0 T id ps x 0⟩
noncomputable def yr2 (C:Ctx T) (cuts:List (Pos×Cut)) (fn:Func) (c:Code) (nl:Nl) (post:List PE) (rs:List Sh) (pv:Sh) (m:Nat) (q:Pos) (st:St T):Option (zl5 T post×(zd8 T rs⊕zd8 T [pv])):=
 run P C fn.ntmps cuts c (qg4 T P fn nl post rs pv) m q st
end
section
variable {T:Tab} {P:Program} {w w':World} {S S':List Nat} {φ φ':Nat->RA} {w0:World} {S0:Ow} {F:AF T} {H:List (Ent T.U)} {F':PF}
theorem jc5 {f:FuncId} {sp:PSpec T} {alt:CallSpec T} (hok:POk T P f sp) (ha:zb4 T P f alt):zb4 T P f (sp.toCall alt):=by
 intro R as H K Kp r hr w0 S0 F F' w S φ h vs hvs has;simp only [PSpec.toCall] at hr;split at hr
 ·rename_i x l hx;split at hr
  ·rename_i hb;simp only [X3] at hb;obtain ⟨hn,hro⟩:=hb;obtain ⟨y,hy,hK⟩:=zb3 hr;obtain ⟨new,g1,g2,g3⟩:=ze4 sp.ps as [] l x hx;have hl:l=new.map some:=by rw [g1.eq];rfl
   have hids:zd4 l=new:=by rw [hl,yj7]
   rw [hids] at hn hro hK;have hno:zl4 l=true:=by
    rw [hl];clear hK hro hids hx g1 g2 g3 hl;induction new with
    |nil=>rfl
    |cons i r ih=>
     rw [zd6,X3,Bool.not_eq_true'] at hn;rw [List.map_cons,zl4,ih hn.2,Bool.and_true,Bool.not_eq_true'];cases hm:qm8 i (r.map some) with
     |false=>rfl
     |true=>
      have:=yd7.1 hm;obtain ⟨j,hj,e⟩:=List.mem_map.1 this;simp only [X0] at e;subst e;rw [zc5.2 hj] at hn;exact absurd hn.1 (by simp)
   obtain ⟨q1,q2⟩:=g3 _ (ye8 hno);obtain ⟨hlen,hrow⟩:=zr1 hro;have hnewlen:new.length=zb5 sp.ps:=g2;obtain ⟨c0,x0,p0⟩:=S0;have hs:=(h.unpin.src (l:=l) hno (fun k hk=>by simp at hk) (fun i e hi he j hj=>by
    rw [hl] at hi;obtain ⟨i',hi',e'⟩:=List.mem_map.1 hi;simp only [X0] at e';subst e';obtain ⟨e0,h1,_,h3⟩:=g1.ents i' hi';rw [he] at h1;simp only [X0] at h1;subst h1;exact h3 j hj))
   rw [show zi7 T H (fun i=>yq6 i l) l=ze7 T H (fun i=>yq6 i l) new by rw [hl,zv6]] at hs;have hs:=(hs.imp q2).start;rw [zc8,<-hnewlen] at hs;have hφc: ∀k i,new[k]?=some i->φO l φ k=φ i:=fun k i hk=>φO_at (by rw [hl,W0,hk];rfl);have hvs':VRL T w S (φO l φ) (zc6 T id sp.ps x 0) vs:=q1.vrl (VRL.ren T (fun i hi=>φO_idx (g1.ids i hi)) hvs);have hoks: ∀a∈zc6 T id sp.ps x 0,okA (zh0 T id sp.ps x 0) a:=fun a ha=>zd9 (zq3 id _ _ _ a ha) fun i hi=>by
    have hi:=zh1 ha i hi;rw [show w9 (zc6 T id sp.ps x 0)=_ from q1.ids] at hi;rw [zc8,<-hnewlen];refine zk4 (fun j hj=>?_) i hi;have:=(X2.1 (zl3 (g1.ids j hj))).1;rw [hl,List.length_map] at this;rw [hl];exact this
   have step: ∀(rs:List Sh) (z:zd8 T rs) (w':World) (us:List Value),ji5 T sp.post rs y.1 z w S (φO l φ) (zb5 sp.ps) w' us->
     ∃S1 φ2,Sim T w0 ⟨c0,x0,p0⟩ ⟨F,zg3 T H new (mkP T (σJ new H.length) sp.post y.1 sp.post.length)++(ya1 T (σJ new H.length) sp.post y.1 sp.post.length++zh0 T (σJ new H.length) rs z (sp.post.length+zf5 sp.post))⟩ F' w' S1 φ2/\VR T w' S1 φ2 (zk3 T (zc6 T (σJ new H.length) rs z (sp.post.length+zf5 sp.post))) (yb3 us)/\
      okA (zg3 T H new (mkP T (σJ new H.length) sp.post y.1 sp.post.length)++(ya1 T (σJ new H.length) sp.post y.1 sp.post.length++zh0 T (σJ new H.length) rs z (sp.post.length+zf5 sp.post))) (zk3 T (zc6 T (σJ new H.length) rs z (sp.post.length+zf5 sp.post))):=by
    intro rs z w' us hans;obtain ⟨F1,S1,φ1,k1,k2,k3⟩:=hans;rw [<-hnewlen] at k1;obtain ⟨φ2,m1,m2⟩:=h.join hn (fun i hi=>by obtain ⟨e,a,b,_⟩:=g1.ents i hi;exact ⟨e,a,b⟩) hφc k1 (by rw [zx1,hlen]) (fun k i e t ys hk hp=>hrow k i e t hk (yp8 hp));rw [jk1,List.map_append,yw0,zi8] at m1;have hv2:VRL T w' S1 φ2 (zc6 T (σJ new H.length) rs z (sp.post.length+zf5 sp.post)) us:=by
     rw [<-zg1];rw [zx1,X9,zx6,zc8] at m2;generalize zc6 T id rs z (sp.post.length+zf5 sp.post)=as9 at k2 k3;clear m1 k1;induction as9 generalizing us with
     |nil=>cases us<;>exact k2
     |cons a r ih=>
      match us,k2 with
      |u::us,k2=>
       rw [zj5];exact ⟨m2 a u k2.1 fun i hi=>k3 i (by rw [w9];exact X4.2 (.inl hi)),ih _ k2.2 fun i hi=>k3 i (by rw [w9];exact X4.2 (.inr hi))⟩
    refine ⟨S1,φ2,m1,yd8 hv2,?_⟩;have hlt: ∀i∈w9 (zc6 T (σJ new H.length) rs z (sp.post.length+zf5 sp.post)),i<(zg3 T H new (mkP T (σJ new H.length) sp.post y.1 sp.post.length)++(ya1 T (σJ new H.length) sp.post y.1 sp.post.length++zh0 T (σJ new H.length) rs z (sp.post.length+zf5 sp.post))).length:=by
     rw [<-zg1];refine zk4 fun j hj=>?_;have hj:=k3 j hj;rw [X9,X9,zb0,zx6,zc8];by_cases hlt:j<new.length
     ·have hs:=σJ_lo (n:=H.length) hlt;obtain ⟨e,h1,_,_⟩:=g1.ents _ (X6 hs);have:=(X2.1 h1).1;omega
     ·rw [σJ_hi (by omega)];omega
    have hne:zi0 (zk3 T (zc6 T (σJ new H.length) rs z (sp.post.length+zf5 sp.post)))=true:=by
     unfold zk3;split
     ·rename_i a hl;exact zq3 (σJ new H.length) rs z _ a (by rw [hl];simp)
     ·rfl
    refine zd9 hne fun i hi=>hlt i ?_;unfold zk3 at hi;split at hi
    ·rename_i a hl;rw [hl,w9];exact X4.2 (.inl hi)
    ·rw [AV.ids] at hi;exact hi
   refine (hok x y hy w S (φO l φ) (by rw [<-hnewlen];exact hs) vs hvs' hoks).mono fun e w' hR=>?_;cases e with
   |returned v=>
    obtain ⟨z,hz,us,hans,rfl⟩:=hR;rw [hz] at hK;exact ⟨_,_,hK,step _ z w' us hans⟩
   |panicked ch=>
    obtain ⟨z,hz,u,rfl,hans⟩:=hR;rw [hz] at hK;exact ⟨_,_,hK,u,rfl,step _ z w' [u] hans⟩
   |outgrown=>exact hR.elim
  ·cases hr
 ·exact ha as H K Kp r hr w0 S0 F F' w S φ h vs hvs has
theorem ue0 {sp:PSpec T} {alt:CallSpec T} (ha:yh1 alt):yh1 (sp.toCall alt):=by
 intro R as H K Kp r hr;simp only [PSpec.toCall] at hr;split at hr
 ·rename_i x l hx;split at hr
  ·rename_i hb;obtain ⟨y,hy,hK⟩:=zb3 hr;simp only [X3] at hb;obtain ⟨hlen,hrow⟩:=zr1 hb.2;have hw:(PSpec.toCall sp alt).wr as H=zd4 l:=by simp only [PSpec.toCall,hx]
   rw [hw];have hl:(mkP T (σJ (zd4 l) H.length) sp.post y.1 sp.post.length).length=(zd4 l).length:=by rw [zx1,hlen]
   have keeps: ∀(N:List (Ent T.U)),Keeps T (zd4 l) H (zg3 T H (zd4 l) (mkP T (σJ (zd4 l) H.length) sp.post y.1 sp.post.length)++N):=by
    intro N;refine ⟨by rw [X9,zb0];omega,fun e he hn=>?_,fun e ty t ys he h=>?_⟩
    ·rw [X8 (by rw [zb0];exact he)];obtain ⟨f,hf⟩: ∃f,(zg3 T H (zd4 l) (mkP T (σJ (zd4 l) H.length) sp.post y.1 sp.post.length))[e]?=some f:=⟨_,Y0 (by rw [zb0];exact he)⟩;rcases zg7 _ _ H hl hf with ⟨k,g1,_⟩|⟨_,g2⟩
     ·exact absurd (X6 g1) hn
     ·rw [hf,g2]
    ·rw [X8 (by rw [zb0];exact he)] at h;rcases zg7 _ _ H hl h with ⟨k,g1,g2⟩|⟨_,g2⟩
     ·exact hrow k e ty t g1 (yp8 g2)
     ·exact ⟨ys,g2⟩
   cases hz:y.2 with
   |inr z=>
    rw [hz] at hK;exact .inr ⟨_,_,hK,keeps _,fun K' Kp'=>by simp only [PSpec.toCall,hx,hb.1,hb.2,Bool.and_self,hy,j7,hz]⟩
   |inl z=>
    rw [hz] at hK;exact .inl ⟨_,_,hK,keeps _,fun K' Kp'=>by simp only [PSpec.toCall,hx,hb.1,hb.2,Bool.and_self,hy,j7,hz]⟩
  ·cases hr
 ·rename_i hx;have hw:(PSpec.toCall sp alt).wr as H=alt.wr as H:=by simp only [PSpec.toCall,hx]
  rcases ha as H K Kp r hr with ⟨a,H1,h1,h2,h3⟩|⟨a,H1,h1,h2,h3⟩
  ·exact .inl ⟨a,H1,h1,by rw [hw];exact h2,fun K' Kp'=>by simp only [PSpec.toCall,hx,h3]⟩
  ·exact .inr ⟨a,H1,h1,by rw [hw];exact h2,fun K' Kp'=>by simp only [PSpec.toCall,hx,h3]⟩
theorem zf7 {C:Ctx T} {f:FuncId} {fn:Func} {c:Code} {cuts:List (Pos×Cut)} {ps rs:List Sh} {nl:Nl} {post:List PE} {pv:Sh} {g:zd8 T ps->Option (zl5 T post×(zd8 T rs⊕zd8 T [pv]))} (hm:P.follows .mixedOrders=true) (hE:v7 T P C.E)
  (hf:P.funcs[f]?=some fn) (hb:fn.body=some c) (hs:Nat.ble ps.length fn.ntmps=true) (hpin:Nat.ble (zb5 ps) C.pin=true) (hpost:Nat.beq post.length (zb5 ps)=true)
  (hg: ∀x y,g x=some y-> ∃m,zz4 T P C cuts fn c nl ps post rs pv m x=some y):POk T P f ⟨ps,post,rs,pv,g⟩:=by
 intro x y hy w S φ hsim vs hvs hoks;obtain ⟨N,hN⟩:=hg x y hy;have hpost:=X1 hpost;have hall:(zc6 T id ps x 0).length=ps.length:=by
  have: ∀(l:List Sh) (x:zd8 T l) (k:Nat),(zc6 T id l x k).length=l.length:=by
   intro l;induction l with
   |nil=>intro x k;rfl
   |cons s r ih=>intro x k;exact congrArg (· +1) (ih x.2 _)
  exact this ps x 0
 have hlen:vs.length=ps.length:=by rw [<-hvs.len T];exact hall
 have hsz:vs.length<=fn.ntmps:=by rw [hlen];exact Y1 hs
 have hfr:Fr fn.ntmps [] (jk5 vs 0) {tmps:=vs.toArray++Array.replicate (fn.ntmps-vs.toArray.size) undef,defers:= []}:=by
  refine ⟨by simp;omega,rfl,fun i v hv=>?_⟩;obtain ⟨_,h2⟩:=yk2 vs 0 i v hv;simp only [Nat.sub_zero] at h2;have hi:=(X2.1 h2).1;refine ⟨?_,by omega⟩;rw [Y7,Array.getElem?_append_left (by simpa using hi)];simp [h2]
 have hstart:=hsim.slots hvs hoks;have hpin':((List.range (zb5 ps)).map φ).length<=C.pin:=by simpa using Y1 hpin
 have key: ∀st y',yf9 T P fn nl post rs st=some y'-> ∀F1 w1,zc7 T w ⟨zd5 φ (zb5 ps),S,(List.range (zb5 ps)).map φ⟩ st F1 w1-> ∀a,Fr fn.ntmps [] F1 a-> ∃v,(results fn a.tmps).run P w1=.ok v w1/\
   ∃us,ji5 T post rs y'.1 y'.2 w S φ (zb5 ps) w1 us/\v=yb3 us:=by
  intro st0 y' hst F1 w1 hsm0 a ha;exact yu3 hpost hst hsm0 ha
 have hKs:KsOk (bodyPost P fn fun e w'=>match e with
   | .returned v=> ∃z,y.2=.inl z/\ ∃us,ji5 T post rs y.1 z w S φ (zb5 ps) w' us/\v=yb3 us
   | .panicked ch=> ∃z,y.2=.inr z/\ ∃u,ch= [{v:=u,recovered:=false}]/\ji5 T post [pv] y.1 z w S φ (zb5 ps) w' [u]
   | .outgrown=>False) fn.ntmps [] w ⟨zd5 φ (zb5 ps),S,(List.range (zb5 ps)).map φ⟩ y (qg4 T P fn nl post rs pv):=by
  refine ⟨?_,fun i st h=>(by cases h),?_,fun a st h=>?_⟩
  ·intro st hst F1 w1 hs1 a ha;obtain ⟨y',hy',he⟩:=zb3 hst;simp only [X0] at he;obtain ⟨v,h1,us,h2,h3⟩:=key st y' hy' F1 w1 hs1 a ha;subst he;exact ⟨ha.defers,v,h1,_,rfl,us,h2,h3⟩
  ·intro st hst F1 w1 hs1 a ha;obtain ⟨y',hy',he⟩:=zb3 hst;simp only [X0] at he;obtain ⟨v,h1,us,h2,h3⟩:=key st y' hy' F1 w1 hs1 a ha;subst he;exact ⟨ha.defers,v,h1,_,rfl,us,h2,h3⟩
  ·intro F1 w1 S1 φ1 u hsm hvr hok act ha;have h:gf3 T nl post rs pv a st=some y:=h;obtain ⟨φ1,hsm,hvr,_⟩:=zh8 nl.bn hsm (as:= [a]) (us:= [u]) ⟨hvr,trivial⟩ (fun i hi=>hok.1 i (by simpa [w9] using hi));unfold gf3 at h;split at h<;>try (cases h;done)
   rename_i y1 l1 h1;split at h<;>try (cases h;done)
   rename_i z l2 h2;split at h<;>try (cases h;done)
   rename_i hn;simp only [X0] at h;subst h;exact ⟨ha.defers,z,rfl,u,rfl,vj5 hpost h1 h2 hn hsm hvr⟩
 exact calls_of_wp hf hb (zf2 hm hpin' hE c [] _ _ _ _ w hN hKs (JOk.run hm hpin' hE hKs N) ⟨S,φ,hstart⟩ _ hfr)
theorem za1 {f:FuncId} {sp:PSpec T} {alt:CallSpec T} (h:POk T P f sp) (ha:zb4 T P f alt/\zk2 T P f alt/\yh1 alt):zb4 T P f (sp.toCall alt)/\zk2 T P f (sp.toCall alt)/\yh1 (sp.toCall alt):=⟨jc5 h ha.1,ha.2.1,ue0 ha.2.2⟩
end
end Go.X
