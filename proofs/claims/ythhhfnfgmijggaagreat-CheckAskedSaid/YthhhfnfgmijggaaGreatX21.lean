import Derived.Test.YthhhfnfgmijggaaGreatXO
namespace Go.X
open Go.RowKit Go.V
structure PSpec (T:Tab) where
 ps:List Sh
 post:List PE
 rs:List Sh
 pv:Sh
 g:zd5 T ps->Option (zk9 T post×(zd5 T rs⊕zd5 T [pv]))
section
variable (T:Tab) (P:Program)
def POk (f:FuncId) (sp:PSpec T):Prop:= ∀x y,sp.g x=some y-> ∀(w:World) (S:List Nat) (φ:Nat->RA),Sim T w ⟨zd2 φ (zb3 sp.ps),S,(List.range (zb3 sp.ps)).map φ⟩ ⟨[],zg5 T id sp.ps x 0⟩ [] w S φ->
 ∀vs:List Value,VRL T w S φ (zc4 T id sp.ps x 0) vs->(∀a∈zc4 T id sp.ps x 0,okA (zg5 T id sp.ps x 0) a)->
 Calls P f vs.toArray w fun e w'=>match e with
  | .returned v=> ∃z,y.2=.inl z/\ ∃us,jg4 T sp.post sp.rs y.1 z w S φ (zb3 sp.ps) w' us/\v=ya5 us
  | .panicked ch=> ∃z,y.2=.inr z/\ ∃u,ch= [{v:=u,recovered:=false}]/\jg4 T sp.post [sp.pv] y.1 z w S φ (zb3 sp.ps) w' [u]
  | .outgrown=>False
def PSpec.toCall {T:Tab} (sp:PSpec T) (alt:CallSpec T):CallSpec T where
 call:=fun as H K Kp=>match zo2 T H sp.ps as [] with
  |some (x,l)=>match zd4 (zd1 l)&&yh8 T H (zd1 l) sp.post with
   |true=>j7 (sp.g x) fun y=>match y.2 with
    | .inl z=>K (zj9 T (zc4 T (σJ (zd1 l) H.length) sp.rs z (sp.post.length+zf0 sp.post))) (zf6 T H (zd1 l) (mkP T (σJ (zd1 l) H.length) sp.post y.1 sp.post.length)++(ya3 T (σJ (zd1 l) H.length) sp.post y.1 sp.post.length++zg5 T (σJ (zd1 l) H.length) sp.rs z (sp.post.length+zf0 sp.post)))
    | .inr z=>Kp (zj9 T (zc4 T (σJ (zd1 l) H.length) [sp.pv] z (sp.post.length+zf0 sp.post))) (zf6 T H (zd1 l) (mkP T (σJ (zd1 l) H.length) sp.post y.1 sp.post.length)++(ya3 T (σJ (zd1 l) H.length) sp.post y.1 sp.post.length++zg5 T (σJ (zd1 l) H.length) [sp.pv] z (sp.post.length+zf0 sp.post)))
   |false=>none
  |none=>alt.call as H K Kp
 q:=alt.q
 isq:=alt.isq
 wr:=fun as H=>match zo2 T H sp.ps as [] with|some (_,l)=>zd1 l|none=>alt.wr as H
def gf5 (nl:Nl) (post:List PE) (rs:List Sh) (pv:Sh) (a:AV T.U) (st:St T):Option (zk9 T post×(zd5 T rs⊕zd5 T [pv])):=
 match rdP T (ze3 T nl.bn st.H) post 0 (zs3 post 0) with
 |some (y,l)=>match zo2 T (ze3 T nl.bn st.H) [pv] [a] l with
  |some (z,l')=>match zk8 l' with|true=>some (y,.inr z)|false=>none
  |none=>none
 |none=>none
def qc6 (fn:Func) (nl:Nl) (post:List PE) (rs:List Sh) (pv:Sh):Ks T (zk9 T post×(zd5 T rs⊕zd5 T [pv])):=
 ⟨fun st=>j7 (yf4 T P fn nl post rs st) fun y=>some (y.1,.inl y.2),fun _ _=>none,fun st=>j7 (yf4 T P fn nl post rs st) fun y=>some (y.1,.inl y.2),gf5 T nl post rs pv⟩
noncomputable def zz5 (C:Ctx T) (cuts:List (Pos×Cut)) (fn:Func) (c:Code) (nl:Nl) (ps:List Sh) (post:List PE) (rs:List Sh) (pv:Sh) (m:Nat) (x:zd5 T ps):Option (zk9 T post×(zd5 T rs⊕zd5 T [pv])):=
 evC P C fn.ntmps cuts (run P C fn.ntmps cuts c (qc6 T P fn nl post rs pv) m) c [] (qc6 T P fn nl post rs pv) ⟨ya4 T (zc4 T id ps x 0) 0,zg5 T id ps x 0⟩
noncomputable def yp8 (C:Ctx T) (cuts:List (Pos×Cut)) (fn:Func) (c:Code) (nl:Nl) (post:List PE) (rs:List Sh) (pv:Sh) (m:Nat) (q:Pos) (st:St T):Option (zk9 T post×(zd5 T rs⊕zd5 T [pv])):=
 run P C fn.ntmps cuts c (qc6 T P fn nl post rs pv) m q st
end
section
variable {T:Tab} {P:Program} {w w':World} {S S':List Nat} {φ φ':Nat->RA} {w0:World} {S0:Ow} {F:AF T} {H:List (Ent T.U)} {F':PF}
theorem jb1 {f:FuncId} {sp:PSpec T} {alt:CallSpec T} (hok:POk T P f sp) (ha:zb2 T P f alt):zb2 T P f (sp.toCall alt):=by
 intro R as H K Kp r hr w0 S0 F F' w S φ h vs hvs has;simp only [PSpec.toCall] at hr;split at hr
 ·rename_i x l hx;split at hr
  ·rename_i hb;simp only [Bool.and_eq_true] at hb;obtain ⟨hn,hro⟩:=hb;obtain ⟨y,hy,hK⟩:=zb0 hr;obtain ⟨new,g1,g2,g3⟩:=zd9 sp.ps as [] l x hx;have hl:l=new.map some:=by rw [g1.eq];rfl
   have hids:zd1 l=new:=by rw [hl,yj1]
   rw [hids] at hn hro hK;have hno:zk8 l=true:=by
    rw [hl];clear hK hro hids hx g1 g2 g3 hl;induction new with
    |nil=>rfl
    |cons i r ih=>
     rw [zd4,Bool.and_eq_true,Bool.not_eq_true'] at hn;rw [List.map_cons,zk8,ih hn.2,Bool.and_true,Bool.not_eq_true'];cases hm:qw8 i (r.map some) with
     |false=>rfl
     |true=>
      have:=yc5.1 hm;obtain ⟨j,hj,e⟩:=List.mem_map.1 this;simp only [Option.some.injEq] at e;subst e;rw [zc3.2 hj] at hn;exact absurd hn.1 (by simp)
   obtain ⟨q1,q2⟩:=g3 _ (yf5 hno);obtain ⟨hlen,hrow⟩:=zq5 hro;have hnewlen:new.length=zb3 sp.ps:=g2;obtain ⟨c0,x0,p0⟩:=S0;have hs:=(h.unpin.src (l:=l) hno (fun k hk=>by simp at hk) (fun i e hi he j hj=>by
    rw [hl] at hi;obtain ⟨i',hi',e'⟩:=List.mem_map.1 hi;simp only [Option.some.injEq] at e';subst e';obtain ⟨e0,h1,_,h3⟩:=g1.ents i' hi';rw [he] at h1;simp only [Option.some.injEq] at h1;subst h1;exact h3 j hj))
   rw [show zi2 T H (fun i=>yp6 i l) l=ze2 T H (fun i=>yp6 i l) new by rw [hl,zv4]] at hs;have hs:=(hs.imp q2).start;rw [zc6,<-hnewlen] at hs;have hφc: ∀k i,new[k]?=some i->φO l φ k=φ i:=fun k i hk=>φO_at (by rw [hl,List.getElem?_map,hk];rfl);have hvs':VRL T w S (φO l φ) (zc4 T id sp.ps x 0) vs:=q1.vrl (VRL.ren T (fun i hi=>φO_idx (g1.ids i hi)) hvs);have hoks: ∀a∈zc4 T id sp.ps x 0,okA (zg5 T id sp.ps x 0) a:=fun a ha=>zd6 (zq3 id _ _ _ a ha) fun i hi=>by
    have hi:=zg6 ha i hi;rw [show w6 (zc4 T id sp.ps x 0)=_ from q1.ids] at hi;rw [zc6,<-hnewlen];refine zk0 (fun j hj=>?_) i hi;have:=(List.getElem?_eq_some_iff.1 (zk7 (g1.ids j hj))).1;rw [hl,List.length_map] at this;rw [hl];exact this
   have step: ∀(rs:List Sh) (z:zd5 T rs) (w':World) (us:List Value),jg4 T sp.post rs y.1 z w S (φO l φ) (zb3 sp.ps) w' us->
     ∃S1 φ2,Sim T w0 ⟨c0,x0,p0⟩ ⟨F,zf6 T H new (mkP T (σJ new H.length) sp.post y.1 sp.post.length)++(ya3 T (σJ new H.length) sp.post y.1 sp.post.length++zg5 T (σJ new H.length) rs z (sp.post.length+zf0 sp.post))⟩ F' w' S1 φ2/\VR T w' S1 φ2 (zj9 T (zc4 T (σJ new H.length) rs z (sp.post.length+zf0 sp.post))) (ya5 us)/\
      okA (zf6 T H new (mkP T (σJ new H.length) sp.post y.1 sp.post.length)++(ya3 T (σJ new H.length) sp.post y.1 sp.post.length++zg5 T (σJ new H.length) rs z (sp.post.length+zf0 sp.post))) (zj9 T (zc4 T (σJ new H.length) rs z (sp.post.length+zf0 sp.post))):=by
    intro rs z w' us hans;obtain ⟨F1,S1,φ1,k1,k2,k3⟩:=hans;rw [<-hnewlen] at k1;obtain ⟨φ2,m1,m2⟩:=h.join hn (fun i hi=>by obtain ⟨e,a,b,_⟩:=g1.ents i hi;exact ⟨e,a,b⟩) hφc k1 (by rw [zw9,hlen]) (fun k i e t ys hk hp=>hrow k i e t hk (yn5 hp));rw [ji7,List.map_append,yv0,zi3] at m1;have hv2:VRL T w' S1 φ2 (zc4 T (σJ new H.length) rs z (sp.post.length+zf0 sp.post)) us:=by
     rw [<-zf5];rw [zw9,List.length_append,zx2,zc6] at m2;generalize zc4 T id rs z (sp.post.length+zf0 sp.post)=as9 at k2 k3;clear m1 k1;induction as9 generalizing us with
     |nil=>cases us<;>exact k2
     |cons a r ih=>
      match us,k2 with
      |u::us,k2=>
       rw [zj1];exact ⟨m2 a u k2.1 fun i hi=>k3 i (by rw [w6];exact List.mem_append.2 (.inl hi)),ih _ k2.2 fun i hi=>k3 i (by rw [w6];exact List.mem_append.2 (.inr hi))⟩
    refine ⟨S1,φ2,m1,yd1 hv2,?_⟩;have hlt: ∀i∈w6 (zc4 T (σJ new H.length) rs z (sp.post.length+zf0 sp.post)),i<(zf6 T H new (mkP T (σJ new H.length) sp.post y.1 sp.post.length)++(ya3 T (σJ new H.length) sp.post y.1 sp.post.length++zg5 T (σJ new H.length) rs z (sp.post.length+zf0 sp.post))).length:=by
     rw [<-zf5];refine zk0 fun j hj=>?_;have hj:=k3 j hj;rw [List.length_append,List.length_append,za8,zx2,zc6];by_cases hlt:j<new.length
     ·have hs:=σJ_lo (n:=H.length) hlt;obtain ⟨e,h1,_,_⟩:=g1.ents _ (List.mem_of_getElem? hs);have:=(List.getElem?_eq_some_iff.1 h1).1;omega
     ·rw [σJ_hi (by omega)];omega
    have hne:zh7 (zj9 T (zc4 T (σJ new H.length) rs z (sp.post.length+zf0 sp.post)))=true:=by
     unfold zj9;split
     ·rename_i a hl;exact zq3 (σJ new H.length) rs z _ a (by rw [hl];simp)
     ·rfl
    refine zd6 hne fun i hi=>hlt i ?_;unfold zj9 at hi;split at hi
    ·rename_i a hl;rw [hl,w6];exact List.mem_append.2 (.inl hi)
    ·rw [AV.ids] at hi;exact hi
   refine (hok x y hy w S (φO l φ) (by rw [<-hnewlen];exact hs) vs hvs' hoks).mono fun e w' hR=>?_;cases e with
   |returned v=>
    obtain ⟨z,hz,us,hans,rfl⟩:=hR;rw [hz] at hK;exact ⟨_,_,hK,step _ z w' us hans⟩
   |panicked ch=>
    obtain ⟨z,hz,u,rfl,hans⟩:=hR;rw [hz] at hK;exact ⟨_,_,hK,u,rfl,step _ z w' [u] hans⟩
   |outgrown=>exact hR.elim
  ·cases hr
 ·exact ha as H K Kp r hr w0 S0 F F' w S φ h vs hvs has
theorem wk1 {sp:PSpec T} {alt:CallSpec T} (ha:yg7 alt):yg7 (sp.toCall alt):=by
 intro R as H K Kp r hr;simp only [PSpec.toCall] at hr;split at hr
 ·rename_i x l hx;split at hr
  ·rename_i hb;obtain ⟨y,hy,hK⟩:=zb0 hr;simp only [Bool.and_eq_true] at hb;obtain ⟨hlen,hrow⟩:=zq5 hb.2;have hw:(PSpec.toCall sp alt).wr as H=zd1 l:=by simp only [PSpec.toCall,hx]
   rw [hw];have hl:(mkP T (σJ (zd1 l) H.length) sp.post y.1 sp.post.length).length=(zd1 l).length:=by rw [zw9,hlen]
   have keeps: ∀(N:List (Ent T.U)),Keeps T (zd1 l) H (zf6 T H (zd1 l) (mkP T (σJ (zd1 l) H.length) sp.post y.1 sp.post.length)++N):=by
    intro N;refine ⟨by rw [List.length_append,za8];omega,fun e he hn=>?_,fun e ty t ys he h=>?_⟩
    ·rw [List.getElem?_append_left (by rw [za8];exact he)];obtain ⟨f,hf⟩: ∃f,(zf6 T H (zd1 l) (mkP T (σJ (zd1 l) H.length) sp.post y.1 sp.post.length))[e]?=some f:=⟨_,List.getElem?_eq_getElem (by rw [za8];exact he)⟩;rcases zf9 _ _ H hl hf with ⟨k,g1,_⟩|⟨_,g2⟩
     ·exact absurd (List.mem_of_getElem? g1) hn
     ·rw [hf,g2]
    ·rw [List.getElem?_append_left (by rw [za8];exact he)] at h;rcases zf9 _ _ H hl h with ⟨k,g1,g2⟩|⟨_,g2⟩
     ·exact hrow k e ty t g1 (yn5 g2)
     ·exact ⟨ys,g2⟩
   cases hz:y.2 with
   |inr z=>
    rw [hz] at hK;exact .inr ⟨_,_,hK,keeps _,fun K' Kp'=>by simp only [PSpec.toCall,hx,hb.1,hb.2,Bool.and_self,hy,j7,hz]⟩
   |inl z=>
    rw [hz] at hK;exact .inl ⟨_,_,hK,keeps _,fun K' Kp'=>by simp only [PSpec.toCall,hx,hb.1,hb.2,Bool.and_self,hy,j7,hz]⟩
  ·cases hr
 ·rename_i hx;have hw:(PSpec.toCall sp alt).wr as H=alt.wr as H:=by simp only [PSpec.toCall,hx]
  rcases ha as H K Kp r hr with ⟨a,H1,h1,h2,h3⟩|⟨a,H1,h1,h2,h3⟩
  ·exact .inl ⟨a,H1,h1,by rw [hw];exact h2,fun K' Kp'=>by simp only [PSpec.toCall,hx,h3]⟩
  ·exact .inr ⟨a,H1,h1,by rw [hw];exact h2,fun K' Kp'=>by simp only [PSpec.toCall,hx,h3]⟩
theorem zf1 {C:Ctx T} {f:FuncId} {fn:Func} {c:Code} {cuts:List (Pos×Cut)} {ps rs:List Sh} {nl:Nl} {post:List PE} {pv:Sh} {g:zd5 T ps->Option (zk9 T post×(zd5 T rs⊕zd5 T [pv]))} (hm:P.follows .mixedOrders=true) (hE:v4 T P C.E)
  (hf:P.funcs[f]?=some fn) (hb:fn.body=some c) (hs:Nat.ble ps.length fn.ntmps=true) (hpin:Nat.ble (zb3 ps) C.pin=true) (hpost:Nat.beq post.length (zb3 ps)=true)
  (hg: ∀x y,g x=some y-> ∃m,zz5 T P C cuts fn c nl ps post rs pv m x=some y):POk T P f ⟨ps,post,rs,pv,g⟩:=by
 intro x y hy w S φ hsim vs hvs hoks;obtain ⟨N,hN⟩:=hg x y hy;have hpost:=Nat.eq_of_beq_eq_true hpost;have hall:(zc4 T id ps x 0).length=ps.length:=by
  have: ∀(l:List Sh) (x:zd5 T l) (k:Nat),(zc4 T id l x k).length=l.length:=by
   intro l;induction l with
   |nil=>intro x k;rfl
   |cons s r ih=>intro x k;exact congrArg (· +1) (ih x.2 _)
  exact this ps x 0
 have hlen:vs.length=ps.length:=by rw [<-hvs.len T];exact hall
 have hsz:vs.length<=fn.ntmps:=by rw [hlen];exact Nat.le_of_ble_eq_true hs
 have hfr:Fr fn.ntmps [] (jj5 vs 0) {tmps:=vs.toArray++Array.replicate (fn.ntmps-vs.toArray.size) undef,defers:= []}:=by
  refine ⟨by simp;omega,rfl,fun i v hv=>?_⟩;obtain ⟨_,h2⟩:=yj4 vs 0 i v hv;simp only [Nat.sub_zero] at h2;have hi:=(List.getElem?_eq_some_iff.1 h2).1;refine ⟨?_,by omega⟩;rw [Array.getD_eq_getD_getElem?,Array.getElem?_append_left (by simpa using hi)];simp [h2]
 have hstart:=hsim.slots hvs hoks;have hpin':((List.range (zb3 ps)).map φ).length<=C.pin:=by simpa using Nat.le_of_ble_eq_true hpin
 have key: ∀st y',yf4 T P fn nl post rs st=some y'-> ∀F1 w1,zc5 T w ⟨zd2 φ (zb3 ps),S,(List.range (zb3 ps)).map φ⟩ st F1 w1-> ∀a,Fr fn.ntmps [] F1 a-> ∃v,(results fn a.tmps).run P w1=.ok v w1/\
   ∃us,jg4 T post rs y'.1 y'.2 w S φ (zb3 ps) w1 us/\v=ya5 us:=by
  intro st0 y' hst F1 w1 hsm0 a ha;exact yu9 hpost hst hsm0 ha
 have hKs:KsOk (bodyPost P fn fun e w'=>match e with
   | .returned v=> ∃z,y.2=.inl z/\ ∃us,jg4 T post rs y.1 z w S φ (zb3 ps) w' us/\v=ya5 us
   | .panicked ch=> ∃z,y.2=.inr z/\ ∃u,ch= [{v:=u,recovered:=false}]/\jg4 T post [pv] y.1 z w S φ (zb3 ps) w' [u]
   | .outgrown=>False) fn.ntmps [] w ⟨zd2 φ (zb3 ps),S,(List.range (zb3 ps)).map φ⟩ y (qc6 T P fn nl post rs pv):=by
  refine ⟨?_,fun i st h=>(by cases h),?_,fun a st h=>?_⟩
  ·intro st hst F1 w1 hs1 a ha;obtain ⟨y',hy',he⟩:=zb0 hst;simp only [Option.some.injEq] at he;obtain ⟨v,h1,us,h2,h3⟩:=key st y' hy' F1 w1 hs1 a ha;subst he;exact ⟨ha.defers,v,h1,_,rfl,us,h2,h3⟩
  ·intro st hst F1 w1 hs1 a ha;obtain ⟨y',hy',he⟩:=zb0 hst;simp only [Option.some.injEq] at he;obtain ⟨v,h1,us,h2,h3⟩:=key st y' hy' F1 w1 hs1 a ha;subst he;exact ⟨ha.defers,v,h1,_,rfl,us,h2,h3⟩
  ·intro F1 w1 S1 φ1 u hsm hvr hok act ha;have h:gf5 T nl post rs pv a st=some y:=h;obtain ⟨φ1,hsm,hvr,_⟩:=zh3 nl.bn hsm (as:= [a]) (us:= [u]) ⟨hvr,trivial⟩ (fun i hi=>hok.1 i (by simpa [w6] using hi));unfold gf5 at h;split at h<;>try (cases h;done)
   rename_i y1 l1 h1;split at h<;>try (cases h;done)
   rename_i z l2 h2;split at h<;>try (cases h;done)
   rename_i hn;simp only [Option.some.injEq] at h;subst h;exact ⟨ha.defers,z,rfl,u,rfl,vk3 hpost h1 h2 hn hsm hvr⟩
 exact calls_of_wp hf hb (ze5 hm hpin' hE c [] _ _ _ _ w hN hKs (JOk.run hm hpin' hE hKs N) ⟨S,φ,hstart⟩ _ hfr)
theorem u9 {f:FuncId} {sp:PSpec T} {alt:CallSpec T} (h:POk T P f sp) (ha:zb2 T P f alt/\zj8 T P f alt/\yg7 alt):zb2 T P f (sp.toCall alt)/\zj8 T P f (sp.toCall alt)/\yg7 (sp.toCall alt):=⟨jb1 h ha.1,ha.2.1,wk1 ha.2.2⟩
end
end Go.X
