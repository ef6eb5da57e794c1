import Derived.Test.YtcepemagnfpmdaaGreatA9
import Derived.Test.YtcepemagnfpmdaaGreatA1
set_option linter.defProp false
namespace Go.X
open Go.RowKit Go.V Go.ChangeShapes Go.WideShapes Go.ChangeAt Go.Deep
inductive GoodV (T:Tab):(t:Ty)->den T.U t->Prop
 |int (k:IntKind) (x:Int) (h:k.min<=x/\x<=k.max):GoodV T (.int k) x
 |bool (b:Bool):GoodV T .bool b
 |str (s:ByteArray) (h:s.size<=maxLen):GoodV T .str s
 |list (e:Ty) (xs:List (den T.U e)) (hl:xs.length<=maxLen) (h: ∀x∈xs,∀c∈zd0 T e x,GoodV T c.t c.x):GoodV T (.list e) xs
structure Packs (T:Tab) (ct:Nat->List Ty):Prop where
 pack: ∀(i:Nat) (cl:List (Cell T.U)),cl.map (·.t)=ct i-> ∃x,T.pack i cl=some x
 size: ∀i,T.size i=(ct i).length
section
variable {T:Tab} {P:Program} {ct:Nat->List Ty} {H:Type} {enc:TypeId×Value->H} {w:World}
def lawRet {f:FuncId} {ps:List PT} {g:zo7 T ps->Option (zw7 T (zb5 ps) (zp8 T [.val .bool]))} (hok:zd9 T P f ⟨ps,[.val .bool],g⟩) (hio:zb5 ps= []) (hent: ∀x:zo7 T ps,zs7 T ps x= []) {x:zo7 T ps} {y:zw7 T (zb5 ps) (zp8 T [.val .bool])} (hy:g x=some y) (hl:yf3 T (zb5 ps) y=(true:Bool))
  {φ:Nat->RA} {vs:List Value} (hvs:VRL T w [] φ (yi1 T 0 ps x) vs):Calls P f vs.toArray w (vp3 w (.bool true)):=by
 have hio0:(zb5 ps).length=0:=by rw [hio];rfl
 refine (hok x y hy w [] φ vs hvs (fun b hb=>by cases hb) (fun k e hk=>by rw [show zs7 T (FnSpec.ps ⟨ps,[.val .bool],g⟩) x= [] from hent x] at hk;simp at hk) (fun j hj=>by
  have hj:j<(zb5 ps).length:=hj;omega) (fun j k hj=>by
  have hj:j<(zb5 ps).length:=hj;omega)).mono fun e w' hR=>?_
 cases e with
 |returned v=>
  obtain ⟨F1,H1,F1',S1,φ1,as1,us,g1,g2,rfl,g4,g5,g6⟩:=hR;have hchg:Chg [] w w':=by
   have:=g1.chg;rw [show zd3 φ (zb5 ps).length= [] by rw [hio0];rfl] at this;exact this
  refine ⟨hchg,?_⟩;have hlast:=(ya3 g4).1;rw [hl] at hlast
  match as1,hlast,us,g2 with
  | [a],hlast,[v],g2=>
   have hrd:jk0 T .bool a=some true:=hlast;exact (zg1 (φ:=φ1) (yb5 (t:=.bool) hrd g2.1 φ1))
  | [],hlast,_,_=>cases hlast
  |_::_::_,hlast,_,_=>cases hlast
 |panicked ch=>exact hR.elim
 |outgrown=>exact hR.elim
end
end Go.X
namespace Go.X
open Go.RowKit Go.V
structure PSpec (T:Tab) where
 ps:List Sh
 post:List PE
 rs:List Sh
 pv:Sh
 g:zd8 T ps->Option (zm3 T post×(zd8 T rs⊕zd8 T [pv]))
section
variable (T:Tab) (P:Program)
def POk (f:FuncId) (sp:PSpec T):Prop:= ∀x y,sp.g x=some y-> ∀(w:World) (S:List Nat) (φ:Nat->RA),Sim T w ⟨zd3 φ (za6 sp.ps),S,(List.range (za6 sp.ps)).map φ⟩ ⟨[],zg6 T id sp.ps x 0⟩ [] w S φ->
 ∀vs:List Value,VRL T w S φ (zc1 T id sp.ps x 0) vs->(∀a∈zc1 T id sp.ps x 0,okA (zg6 T id sp.ps x 0) a)->
 Calls P f vs.toArray w fun e w'=>match e with
  | .returned v=> ∃z,y.2=.inl z/\ ∃us,jb3 T sp.post sp.rs y.1 z w S φ (za6 sp.ps) w' us/\v=zz2 us
  | .panicked ch=> ∃z,y.2=.inr z/\ ∃u,ch= [{v:=u,recovered:=false}]/\jb3 T sp.post [sp.pv] y.1 z w S φ (za6 sp.ps) w' [u]
  | .outgrown=>False
def PSpec.toCall {T:Tab} (sp:PSpec T) (alt:CallSpec T):CallSpec T where
 call:=fun as H K Kp=>match zp6 T H sp.ps as [] with
  |some (x,l)=>match zd5 (zd2 l)&&yf6 T H (zd2 l) sp.post with
   |true=>za0 (sp.g x) fun y=>match y.2 with
    | .inl z=>K (zk2 T (zc1 T (σJ (zd2 l) H.length) sp.rs z (sp.post.length+ze6 sp.post))) (zg0 T H (zd2 l) (mkP T (σJ (zd2 l) H.length) sp.post y.1 sp.post.length)++(zy3 T (σJ (zd2 l) H.length) sp.post y.1 sp.post.length++zg6 T (σJ (zd2 l) H.length) sp.rs z (sp.post.length+ze6 sp.post)))
    | .inr z=>Kp (zk2 T (zc1 T (σJ (zd2 l) H.length) [sp.pv] z (sp.post.length+ze6 sp.post))) (zg0 T H (zd2 l) (mkP T (σJ (zd2 l) H.length) sp.post y.1 sp.post.length)++(zy3 T (σJ (zd2 l) H.length) sp.post y.1 sp.post.length++zg6 T (σJ (zd2 l) H.length) [sp.pv] z (sp.post.length+ze6 sp.post)))
   |false=>none
  |none=>alt.call as H K Kp
 q:=alt.q
 isq:=alt.isq
 wr:=fun as H=>match zp6 T H sp.ps as [] with|some (_,l)=>zd2 l|none=>alt.wr as H
def ke1 (nl:Nl) (post:List PE) (rs:List Sh) (pv:Sh) (a:AV T.U) (st:St T):Option (zm3 T post×(zd8 T rs⊕zd8 T [pv])):=
 match rdP T (ze7 T nl.bn st.H) post 0 (zn3 post 0) with
 |some (y,l)=>match zp6 T (ze7 T nl.bn st.H) [pv] [a] l with
  |some (z,l')=>match zl3 l' with|true=>some (y,.inr z)|false=>none
  |none=>none
 |none=>none
def qy9 (fn:Func) (nl:Nl) (post:List PE) (rs:List Sh) (pv:Sh):Ks T (zm3 T post×(zd8 T rs⊕zd8 T [pv])):=
 ⟨fun st=>za0 (yc9 T P fn nl post rs st) fun y=>some (y.1,.inl y.2),fun _ _=>none,fun st=>za0 (yc9 T P fn nl post rs st) fun y=>some (y.1,.inl y.2),ke1 T nl post rs pv⟩
noncomputable def kc9 (C:Ctx T) (cuts:List (Pos×Cut)) (fn:Func) (c:Code) (nl:Nl) (ps:List Sh) (post:List PE) (rs:List Sh) (pv:Sh) (m:Nat) (x:zd8 T ps):Option (zm3 T post×(zd8 T rs⊕zd8 T [pv])):=
 evC P C fn.ntmps cuts (run P C fn.ntmps cuts c (qy9 T P fn nl post rs pv) m) c [] (qy9 T P fn nl post rs pv) ⟨zy9 T (zc1 T id ps x 0) 0,zg6 T id ps x 0⟩
end
section
variable {T:Tab} {P:Program} {w w':World} {S S':List Nat} {φ φ':Nat->RA} {w0:World} {S0:Ow} {F:AF T} {H:List (Ent T.U)} {F':PF}
def yx7 {f:FuncId} {sp:PSpec T} {alt:CallSpec T} (hok:POk T P f sp) (ha:w8 T P f alt):w8 T P f (sp.toCall alt):=by
 intro R as H K Kp r hr w0 S0 F F' w S φ h vs hvs has;simp only [PSpec.toCall] at hr;split at hr
 ·rename_i x l hx;split at hr
  ·rename_i hb;simp only [X3] at hb;obtain ⟨hn,hro⟩:=hb;obtain ⟨y,hy,hK⟩:=za4 hr;obtain ⟨new,g1,g2,g3⟩:=ze1 sp.ps as [] l x hx;have hl:l=new.map some:=by rw [g1.eq];rfl
   have hids:zd2 l=new:=by rw [hl,yh1]
   rw [hids] at hn hro hK;have hno:zl3 l=true:=by
    rw [hl];clear hK hro hids hx g1 g2 g3 hl;induction new with
    |nil=>rfl
    |cons i r ih=>
     rw [zd5,X3,U4] at hn;rw [W4,zl3,ih hn.2,Bool.and_true,U4];cases hm:qa2 i (r.map some) with
     |false=>rfl
     |true=>
      have:=yb3.1 hm;obtain ⟨j,hj,e⟩:=W6.1 this;simp only [X0] at e;subst e;rw [zb7.2 hj] at hn;exact absurd hn.1 (by simp)
   obtain ⟨q1,q2⟩:=g3 _ (yd3 hno);obtain ⟨hlen,hrow⟩:=zq9 hro;have hnewlen:new.length=za6 sp.ps:=g2;obtain ⟨c0,x0,p0⟩:=S0;have hs:=(h.unpin.src (l:=l) hno (fun k hk=>by simp at hk) (fun i e hi he j hj=>by
    rw [hl] at hi;obtain ⟨i',hi',e'⟩:=W6.1 hi;simp only [X0] at e';subst e';obtain ⟨e0,h1,_,h3⟩:=g1.ents i' hi';rw [he] at h1;simp only [X0] at h1;subst h1;exact h3 j hj))
   rw [show zh7 T H (fun i=>yn8 i l) l=ze5 T H (fun i=>yn8 i l) new by rw [hl,zu1]] at hs;have hs:=(hs.imp q2).start;rw [zc6,<-hnewlen] at hs;have hφc: ∀k i,new[k]?=some i->φO l φ k=φ i:=fun k i hk=>φO_at (by rw [hl,W0,hk];rfl);have hvs':VRL T w S (φO l φ) (zc1 T id sp.ps x 0) vs:=q1.vrl (VRL.ren T (fun i hi=>φO_idx (g1.ids i hi)) hvs);have hoks: ∀a∈zc1 T id sp.ps x 0,okA (zg6 T id sp.ps x 0) a:=fun a ha=>zd7 (zq5 id _ _ _ a ha) fun i hi=>by
    have hi:=zg7 ha i hi;rw [show v4 (zc1 T id sp.ps x 0)=_ from q1.ids] at hi;rw [zc6,<-hnewlen];refine zk3 (fun j hj=>?_) i hi;have:=(X2.1 (zl0 (g1.ids j hj))).1;rw [hl,U5] at this;rw [hl];exact this
   have step: ∀(rs:List Sh) (z:zd8 T rs) (w':World) (us:List Value),jb3 T sp.post rs y.1 z w S (φO l φ) (za6 sp.ps) w' us->
     ∃S1 φ2,Sim T w0 ⟨c0,x0,p0⟩ ⟨F,zg0 T H new (mkP T (σJ new H.length) sp.post y.1 sp.post.length)++(zy3 T (σJ new H.length) sp.post y.1 sp.post.length++zg6 T (σJ new H.length) rs z (sp.post.length+ze6 sp.post))⟩ F' w' S1 φ2/\VR T w' S1 φ2 (zk2 T (zc1 T (σJ new H.length) rs z (sp.post.length+ze6 sp.post))) (zz2 us)/\
      okA (zg0 T H new (mkP T (σJ new H.length) sp.post y.1 sp.post.length)++(zy3 T (σJ new H.length) sp.post y.1 sp.post.length++zg6 T (σJ new H.length) rs z (sp.post.length+ze6 sp.post))) (zk2 T (zc1 T (σJ new H.length) rs z (sp.post.length+ze6 sp.post))):=by
    intro rs z w' us hans;obtain ⟨F1,S1,φ1,k1,k2,k3⟩:=hans;rw [<-hnewlen] at k1;obtain ⟨φ2,m1,m2⟩:=h.join hn (fun i hi=>by obtain ⟨e,a,b,_⟩:=g1.ents i hi;exact ⟨e,a,b⟩) hφc k1 (by rw [zv5,hlen]) (fun k i e t ys hk hp=>hrow k i e t hk (yl3 hp));rw [jd6,V0,yr7,zj3] at m1;have hv2:VRL T w' S1 φ2 (zc1 T (σJ new H.length) rs z (sp.post.length+ze6 sp.post)) us:=by
     rw [<-zf8];rw [zv5,X9,zw5,zc6] at m2;generalize zc1 T id rs z (sp.post.length+ze6 sp.post)=as9 at k2 k3;clear m1 k1;induction as9 generalizing us with
     |nil=>cases us<;>exact k2
     |cons a r ih=>
      match us,k2 with
      |u::us,k2=>
       rw [zi1];exact ⟨m2 a u k2.1 fun i hi=>k3 i (by rw [v4];exact X4.2 (.inl hi)),ih _ k2.2 fun i hi=>k3 i (by rw [v4];exact X4.2 (.inr hi))⟩
    refine ⟨S1,φ2,m1,yb6 hv2,?_⟩;have hlt: ∀i∈v4 (zc1 T (σJ new H.length) rs z (sp.post.length+ze6 sp.post)),i<(zg0 T H new (mkP T (σJ new H.length) sp.post y.1 sp.post.length)++(zy3 T (σJ new H.length) sp.post y.1 sp.post.length++zg6 T (σJ new H.length) rs z (sp.post.length+ze6 sp.post))).length:=by
     rw [<-zf8];refine zk3 fun j hj=>?_;have hj:=k3 j hj;rw [X9,X9,za1,zw5,zc6];by_cases hlt:j<new.length
     ·have hs:=σJ_lo (n:=H.length) hlt;obtain ⟨e,h1,_,_⟩:=g1.ents _ (X6 hs);have:=(X2.1 h1).1;omega
     ·rw [σJ_hi (by omega)];omega
    have hne:zh0 (zk2 T (zc1 T (σJ new H.length) rs z (sp.post.length+ze6 sp.post)))=true:=by
     unfold zk2;split
     ·rename_i a hl;exact zq5 (σJ new H.length) rs z _ a (by rw [hl];simp)
     ·rfl
    refine zd7 hne fun i hi=>hlt i ?_;unfold zk2 at hi;split at hi
    ·rename_i a hl;rw [hl,v4];exact X4.2 (.inl hi)
    ·rw [AV.ids] at hi;exact hi
   refine (hok x y hy w S (φO l φ) (by rw [<-hnewlen];exact hs) vs hvs' hoks).mono fun e w' hR=>?_;cases e with
   |returned v=>
    obtain ⟨z,hz,us,hans,rfl⟩:=hR;rw [hz] at hK;exact ⟨_,_,hK,step _ z w' us hans⟩
   |panicked ch=>
    obtain ⟨z,hz,u,rfl,hans⟩:=hR;rw [hz] at hK;exact ⟨_,_,hK,u,rfl,step _ z w' [u] hans⟩
   |outgrown=>exact hR.elim
  ·cases hr
 ·exact ha as H K Kp r hr w0 S0 F F' w S φ h vs hvs has
def ge1 {sp:PSpec T} {alt:CallSpec T} (ha:zs4 alt):zs4 (sp.toCall alt):=by
 intro R as H K Kp r hr;simp only [PSpec.toCall] at hr;split at hr
 ·rename_i x l hx;split at hr
  ·rename_i hb;obtain ⟨y,hy,hK⟩:=za4 hr;simp only [X3] at hb;obtain ⟨hlen,hrow⟩:=zq9 hb.2;have hw:(PSpec.toCall sp alt).wr as H=zd2 l:=by simp only [PSpec.toCall,hx]
   rw [hw];have hl:(mkP T (σJ (zd2 l) H.length) sp.post y.1 sp.post.length).length=(zd2 l).length:=by rw [zv5,hlen]
   have keeps: ∀(N:List (Ent T.U)),Keeps T (zd2 l) H (zg0 T H (zd2 l) (mkP T (σJ (zd2 l) H.length) sp.post y.1 sp.post.length)++N):=by
    intro N;refine ⟨by rw [X9,za1];omega,fun e he hn=>?_,fun e ty t ys he h=>?_⟩
    ·rw [X8 (by rw [za1];exact he)];obtain ⟨f,hf⟩: ∃f,(zg0 T H (zd2 l) (mkP T (σJ (zd2 l) H.length) sp.post y.1 sp.post.length))[e]?=some f:=⟨_,Y0 (by rw [za1];exact he)⟩;rcases zg2 _ _ H hl hf with ⟨k,g1,_⟩|⟨_,g2⟩
     ·exact absurd (X6 g1) hn
     ·rw [hf,g2]
    ·rw [X8 (by rw [za1];exact he)] at h;rcases zg2 _ _ H hl h with ⟨k,g1,g2⟩|⟨_,g2⟩
     ·exact hrow k e ty t g1 (yl3 g2)
     ·exact ⟨ys,g2⟩
   cases hz:y.2 with
   |inr z=>
    rw [hz] at hK;exact .inr ⟨_,_,hK,keeps _,fun K' Kp'=>by simp only [PSpec.toCall,hx,hb.1,hb.2,V7,hy,za0,hz]⟩
   |inl z=>
    rw [hz] at hK;exact .inl ⟨_,_,hK,keeps _,fun K' Kp'=>by simp only [PSpec.toCall,hx,hb.1,hb.2,V7,hy,za0,hz]⟩
  ·cases hr
 ·rename_i hx;have hw:(PSpec.toCall sp alt).wr as H=alt.wr as H:=by simp only [PSpec.toCall,hx]
  rcases ha as H K Kp r hr with ⟨a,H1,h1,h2,h3⟩|⟨a,H1,h1,h2,h3⟩
  ·exact .inl ⟨a,H1,h1,by rw [hw];exact h2,fun K' Kp'=>by simp only [PSpec.toCall,hx,h3]⟩
  ·exact .inr ⟨a,H1,h1,by rw [hw];exact h2,fun K' Kp'=>by simp only [PSpec.toCall,hx,h3]⟩
def jk3 {C:Ctx T} {f:FuncId} {fn:Func} {c:Code} {cuts:List (Pos×Cut)} {ps rs:List Sh} {nl:Nl} {post:List PE} {pv:Sh} {g:zd8 T ps->Option (zm3 T post×(zd8 T rs⊕zd8 T [pv]))} (hm:P.follows .mixedOrders=true) (hE:j9 T P C.E)
  (hf:P.funcs[f]?=some fn) (hb:fn.body=some c) (hs:Nat.ble ps.length fn.ntmps=true) (hpin:Nat.ble (za6 ps) C.pin=true) (hpost:Nat.beq post.length (za6 ps)=true)
  (hg: ∀x y,g x=some y-> ∃m,kc9 T P C cuts fn c nl ps post rs pv m x=some y):POk T P f ⟨ps,post,rs,pv,g⟩:=by
 intro x y hy w S φ hsim vs hvs hoks;obtain ⟨N,hN⟩:=hg x y hy;have hpost:=X1 hpost;have hall:(zc1 T id ps x 0).length=ps.length:=by
  have: ∀(l:List Sh) (x:zd8 T l) (k:Nat),(zc1 T id l x k).length=l.length:=by
   intro l;induction l with
   |nil=>intro x k;rfl
   |cons s r ih=>intro x k;exact congrArg (· +1) (ih x.2 _)
  exact this ps x 0
 have hlen:vs.length=ps.length:=by rw [<-hvs.len T];exact hall
 have hsz:vs.length<=fn.ntmps:=by rw [hlen];exact Y1 hs
 have hfr:Fr fn.ntmps [] (jb6 vs 0) {tmps:=vs.toArray++Array.replicate (fn.ntmps-vs.toArray.size) undef,defers:= []}:=by
  refine ⟨by simp;omega,rfl,fun i v hv=>?_⟩;obtain ⟨_,h2⟩:=yg5 vs 0 i v hv;simp only [Nat.sub_zero] at h2;have hi:=(X2.1 h2).1;refine ⟨?_,by omega⟩;rw [Y7,Array.getElem?_append_left (by simpa using hi)];simp [h2]
 have hstart:=hsim.slots hvs hoks;have hpin':((List.range (za6 ps)).map φ).length<=C.pin:=by simpa using Y1 hpin
 have key: ∀st y',yc9 T P fn nl post rs st=some y'-> ∀F1 w1,zc5 T w ⟨zd3 φ (za6 ps),S,(List.range (za6 ps)).map φ⟩ st F1 w1-> ∀a,Fr fn.ntmps [] F1 a-> ∃v,(results fn a.tmps).run P w1=.ok v w1/\
   ∃us,jb3 T post rs y'.1 y'.2 w S φ (za6 ps) w1 us/\v=zz2 us:=by
  intro st0 y' hst F1 w1 hsm0 a ha;exact yr6 hpost hst hsm0 ha
 have hKs:KsOk (bodyPost P fn fun e w'=>match e with
   | .returned v=> ∃z,y.2=.inl z/\ ∃us,jb3 T post rs y.1 z w S φ (za6 ps) w' us/\v=zz2 us
   | .panicked ch=> ∃z,y.2=.inr z/\ ∃u,ch= [{v:=u,recovered:=false}]/\jb3 T post [pv] y.1 z w S φ (za6 ps) w' [u]
   | .outgrown=>False) fn.ntmps [] w ⟨zd3 φ (za6 ps),S,(List.range (za6 ps)).map φ⟩ y (qy9 T P fn nl post rs pv):=by
  refine ⟨?_,fun i st h=>(by cases h),?_,fun a st h=>?_⟩
  ·intro st hst F1 w1 hs1 a ha;obtain ⟨y',hy',he⟩:=za4 hst;simp only [X0] at he;obtain ⟨v,h1,us,h2,h3⟩:=key st y' hy' F1 w1 hs1 a ha;subst he;exact ⟨ha.defers,v,h1,_,rfl,us,h2,h3⟩
  ·intro st hst F1 w1 hs1 a ha;obtain ⟨y',hy',he⟩:=za4 hst;simp only [X0] at he;obtain ⟨v,h1,us,h2,h3⟩:=key st y' hy' F1 w1 hs1 a ha;subst he;exact ⟨ha.defers,v,h1,_,rfl,us,h2,h3⟩
  ·intro F1 w1 S1 φ1 u hsm hvr hok act ha;have h:ke1 T nl post rs pv a st=some y:=h;obtain ⟨φ1,hsm,hvr,_⟩:=zh2 nl.bn hsm (as:= [a]) (us:= [u]) ⟨hvr,trivial⟩ (fun i hi=>hok.1 i (by simpa [v4] using hi));unfold ke1 at h;split at h<;>try (cases h;done)
   rename_i y1 l1 h1;split at h<;>try (cases h;done)
   rename_i z l2 h2;split at h<;>try (cases h;done)
   rename_i hn;simp only [X0] at h;subst h;exact ⟨ha.defers,z,rfl,u,rfl,qx8 hpost h1 h2 hn hsm hvr⟩
 exact calls_of_wp hf hb (ze9 hm hpin' hE c [] _ _ _ _ w hN hKs (JOk.run hm hpin' hE hKs N) ⟨S,φ,hstart⟩ _ hfr)
def yh2 {f:FuncId} {sp:PSpec T} {alt:CallSpec T} (h:POk T P f sp) (ha:w8 T P f alt/\zg8 T P f alt/\zs4 alt):w8 T P f (sp.toCall alt)/\zg8 T P f (sp.toCall alt)/\zs4 (sp.toCall alt):=⟨yx7 h ha.1,ha.2.1,ge1 ha.2.2⟩
end
end Go.X
namespace Go.X
open Go.RowKit Go.V
section
variable {T:Tab} {P:Program} {w w':World} {S S':List Nat} {φ φ':Nat->RA} {w0:World} {S0:Ow} {F:AF T} {H:List (Ent T.U)} {F':PF}
def qs8 {ps:List Sh} {post:List PE} {as:List (AV T.U)} {x:zd8 T ps} {l:Src} (hx:zp6 T H ps as []=some (x,l)) (hn:zd5 (zd2 l)=true) (hro:yf6 T H (zd2 l) post=true) (h:Sim T w0 S0 ⟨F,H⟩ F' w S φ) {vs:List Value} (hvs:VRL T w S φ as vs):
  ∃φ',Sim T w ⟨zd3 φ' (za6 ps),S,(List.range (za6 ps)).map φ'⟩ ⟨[],zg6 T id ps x 0⟩ [] w S φ'/\VRL T w S φ' (zc1 T id ps x 0) vs/\(∀a∈zc1 T id ps x 0,okA (zg6 T id ps x 0) a)/\
   ∀(y1:zm3 T post) (rs:List Sh) (z:zd8 T rs) (w':World) (us:List Value),jb3 T post rs y1 z w S φ' (za6 ps) w' us->
    ∃S1 φ2,Sim T w0 S0 ⟨F,zg0 T H (zd2 l) (mkP T (σJ (zd2 l) H.length) post y1 post.length)++(zy3 T (σJ (zd2 l) H.length) post y1 post.length++zg6 T (σJ (zd2 l) H.length) rs z (post.length+ze6 post))⟩ F' w' S1 φ2/\VR T w' S1 φ2 (zk2 T (zc1 T (σJ (zd2 l) H.length) rs z (post.length+ze6 post))) (zz2 us)/\
     okA (zg0 T H (zd2 l) (mkP T (σJ (zd2 l) H.length) post y1 post.length)++(zy3 T (σJ (zd2 l) H.length) post y1 post.length++zg6 T (σJ (zd2 l) H.length) rs z (post.length+ze6 post))) (zk2 T (zc1 T (σJ (zd2 l) H.length) rs z (post.length+ze6 post))):=by
 obtain ⟨new,g1,g2,g3⟩:=ze1 ps as [] l x hx;have hl:l=new.map some:=by rw [g1.eq];rfl
 have hids:zd2 l=new:=by rw [hl,yh1]
 rw [hids] at hn hro⊢;have hno:zl3 l=true:=by
  rw [hl];clear hro hids hx g1 g2 g3 hl;induction new with
  |nil=>rfl
  |cons i r ih=>
   rw [zd5,X3,U4] at hn;rw [W4,zl3,ih hn.2,Bool.and_true,U4];cases hm:qa2 i (r.map some) with
   |false=>rfl
   |true=>
    have:=yb3.1 hm;obtain ⟨j,hj,e⟩:=W6.1 this;simp only [X0] at e;subst e;rw [zb7.2 hj] at hn;exact absurd hn.1 (by simp)
 obtain ⟨q1,q2⟩:=g3 _ (yd3 hno);obtain ⟨hlen,hrow⟩:=zq9 hro;have hnewlen:new.length=za6 ps:=g2;obtain ⟨c0,x0,p0⟩:=S0;have hs:=(h.unpin.src (l:=l) hno (fun k hk=>by simp at hk) (fun i e hi he j hj=>by
  rw [hl] at hi;obtain ⟨i',hi',e'⟩:=W6.1 hi;simp only [X0] at e';subst e';obtain ⟨e0,h1,_,h3⟩:=g1.ents i' hi';rw [he] at h1;simp only [X0] at h1;subst h1;exact h3 j hj))
 rw [show zh7 T H (fun i=>yn8 i l) l=ze5 T H (fun i=>yn8 i l) new by rw [hl,zu1]] at hs;have hs:=(hs.imp q2).start;rw [zc6,<-hnewlen] at hs;have hφc: ∀k i,new[k]?=some i->φO l φ k=φ i:=fun k i hk=>φO_at (by rw [hl,W0,hk];rfl);have hvs':VRL T w S (φO l φ) (zc1 T id ps x 0) vs:=q1.vrl (VRL.ren T (fun i hi=>φO_idx (g1.ids i hi)) hvs);have hoks: ∀a∈zc1 T id ps x 0,okA (zg6 T id ps x 0) a:=fun a ha=>zd7 (zq5 id _ _ _ a ha) fun i hi=>by
  have hi:=zg7 ha i hi;rw [show v4 (zc1 T id ps x 0)=_ from q1.ids] at hi;rw [zc6,<-hnewlen];refine zk3 (fun j hj=>?_) i hi;have:=(X2.1 (zl0 (g1.ids j hj))).1;rw [hl,U5] at this;rw [hl];exact this
 refine ⟨φO l φ,by rw [<-hnewlen];exact hs,hvs',hoks,?_⟩;intro y1 rs z w' us hans;obtain ⟨F1,S1,φ1,k1,k2,k3⟩:=hans;rw [<-hnewlen] at k1;obtain ⟨φ2,m1,m2⟩:=h.join hn (fun i hi=>by obtain ⟨e,a,b,_⟩:=g1.ents i hi;exact ⟨e,a,b⟩) hφc k1 (by rw [zv5,hlen]) (fun k i e t ys hk hp=>hrow k i e t hk (yl3 hp));rw [jd6,V0,yr7,zj3] at m1;have hv2:VRL T w' S1 φ2 (zc1 T (σJ new H.length) rs z (post.length+ze6 post)) us:=by
  rw [<-zf8];rw [zv5,X9,zw5,zc6] at m2;generalize zc1 T id rs z (post.length+ze6 post)=as9 at k2 k3;clear m1 k1;induction as9 generalizing us with
  |nil=>cases us<;>exact k2
  |cons a r ih=>
   match us,k2 with
   |u::us,k2=>
    rw [zi1];exact ⟨m2 a u k2.1 fun i hi=>k3 i (by rw [v4];exact X4.2 (.inl hi)),ih _ k2.2 fun i hi=>k3 i (by rw [v4];exact X4.2 (.inr hi))⟩
 refine ⟨S1,φ2,m1,yb6 hv2,?_⟩;have hlt: ∀i∈v4 (zc1 T (σJ new H.length) rs z (post.length+ze6 post)),i<(zg0 T H new (mkP T (σJ new H.length) post y1 post.length)++(zy3 T (σJ new H.length) post y1 post.length++zg6 T (σJ new H.length) rs z (post.length+ze6 post))).length:=by
  rw [<-zf8];refine zk3 fun j hj=>?_;have hj:=k3 j hj;rw [X9,X9,za1,zw5,zc6];by_cases hlt:j<new.length
  ·have hs:=σJ_lo (n:=H.length) hlt;obtain ⟨e,h1,_,_⟩:=g1.ents _ (X6 hs);have:=(X2.1 h1).1;omega
  ·rw [σJ_hi (by omega)];omega
 have hne:zh0 (zk2 T (zc1 T (σJ new H.length) rs z (post.length+ze6 post)))=true:=by
  unfold zk2;split
  ·rename_i a hl;exact zq5 (σJ new H.length) rs z _ a (by rw [hl];simp)
  ·rfl
 refine zd7 hne fun i hi=>hlt i ?_;unfold zk2 at hi;split at hi
 ·rename_i a hl;rw [hl,v4];exact X4.2 (.inl hi)
 ·rw [AV.ids] at hi;exact hi
def Sim.fewer {c x:List Nat} {p q:List RA} {st:St T} (h:Sim T w0 ⟨c,x,p⟩ st F' w S φ) (hq: ∀(k:Nat) (r:RA),q[k]?=some r-> ∃r',p[k]?=some r'/\RSame r' r):Sim T w0 ⟨c,x,q⟩ st F' w S φ:=
 ⟨h.fr,h.ids,h.chg,h.own,h.ex,h.lives,fun k r hk=>(hq k r hk).elim fun r' q=>⟨(h.pins k r' q.1).1.trans q.2,(h.pins k r' q.1).2⟩,h.ents,h.eids,h.apart⟩
def Sim.pinned {c x:List Nat} {p:List RA} {st:St T} (h:Sim T w0 ⟨c,x,p⟩ st F' w S φ) {m:Nat} (hm:m<=st.H.length):Sim T w0 ⟨c,x,(List.range m).map φ⟩ st F' w S φ:=
 ⟨h.fr,h.ids,h.chg,h.own,h.ex,h.lives,fun k r hk=>by
  have hlt:=(X2.1 hk).1;simp at hlt;simp [hlt] at hk;exact ⟨.of hk,by omega⟩,h.ents,h.eids,h.apart⟩
end
structure DSpec (T:Tab) where
 ps:List Sh
 rv:Sh
 post:List PE
 g:zd8 T (ps++ [rv])->Option (zm3 T post)
def zx7:Value->FrameMode
 | .nilIface=>.returning
 |v=>.panicking [{v:=v,recovered:=false}]
def DOk (T:Tab) (P:Program) (f:FuncId) (sp:DSpec T):Prop:=
 ∀x y,sp.g x=some y-> ∀(w:World) (S:List Nat) (φ:Nat->RA),Sim T w ⟨zd3 φ (za6 (sp.ps++ [sp.rv])),S,(List.range (za6 (sp.ps++ [sp.rv]))).map φ⟩ ⟨[],zg6 T id (sp.ps++ [sp.rv]) x 0⟩ [] w S φ->
 ∀(vs:List Value) (v:Value),VRL T w S φ (zc1 T id (sp.ps++ [sp.rv]) x 0) (vs++ [v])->(∀a∈zc1 T id (sp.ps++ [sp.rv]) x 0,okA (zg6 T id (sp.ps++ [sp.rv]) x 0) a)->
 CallsD P f vs.toArray (zx7 v) w fun e u' w'=>(∃v0,e=.returned v0)/\u'=(jt1 (zx7 v)).2/\jb3 T sp.post [] y () w S φ (za6 (sp.ps++ [sp.rv])) w' []
section
variable {T:Tab} (P:Program)
def ju6 (post:List PE) (st:St T):Option (zm3 T post):=match rdP T st.H post 0 (zn3 post 0) with|some (y,l)=>(match zl3 l with|true=>some y|false=>none)|none=>none
def js2 (post:List PE):Ks T (zm3 T post):=⟨ju6 post,fun _ _=>none,ju6 post,fun _ _=>none⟩
noncomputable def jv8 (C:Ctx T) (fn:Func) (c:Code) (ps:List Sh) (rv:Sh) (post:List PE) (x:zd8 T (ps++ [rv])):Option (zm3 T post):=
 match c with
 | .seq (.region _ ops false) rest=>match vo8 ops,(zc1 T id (ps++ [rv]) x 0)[ps.length]? with
  |some d,some a=>(match zj7 fn.ntmps (some d) with
   |true=>qr0 (fun o st K=>stepA P C o st K fun _ _=>none) ops fn.ntmps (evC P C fn.ntmps [] (fun _ _=>none) rest [] (js2 post)) (ops.toList.drop 1) ⟨(d,a)::zy9 T ((zc1 T id (ps++ [rv]) x 0).take ps.length) 0,zg6 T id (ps++ [rv]) x 0⟩
   |false=>none)
  |_,_=>none
 |_=>none
def yz8 {R:Type} (sp:DSpec T) (as:List (AV T.U)) (H:List (Ent T.U)) (K:List (Ent T.U)->Option R):Option R:=
 match zp6 T H (sp.ps++ [sp.rv]) as [] with
 |some (x,l)=>match zd5 (zd2 l)&&yf6 T H (zd2 l) sp.post with
  |true=>za0 (sp.g x) fun y=>K (zg0 T H (zd2 l) (mkP T (σJ (zd2 l) H.length) sp.post y sp.post.length)++(zy3 T (σJ (zd2 l) H.length) sp.post y sp.post.length++zg6 T (σJ (zd2 l) H.length) [] () (sp.post.length+ze6 sp.post)))
  |false=>none
 |none=>none
structure DefP (T:Tab) where
 depth:Nat
 sl:Nat
 live:List Nat
 pin:Nat
 g:FuncId
 cp:List (Nat×Nat)
 dr:DSpec T
 dp:DSpec T
def ye6 {U:Nat->Type}:List (Nat×Nat)->List (AV U)
 | []=> []
 |(i,o)::r=>.ptr i o::ye6 r
def jt5 {U:Nat->Type}:List (Nat×Nat)->List (AV U)->Bool
 | [],[]=>true
 |(i,o)::r,.ptr j p::s=>Nat.beq i j&&(Nat.beq o p&&jt5 r s)
 |_,_=>false
def ga5 {U:Nat->Type}:AV U->Bool| .ifc _ _=>true|_=>false
def qy8 (fn:Func) (nl:Nl) (post:List PE) (rs:List Sh) (D:DefP T):Ks T (zm3 T post×zd8 T rs):=
 let ret:=fun (st:St T)=>yz8 D.dr (ye6 D.cp++ [.raw .nilIface]) st.H fun H1=>yc9 T P fn nl post rs ⟨st.F,H1⟩
 ⟨ret,fun _ _=>none,ret,fun a st=>match ga5 a with|true=>yz8 D.dp (ye6 D.cp++ [a]) st.H fun H1=>yc9 T P fn nl post rs ⟨st.F,H1⟩|false=>none⟩
def vz1:Op->Bool| .defer _=>false|_=>true
def vn9 (o:Oper):Option Nat:=match o.op with| .defer c=>(match c.callee,c.args.toList,o.dst,o.guard with| .value (.tmp t),[],none,none=>some t|_,_,_,_=>none)|_=>none
def vx4 (ops:Array Oper) (sl:Nat):Bool:=(ops.toList.dropLast.all fun o=>vz1 o.op)&&(match ops.toList.getLast? with|some o=>(match vn9 o with|some t=>Nat.beq t sl|none=>false)|none=>false)
def va8 {R:Type} (C:Ctx T) (Kp:AV T.U->St T->Option R) (o:Oper) (st:St T) (K:St T->Option R):Option R:=match vz1 o.op with|true=>stepA P C o st K Kp|false=>(match vn9 o with|some t=>(match st.F.get T t with|some (.fn _ [] _)=>K st|_=>none)|none=>none)
def Ctx.at (C:Ctx T) (m:Nat):Ctx T:=⟨C.ty,C.E,m,C.ms,C.lay,C.dr,C.pm⟩
noncomputable def va7 (C:Ctx T) (cuts:List (Pos×Cut)) (fn:Func) (B:Code) (nl:Nl) (post:List PE) (rs:List Sh) (D:DefP T) (m:Nat) (st:St T):Option (zm3 T post×zd8 T rs):=
 match gd2 T C.pin D.live st with
 |some st2=>match st2.F.get T D.sl with
  |some (.fn (.func g) [] caps)=>match Nat.beq g D.g&&(zq2 P g&&(jt5 D.cp caps&&((D.cp.all fun p=>Nat.blt p.1 D.pin)&&(Nat.ble C.pin D.pin&&Nat.ble D.pin st2.H.length)))) with
   |true=>evC P (C.at D.pin) fn.ntmps cuts (run P (C.at D.pin) fn.ntmps cuts B (qy8 P fn nl post rs D) m) B [] (qy8 P fn nl post rs D) st2
   |false=>none
  |_=>none
 |none=>none
noncomputable def vx5 (C:Ctx T) (cuts:List (Pos×Cut)) (fn:Func) (nl:Nl) (post:List PE) (rs:List Sh) (D:DefP T) (m:Nat) (c:Code) (st:St T):Option (zm3 T post×zd8 T rs):=
 match c with
 | .seq (.region _ ops false) B=>match vx4 ops D.sl with
  |true=>qr0 (va8 P C fun _ _=>none) ops fn.ntmps (va7 P C cuts fn B nl post rs D m) ops.toList st
  |false=>none
 |_=>none
noncomputable def evS {R:Type} (C:Ctx T) (n:Nat) (K:Ks T R) (K2:Code->St T->Option R):Nat->Code->St T->Option R
 |0,c,st=>K2 c st
 |k+1,.seq x y,st=>evC P C n [] (fun _ _=>none) x [] (K.behind fun st=>evS C n K K2 k y st) st
 |_+1,_,_=>none
noncomputable def vq3 (C:Ctx T) (cuts:List (Pos×Cut)) (fn:Func) (c:Code) (nl:Nl) (ps:List Sh) (post:List PE) (rs:List Sh) (D:DefP T) (m:Nat) (x:zd8 T ps):Option (zm3 T post×zd8 T rs):=
 evS P C fn.ntmps (jj8 T P fn nl post rs) (vx5 P C cuts fn nl post rs D m) D.depth c ⟨zy9 T (zc1 T id ps x 0) 0,zg6 T id ps x 0⟩
end
section
variable {T:Tab} {P:Program} {w w':World} {S S':List Nat} {φ φ':Nat->RA} {w0:World} {S0:Ow} {F:AF T} {H:List (Ent T.U)} {F':PF}
def VRL.snoc_inv {as:List (AV T.U)} {a:AV T.U}: ∀ {vs:List Value} {v:Value},VRL T w S φ (as++ [a]) (vs++ [v])->VRL T w S φ as vs/\VR T w S φ a v:=by
 induction as with
 |nil=>
  intro vs v h
  match vs,h with
  | [],h=>exact ⟨trivial,h.1⟩
  |u::vs,h=>exact absurd (h.2.len T) (by simp)
 |cons b r ih=>
  intro vs v h
  match vs,h with
  | [],h=>exact absurd (VRL.len T h) (by simp)
  |u::vs,h=>obtain ⟨h1,h2⟩:=ih h.2;exact ⟨⟨h.1,h1⟩,h2⟩
def jh8 (σ:Nat->Nat): ∀(l:List Sh) (x:zd8 T l) (k:Nat),(zc1 T σ l x k).length=l.length
 | [],x,k=>rfl
 |s::r,x,k=>congrArg (· +1) (jh8 σ r x.2 _)
def vg4 {fn:Func} (hres:fn.results.isEmpty=true) (a:Array Value) (w:World):(results fn a).run P w=.ok (.tuple #[]) w:=by
 have:fn.results= #[]:=by simpa using hres
 unfold results;rw [this,Array.mapM_eq_mapM_toList];simp [Sem.run_bind,Sem.run_map]
def jt7 {C:Ctx T} {f:FuncId} {fn:Func} {c:Code} {ps:List Sh} {rv:Sh} {post:List PE} {g:zd8 T (ps++ [rv])->Option (zm3 T post)} (hm:P.follows .mixedOrders=true) (hE:j9 T P C.E)
  (hf:P.funcs[f]?=some fn) (hb:fn.body=some c) (hs:Nat.ble ps.length fn.ntmps=true) (hpin:Nat.ble (za6 (ps++ [rv])) C.pin=true) (hpost:Nat.beq post.length (za6 (ps++ [rv]))=true) (hres:fn.results.isEmpty=true)
  (hg: ∀x y,g x=some y->jv8 P C fn c ps rv post x=some y):DOk T P f ⟨ps,rv,post,g⟩:=by
 intro x y hy w S φ hsim vs v hvs hoks;have hN:=hg x y hy;have hpost:=X1 hpost;have hall:(zc1 T id (ps++ [rv]) x 0).length=ps.length+1:=by rw [jh8];simp
 unfold jv8 at hN;split at hN<;>try (cases hN;done)
 rename_i rid ops rest;split at hN<;>try (cases hN;done)
 rename_i d a hd ha;split at hN<;>try (cases hN;done)
 rename_i hdn;simp only at hvs hoks hsim;have hsplit:zc1 T id (ps++ [rv]) x 0=(zc1 T id (ps++ [rv]) x 0).take ps.length++ [a]:=by
  conv=>lhs;rw [<-List.take_append_drop ps.length (zc1 T id (ps++ [rv]) x 0)]
  congr 1;obtain ⟨hlt,hg⟩:=X2.1 ha;rw [V8 hlt,hg,M5 (by omega)]
 rw [hsplit] at hvs;obtain ⟨hv1,hv2⟩:=hvs.snoc_inv;have hlen:vs.length=ps.length:=by rw [<-hv1.len T,Y6,hall];omega
 have hsz:vs.length<=fn.ntmps:=by rw [hlen];exact Y1 hs
 have hfr:Fr fn.ntmps [] (jb6 vs 0) {tmps:=vs.toArray++Array.replicate (fn.ntmps-vs.toArray.size) undef,defers:= []}:=by
  refine ⟨by simp;omega,rfl,fun i v hv=>?_⟩;obtain ⟨_,h2⟩:=yg5 vs 0 i v hv;simp only [Nat.sub_zero] at h2;have hi:=(X2.1 h2).1;refine ⟨?_,by omega⟩;rw [Y7,Array.getElem?_append_left (by simpa using hi)];simp [h2]
 have hstart:=hsim.slots hv1 (fun b hb=>hoks b (J4 hb));have hpin':((List.range (za6 (ps++ [rv]))).map φ).length<=C.pin:=by simpa using Y1 hpin
 have hrec:jt1 (zx7 v)=(v,(jt1 (zx7 v)).2):=by
  unfold zx7;split
  ·rfl
  ·rfl
 refine jw4 hf hb rfl hfr d hd hdn hrec fun K hK=>?_;have hok:okA (zg6 T id (ps++ [rv]) x 0) a:=hoks a (by rw [hsplit];simp);have hst2:Sim T w ⟨zd3 φ (za6 (ps++ [rv])),S,(List.range (za6 (ps++ [rv]))).map φ⟩ ⟨(d,a)::zy9 T ((zc1 T id (ps++ [rv]) x 0).take ps.length) 0,zg6 T id (ps++ [rv]) x 0⟩ (upd (jb6 vs 0) (some d) v) w S φ:=hstart.slot (dst:=some d) hv2 hok;have hKs:KsOk (bodyPost P fn fun e w'=>(∃v0,e=.returned v0)/\(jt1 (zx7 v)).2=(jt1 (zx7 v)).2/\jb3 T post [] y () w S φ (za6 (ps++ [rv])) w' []) fn.ntmps [] w ⟨zd3 φ (za6 (ps++ [rv])),S,(List.range (za6 (ps++ [rv]))).map φ⟩ y (js2 post):=by
  have key: ∀st,ju6 post st=some y-> ∀F1 w1,zc5 T w ⟨zd3 φ (za6 (ps++ [rv])),S,(List.range (za6 (ps++ [rv]))).map φ⟩ st F1 w1->jb3 T post [] y () w S φ (za6 (ps++ [rv])) w1 []:=by
   intro st hst F1 w1 hs1;obtain ⟨S1,φ1,hs1⟩:=hs1;unfold ju6 at hst;split at hst<;>try (cases hst;done)
   rename_i y1 l1 h1;split at hst<;>try (cases hst;done)
   rename_i hn;simp only [X0] at hst;subst hst;exact qx8 hpost h1 (rs:= []) (as:= []) (z:=()) (l2:=l1) rfl hn hs1 trivial
  refine ⟨?_,fun i st h=>(by cases h),?_,fun a st h=>(by cases h)⟩
  ·intro st hst F1 w1 hs1 a ha;exact ⟨ha.defers,_,vg4 hres _ _,⟨_,rfl⟩,rfl,key st hst F1 w1 hs1⟩
  ·intro st hst F1 w1 hs1 a ha;exact ⟨ha.defers,_,vg4 hres _ _,⟨_,rfl⟩,rfl,key st hst F1 w1 hs1⟩
 refine ym5 (w0:=w) (S0:=⟨zd3 φ (za6 (ps++ [rv])),S,(List.range (za6 (ps++ [rv]))).map φ⟩) (r:=y) (stp:=fun o st K=>stepA P C o st K fun _ _=>none)
  (K:=evC P C fn.ntmps [] (fun _ _=>none) rest [] (js2 post))
  (fun k F' w2=>WR P ops (Exit.then K (bodyPost P fn fun e w'=>(∃v0,e=.returned v0)/\(jt1 (zx7 v)).2=(jt1 (zx7 v)).2/\jb3 T post [] y () w S φ (za6 (ps++ [rv])) w' [])) k fn.ntmps [] F' w2) ?_ ?_ ?_ (ops.toList.drop 1) 1 rfl _ _ _ _ S φ hN hst2
 ·intro k o F1 H1 F1' w1 S1 φ1 K hd hs h HK;exact zg4 hE hd hs h (fun st hst F1 w1 ⟨S1,φ1,h1⟩=>HK st hst F1 w1 S1 φ1 h1) fun a st h=>(by cases h)
 ·intro k dst F' w hp K;exact WR.pass1 hp K
 ·intro k st F1' w1 S1 φ1 hk hst h;refine .fin (W2 hk) fun a ha=>hK a w1 ?_;exact ze9 hm hpin' hE rest [] _ st _ F1' w1 hst hKs (JOk.none _ _ _) ⟨S1,φ1,h⟩ a ha
def jn8 {R:Type} {r:R} {C:Ctx T} {n:Nat} {ds:List Deferred} (hm:P.follows .mixedOrders=true) (hp:S0.pin.length<=C.pin) (hE:j9 T P C.E) {K:Ks T R} {K2:Code->St T->Option R}: ∀(k:Nat) (c:Code) (st:St T) (Q:Exit->Act->World->Prop) (F':PF) (w:World),
  evS P C n K K2 k c st=some r->KsOk Q n ds w0 S0 r K->(∀c st,K2 c st=some r-> ∀F1 w1,zc5 T w0 S0 st F1 w1-> ∀a,Fr n ds F1 a->c.wp P Q a w1)->zc5 T w0 S0 st F' w->CW P c Q n ds F' w
 |0,c,st,Q,F',w,h,hK,h2,hs=>fun a ha=>h2 c st h F' w hs a ha
 |k+1,c,st,Q,F',w,h,hK,h2,hs=>by
  cases c with
  |seq x y=>
   have h:evC P C n [] (fun _ _=>none) x [] (K.behind fun st=>evS P C n K K2 k y st) st=some r:=h;have:=ze9 hm hp hE x _ _ st _ F' w h (hK.behind (X:=y.wp P Q) fun st1 h1 F1 w1 hs1 a ha=>jn8 hm hp hE k y st1 Q F1 w1 h1 hK h2 hs1 a ha) (JOk.none _ _ _) hs;exact fun a ha=>wp_seq (this a ha)
  |_=>cases h
def jn2: ∀ {cp:List (Nat×Nat)} {caps:List (AV T.U)},jt5 cp caps=true->caps=ye6 cp
 | [],[],_=>rfl
 | [],_::_,h=>by cases h
 |(i,o)::r,[],h=>by cases h
 |(i,o)::r,a::s,h=>by
  cases a<;>try (cases h;done)
  simp only [jt5,X3] at h;rw [<-Nat.eq_of_beq_eq_true h.1,<-Nat.eq_of_beq_eq_true h.2.1,jn2 h.2.2];rfl
def jn3: ∀ {cp:List (Nat×Nat)} {vs:List Value} {m:Nat},(cp.all fun p=>Nat.blt p.1 m)=true->VRL T w S φ (ye6 cp) vs->(∀k,k<m->RSame (φ' k) (φ k))->VRL T w' S' φ' (ye6 cp) vs
 | [],[],_,_,_,_=>trivial
 | [],_::_,_,_,h,_=>h.elim
 |_::_,[],_,_,h,_=>h.elim
 |(i,o)::r,v::s,m,hb,h,hφ=>by
  rw [U0,X3] at hb;obtain ⟨⟨g,h1,h2⟩,h3⟩:=h;have hi:i<m:=by have:=hb.1;simpa [W9] using this
  exact ⟨⟨g,(hφ i hi).1.trans h1,h2⟩,jn3 hb.2 h3 hφ⟩
def qt3 {o:Oper} {sl:Nat} (h:vn9 o=some sl): ∃c,o.op=.defer c/\c.callee=.value (.tmp sl)/\c.args= #[]/\o.dst=none/\o.guard=none:=by
 unfold vn9 at h;split at h
 ·rename_i c hop;split at h
  ·rename_i h1 h2 h3 h4;simp only [X0] at h;subst h;exact ⟨c,hop,h1,by simpa using h2,h3,h4⟩
  ·cases h
 ·cases h
def yp0 {R:Type} {r:R} {sp:DSpec T} {g:FuncId} (hok:DOk T P g sp) {as:List (AV T.U)} {a:AV T.U} {K:List (Ent T.U)->Option R} (h:yz8 sp (as++ [a]) H K=some r) (hs:Sim T w0 S0 ⟨F,H⟩ F' w S φ) {vs:List Value} {v:Value} (hvs:VRL T w S φ as vs) (hv:VR T w S φ a v):
  ∃H1,K H1=some r/\CallsD P g vs.toArray (zx7 v) w fun e u' w'=>(∃v0,e=.returned v0)/\u'=(jt1 (zx7 v)).2/\zc5 T w0 S0 ⟨F,H1⟩ F' w':=by
 unfold yz8 at h;split at h<;>try (cases h;done)
 rename_i x l hx;split at h<;>try (cases h;done)
 rename_i hb;rw [X3] at hb;obtain ⟨y,hy,hK⟩:=za4 h;obtain ⟨φ',k1,k2,k3,k4⟩:=qs8 hx hb.1 hb.2 hs (hvs.append (show VRL T w S φ [a] [v] from ⟨hv,trivial⟩));refine ⟨_,hK,(hok x y hy w S φ' k1 vs v k2 k3).mono fun e u' w' hR=>?_⟩;obtain ⟨h1,h2,h3⟩:=hR;obtain ⟨S1,φ2,h4,_⟩:=k4 y [] () w' [] h3;exact ⟨h1,h2,S1,φ2,h4⟩
def yl0 {C:Ctx T} {f:FuncId} {fn:Func} {c:Code} {cuts:List (Pos×Cut)} {ps rs:List Sh} {nl:Nl} {post:List PE} {D:DefP T} {g:zd8 T ps->Option (zm3 T post×zd8 T rs)} (hm:P.follows .mixedOrders=true) (hE:j9 T P C.E)
  (hf:P.funcs[f]?=some fn) (hb:fn.body=some c) (hs:Nat.ble ps.length fn.ntmps=true) (hpin:Nat.ble (za6 ps) C.pin=true) (hpost:Nat.beq post.length (za6 ps)=true) (hdr:DOk T P D.g D.dr) (hdp:DOk T P D.g D.dp)
  (hg: ∀x y,g x=some y-> ∃m,vq3 P C cuts fn c nl ps post rs D m x=some y):GOk T P f ⟨ps,post,rs,g⟩:=by
 intro x y hy w S φ hsim vs hvs hoks;obtain ⟨N,hN⟩:=hg x y hy;have hpost:=X1 hpost;have hall:(zc1 T id ps x 0).length=ps.length:=jh8 id ps x 0;have hlen:vs.length=ps.length:=by rw [<-hvs.len T];exact hall
 have hsz:vs.length<=fn.ntmps:=by rw [hlen];exact Y1 hs
 have hfr:Fr fn.ntmps [] (jb6 vs 0) {tmps:=vs.toArray++Array.replicate (fn.ntmps-vs.toArray.size) undef,defers:= []}:=by
  refine ⟨by simp;omega,rfl,fun i v hv=>?_⟩;obtain ⟨_,h2⟩:=yg5 vs 0 i v hv;simp only [Nat.sub_zero] at h2;have hi:=(X2.1 h2).1;refine ⟨?_,by omega⟩;rw [Y7,Array.getElem?_append_left (by simpa using hi)];simp [h2]
 have hstart:=hsim.slots hvs hoks;have hpin1:=Y1 hpin;have hpin':((List.range (za6 ps)).map φ).length<=C.pin:=by simpa using hpin1
 generalize hR0:(fun (e:Ending) (w':World)=>match e with
   | .returned v=> ∃us,jb3 T post rs y.1 y.2 w S φ (za6 ps) w' us/\v=zz2 us
   |_=>False)=R0
 have hcalls:Calls P f vs.toArray w R0:=by
  have hKs:KsOk (bodyPostD P fn R0) fn.ntmps [] w ⟨zd3 φ (za6 ps),S,(List.range (za6 ps)).map φ⟩ y (jj8 T P fn nl post rs):=by
   have key: ∀st,yc9 T P fn nl post rs st=some y-> ∀F1 w1,zc5 T w ⟨zd3 φ (za6 ps),S,(List.range (za6 ps)).map φ⟩ st F1 w1-> ∀a,Fr fn.ntmps [] F1 a->Leaves P fn a.tmps R0 a.defers .returning w1:=by
    intro st hst F1 w1 hs1 a ha;obtain ⟨v,h1,us,h2,h3⟩:=yr6 hpost hst hs1 ha;rw [ha.defers];exact ⟨v,h1,by subst hR0;exact ⟨us,h2,h3⟩⟩
   exact ⟨key,fun i st h=>(by cases h),key,fun a st h=>(by cases h)⟩
  refine calls_of_wp_defers hf hb (jn8 hm hpin' hE D.depth c _ _ _ w hN hKs ?_ ⟨S,φ,hstart⟩ _ hfr);clear hN hstart hfr hKs;intro c2 st hst F1 w1 hs1 a ha;obtain ⟨S1,φ1,hs1⟩:=hs1;unfold vx5 at hst;split at hst<;>try (cases hst;done)
  rename_i rid ops B;split at hst<;>try (cases hst;done)
  rename_i hdo;unfold vx4 at hdo;rw [X3] at hdo;obtain ⟨hd1,hd2⟩:=hdo;split at hd2<;>try (cases hd2;done)
  rename_i olast hlast;split at hd2<;>try (cases hd2;done)
  rename_i sl0 hsl;have:=X1 hd2;subst this;obtain ⟨cl,hop,hcal,hargs,hdst,hgd⟩:=qt3 hsl;have hlast':ops.toList=ops.toList.dropLast++ [olast]:=by
   have hne:ops.toList≠ []:=by intro e;rw [e] at hlast;cases hlast
   rw [List.getLast?_eq_some_getLast hne] at hlast;simp only [X0] at hlast;rw [<-hlast];exact (List.dropLast_concat_getLast hne).symm
  have hsize:ops.size=ops.toList.dropLast.length+1:=by
   have:=congrArg List.length hlast';rw [X9] at this;simpa using this
  refine wp_seq (CW.region (P:=P) (Q:=Exit.then (B.wp P (bodyPostD P fn R0)) (bodyPostD P fn R0)) (n:=fn.ntmps) (ds:= []) (F:=F1) (w:=w1) ?_ a ha);have hgen:=ym5 (w0:=w) (S0:=⟨zd3 φ (za6 ps),S,(List.range (za6 ps)).map φ⟩) (r:=y) (ops:=ops) (n:=fn.ntmps) (stp:=va8 P C fun _ _=>none) (K:=va7 P C cuts fn B nl post rs D N)
   (fun k F' w2=>(k<ops.size->WR P ops (Exit.then (B.wp P (bodyPostD P fn R0)) (bodyPostD P fn R0)) k fn.ntmps [] F' w2)/\
    (k=ops.size-> ∀fv caps,F'.get D.sl=some (.func fv #[] caps)->WR P ops (Exit.then (B.wp P (bodyPostD P fn R0)) (bodyPostD P fn R0)) k fn.ntmps [{target:=.fn fv caps,args:= #[]}] F' w2)) ?_ ?_ ?_ ops.toList 0 rfl _ _ _ _ S1 φ1 hst hs1
  ·exact hgen.1 (by omega)
  ·intro k o F2 H2 F2' w2 S2 φ2 K hd hs h HK;have hk:=(zl8 hd).1;have hlt:=(Y3.1 hk).1;refine ⟨fun _=>?_,fun e=>absurd hlt (by omega)⟩;unfold va8 at hs;split at hs
   ·rename_i hnd;have hne:k+1≠ops.size:=by
     intro e;have:ops.toList[k]?=some olast:=by
      rw [hlast',Z2 (by omega),show k-ops.toList.dropLast.length=0 by omega];rfl
     rw [show ops.toList[k]?=some o by simpa using hk] at this;simp only [X0] at this;subst this;rw [hop] at hnd;cases hnd
    exact zg4 hE hd hs h (fun st hst F1 w1 ⟨S1,φ1,h1⟩=>(HK st hst F1 w1 S1 φ1 h1).1 (by omega)) fun a st h=>(by cases h)
   ·rename_i hnd;have hko:k+1=ops.size:=by
     apply Classical.byContradiction;intro hne;have hmem:o∈ops.toList.dropLast:=by
      have h1:ops.toList[k]?=some o:=by simpa using hk
      rw [hlast',X8 (by omega)] at h1;exact X6 h1
     have:=Y8.1 hd1 o hmem;rw [this] at hnd;cases hnd
    have hol:o=olast:=by
     have:ops.toList[k]?=some olast:=by
      rw [hlast',Z2 (by omega),show k-ops.toList.dropLast.length=0 by omega];rfl
     rw [show ops.toList[k]?=some o by simpa using hk] at this;simpa using this
    subst hol;rw [hsl] at hs;simp only at hs;split at hs<;>try (cases hs;done)
    rename_i fv caps hF;obtain ⟨v,hv1,va,vb,rfl,hv2,hv3⟩:=h.fr _ _ hF;have hva:va= #[]:=by
     have:=hv2.len T;simpa using this.symm
    subst hva;have hG:=(HK ⟨F2,H2⟩ hs F2' w2 S2 φ2 h).2 hko fv vb hv1;have hev:evD F2' (.tmp D.sl)=.func fv #[] vb:=by simp [evD,ev,hv1]
    have hrun:ye7 P ops k fn.ntmps F2' w2=some (o.dst,.ok (.defer {target:=.fn fv vb,args:= #[]}) w2):=by
     unfold ye7;rw [hd];simp [execOp,hop,resolve,hcal,hargs,hev,Deferred.ofValue]
    refine WR.defer hrun ?_;rw [hdst];exact hG
  ·intro k dst F' w2 hp hG;refine ⟨fun hlt=>?_,fun e=>?_⟩
   ·by_cases hk:k+1<ops.size
    ·exact WR.pass1 hp (hG.1 hk)
    ·exfalso;have hko:k+1=ops.size:=by omega
     unfold zy6 at hp;have:ops[k]?=some olast:=by
      have:ops.toList[k]?=some olast:=by
       rw [hlast',Z2 (by omega),show k-ops.toList.dropLast.length=0 by omega];rfl
      simpa using this
     rw [this] at hp;simp [zv8,hgd] at hp
   ·exfalso;unfold zy6 at hp;rw [Array.getElem?_eq_none (by omega)] at hp;cases hp
  ·intro k st F2' w2 S2 φ2 hk hst h;refine ⟨fun hlt=>absurd hlt (by omega),fun _ fv capsV hget=>.fin (W2 hk) fun a ha=>?_⟩;show B.wp P (bodyPostD P fn R0) a w2;unfold va7 at hst;split at hst<;>try (cases hst;done)
   rename_i st2 htr;obtain ⟨S3,φ3,h3⟩:=jf9 (S0:=⟨zd3 φ (za6 ps),S,(List.range (za6 ps)).map φ⟩) hpin' ⟨S2,φ2,h⟩ htr;split at hst<;>try (cases hst;done)
   rename_i g0 caps hF;split at hst<;>try (cases hst;done)
   rename_i hb;simp only [X3] at hb;obtain ⟨hb1,hb2,hb3,hb4,hb5,hb6⟩:=hb;have:=X1 hb1;subst this;have:=jn2 hb3;subst this;have hb5:=Y1 hb5;have hb6:=Y1 hb6;obtain ⟨v,hv1,va,vb,rfl,hv2,hv3⟩:=h3.fr _ _ hF;rw [hget] at hv1;simp only [X0,Value.func.injEq] at hv1;obtain ⟨rfl,_,rfl⟩:=hv1;have h3p:=h3.pinned hb6;have hphi: ∀k,k<za6 ps->RSame (φ3 k) (φ k):=fun k hk=>(h3.pins k (φ k) (by simp [hk])).1;have caps4: ∀ {st4:St T} {F4:PF} {w4:World} {S4:List Nat} {φ4:Nat->RA},Sim T w ⟨zd3 φ (za6 ps),S,(List.range D.pin).map φ3⟩ st4 F4 w4 S4 φ4->VRL T w4 S4 φ4 (ye6 D.cp) capsV.toList:=fun h4=>
    jn3 hb4 hv3 fun k hk=>(h4.pins k (φ3 k) (by simp [hk])).1
   have back: ∀ {st4:St T} {F4:PF} {w4:World} {a4:Act},yc9 T P fn nl post rs st4=some y->zc5 T w ⟨zd3 φ (za6 ps),S,(List.range D.pin).map φ3⟩ st4 F4 w4->Fr fn.ntmps [{target:=.fn (.func D.g) capsV,args:= #[]}] F4 a4-> ∃v,(results fn a4.tmps).run P w4=.ok v w4/\R0 (.returned v) w4:=by
    intro st4 F4 w4 a4 hl hs4 ha4;obtain ⟨S4,φ4,hs4⟩:=hs4;have hs5:=hs4.fewer (q:=(List.range (za6 ps)).map φ) fun k r hk=>by
     have hlt:=(X2.1 hk).1;simp at hlt;simp [hlt] at hk;subst hk;have:k<D.pin:=by omega
     exact ⟨φ3 k,by simp [this],hphi k hlt⟩
    obtain ⟨v,k1,us,k2,k3⟩:=yr6 hpost hl ⟨S4,φ4,hs5⟩ ha4;exact ⟨v,k1,by subst hR0;exact ⟨us,k2,k3⟩⟩
   have hinv: ∀w4,(invoke (.fn (.func D.g) capsV) #[]).run P w4=.ok (.enter D.g capsV) w4:=fun w4=>by simp [invoke,yk8 hb2]
   have hKs2:KsOk (bodyPostD P fn R0) fn.ntmps [{target:=.fn (.func D.g) capsV,args:= #[]}] w ⟨zd3 φ (za6 ps),S,(List.range D.pin).map φ3⟩ y (qy8 P fn nl post rs D):=by
    have ret: ∀st,yz8 D.dr (ye6 D.cp++ [.raw .nilIface]) st.H (fun H1=>yc9 T P fn nl post rs ⟨st.F,H1⟩)=some y-> ∀F1 w1,zc5 T w ⟨zd3 φ (za6 ps),S,(List.range D.pin).map φ3⟩ st F1 w1-> ∀a,Fr fn.ntmps [{target:=.fn (.func D.g) capsV,args:= #[]}] F1 a->Leaves P fn a.tmps R0 a.defers .returning w1:=by
     intro st4 hst4 F4 w4 hs4 a4 ha4;obtain ⟨S4,φ4,hs4⟩:=hs4;obtain ⟨H1,hK1,hc⟩:=yp0 hdr hst4 hs4 (caps4 hs4) (show VR T w4 S4 φ4 (.raw .nilIface) .nilIface from rfl);rw [ha4.defers];refine ⟨by simp,_,_,_,_,rfl,hinv w4,?_⟩;refine hc.mono fun e u' w' hR=>?_;obtain ⟨⟨v0,rfl⟩,rfl,hS⟩:=hR;exact back hK1 hS ha4
    refine ⟨ret,fun i st h=>(by cases h),ret,fun a st hst4=>?_⟩;intro F4 w4 S4 φ4 v hs4 hv hok a4 ha4;have hst4:(match ga5 a with|true=>yz8 D.dp (ye6 D.cp++ [a]) st.H fun H1=>yc9 T P fn nl post rs ⟨st.F,H1⟩|false=>none)=some y:=hst4;split at hst4<;>try (cases hst4;done)
    rename_i hif;obtain ⟨t,u,rfl⟩: ∃t u,v=.iface t u:=by
     cases a<;>try (cases hif;done)
     obtain ⟨u,rfl,_⟩:=hv;exact ⟨_,u,rfl⟩
    obtain ⟨H1,hK1,hc⟩:=yp0 hdp hst4 hs4 (caps4 hs4) hv;show Leaves P fn a4.tmps R0 a4.defers (.panicking [{v:=.iface t u,recovered:=false}]) w4;rw [ha4.defers];refine ⟨by simp,_,_,_,_,rfl,hinv w4,?_⟩;refine hc.mono fun e u' w' hR=>?_;obtain ⟨⟨v0,rfl⟩,rfl,hS⟩:=hR;exact back hK1 hS ha4
   exact ze9 (C:=C.at D.pin) (S0:=⟨zd3 φ (za6 ps),S,(List.range D.pin).map φ3⟩) hm (show ((List.range D.pin).map φ3).length<=D.pin by simp) hE B [] _ st2 _ F2' w2 hst hKs2 (JOk.run (C:=C.at D.pin) hm (show ((List.range D.pin).map φ3).length<=D.pin by simp) hE hKs2 N) ⟨S3,φ3,h3p⟩ a ha
 subst hR0;refine hcalls.mono fun e w' hR=>?_;cases e with
 |returned v=>
  obtain ⟨us,⟨F1,S1,φ1,k1,k2,k3⟩,k4⟩:=hR;exact ⟨F1,S1,φ1,us,k1,k2,k4,k3⟩
 |panicked ch=>exact hR.elim
 |outgrown=>exact hR.elim
end
end Go.X
namespace Go.X
open Go.RowKit Go.V
def Sh.simple:Sh->Bool
 | .val _=>true| .arr _ _=>true| .at_ _ _=>true| .ap _ _ _ _ _=>true| .nilp=>true| .rw _=>true| .own _=>true|_=>false
def qz2 {U:Nat->Type}:AV U->Bool| .raw (.slice none 0 0)=>false|_=>true
section
variable {T:Tab}
def gu8 {H:List (Ent T.U)} (s:Sh) (hs:s.simple=true) (a:AV T.U) (l l':Src) (x:s.den T) (h:rdS T H s a l=some (x,l')) (hn:qz2 a=true):
  l'=l/\ ∀(σ:Nat->Nat) (k:Nat),(∀p i,l[p]?=some (some i)->σ p=i)->mkA T σ s x k=a:=by
 cases s<;>try (cases hs;done)
 ·rename_i t;unfold rdS at h;split at h<;>try (cases h;done)
  rename_i y hy;simp only [X0,X7] at h;obtain ⟨rfl,rfl⟩:=h;refine ⟨rfl,fun σ k _=>?_⟩;have:=vc7 hy (by intro e;subst e;cases hn);exact this.symm
 ·rename_i i o;unfold rdS at h;split at h<;>try (cases h;done)
  rename_i j o' ha;split at h<;>try (cases h;done)
  rename_i hb;simp only [X3] at hb;simp only [X0,X7] at h;obtain ⟨_,rfl⟩:=h;have:=je4 ha;subst this;refine ⟨rfl,fun σ k hσ=>?_⟩;show AV.ptr (σ i) o=_;rw [hσ _ _ (zf9 hb.2),X1 hb.1]
 ·rename_i i;unfold rdS at h;split at h<;>try (cases h;done)
  rename_i j ha;split at h<;>try (cases h;done)
  rename_i hb;simp only [X0,X7] at h;obtain ⟨_,rfl⟩:=h;have:=yl5 ha;subst this;refine ⟨rfl,fun σ k hσ=>?_⟩;show AV.own (σ i)=_;rw [hσ _ _ (zf9 hb)]
 ·unfold rdS at h;split at h<;>try (cases h;done)
  rename_i hb;simp only [X0,X7] at h;obtain ⟨_,rfl⟩:=h;have:=qa6 hb;subst this;exact ⟨rfl,fun σ k _=>rfl⟩
 ·rename_i t n;unfold rdS at h;split at h<;>try (cases h;done)
  rename_i xs ha;simp only [X0,X7] at h;obtain ⟨rfl,rfl⟩:=h;have:=jy5 ha;subst this;exact ⟨rfl,fun σ k _=>rfl⟩
 ·rename_i i o sz n c;unfold rdS at h;split at h<;>try (cases h;done)
  rename_i j o' sz' n' q c' ha;split at h<;>try (cases h;done)
  rename_i hb;simp only [X3] at hb;simp only [X0,X7] at h;obtain ⟨rfl,rfl⟩:=h;have:=jy3 ha;subst this;refine ⟨rfl,fun σ k hσ=>?_⟩;show AV.aptr (σ i) o sz n x c=_;rw [hσ _ _ (zf9 hb.1),X1 hb.2.1,X1 hb.2.2.1,X1 hb.2.2.2.1,X1 hb.2.2.2.2]
 ·rename_i n;unfold rdS at h;split at h<;>try (cases h;done)
  rename_i hb;simp only [X0,X7] at h;obtain ⟨_,rfl⟩:=h;have:=vf6 hb;subst this;exact ⟨rfl,fun σ k _=>rfl⟩
end
structure KSpec (T:Tab) where
 o:Nat
 e:TypeId
 cs:List Sh
 ps:List Sh
 post:List PE
 rs:List Sh
 g:zd8 T (.ptr o e cs::ps)->Option (zm3 T (.blk e cs::post)×zd8 T rs)
def qy7 {T:Tab} (H:List (Ent T.U)):List (AV T.U)->Bool
 | .ptr i _::_=>(match H[i]? with|some (.blk _ cs)=>cs.all qz2|_=>false)
 |_=>false
section
variable {T:Tab} {P:Program}
def σJ_at {ids:List Nat} {n j i:Nat} (h:ids[j]?=some i):σJ ids n j=i:=by
 have hlt:=(X2.1 h).1;have:=σJ_lo (ids:=ids) (n:=n) hlt;rw [h] at this;exact (X5 this).symm
def CallSpec.forkH {T:Tab} (c:List (AV T.U)->List (Ent T.U)->Bool) (a b:CallSpec T):CallSpec T where
 call:=fun as H K Kp=>zb8 (c as H) (a.call as H K Kp) (b.call as H K Kp)
 q:=fun as H K=>zb8 (c as H) (a.q as H K) (b.q as H K)
 isq:=a.isq
 wr:=fun as H=>a.wr as H++b.wr as H
def CallSpec.forkS {T:Tab} (ps:List Sh) (c:zd8 T ps->Bool) (a b:CallSpec T):CallSpec T:=CallSpec.forkH (fun as H=>match zp6 T H ps as [] with|some (x,_)=>c x|none=>false) a b
def jr4 {f:FuncId} (c:List (AV T.U)->List (Ent T.U)->Bool) {a b:CallSpec T} (ha:w8 T P f a/\zg8 T P f a/\zs4 a) (hb:w8 T P f b/\zg8 T P f b/\zs4 b):w8 T P f (CallSpec.forkH c a b)/\zg8 T P f (CallSpec.forkH c a b)/\zs4 (CallSpec.forkH c a b):=by
 refine ⟨fun as H K Kp r h=>?_,fun as H K r h=>?_,fun as H K Kp r h=>?_⟩
 ·rcases zm7 h with ⟨_,h⟩|⟨_,h⟩
  ·exact ha.1 as H K Kp r h
  ·exact hb.1 as H K Kp r h
 ·rcases zm7 h with ⟨_,h⟩|⟨_,h⟩
  ·exact ha.2.1 as H K r h
  ·exact hb.2.1 as H K r h
 ·have ec: ∀c0,c as H=c0-> ∀ {R':Type} (K' Kp':AV T.U->List (Ent T.U)->Option R'),(CallSpec.forkH c a b).call as H K' Kp'=zb8 c0 (a.call as H K' Kp') (b.call as H K' Kp'):=fun c0 hc _ K' Kp'=>by
   subst hc;rfl
  have ew:(CallSpec.forkH c a b).wr as H=a.wr as H++b.wr as H:=rfl;rw [ew];have kl: ∀ {H1:List (Ent T.U)},Keeps T (a.wr as H) H H1->Keeps T (a.wr as H++b.wr as H) H H1:=fun h=>⟨h.len,fun e he hn=>h.same e he fun hm=>hn (X4.2 (.inl hm)),h.row⟩;have kr: ∀ {H1:List (Ent T.U)},Keeps T (b.wr as H) H H1->Keeps T (a.wr as H++b.wr as H) H H1:=fun h=>⟨h.len,fun e he hn=>h.same e he fun hm=>hn (X4.2 (.inr hm)),h.row⟩;cases hc:c as H with
  |true=>
   rw [ec _ hc] at h;have:=ha.2.2 as H K Kp r h;rcases this with ⟨x,H1,h1,h2,h3⟩|⟨x,H1,h1,h2,h3⟩
   ·exact .inl ⟨x,H1,h1,kl h2,fun K' Kp'=>(ec _ hc K' Kp').trans (h3 K' Kp')⟩
   ·exact .inr ⟨x,H1,h1,kl h2,fun K' Kp'=>(ec _ hc K' Kp').trans (h3 K' Kp')⟩
  |false=>
   rw [ec _ hc] at h;have:=hb.2.2 as H K Kp r h;rcases this with ⟨x,H1,h1,h2,h3⟩|⟨x,H1,h1,h2,h3⟩
   ·exact .inl ⟨x,H1,h1,kr h2,fun K' Kp'=>(ec _ hc K' Kp').trans (h3 K' Kp')⟩
   ·exact .inr ⟨x,H1,h1,kr h2,fun K' Kp'=>(ec _ hc K' Kp').trans (h3 K' Kp')⟩
def z6 {f:FuncId} (ps:List Sh) (c:zd8 T ps->Bool) {a b:CallSpec T} (ha:w8 T P f a/\zg8 T P f a/\zs4 a) (hb:w8 T P f b/\zg8 T P f b/\zs4 b):w8 T P f (CallSpec.forkS ps c a b)/\zg8 T P f (CallSpec.forkS ps c a b)/\zs4 (CallSpec.forkS ps c a b):=jr4 _ ha hb
end
end Go.X
