import Derived.Test.YtliopfopmhhdeaaGreatA9
import Derived.Test.YtliopfopmhhdeaaGreatA1
import Derived.Shelf.SlIterI.Nil
import Derived.Shelf.SortM.Plain
import Derived.Shelf.SortM.SortNone
set_option linter.defProp false
namespace Go.X
open Go.RowKit Go.V Go.ChangeShapes Go.WideShapes Go.ChangeAt Go.Deep
inductive GoodV (T:Tab):(t:Ty)->den T.U t->Prop
 |int (k:IntKind) (x:Int) (h:k.min<=x/\x<=k.max):GoodV T (.int k) x
 |bool (b:Bool):GoodV T .bool b
 |str (s:ByteArray) (h:s.size<=maxLen):GoodV T .str s
 |list (e:Ty) (xs:List (den T.U e)) (hl:xs.length<=maxLen) (h: ∀x∈xs,∀c∈zb1 T e x,GoodV T c.t c.x):GoodV T (.list e) xs
structure Packs (T:Tab) (ct:Nat->List Ty):Prop where
 pack: ∀(i:Nat) (cl:List (Cell T.U)),cl.map (·.t)=ct i-> ∃x,T.pack i cl=some x
 size: ∀i,T.size i=(ct i).length
section
variable {T:Tab} {P:Program} {ct:Nat->List Ty} {H:Type} {enc:TypeId×Value->H} {w:World}
def lawRet {f:FuncId} {ps:List PT} {g:zz2 T ps->Option (zz1 T (zb4 ps) (zv1 T [.val .bool]))} (hok:yp0 T P f ⟨ps,[.val .bool],g⟩) (hio:zb4 ps= []) (hent: ∀x:zz2 T ps,zv2 T ps x= []) {x:zz2 T ps} {y:zz1 T (zb4 ps) (zv1 T [.val .bool])} (hy:g x=some y) (hl:yi2 T (zb4 ps) y=(true:Bool))
  {φ:Nat->RA} {vs:List Value} (hvs:VRL T w [] φ (yk6 T 0 ps x) vs):Calls P f vs.toArray w (zq9 w (.bool true)):=by
 have hio0:(zb4 ps).length=0:=by rw [hio];rfl
 refine (hok x y hy w [] φ vs hvs (fun b hb=>by cases hb) (fun k e hk=>by rw [show zv2 T (FnSpec.ps ⟨ps,[.val .bool],g⟩) x= [] from hent x] at hk;simp at hk) (fun j hj=>by
  have hj:j<(zb4 ps).length:=hj;omega) (fun j k hj=>by
  have hj:j<(zb4 ps).length:=hj;omega)).mono fun e w' hR=>?_
 cases e with
 |returned v=>
  obtain ⟨F1,H1,F1',S1,φ1,as1,us,g1,g2,rfl,g4,g5,g6⟩:=hR;have hchg:Chg [] w w':=by
   have:=g1.chg;rw [show zd0 φ (zb4 ps).length= [] by rw [hio0];rfl] at this;exact this
  refine ⟨hchg,?_⟩;have hlast:=(yc3 g4).1;rw [hl] at hlast
  match as1,hlast,us,g2 with
  | [a],hlast,[v],g2=>
   have hrd:jn4 T .bool a=some true:=hlast;exact (ze8 (φ:=φ1) (yd7 (t:=.bool) hrd g2.1 φ1))
  | [],hlast,_,_=>cases hlast
  |_::_::_,hlast,_,_=>cases hlast
 |panicked ch=>exact hR.elim
 |outgrown=>exact hR.elim
end
end Go.X
namespace Go.X
open Go.RowKit Go.V
structure PSpec (T:Tab) where
 ps:List Sh
 post:List PE
 rs:List Sh
 pv:Sh
 g:zc9 T ps->Option (zp4 T post×(zc9 T rs⊕zc9 T [pv]))
section
variable (T:Tab) (P:Program)
def POk (f:FuncId) (b:PSpec T):Prop:= ∀x y,b.g x=some y-> ∀(w:World) (S:List Nat) (φ:Nat->RA),Sim T w ⟨zd0 φ (zc1 b.ps),S,(List.range (zc1 b.ps)).map φ⟩ ⟨[],zk9 T id b.ps x 0⟩ [] w S φ->
 ∀vs:List Value,VRL T w S φ (ze3 T id b.ps x 0) vs->(∀a∈ze3 T id b.ps x 0,okA (zk9 T id b.ps x 0) a)->
 Calls P f vs.toArray w fun e w'=>match e with
  | .returned v=> ∃z,y.2=.inl z/\ ∃us,qq0 T b.post b.rs y.1 z w S φ (zc1 b.ps) w' us/\v=yb4 us
  | .panicked c=> ∃z,y.2=.inr z/\ ∃u,c= [{v:=u,recovered:=false}]/\qq0 T b.post [b.pv] y.1 z w S φ (zc1 b.ps) w' [u]
  | .outgrown=>False
def PSpec.toCall {T:Tab} (sp:PSpec T) (alt:CallSpec T):CallSpec T where
 call:=fun aS H K Kp=>match yb3 T H sp.ps aS [] with
  |some (x,l)=>match zc5 (zl3 l)&&jo1 T H (zl3 l) sp.post with
   |true=>j5 (sp.g x) fun y=>match y.2 with
    | .inl z=>K (zt1 T (ze3 T (σJ (zl3 l) H.length) sp.rs z (sp.post.length+zj5 sp.post))) (zj6 T H (zl3 l) (mkP T (σJ (zl3 l) H.length) sp.post y.1 sp.post.length)++(yq6 T (σJ (zl3 l) H.length) sp.post y.1 sp.post.length++zk9 T (σJ (zl3 l) H.length) sp.rs z (sp.post.length+zj5 sp.post)))
    | .inr z=>Kp (zt1 T (ze3 T (σJ (zl3 l) H.length) [sp.pv] z (sp.post.length+zj5 sp.post))) (zj6 T H (zl3 l) (mkP T (σJ (zl3 l) H.length) sp.post y.1 sp.post.length)++(yq6 T (σJ (zl3 l) H.length) sp.post y.1 sp.post.length++zk9 T (σJ (zl3 l) H.length) [sp.pv] z (sp.post.length+zj5 sp.post)))
   |false=>none
  |none=>alt.call aS H K Kp
 q:=alt.q
 isq:=alt.isq
 wr:=fun aS H=>match yb3 T H sp.ps aS [] with|some (_,l)=>zl3 l|none=>alt.wr aS H
def kf7 (nl:Nl) (b:List PE) (rs:List Sh) (c:Sh) (a:AV T.U) (st:St T):Option (zp4 T b×(zc9 T rs⊕zc9 T [c])):=
 match rdP T (zd6 T nl.bn st.H) b 0 (zp8 b 0) with
 |some (y,l)=>match yb3 T (zd6 T nl.bn st.H) [c] [a] l with
  |some (z,l')=>match zo0 l' with|true=>some (y,.inr z)|false=>none
  |none=>none
 |none=>none
def qx2 (fn:Func) (nl:Nl) (a:List PE) (rs:List Sh) (b:Sh):Ks T (zp4 T a×(zc9 T rs⊕zc9 T [b])):=
 ⟨fun st=>j5 (yq1 T P fn nl a rs st) fun y=>some (y.1,.inl y.2),fun _ _=>none,fun st=>j5 (yq1 T P fn nl a rs st) fun y=>some (y.1,.inl y.2),kf7 T nl a rs b⟩
noncomputable def gl4 (C:Ctx T) (cuts:List (Pos×Cut)) (fn:Func) (c:Code) (nl:Nl) (ps:List Sh) (post:List PE) (rs:List Sh) (pv:Sh) (m:Nat) (x:zc9 T ps):Option (zp4 T post×(zc9 T rs⊕zc9 T [pv])):=
 evC P C fn.ntmps cuts (run P C fn.ntmps cuts c (qx2 T P fn nl post rs pv) m) c [] (qx2 T P fn nl post rs pv) ⟨yh9 T (ze3 T id ps x 0) 0,zk9 T id ps x 0⟩
end
section
variable {T:Tab} {P:Program} {w w':World} {S S':List Nat} {φ φ':Nat->RA} {w0:World} {S0:Ow} {F:AF T} {H:List (Ent T.U)} {F':PF}
def qf8 {f:FuncId} {sp:PSpec T} {alt:CallSpec T} (hok:POk T P f sp) (ha:za9 T P f alt):za9 T P f (sp.toCall alt):=by
 intro R aS H K Kp r hr w0 S0 F F' w S φ h vs hvs has;simp only [PSpec.toCall] at hr;split at hr
 ·rename_i x l hx;split at hr
  ·rename_i hb;simp only [X3] at hb;obtain ⟨hn,hro⟩:=hb;obtain ⟨y,hy,hK⟩:=za7 hr;obtain ⟨new,g1,g2,g3⟩:=ze9 sp.ps aS [] l x hx;have hl:l=new.map some:=by rw [g1.eq];rfl
   have hids:zl3 l=new:=by rw [hl,yu4]
   rw [hids] at hn hro hK;have hno:zo0 l=true:=by
    rw [hl];clear hK hro hids hx g1 g2 g3 hl;induction new with
    |nil=>rfl
    |cons i r ih=>
     rw [zc5,X3,U9] at hn;rw [U1,zo0,ih hn.2,Bool.and_true,U9];cases hm:qi6 i (r.map some) with
     |false=>rfl
     |true=>
      have:=yd5.1 hm;obtain ⟨j,hj,e⟩:=U2.1 this;simp only [X0] at e;subst e;rw [zb2.2 hj] at hn;exact absurd hn.1 (by simp)
   obtain ⟨q1,q2⟩:=g3 _ (yg6 hno);obtain ⟨hlen,hrow⟩:=zz6 hro;have hnewlen:new.length=zc1 sp.ps:=g2;obtain ⟨c0,x0,p0⟩:=S0;have hs:=(h.unpin.src (l:=l) hno (fun k hk=>by simp at hk) (fun i e hi he j hj=>by
    rw [hl] at hi;obtain ⟨i',hi',e'⟩:=U2.1 hi;simp only [X0] at e';subst e';obtain ⟨e0,h1,_,h3⟩:=g1.ents i' hi';rw [he] at h1;simp only [X0] at h1;subst h1;exact h3 j hj))
   rw [show zh7 T H (fun i=>yq0 i l) l=zd2 T H (fun i=>yq0 i l) new by rw [hl,zw2]] at hs;have hs:=(hs.imp q2).start;rw [zc8,<-hnewlen] at hs;have hφc: ∀k i,new[k]?=some i->φO l φ k=φ i:=fun k i hk=>φO_at (by rw [hl,W4,hk];rfl);have hvs':VRL T w S (φO l φ) (ze3 T id sp.ps x 0) vs:=q1.vrl (VRL.ren T (fun i hi=>φO_idx (g1.ids i hi)) hvs);have hoks: ∀a∈ze3 T id sp.ps x 0,okA (zk9 T id sp.ps x 0) a:=fun a ha=>zc7 (yc0 id _ _ _ a ha) fun i hi=>by
    have hi:=zh9 ha i hi;rw [show q7 (ze3 T id sp.ps x 0)=_ from q1.ids] at hi;rw [zc8,<-hnewlen];refine zs7 (fun j hj=>?_) i hi;have:=(X2.1 (zo6 (g1.ids j hj))).1;rw [hl,U6] at this;rw [hl];exact this
   have step: ∀(rs:List Sh) (z:zc9 T rs) (w':World) (us:List Value),qq0 T sp.post rs y.1 z w S (φO l φ) (zc1 sp.ps) w' us->
     ∃S1 φ2,Sim T w0 ⟨c0,x0,p0⟩ ⟨F,zj6 T H new (mkP T (σJ new H.length) sp.post y.1 sp.post.length)++(yq6 T (σJ new H.length) sp.post y.1 sp.post.length++zk9 T (σJ new H.length) rs z (sp.post.length+zj5 sp.post))⟩ F' w' S1 φ2/\VR T w' S1 φ2 (zt1 T (ze3 T (σJ new H.length) rs z (sp.post.length+zj5 sp.post))) (yb4 us)/\
      okA (zj6 T H new (mkP T (σJ new H.length) sp.post y.1 sp.post.length)++(yq6 T (σJ new H.length) sp.post y.1 sp.post.length++zk9 T (σJ new H.length) rs z (sp.post.length+zj5 sp.post))) (zt1 T (ze3 T (σJ new H.length) rs z (sp.post.length+zj5 sp.post))):=by
    intro rs z w' us hans;obtain ⟨F1,S1,φ1,k1,k2,k3⟩:=hans;rw [<-hnewlen] at k1;obtain ⟨φ2,m1,m2⟩:=h.join hn (fun i hi=>by obtain ⟨e,a,b,_⟩:=g1.ents i hi;exact ⟨e,a,b⟩) hφc k1 (by rw [yh7,hlen]) (fun k i e t ys hk hp=>hrow k i e t hk (yx0 hp));rw [jx8,V9,jk8,zk3] at m1;have hv2:VRL T w' S1 φ2 (ze3 T (σJ new H.length) rs z (sp.post.length+zj5 sp.post)) us:=by
     rw [<-zi0];rw [yh7,X9,yj6,zc8] at m2;generalize ze3 T id rs z (sp.post.length+zj5 sp.post)=as9 at k2 k3;clear m1 k1;induction as9 generalizing us with
     |nil=>cases us<;>exact k2
     |cons a r ih=>
      match us,k2 with
      |u::us,k2=>
       rw [zi2];exact ⟨m2 a u k2.1 fun i hi=>k3 i (by rw [q7];exact X4.2 (.inl hi)),ih _ k2.2 fun i hi=>k3 i (by rw [q7];exact X4.2 (.inr hi))⟩
    refine ⟨S1,φ2,m1,yj8 hv2,?_⟩;have hlt: ∀i∈q7 (ze3 T (σJ new H.length) rs z (sp.post.length+zj5 sp.post)),i<(zj6 T H new (mkP T (σJ new H.length) sp.post y.1 sp.post.length)++(yq6 T (σJ new H.length) sp.post y.1 sp.post.length++zk9 T (σJ new H.length) rs z (sp.post.length+zj5 sp.post))).length:=by
     rw [<-zi0];refine zs7 fun j hj=>?_;have hj:=k3 j hj;rw [X9,X9,za2,yj6,zc8];by_cases hlt:j<new.length
     ·have hs:=σJ_lo (n:=H.length) hlt;obtain ⟨e,h1,_,_⟩:=g1.ents _ (X6 hs);have:=(X2.1 h1).1;omega
     ·rw [σJ_hi (by omega)];omega
    have hne:zh1 (zt1 T (ze3 T (σJ new H.length) rs z (sp.post.length+zj5 sp.post)))=true:=by
     unfold zt1;split
     ·rename_i a hl;exact yc0 (σJ new H.length) rs z _ a (by rw [hl];simp)
     ·rfl
    refine zc7 hne fun i hi=>hlt i ?_;unfold zt1 at hi;split at hi
    ·rename_i a hl;rw [hl,q7];exact X4.2 (.inl hi)
    ·rw [AV.ids] at hi;exact hi
   refine (hok x y hy w S (φO l φ) (by rw [<-hnewlen];exact hs) vs hvs' hoks).mono fun e w' hR=>?_;cases e with
   |returned v=>
    obtain ⟨z,hz,us,hans,rfl⟩:=hR;rw [hz] at hK;exact ⟨_,_,hK,step _ z w' us hans⟩
   |panicked ch=>
    obtain ⟨z,hz,u,rfl,hans⟩:=hR;rw [hz] at hK;exact ⟨_,_,hK,u,rfl,step _ z w' [u] hans⟩
   |outgrown=>exact hR.elim
  ·cases hr
 ·exact ha aS H K Kp r hr w0 S0 F F' w S φ h vs hvs has
def kw4 {sp:PSpec T} {alt:CallSpec T} (ha:yj1 alt):yj1 (sp.toCall alt):=by
 intro R aS H K Kp r hr;simp only [PSpec.toCall] at hr;split at hr
 ·rename_i x l hx;split at hr
  ·rename_i hb;obtain ⟨y,hy,hK⟩:=za7 hr;simp only [X3] at hb;obtain ⟨hlen,hrow⟩:=zz6 hb.2;have hw:(PSpec.toCall sp alt).wr aS H=zl3 l:=by simp only [PSpec.toCall,hx]
   rw [hw];have hl:(mkP T (σJ (zl3 l) H.length) sp.post y.1 sp.post.length).length=(zl3 l).length:=by rw [yh7,hlen]
   have keeps: ∀(N:List (Ent T.U)),Keeps T (zl3 l) H (zj6 T H (zl3 l) (mkP T (σJ (zl3 l) H.length) sp.post y.1 sp.post.length)++N):=by
    intro N;refine ⟨by rw [X9,za2];omega,fun e he hn=>?_,fun e ty t ys he h=>?_⟩
    ·rw [X8 (by rw [za2];exact he)];obtain ⟨f,hf⟩: ∃f,(zj6 T H (zl3 l) (mkP T (σJ (zl3 l) H.length) sp.post y.1 sp.post.length))[e]?=some f:=⟨_,Y0 (by rw [za2];exact he)⟩;rcases zg5 _ _ H hl hf with ⟨k,g1,_⟩|⟨_,g2⟩
     ·exact absurd (X6 g1) hn
     ·rw [hf,g2]
    ·rw [X8 (by rw [za2];exact he)] at h;rcases zg5 _ _ H hl h with ⟨k,g1,g2⟩|⟨_,g2⟩
     ·exact hrow k e ty t g1 (yx0 g2)
     ·exact ⟨ys,g2⟩
   cases hz:y.2 with
   |inr z=>
    rw [hz] at hK;exact .inr ⟨_,_,hK,keeps _,fun K' Kp'=>by simp only [PSpec.toCall,hx,hb.1,hb.2,N2,hy,j5,hz]⟩
   |inl z=>
    rw [hz] at hK;exact .inl ⟨_,_,hK,keeps _,fun K' Kp'=>by simp only [PSpec.toCall,hx,hb.1,hb.2,N2,hy,j5,hz]⟩
  ·cases hr
 ·rename_i hx;have hw:(PSpec.toCall sp alt).wr aS H=alt.wr aS H:=by simp only [PSpec.toCall,hx]
  rcases ha aS H K Kp r hr with ⟨a,H1,h1,h2,h3⟩|⟨a,H1,h1,h2,h3⟩
  ·exact .inl ⟨a,H1,h1,by rw [hw];exact h2,fun K' Kp'=>by simp only [PSpec.toCall,hx,h3]⟩
  ·exact .inr ⟨a,H1,h1,by rw [hw];exact h2,fun K' Kp'=>by simp only [PSpec.toCall,hx,h3]⟩
def kx4 {C:Ctx T} {f:FuncId} {fn:Func} {c:Code} {cuts:List (Pos×Cut)} {ps rs:List Sh} {nl:Nl} {post:List PE} {pv:Sh} {g:zc9 T ps->Option (zp4 T post×(zc9 T rs⊕zc9 T [pv]))} (hm:P.follows .mixedOrders=true) (hE:za0 T P C.E)
  (hf:P.funcs[f]?=some fn) (hb:fn.body=some c) (hs:Nat.ble ps.length fn.ntmps=true) (hpin:Nat.ble (zc1 ps) C.pin=true) (hpost:Nat.beq post.length (zc1 ps)=true)
  (hg: ∀x y,g x=some y-> ∃m,gl4 T P C cuts fn c nl ps post rs pv m x=some y):POk T P f ⟨ps,post,rs,pv,g⟩:=by
 intro x y hy w S φ hsim vs hvs hoks;obtain ⟨N,hN⟩:=hg x y hy;have hpost:=X1 hpost;have hall:(ze3 T id ps x 0).length=ps.length:=by
  have: ∀(l:List Sh) (x:zc9 T l) (k:Nat),(ze3 T id l x k).length=l.length:=by
   intro l;induction l with
   |nil=>intro x k;rfl
   |cons s r ih=>intro x k;exact congrArg (· +1) (ih x.2 _)
  exact this ps x 0
 have hlen:vs.length=ps.length:=by rw [<-hvs.len T];exact hall
 have hsz:vs.length<=fn.ntmps:=by rw [hlen];exact Y1 hs
 have hfr:Fr fn.ntmps [] (je3 vs 0) {tmps:=vs.toArray++Array.replicate (fn.ntmps-vs.toArray.size) undef,defers:= []}:=by
  refine ⟨by simp;omega,rfl,fun i v hv=>?_⟩;obtain ⟨_,h2⟩:=yc9 vs 0 i v hv;simp only [J4] at h2;have hi:=(X2.1 h2).1;refine ⟨?_,by omega⟩;rw [Y7,Array.getElem?_append_left (by simpa using hi)];simp [h2]
 have hstart:=hsim.slots hvs hoks;have hpin':((List.range (zc1 ps)).map φ).length<=C.pin:=by simpa using Y1 hpin
 have key: ∀st y',yq1 T P fn nl post rs st=some y'-> ∀F1 w1,zc4 T w ⟨zd0 φ (zc1 ps),S,(List.range (zc1 ps)).map φ⟩ st F1 w1-> ∀a,Fr fn.ntmps [] F1 a-> ∃v,(results fn a.tmps).run P w1=.ok v w1/\
   ∃us,qq0 T post rs y'.1 y'.2 w S φ (zc1 ps) w1 us/\v=yb4 us:=by
  intro st0 y' hst F1 w1 hsm0 a ha;exact jk5 hpost hst hsm0 ha
 have hKs:KsOk (bodyPost P fn fun e w'=>match e with
   | .returned v=> ∃z,y.2=.inl z/\ ∃us,qq0 T post rs y.1 z w S φ (zc1 ps) w' us/\v=yb4 us
   | .panicked ch=> ∃z,y.2=.inr z/\ ∃u,ch= [{v:=u,recovered:=false}]/\qq0 T post [pv] y.1 z w S φ (zc1 ps) w' [u]
   | .outgrown=>False) fn.ntmps [] w ⟨zd0 φ (zc1 ps),S,(List.range (zc1 ps)).map φ⟩ y (qx2 T P fn nl post rs pv):=by
  refine ⟨?_,fun i st h=>(by cases h),?_,fun a st h=>?_⟩
  ·intro st hst F1 w1 hs1 a ha;obtain ⟨y',hy',he⟩:=za7 hst;simp only [X0] at he;obtain ⟨v,h1,us,h2,h3⟩:=key st y' hy' F1 w1 hs1 a ha;subst he;exact ⟨ha.defers,v,h1,_,rfl,us,h2,h3⟩
  ·intro st hst F1 w1 hs1 a ha;obtain ⟨y',hy',he⟩:=za7 hst;simp only [X0] at he;obtain ⟨v,h1,us,h2,h3⟩:=key st y' hy' F1 w1 hs1 a ha;subst he;exact ⟨ha.defers,v,h1,_,rfl,us,h2,h3⟩
  ·intro F1 w1 S1 φ1 u hsm hvr hok act ha;have h:kf7 T nl post rs pv a st=some y:=h;obtain ⟨φ1,hsm,hvr,_⟩:=zh2 nl.bn hsm (aS:= [a]) (us:= [u]) ⟨hvr,trivial⟩ (fun i hi=>hok.1 i (by simpa [q7] using hi));unfold kf7 at h;split at h<;>try (cases h;done)
   rename_i y1 l1 h1;split at h<;>try (cases h;done)
   rename_i z l2 h2;split at h<;>try (cases h;done)
   rename_i hn;simp only [X0] at h;subst h;exact ⟨ha.defers,z,rfl,u,rfl,ka4 hpost h1 h2 hn hsm hvr⟩
 exact calls_of_wp hf hb (zh3 hm hpin' hE c [] _ _ _ _ w hN hKs (JOk.run hm hpin' hE hKs N) ⟨S,φ,hstart⟩ _ hfr)
def vw3 {f b a} (h:POk T P f b) (c:za9 T P f a/\zm3 T P f a/\yj1 a):za9 T P f (b.toCall a)/\zm3 T P f (b.toCall a)/\yj1 (b.toCall a):=⟨qf8 h c.1,c.2.1,kw4 c.2.2⟩
end
end Go.X
namespace Go.X
open Go.RowKit Go.V
section
variable {T:Tab} {P:Program} {w w':World} {S S':List Nat} {φ φ':Nat->RA} {w0:World} {S0:Ow} {F:AF T} {H:List (Ent T.U)} {F':PF}
end
structure DSpec (T:Tab) where
 ps:List Sh
 rv:Sh
 post:List PE
 g:zc9 T (ps++ [rv])->Option (zp4 T post)
section
variable {T:Tab} (P:Program)
structure DefP (T:Tab) where
 depth:Nat
 sl:Nat
 live:List Nat
 pin:Nat
 g:FuncId
 cp:List (Nat×Nat)
 dr:DSpec T
 dp:DSpec T
def qc2:Op->Bool| .defer _=>false|_=>true
noncomputable def evS {R:Type} (C:Ctx T) (n:Nat) (K:Ks T R) (K2:Code->St T->Option R):Nat->Code->St T->Option R
 |0,c,st=>K2 c st
 |k+1,.seq x y,st=>evC P C n [] (fun _ _=>none) x [] (K.behind fun st=>evS C n K K2 k y st) st
 |_+1,_,_=>none
end
section
variable {T:Tab} {P:Program} {w w':World} {S S':List Nat} {φ φ':Nat->RA} {w0:World} {S0:Ow} {F:AF T} {H:List (Ent T.U)} {F':PF}
def yy6 {R:Type} {r:R} {C:Ctx T} {n:Nat} {ds:List Deferred} (hm:P.follows .mixedOrders=true) (hp:S0.pin.length<=C.pin) (hE:za0 T P C.E) {K:Ks T R} {K2:Code->St T->Option R}: ∀(k:Nat) (c:Code) (st:St T) (Q:Exit->Act->World->Prop) (F':PF) (w:World),
  evS P C n K K2 k c st=some r->KsOk Q n ds w0 S0 r K->(∀c st,K2 c st=some r-> ∀F1 w1,zc4 T w0 S0 st F1 w1-> ∀a,Fr n ds F1 a->c.wp P Q a w1)->zc4 T w0 S0 st F' w->CW P c Q n ds F' w
 |0,c,st,Q,F',w,h,hK,h2,hs=>fun a ha=>h2 c st h F' w hs a ha
 |k+1,c,st,Q,F',w,h,hK,h2,hs=>by
  cases c with
  |seq x y=>
   have h:evC P C n [] (fun _ _=>none) x [] (K.behind fun st=>evS P C n K K2 k y st) st=some r:=h;have:=zh3 hm hp hE x _ _ st _ F' w h (hK.behind (X:=y.wp P Q) fun st1 h1 F1 w1 hs1 a ha=>yy6 hm hp hE k y st1 Q F1 w1 h1 hK h2 hs1 a ha) (JOk.none _ _ _) hs;exact fun a ha=>wp_seq (this a ha)
  |_=>cases h
end
end Go.X
namespace Go.X
open Go.RowKit Go.V
section
variable {T:Tab}
end
structure KSpec (T:Tab) where
 o:Nat
 e:TypeId
 cs:List Sh
 ps:List Sh
 post:List PE
 rs:List Sh
 g:zc9 T (.ptr o e cs::ps)->Option (zp4 T (.blk e cs::post)×zc9 T rs)
section
variable {T:Tab} {P:Program}
def CallSpec.forkH {T:Tab} (c:List (AV T.U)->List (Ent T.U)->Bool) (a b:CallSpec T):CallSpec T where
 call:=fun aS H K Kp=>z8 (c aS H) (a.call aS H K Kp) (b.call aS H K Kp)
 q:=fun aS H K=>z8 (c aS H) (a.q aS H K) (b.q aS H K)
 isq:=a.isq
 wr:=fun aS H=>a.wr aS H++b.wr aS H
def CallSpec.forkS {T:Tab} (ps:List Sh) (c:zc9 T ps->Bool) (a b:CallSpec T):CallSpec T:=CallSpec.forkH (fun aS H=>match yb3 T H ps aS [] with|some (x,_)=>c x|none=>false) a b
def jv1 {f:FuncId} (c:List (AV T.U)->List (Ent T.U)->Bool) {a b:CallSpec T} (ha:za9 T P f a/\zm3 T P f a/\yj1 a) (hb:za9 T P f b/\zm3 T P f b/\yj1 b):za9 T P f (CallSpec.forkH c a b)/\zm3 T P f (CallSpec.forkH c a b)/\yj1 (CallSpec.forkH c a b):=by
 refine ⟨fun aS H K Kp r h=>?_,fun aS H K r h=>?_,fun aS H K Kp r h=>?_⟩
 ·rcases zd8 h with ⟨_,h⟩|⟨_,h⟩
  ·exact ha.1 aS H K Kp r h
  ·exact hb.1 aS H K Kp r h
 ·rcases zd8 h with ⟨_,h⟩|⟨_,h⟩
  ·exact ha.2.1 aS H K r h
  ·exact hb.2.1 aS H K r h
 ·have ec: ∀c0,c aS H=c0-> ∀ {R':Type} (K' Kp':AV T.U->List (Ent T.U)->Option R'),(CallSpec.forkH c a b).call aS H K' Kp'=z8 c0 (a.call aS H K' Kp') (b.call aS H K' Kp'):=fun c0 hc _ K' Kp'=>by
   subst hc;rfl
  have ew:(CallSpec.forkH c a b).wr aS H=a.wr aS H++b.wr aS H:=rfl;rw [ew];have kl: ∀ {H1:List (Ent T.U)},Keeps T (a.wr aS H) H H1->Keeps T (a.wr aS H++b.wr aS H) H H1:=fun h=>⟨h.len,fun e he hn=>h.same e he fun hm=>hn (X4.2 (.inl hm)),h.row⟩;have kr: ∀ {H1:List (Ent T.U)},Keeps T (b.wr aS H) H H1->Keeps T (a.wr aS H++b.wr aS H) H H1:=fun h=>⟨h.len,fun e he hn=>h.same e he fun hm=>hn (X4.2 (.inr hm)),h.row⟩;cases hc:c aS H with
  |true=>
   rw [ec _ hc] at h;have:=ha.2.2 aS H K Kp r h;rcases this with ⟨x,H1,h1,h2,h3⟩|⟨x,H1,h1,h2,h3⟩
   ·exact .inl ⟨x,H1,h1,kl h2,fun K' Kp'=>(ec _ hc K' Kp').trans (h3 K' Kp')⟩
   ·exact .inr ⟨x,H1,h1,kl h2,fun K' Kp'=>(ec _ hc K' Kp').trans (h3 K' Kp')⟩
  |false=>
   rw [ec _ hc] at h;have:=hb.2.2 aS H K Kp r h;rcases this with ⟨x,H1,h1,h2,h3⟩|⟨x,H1,h1,h2,h3⟩
   ·exact .inl ⟨x,H1,h1,kr h2,fun K' Kp'=>(ec _ hc K' Kp').trans (h3 K' Kp')⟩
   ·exact .inr ⟨x,H1,h1,kr h2,fun K' Kp'=>(ec _ hc K' Kp').trans (h3 K' Kp')⟩
def ye6 {f:FuncId} (ps:List Sh) (c:zc9 T ps->Bool) {a b:CallSpec T} (ha:za9 T P f a/\zm3 T P f a/\yj1 a) (hb:za9 T P f b/\zm3 T P f b/\yj1 b):za9 T P f (CallSpec.forkS ps c a b)/\zm3 T P f (CallSpec.forkS ps c a b)/\yj1 (CallSpec.forkS ps c a b):=jv1 _ ha hb
end
end Go.X
namespace Go.X
open Go.RowKit Go.V Go.Maps
def vq4 (x:Int):List Int->List Int
 | []=> [x]
 |y::r=>if x<=y then x::y::r else y::vq4 x r
def zk8:List Int->List Int
 | []=> []
 |x::r=>vq4 x (zk8 r)
def yz0 (x): ∀l:List Int,(vq4 x l).Perm (x::l)
 | []=>.refl _
 |y::r=>by
  unfold vq4;split
  ·exact .refl _
  ·exact ((yz0 x r).cons y).trans (.swap x y r)
def zn6: ∀l:List Int,(zk8 l).Perm l
 | []=>.refl _
 |x::r=>(yz0 x _).trans ((zn6 r).cons x)
def ja9 (x:Int): ∀ {l:List Int},l.Pairwise (· <= ·)->(vq4 x l).Pairwise (· <= ·)
 | [],_=>by simp [vq4]
 |y::r,h=>by
  unfold vq4;rw [T4] at h;split
  ·rename_i hxy;refine T4.2 ⟨fun z hz=>?_,T4.2 h⟩;rcases Z0.1 hz with rfl|hz
   ·exact hxy
   ·exact Int.le_trans hxy (h.1 z hz)
  ·rename_i hxy;refine T4.2 ⟨fun z hz=>?_,ja9 x h.2⟩;rcases Z0.1 ((yz0 x r).mem_iff.1 hz) with rfl|hz
   ·omega
   ·exact h.1 z hz
def zp7: ∀l:List Int,(zk8 l).Pairwise (· <= ·)
 | []=>.nil
 |x::r=>ja9 x (zp7 r)
def yz9: ∀ {a b:List Int},a.Perm b->a.Pairwise (· <= ·)->b.Pairwise (· <= ·)->a=b:=
 fun h c d=>List.Perm.eq_of_pairwise (le:=fun a b=>a<=b) (fun _ _ _ _ c d=>Int.le_antisymm c d) c d h
def jc8 (l:List Int):l.mergeSort (fun x y=>decide (x<=y))=zk8 l:=by
 have tr: ∀a b c:Int,decide (a<=b)=true->decide (b<=c)=true->decide (a<=c)=true:=fun a b c h1 h2=>by simp only [decide_eq_true_eq] at *;exact Int.le_trans h1 h2
 have to: ∀a b:Int,(decide (a<=b)||decide (b<=a))=true:=fun a b=>by simp only [J5,decide_eq_true_eq];exact Int.le_total a b
 refine yz9 ((List.mergeSort_perm l _).trans (zn6 l).symm) ?_ (zp7 l);exact (List.pairwise_mergeSort tr to l).imp fun h=>by simpa using h
def keysOk {α:Type} (m:List (Int×α)):Bool:=m.all (fun p=>decide (-9223372036854775808<=p.1)&&decide (p.1<=9223372036854775807))&&Nat.ble m.length 17592186044416
def zs0 {α:Type} (m:List (Int×α)):Option (((Unit×Unit)×List (Int×α)×Unit)×List Int×Unit):=match keysOk m with|true=>some ((((),()),m,()),zk8 (m.map Prod.fst),())|false=>none
section
variable {T:Tab} {P:Program}
def yv7:Value->Option (DataW Unit×List MemPlace):=fun _=>some (.nil,[])
abbrev SortedCall (P:Program) (f g:FuncId) (h i:TypeId):Prop:= ∀(c b j:Nat) (d:DataW Unit) (w:World),c<w.heap.size->w.cell? ⟨c,0,none⟩=some (.map (some b))->w.ownsMap P h yv7 b j d->Maps.size d<=17592186044416->
 Calls P f #[.func (.func g) #[] #[.pointer (some ⟨c,0,none⟩)]] w fun e w'=> ∃(v:Value) (a:List Int),e=.returned v/\a.Perm (intKeys d)/\
  w'.ownsRow w.heap.size i 1 v a.length ((a.mergeSort (fun x y=>decide (x<=y))).map encZ)/\(v=.slice none 0 0↔a= [])/\Below w.heap.size w w'
def qe9 {α} {m:List (Int×α)} (h:keysOk m=true):(∀p∈m,-9223372036854775808<=p.1/\p.1<=9223372036854775807)/\m.length<=17592186044416:=by
 unfold keysOk at h;rw [X3,Y8] at h;refine ⟨fun p a=>?_,Y1 h.2⟩;have:=h.1 p a;rwa [X3,decide_eq_true_eq,decide_eq_true_eq] at this
def qf6 {f g:FuncId} {kt et mt:TypeId} {α:Type} {en:Ent T.U} (hC:SortedCall P f g kt et) (hk:P.underlying kt=some (.int .i64)) {m:List (Int×α)} (hok:keysOk m=true)
  (hen: ∀ {w:World} {S:List Nat} {φ:Nat->RA},EntR T w S φ 1 en-> ∃g l c,(φ 1).ad=some ⟨g,0,none⟩/\Mp w g l c/\l.toList.map (fun e=>e.key)=m.map (fun p=>.int .i64 p.1)/\MapKept.Stamped l c) {w:World} {S:List Nat} {φ:Nat->RA} (hsim:Sim T w ⟨zd0 φ 2,S,(List.range 2).map φ⟩ ⟨[],[.blk mt [.mp 1],en]⟩ [] w S φ)
  {vs:List Value} (hvs:VRL T w S φ [.fn (.func g) [] [.ptr 0 0]] vs):Calls P f vs.toArray w fun e w'=>match e with
   | .returned v=> ∃(F1:PF) (S1:List Nat) (φ1:Nat->RA) (us:List Value),Sim T w ⟨zd0 φ 2,S,(List.range 2).map φ⟩ ⟨[],[.blk mt [.mp 1],en]++ [.row et (.int .i64) (zk8 (m.map Prod.fst))]⟩ F1 w' S1 φ1/\VRL T w' S1 φ1 [.own 2] us/\v=yb4 us/\ ∀i∈q7 ([.own 2]:List (AV T.U)),i<3
   |_=>False:=by
 obtain ⟨hb,hn⟩:=qe9 hok
 match vs,hvs with
 | [v],hvs=>
  obtain ⟨va,vb,rfl,h1,h2⟩:=hvs.1;obtain ⟨g0,c0,a1,a2,a3,a4⟩:=hsim.ents 0 _ rfl;obtain ⟨g1,l,c1,b1,b2,hkeys,b5⟩:=hen (hsim.ents 1 _ rfl);have hva:va= #[]:=by
   cases hl:va.toList with
   |nil=>exact Array.toList_eq_nil_iff.1 hl
   |cons _ _=>rw [hl] at h1;exact h1.elim
  subst hva;have hvb:vb= #[.pointer (some ⟨g0,0,none⟩)]:=by
   match hl:vb.toList,h2 with
   | [u],h2=>
    obtain ⟨g',e1,e2⟩:=h2.1;rw [a1] at e1;simp only [X0,Addr.mk.injEq,and_true] at e1;subst e1;rw [e2] at hl;exact T5.1 hl
  subst hvb;have hc0:w.cell? ⟨g0,0,none⟩=some (.map (some g1)):=by
   have a5:=a4.vrl T (by rfl)
   match hl:c0.toList,a5 with
   | [u],a5=>
    obtain ⟨g',e1,e2⟩:=a5.1;rw [b1] at e1;simp only [X0,Addr.mk.injEq,and_true] at e1;subst e1;have:c0= #[u]:=T5.1 hl;subst this;subst e2;unfold World.cell?;have a2:w.heap[g0]?=_:=a2;simp [a2]
  have hlen:m.length=l.toList.length:=by have:=congrArg List.length hkeys;simpa using this.symm
  have hread: ∀e∈l.toList,∃x:Int,e.key=.int .i64 x/\WideElems.rd P kt yv7 e=some (.int .i64 x,.nil):=by
   intro e he;have hm:e.key∈l.toList.map (fun e=>e.key):=U2.2 ⟨e,he,rfl⟩;rw [hkeys] at hm;obtain ⟨p,hp,hpe⟩:=U2.1 hm;have hbp:=hb p hp;refine ⟨p.1,hpe.symm,?_⟩;have hkey:keyOf P kt e.key=some (.int .i64 p.1):=by
    rw [<-hpe];have hwf:(Lit.int .i64 p.1).wf=true:=by
     simp only [Lit.wf,IntKind.min,IntKind.max,IntKind.signed,IntKind.bits];simp;omega
    simp [keyOf,hk,mapKey,hwf]
   simp [WideElems.rd,hkey,yv7]
  have hown:w.ownsMap P kt yv7 g1 l.size (.map ((l.toList.map (WideElems.rg P kt yv7)).foldr DataW.insert [])):=by
   refine ⟨l,c1,b2,⟨?_,b5,fun e he=>?_⟩,W8 _,rfl⟩
   ·rw [<-Array.length_toList,<-hlen];exact W9 hn (by decide)
   ·obtain ⟨x,_,hx⟩:=hread e he;exact ⟨_,hx⟩
  have hsize:Maps.size (.map ((l.toList.map (WideElems.rg P kt yv7)).foldr DataW.insert []):DataW Unit)<=17592186044416:=by
   rw [Maps.size_eq,length_sorted,U6,<-hlen];exact hn
  have hperm:(intKeys (.map ((l.toList.map (WideElems.rg P kt yv7)).foldr DataW.insert []):DataW Unit)).Perm (m.map Prod.fst):=by
   show (((l.toList.map (WideElems.rg P kt yv7)).foldr DataW.insert []).map fun p=>Go.intOf p.1).Perm _;refine ((WideShapes.sorted_perm _).map _).trans ?_;rw [List.map_map];have: ∀ {es:List MapEntry} {ms:List (Int×α)},(∀e∈es,∃x:Int,e.key=.int .i64 x/\WideElems.rd P kt yv7 e=some (.int .i64 x,.nil))->es.map (fun e=>e.key)=ms.map (fun p=>Value.int .i64 p.1)->es.map ((fun p:Lit×DataW Unit=>Go.intOf p.1)∘WideElems.rg P kt yv7)=ms.map Prod.fst:=by
    intro es;induction es with
    |nil=>intro ms _ h;cases ms with|nil=>rfl|cons _ _=>cases h
    |cons e r ih=>
     intro ms hr h;cases ms with
     |nil=>cases h
     |cons p q=>
      simp only [U1,List.cons.injEq] at h⊢;obtain ⟨x,h1,h2⟩:=hr e (by simp);refine ⟨?_,ih (fun e' he'=>hr e' (by simp [he'])) h.2⟩;have hx:=h.1.symm.trans h1;simp only [Value.int.injEq,true_and] at hx;simp [WideElems.rg,h2,Go.intOf,hx]
   rw [this hread hkeys]
  have hlt:g0<w.heap.size:=Blk.lt a2;refine (hC g0 g1 l.size _ w hlt hc0 hown hsize).mono ?_
  rintro e w' ⟨v,ss,rfl,hss,hrow,hnil,hbelow⟩
  have hc:=Chg.ofBelow hbelow;have hsort:ss.mergeSort (fun x y=>decide (x<=y))=zk8 (m.map Prod.fst):=by
   rw [jc8];exact yz9 ((zn6 ss).trans ((hss.trans hperm).trans (zn6 _).symm)) (zp7 _) (zp7 _)
  rw [hsort] at hrow;have hl2:ss.length=(zk8 (m.map Prod.fst)).length:=by rw [(hss.trans hperm).length_eq,(zn6 _).length_eq]
  have hcells: ∀S',CellsR T w' S' ((zk8 (m.map Prod.fst):List (den T.U (.int .i64))).flatMap (zb1 T (.int .i64))) ((zk8 (m.map Prod.fst)).map encZ):=by
   intro S';generalize zk8 (m.map Prod.fst)=ks;have hf:(ks:List (den T.U (.int .i64))).flatMap (zb1 T (.int .i64))=ks.map fun x:Int=>(⟨.int .i64,x⟩:Cell T.U):=by
    induction ks with
    |nil=>rfl
    |cons a r ih=>rw [U1,<-ih];rfl
   rw [hf];refine ⟨by simp,fun j c v h1 h2=>?_⟩;rw [W4] at h1 h2;cases hj:ks[j]? with
   |none=>rw [hj] at h1;cases h1
   |some x=>
    rw [hj] at h1 h2;simp only [Z8,X0] at h1 h2;subst h1;subst h2;exact CR.int _ _
  have hids: ∀i∈q7 ([.own 2]:List (AV T.U)),i<3:=by intro i hi;simp [q7,AV.ids] at hi;omega
  rcases id hrow.2 with ⟨rfl,hz⟩|⟨gb,cap,cur,rfl,hbase,hgb,r1,r2,r3,r4⟩
  ·have h1:=hsim.pure hc;have h2:=h1.addG (Chg.refl [] w') (by simp) (by simp) (fun _ _ _ _ _ _=>by simp) (S':=S) (fun _ h=>h) (fun _ h=>.inl h) (r:=⟨none,0,0,[]⟩) (fun a h=>by cases yf3 h) (fun a h=>by cases yf3 h) (e:=.row et (.int .i64) (zk8 (m.map Prod.fst)))
    ⟨w.heap.size,_,by rw [j6];rw [hz] at hrow;exact .of hrow,by rw [j6];exact hz.symm.trans hl2,hc.size,hcells S,fun a ha=>by rw [j6] at ha;cases ha⟩ (fun j hj=>by cases hj)
   exact ⟨_,S,_,[.slice none 0 0],h2,⟨by rw [VR,show ([Ent.blk mt [AV.mp 1],en]:List (Ent T.U)).length=2 from rfl,j6],trivial⟩,rfl,hids⟩
  ·have hgl:=(Y3.1 hgb).1;have h2:=hsim.add (g:=gb) (r:=⟨some ⟨gb,0,none⟩,ss.length,cap,[]⟩) hc hbase hgl (fun a ha=>zw1 ha) (e:=.row et (.int .i64) (zk8 (m.map Prod.fst)))
    ⟨w.heap.size,_,by rw [j6];exact .of hrow,by rw [j6];exact hl2,hc.size,hcells _,fun a ha=>by rw [j6] at ha;simp only [X0] at ha;subst ha;simp⟩ (fun j hj=>by cases hj)
   exact ⟨_,_,_,[.slice (some ⟨gb,0,none⟩) ss.length cap],h2,⟨by rw [VR,show ([Ent.blk mt [AV.mp 1],en]:List (Ent T.U)).length=2 from rfl,j6],trivial⟩,rfl,hids⟩
def PRel.keys {w S φ r k f d m g l a} (h:PRel T w S φ r k f d m g l a):l.map (fun e=>e.key)=m.map fun p=>.int k p.1:=by
 refine List.ext_getElem (by simp [h.len]) fun p c b=>?_;simp only [U6] at c b;have i:p<a.length:=by rw [<-h.lenb];exact b
 obtain ⟨x,u⟩:Int×T.U d:=m[p];have:=(h.at_ p m[p].1 m[p].2 l[p] a[p] (Y0 b) (Y0 c) (Y0 i)).1;simp [this]
def qe8 {f g j k n o d} (q:SortedCall P f g j k) (r:P.underlying j=some (.int .i64)):
  GOk T P f ⟨[.fn g [] [.ptr 0 n [.pm .i64 o d]]],[.blk n [.mpo 1],.pm .i64 o d],[.row k (.int .i64)],fun x=>zs0 x.1.2.1.1⟩:=by
 intro x y a w S φ b vs e p;have a:zs0 x.1.2.1.1=some y:=a;unfold zs0 at a;split at a<;>try (cases a;done)
 rename_i i;have a:((((),()),x.1.2.1.1,()),zk8 (x.1.2.1.1.map Prod.fst),())=y:=X5 a;subst a;refine qf6 (m:=x.1.2.1.1) q r i (fun h=>?_) b e;obtain ⟨g,l,c,z,s,t,_,u,v⟩:=h;exact ⟨g,l,c,s,t,u.keys,v⟩
end
end Go.X
