import Derived.Test.YthhhfnfgmijggaaGreatX21
namespace Go.X
open Go.RowKit Go.V
section
variable {T:Tab} {P:Program} {w w':World} {S S':List Nat} {φ φ':Nat->RA} {w0:World} {S0:Ow} {F:AF T} {H:List (Ent T.U)} {F':PF}
theorem vd8 {ps:List Sh} {post:List PE} {as:List (AV T.U)} {x:zd8 T ps} {l:Src} (hx:zp0 T H ps as []=some (x,l)) (hn:zd6 (zd4 l)=true) (hro:yi1 T H (zd4 l) post=true) (h:Sim T w0 S0 ⟨F,H⟩ F' w S φ) {vs:List Value} (hvs:VRL T w S φ as vs):
  ∃φ',Sim T w ⟨zd5 φ' (zb5 ps),S,(List.range (zb5 ps)).map φ'⟩ ⟨[],zh0 T id ps x 0⟩ [] w S φ'/\VRL T w S φ' (zc6 T id ps x 0) vs/\(∀a∈zc6 T id ps x 0,okA (zh0 T id ps x 0) a)/\
   ∀(y1:zl5 T post) (rs:List Sh) (z:zd8 T rs) (w':World) (us:List Value),ji5 T post rs y1 z w S φ' (zb5 ps) w' us->
    ∃S1 φ2,Sim T w0 S0 ⟨F,zg3 T H (zd4 l) (mkP T (σJ (zd4 l) H.length) post y1 post.length)++(ya1 T (σJ (zd4 l) H.length) post y1 post.length++zh0 T (σJ (zd4 l) H.length) rs z (post.length+zf5 post))⟩ F' w' S1 φ2/\VR T w' S1 φ2 (zk3 T (zc6 T (σJ (zd4 l) H.length) rs z (post.length+zf5 post))) (yb3 us)/\
     okA (zg3 T H (zd4 l) (mkP T (σJ (zd4 l) H.length) post y1 post.length)++(ya1 T (σJ (zd4 l) H.length) post y1 post.length++zh0 T (σJ (zd4 l) H.length) rs z (post.length+zf5 post))) (zk3 T (zc6 T (σJ (zd4 l) H.length) rs z (post.length+zf5 post))):=by
 obtain ⟨new,g1,g2,g3⟩:=ze4 ps as [] l x hx;have hl:l=new.map some:=by rw [g1.eq];rfl
 have hids:zd4 l=new:=by rw [hl,yj7]
 rw [hids] at hn hro⊢;have hno:zl4 l=true:=by
  rw [hl];clear hro hids hx g1 g2 g3 hl;induction new with
  |nil=>rfl
  |cons i r ih=>
   rw [zd6,X3,Bool.not_eq_true'] at hn;rw [List.map_cons,zl4,ih hn.2,Bool.and_true,Bool.not_eq_true'];cases hm:qm8 i (r.map some) with
   |false=>rfl
   |true=>
    have:=yd7.1 hm;obtain ⟨j,hj,e⟩:=List.mem_map.1 this;simp only [X0] at e;subst e;rw [zc5.2 hj] at hn;exact absurd hn.1 (by simp)
 obtain ⟨q1,q2⟩:=g3 _ (ye8 hno);obtain ⟨hlen,hrow⟩:=zr1 hro;have hnewlen:new.length=zb5 ps:=g2;obtain ⟨c0,x0,p0⟩:=S0;have hs:=(h.unpin.src (l:=l) hno (fun k hk=>by simp at hk) (fun i e hi he j hj=>by
  rw [hl] at hi;obtain ⟨i',hi',e'⟩:=List.mem_map.1 hi;simp only [X0] at e';subst e';obtain ⟨e0,h1,_,h3⟩:=g1.ents i' hi';rw [he] at h1;simp only [X0] at h1;subst h1;exact h3 j hj))
 rw [show zi7 T H (fun i=>yq6 i l) l=ze7 T H (fun i=>yq6 i l) new by rw [hl,zv6]] at hs;have hs:=(hs.imp q2).start;rw [zc8,<-hnewlen] at hs;have hφc: ∀k i,new[k]?=some i->φO l φ k=φ i:=fun k i hk=>φO_at (by rw [hl,W0,hk];rfl);have hvs':VRL T w S (φO l φ) (zc6 T id ps x 0) vs:=q1.vrl (VRL.ren T (fun i hi=>φO_idx (g1.ids i hi)) hvs);have hoks: ∀a∈zc6 T id ps x 0,okA (zh0 T id ps x 0) a:=fun a ha=>zd9 (zq3 id _ _ _ a ha) fun i hi=>by
  have hi:=zh1 ha i hi;rw [show w9 (zc6 T id ps x 0)=_ from q1.ids] at hi;rw [zc8,<-hnewlen];refine zk4 (fun j hj=>?_) i hi;have:=(X2.1 (zl3 (g1.ids j hj))).1;rw [hl,List.length_map] at this;rw [hl];exact this
 refine ⟨φO l φ,by rw [<-hnewlen];exact hs,hvs',hoks,?_⟩;intro y1 rs z w' us hans;obtain ⟨F1,S1,φ1,k1,k2,k3⟩:=hans;rw [<-hnewlen] at k1;obtain ⟨φ2,m1,m2⟩:=h.join hn (fun i hi=>by obtain ⟨e,a,b,_⟩:=g1.ents i hi;exact ⟨e,a,b⟩) hφc k1 (by rw [zx1,hlen]) (fun k i e t ys hk hp=>hrow k i e t hk (yp8 hp));rw [jk1,List.map_append,yw0,zi8] at m1;have hv2:VRL T w' S1 φ2 (zc6 T (σJ new H.length) rs z (post.length+zf5 post)) us:=by
  rw [<-zg1];rw [zx1,X9,zx6,zc8] at m2;generalize zc6 T id rs z (post.length+zf5 post)=as9 at k2 k3;clear m1 k1;induction as9 generalizing us with
  |nil=>cases us<;>exact k2
  |cons a r ih=>
   match us,k2 with
   |u::us,k2=>
    rw [zj5];exact ⟨m2 a u k2.1 fun i hi=>k3 i (by rw [w9];exact X4.2 (.inl hi)),ih _ k2.2 fun i hi=>k3 i (by rw [w9];exact X4.2 (.inr hi))⟩
 refine ⟨S1,φ2,m1,yd8 hv2,?_⟩;have hlt: ∀i∈w9 (zc6 T (σJ new H.length) rs z (post.length+zf5 post)),i<(zg3 T H new (mkP T (σJ new H.length) post y1 post.length)++(ya1 T (σJ new H.length) post y1 post.length++zh0 T (σJ new H.length) rs z (post.length+zf5 post))).length:=by
  rw [<-zg1];refine zk4 fun j hj=>?_;have hj:=k3 j hj;rw [X9,X9,zb0,zx6,zc8];by_cases hlt:j<new.length
  ·have hs:=σJ_lo (n:=H.length) hlt;obtain ⟨e,h1,_,_⟩:=g1.ents _ (X6 hs);have:=(X2.1 h1).1;omega
  ·rw [σJ_hi (by omega)];omega
 have hne:zi0 (zk3 T (zc6 T (σJ new H.length) rs z (post.length+zf5 post)))=true:=by
  unfold zk3;split
  ·rename_i a hl;exact zq3 (σJ new H.length) rs z _ a (by rw [hl];simp)
  ·rfl
 refine zd9 hne fun i hi=>hlt i ?_;unfold zk3 at hi;split at hi
 ·rename_i a hl;rw [hl,w9];exact X4.2 (.inl hi)
 ·rw [AV.ids] at hi;exact hi
theorem Sim.fewer {c x:List Nat} {p q:List RA} {st:St T} (h:Sim T w0 ⟨c,x,p⟩ st F' w S φ) (hq: ∀(k:Nat) (r:RA),q[k]?=some r-> ∃r',p[k]?=some r'/\RSame r' r):Sim T w0 ⟨c,x,q⟩ st F' w S φ:=
 ⟨h.fr,h.ids,h.chg,h.own,h.ex,h.lives,fun k r hk=>(hq k r hk).elim fun r' q=>⟨(h.pins k r' q.1).1.trans q.2,(h.pins k r' q.1).2⟩,h.ents,h.eids,h.apart⟩
theorem Sim.pinned {c x:List Nat} {p:List RA} {st:St T} (h:Sim T w0 ⟨c,x,p⟩ st F' w S φ) {m:Nat} (hm:m<=st.H.length):Sim T w0 ⟨c,x,(List.range m).map φ⟩ st F' w S φ:=
 ⟨h.fr,h.ids,h.chg,h.own,h.ex,h.lives,fun k r hk=>by
  have hlt:=(X2.1 hk).1;simp at hlt;simp [hlt] at hk;exact ⟨.of hk,by omega⟩,h.ents,h.eids,h.apart⟩
end
structure DSpec (T:Tab) where
 ps:List Sh
 rv:Sh
 post:List PE
 g:zd8 T (ps++ [rv])->Option (zl5 T post)
def zz2:Value->FrameMode
 | .nilIface=>.returning
 |v=>.panicking [{v:=v,recovered:=false}]
def DOk (T:Tab) (P:Program) (f:FuncId) (sp:DSpec T):Prop:=
 ∀x y,sp.g x=some y-> ∀(w:World) (S:List Nat) (φ:Nat->RA),Sim T w ⟨zd5 φ (zb5 (sp.ps++ [sp.rv])),S,(List.range (zb5 (sp.ps++ [sp.rv]))).map φ⟩ ⟨[],zh0 T id (sp.ps++ [sp.rv]) x 0⟩ [] w S φ->
 ∀(vs:List Value) (v:Value),VRL T w S φ (zc6 T id (sp.ps++ [sp.rv]) x 0) (vs++ [v])->(∀a∈zc6 T id (sp.ps++ [sp.rv]) x 0,okA (zh0 T id (sp.ps++ [sp.rv]) x 0) a)->
 CallsD P f vs.toArray (zz2 v) w fun e u' w'=>(∃v0,e=.returned v0)/\u'=(qe2 (zz2 v)).2/\ji5 T sp.post [] y () w S φ (zb5 (sp.ps++ [sp.rv])) w' []
section
variable {T:Tab} (P:Program)
def qh9 (post:List PE) (st:St T):Option (zl5 T post):=match rdP T st.H post 0 (zt1 post 0) with|some (y,l)=>(match zl4 l with|true=>some y|false=>none)|none=>none
def qa4 (post:List PE):Ks T (zl5 T post):=⟨qh9 post,fun _ _=>none,qh9 post,fun _ _=>none⟩
noncomputable def yl6 (C:Ctx T) (fn:Func) (c:Code) (ps:List Sh) (rv:Sh) (post:List PE) (x:zd8 T (ps++ [rv])):Option (zl5 T post):=
 match c with
 | .seq (.region _ ops false) rest=>match kf3 ops,(zc6 T id (ps++ [rv]) x 0)[ps.length]? with
  |some d,some a=>(match zj3 fn.ntmps (some d) with
   |true=>qp7 (fun o st K=>stepA P C o st K fun _ _=>none) ops fn.ntmps (evC P C fn.ntmps [] (fun _ _=>none) rest [] (qa4 post)) (ops.toList.drop 1) ⟨(d,a)::yb1 T ((zc6 T id (ps++ [rv]) x 0).take ps.length) 0,zh0 T id (ps++ [rv]) x 0⟩
   |false=>none)
  |_,_=>none
 |_=>none
def je9 {R:Type} (sp:DSpec T) (as:List (AV T.U)) (H:List (Ent T.U)) (K:List (Ent T.U)->Option R):Option R:=
 match zp0 T H (sp.ps++ [sp.rv]) as [] with
 |some (x,l)=>match zd6 (zd4 l)&&yi1 T H (zd4 l) sp.post with
  |true=>j7 (sp.g x) fun y=>K (zg3 T H (zd4 l) (mkP T (σJ (zd4 l) H.length) sp.post y sp.post.length)++(ya1 T (σJ (zd4 l) H.length) sp.post y sp.post.length++zh0 T (σJ (zd4 l) H.length) [] () (sp.post.length+zf5 sp.post)))
  |false=>none
 |none=>none
structure DefP (T:Tab) where
 depth:Nat
 sl:Nat
 live:List Nat
 pin:Nat
 g:FuncId
 cp:List (Nat×Nat)
 dr:DSpec T
 dp:DSpec T
def yi5 {U:Nat->Type}:List (Nat×Nat)->List (AV U)
 | []=> []
 |(i,o)::r=>.ptr i o::yi5 r
def qf8 {U:Nat->Type}:List (Nat×Nat)->List (AV U)->Bool
 | [],[]=>true
 |(i,o)::r,.ptr j p::s=>Nat.beq i j&&(Nat.beq o p&&qf8 r s)
 |_,_=>false
def wh6 {U:Nat->Type}:AV U->Bool| .ifc _ _=>true|_=>false
def qf1 (fn:Func) (nl:Nl) (post:List PE) (rs:List Sh) (D:DefP T):Ks T (zl5 T post×zd8 T rs):=
 let ret:=fun (st:St T)=>je9 D.dr (yi5 D.cp++ [.raw .nilIface]) st.H fun H1=>yf9 T P fn nl post rs ⟨st.F,H1⟩
 ⟨ret,fun _ _=>none,ret,fun a st=>match wh6 a with|true=>je9 D.dp (yi5 D.cp++ [a]) st.H fun H1=>yf9 T P fn nl post rs ⟨st.F,H1⟩|false=>none⟩
def kx8:Op->Bool| .defer _=>false|_=>true
def kg0 (o:Oper):Option Nat:=match o.op with| .defer c=>(match c.callee,c.args.toList,o.dst,o.guard with| .value (.tmp t),[],none,none=>some t|_,_,_,_=>none)|_=>none
def ge3 (ops:Array Oper) (sl:Nat):Bool:=(ops.toList.dropLast.all fun o=>kx8 o.op)&&(match ops.toList.getLast? with|some o=>(match kg0 o with|some t=>Nat.beq t sl|none=>false)|none=>false)
def vn3 {R:Type} (C:Ctx T) (Kp:AV T.U->St T->Option R) (o:Oper) (st:St T) (K:St T->Option R):Option R:=match kx8 o.op with|true=>stepA P C o st K Kp|false=>(match kg0 o with|some t=>(match st.F.get T t with|some (.fn _ [] _)=>K st|_=>none)|none=>none)
def Ctx.at (C:Ctx T) (m:Nat):Ctx T:=⟨C.ty,C.E,m,C.ms,C.lay,C.dr⟩
noncomputable def vl9 (C:Ctx T) (cuts:List (Pos×Cut)) (fn:Func) (B:Code) (nl:Nl) (post:List PE) (rs:List Sh) (D:DefP T) (m:Nat) (st:St T):Option (zl5 T post×zd8 T rs):=
 match wj1 T C.pin D.live st with
 |some st2=>match st2.F.get T D.sl with
  |some (.fn (.func g) [] caps)=>match Nat.beq g D.g&&(zq6 P g&&(qf8 D.cp caps&&((D.cp.all fun p=>Nat.blt p.1 D.pin)&&(Nat.ble C.pin D.pin&&Nat.ble D.pin st2.H.length)))) with
   |true=>evC P (C.at D.pin) fn.ntmps cuts (run P (C.at D.pin) fn.ntmps cuts B (qf1 P fn nl post rs D) m) B [] (qf1 P fn nl post rs D) st2
   |false=>none
  |_=>none
 |none=>none
noncomputable def gd5 (C:Ctx T) (cuts:List (Pos×Cut)) (fn:Func) (nl:Nl) (post:List PE) (rs:List Sh) (D:DefP T) (m:Nat) (c:Code) (st:St T):Option (zl5 T post×zd8 T rs):=
 match c with
 | .seq (.region _ ops false) B=>match ge3 ops D.sl with
  |true=>qp7 (vn3 P C fun _ _=>none) ops fn.ntmps (vl9 P C cuts fn B nl post rs D m) ops.toList st
  |false=>none
 |_=>none
noncomputable def evS {R:Type} (C:Ctx T) (n:Nat) (K:Ks T R) (K2:Code->St T->Option R):Nat->Code->St T->Option R
 |0,c,st=>K2 c st
 |k+1,.seq x y,st=>evC P C n [] (fun _ _=>none) x [] (K.behind fun st=>evS C n K K2 k y st) st
 |_+1,_,_=>none
def vq7:Nat->Code->Code
 |0,.seq _ B=>B
 |k+1,.seq _ y=>vq7 k y
 |_,_=>.skip
noncomputable def kj2 (C:Ctx T) (cuts:List (Pos×Cut)) (fn:Func) (c:Code) (nl:Nl) (ps:List Sh) (post:List PE) (rs:List Sh) (D:DefP T) (m:Nat) (x:zd8 T ps):Option (zl5 T post×zd8 T rs):=
 evS P C fn.ntmps (jd9 T P fn nl post rs) (gd5 P C cuts fn nl post rs D m) D.depth c ⟨yb1 T (zc6 T id ps x 0) 0,zh0 T id ps x 0⟩
noncomputable def uz6 (C:Ctx T) (cuts:List (Pos×Cut)) (fn:Func) (c:Code) (nl:Nl) (post:List PE) (rs:List Sh) (D:DefP T) (m:Nat) (q:Pos) (st:St T):Option (zl5 T post×zd8 T rs):=
 run P (C.at D.pin) fn.ntmps cuts (vq7 D.depth c) (qf1 P fn nl post rs D) m q st
end
section
variable {T:Tab} {P:Program} {w w':World} {S S':List Nat} {φ φ':Nat->RA} {w0:World} {S0:Ow} {F:AF T} {H:List (Ent T.U)} {F':PF}
theorem VRL.snoc_inv {as:List (AV T.U)} {a:AV T.U}: ∀ {vs:List Value} {v:Value},VRL T w S φ (as++ [a]) (vs++ [v])->VRL T w S φ as vs/\VR T w S φ a v:=by
 induction as with
 |nil=>
  intro vs v h
  match vs,h with
  | [],h=>exact ⟨trivial,h.1⟩
  |u::vs,h=>exact absurd (h.2.len T) (by simp)
 |cons b r ih=>
  intro vs v h
  match vs,h with
  | [],h=>exact absurd (VRL.len T h) (by simp)
  |u::vs,h=>obtain ⟨h1,h2⟩:=ih h.2;exact ⟨⟨h.1,h1⟩,h2⟩
theorem jq3 (σ:Nat->Nat): ∀(l:List Sh) (x:zd8 T l) (k:Nat),(zc6 T σ l x k).length=l.length
 | [],x,k=>rfl
 |s::r,x,k=>congrArg (· +1) (jq3 σ r x.2 _)
theorem vp0 {fn:Func} (hres:fn.results.isEmpty=true) (a:Array Value) (w:World):(results fn a).run P w=.ok (.tuple #[]) w:=by
 have:fn.results= #[]:=by simpa using hres
 unfold results;rw [this,Array.mapM_eq_mapM_toList];simp [Sem.run_bind,Sem.run_map]
theorem yd9 {C:Ctx T} {f:FuncId} {fn:Func} {c:Code} {ps:List Sh} {rv:Sh} {post:List PE} {g:zd8 T (ps++ [rv])->Option (zl5 T post)} (hm:P.follows .mixedOrders=true) (hE:v7 T P C.E)
  (hf:P.funcs[f]?=some fn) (hb:fn.body=some c) (hs:Nat.ble ps.length fn.ntmps=true) (hpin:Nat.ble (zb5 (ps++ [rv])) C.pin=true) (hpost:Nat.beq post.length (zb5 (ps++ [rv]))=true) (hres:fn.results.isEmpty=true)
  (hg: ∀x y,g x=some y->yl6 P C fn c ps rv post x=some y):DOk T P f ⟨ps,rv,post,g⟩:=by
 intro x y hy w S φ hsim vs v hvs hoks;have hN:=hg x y hy;have hpost:=X1 hpost;have hall:(zc6 T id (ps++ [rv]) x 0).length=ps.length+1:=by rw [jq3];simp
 unfold yl6 at hN;split at hN<;>try (cases hN;done)
 rename_i rid ops rest;split at hN<;>try (cases hN;done)
 rename_i d a hd ha;split at hN<;>try (cases hN;done)
 rename_i hdn;simp only at hvs hoks hsim;have hsplit:zc6 T id (ps++ [rv]) x 0=(zc6 T id (ps++ [rv]) x 0).take ps.length++ [a]:=by
  conv=>lhs;rw [<-Q7 ps.length (zc6 T id (ps++ [rv]) x 0)]
  congr 1;obtain ⟨hlt,hg⟩:=X2.1 ha;rw [List.drop_eq_getElem_cons hlt,hg,List.drop_eq_nil_of_le (by omega)]
 rw [hsplit] at hvs;obtain ⟨hv1,hv2⟩:=hvs.snoc_inv;have hlen:vs.length=ps.length:=by rw [<-hv1.len T,Y6,hall];omega
 have hsz:vs.length<=fn.ntmps:=by rw [hlen];exact Y1 hs
 have hfr:Fr fn.ntmps [] (jk5 vs 0) {tmps:=vs.toArray++Array.replicate (fn.ntmps-vs.toArray.size) undef,defers:= []}:=by
  refine ⟨by simp;omega,rfl,fun i v hv=>?_⟩;obtain ⟨_,h2⟩:=yk2 vs 0 i v hv;simp only [Nat.sub_zero] at h2;have hi:=(X2.1 h2).1;refine ⟨?_,by omega⟩;rw [Y7,Array.getElem?_append_left (by simpa using hi)];simp [h2]
 have hstart:=hsim.slots hv1 (fun b hb=>hoks b (List.mem_of_mem_take hb));have hpin':((List.range (zb5 (ps++ [rv]))).map φ).length<=C.pin:=by simpa using Y1 hpin
 have hrec:qe2 (zz2 v)=(v,(qe2 (zz2 v)).2):=by
  unfold zz2;split
  ·rfl
  ·rfl
 refine qj6 hf hb rfl hfr d hd hdn hrec fun K hK=>?_;have hok:okA (zh0 T id (ps++ [rv]) x 0) a:=hoks a (by rw [hsplit];simp);have hst2:Sim T w ⟨zd5 φ (zb5 (ps++ [rv])),S,(List.range (zb5 (ps++ [rv]))).map φ⟩ ⟨(d,a)::yb1 T ((zc6 T id (ps++ [rv]) x 0).take ps.length) 0,zh0 T id (ps++ [rv]) x 0⟩ (upd (jk5 vs 0) (some d) v) w S φ:=hstart.slot (dst:=some d) hv2 hok;have hKs:KsOk (bodyPost P fn fun e w'=>(∃v0,e=.returned v0)/\(qe2 (zz2 v)).2=(qe2 (zz2 v)).2/\ji5 T post [] y () w S φ (zb5 (ps++ [rv])) w' []) fn.ntmps [] w ⟨zd5 φ (zb5 (ps++ [rv])),S,(List.range (zb5 (ps++ [rv]))).map φ⟩ y (qa4 post):=by
  have key: ∀st,qh9 post st=some y-> ∀F1 w1,zc7 T w ⟨zd5 φ (zb5 (ps++ [rv])),S,(List.range (zb5 (ps++ [rv]))).map φ⟩ st F1 w1->ji5 T post [] y () w S φ (zb5 (ps++ [rv])) w1 []:=by
   intro st hst F1 w1 hs1;obtain ⟨S1,φ1,hs1⟩:=hs1;unfold qh9 at hst;split at hst<;>try (cases hst;done)
   rename_i y1 l1 h1;split at hst<;>try (cases hst;done)
   rename_i hn;simp only [X0] at hst;subst hst;exact vj5 hpost h1 (rs:= []) (as:= []) (z:=()) (l2:=l1) rfl hn hs1 trivial
  refine ⟨?_,fun i st h=>(by cases h),?_,fun a st h=>(by cases h)⟩
  ·intro st hst F1 w1 hs1 a ha;exact ⟨ha.defers,_,vp0 hres _ _,⟨_,rfl⟩,rfl,key st hst F1 w1 hs1⟩
  ·intro st hst F1 w1 hs1 a ha;exact ⟨ha.defers,_,vp0 hres _ _,⟨_,rfl⟩,rfl,key st hst F1 w1 hs1⟩
 refine yo5 (w0:=w) (S0:=⟨zd5 φ (zb5 (ps++ [rv])),S,(List.range (zb5 (ps++ [rv]))).map φ⟩) (r:=y) (stp:=fun o st K=>stepA P C o st K fun _ _=>none)
  (K:=evC P C fn.ntmps [] (fun _ _=>none) rest [] (qa4 post))
  (fun k F' w2=>WR P ops (Exit.then K (bodyPost P fn fun e w'=>(∃v0,e=.returned v0)/\(qe2 (zz2 v)).2=(qe2 (zz2 v)).2/\ji5 T post [] y () w S φ (zb5 (ps++ [rv])) w' [])) k fn.ntmps [] F' w2) ?_ ?_ ?_ (ops.toList.drop 1) 1 rfl _ _ _ _ S φ hN hst2
 ·intro k o F1 H1 F1' w1 S1 φ1 K hd hs h HK;exact zg8 hE hd hs h (fun st hst F1 w1 ⟨S1,φ1,h1⟩=>HK st hst F1 w1 S1 φ1 h1) fun a st h=>(by cases h)
 ·intro k dst F' w hp K;exact WR.pass1 hp K
 ·intro k st F1' w1 S1 φ1 hk hst h;refine .fin (W2 hk) fun a ha=>hK a w1 ?_;exact zf2 hm hpin' hE rest [] _ st _ F1' w1 hst hKs (JOk.none _ _ _) ⟨S1,φ1,h⟩ a ha
theorem jw8 {R:Type} {r:R} {C:Ctx T} {n:Nat} {ds:List Deferred} (hm:P.follows .mixedOrders=true) (hp:S0.pin.length<=C.pin) (hE:v7 T P C.E) {K:Ks T R} {K2:Code->St T->Option R}: ∀(k:Nat) (c:Code) (st:St T) (Q:Exit->Act->World->Prop) (F':PF) (w:World),
  evS P C n K K2 k c st=some r->KsOk Q n ds w0 S0 r K->(∀c st,K2 c st=some r-> ∀F1 w1,zc7 T w0 S0 st F1 w1-> ∀a,Fr n ds F1 a->c.wp P Q a w1)->zc7 T w0 S0 st F' w->CW P c Q n ds F' w
 |0,c,st,Q,F',w,h,hK,h2,hs=>fun a ha=>h2 c st h F' w hs a ha
 |k+1,c,st,Q,F',w,h,hK,h2,hs=>by
  cases c with
  |seq x y=>
   have h:evC P C n [] (fun _ _=>none) x [] (K.behind fun st=>evS P C n K K2 k y st) st=some r:=h;have:=zf2 hm hp hE x _ _ st _ F' w h (hK.behind (X:=y.wp P Q) fun st1 h1 F1 w1 hs1 a ha=>jw8 hm hp hE k y st1 Q F1 w1 h1 hK h2 hs1 a ha) (JOk.none _ _ _) hs;exact fun a ha=>wp_seq (this a ha)
  |_=>cases h
theorem jz6: ∀ {cp:List (Nat×Nat)} {caps:List (AV T.U)},qf8 cp caps=true->caps=yi5 cp
 | [],[],_=>rfl
 | [],_::_,h=>by cases h
 |(i,o)::r,[],h=>by cases h
 |(i,o)::r,a::s,h=>by
  cases a<;>try (cases h;done)
  simp only [qf8,X3] at h;rw [<-X1 h.1,<-X1 h.2.1,jz6 h.2.2];rfl
theorem jw7: ∀ {cp:List (Nat×Nat)} {vs:List Value} {m:Nat},(cp.all fun p=>Nat.blt p.1 m)=true->VRL T w S φ (yi5 cp) vs->(∀k,k<m->RSame (φ' k) (φ k))->VRL T w' S' φ' (yi5 cp) vs
 | [],[],_,_,_,_=>trivial
 | [],_::_,_,_,h,_=>h.elim
 |_::_,[],_,_,h,_=>h.elim
 |(i,o)::r,v::s,m,hb,h,hφ=>by
  rw [List.all_cons,X3] at hb;obtain ⟨⟨g,h1,h2⟩,h3⟩:=h;have hi:i<m:=by have:=hb.1;simpa [Nat.blt_eq] using this
  exact ⟨⟨g,(hφ i hi).1.trans h1,h2⟩,jw7 hb.2 h3 hφ⟩
theorem vc6 {o:Oper} {sl:Nat} (h:kg0 o=some sl): ∃c,o.op=.defer c/\c.callee=.value (.tmp sl)/\c.args= #[]/\o.dst=none/\o.guard=none:=by
 unfold kg0 at h;split at h
 ·rename_i c hop;split at h
  ·rename_i h1 h2 h3 h4;simp only [X0] at h;subst h;exact ⟨c,hop,h1,by simpa using h2,h3,h4⟩
  ·cases h
 ·cases h
theorem ys5 {R:Type} {r:R} {sp:DSpec T} {g:FuncId} (hok:DOk T P g sp) {as:List (AV T.U)} {a:AV T.U} {K:List (Ent T.U)->Option R} (h:je9 sp (as++ [a]) H K=some r) (hs:Sim T w0 S0 ⟨F,H⟩ F' w S φ) {vs:List Value} {v:Value} (hvs:VRL T w S φ as vs) (hv:VR T w S φ a v):
  ∃H1,K H1=some r/\CallsD P g vs.toArray (zz2 v) w fun e u' w'=>(∃v0,e=.returned v0)/\u'=(qe2 (zz2 v)).2/\zc7 T w0 S0 ⟨F,H1⟩ F' w':=by
 unfold je9 at h;split at h<;>try (cases h;done)
 rename_i x l hx;split at h<;>try (cases h;done)
 rename_i hb;rw [X3] at hb;obtain ⟨y,hy,hK⟩:=zb3 h;obtain ⟨φ',k1,k2,k3,k4⟩:=vd8 hx hb.1 hb.2 hs (hvs.append (show VRL T w S φ [a] [v] from ⟨hv,trivial⟩));refine ⟨_,hK,(hok x y hy w S φ' k1 vs v k2 k3).mono fun e u' w' hR=>?_⟩;obtain ⟨h1,h2,h3⟩:=hR;obtain ⟨S1,φ2,h4,_⟩:=k4 y [] () w' [] h3;exact ⟨h1,h2,S1,φ2,h4⟩
theorem yp3 {C:Ctx T} {f:FuncId} {fn:Func} {c:Code} {cuts:List (Pos×Cut)} {ps rs:List Sh} {nl:Nl} {post:List PE} {D:DefP T} {g:zd8 T ps->Option (zl5 T post×zd8 T rs)} (hm:P.follows .mixedOrders=true) (hE:v7 T P C.E)
  (hf:P.funcs[f]?=some fn) (hb:fn.body=some c) (hs:Nat.ble ps.length fn.ntmps=true) (hpin:Nat.ble (zb5 ps) C.pin=true) (hpost:Nat.beq post.length (zb5 ps)=true) (hdr:DOk T P D.g D.dr) (hdp:DOk T P D.g D.dp)
  (hg: ∀x y,g x=some y-> ∃m,kj2 P C cuts fn c nl ps post rs D m x=some y):GOk T P f ⟨ps,post,rs,g⟩:=by
 intro x y hy w S φ hsim vs hvs hoks;obtain ⟨N,hN⟩:=hg x y hy;have hpost:=X1 hpost;have hall:(zc6 T id ps x 0).length=ps.length:=jq3 id ps x 0;have hlen:vs.length=ps.length:=by rw [<-hvs.len T];exact hall
 have hsz:vs.length<=fn.ntmps:=by rw [hlen];exact Y1 hs
 have hfr:Fr fn.ntmps [] (jk5 vs 0) {tmps:=vs.toArray++Array.replicate (fn.ntmps-vs.toArray.size) undef,defers:= []}:=by
  refine ⟨by simp;omega,rfl,fun i v hv=>?_⟩;obtain ⟨_,h2⟩:=yk2 vs 0 i v hv;simp only [Nat.sub_zero] at h2;have hi:=(X2.1 h2).1;refine ⟨?_,by omega⟩;rw [Y7,Array.getElem?_append_left (by simpa using hi)];simp [h2]
 have hstart:=hsim.slots hvs hoks;have hpin1:=Y1 hpin;have hpin':((List.range (zb5 ps)).map φ).length<=C.pin:=by simpa using hpin1
 generalize hR0:(fun (e:Ending) (w':World)=>match e with
   | .returned v=> ∃us,ji5 T post rs y.1 y.2 w S φ (zb5 ps) w' us/\v=yb3 us
   |_=>False)=R0
 have hcalls:Calls P f vs.toArray w R0:=by
  have hKs:KsOk (bodyPostD P fn R0) fn.ntmps [] w ⟨zd5 φ (zb5 ps),S,(List.range (zb5 ps)).map φ⟩ y (jd9 T P fn nl post rs):=by
   have key: ∀st,yf9 T P fn nl post rs st=some y-> ∀F1 w1,zc7 T w ⟨zd5 φ (zb5 ps),S,(List.range (zb5 ps)).map φ⟩ st F1 w1-> ∀a,Fr fn.ntmps [] F1 a->Leaves P fn a.tmps R0 a.defers .returning w1:=by
    intro st hst F1 w1 hs1 a ha;obtain ⟨v,h1,us,h2,h3⟩:=yu3 hpost hst hs1 ha;rw [ha.defers];exact ⟨v,h1,by subst hR0;exact ⟨us,h2,h3⟩⟩
   exact ⟨key,fun i st h=>(by cases h),key,fun a st h=>(by cases h)⟩
  refine calls_of_wp_defers hf hb (jw8 hm hpin' hE D.depth c _ _ _ w hN hKs ?_ ⟨S,φ,hstart⟩ _ hfr);clear hN hstart hfr hKs;intro c2 st hst F1 w1 hs1 a ha;obtain ⟨S1,φ1,hs1⟩:=hs1;unfold gd5 at hst;split at hst<;>try (cases hst;done)
  rename_i rid ops B;split at hst<;>try (cases hst;done)
  rename_i hdo;unfold ge3 at hdo;rw [X3] at hdo;obtain ⟨hd1,hd2⟩:=hdo;split at hd2<;>try (cases hd2;done)
  rename_i olast hlast;split at hd2<;>try (cases hd2;done)
  rename_i sl0 hsl;have:=X1 hd2;subst this;obtain ⟨cl,hop,hcal,hargs,hdst,hgd⟩:=vc6 hsl;have hlast':ops.toList=ops.toList.dropLast++ [olast]:=by
   have hne:ops.toList≠ []:=by intro e;rw [e] at hlast;cases hlast
   rw [List.getLast?_eq_some_getLast hne] at hlast;simp only [X0] at hlast;rw [<-hlast];exact (List.dropLast_concat_getLast hne).symm
  have hsize:ops.size=ops.toList.dropLast.length+1:=by
   have:=congrArg List.length hlast';rw [X9] at this;simpa using this
  refine wp_seq (CW.region (P:=P) (Q:=Exit.then (B.wp P (bodyPostD P fn R0)) (bodyPostD P fn R0)) (n:=fn.ntmps) (ds:= []) (F:=F1) (w:=w1) ?_ a ha);have hgen:=yo5 (w0:=w) (S0:=⟨zd5 φ (zb5 ps),S,(List.range (zb5 ps)).map φ⟩) (r:=y) (ops:=ops) (n:=fn.ntmps) (stp:=vn3 P C fun _ _=>none) (K:=vl9 P C cuts fn B nl post rs D N)
   (fun k F' w2=>(k<ops.size->WR P ops (Exit.then (B.wp P (bodyPostD P fn R0)) (bodyPostD P fn R0)) k fn.ntmps [] F' w2)/\
    (k=ops.size-> ∀fv caps,F'.get D.sl=some (.func fv #[] caps)->WR P ops (Exit.then (B.wp P (bodyPostD P fn R0)) (bodyPostD P fn R0)) k fn.ntmps [{target:=.fn fv caps,args:= #[]}] F' w2)) ?_ ?_ ?_ ops.toList 0 rfl _ _ _ _ S1 φ1 hst hs1
  ·exact hgen.1 (by omega)
  ·intro k o F2 H2 F2' w2 S2 φ2 K hd hs h HK;have hk:=(zm2 hd).1;have hlt:=(Y3.1 hk).1;refine ⟨fun _=>?_,fun e=>absurd hlt (by omega)⟩;unfold vn3 at hs;split at hs
   ·rename_i hnd;have hne:k+1≠ops.size:=by
     intro e;have:ops.toList[k]?=some olast:=by
      rw [hlast',Z2 (by omega),show k-ops.toList.dropLast.length=0 by omega];rfl
     rw [show ops.toList[k]?=some o by simpa using hk] at this;simp only [X0] at this;subst this;rw [hop] at hnd;cases hnd
    exact zg8 hE hd hs h (fun st hst F1 w1 ⟨S1,φ1,h1⟩=>(HK st hst F1 w1 S1 φ1 h1).1 (by omega)) fun a st h=>(by cases h)
   ·rename_i hnd;have hko:k+1=ops.size:=by
     apply Classical.byContradiction;intro hne;have hmem:o∈ops.toList.dropLast:=by
      have h1:ops.toList[k]?=some o:=by simpa using hk
      rw [hlast',X8 (by omega)] at h1;exact X6 h1
     have:=Y8.1 hd1 o hmem;rw [this] at hnd;cases hnd
    have hol:o=olast:=by
     have:ops.toList[k]?=some olast:=by
      rw [hlast',Z2 (by omega),show k-ops.toList.dropLast.length=0 by omega];rfl
     rw [show ops.toList[k]?=some o by simpa using hk] at this;simpa using this
    subst hol;rw [hsl] at hs;simp only at hs;split at hs<;>try (cases hs;done)
    rename_i fv caps hF;obtain ⟨v,hv1,va,vb,rfl,hv2,hv3⟩:=h.fr _ _ hF;have hva:va= #[]:=by
     have:=hv2.len T;simpa using this.symm
    subst hva;have hG:=(HK ⟨F2,H2⟩ hs F2' w2 S2 φ2 h).2 hko fv vb hv1;have hev:evD F2' (.tmp D.sl)=.func fv #[] vb:=by simp [evD,ev,hv1]
    have hrun:yi2 P ops k fn.ntmps F2' w2=some (o.dst,.ok (.defer {target:=.fn fv vb,args:= #[]}) w2):=by
     unfold yi2;rw [hd];simp [execOp,hop,resolve,hcal,hargs,hev,Deferred.ofValue]
    refine WR.defer hrun ?_;rw [hdst];exact hG
  ·intro k dst F' w2 hp hG;refine ⟨fun hlt=>?_,fun e=>?_⟩
   ·by_cases hk:k+1<ops.size
    ·exact WR.pass1 hp (hG.1 hk)
    ·exfalso;have hko:k+1=ops.size:=by omega
     unfold ya8 at hp;have:ops[k]?=some olast:=by
      have:ops.toList[k]?=some olast:=by
       rw [hlast',Z2 (by omega),show k-ops.toList.dropLast.length=0 by omega];rfl
      simpa using this
     rw [this] at hp;simp [zw1,hgd] at hp
   ·exfalso;unfold ya8 at hp;rw [Array.getElem?_eq_none (by omega)] at hp;cases hp
  ·intro k st F2' w2 S2 φ2 hk hst h;refine ⟨fun hlt=>absurd hlt (by omega),fun _ fv capsV hget=>.fin (W2 hk) fun a ha=>?_⟩;show B.wp P (bodyPostD P fn R0) a w2;unfold vl9 at hst;split at hst<;>try (cases hst;done)
   rename_i st2 htr;obtain ⟨S3,φ3,h3⟩:=jh4 (S0:=⟨zd5 φ (zb5 ps),S,(List.range (zb5 ps)).map φ⟩) hpin' ⟨S2,φ2,h⟩ htr;split at hst<;>try (cases hst;done)
   rename_i g0 caps hF;split at hst<;>try (cases hst;done)
   rename_i hb;simp only [X3] at hb;obtain ⟨hb1,hb2,hb3,hb4,hb5,hb6⟩:=hb;have:=X1 hb1;subst this;have:=jz6 hb3;subst this;have hb5:=Y1 hb5;have hb6:=Y1 hb6;obtain ⟨v,hv1,va,vb,rfl,hv2,hv3⟩:=h3.fr _ _ hF;rw [hget] at hv1;simp only [X0,Value.func.injEq] at hv1;obtain ⟨rfl,_,rfl⟩:=hv1;have h3p:=h3.pinned hb6;have hphi: ∀k,k<zb5 ps->RSame (φ3 k) (φ k):=fun k hk=>(h3.pins k (φ k) (by simp [hk])).1;have caps4: ∀ {st4:St T} {F4:PF} {w4:World} {S4:List Nat} {φ4:Nat->RA},Sim T w ⟨zd5 φ (zb5 ps),S,(List.range D.pin).map φ3⟩ st4 F4 w4 S4 φ4->VRL T w4 S4 φ4 (yi5 D.cp) capsV.toList:=fun h4=>
    jw7 hb4 hv3 fun k hk=>(h4.pins k (φ3 k) (by simp [hk])).1
   have back: ∀ {st4:St T} {F4:PF} {w4:World} {a4:Act},yf9 T P fn nl post rs st4=some y->zc7 T w ⟨zd5 φ (zb5 ps),S,(List.range D.pin).map φ3⟩ st4 F4 w4->Fr fn.ntmps [{target:=.fn (.func D.g) capsV,args:= #[]}] F4 a4-> ∃v,(results fn a4.tmps).run P w4=.ok v w4/\R0 (.returned v) w4:=by
    intro st4 F4 w4 a4 hl hs4 ha4;obtain ⟨S4,φ4,hs4⟩:=hs4;have hs5:=hs4.fewer (q:=(List.range (zb5 ps)).map φ) fun k r hk=>by
     have hlt:=(X2.1 hk).1;simp at hlt;simp [hlt] at hk;subst hk;have:k<D.pin:=by omega
     exact ⟨φ3 k,by simp [this],hphi k hlt⟩
    obtain ⟨v,k1,us,k2,k3⟩:=yu3 hpost hl ⟨S4,φ4,hs5⟩ ha4;exact ⟨v,k1,by subst hR0;exact ⟨us,k2,k3⟩⟩
   have hinv: ∀w4,(invoke (.fn (.func D.g) capsV) #[]).run P w4=.ok (.enter D.g capsV) w4:=fun w4=>by simp [invoke,yo7 hb2]
   have hKs2:KsOk (bodyPostD P fn R0) fn.ntmps [{target:=.fn (.func D.g) capsV,args:= #[]}] w ⟨zd5 φ (zb5 ps),S,(List.range D.pin).map φ3⟩ y (qf1 P fn nl post rs D):=by
    have ret: ∀st,je9 D.dr (yi5 D.cp++ [.raw .nilIface]) st.H (fun H1=>yf9 T P fn nl post rs ⟨st.F,H1⟩)=some y-> ∀F1 w1,zc7 T w ⟨zd5 φ (zb5 ps),S,(List.range D.pin).map φ3⟩ st F1 w1-> ∀a,Fr fn.ntmps [{target:=.fn (.func D.g) capsV,args:= #[]}] F1 a->Leaves P fn a.tmps R0 a.defers .returning w1:=by
     intro st4 hst4 F4 w4 hs4 a4 ha4;obtain ⟨S4,φ4,hs4⟩:=hs4;obtain ⟨H1,hK1,hc⟩:=ys5 hdr hst4 hs4 (caps4 hs4) (show VR T w4 S4 φ4 (.raw .nilIface) .nilIface from rfl);rw [ha4.defers];refine ⟨by simp,_,_,_,_,rfl,hinv w4,?_⟩;refine hc.mono fun e u' w' hR=>?_;obtain ⟨⟨v0,rfl⟩,rfl,hS⟩:=hR;exact back hK1 hS ha4
    refine ⟨ret,fun i st h=>(by cases h),ret,fun a st hst4=>?_⟩;intro F4 w4 S4 φ4 v hs4 hv hok a4 ha4;have hst4:(match wh6 a with|true=>je9 D.dp (yi5 D.cp++ [a]) st.H fun H1=>yf9 T P fn nl post rs ⟨st.F,H1⟩|false=>none)=some y:=hst4;split at hst4<;>try (cases hst4;done)
    rename_i hif;obtain ⟨t,u,rfl⟩: ∃t u,v=.iface t u:=by
     cases a<;>try (cases hif;done)
     obtain ⟨u,rfl,_⟩:=hv;exact ⟨_,u,rfl⟩
    obtain ⟨H1,hK1,hc⟩:=ys5 hdp hst4 hs4 (caps4 hs4) hv;show Leaves P fn a4.tmps R0 a4.defers (.panicking [{v:=.iface t u,recovered:=false}]) w4;rw [ha4.defers];refine ⟨by simp,_,_,_,_,rfl,hinv w4,?_⟩;refine hc.mono fun e u' w' hR=>?_;obtain ⟨⟨v0,rfl⟩,rfl,hS⟩:=hR;exact back hK1 hS ha4
   exact zf2 (C:=C.at D.pin) (S0:=⟨zd5 φ (zb5 ps),S,(List.range D.pin).map φ3⟩) hm (show ((List.range D.pin).map φ3).length<=D.pin by simp) hE B [] _ st2 _ F2' w2 hst hKs2 (JOk.run (C:=C.at D.pin) hm (show ((List.range D.pin).map φ3).length<=D.pin by simp) hE hKs2 N) ⟨S3,φ3,h3p⟩ a ha
 subst hR0;refine hcalls.mono fun e w' hR=>?_;cases e with
 |returned v=>
  obtain ⟨us,⟨F1,S1,φ1,k1,k2,k3⟩,k4⟩:=hR;exact ⟨F1,S1,φ1,us,k1,k2,k4,k3⟩
 |panicked ch=>exact hR.elim
 |outgrown=>exact hR.elim
end
end Go.X
