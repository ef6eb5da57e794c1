import Derived.Test.YthhhfnfgmijggaaGreatXZ
namespace Go.X
open Go.RowKit Go.V
def q7 {R:Type} (c:Bool) (x y:Option R):Option R:=if c=true then x else y
theorem zn3 {R:Type} {c:Bool} {x y:Option R} {r:R} (h:q7 c x y=some r):(c=true/\x=some r)\/(c=false/\y=some r):=by
 unfold q7 at h;cases c with
 |true=>exact .inl ⟨rfl,by simpa using h⟩
 |false=>exact .inr ⟨rfl,by simpa using h⟩
section
variable {T:Tab} (P:Program) (C:Ctx T) {R:Type}
def zr3 (F:AF T) (o:Oper):Bool:=o.op.operands.toList.all fun x=>(aev T F x).isSome
def kf8 (ops:Array Oper) (j:Nat):Option Tmp:=(ops[j]?).bind (·.dst)
def wl1 (c:Call) (st:St T) (K:AV T.U->Option R):Option R:=
 match zu7 T st.F c.args.toList with
 |none=>none
 |some as=>
  match c.callee with
  | .value f=>match aev T st.F f with
   |some (.fn (.func g) first caps)=>match zq6 P g,qf0 C.E g with
    |true,some cs=>match (first++as++caps).all zi0 with|true=>cs.q (first++as++caps) st.H K|false=>none
    |_,_=>none
   |_=>none
  |_=>none
def ki4 (o:Oper) (st:St T) (K:AV T.U->Option R):Option R:=
 match o.op with
 | .call c=>match stepA.reads c with
  |true=>zv9 P o st K
  |false=>wl1 P C c st K
 |_=>zv9 P o st K
def qp7 (stp:Oper->St T->(St T->Option R)->Option R) (ops:Array Oper) (n:Nat) (K:St T->Option R):List Oper->St T->Option R
 | [],st=>K st
 |o::r,st=>
  let take:=fun (st:St T)=>match zj3 n o.dst&&(zd2 o&&zr3 st.F o) with
   |true=>stp o st (fun st=>qp7 stp ops n K r st)
   |false=>none
  let pass:=fun (st:St T)=>match zj3 n o.dst with
   |true=>qp7 stp ops n K r ⟨zb7 T st.F o.dst (.raw undef),st.H⟩
   |false=>none
  match o.guard with
  |none=>take st
  |some (j,b)=>match kf8 ops j with
   |none=>none
   |some d=>match st.F.get T d with
    |some (.cell ⟨.bool,c⟩)=>q7 c (let st:=⟨(d,cB T true)::st.F,st.H⟩;match b with|true=>take st|false=>pass st)
     (let st:=⟨(d,cB T false)::st.F,st.H⟩;match b with|true=>pass st|false=>take st)
    |some (.raw (.tuple _))=>pass st
    |_=>none
open Classical in
noncomputable def both (a b:Option R):Option R:=if a=b then a else none
noncomputable def gv7 (e:Bool) (a b:Option R):Option R:=match e with|true=>both a b|false=>b
def gb1:Operand->Bool| .const (.slice none _ _)=>true|_=>false
def wj4:BinOp->Option Bool| .eql=>some false| .neq=>some true|_=>none
def ga0 (H:List (Ent T.U)):AV T.U->Option Bool
 | .cell ⟨.list e,xs⟩=>some (List.isEmpty (α:=den T.U e) xs)
 | .own i=>match H[i]? with|some (.row _ _ xs)=>some xs.isEmpty|_=>none
 |_=>none
def uz5 (o:Oper) (st:St T):Option (Bool×Bool):=
 match o.op with
 | .binOp b t x y _=>match P.underlying t with
  |some (.slice _)=>match wj4 b,gb1 y,aev T st.F x with
   |some neg,true,some a=>match ga0 st.H a with|some e=>some (neg,e)|none=>none
   |_,_,_=>none
  |_=>none
 |_=>none
noncomputable def kf7 (o:Oper) (st:St T) (K:St T->Option R) (Kp:AV T.U->St T->Option R):Option R:=
 match uz5 P o st with
 |some (neg,e)=>gv7 e (K ⟨zb7 T st.F o.dst (cB T (zg4 neg true)),st.H⟩) (K ⟨zb7 T st.F o.dst (cB T (zg4 neg false)),st.H⟩)
 |none=>zh6 P C o st K Kp
noncomputable def ux9 (ops:Array Oper) (n:Nat) (Kp:AV T.U->St T->Option R) (K:St T->Option R) (st:St T):Option R:=qp7 (fun o st K=>kf7 P C o st K Kp) ops n K ops.toList st
def uz3 (ops:Array Oper) (n:Nat) (K:St T->Option R) (st:St T):Option R:=qp7 (fun o st K=>ki4 P C o st fun a=>K ⟨zb7 T st.F o.dst a,st.H⟩) ops n K ops.toList st
end
section
variable {T:Tab} {P:Program} {C:Ctx T} {w w':World} {S S':List Nat} {φ φ':Nat->RA} {w0:World} {S0:Ow} {F:AF T} {H:List (Ent T.U)} {F':PF}
variable {ops:Array Oper} {Q:Exit->Act->World->Prop} {k n:Nat} {ds:List Deferred} {o:Oper}
theorem Sim.again (h:Sim T w0 S0 ⟨F,H⟩ F' w S φ) {d:Nat} {a:AV T.U} (ha:F.get T d=some a):Sim T w0 S0 ⟨(d,a)::F,H⟩ F' w S φ:=by
 obtain ⟨v,h1,h2⟩:=h.fr d a ha;exact h.seen h1 h2 (h.ids d a ha)
theorem ym5 (hF:FR T w S φ F F') {o:Oper} (h:zr3 F o=true):yh2 F' o=true:=by
 unfold zr3 at h;unfold yh2;rw [Y8] at h⊢;intro x hx;obtain ⟨a,ha⟩:=Option.isSome_iff_exists.1 (h x hx);obtain ⟨v,hv,_⟩:=w7 hF ha;rw [hv];rfl
def kf2 (Q:Exit->Act->World->Prop) (n:Nat) (ds:List Deferred) (w0:World) (S0:Ow) (st:St T):Prop:= ∀F1 w1,zc7 T w0 S0 st F1 w1-> ∀a,Fr n ds F1 a->Q .normal a w1
theorem yo5 {R:Type} {r:R} {stp:Oper->St T->(St T->Option R)->Option R} {K:St T->Option R} (G:Nat->PF->World->Prop)
  (hstep: ∀(k:Nat) (o:Oper) (F:AF T) (H:List (Ent T.U)) (F':PF) (w:World) (S:List Nat) (φ:Nat->RA) (K:St T->Option R),dec ops k n F'=some o->stp o ⟨F,H⟩ K=some r->Sim T w0 S0 ⟨F,H⟩ F' w S φ->(∀st,K st=some r-> ∀F1 w1 S1 φ1,Sim T w0 S0 st F1 w1 S1 φ1->G (k+1) F1 w1)->G k F' w)
  (hpass: ∀(k:Nat) (dst:Option Tmp) (F':PF) (w:World),ya8 ops k n F'=some dst->G (k+1) (upd F' dst undef) w->G k F' w)
  (hfin: ∀(k:Nat) (st:St T) (F':PF) (w:World) (S:List Nat) (φ:Nat->RA),ops.size<=k->K st=some r->Sim T w0 S0 st F' w S φ->G k F' w):
  ∀(rest:List Oper) (k:Nat),ops.toList.drop k=rest-> ∀(F:AF T) (H:List (Ent T.U)) (F':PF) (w:World) (S:List Nat) (φ:Nat->RA),qp7 stp ops n K rest ⟨F,H⟩=some r->Sim T w0 S0 ⟨F,H⟩ F' w S φ->G k F' w
 | [],k,hk,F,H,F',w,S,φ,hr,h=>by
  have:ops.size<=k:=by simpa using List.drop_eq_nil_iff.1 hk
  exact hfin k _ F' w S φ this hr h
 |o::rest,k,hk,F,H,F',w,S,φ,hr,h=>by
  have hlt:k<ops.size:=by
   apply Classical.byContradiction;intro hn;rw [List.drop_eq_nil_of_le (by simpa using hn)] at hk;cases hk
  have ho:ops[k]?=some o:=by
   have:=List.drop_eq_getElem_cons (l:=ops.toList) (i:=k) (by simpa using hlt);rw [hk] at this;rw [Z6 hlt];have h1:=(List.cons.inj this).1;simpa using h1.symm
  have hk':ops.toList.drop (k+1)=rest:=by
   have:=List.drop_eq_getElem_cons (l:=ops.toList) (i:=k) (by simpa using hlt);rw [hk] at this;exact (List.cons.inj this).2.symm
  have htake: ∀(F:AF T),(match zj3 n o.dst&&(zd2 o&&zr3 F o) with
    |true=>stp o ⟨F,H⟩ (fun st=>qp7 stp ops n K rest st)
    |false=>none)=some r->Sim T w0 S0 ⟨F,H⟩ F' w S φ->zw1 ops F' o=some true->G k F' w:=by
   intro F hr h hw;split at hr
   ·rename_i hb;simp only [X3] at hb;have hd:dec ops k n F'=some o:=by
     unfold dec;rw [ho];simp only [hw,hb.1,hb.2.1,ym5 h.fr hb.2.2,Bool.and_self]
    exact hstep k o F H F' w S φ _ hd hr h fun st hs F1 w1 S1 φ1 h1=>yo5 G hstep hpass hfin rest (k+1) hk' st.F st.H F1 w1 S1 φ1 hs h1
   ·cases hr
  have hpass': ∀(F:AF T),(match zj3 n o.dst with
    |true=>qp7 stp ops n K rest ⟨zb7 T F o.dst (.raw undef),H⟩
    |false=>none)=some r->Sim T w0 S0 ⟨F,H⟩ F' w S φ->zw1 ops F' o=some false->G k F' w:=by
   intro F hr h hw;split at hr
   ·rename_i hb;refine hpass k o.dst F' w ?_ (yo5 G hstep hpass hfin rest (k+1) hk' _ _ _ _ S φ hr (h.slot rfl ⟨fun i hi=>(by cases hi),trivial⟩));unfold ya8;rw [ho];simp only [hw,hb]
   ·cases hr
  unfold qp7 at hr;simp only at hr;split at hr
  ·rename_i hg;exact htake F hr h (by unfold zw1;rw [hg])
  ·rename_i j b hg;split at hr
   ·cases hr
   ·rename_i d hdj;have hgv: ∀v,F'.get d=some v->ye2 ops F' j=match v with| .bool b=>some (some b)| .tuple _=>some none|_=>none:=by
     intro v hv;unfold kf8 at hdj;unfold ye2;rw [hdj];simp only [hv];cases v<;>rfl
    split at hr
    ·rename_i c hc;obtain ⟨v,hv,hvr⟩:=h.fr d _ hc;have:=zg5 hvr;subst this;have hgv:=hgv _ hv;simp only at hgv;have h':=h.again hc;rcases zn3 hr with ⟨hct,hr⟩|⟨hct,hr⟩
     ·have hct:c=true:=hct;subst hct;cases b with
      |true=>exact htake _ hr h' (by unfold zw1;rw [hg];simp only [hgv];rfl)
      |false=>exact hpass' _ hr h' (by unfold zw1;rw [hg];simp only [hgv];rfl)
     ·have hct:c=false:=hct;subst hct;cases b with
      |true=>exact hpass' _ hr h' (by unfold zw1;rw [hg];simp only [hgv];rfl)
      |false=>exact htake _ hr h' (by unfold zw1;rw [hg];simp only [hgv];rfl)
    ·rename_i u hc;obtain ⟨v,hv,hvr⟩:=h.fr d _ hc;rw [VR] at hvr;subst hvr;have hgv:=hgv _ hv;simp only at hgv;exact hpass' _ hr h (by unfold zw1;rw [hg];simp only [hgv];cases b<;>rfl)
    ·cases hr
theorem kb3 {R:Type} {a b:Option R} {r:R} (h:both a b=some r):a=some r/\b=some r:=by
 unfold both at h;split at h
 ·rename_i he;exact ⟨h,he▸h⟩
 ·cases h
theorem kd7 {R:Type} (a:Option R):both a a=a:=by unfold both;rw [if_pos rfl]
theorem jx2 {R:Type} (e:Bool) (a:Option R):gv7 e a a=a:=by cases e;rfl;exact kd7 a
theorem qj7 {R:Type} {r:R} (hE:v7 T P C.E) (hd:dec ops k n F'=some o) {K:St T->Option R} {Kp:AV T.U->St T->Option R} (hs:kf7 P C o ⟨F,H⟩ K Kp=some r) (h:Sim T w0 S0 ⟨F,H⟩ F' w S φ)
  (HK: ∀st,K st=some r->zw3 P ops Q (k+1) n ds w0 S0 st) (HP: ∀a st,Kp a st=some r->yr1 Q n ds w0 S0 a st):WR P ops Q k n ds F' w:=by
 unfold kf7 at hs;split at hs
 ·rename_i neg e hn;unfold uz5 at hn;split at hn<;>try (cases hn;done)
  rename_i b t x y ty hop;split at hn<;>try (cases hn;done)
  rename_i et hu;split at hn<;>try (cases hn;done)
  rename_i neg' a hneg hy hx;split at hn<;>try (cases hn;done)
  rename_i e' he;simp only [X0,X7] at hn;obtain ⟨rfl,rfl⟩:=hn;have hb:b=if neg' then .neq else .eql:=by cases b<;>simp [wj4] at hneg<;>subst hneg<;>rfl
  obtain ⟨X,h1,h2⟩:=w7 h.fr hx;obtain ⟨m,c,rfl⟩: ∃m c,y=.const (.slice none m c):=by
   unfold gb1 at hy;split at hy
   ·exact ⟨_,_,rfl⟩
   ·cases hy
  have key: ∃ad n' c',X=.slice ad n' c'/\(e'=false->ad.isNone=false):=by
   unfold ga0 at he;split at he<;>try (cases he;done)
   ·rename_i el xs;simp only [X0] at he;have h2:CR T w S (.list el) xs X:=h2;cases h2 with
    |list _ _ ad cap u hcap hnil had _ _=>
     refine ⟨ad,_,_,rfl,fun hf=>?_⟩;cases ad with
     |some _=>rfl
     |none=>
      have:=(hnil rfl).1;rw [hf] at he;cases xs with
      |nil=>cases he
      |cons _ _=>cases this
   ·rename_i i;split at he<;>try (cases he;done)
    rename_i et' ty' xs hi;simp only [X0] at he;rw [VR] at h2;subst h2;obtain ⟨B,vals,q1,q2,_⟩:=h.ents i _ hi;refine ⟨_,_,_,rfl,fun hf=>?_⟩;cases had:(φ i).ad with
    |some _=>rfl
    |none=>
     have:=(q1.nil0 had).1;rw [q2] at this;rw [hf] at he;cases xs with
     |nil=>cases he
     |cons _ _=>cases this
  obtain ⟨ad,n',c',rfl,hkey⟩:=key;have hrun:(execOp (evD F') o).run P w=.ok (.value (.bool (zg4 neg' ad.isNone))) w:=by
   have g1:=yy9 (P:=P) (t:=t) (X:=.slice ad n' c') (Y:=.slice none m c) (b:=b) x (.const (.slice none m c)) rfl rfl (.inl (by simp)) w;have g2:=yx5 (P:=P) hb (X:=.slice ad n' c') (Y:=.slice none m c) rfl rfl (fun w0=>(yx1 P hu m c ad n' c' w0).2) w;obtain ⟨Y,h3,h4⟩:=w7 h.fr (show aev T F (.const (.slice none m c))=some (.raw (.slice none m c)) from rfl);rw [VR] at h4;subst h4;simp [execOp,hop,u0 h1,u0 h3,g1,g2]
  have hk:K ⟨zb7 T F o.dst (cB T (zg4 neg' ad.isNone)),H⟩=some r:=by
   unfold gv7 at hs;split at hs
   ·obtain ⟨k1,k2⟩:=kb3 hs;cases ad with
    |none=>exact k1
    |some _=>exact k2
   ·rw [hkey rfl];exact hs
  exact WR.val hd hrun (HK _ hk _ _ ⟨S,φ,h.slot (a:=cB T (zg4 neg' ad.isNone)) (CR.bool _) (zm5 rfl (by intro _ _ _ _ e;cases e))⟩)
 ·exact jb6 hE hd hs h HK HP
theorem vy8 {R:Type} {r:R} (hE:v7 T P C.E) {K:St T->Option R} {Kp:AV T.U->St T->Option R} (HK: ∀st,K st=some r->kf2 Q n ds w0 S0 st) (HP: ∀a st,Kp a st=some r->yr1 Q n ds w0 S0 a st)
  (hr:ux9 P C ops n Kp K ⟨F,H⟩=some r) (h:Sim T w0 S0 ⟨F,H⟩ F' w S φ):WR P ops Q 0 n ds F' w:=by
 refine yo5 (w0:=w0) (S0:=S0) (K:=K) (stp:=fun o st K=>kf7 P C o st K Kp) (r:=r) (fun k F' w=>WR P ops Q k n ds F' w) ?_ ?_ ?_ ops.toList 0 rfl F H F' w S φ hr h
 ·intro k o F H F' w S φ K hd hs h HK;exact qj7 hE hd hs h (fun st hst F1 w1 ⟨S1,φ1,h1⟩=>HK st hst F1 w1 S1 φ1 h1) HP
 ·intro k dst F' w hp K;exact WR.pass1 hp K
 ·intro k st F' w S φ hk hst h;exact .fin (W2 hk) fun a ha=>HK st hst F' w ⟨S,φ,h⟩ a ha
theorem qj9 {R:Type} {r:R} {Qf:Act->Prop} (hE:v7 T P C.E) (hd:dec ops k n F'=some o) {K:AV T.U->Option R} (hs:ki4 P C o ⟨F,H⟩ K=some r) (h:Sim T w0 S0 ⟨F,H⟩ F' w S φ)
  (HK: ∀a v,K a=some r->VR T w S φ a v->okA H a->WQ P ops (fun w'=>Chg [] w w') Qf (k+1) n ds (upd F' o.dst v)):WQ P ops (fun w'=>Chg [] w w') Qf k n ds F':=by
 have hread:zv9 P o ⟨F,H⟩ K=some r->WQ P ops (fun w'=>Chg [] w w') Qf k n ds F':=fun hs=>
  kw9 hd hs h fun a v hK hq hv hok=>WQ.step hd (fun w1 hw=>by rw [hq w1 (vn6 hw S) (Same.pure hw)];exact ⟨rfl,rfl⟩) (HK a v hK hv hok)
 unfold ki4 at hs;split at hs
 ·rename_i hop;split at hs
  ·exact hread hs
  ·unfold wl1 at hs;split at hs
   ·cases hs
   ·rename_i as has;split at hs
    ·rename_i f hc;split at hs
     ·rename_i g first caps hf
      split at hs
      ·rename_i cs he hcs;split at hs
       ·rename_i hall;obtain ⟨vs,h1,h2,h3⟩:=jk7 hop hc hf has he hall h;obtain ⟨a,v,g1,g3,g4,g5⟩:=(hE g cs hcs).2.1 _ H K r hs w0 S0 F F' w S φ h vs h1 h2;refine WQ.step hd (fun w1 hw=>?_) (HK a v g1 g3 g4);rw [h3 w1];refine ⟨rfl,(g5 w1 (vn6 hw S) (Same.pure hw)).mono fun e w'' hR=>?_⟩;cases e with
        |returned u=>obtain ⟨q1,q2⟩:=hR;exact ⟨by rw [q2],hw.pure q1⟩
        |panicked ch=>exact hR.elim
        |outgrown=>exact hR.elim
       ·cases hs
      ·cases hs
     ·cases hs
    ·cases hs
 ·exact hread hs
theorem vd0 {R:Type} {r:R} (hE:v7 T P C.E) {K:St T->Option R} (HK: ∀st,K st=some r->kf2 Q n ds w0 S0 st) (hr:uz3 P C ops n K ⟨F,H⟩=some r) (h:Sim T w0 S0 ⟨F,H⟩ F' w S φ):
  WQ P ops (fun w'=>Chg [] w w') (fun a'=> ∀w',Chg [] w w'->Q .normal a' w') 0 n ds F':=by
 refine yo5 (w0:=w0) (S0:=S0) (K:=K) (stp:=fun o st K=>ki4 P C o st fun a=>K ⟨zb7 T st.F o.dst a,st.H⟩) (r:=r) (fun k F' w=>WQ P ops (fun w'=>Chg [] w w') (fun a'=> ∀w',Chg [] w w'->Q .normal a' w') k n ds F') ?_ ?_ ?_ ops.toList 0 rfl F H F' w S φ hr h
 ·intro k o F H F' w S φ K hd hs h HK;exact qj9 hE hd hs h fun a v hK hv hok=>HK _ hK _ w S φ (h.slot hv hok)
 ·intro k dst F' w hp K;exact WQ.pass1 hp K
 ·intro k st F' w S φ hk hst h;exact WQ.fin (W2 hk) fun w' hw a ha=>HK st hst F' w' ⟨S,φ,h.pure hw⟩ a ha
end
end Go.X
