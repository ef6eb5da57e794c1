import Derived.Test.YtliopfopmhhdeaaGreatA5
set_option linter.defProp false
namespace Go.X
open Go.RowKit Go.V
section
variable {T:Tab} (P:Program) (C:Ctx T) {R:Type}
def zs3 (F:AF T) (o:Oper):Bool:=o.op.operands.toList.all fun x=>(aev T F x).isSome
def vk2 (ops:Array Oper) (j:Nat):Option Tmp:=(ops[j]?).bind (·.dst)
def kk0 (c:Call) (st:St T) (K:AV T.U->Option R):Option R:=
 match zn8 T st.F c.args.toList with
 |none=>none
 |some aS=>
  match c.callee with
  | .value f=>match aev T st.F f with
   |some (.fn (.func g) first caps)=>match zl0 P g,jy7 C.E g with
    |true,some cs=>match (first++aS++caps).all zh1 with|true=>cs.q (first++aS++caps) st.H K|false=>none
    |_,_=>none
   |_=>none
  |_=>none
def vm0 (o:Oper) (st:St T) (K:AV T.U->Option R):Option R:=
 match o.op with
 | .call c=>match stepA.reads c with
  |true=>zx2 P o st K
  |false=>kk0 P C c st K
 |_=>zx2 P o st K
def va5 (stp:Oper->St T->(St T->Option R)->Option R) (ops:Array Oper) (n:Nat) (K:St T->Option R):List Oper->St T->Option R
 | [],st=>K st
 |o::r,st=>
  let take:=fun (st:St T)=>match zh5 n o.dst&&(za6 o&&zs3 st.F o) with
   |true=>stp o st (fun st=>va5 stp ops n K r st)
   |false=>none
  let pass:=fun (st:St T)=>match zh5 n o.dst with
   |true=>va5 stp ops n K r ⟨za1 T st.F o.dst (.raw undef),st.H⟩
   |false=>none
  match o.guard with
  |none=>take st
  |some (j,b)=>match vk2 ops j with
   |none=>none
   |some d=>match st.F.get T d with
    |some (.cell ⟨.bool,c⟩)=>z7 c (let st:=⟨(d,cB T true)::st.F,st.H⟩;match b with|true=>take st|false=>pass st)
     (let st:=⟨(d,cB T false)::st.F,st.H⟩;match b with|true=>pass st|false=>take st)
    |some (.raw (.tuple _))=>pass st
    |_=>none
open Classical in
noncomputable def both (a b:Option R):Option R:=if a=b then a else none
noncomputable def yo5 (e:Bool) (a b:Option R):Option R:=match e with|true=>both a b|false=>b
def vx1:Operand->Bool| .const (.slice none _ _)=>true|_=>false
def km0:BinOp->Option Bool| .eql=>some false| .neq=>some true|_=>none
def vw7 (H:List (Ent T.U)):AV T.U->Option Bool
 | .cell ⟨.list e,xs⟩=>some (List.isEmpty (α:=den T.U e) xs)
 | .cell ⟨.nl e,xs⟩=>some (List.isEmpty (α:=den T.U e) xs)
 | .own i=>match H[i]? with|some (.row _ _ xs)=>some xs.isEmpty|_=>none
 |_=>none
def gc7:AV T.U->Bool| .cell ⟨.nl _,_⟩=>true|_=>false
noncomputable def gc9 (kn e:Bool) (a b:Option R):Option R:=match kn with|true=>z7 e a b|false=>yo5 e a b
def gd0 (o:Oper) (st:St T):Option (Bool×Bool×Bool):=
 match o.op with
 | .binOp b t x y _=>match P.underlying t with
  |some (.slice _)=>match km0 b,vx1 y,aev T st.F x with
   |some neg,true,some a=>match vw7 st.H a with|some e=>some (neg,e,gc7 a)|none=>none
   |_,_,_=>none
  |_=>none
 |_=>none
noncomputable def vl9 (o:Oper) (st:St T) (K:St T->Option R) (Kp:AV T.U->St T->Option R):Option R:=
 match gd0 P o st with
 |some (neg,e,kn)=>gc9 kn e (K ⟨za1 T st.F o.dst (cB T (jl2 neg true)),st.H⟩) (K ⟨za1 T st.F o.dst (cB T (jl2 neg false)),st.H⟩)
 |none=>match kc3 P C o st K with|some z=>z|none=>zg1 P C o st K Kp
noncomputable def gd8 (ops:Array Oper) (n:Nat) (Kp:AV T.U->St T->Option R) (K:St T->Option R) (st:St T):Option R:=va5 (fun o st K=>vl9 P C o st K Kp) ops n K ops.toList st
def gd9 (ops:Array Oper) (n:Nat) (K:St T->Option R) (st:St T):Option R:=va5 (fun o st K=>vm0 P C o st fun a=>K ⟨za1 T st.F o.dst a,st.H⟩) ops n K ops.toList st
end
section
variable {T:Tab} {P:Program} {C:Ctx T} {w w':World} {S S':List Nat} {φ φ':Nat->RA} {w0:World} {S0:Ow} {F:AF T} {H:List (Ent T.U)} {F':PF}
variable {ops:Array Oper} {Q:Exit->Act->World->Prop} {k n:Nat} {ds:List Deferred} {o:Oper}
def Sim.again (h:Sim T w0 S0 ⟨F,H⟩ F' w S φ) {d:Nat} {a:AV T.U} (ha:F.get T d=some a):Sim T w0 S0 ⟨(d,a)::F,H⟩ F' w S φ:=by
 obtain ⟨v,h1,h2⟩:=h.fr d a ha;exact h.seen h1 h2 (h.ids d a ha)
def yk7 (hF:FR T w S φ F F') {o:Oper} (h:zs3 F o=true):zz9 F' o=true:=by
 unfold zs3 at h;unfold zz9;rw [Y8] at h⊢;intro x hx;obtain ⟨a,ha⟩:=N6.1 (h x hx);obtain ⟨v,hv,_⟩:=z8 hF ha;rw [hv];rfl
def vj5 (Q:Exit->Act->World->Prop) (n:Nat) (ds:List Deferred) (w0:World) (S0:Ow) (st:St T):Prop:= ∀F1 w1,zc0 T w0 S0 st F1 w1-> ∀a,Fr n ds F1 a->Q .normal a w1
def jg4 {R:Type} {r:R} {stp:Oper->St T->(St T->Option R)->Option R} {K:St T->Option R} (G:Nat->PF->World->Prop)
  (hstep: ∀(k:Nat) (o:Oper) (F:AF T) (H:List (Ent T.U)) (F':PF) (w:World) (S:List Nat) (φ:Nat->RA) (K:St T->Option R),dec ops k n F'=some o->stp o ⟨F,H⟩ K=some r->Sim T w0 S0 ⟨F,H⟩ F' w S φ->(∀st,K st=some r-> ∀F1 w1 S1 φ1,Sim T w0 S0 st F1 w1 S1 φ1->G (k+1) F1 w1)->G k F' w)
  (hpass: ∀(k:Nat) (dst:Option Tmp) (F':PF) (w:World),yn0 ops k n F'=some dst->G (k+1) (upd F' dst undef) w->G k F' w)
  (hfin: ∀(k:Nat) (st:St T) (F':PF) (w:World) (S:List Nat) (φ:Nat->RA),ops.size<=k->K st=some r->Sim T w0 S0 st F' w S φ->G k F' w):
  ∀(rest:List Oper) (k:Nat),ops.toList.drop k=rest-> ∀(F:AF T) (H:List (Ent T.U)) (F':PF) (w:World) (S:List Nat) (φ:Nat->RA),va5 stp ops n K rest ⟨F,H⟩=some r->Sim T w0 S0 ⟨F,H⟩ F' w S φ->G k F' w
 | [],k,hk,F,H,F',w,S,φ,hr,h=>by
  have:ops.size<=k:=by simpa using List.drop_eq_nil_iff.1 hk
  exact hfin k _ F' w S φ this hr h
 |o::rest,k,hk,F,H,F',w,S,φ,hr,h=>by
  have hlt:k<ops.size:=by
   apply Classical.byContradiction;intro hn;rw [M4 (by simpa using hn)] at hk;cases hk
  have ho:ops[k]?=some o:=by
   have:=M5 (l:=ops.toList) (i:=k) (by simpa using hlt);rw [hk] at this;rw [Z6 hlt];have h1:=(List.cons.inj this).1;simpa using h1.symm
  have hk':ops.toList.drop (k+1)=rest:=by
   have:=M5 (l:=ops.toList) (i:=k) (by simpa using hlt);rw [hk] at this;exact (List.cons.inj this).2.symm
  have htake: ∀(F:AF T),(match zh5 n o.dst&&(za6 o&&zs3 F o) with
    |true=>stp o ⟨F,H⟩ (fun st=>va5 stp ops n K rest st)
    |false=>none)=some r->Sim T w0 S0 ⟨F,H⟩ F' w S φ->zx4 ops F' o=some true->G k F' w:=by
   intro F hr h hw;split at hr
   ·rename_i hb;simp only [X3] at hb;have hd:dec ops k n F'=some o:=by
     unfold dec;rw [ho];simp only [hw,hb.1,hb.2.1,yk7 h.fr hb.2.2,N7]
    exact hstep k o F H F' w S φ _ hd hr h fun st hs F1 w1 S1 φ1 h1=>jg4 G hstep hpass hfin rest (k+1) hk' st.F st.H F1 w1 S1 φ1 hs h1
   ·cases hr
  have hpass': ∀(F:AF T),(match zh5 n o.dst with
    |true=>va5 stp ops n K rest ⟨za1 T F o.dst (.raw undef),H⟩
    |false=>none)=some r->Sim T w0 S0 ⟨F,H⟩ F' w S φ->zx4 ops F' o=some false->G k F' w:=by
   intro F hr h hw;split at hr
   ·rename_i hb;refine hpass k o.dst F' w ?_ (jg4 G hstep hpass hfin rest (k+1) hk' _ _ _ _ S φ hr (h.slot rfl ⟨fun i hi=>(by cases hi),trivial⟩));unfold yn0;rw [ho];simp only [hw,hb]
   ·cases hr
  unfold va5 at hr;simp only at hr;split at hr
  ·rename_i hg;exact htake F hr h (by unfold zx4;rw [hg])
  ·rename_i j b hg;split at hr
   ·cases hr
   ·rename_i d hdj;have hgv: ∀v,F'.get d=some v->yb9 ops F' j=match v with| .bool b=>some (some b)| .tuple _=>some none|_=>none:=by
     intro v hv;unfold vk2 at hdj;unfold yb9;rw [hdj];simp only [hv];cases v<;>rfl
    split at hr
    ·rename_i c hc;obtain ⟨v,hv,hvr⟩:=h.fr d _ hc;have:=zd7 hvr;subst this;have hgv:=hgv _ hv;simp only at hgv;have h':=h.again hc;rcases zc7 hr with ⟨hct,hr⟩|⟨hct,hr⟩
     ·have hct:c=true:=hct;subst hct;cases b with
      |true=>exact htake _ hr h' (by unfold zx4;rw [hg];simp only [hgv];rfl)
      |false=>exact hpass' _ hr h' (by unfold zx4;rw [hg];simp only [hgv];rfl)
     ·have hct:c=false:=hct;subst hct;cases b with
      |true=>exact hpass' _ hr h' (by unfold zx4;rw [hg];simp only [hgv];rfl)
      |false=>exact htake _ hr h' (by unfold zx4;rw [hg];simp only [hgv];rfl)
    ·rename_i u hc;obtain ⟨v,hv,hvr⟩:=h.fr d _ hc;rw [VR] at hvr;subst hvr;have hgv:=hgv _ hv;simp only at hgv;exact hpass' _ hr h (by unfold zx4;rw [hg];simp only [hgv];cases b<;>rfl)
    ·cases hr
def vc9 {R:Type} {a b:Option R} {r:R} (h:both a b=some r):a=some r/\b=some r:=by
 unfold both at h;split at h
 ·rename_i he;exact ⟨h,he▸h⟩
 ·cases h
def qd1 {R:Type} {r:R} (hE:za0 T P C.E) (hd:dec ops k n F'=some o) {K:St T->Option R} {Kp:AV T.U->St T->Option R} (hs:vl9 P C o ⟨F,H⟩ K Kp=some r) (h:Sim T w0 S0 ⟨F,H⟩ F' w S φ)
  (HK: ∀st,K st=some r->zp5 P ops Q (k+1) n ds w0 S0 st) (HP: ∀a st,Kp a st=some r->yn5 Q n ds w0 S0 a st):WR P ops Q k n ds F' w:=by
 unfold vl9 at hs;split at hs
 ·rename_i neg e kn hn;unfold gd0 at hn;split at hn<;>try (cases hn;done)
  rename_i b t x y ty hop;split at hn<;>try (cases hn;done)
  rename_i et hu;split at hn<;>try (cases hn;done)
  rename_i neg' a hneg hy hx;split at hn<;>try (cases hn;done)
  rename_i e' he;simp only [X0,X7] at hn;obtain ⟨rfl,rfl,rfl⟩:=hn;have hb:b=if neg' then .neq else .eql:=by cases b<;>simp [km0] at hneg<;>subst hneg<;>rfl
  obtain ⟨X,h1,h2⟩:=z8 h.fr hx;obtain ⟨m,c,rfl⟩: ∃m c,y=.const (.slice none m c):=by
   unfold vx1 at hy;split at hy
   ·exact ⟨_,_,rfl⟩
   ·cases hy
  have key: ∃ad n' c',X=.slice ad n' c'/\(e'=false->ad.isNone=false)/\(gc7 a=true->e'=true->ad.isNone=true):=by
   unfold vw7 at he;split at he<;>try (cases he;done)
   ·rename_i el xs;simp only [X0] at he;have h2:CR T w S (.list el) xs X:=h2;cases h2 with
    |list _ _ ad cap u hcap hnil had _ _=>
     refine ⟨ad,_,_,rfl,fun hf=>?_,fun q=>by cases q⟩;cases ad with
     |some _=>rfl
     |none=>
      have:=(hnil rfl).1;rw [hf] at he;cases xs with
      |nil=>cases he
      |cons _ _=>cases this
   ·rename_i el xs;simp only [X0] at he;have h2:CR T w S (.nl el) xs X:=h2;cases h2 with
    |nl _ _ ad cap h3 hz=>
     refine ⟨ad,_,_,rfl,fun hf=>?_,fun _ ht=>?_⟩
     ·cases ad with
      |some _=>rfl
      |none=>
       rw [hf] at he;cases xs with
       |nil=>cases he
       |cons _ _=>cases h3 with
        |list _ _ _ _ _ _ hnil _ _ _=>have:=(hnil rfl).1;cases this
     ·rw [ht] at he;cases xs with
      |nil=>rw [(hz rfl).1];rfl
      |cons _ _=>cases he
   ·rename_i i;split at he<;>try (cases he;done)
    rename_i et' ty' xs hi;simp only [X0] at he;rw [VR] at h2;subst h2;obtain ⟨B,vals,q1,q2,_⟩:=h.ents i _ hi;refine ⟨_,_,_,rfl,fun hf=>?_,fun q=>by cases q⟩;cases had:(φ i).ad with
    |some _=>rfl
    |none=>
     have:=(q1.nil0 had).1;rw [q2] at this;rw [hf] at he;cases xs with
     |nil=>cases he
     |cons _ _=>cases this
  obtain ⟨ad,n',c',rfl,hkey,hkn⟩:=key;have hrun:(execOp (evD F') o).run P w=.ok (.value (.bool (jl2 neg' ad.isNone))) w:=by
   have g1:=yw7 (P:=P) (t:=t) (X:=.slice ad n' c') (Y:=.slice none m c) (b:=b) x (.const (.slice none m c)) rfl rfl (.inl (by simp)) w;have g2:=yu2 (P:=P) hb (X:=.slice ad n' c') (Y:=.slice none m c) rfl rfl (fun w0=>(yu1 P hu m c ad n' c' w0).2) w;obtain ⟨Y,h3,h4⟩:=z8 h.fr (show aev T F (.const (.slice none m c))=some (.raw (.slice none m c)) from rfl);rw [VR] at h4;subst h4;simp [execOp,hop,j6 h1,j6 h3,g1,g2]
  have hk:K ⟨za1 T F o.dst (cB T (jl2 neg' ad.isNone)),H⟩=some r:=by
   unfold gc9 at hs;split at hs
   ·rename_i hq;unfold z7 at hs;cases e' with
    |true=>rw [hkn hq rfl];exact hs
    |false=>rw [hkey rfl];exact hs
   unfold yo5 at hs;split at hs
   ·obtain ⟨k1,k2⟩:=vc9 hs;cases ad with
    |none=>exact k1
    |some _=>exact k2
   ·rw [hkey rfl];exact hs
  exact WR.val hd hrun (HK _ hk _ _ ⟨S,φ,h.slot (a:=cB T (jl2 neg' ad.isNone)) (CR.bool _) (zm3 rfl (by intro _ _ _ _ e;cases e))⟩)
 ·split at hs
  ·rename_i z hz;subst hs;exact qd0 hd hz h HK
  ·exact yz7 hE hd hs h HK HP
def jr4 {R:Type} {r:R} (hE:za0 T P C.E) {K:St T->Option R} {Kp:AV T.U->St T->Option R} (HK: ∀st,K st=some r->vj5 Q n ds w0 S0 st) (HP: ∀a st,Kp a st=some r->yn5 Q n ds w0 S0 a st)
  (hr:gd8 P C ops n Kp K ⟨F,H⟩=some r) (h:Sim T w0 S0 ⟨F,H⟩ F' w S φ):WR P ops Q 0 n ds F' w:=by
 refine jg4 (w0:=w0) (S0:=S0) (K:=K) (stp:=fun o st K=>vl9 P C o st K Kp) (r:=r) (fun k F' w=>WR P ops Q k n ds F' w) ?_ ?_ ?_ ops.toList 0 rfl F H F' w S φ hr h
 ·intro k o F H F' w S φ K hd hs h HK;exact qd1 hE hd hs h (fun st hst F1 w1 ⟨S1,φ1,h1⟩=>HK st hst F1 w1 S1 φ1 h1) HP
 ·intro k dst F' w hp K;exact WR.pass1 hp K
 ·intro k st F' w S φ hk hst h;exact .fin (W5 hk) fun a ha=>HK st hst F' w ⟨S,φ,h⟩ a ha
def qd2 {R:Type} {r:R} {Qf:Act->Prop} (hE:za0 T P C.E) (hd:dec ops k n F'=some o) {K:AV T.U->Option R} (hs:vm0 P C o ⟨F,H⟩ K=some r) (h:Sim T w0 S0 ⟨F,H⟩ F' w S φ)
  (HK: ∀a v,K a=some r->VR T w S φ a v->okA H a->WQ P ops (fun w'=>Chg [] w w') Qf (k+1) n ds (upd F' o.dst v)):WQ P ops (fun w'=>Chg [] w w') Qf k n ds F':=by
 have hread:zx2 P o ⟨F,H⟩ K=some r->WQ P ops (fun w'=>Chg [] w w') Qf k n ds F':=fun hs=>
  vy8 hd hs h fun a v hK hq hv hok=>WQ.step hd (fun w1 hw=>by rw [hq w1 (qu5 hw S) (Same.pure hw)];exact ⟨rfl,rfl⟩) (HK a v hK hv hok)
 unfold vm0 at hs;split at hs
 ·rename_i hop;split at hs
  ·exact hread hs
  ·unfold kk0 at hs;split at hs
   ·cases hs
   ·rename_i aS has;split at hs
    ·rename_i f hc;split at hs
     ·rename_i g first caps hf
      split at hs
      ·rename_i cs he hcs;split at hs
       ·rename_i hall;obtain ⟨vs,h1,h2,h3⟩:=jc4 hop hc hf has he hall h;obtain ⟨a,v,g1,g3,g4,g5⟩:=(hE g cs hcs).2.1 _ H K r hs w0 S0 F F' w S φ h vs h1 h2;refine WQ.step hd (fun w1 hw=>?_) (HK a v g1 g3 g4);rw [h3 w1];refine ⟨rfl,(g5 w1 (qu5 hw S) (Same.pure hw)).mono fun e w'' hR=>?_⟩;cases e with
        |returned u=>obtain ⟨q1,q2⟩:=hR;exact ⟨by rw [q2],hw.pure q1⟩
        |panicked ch=>exact hR.elim
        |outgrown=>exact hR.elim
       ·cases hs
      ·cases hs
     ·cases hs
    ·cases hs
 ·exact hread hs
def qq6 {R:Type} {r:R} (hE:za0 T P C.E) {K:St T->Option R} (HK: ∀st,K st=some r->vj5 Q n ds w0 S0 st) (hr:gd9 P C ops n K ⟨F,H⟩=some r) (h:Sim T w0 S0 ⟨F,H⟩ F' w S φ):
  WQ P ops (fun w'=>Chg [] w w') (fun a'=> ∀w',Chg [] w w'->Q .normal a' w') 0 n ds F':=by
 refine jg4 (w0:=w0) (S0:=S0) (K:=K) (stp:=fun o st K=>vm0 P C o st fun a=>K ⟨za1 T st.F o.dst a,st.H⟩) (r:=r) (fun k F' w=>WQ P ops (fun w'=>Chg [] w w') (fun a'=> ∀w',Chg [] w w'->Q .normal a' w') k n ds F') ?_ ?_ ?_ ops.toList 0 rfl F H F' w S φ hr h
 ·intro k o F H F' w S φ K hd hs h HK;exact qd2 hE hd hs h fun a v hK hv hok=>HK _ hK _ w S φ (h.slot hv hok)
 ·intro k dst F' w hp K;exact WQ.pass1 hp K
 ·intro k st F' w S φ hk hst h;exact WQ.fin (W5 hk) fun w' hw a ha=>HK st hst F' w' ⟨S,φ,h.pure hw⟩ a ha
end
end Go.X
namespace Go.X
open Go.RowKit Go.V
section
variable (T:Tab)
def Ent.ren {U:Nat->Type} (ρ:Nat->Nat):Ent U->Ent U
 | .blk e cs=>.blk e (zh7 ρ cs)
 | .row e t xs=>.row e t xs
 | .map k es=>.map k (jx6 ρ es)
 | .tmap k t m=>.tmap k t m
 | .drow e d fe xs op=>.drow e d fe xs (vn1 ρ op)
 | .pmap k be d m op=>.pmap k be d m (vn0 ρ op)
 | .hid=>.hid
 | .gone=>.gone
def zn6 (F:AF T):List Nat->AF T
 | []=> []
 |i::r=>match F.get T i with|some a=>(i,a)::zn6 F r|none=>zn6 F r
def jk8:AF T->List Nat
 | []=> []
 |(_,a)::r=>a.ids++jk8 r
def qx6 (H:List (Ent T.U)):List Nat->List Nat
 | []=> []
 |i::r=>match H[i]? with|some e=>e.cellIds++qx6 H r|none=>qx6 H r
def jy3 (H:List (Ent T.U)):Nat->List Nat->List Nat
 |0,l=>l
 |n+1,l=>let l':=qu0 l (qx6 T H l);match Nat.beq l'.length l.length with|true=>l|false=>jy3 H n l'
def zd0 (H:List (Ent T.U)) (ρ:Nat->Nat):List Nat->List (Ent T.U)
 | []=> []
 |i::r=>match H[i]? with|some e=>e.ren ρ::zd0 H ρ r|none=>.gone::zd0 H ρ r
def va7 (ρ:Nat->Nat):AF T->AF T
 | []=> []
 |(i,a)::r=>(i,a.ren ρ)::va7 ρ r
def vn3 (l:List Nat):List Nat->Bool| []=>true|i::r=>zr8 i l&&vn3 l r
structure Cut where
 l:List Nat
 nils:List (Nat×TypeId×Ty)
 whole:Bool
 bn:List (Nat×Nat×TypeId×Ty)
 dz:Nat
 inl:Bool
abbrev kg6:Nat:=4000000000
abbrev vd2:Nat:=4000000001
def zv6 (e:TypeId):Ty->Ent T.U
 | .nl (.user d)=>.drow e d (T.fe d) [] none
 |t=>.row e t []
def ze9:List (Nat×Nat×TypeId×Ty)->List (Ent T.U)->List (Ent T.U)
 | [],H=>H
 |(i,c,e,t)::r,H=>match Nat.beq e vd2 with
  |true=>ze9 r (closeL T (List.range H.length) H)
  |false=>match H[i]? with
  |some (.blk e0 cs)=>match cs[c]? with
   |some (.raw (.slice none 0 0))=>ze9 r (H.set i (.blk e0 (cs.set c (.own H.length)))++ [zv6 T e t])
   |some (.own k)=>match Nat.beq e kg6 with
    |true=>match H[k]? with
     |some (.row _ t' xs)=>ze9 r (H.set i (.blk e0 (cs.set c (.sl k (szT T t') 0 xs.length))))
     |_=>ze9 r H
    |false=>ze9 r H
   |_=>ze9 r H
  |_=>ze9 r H
def yu9:List (Nat×TypeId×Ty)->St T->St T
 | [],st=>st
 |(s,e,t)::r,st=>match st.F.get T s with
  |some (.raw (.slice none 0 0))=>yu9 r ⟨(s,.own st.H.length)::st.F,st.H++ [zv6 T e t]⟩
  |_=>yu9 r st
def vl4 (m:Nat) (ids:List Nat):Bool:=(List.range m).all fun k=>match ids[k]? with|some j=>Nat.beq j k|none=>false
def kx2 (m:Nat) (l:List Nat) (st:St T):Option (St T):=
 let F1:=zn6 T st.F l
 let ids:=jy3 T st.H (st.H.length+1) (qu0 (List.range m) (jk8 T F1))
 match vl4 m ids&&(zc3 ids&&(ids.all (fun i=>Nat.blt i st.H.length)&&(vn3 ids (jk8 T F1)&&vn3 ids (qx6 T st.H ids)))) with
 |true=>some ⟨va7 T (fun i=>qe8 i ids) F1,zd0 T st.H (fun i=>qe8 i ids) ids⟩
 |false=>none
end
section
variable {T:Tab}
def yb3 {l:List Nat}: ∀ {m:List Nat},vn3 l m=true-> ∀i∈m,i∈l
 | [],_,i,h=>by cases h
 |j::r,h,i,hi=>by
  unfold vn3 at h;simp only [X3] at h;rcases Z0.1 hi with rfl|hi
  ·exact za9.1 h.1
  ·exact yb3 h.2 i hi
def yk0 {F:AF T} {i:Nat} {a:AV T.U}: ∀ {l:List Nat},(zn6 T F l).get T i=some a->F.get T i=some a
 | [],h=>by simp [zn6,AF.get] at h
 |j::r,h=>by
  unfold zn6 at h;split at h
  ·rename_i u hu;simp only [AF.get] at h;split at h
   ·rename_i hb;have:=X1 hb;subst this;rw [hu];exact h
   ·exact yk0 h
  ·exact yk0 h
def ys1 {i:Nat} {a:AV T.U}: ∀ {F:AF T},F.get T i=some a-> ∀j∈a.ids,j∈jk8 T F
 | [],h,_,_=>by simp [AF.get] at h
 |(k,b)::r,h,j,hj=>by
  simp only [AF.get] at h;unfold jk8;split at h
  ·simp only [X0] at h;subst h;exact X4.2 (.inl hj)
  ·exact X4.2 (.inr (ys1 h j hj))
def jj3 {ρ:Nat->Nat} {i:Nat} {b:AV T.U}: ∀ {F:AF T},(va7 T ρ F).get T i=some b-> ∃a,F.get T i=some a/\b=a.ren ρ
 | [],h=>by simp [va7,AF.get] at h
 |(k,c)::r,h=>by
  simp only [va7,AF.get] at h⊢;split at h
  ·simp only [X0] at h;exact ⟨c,rfl,h.symm⟩
  ·exact jj3 h
def zk2 {H:List (Ent T.U)} {ρ:Nat->Nat} {j:Nat} {e:Ent T.U}: ∀ {l:List Nat},(zd0 T H ρ l)[j]?=some e-> ∃i,l[j]?=some i/\((∃e0,H[i]?=some e0/\e=e0.ren ρ)\/e=.gone)
 | [],h=>by simp [zd0] at h
 |i::r,h=>by
  unfold zd0 at h;split at h
  ·rename_i e0 he;cases j with
   |zero=>simp at h;exact ⟨i,rfl,.inl ⟨e0,he,h.symm⟩⟩
   |succ j=>simp at h;simpa using zk2 h
  ·cases j with
   |zero=>simp at h;exact ⟨i,rfl,.inr h.symm⟩
   |succ j=>simp at h;simpa using zk2 h
def ye3 {H:List (Ent T.U)} {ρ:Nat->Nat}: ∀(l:List Nat),(zd0 T H ρ l).length=l.length
 | []=>rfl
 |i::r=>by unfold zd0;split<;>simp [ye3 r]
def yg0 {H:List (Ent T.U)} {i:Nat} {e:Ent T.U} (he:H[i]?=some e): ∀ {l:List Nat},i∈l-> ∀j∈e.cellIds,j∈qx6 T H l
 | [],h,_,_=>by cases h
 |k::r,h,j,hj=>by
  unfold qx6;rcases Z0.1 h with rfl|h
  ·rw [he];exact X4.2 (.inl hj)
  ·split
   ·exact X4.2 (.inr (yg0 he h j hj))
   ·exact yg0 he h j hj
mutual
def jg5 {U:Nat->Type} {ρ:Nat->Nat}: ∀a:AV U,(a.ren ρ).ids=a.ids.map ρ
 | .cell _=>by rw [AV.ren];rfl
 | .ptr _ _=>by rw [AV.ren];rfl
 | .eptr _ _ _ _=>by rw [AV.ren];rfl
 | .lptr _ _ _ _=>by rw [AV.ren];rfl
 | .own _=>by rw [AV.ren];rfl
 | .sl _ _ _ _=>by rw [AV.ren];rfl
 | .agg cs=>by rw [AV.ren,AV.ids,AV.ids,zt3 cs]
 | .tup cs=>by rw [AV.ren,AV.ids,AV.ids,zt3 cs]
 | .fn _ a b=>by rw [AV.ren,AV.ids,AV.ids,zt3 a,zt3 b,J0]
 | .ifc _ a=>by rw [AV.ren,AV.ids,AV.ids,jg5 a]
 | .raw _=>by rw [AV.ren];rfl
 | .arr _ _ _=>by rw [AV.ren];rfl
 | .aptr _ _ _ _ _ _=>by rw [AV.ren];rfl
 | .asl _ _ _ _ _ _=>by rw [AV.ren];rfl
 | .mp _=>by rw [AV.ren];rfl
 | .hmp _=>by rw [AV.ren];rfl
def zt3 {U:Nat->Type} {ρ:Nat->Nat}: ∀l:List (AV U),j8 (zh7 ρ l)=(j8 l).map ρ
 | []=>rfl
 |a::r=>by rw [zh7,j8,j8,jg5 a,zt3 r,J0]
end
def qk7 {U:Nat->Type} {ρ:Nat->Nat}: ∀l:List (Int×AV U),idsM (jx6 ρ l)=(idsM l).map ρ
 | []=>rfl
 |(x,a)::r=>by rw [jx6,idsM,idsM,jg5 a,qk7 r,J0]
def vu1 {U:Nat->Type} {ρ:Nat->Nat} (op:Option (Nat×List (AV U))):kk8 (vn1 ρ op)=(kk8 op).map ρ:=by
 cases op with
 |none=>rfl
 |some p=>obtain ⟨a,cs⟩:=p;exact zt3 cs
def vu0 (ρ:Nat->Nat) (op:Option (Int×Nat)):qo0 (vn0 ρ op)=(qo0 op).map ρ:=by cases op<;>rfl
def Ent.ren_cellIds {U:Nat->Type} {ρ:Nat->Nat} (e:Ent U):(e.ren ρ).cellIds=e.cellIds.map ρ:=by cases e<;>first|rfl|exact zt3 _|exact qk7 _|exact vu1 _|exact vu0 _ _
def Ent.ren_live {U:Nat->Type} {ρ:Nat->Nat} (e:Ent U):(e.ren ρ).live=e.live:=by cases e<;>rfl
def Sim.renum {w0:World} {S0:Ow} {F F1:AF T} {H:List (Ent T.U)} {F':PF} {w:World} {S:List Nat} {φ:Nat->RA} (h:Sim T w0 S0 ⟨F,H⟩ F' w S φ) (ids:List Nat) (hF: ∀i a,F1.get T i=some a->F.get T i=some a)
  (hn:zc3 ids=true) (hp: ∀k,k<S0.pin.length->ids[k]?=some k) (h1: ∀i∈jk8 T F1,i∈ids) (h2: ∀i∈qx6 T H ids,i∈ids):
  Sim T w0 S0 ⟨va7 T (fun i=>qe8 i ids) F1,zd0 T H (fun i=>qe8 i ids) ids⟩ F' w S (fun j=>φ (ids.getD j 0)):=by
 have hρ: ∀i∈ids,φ (ids.getD (qe8 i ids) 0)=φ i:=by
  intro i hi;rw [Y2,(zv5 hi).2];rfl
 have hd: ∀ {j i:Nat},ids[j]?=some i->φ (ids.getD j 0)=φ i:=by
  intro j i hj;rw [Y2,hj];rfl
 refine ⟨?_,?_,h.chg,h.own,h.ex,?_,fun k r hk=>?_,?_,?_,?_⟩
 ·intro i b hb;obtain ⟨a,ha,rfl⟩:=jj3 hb;obtain ⟨v,h3,h4⟩:=h.fr i a (hF i a ha);exact ⟨v,h3,h4.ren T fun j hj=>hρ j (h1 j (ys1 ha j hj))⟩
 ·intro i b hb;obtain ⟨a,ha,rfl⟩:=jj3 hb;obtain ⟨h3,h4⟩:=h.ids i a (hF i a ha);have hin:=fun j hj=>h1 j (ys1 ha j hj);refine ⟨?_,?_⟩
  ·intro j hj;rw [jg5] at hj;obtain ⟨k,hk,rfl⟩:=U3.1 hj;simp only [ye3];exact (zv5 (hin k hk)).1
  ·cases a with
   |eptr j sz k c=>
    rw [AV.ren];intro e t xs hx;obtain ⟨i',h5,h6⟩:=zk2 hx;have hj:=hin j (by simp [AV.ids]);rw [(zv5 hj).2] at h5;simp only [X0] at h5;subst h5;rcases h6 with ⟨e0,h6,h7⟩|h6
    ·cases e0 with
     |row e1 t1 ys=>
      simp only [Ent.ren,Ent.row.injEq] at h7;obtain ⟨rfl,rfl,h7⟩:=h7;have:=eq_of_heq h7;subst this;exact h4 _ _ _ h6
     |blk _ _=>cases h7
     |map _ _=>cases h7
     |tmap _ _ _=>cases h7
     |drow _ _ _ _ _=>cases h7
     |pmap _ _ _ _ _=>cases h7
     |hid=>cases h7
     |gone=>cases h7
    ·cases h6
   |_=>rw [AV.ren]<;>trivial
 ·intro j e he hl a ha;obtain ⟨i,h5,h6⟩:=zk2 he;rcases h6 with ⟨e0,h6,rfl⟩|rfl
  ·rw [hd h5] at ha;exact h.lives i e0 h6 (by rw [Ent.ren_live] at hl;exact hl) a ha
  ·cases hl
 ·have hk':=hp k (X2.1 hk).1;refine ⟨by rw [hd hk'];exact (h.pins k r hk).1,?_⟩;simp only [ye3];exact (X2.1 hk').1
 ·intro j e he;obtain ⟨i,h5,h6⟩:=zk2 he;rcases h6 with ⟨e0,h6,rfl⟩|rfl
  ·have h3:=h.ents i e0 h6;cases e0 with
   |blk e1 cs=>
    obtain ⟨g,c,a1,a2,a3,a4⟩:=h3;refine ⟨g,c,(congrArg RA.ad (hd h5)).trans a1,a2,a3,a4.ren T fun k hk=>hρ k (h2 k (yg0 h6 (X6 h5) k hk))⟩
   |row e1 t xs=>
    obtain ⟨B,vals,a1,a2,a3,a4,a5⟩:=h3;simp only [EntR,hd h5];exact ⟨B,vals,a1,a2,a3,a4,a5⟩
   |map k es=>
    obtain ⟨g,l,c,a1,a2,a3,a4,a5⟩:=h3;refine ⟨g,l,c,(congrArg RA.ad (hd h5)).trans a1,a2,a3,a4.ren T fun k hk=>hρ k (h2 k (yg0 h6 (X6 h5) k hk)),a5⟩
   |tmap k t m=>
    obtain ⟨g,l,c,a1,a2⟩:=h3;exact ⟨g,l,c,(congrArg RA.ad (hd h5)).trans a1,a2⟩
   |drow e1 d fe xs op=>
    obtain ⟨B,vals,a1,a2,a3,a4,a5⟩:=h3;simp only [Ent.ren,EntR,hd h5];exact ⟨B,vals,a1,a2,a3,a4,a5.renS T fun k hk=>RSame.of (hρ k (h2 k (yg0 h6 (X6 h5) k hk)))⟩
   |pmap k be d m op=>
    obtain ⟨g,l,c,bs,a1,a2,a3,a4,a5⟩:=h3;simp only [Ent.ren,EntR,hd h5];exact ⟨g,l,c,bs,a1,a2,a3,a4.renS T fun k hk=>RSame.of (hρ k (h2 k (yg0 h6 (X6 h5) k hk))),a5⟩
   |hid=>simp only [Ent.ren,EntR,hd h5];exact h3
   |gone=>trivial
  ·trivial
 ·intro j e he k hk;obtain ⟨i,h5,h6⟩:=zk2 he;rcases h6 with ⟨e0,h6,rfl⟩|rfl
  ·rw [Ent.ren_cellIds] at hk;obtain ⟨m,hm,rfl⟩:=U3.1 hk;simp only [ye3];exact (zv5 (h2 m (yg0 h6 (X6 h5) m hm))).1
  ·cases hk
 ·intro j k e e' he he' hl hl' hjk a b ha hb;obtain ⟨i,h5,h6⟩:=zk2 he;obtain ⟨i',h5',h6'⟩:=zk2 he';rcases h6 with ⟨e0,h6,rfl⟩|rfl
  ·rcases h6' with ⟨e0',h6',rfl⟩|rfl
   ·rw [hd h5] at ha;rw [hd h5'] at hb;rw [Ent.ren_live] at hl hl';exact h.apart i i' e0 e0' h6 h6' hl hl' (fun e=>hjk (by subst e;exact zw9 hn h5 h5')) a b ha hb
   ·cases hl'
  ·cases hl
def yo9 {m:Nat} {ids:List Nat} (h:vl4 m ids=true) {k:Nat} (hk:k<m):ids[k]?=some k:=by
 unfold vl4 at h;rw [Y8] at h;have:=h k (U9.2 hk);split at this
 ·rename_i j hj;rw [hj,X1 this]
 ·cases this
def qr8 {w0:World} {S0:Ow} {st st':St T} {F':PF} {w:World} {m:Nat} {l:List Nat} (hm:S0.pin.length<=m) (h:zc0 T w0 S0 st F' w) (ht:kx2 T m l st=some st'):zc0 T w0 S0 st' F' w:=by
 obtain ⟨S,φ,h⟩:=h;unfold kx2 at ht;simp only at ht;split at ht
 ·rename_i hb;simp only [X3] at hb;simp only [X0] at ht;subst ht;exact ⟨S,_,h.renum _ (fun i a ha=>yk0 ha) hb.2.1 (fun k hk=>yo9 hb.1 (V3 hk hm)) (yb3 hb.2.2.2.1) (yb3 hb.2.2.2.2)⟩
 ·cases ht
def qp2 (e:TypeId) (t:Ty):(zv6 T e t).cellIds= []:=by unfold zv6;split<;>rfl
def qp3 {w:World} {S:List Nat} {φ:Nat->RA} {i:Nat} (hφ:φ i=⟨none,0,0,[]⟩) (e:TypeId) (t:Ty):EntR T w S φ i (zv6 T e t):=by
 unfold zv6;split
 ·exact ⟨w.heap.size,[],by rw [hφ];exact Own.nil _ _ _ _,by rw [hφ];rfl,W8 _,(fun a ha=>by rw [hφ] at ha;cases ha),⟨(fun j c v h=>by simp at h),(fun j j' c c' v v' _ h=>by simp at h),(fun a cs h=>by cases h)⟩⟩
 ·exact ⟨w.heap.size,[],by rw [hφ];exact Own.nil _ _ _ _,by rw [hφ];rfl,W8 _,⟨rfl,fun j c v h=>by simp at h⟩,fun a ha=>by rw [hφ] at ha;cases ha⟩
def Sim.addNilE {w0:World} {S0:Ow} {F:AF T} {H:List (Ent T.U)} {F':PF} {w:World} {S:List Nat} {φ:Nat->RA} (h:Sim T w0 S0 ⟨F,H⟩ F' w S φ) (e:TypeId) (t:Ty):Sim T w0 S0 ⟨F,H++ [zv6 T e t]⟩ F' w S (zu1 φ H.length ⟨none,0,0,[]⟩):=
 h.addG (Chg.refl [] w) (by simp) (by simp) (fun _ _ _ _ _ _=>by simp) (S':=S) (fun _ h=>h) (fun _ h=>.inl h) (r:=⟨none,0,0,[]⟩) (fun a h=>by cases yd8 h) (fun a h=>by cases yd8 h) (e:=zv6 T e t)
  (qp3 (by rw [j5]) e t) (fun j hj=>by rw [qp2] at hj;cases hj)
def zz3 {w0:World} {S0:Ow} {F':PF} {w:World}: ∀(l:List (Nat×TypeId×Ty)) {st:St T},zc0 T w0 S0 st F' w->zc0 T w0 S0 (yu9 T l st) F' w
 | [],_,h=>h
 |(s,e,t)::r,st,h=>by
  unfold yu9;split
  ·rename_i hs;refine zz3 r ?_;obtain ⟨S,φ,h⟩:=h;obtain ⟨v,h1,h2⟩:=h.fr s _ hs;rw [VR] at h2;subst h2;have hadd:=h.addNilE e t;exact ⟨S,_,hadd.seen h1 (a:=.own st.H.length) (by rw [VR,j5]) ⟨fun i hi=>by simp [AV.ids] at hi;subst hi;simp,trivial⟩⟩
  ·exact zz3 r h
def Sim.addNil {w0:World} {S0:Ow} {F:AF T} {H:List (Ent T.U)} {F':PF} {w:World} {S:List Nat} {φ:Nat->RA} (h:Sim T w0 S0 ⟨F,H⟩ F' w S φ) (e:TypeId) (t:Ty):Sim T w0 S0 ⟨F,H++ [.row e t []]⟩ F' w S (zu1 φ H.length ⟨none,0,0,[]⟩):=
 h.addG (Chg.refl [] w) (by simp) (by simp) (fun _ _ _ _ _ _=>by simp) (S':=S) (fun _ h=>h) (fun _ h=>.inl h) (r:=⟨none,0,0,[]⟩) (fun a h=>by cases yd8 h) (fun a h=>by cases yd8 h) (e:=.row e t [])
  ⟨w.heap.size,[],by rw [j5];exact Own.nil _ _ _ _,by rw [j5];rfl,W8 _,⟨rfl,fun j c v h=>by simp at h⟩,fun a ha=>by rw [j5] at ha;cases ha⟩ (fun j hj=>by cases hj)
def kq8 {w0:World} {S0:Ow} {F:AF T} {H:List (Ent T.U)} {F':PF} {w:World} {S:List Nat} {φ:Nat->RA} (h:Sim T w0 S0 ⟨F,H⟩ F' w S φ) {i:Nat} {e:TypeId} {t:Ty} {xs:List (den T.U t)} (hi:H[i]?=some (.row e t xs)) {v:Value} (hv:VR T w S φ (.own i) v):VR T w S φ (.sl i (szT T t) 0 xs.length) v:=by
 obtain ⟨B,vals,o1,o2,o3,o4,o5⟩:=h.ents i _ hi;rw [VR] at hv;subst hv;rw [o2] at o1;refine ⟨(φ i).ad,?_,?_,?_,fun hn=>o1.nil0 hn,fun _=>rfl⟩
 ·show Value.slice (φ i).ad (φ i).n (φ i).cap=Value.slice (φ i).ad xs.length ((φ i).cap-0);rw [o2];rfl
 ·show 0+xs.length<=(φ i).cap;rw [U0];exact o1.le.1
 rcases o1.cases with ⟨_,hn,_⟩|⟨c,had,_⟩
 ·exact .inl hn
 ·refine .inr ⟨_,had,had.trans ?_⟩;show some (⟨_,0,none⟩:Addr)=some ⟨_,0+0*_,none⟩;rw [M1]
def Sim.cellSl {w0:World} {S0:Ow} {F:AF T} {H:List (Ent T.U)} {F':PF} {w:World} {S:List Nat} {φ:Nat->RA} (h:Sim T w0 S0 ⟨F,H⟩ F' w S φ) {i c k:Nat} {e0 e:TypeId} {cs:List (AV T.U)} {t:Ty} {xs:List (den T.U t)}
  (hi:H[i]?=some (.blk e0 cs)) (hc:cs[c]?=some (.own k)) (hk:H[k]?=some (.row e t xs)):Sim T w0 S0 ⟨F,H.set i (.blk e0 (cs.set c (.sl k (szT T t) 0 xs.length)))⟩ F' w S φ:=by
 obtain ⟨g,cv,a1,a2,a3,a4⟩:=h.ents i _ hi;refine h.upd (i:=i) (e0:=.blk e0 cs) (e:=.blk e0 (cs.set c (.sl k (szT T t) 0 xs.length))) (Tc:= []) (w':=w) hi rfl (Chg.refl [] w) (by simp)
  ⟨g,cv,a1,a2,a3,BR.swap (b:=.sl k (szT T t) 0 xs.length) rfl rfl (fun v hv=>kq8 h hk hv) a4 hc⟩ ?_ (by intro _ _ _ h;cases h)
 intro j hj;rw [Ent.cellIds] at hj;obtain ⟨b,hb,hjb⟩:=zq0 hj;rcases M0 hb with hb|hb
 ·exact h.eids i _ hi j (by rw [Ent.cellIds];exact zi4 hb j hjb)
 ·subst hb;have hm:(AV.own k:AV T.U)∈cs:=X6 hc;simp only [AV.ids,Q5] at hjb;subst hjb;exact h.eids i _ hi j (by rw [Ent.cellIds];exact zi4 hm j (by simp [AV.ids]))
def zc1 {w0:World} {S0:Ow} {F:AF T} {F':PF} {w:World}: ∀(l:List (Nat×Nat×TypeId×Ty)) {H:List (Ent T.U)},zc0 T w0 S0 ⟨F,H⟩ F' w->zc0 T w0 S0 ⟨F,ze9 T l H⟩ F' w
 | [],_,h=>h
 |(i,c,e,t)::r,H,h=>by
  unfold ze9;split
  ·exact zc1 r (zu3 _ h)
  split
  ·rename_i e0 cs hi;split
   ·rename_i hc;refine zc1 r ?_;obtain ⟨S,φ,h⟩:=h;have h1:=h.addNilE e t;have hil:=(X2.1 hi).1;obtain ⟨g,cv,a1,a2,a3,a4⟩:=h1.ents i _ (by rw [X8 hil];exact hi);have h2:=h1.upd (i:=i) (e0:=.blk e0 cs) (e:=.blk e0 (cs.set c (.own H.length))) (Tc:= []) (w':=w) (by rw [X8 hil];exact hi) rfl (Chg.refl [] w) (by simp)
     ⟨g,cv,a1,a2,a3,BR.swap (b:=.own H.length) rfl rfl (fun v hv=>by rw [VR] at hv;subst hv;rw [VR,j5]) a4 hc⟩
     (by
      intro j hj;rw [Ent.cellIds] at hj;obtain ⟨b,hb,hjb⟩:=zq0 hj;rcases M0 hb with hb|hb
      ·have:=h.eids i _ hi j (by rw [Ent.cellIds];exact zi4 hb j hjb);simp at this⊢;omega
      ·subst hb;simp [AV.ids] at hjb;subst hjb;simp) (by intro _ _ _ h;cases h)
    have hset:(H++ [zv6 T e t]).set i (.blk e0 (cs.set c (.own H.length)))=H.set i (.blk e0 (cs.set c (.own H.length)))++ [zv6 T e t]:=by
     rw [List.set_append_left _ _ hil]
    rw [hset] at h2;exact ⟨S,_,h2⟩
   ·rename_i k hc;split
    ·split
     ·rename_i e' t' xs hk;obtain ⟨S,φ,h⟩:=h;exact zc1 r ⟨S,φ,h.cellSl hi hc hk⟩
     ·exact zc1 r h
    ·exact zc1 r h
   ·exact zc1 r h
  ·exact zc1 r h
end
end Go.X
namespace Go.X
open Go.RowKit Go.V
section
variable {T:Tab} {w:World} {S:List Nat} {φ φ':Nat->RA}
def Ent.plain {U:Nat->Type}:Ent U->Bool| .drow _ _ _ _ _=>false| .pmap _ _ _ _ _=>false| .hid=>false|_=>true
def EntR.renS {ρ:Nat->Nat} {i:Nat} {e:Ent T.U} (h:EntR T w S φ i e) {j:Nat} (hj:RSame (φ' j) (φ i)) (hx:e.plain=true\/(φ' j).xs=(φ i).xs) (hc: ∀k∈e.cellIds,RSame (φ' (ρ k)) (φ k)):EntR T w S φ' j (e.ren ρ):=by
 obtain ⟨r1,r2,r3⟩:=hj;cases e with
 |blk e cs=>obtain ⟨g,c,a1,a2,a3,a4⟩:=h;exact ⟨g,c,by rw [r1];exact a1,a2,a3,a4.renS T hc⟩
 |row e t xs=>obtain ⟨B,vals,a1,a2,a3,a4,a5⟩:=h;simp only [Ent.ren,EntR,r1,r2,r3];exact ⟨B,vals,a1,a2,a3,a4,a5⟩
 |map k es=>obtain ⟨g,l,c,a1,a2,a3,a4,a5⟩:=h;exact ⟨g,l,c,by rw [r1];exact a1,a2,a3,a4.renS T hc,a5⟩
 |tmap k t m=>obtain ⟨g,l,c,a1,a2⟩:=h;exact ⟨g,l,c,by rw [r1];exact a1,a2⟩
 |drow e d fe xs op=>
  have hj:φ' j=φ i:=by
   replace hx:=hx.resolve_left (by simp [Ent.plain])
   generalize φ' j=a at *;generalize φ i=b at *;cases a;cases b;simp_all
  obtain ⟨B,vals,a1,a2,a3,a4,a5⟩:=h;simp only [Ent.ren,EntR,hj];exact ⟨B,vals,a1,a2,a3,a4,a5.renS T hc⟩
 |pmap k be d m op=>
  have hj:φ' j=φ i:=by
   replace hx:=hx.resolve_left (by simp [Ent.plain])
   generalize φ' j=a at *;generalize φ i=b at *;cases a;cases b;simp_all
  obtain ⟨g,l,c,bs,a1,a2,a3,a4,a5⟩:=h;simp only [Ent.ren,EntR,hj];exact ⟨g,l,c,bs,a1,a2,a3,a4.renS T hc,a5⟩
 |hid=>exact ⟨r1.trans h.1,(hx.resolve_left (by simp [Ent.plain])).trans h.2⟩
 |gone=>trivial
def EntR.ren {ρ:Nat->Nat} {i:Nat} {e:Ent T.U} (h:EntR T w S φ i e) {j:Nat} (hj:φ' j=φ i) (hc: ∀k∈e.cellIds,φ' (ρ k)=φ k):EntR T w S φ' j (e.ren ρ):=by
 cases e with
 |blk e cs=>obtain ⟨g,c,a1,a2,a3,a4⟩:=h;exact ⟨g,c,by rw [hj];exact a1,a2,a3,a4.ren T hc⟩
 |row e t xs=>obtain ⟨B,vals,a1,a2,a3,a4,a5⟩:=h;simp only [Ent.ren,EntR,hj];exact ⟨B,vals,a1,a2,a3,a4,a5⟩
 |map k es=>obtain ⟨g,l,c,a1,a2,a3,a4,a5⟩:=h;exact ⟨g,l,c,by rw [hj];exact a1,a2,a3,a4.ren T hc,a5⟩
 |tmap k t m=>obtain ⟨g,l,c,a1,a2⟩:=h;exact ⟨g,l,c,by rw [hj];exact a1,a2⟩
 |drow e d fe xs op=>obtain ⟨B,vals,a1,a2,a3,a4,a5⟩:=h;simp only [Ent.ren,EntR,hj];exact ⟨B,vals,a1,a2,a3,a4,a5.renS T fun k hk=>RSame.of (hc k hk)⟩
 |pmap k be d m op=>obtain ⟨g,l,c,bs,a1,a2,a3,a4,a5⟩:=h;simp only [Ent.ren,EntR,hj];exact ⟨g,l,c,bs,a1,a2,a3,a4.renS T fun k hk=>RSame.of (hc k hk),a5⟩
 |hid=>exact ⟨by rw [hj];exact h.1,by rw [hj];exact h.2⟩
 |gone=>trivial
end
end Go.X
namespace Go.X
open Go.RowKit Go.V
section
variable {T:Tab} {P:Program} {C:Ctx T} {R:Type} {r:R} {H:List (Ent T.U)} {o:Oper}
abbrev Det (f: {R:Type}->(AV T.U->Option R)->Option R) (K:AV T.U->Option R) (r:R):Prop:= ∃a,K a=some r/\ ∀ {R':Type} (K':AV T.U->Option R'),f K'=K' a
def vg7 {c:Bool} {x y:AV T.U} {K:AV T.U->Option R} (h:ja7 c x y K=some r):Det (fun K=>ja7 c x y K) K r:=by
 unfold ja7 at h;split at h
 ·rename_i z hz;exact ⟨z,h,fun K'=>by simp only [ja7,hz]⟩
 ·rename_i hz;split at h
  ·rename_i hb;by_cases hc:c=true
   ·rw [if_pos hc] at h;exact ⟨x,h,fun K'=>by simp only [ja7,hz,hb,if_pos hc]⟩
   ·rw [if_neg hc] at h;exact ⟨y,h,fun K'=>by simp only [ja7,hz,hb,if_neg hc]⟩
  ·cases h
def vp1 {b:BinOp} {x y:AV T.U} {K:AV T.U->Option R} (h:divA T b x y K=some r):Det (fun K=>divA T b x y K) K r:=by
 unfold divA at h;split at h
 ·split at h
  ·rename_i hk;unfold divA.divI at h;obtain ⟨h0,h⟩:=zz7 h;exact ⟨_,h,fun K'=>by simp only [divA,hk,divA.divI,if_neg h0]⟩
  ·cases h
 ·split at h
  ·rename_i hk;unfold divA.remI at h;obtain ⟨h0,h⟩:=zz7 h;exact ⟨_,h,fun K'=>by simp only [divA,hk,divA.remI,if_neg h0]⟩
  ·cases h
 ·unfold divA.shlI at h;obtain ⟨h0,h⟩:=zz7 h;exact ⟨_,h,fun K'=>by simp only [divA,divA.shlI,if_neg h0]⟩
 ·unfold divA.shrI at h;obtain ⟨h0,h⟩:=zz7 h;exact ⟨_,h,fun K'=>by simp only [divA,divA.shrI,if_neg h0]⟩
 ·cases h
def vj0 {s:ByteArray} {j:Int} {K:Int->Option R} (h:qa8 s j K=some r): ∃a,K a=some r/\ ∀ {R':Type} (K':Int->Option R'),qa8 s j K'=K' a:=by
 unfold qa8 at h;split at h
 ·rename_i b hb;exact ⟨_,h,fun K'=>by simp only [qa8,hb]⟩
 ·cases h
def qo1 {t:TypeId} {s:AV T.U} {j:Int} {K:AV T.U->Option R} (h:zz2 T P t H s j K=some r):Det (fun K=>zz2 T P t H s j K) K r:=by
 unfold zz2 at h;split at h
 ·split at h
  ·rename_i he;obtain ⟨h0,h⟩:=q7 h;exact ⟨_,h,fun K'=>by simp only [zz2,he,if_pos h0]⟩
  ·cases h
 ·split at h
  ·rename_i hi;split at h
   ·rename_i he;obtain ⟨h0,h⟩:=q7 h;exact ⟨_,h,fun K'=>by simp only [zz2,hi,he,if_pos h0]⟩
   ·cases h
  ·cases h
 ·split at h
  ·rename_i hi;split at h
   ·rename_i he hs;obtain ⟨h0,h⟩:=q7 h;obtain ⟨h1,h⟩:=q7 h;exact ⟨_,h,fun K'=>by simp only [zz2,hi,he,hs,if_pos h0,if_pos h1]⟩
   ·cases h
  ·rename_i hi;split at h
   ·rename_i s hs;split at h
    ·rename_i hb;obtain ⟨h0,h⟩:=q7 h;exact ⟨_,h,fun K'=>by simp only [zz2,hi,hs,hb,if_pos h0]⟩
    ·cases h
   ·cases h
  ·cases h
 ·split at h
  ·rename_i s hs;split at h
   ·rename_i hb;obtain ⟨h0,h⟩:=q7 h;exact ⟨_,h,fun K'=>by simp only [zz2,hs,hb,if_pos h0]⟩
   ·cases h
  ·cases h
 ·cases h
def qr1 {t:TypeId} {s:AV T.U} {lo hi:Option Int} {K:AV T.U->Option R} (h:yc7 T P t H s lo hi K=some r):Det (fun K=>yc7 T P t H s lo hi K) K r:=by
 unfold yc7 at h;split at h
 ·simp only at h;split at h
  ·rename_i he;obtain ⟨h0,h⟩:=q7 h;exact ⟨_,h,fun K'=>by simp only [yc7,he,if_pos h0]⟩
  ·cases h
 ·split at h
  ·rename_i hi;simp only at h;split at h
   ·rename_i he;obtain ⟨h0,h⟩:=q7 h;exact ⟨_,h,fun K'=>by simp only [yc7,hi,he,if_pos h0]⟩
   ·cases h
  ·cases h
 ·split at h
  ·rename_i hi;simp only at h;split at h
   ·rename_i he hs;obtain ⟨h0,h⟩:=q7 h;exact ⟨_,h,fun K'=>by simp only [yc7,hi,he,hs,if_pos h0]⟩
   ·cases h
  ·cases h
 ·simp only at h;split at h
  ·rename_i he;split at h
   ·rename_i hb;obtain ⟨h0,h⟩:=q7 h;exact ⟨_,h,fun K'=>by simp only [yc7,he,hb,if_pos h0]⟩
   ·cases h
  ·cases h
 ·cases h
def vh5 {st:St T} {K:AV T.U->Option R} (h:zq9 P o st K=some r):Det (fun K=>zq9 P o st K) K r:=by
 unfold zq9 at h;split at h
 ·rename_i a ha;split at h
  ·rename_i hm;exact ⟨a,h,fun K'=>by simp only [zq9,ha,hm]⟩
  ·cases h
 ·rename_i hp;split at h
  ·rename_i hop;rw [hop] at hp;split at h
   ·rename_i hc hx hy;obtain ⟨a,h1,h2⟩:=vg7 h;exact ⟨a,h1,fun K'=>by simp only [zq9,hp,hop,hc,hx,hy];exact h2 K'⟩
   ·cases h
  ·rename_i hop;rw [hop] at hp;split at h
   ·rename_i hx hy;obtain ⟨a,h1,h2⟩:=vp1 h;exact ⟨a,h1,fun K'=>by simp only [zq9,hp,hop,hx,hy];exact h2 K'⟩
   ·cases h
  ·rename_i hop;rw [hop] at hp;split at h
   ·rename_i hx;split at h
    ·rename_i a hl;exact ⟨a,h,fun K'=>by simp only [zq9,hp,hop,hx,hl]⟩
    ·cases h
   ·cases h
  ·rename_i hop;rw [hop] at hp;split at h
   ·rename_i hs hd hx;split at h
    ·rename_i he;obtain ⟨xs,h1,h2⟩:=jg2 (t:=.list (.int .u8)) h;exact ⟨_,h1,fun K'=>by simp only [zq9,hp,hop,hs,hd,hx,he];exact h2 _⟩
    ·cases h
   ·cases h
  ·rename_i hop;rw [hop] at hp;split at h
   ·rename_i hu hx hy;obtain ⟨a,h1,h2⟩:=vj0 h;exact ⟨_,h1,fun K'=>by simp only [zq9,hp,hop,hu,hx,hy];exact h2 _⟩
   ·cases h
  ·rename_i hop;rw [hop] at hp;split at h
   ·rename_i hx hy;obtain ⟨a,h1,h2⟩:=qo1 h;exact ⟨a,h1,fun K'=>by simp only [zq9,hp,hop,hx,hy];exact h2 K'⟩
   ·cases h
  ·rename_i hop;rw [hop] at hp;split at h
   ·rename_i l m hx hl hh;split at h
    ·cases h
    ·rename_i hn;obtain ⟨a,h1,h2⟩:=qr1 h;refine ⟨a,h1,fun K'=>?_⟩;simp only [zq9,hp,hop,hx,hl,hh]
     try exact h2 K'
     all_goals first|exact h2 K'|(split<;>first|exact h2 K'|exact absurd rfl (by simp_all))
   ·cases h
  ·rename_i hop;rw [hop] at hp;split at h
   ·rename_i a hx;split at h
    ·rename_i b hb;split at h
     ·rename_i hn;exact ⟨b,h,fun K'=>by simp only [zq9,hp,hop,hx,hb,hn]⟩
     ·cases h
    ·cases h
   ·cases h
  ·rename_i c hop;rw [hop] at hp;split at h
   ·cases h
   ·rename_i aS has;split at h
    ·rename_i hc;split at h
     ·rename_i a t hat;split at h
      ·rename_i z hz;exact ⟨_,h,fun K'=>by simp only [zq9,hp,hop,has,hc,hat,hz]⟩
      ·rename_i hz;split at h
       ·rename_i z hz2;exact ⟨_,h,fun K'=>by simp only [zq9,hp,hop,has,hc,hat,hz,hz2]⟩
       ·cases h
     ·cases h
    ·rename_i hc;split at h
     ·rename_i a ha;exact ⟨_,h,fun K'=>by simp only [zq9,hp,hop,has,hc,ha]⟩
     ·cases h
    ·rename_i hc;split at h
     ·rename_i a ha;exact ⟨_,h,fun K'=>by simp only [zq9,hp,hop,has,hc,ha]⟩
     ·cases h
    ·cases h
  ·cases h
def qo2 {n sz:Nat} {s:AV T.U} {j:Int} {K:AV T.U->Option R} (h:yc0 T n sz H s j K=some r):Det (fun K=>yc0 T n sz H s j K) K r:=by
 unfold yc0 at h;split at h
 ·split at h
  ·rename_i hi;split at h
   ·rename_i hl;split at h
    ·rename_i ha;split at h
     ·rename_i hb;obtain ⟨h0,h⟩:=q7 h;exact ⟨_,h,fun K'=>by simp only [yc0,hi,hl,ha,hb,if_pos h0]⟩
     ·cases h
    ·rename_i ha;obtain ⟨h0,h⟩:=q7 h;exact ⟨_,h,fun K'=>by simp only [yc0,hi,hl,ha,if_pos h0]⟩
   ·cases h
  ·cases h
 ·split at h
  ·rename_i hb;obtain ⟨h0,h⟩:=q7 h;obtain ⟨h1,h⟩:=q7 h;exact ⟨_,h,fun K'=>by simp only [yc0,hb,if_pos h0,if_pos h1]⟩
  ·cases h
 ·split at h
  ·rename_i hi;split at h
   ·rename_i hb;obtain ⟨h0,h⟩:=q7 h;obtain ⟨h1,h⟩:=q7 h;exact ⟨_,h,fun K'=>by simp only [yc0,hi,hb,if_pos h0,if_pos h1]⟩
   ·cases h
  ·cases h
 ·cases h
def qr2 {n sz:Nat} {s:AV T.U} {lo hi:Option Int} {K:AV T.U->Option R} (h:yn2 T n sz H s lo hi K=some r):Det (fun K=>yn2 T n sz H s lo hi K) K r:=by
 unfold yn2 at h;simp only at h;split at h
 ·split at h
  ·rename_i hi;split at h
   ·rename_i hl;split at h
    ·rename_i ha;split at h
     ·rename_i hb;obtain ⟨h0,h⟩:=q7 h;exact ⟨_,h,fun K'=>by simp only [yn2,hi,hl,ha,hb,if_pos h0]⟩
     ·cases h
    ·cases h
   ·cases h
  ·cases h
 ·split at h
  ·rename_i hb;obtain ⟨h0,h⟩:=q7 h;obtain ⟨h1,h⟩:=q7 h;exact ⟨_,h,fun K'=>by simp only [yn2,hb,if_pos h0,if_pos h1]⟩
  ·cases h
 ·cases h
def qm2 {n sz:Nat} {s:AV T.U} {K:AV T.U->Option R} (h:yl5 T n sz H s K=some r):Det (fun K=>yl5 T n sz H s K) K r:=by
 unfold yl5 at h;split at h
 ·split at h
  ·rename_i hb;obtain ⟨h0,h⟩:=q7 h;exact ⟨_,h,fun K'=>by simp only [yl5,hb,if_pos h0]⟩
  ·cases h
 ·split at h
  ·rename_i hi;split at h
   ·rename_i hb;obtain ⟨h0,h⟩:=q7 h;exact ⟨_,h,fun K'=>by simp only [yl5,hi,hb,if_pos h0]⟩
   ·cases h
  ·cases h
 ·cases h
def vf3 {n sz:Nat} {ok:Bool} {s:AV T.U} {ob:Option (AV T.U)} {K:AV T.U->Option R} (h:yk2 T n sz ok H s K (j7 ob K)=some r):Det (fun K=>yk2 T n sz ok H s K (j7 ob K)) K r:=by
 unfold yk2 at h;split at h
 ·split at h
  ·rename_i hb;obtain ⟨h0,h⟩:=q7 h;exact ⟨_,h,fun K'=>by simp only [yk2,hb,if_pos h0]⟩
  ·rename_i hb;obtain ⟨a,rfl,h⟩:=zd8 h;exact ⟨a,h,fun K'=>by simp only [yk2,hb,j7]⟩
 ·split at h
  ·rename_i hi;split at h
   ·rename_i hb;obtain ⟨h0,h⟩:=q7 h;exact ⟨_,h,fun K'=>by simp only [yk2,hi,hb,if_pos h0]⟩
   ·rename_i hb;obtain ⟨a,rfl,h⟩:=zd8 h;exact ⟨a,h,fun K'=>by simp only [yk2,hi,hb,j7]⟩
  ·rename_i hi;obtain ⟨a,rfl,h⟩:=zd8 h;refine ⟨a,h,fun K'=>?_⟩;simp only [yk2];rfl
 ·rename_i h1 h2;obtain ⟨a,rfl,h⟩:=zd8 h;refine ⟨a,h,fun K'=>?_⟩;unfold yk2;split
  ·exact absurd rfl (h1 _ _ _ _)
  ·exact absurd rfl (h2 _ _ _ _)
  ·rfl
def qo3 {n sz:Nat} {s:AV T.U} {j:Int} {K:AV T.U->Option R} (h:ym7 T n sz s j K=some r):Det (fun K=>ym7 T n sz s j K) K r:=by
 unfold ym7 at h;split at h
 ·split at h
  ·rename_i hb;obtain ⟨h0,h⟩:=q7 h;exact ⟨_,h,fun K'=>by simp only [ym7,hb,if_pos h0]⟩
  ·cases h
 ·split at h
  ·rename_i hb hr;obtain ⟨h0,h⟩:=q7 h;exact ⟨_,h,fun K'=>by simp only [ym7,hb,hr,if_pos h0]⟩
  ·cases h
 ·cases h
def jq2 {co:Bool} {z:AV T.U} {x:Int} {K:AV T.U->Option R}: ∀ {es:List (Int×AV T.U)},ja5 T co z x K es=some r->Det (fun K=>ja5 T co z x K es) K r
 | [],h=>⟨_,h,fun K'=>rfl⟩
 |(y,a)::es,h=>by
  unfold ja5 at h;split at h
  ·rename_i he;exact ⟨_,h,fun K'=>by simp only [ja5,if_pos he]⟩
  ·rename_i he;obtain ⟨b,h1,h2⟩:=jq2 h;exact ⟨b,h1,fun K'=>by simp only [ja5,if_neg he];exact h2 K'⟩
def vf4 {t:TypeId} {co:Bool} {m:AV T.U} {kx:IntKind} {x:Int} {K:AV T.U->Option R} (h:jd9 T P t co H m kx x K=some r):Det (fun K=>jd9 T P t co H m kx x K) K r:=by
 unfold jd9 at h;split at h
 ·rename_i hm;split at h
  ·rename_i hi;split at h
   ·rename_i hb hz;obtain ⟨b,h1,h2⟩:=jq2 h;exact ⟨b,h1,fun K'=>by simp only [jd9,hm,hi,hb,hz];exact h2 K'⟩
   ·cases h
  ·rename_i hi;split at h
   ·rename_i hb;exact ⟨_,h,fun K'=>by simp only [jd9,hm,hi,hb]⟩
   ·cases h
  ·cases h
 ·cases h
def vh6 {st:St T} {K:AV T.U->Option R} (h:yl0 P o st K=some r):Det (fun K=>yl0 P o st K) K r:=by
 unfold yl0 at h;split at h
 ·rename_i hop;split at h
  ·rename_i hai hx hy;obtain ⟨a,h1,h2⟩:=qo2 h;exact ⟨a,h1,fun K'=>by simp only [yl0,hop,hai,hx,hy];exact h2 K'⟩
  ·cases h
 ·rename_i hop;split at h
  ·rename_i hai hx hy hel;obtain ⟨a,h1,h2⟩:=qo3 h;exact ⟨a,h1,fun K'=>by simp only [yl0,hop,hai,hx,hy,hel];exact h2 K'⟩
  ·cases h
 ·rename_i hop;split at h
  ·rename_i hai hx hl hh;obtain ⟨a,h1,h2⟩:=qr2 h;exact ⟨a,h1,fun K'=>by simp only [yl0,hop,hai,hx,hl,hh];exact h2 K'⟩
  ·cases h
 ·rename_i hop;split at h
  ·rename_i hai hx;obtain ⟨a,h1,h2⟩:=qm2 h;exact ⟨a,h1,fun K'=>by simp only [yl0,hop,hai,hx];exact h2 K'⟩
  ·cases h
 ·rename_i hop;split at h
  ·rename_i hai hx;obtain ⟨a,h1,h2⟩:=vf3 h;exact ⟨a,h1,fun K'=>by simp only [yl0,hop,hai,hx];exact h2 K'⟩
  ·cases h
 ·rename_i hop;split at h
  ·rename_i a hx;split at h
   ·rename_i hs;exact ⟨a,h,fun K'=>by simp only [yl0,hop,hx,hs]⟩
   ·cases h
  ·cases h
 ·rename_i hop;split at h
  ·rename_i hm hx;obtain ⟨b,h1,h2⟩:=vf4 h;simp only at h1;split at h1
   ·rename_i hn;exact ⟨b,h1,fun K'=>by simp only [yl0,hop,hm,hx];refine (h2 _).trans ?_;simp only [hn]⟩
   ·cases h1
  ·cases h
 ·cases h
def vh4 {st:St T} {K:AV T.U->Option R} (h:zx2 P o st K=some r):Det (fun K=>zx2 P o st K) K r:=by
 unfold zx2 at h;split at h
 ·rename_i ho;obtain ⟨a,h1,h2⟩:=vh6 h;exact ⟨a,h1,fun K'=>by simp only [zx2,ho];exact h2 K'⟩
 ·rename_i ho;obtain ⟨a,h1,h2⟩:=vh5 h;exact ⟨a,h1,fun K'=>by simp only [zx2,ho];exact h2 K'⟩
def wrA (C:Ctx T) (o:Oper) (st:St T):List Nat:=
 match o.op with
 | .store _ x _=>match aev T st.F x with|some a=>a.ids|none=> []
 | .insert _ m _ _=>match aev T st.F m with|some a=>a.ids|none=> []
 | .mapUpdate _ m _ _=>match aev T st.F m with|some a=>a.ids|none=> []
 | .convert _ d x=>match C.ty d,aev T st.F x with|some _,some a=>a.ids|_,_=> []
 | .call c=>match zn8 T st.F c.args.toList with
  |none=> []
  |some aS=>match c.callee with
   | .value f=>match aev T st.F f with
    |some (.fn (.func g) first caps)=>(match jy7 C.E g with|some cs=>cs.wr (first++aS++caps) st.H|none=> [])
    |_=> []
   | .builtin .append=>match aS with|s::_=>s.ids| []=> []
   | .builtin .clear=>match aS with|s::_=>s.ids| []=> []
   | .builtin .delete=>match aS with|s::_=>s.ids| []=> []
   |_=> []
 |_=> []
def Keeps.refl (l:List Nat):Keeps T l H H:=⟨W8 _,fun _ _ _=>rfl,fun _ _ _ ys _ h=>⟨ys,h⟩⟩
def Keeps.app {l:List Nat} {es:List (Ent T.U)}:Keeps T l H (H++es):=
 ⟨by simp,fun e he _=>X8 he,fun e ty t ys he h=>⟨ys,by rwa [X8 he] at h⟩⟩
def Keeps.set {l:List Nat} {i:Nat} {x:Ent T.U} (hi:i∈l) (hr: ∀(ty:TypeId) (t:Ty) (ys:List (den T.U t)),x=.row ty t ys-> ∃xs,H[i]?=some (.row ty t xs)):Keeps T l H (H.set i x):=by
 refine ⟨by simp,fun e he hn=>?_,fun e ty t ys he h=>?_⟩
 ·rw [Z5 (fun e':i=e=>hn (e'▸hi))]
 ·by_cases hie:i=e
  ·subst hie;rw [Q0 he] at h;simp only [X0] at h;exact hr ty t ys h
  ·rw [Z5 hie] at h;exact ⟨ys,h⟩
def Keeps.setApp {l:List Nat} {i:Nat} {x:Ent T.U} {es:List (Ent T.U)} (h:Keeps T l H (H.set i x)):Keeps T l H (H.set i x++es):=by
 refine ⟨by simp,fun e he hn=>?_,fun e ty t ys he h1=>?_⟩
 ·rw [X8 (by simpa using he)];exact h.same e he hn
 ·rw [X8 (by simpa using he)] at h1;exact h.row e ty t ys he h1
def jt6 {t:TypeId} {p a:AV T.U} {H1:List (Ent T.U)} (h:jb6 T P t H p a=some H1):Keeps T p.ids H H1:=by
 unfold jb6 at h;split at h
 ·split at h
  ·rename_i i o0 e cs hi;split at h
   ·simp only [X0] at h;subst h;exact .set (by simp [AV.ids]) fun _ _ _ h=>by cases h
   ·cases h
  ·cases h
 ·split at h
  ·split at h
   ·split at h
    ·simp only [X0] at h;subst h;exact .set (by simp [AV.ids]) fun _ _ _ h=>by cases h
    ·cases h
   ·cases h
  ·cases h
 ·split at h
  ·rename_i i o0 k0 c0 e ty xs hi;split at h
   ·split at h
    ·rename_i y hy;simp only [X0] at h;subst h;refine .set (by simp [AV.ids]) fun ty' t' ys h=>?_;simp only [Ent.row.injEq] at h;obtain ⟨rfl,rfl,_⟩:=h;exact ⟨xs,hi⟩
    ·cases h
   ·cases h
  ·cases h
 ·cases h
def jd3 {t:TypeId} {m:AV T.U} {kx:IntKind} {x:Int} {a:AV T.U} {H1:List (Ent T.U)} (h:vw9 T P t H m kx x a=some H1):Keeps T m.ids H H1:=by
 unfold vw9 at h;split at h
 ·split at h
  ·split at h
   ·simp only [X0] at h;subst h;exact .set (by simp [AV.ids]) fun _ _ _ h=>by cases h
   ·cases h
  ·split at h
   ·simp only [X0] at h;subst h;exact .set (by simp [AV.ids]) fun _ _ _ h=>by cases h
   ·cases h
  ·cases h
 ·cases h
def qn1 {t:TypeId} {m:AV T.U} {kx:IntKind} {x:Int} {H1:List (Ent T.U)} (h:kd9 T P t H m kx x=some H1):Keeps T m.ids H H1:=by
 unfold kd9 at h;split at h<;>try (cases h;done)
 split at h<;>try (cases h;done)
 all_goals
  split at h<;>try (cases h;done)
  simp only [X0] at h;subst h;exact .set (by simp [AV.ids]) fun _ _ _ h=>by cases h
abbrev kv6 (f: {R:Type}->(AV T.U->List (Ent T.U)->Option R)->Option R) (K:AV T.U->List (Ent T.U)->Option R) (l:List Nat) (H:List (Ent T.U)) (r:R):Prop:=
 ∃a H1,K a H1=some r/\Keeps T l H H1/\ ∀ {R':Type} (K':AV T.U->List (Ent T.U)->Option R'),f K'=K' a H1
def vu3 {R:Type} {r:R} {ty:Ty} {a:AV T.U} {K:List (den T.U ty)->Option R} (h:appA.rowX T ty H a K=some r): ∃xs,K xs=some r/\ ∀ {R':Type} (K':List (den T.U ty)->Option R'),appA.rowX T ty H a K'=K' xs:=by
 unfold appA.rowX at h;split at h
 ·rename_i hy;exact ⟨_,h,fun K'=>by simp only [appA.rowX,hy]⟩
 ·rename_i hy;split at h<;>try (cases h;done)
  split at h<;>try (cases h;done)
  rename_i hi;split at h<;>try (cases h;done)
  rename_i hsz;split at h<;>try (cases h;done)
  rename_i ht;split at h<;>try (cases h;done)
  rename_i hle;exact ⟨_,h,fun K'=>by simp only [appA.rowX,hy,hi,hsz,dif_pos ht,if_pos hle]⟩
def vu2 {R:Type} {r:R} {ty:Ty} {a:AV T.U} {K:List (den T.U ty)->Option R} (h:appA.rowB T ty H a K=some r): ∃xs,K xs=some r/\ ∀ {R':Type} (K':List (den T.U ty)->Option R'),appA.rowB T ty H a K'=K' xs:=by
 unfold appA.rowB at h;split at h
 ·split at h
  ·rename_i hi;split at h
   ·rename_i hsz;split at h
    ·rename_i ht;split at h
     ·rename_i hle;exact ⟨_,h,fun K'=>by simp only [appA.rowB,hi,hsz,dif_pos ht,if_pos hle]⟩
     ·cases h
    ·cases h
   ·cases h
  ·cases h
 ·rename_i hn;split at h
  ·rename_i hx;refine ⟨_,h,fun K'=>?_⟩;unfold appA.rowB;split
   ·exact (hn _ _ _ _ rfl).elim
   ·simp only [hx]
  ·cases h
def vn5 {ty:Ty} {t:TypeId} {s x:AV T.U} {K:AV T.U->List (Ent T.U)->Option R} (h:appA T P ty t H s x K=some r):kv6 (fun K=>appA T P ty t H s x K) K s.ids H r:=by
 unfold appA at h;split at h
 ·rename_i he;split at h
  ·rename_i hb;obtain ⟨xs,h,hx⟩:=vu2 h;obtain ⟨ys,h,hd⟩:=vu3 h;obtain ⟨h0,h⟩:=q7 h;refine ⟨_,_,h,?_,fun K'=>by simp only [appA,he,hb,hx,hd,if_pos h0]⟩;unfold appA.goneA;split
   ·exact (Keeps.set (by simp [AV.ids]) fun _ _ _ h=>by cases h).setApp
   ·exact (Keeps.set (by simp [AV.ids]) fun _ _ _ h=>by cases h).setApp
   ·exact .app
  ·cases h
 ·cases h
def vf8 {ty:Ty} {t:TypeId} {l c:Int} {K:AV T.U->List (Ent T.U)->Option R} (h:jn0 T P ty t H l c K=some r) (w:List Nat):kv6 (fun K=>jn0 T P ty t H l c K) K w H r:=by
 unfold jn0 at h;split at h
 ·rename_i he;split at h
  ·rename_i hs hz;split at h
   ·rename_i hx;obtain ⟨h0,h⟩:=q7 h;exact ⟨_,_,h,.app,fun K'=>by simp only [jn0,he,hs,hz,hx,if_pos h0]⟩
   ·cases h
  ·cases h
 ·cases h
def qm7 {t:TypeId} {s:AV T.U} {K:AV T.U->List (Ent T.U)->Option R} (h:yl9 T P t H s K=some r):kv6 (fun K=>yl9 T P t H s K) K s.ids H r:=by
 unfold yl9 at h;split at h<;>try (cases h;done)
 ·split at h<;>try (cases h;done)
  rename_i hi hu;exact ⟨_,_,h,.set (by simp [AV.ids]) (fun ty' t' ys h=>by cases h),fun K'=>by simp only [yl9,hi,hu]⟩
 split at h<;>try (cases h;done)
 rename_i hi;split at h<;>try (cases h;done)
 rename_i he;split at h<;>try (cases h;done)
 rename_i hs hz;split at h<;>try (cases h;done)
 rename_i hx;obtain ⟨h0,h⟩:=q7 h;refine ⟨_,_,h,.set (by simp [AV.ids]) fun ty' t' ys h=>?_,fun K'=>by simp only [yl9,hi,he,hs,hz,hx,if_pos h0]⟩;simp only [Ent.row.injEq] at h;obtain ⟨rfl,rfl,_⟩:=h;exact ⟨_,hi⟩
def vd1 (hE:za0 T P C.E) {c:Call} (hop:o.op=.call c) {st:St T} {K Kp:AV T.U->List (Ent T.U)->Option R} (h:yj4 P C c st K Kp=some r):
  (∃a H1,K a H1=some r/\Keeps T (wrA C o st) st.H H1/\ ∀ {R':Type} (K' Kp':AV T.U->List (Ent T.U)->Option R'),yj4 P C c st K' Kp'=K' a H1)\/ ∃a H1,Kp a H1=some r/\Keeps T (wrA C o st) st.H H1/\ ∀ {R':Type} (K' Kp':AV T.U->List (Ent T.U)->Option R'),yj4 P C c st K' Kp'=Kp' a H1:=by
 unfold yj4 at h;split at h
 ·cases h
 ·rename_i aS has;split at h
  ·rename_i f hc;split at h
   ·rename_i g first caps hf
    split at h
    ·rename_i cs he hcs;split at h
     ·rename_i hall;rcases (hE g cs hcs).2.2 _ _ _ _ _ h with ⟨a,H1,h1,h2,h3⟩|⟨a,H1,h1,h2,h3⟩
      ·refine .inl ⟨a,H1,h1,?_,fun K' Kp'=>by simp only [yj4,has,hc,hf,he,hcs,hall,h3]⟩;have:wrA C o st=cs.wr (first++aS++caps) st.H:=by simp only [wrA,hop,has,hc,hf,hcs]
       rw [this];exact h2
      ·refine .inr ⟨a,H1,h1,?_,fun K' Kp'=>by simp only [yj4,has,hc,hf,he,hcs,hall,h3]⟩;have:wrA C o st=cs.wr (first++aS++caps) st.H:=by simp only [wrA,hop,has,hc,hf,hcs]
       rw [this];exact h2
     ·cases h
    ·cases h
   ·cases h
  ·rename_i hc;split at h
   ·rename_i s x t t' hat;split at h
    ·rename_i e htt he;obtain ⟨a,H1,h1,h2,h3⟩:=vn5 h;refine .inl ⟨a,H1,h1,?_,fun K' Kp'=>by simp only [yj4,has,hc,hat,htt,he,h3]⟩;have:wrA C o st=s.ids:=by simp only [wrA,hop,has,hc]
     rw [this];exact h2
    ·cases h
   ·cases h
  ·rename_i hc;split at h
   ·rename_i s t hat;obtain ⟨a,H1,h1,h2,h3⟩:=qm7 h;refine .inl ⟨a,H1,h1,?_,fun K' Kp'=>by simp only [yj4,has,hc,hat,h3]⟩;have:wrA C o st=s.ids:=by simp only [wrA,hop,has,hc]
    rw [this];exact h2
   ·cases h
  ·rename_i hc;split at h
   ·rename_i m kx x t at2 hat;split at h<;>try (cases h;done)
    rename_i H1 hdl;refine .inl ⟨_,H1,h,?_,fun K' Kp'=>by simp only [yj4,has,hc,hat,hdl]⟩;have:wrA C o st=m.ids:=by simp only [wrA,hop,has,hc]
    rw [this];exact qn1 hdl
   ·cases h
  ·cases h
def yl2 (hE:za0 T P C.E) {st:St T} {K:St T->Option R} {Kp:AV T.U->St T->Option R} (h:stepA P C o st K Kp=some r):
  (∃a H1,K ⟨za1 T st.F o.dst a,H1⟩=some r/\Keeps T (wrA C o st) st.H H1/\ ∀ {R':Type} (K':St T->Option R') (Kp':AV T.U->St T->Option R'),stepA P C o st K' Kp'=K' ⟨za1 T st.F o.dst a,H1⟩)\/ ∃a st',Kp a st'=some r/\Keeps T (wrA C o st) st.H st'.H/\ ∀ {R':Type} (K':St T->Option R') (Kp':AV T.U->St T->Option R'),stepA P C o st K' Kp'=Kp' a st':=by
 have hread:zx2 P o st (fun a=>K ⟨za1 T st.F o.dst a,st.H⟩)=some r->(∀ {R':Type} (K':St T->Option R') (Kp':AV T.U->St T->Option R'),stepA P C o st K' Kp'=zx2 P o st fun a=>K' ⟨za1 T st.F o.dst a,st.H⟩)->
   ∃a H1,K ⟨za1 T st.F o.dst a,H1⟩=some r/\Keeps T (wrA C o st) st.H H1/\ ∀ {R':Type} (K':St T->Option R') (Kp':AV T.U->St T->Option R'),stepA P C o st K' Kp'=K' ⟨za1 T st.F o.dst a,H1⟩:=by
  intro h he;obtain ⟨a,h1,h2⟩:=vh4 h;exact ⟨a,st.H,h1,.refl _,fun K' Kp'=>by rw [he];exact h2 _⟩
 unfold stepA at h;simp only at h;split at h
 ·rename_i hop;split at h
  ·rename_i cs hz;split at h
   ·rename_i cs' hl;exact .inl ⟨_,_,h,.app,fun K' Kp'=>by simp only [stepA,hop,hz,hl]⟩
   ·cases h
  ·cases h
 ·rename_i hop;split at h
  ·rename_i a ha;split at h
   ·rename_i hok;exact .inl ⟨_,_,h,.app,fun K' Kp'=>by simp only [stepA,hop,ha,hok]⟩
   ·cases h
  ·cases h
 ·rename_i hop;split at h
  ·rename_i hmk hty;exact .inl ⟨_,_,h,.app,fun K' Kp'=>by simp only [stepA,hop,hmk,hty]⟩
  ·rename_i hmk hty;exact .inl ⟨_,_,h,.app,fun K' Kp'=>by simp only [stepA,hop,hmk,hty]⟩
  ·cases h
 ·rename_i hop;split at h
  ·rename_i hdst hm hx hv;split at h
   ·rename_i H1 hne hi;refine .inl ⟨.raw undef,H1,by rw [hdst];exact h,?_,fun K' Kp'=>by simp only [stepA,hop,hdst,hm,hx,hv,hne,hi];rfl⟩;have: ∀l,wrA C o st=l->Keeps T l st.H H1:=by
     intro l hl';rw [<-hl'];simp only [wrA,hop,hm];exact jd3 hi
    exact this _ rfl
   ·cases h
  ·cases h
 ·rename_i hop;split at h
  ·rename_i hdst hm hx hv;split at h
   ·rename_i H1 hne hi;refine .inl ⟨.raw undef,H1,by rw [hdst];exact h,?_,fun K' Kp'=>by simp only [stepA,hop,hdst,hm,hx,hv,hne,hi];rfl⟩;have: ∀l,wrA C o st=l->Keeps T l st.H H1:=by
     intro l hl';rw [<-hl'];simp only [wrA,hop,hm];exact jd3 hi
    exact this _ rfl
   ·cases h
  ·cases h
 ·rename_i hop;split at h
  ·rename_i hdst hx hy;split at h
   ·rename_i H1 hl;refine .inl ⟨.raw undef,H1,by rw [hdst];exact h,?_,fun K' Kp'=>by simp only [stepA,hop,hdst,hx,hy,hl];rfl⟩;have: ∀l,wrA C o st=l->Keeps T l st.H H1:=by
     intro l hl';rw [<-hl'];simp only [wrA,hop,hx];exact jt6 hl
    exact this _ rfl
   ·cases h
  ·cases h
 ·rename_i hop;split at h
  ·rename_i hx hy he;obtain ⟨a,H1,h1,h2,h3⟩:=vf8 h (wrA C o st);exact .inl ⟨a,H1,h1,h2,fun K' Kp'=>by simp only [stepA,hop,hx,hy,he];exact h3 _⟩
  ·cases h
 ·rename_i hop;split at h
  ·rename_i l ty hl he;split at h
   ·rename_i e xs hb;exact .inl ⟨_,_,h,.app,fun K' Kp'=>by simp only [stepA,hop,hl,he,hb]⟩
   ·cases h
  ·rename_i l hl he;split at h
   ·rename_i e sz cs hb;exact .inl ⟨_,_,h,.app,fun K' Kp'=>by simp only [stepA,hop,hl,he,hb]⟩
   ·cases h
  ·cases h
 ·rename_i c hop;split at h
  ·rename_i hr;exact .inl (hread h fun K' Kp'=>by simp only [stepA,hop,hr])
  ·rename_i hr;rcases vd1 hE hop h with ⟨a,H1,h1,h2,h3⟩|⟨a,H1,h1,h2,h3⟩
   ·exact .inl ⟨a,H1,h1,h2,fun K' Kp'=>by simp only [stepA,hop,hr];exact h3 _ _⟩
   ·exact .inr ⟨a,⟨st.F,H1⟩,h1,h2,fun K' Kp'=>by simp only [stepA,hop,hr];exact h3 _ _⟩
 ·rename_i s d x hop;split at h
  ·rename_i e b h1 h2 h3;split at h
   ·rename_i h4;exact .inl ⟨_,_,h,.refl _,fun K' Kp'=>by simp only [stepA,hop,h1,h2,h3,h4]⟩
   ·cases h
  ·rename_i e i h1 h2 h3;split at h
   ·rename_i y xs hb hty h4 h5;refine .inl ⟨_,_,h,.set (l:=wrA C o st) ?_ (fun _ _ _ h=>by cases h),fun K' Kp'=>by simp only [stepA,hop,h1,h2,h3,hb,hty,h4,h5]⟩;simp [wrA,hop,h3,hty,AV.ids]
   ·cases h
  ·rename_i hn;refine .inl (hread h fun K' Kp'=>?_);unfold stepA;simp only [hop]
 ·rename_i x hop;split at h
  ·rename_i t a ha;exact .inr ⟨_,_,h,.refl _,fun K' Kp'=>by simp only [stepA,hop,ha]⟩
  ·cases h
 ·rename_i h1 h2 h3 h4 h5 h6 h7 h8 h9 h10 h11;refine .inl (hread h fun K' Kp'=>?_);unfold stepA;simp only
end
end Go.X
namespace Go.X
open Go.RowKit Go.V
section
variable {T:Tab} {P:Program} {C:Ctx T} {w w':World} {S S':List Nat} {φ φ':Nat->RA} {w0:World} {S0:Ow} {F:AF T} {H:List (Ent T.U)} {F':PF}
variable {ops:Array Oper} {Q:Exit->Act->World->Prop} {k n:Nat} {ds:List Deferred} {o:Oper}
def Oper.wp_and {o:Oper} {a:Act} {w:World} {K K':Act->World->Prop} {Q Q':Exit->Act->World->Prop} (hK: ∀v w,K (a.put o.dst v) w->K' (a.put o.dst v) w) (hd: ∀(d:Deferred) w',K ({a with defers:=d::a.defers}.put o.dst undef) w'->False) (hQ: ∀e a w,e≠.normal->Q e a w->False)
  (h:o.wp P a w K Q):o.wp P a w K' Q':=by
 unfold Oper.wp at h⊢;generalize (execOp a.eval o).run P w=r at h⊢;unfold Oper.upon at h⊢;split at h
 ·exact hK _ _ h
 ·exact hK _ _ h
 ·exact (hd _ _ h).elim
 ·refine h.mono fun e w' hq=>?_;cases e with
  |returned v=>exact hK _ _ hq
  |panicked ch=>exact (hQ _ _ _ (by simp) hq).elim
  |outgrown=>obtain ⟨a1,w1,h1⟩:=hq;exact (hQ _ _ _ (by simp) h1).elim
 ·exact h.mono fun v w' hq=>hK _ _ hq
 ·exact (hQ _ _ _ (by simp) h).elim
 ·exact h.elim
def jj8 {o:Oper} {g:Option (Nat×Bool)} {a:Act} {w:World} {K:Act->World->Prop} {Q:Exit->Act->World->Prop} (h:({o with guard:=g}:Oper).wp P a w K Q):o.wp P a w K Q:=h
def zt1 (hE:za0 T P C.E) {st':St T} (hs:stepA P C o ⟨F,H⟩ some (fun _ _=>none)=some st') (hdst:zh5 n o.dst=true) (hns:za6 o=true) (hpre:zs3 F o=true) (h:Sim T w0 S0 ⟨F,H⟩ F' w S φ) {a:Act} (ha:Fr n ds F' a):
  o.wp P a w (fun a' w'=> ∃F1,zc0 T w0 S0 st' F1 w'/\Fr n ds F1 a'/\ ∃v,a'=a.put o.dst v) Q:=by
 let o':Oper:= {o with guard:=none}
 have hd:dec #[o'] 0 n F'=some o':=by
  unfold dec;have hw:zx4 #[o'] F' o'=some true:=rfl;have hp:zz9 F' o'=true:=yk7 (o:=o') h.fr hpre;have h1:zh5 n o'.dst=true:=hdst;have h2:za6 o'=true:=hns;simp only [List.getElem?_toArray,Y4,hw,hp,h1,h2,N7]
 have hs':stepA P C o' ⟨F,H⟩ some (fun _ _=>none)=some st':=by
  cases o;exact hs
 have hwr:=zj0 (Q:=fun e a' w'=>e=.normal/\ ∃F1,zc0 T w0 S0 st' F1 w'/\Fr n ds F1 a') (ds:=ds) hE hd hs' h (fun st hst F1 w1 h1=>by
  simp only [X0] at hst;subst hst;exact WR.fin (by rfl) fun a1 ha1=>⟨rfl,F1,h1,ha1⟩) (fun a st hst=>by cases hst)
 have hw:=hwr a ha;unfold wpList at hw;have hwant:Region.wanted o' (yielded #[o'] a.tmps)=true:=by
  have:=(zj4 hd).2.2.2.2 ha;exact this
 have hcons:(#[o']:Array Oper).toList.drop 0= [o']:=rfl;rw [hcons] at hw;simp only [hwant,if_true] at hw;rcases hw with hw|⟨_,a1,w1,h1,_⟩
 ·refine jj8 (g:=none) (Oper.wp_and (o:=o') (K:=wpList P #[o'] _ []) ?_ ?_ ?_ hw)
  ·rintro v w1 h1
   unfold wpList at h1;obtain ⟨_,F1,h2,h3⟩:=h1;exact ⟨F1,h2,h3,v,rfl⟩
  ·rintro d w1 h1
   unfold wpList at h1;obtain ⟨_,F1,h2,h3⟩:=h1;have e1:=h3.defers;have e2:({a with defers:=d::a.defers}.put o'.dst undef).defers=d::a.defers:=by cases o'.dst<;>rfl
   rw [e2,ha.defers] at e1;exact absurd (congrArg List.length e1) (by simp)
  ·rintro e a1 w1 hne ⟨rfl,_⟩
   exact hne rfl
 ·cases h1
def Sim.frame2 (h:Sim T w0 S0 ⟨F,H⟩ F' w S φ) {tch:List Nat} {nb:Nat} {Fc:AF T} {Fc':PF} {H1 H2:List (Ent T.U)} {S1:List Nat} {φ1:Nat->RA}
  (hc:Sim T w ⟨tch.flatMap fun e=>(φ e).all,S,(List.range nb).map φ⟩ ⟨Fc,H1⟩ Fc' w' S1 φ1) (hnb:nb<=H1.length) (hl:H1.length<=H.length) (hpin:S0.pin.length<=nb)
  (hlv: ∀e∈tch,e<nb/\ ∃x,H[e]?=some x/\x.live=true) (hfree: ∀e,nb<=e->e<H1.length->H[e]?=some .gone) (hlen:H2.length=H.length)
  (h2: ∀(e:Nat) (f:Ent T.U),H2[e]?=some f->(e∈tch/\H1[e]?=some f)\/(nb<=e/\H1[e]?=some f)\/(e∉tch/\(e<nb\/H1.length<=e)/\H[e]?=some f))
  (hrow: ∀(e:Nat) (ty:TypeId) (t:Ty) (ys:List (den T.U t)),e∈tch->H1[e]?=some (.row ty t ys)-> ∃xs,H[e]?=some (.row ty t xs))
  (hFid: ∀t a,F.get T t=some a-> ∀i∈a.ids,i<nb\/H1.length<=i) (hHid: ∀(e:Nat) (f:Ent T.U),H[e]?=some f->(e<nb\/H1.length<=e)-> ∀i∈f.cellIds,i<nb\/H1.length<=i):
  ∃φ2,Sim T w0 S0 ⟨F,H2⟩ F' w' S1 φ2/\ ∀a v,VR T w' S1 φ1 a v->(∀i∈a.ids,i<H1.length)->VR T w' S1 φ2 a v:=by
 let φ2:Nat->RA:=fun i=>if i<H1.length/\(i∈tch\/nb<=i) then φ1 i else φ i
 have hp: ∀i,i<nb->RSame (φ1 i) (φ i):=fun i hi=>(hc.pins i (φ i) (by simp [hi])).1;have hinE: ∀i,i<H1.length->(i∈tch\/nb<=i)->φ2 i=φ1 i:=fun i hi h=>if_pos ⟨hi,h⟩;have houtE: ∀i,i∉tch->(i<nb\/H1.length<=i)->φ2 i=φ i:=fun i h hi=>if_neg fun q=>q.2.elim h fun q2=>by have:=q.1;omega
 have hin: ∀i,i<H1.length->RSame (φ2 i) (φ1 i):=fun i hi=>by
  by_cases h:i∈tch\/nb<=i
  ·exact .of (hinE i hi h)
  ·rw [not_or] at h;rw [houtE i h.1 (by omega)];exact (hp i (by omega)).symm
 have hout: ∀i,(i<nb\/H1.length<=i)->RSame (φ2 i) (φ i):=fun i hi=>by
  by_cases h:i∈tch
  ·have:=(hlv i h).1;rw [hinE i (by omega) (.inl h)];exact hp i this
  ·exact .of (houtE i h hi)
 have hT: ∀b∈tch.flatMap (fun e=>(φ e).all),∃e∈tch,∃a,At (φ e) a/\a.block=b:=by
  intro b hb;obtain ⟨e,he,hb⟩:=V8.1 hb;exact ⟨e,he,zn2.1 hb⟩
 have hTS: ∀b∈tch.flatMap (fun e=>(φ e).all),b∈S:=by
  intro b hb;obtain ⟨e,he,a,ha,rfl⟩:=hT b hb;obtain ⟨_,x,hx,hlx⟩:=hlv e he;exact zd5 h hx hlx ha
 have hTc: ∀b∈tch.flatMap (fun e=>(φ e).all),b∈S0.chg\/w0.heap.size<=b:=by
  intro b hb;obtain ⟨e,he,a,ha,rfl⟩:=hT b hb;obtain ⟨_,x,hx,hlx⟩:=hlv e he;exact (h.lives e x hx hlx a ha).2
 have hS1: ∀b∈S1,b∈S\/w.heap.size<=b:=fun b hb=>(hc.own b hb).1;refine ⟨φ2,⟨?_,?_,h.chg.step hc.chg hTc,fun b hb=>⟨?_,(hc.own b hb).2⟩,fun b hb q1 q2=>hc.ex b (h.ex b hb q1 q2) (fun hm=>(hTc b hm).elim q1 fun hm=>by omega) (h.own b (h.ex b hb q1 q2)).2,?_,fun k r hk=>?_,?_,?_,?_⟩,fun a v hv hi=>hv.phiS fun i hm=>hin i (hi i hm)⟩
 ·intro i a ha;obtain ⟨v,g1,g2⟩:=h.fr i a ha;exact ⟨v,g1,(g2.chg T hc.chg hTS hS1).phiS fun j hj=>hout j (hFid i a ha j hj)⟩
 ·intro i a ha;obtain ⟨g1,g2⟩:=h.ids i a ha;refine ⟨fun j hj=>by have:=g1 j hj;simp only [hlen] at this⊢;exact this,?_⟩;cases a with
  |eptr y sz k c=>
   intro e t xs hx;have hy:=hFid i _ ha y (by simp [AV.ids]);rcases h2 y _ hx with ⟨g3,g4⟩|⟨g3,g4⟩|⟨_,_,g4⟩
   ·obtain ⟨zs,g5⟩:=hrow y _ _ _ g3 g4;obtain ⟨q4,q5⟩:=g2 _ _ _ g5;obtain ⟨_,_,_,n1,_⟩:=h.ents y _ g5;obtain ⟨_,_,_,n2,_⟩:=hc.ents y _ g4;rw [(hp y (hlv y g3).1).2.1] at n2;exact ⟨by omega,q5⟩
   ·have:=(X2.1 g4).1;omega
   ·exact g2 e t xs g4
  |_=>trivial
 ·rcases (hc.own b hb).1 with hb|hb
  ·exact (h.own b hb).1
  ·exact .inr (W9 h.chg.size hb)
 ·intro e f hf hfl a ha;have cal:H1[e]?=some f->At (φ1 e) a->a.block∈S1/\(a.block∈S0.chg\/w0.heap.size<=a.block):=fun g4 ha=>by
   refine ⟨(hc.lives e f g4 hfl a ha).1,?_⟩;rcases (hc.lives e f g4 hfl a ha).2 with hm|hm
   ·exact hTc _ hm
   ·exact .inr (W9 h.chg.size hm)
  rcases h2 e f hf with ⟨g1,g4⟩|⟨g1,g4⟩|⟨g0,g1,g4⟩
  ·rw [hinE e (X2.1 g4).1 (.inl g1)] at ha;exact cal g4 ha
  ·rw [hinE e (X2.1 g4).1 (.inr g1)] at ha;exact cal g4 ha
  ·rw [houtE e g0 g1] at ha;have q:=h.lives e f g4 hfl a ha;refine ⟨hc.ex _ q.1 (fun hb=>?_) (h.own _ q.1).2,q.2⟩;obtain ⟨e',he',a',ha',hbe⟩:=hT _ hb;obtain ⟨_,x,hx,hlx⟩:=hlv e' he';exact h.apart e e' f x g4 hx hfl hlx (fun q=>g0 (q▸he')) a a' ha ha' hbe.symm
 ·obtain ⟨g1,g2⟩:=h.pins k r hk;have hk':=(X2.1 hk).1;exact ⟨(hout k (.inl (by omega))).trans g1,by simp only [hlen] at g2⊢;exact g2⟩
 ·intro e f hf;have hcE:(e∈tch\/nb<=e)->H1[e]?=some f->EntR T w' S1 φ2 e f:=fun q g=>
   (hc.ents e f g).phiE (hinE e (X2.1 g).1 q) fun x hx=>hin x (hc.eids e f g x hx)
  rcases h2 e f hf with ⟨q,g⟩|⟨q,g⟩|⟨g1,g2,g3⟩
  ·exact hcE (.inl q) g
  ·exact hcE (.inr q) g
  ·have hnot:f.live=true-> ∀a,At (φ e) a->a.block∉tch.flatMap (fun e=>(φ e).all):=fun hl a ha hb=>by
    obtain ⟨e',he',a',ha',hbe⟩:=hT _ hb;obtain ⟨_,x,hx,hlx⟩:=hlv e' he';exact h.apart e e' f x g3 hx hl hlx (fun q=>g1 (q▸he')) a a' ha ha' hbe.symm
   have h1:=(h.ents e f g3).chg T hc.chg hTS hS1 fun hl a ha=>⟨hnot hl a ha,hc.ex _ (zd5 h g3 hl ha) (hnot hl a ha) (h.own _ (zd5 h g3 hl ha)).2⟩;exact h1.phiE (houtE e g1 g2) fun x hx=>hout x (hHid e f g3 g2 x hx)
 ·intro e f hf j hj;simp only [hlen];rcases h2 e f hf with ⟨_,g⟩|⟨_,g⟩|⟨_,_,g⟩
  ·have:=hc.eids e f g j hj;simp only at this;omega
  ·have:=hc.eids e f g j hj;simp only at this;omega
  ·exact h.eids e f g j hj
 ·have side: ∀(e:Nat) (f:Ent T.U),H2[e]?=some f->(H1[e]?=some f/\φ2 e=φ1 e)\/(e∉tch/\H[e]?=some f/\φ2 e=φ e):=by
   intro e f hf;rcases h2 e f hf with ⟨g0,g⟩|⟨g0,g⟩|⟨g1,g2,g3⟩
   ·exact .inl ⟨g,hinE e (X2.1 g).1 (.inl g0)⟩
   ·exact .inl ⟨g,hinE e (X2.1 g).1 (.inr g0)⟩
   ·exact .inr ⟨g1,g3,houtE e g1 g2⟩
  have cross: ∀(i j:Nat) (f f':Ent T.U),H1[i]?=some f->f.live=true->j∉tch->H[j]?=some f'->f'.live=true-> ∀a b,At (φ1 i) a->At (φ j) b->a.block≠b.block:=by
   intro i j f f' hi hfl hj hfj hfl' a b ha hb;rcases (hc.lives i f hi hfl a ha).2 with hm|hm
   ·obtain ⟨e',he',a',ha',hbe⟩:=hT _ hm;obtain ⟨_,x,hx,hlx⟩:=hlv e' he';rw [<-hbe];exact h.apart e' j x f' hx hfj hlx hfl' (fun q=>hj (q▸he')) a' b ha' hb
   ·have:=(h.own _ (zd5 h hfj hfl' hb)).2;omega
  intro i j f f' hf hf' hfl hfl' hij a b ha hb;rcases side i f hf with ⟨g1,g2⟩|⟨g0,g1,g2⟩<;>rcases side j f' hf' with ⟨k1,k2⟩|⟨k0,k1,k2⟩<;>rw [g2] at ha<;>rw [k2] at hb
  ·exact hc.apart i j f f' g1 k1 hfl hfl' hij a b ha hb
  ·exact cross i j f f' g1 hfl k0 k1 hfl' a b ha hb
  ·exact (cross j i f' f k1 hfl' g0 g1 hfl b a hb ha).symm
  ·exact h.apart i j f f' g1 k1 hfl hfl' hij a b ha hb
end
end Go.X
namespace Go.X
open Go.RowKit Go.V
section
variable {T:Tab} {P:Program} {C:Ctx T} {w w':World} {S S':List Nat} {φ φ':Nat->RA} {w0:World} {S0:Ow} {F:AF T} {H:List (Ent T.U)} {F':PF}
variable {ops:Array Oper} {Q:Exit->Act->World->Prop} {k n:Nat} {ds:List Deferred} {o:Oper} {R:Type} {r:R}
def qm6 (H:List (Ent T.U)) (k:Nat):List Nat:=k::match H[k]? with
 |some (.drow _ d fe _ (some (_,cs)))=>(match zw1 T H (qr9 T d) fe cs with|some (_,ids)=>ids|none=> [])
 |some (.pmap _ _ _ _ (some (_,j)))=> [j]
 |_=> []
def zz0 (C:Ctx T) (o:Oper) (F:AF T) (H:List (Ent T.U)):List Nat:=
 match o.op with
 | .store _ x y=>match aev T F x,aev T F y with
  |some p,some a=>match jv7 T H p a with|some _=>a.ids|none=> []
  |_,_=> []
 | .buildSlice t _ ps=>match C.ty t,zn8 T F (ps.toList.map Prod.snd) with|some _,some aS=>j8 aS|_,_=> []
 | .mapUpdate t _ _ v=>match C.ty t,aev T F v with|some _,some a=>a.ids|_,_=> []
 | .call c=>match c.callee,c.args.toList,c.argTypes.toList with
  | .builtin .append,[x,y],[t,_]=>match C.dr t,aev T F x,aev T F y with
   |some _,some (.own i),some (.own i2)=>qm6 H i++qm6 (zm9 T H i) i2
   |_,_,_=> []
  |_,_,_=> []
 |_=> []
def vk1 (o:Oper) (F:AF T) (H:List (Ent T.U)):List Nat:=
 match o.op with
 | .load _ x=>match aev T F x with|some (.eptr k _ _ _)=>(match H[k]? with|some (.drow _ _ _ _ _)=> [k]|_=> [])|_=> []
 | .store _ x _=>match aev T F x with|some (.eptr k _ _ _)=>(match H[k]? with|some (.drow _ _ _ _ _)=> [k]|_=> [])|_=> []
 |_=> []
def wrF (C:Ctx T) (o:Oper) (st:St T):List Nat:=wrA C o st++(zz0 C o st.F st.H++vk1 o st.F st.H)
def Keeps.sub {l m:List Nat} {H1:List (Ent T.U)} (h:Keeps T l H H1) (hl: ∀i∈l,i∈m):Keeps T m H H1:=⟨h.len,fun e he hn=>h.same e he fun hm=>hn (hl e hm),h.row⟩
def Keeps.trans {l:List Nat} {H1 H2:List (Ent T.U)} (h:Keeps T l H H1) (h':Keeps T l H1 H2):Keeps T l H H2:=
 ⟨W9 h.len h'.len,fun e he hn=>(h'.same e (V3 he h.len) hn).trans (h.same e he hn),fun e ty t ys he hy=>by
  obtain ⟨xs,hx⟩:=h'.row e ty t ys (V3 he h.len) hy;exact h.row e ty t xs he hx⟩
def zr7: ∀(ids:List Nat) {H:List (Ent T.U)},Keeps T ids H (zu6 T H ids)
 | [],H=>.refl _
 |i::r,H=>(Keeps.set (l:=i::r) (U2 ..) fun ty t ys e=>by cases e).trans ((zr7 r).sub fun j hj=>Z4 _ hj)
def closeAt_keeps {k:Nat}:Keeps T (qm6 H k) H (zm9 T H k):=by
 unfold zm9;split
 ·rename_i e d fe xs a cs hk;split
  ·rename_i l ids hc;split
   ·exact (Keeps.set (l:=qm6 H k) (U2 ..) fun ty t ys e=>by cases e).trans ((zr7 ids).sub fun i hi=>Z4 _ (by simp only [hk,hc];exact hi))
   ·exact .refl _
  ·exact .refl _
 ·rename_i kd be d m x j hk;split
  ·split
   ·exact (Keeps.set (l:=qm6 H k) (U2 ..) fun ty t ys e=>by cases e).trans (Keeps.set (Z4 _ (by simp only [hk];exact U2 ..)) fun ty t ys e=>by cases e)
   ·exact .refl _
  ·exact .refl _
 ·exact .refl _
def ji1 {t:Ty} {x:Operand} {st:St T} {K:St T->Option R} (h:qn5 T t x st K=some r): ∃s a y,x=.tmp s/\st.F.get T s=some a/\K ⟨(s,zn4 T t y)::st.F,zu6 T st.H a.ids⟩=some r/\ ∀ {R':Type} (K':St T->Option R'),qn5 T t x st K'=K' ⟨(s,zn4 T t y)::st.F,zu6 T st.H a.ids⟩:=by
 unfold qn5 at h;split at h<;>try (cases h;done)
 rename_i s;split at h<;>try (cases h;done)
 rename_i a ha;obtain ⟨y,h1,h2⟩:=jg2 h;exact ⟨s,a,y,rfl,ha,h1,fun K'=>by simp only [qn5,ha,h2]⟩
def yw5 {te:Ty}: ∀ {ps:List (Nat×Operand)} {st:St T} {K:St T->Option R} {l:List Nat},ys0 T te ps st K=some r->(∀x∈ps.map Prod.snd,∀a,aev T st.F x=some a-> ∀i∈a.ids,i∈l)->
  ∃st',K st'=some r/\Keeps T l st.H st'.H/\ ∀ {R':Type} (K':St T->Option R'),ys0 T te ps st K'=K' st'
 | [],st,K,l,h,_=>⟨st,h,.refl _,fun _=>rfl⟩
 |(j,x)::ps,st,K,l,h,hl=>by
  unfold ys0 at h;split at h<;>try (cases h;done)
  rename_i a ha;split at h
  ·rename_i cs hc;obtain ⟨st',h1,h2,h3⟩:=yw5 h fun y hy=>hl y (Z4 _ hy);exact ⟨st',h1,h2,fun K'=>by simp only [ys0,ha,hc];exact h3 K'⟩
  ·rename_i hc;obtain ⟨s,b,y,rfl,hb,h1,h2⟩:=ji1 h;have:b=a:=by have ha':st.F.get T s=some a:=ha;rw [hb] at ha';exact X5 ha'
   subst this;obtain ⟨st',h3,h4,h5⟩:=yw5 (l:=l) h1 fun z hz c hzc i hi=>by
    have hz':aev T st.F z=some c\/c=zn4 T te y:=by
     cases z with
     |tmp q=>
      have hzc:AF.get T ((s,zn4 T te y)::st.F) q=some c:=hzc;simp only [AF.get] at hzc;split at hzc
      ·exact .inr (X5 hzc).symm
      ·exact .inl hzc
     |const v=>exact .inl hzc
     |global g=>exact .inl hzc
     |func f=>exact .inl hzc
    rcases hz' with hz'|rfl
    ·exact hl z (Z4 _ hz) c hz' i hi
    ·rw [js3] at hi;cases hi
   refine ⟨st',h3,((zr7 _).sub fun i hi=>hl _ (U2 ..) _ ha i hi).trans h4,fun K'=>?_⟩;simp only [ys0,ha,hc,h2];exact h5 K'
def vi5 (hE:za0 T P C.E) {st:St T} {K:St T->Option R} {Kp:AV T.U->St T->Option R} (h:zl7 P C o st K Kp=some r):
  (∃Fz a H1,K ⟨za1 T Fz o.dst a,H1⟩=some r/\Keeps T (wrF C o st) st.H H1/\ ∀ {R':Type} (K':St T->Option R') (Kp':AV T.U->St T->Option R'),zl7 P C o st K' Kp'=K' ⟨za1 T Fz o.dst a,H1⟩)\/ ∃a st',Kp a st'=some r/\Keeps T (wrF C o st) st.H st'.H/\ ∀ {R':Type} (K':St T->Option R') (Kp':AV T.U->St T->Option R'),zl7 P C o st K' Kp'=Kp' a st':=by
 have plain:stepA P C o st K Kp=some r->(∀ {R':Type} (K':St T->Option R') (Kp':AV T.U->St T->Option R'),zl7 P C o st K' Kp'=stepA P C o st K' Kp')->
   (∃Fz a H1,K ⟨za1 T Fz o.dst a,H1⟩=some r/\Keeps T (wrF C o st) st.H H1/\ ∀ {R':Type} (K':St T->Option R') (Kp':AV T.U->St T->Option R'),zl7 P C o st K' Kp'=K' ⟨za1 T Fz o.dst a,H1⟩)\/ ∃a st',Kp a st'=some r/\Keeps T (wrF C o st) st.H st'.H/\ ∀ {R':Type} (K':St T->Option R') (Kp':AV T.U->St T->Option R'),zl7 P C o st K' Kp'=Kp' a st':=by
  intro h he;rcases yl2 hE h with ⟨a,H1,h1,h2,h3⟩|⟨a,st',h1,h2,h3⟩
  ·exact .inl ⟨st.F,a,H1,h1,h2.sub fun i hi=>X4.2 (.inl hi),fun K' Kp'=>by rw [he];exact h3 K' Kp'⟩
  ·exact .inr ⟨a,st',h1,h2.sub fun i hi=>X4.2 (.inl hi),fun K' Kp'=>by rw [he];exact h3 K' Kp'⟩
 unfold zl7 at h;split at h
 ·rename_i t x y hop;split at h<;>try (cases h;done)
  rename_i p a hp ha;split at h
  ·rename_i te hc hte;split at h<;>try (cases h;done)
   rename_i hne;obtain ⟨s,b,z,rfl,hb,h1,h2⟩:=ji1 h;have:b=a:=by have ha':st.F.get T s=some a:=ha;rw [hb] at ha';exact X5 ha'
   subst this;have kp: ∀ {H1:List (Ent T.U)},Keeps T (wrA C o ⟨(s,zn4 T te z)::st.F,zu6 T st.H b.ids⟩) (zu6 T st.H b.ids) H1->Keeps T (wrF C o st) st.H H1:=by
    intro H1 h4;refine ((zr7 _).sub (m:=wrF C o st) fun i hi=>X4.2 (.inr (X4.2 (.inl ?_)))).trans (h4.sub fun i hi=>X4.2 (.inl ?_))
    ·simp only [zz0,hop,hp,ha,hte];exact hi
    ·have hx:aev T ((s,zn4 T te z)::st.F) x=aev T st.F x:=by
      cases x with
      |tmp q=>
       have hq:Nat.beq s q=false:=by simpa [qp0] using hne
       show AF.get T ((s,zn4 T te z)::st.F) q=_;simp only [AF.get,hq];rfl
      |_=>rfl
     simp only [wrA,hop,hx] at hi⊢;exact hi
   rcases yl2 hE h1 with ⟨a1,H1,h3,h4,h5⟩|⟨a1,st',h3,h4,h5⟩
   ·refine .inl ⟨_,a1,H1,h3,kp h4,fun K' Kp'=>?_⟩;simp only [zl7,hop,hp,ha,hc,hte,hne,h2];exact h5 K' Kp'
   ·refine .inr ⟨a1,st',h3,kp h4,fun K' Kp'=>?_⟩;simp only [zl7,hop,hp,ha,hc,hte,hne,h2];exact h5 K' Kp'
  ·rename_i hn;refine plain h fun K' Kp'=>?_;simp only [zl7,hop,hp,ha]
 ·rename_i t len ps hop;split at h
  ·rename_i te aS hte hps
   ·have hmem: ∀(l:List Operand) (aS:List (AV T.U)),zn8 T st.F l=some aS-> ∀x∈l,∀a,aev T st.F x=some a-> ∀i∈a.ids,i∈j8 aS:=by
     intro l;induction l with
     |nil=>intro aS _ x hx;cases hx
     |cons z q ih=>
      intro aS has x hx a ha i hi;unfold zn8 at has;split at has<;>try (cases has;done)
      rename_i b bs hb hbs;simp only [X0] at has;subst has;rw [j8];rcases Z0.1 hx with rfl|hx
      ·rw [hb] at ha;simp only [X0] at ha;subst ha;exact X4.2 (.inl hi)
      ·exact X4.2 (.inr (ih bs hbs x hx a ha i hi))
    obtain ⟨st',h1,h2,h3⟩:=yw5 (l:=j8 aS) h (hmem _ _ hps);have kp: ∀ {H1:List (Ent T.U)},Keeps T (wrA C o st') st'.H H1->Keeps T (wrF C o st) st.H H1:=by
     intro H1 h5;refine (h2.sub (m:=wrF C o st) fun i hi=>X4.2 (.inr (X4.2 (.inl ?_)))).trans (h5.sub fun i hi=>?_)
     ·simp only [zz0,hop,hte,hps];exact hi
     ·simp only [wrA,hop] at hi;cases hi
    rcases yl2 hE h1 with ⟨a1,H1,h4,h5,h6⟩|⟨a1,st2,h4,h5,h6⟩
    ·refine .inl ⟨_,a1,H1,h4,kp h5,fun K' Kp'=>?_⟩;simp only [zl7,hop,hte,hps,h3];exact h6 K' Kp'
    ·refine .inr ⟨a1,st2,h4,kp h5,fun K' Kp'=>?_⟩;simp only [zl7,hop,hte,hps,h3];exact h6 K' Kp'
  ·rename_i hn;refine plain h fun K' Kp'=>?_;simp only [zl7,hop]
 ·rename_i t m x v hop;split at h
  ·rename_i te a hte ha;split at h
   ·rename_i hc;split at h<;>try (cases h;done)
    rename_i hne;obtain ⟨s,b,z,rfl,hb,h1,h2⟩:=ji1 h;have:b=a:=by have ha':st.F.get T s=some a:=ha;rw [hb] at ha';exact X5 ha'
    subst this;have kp: ∀ {H1:List (Ent T.U)},Keeps T (wrA C o ⟨(s,zn4 T te z)::st.F,zu6 T st.H b.ids⟩) (zu6 T st.H b.ids) H1->Keeps T (wrF C o st) st.H H1:=by
     intro H1 h4;refine ((zr7 _).sub (m:=wrF C o st) fun i hi=>X4.2 (.inr (X4.2 (.inl ?_)))).trans (h4.sub fun i hi=>X4.2 (.inl ?_))
     ·simp only [zz0,hop,hte,ha];exact hi
     ·have hx:aev T ((s,zn4 T te z)::st.F) m=aev T st.F m:=by
       cases m with
       |tmp q=>
        have hq:Nat.beq s q=false:=by
         rw [X3] at hne;simpa [qp0] using hne.1
        show AF.get T ((s,zn4 T te z)::st.F) q=_;simp only [AF.get,hq];rfl
       |_=>rfl
      simp only [wrA,hop,hx] at hi⊢;exact hi
    rcases yl2 hE h1 with ⟨a1,H1,h3,h4,h5⟩|⟨a1,st',h3,h4,h5⟩
    ·refine .inl ⟨_,a1,H1,h3,kp h4,fun K' Kp'=>?_⟩;simp only [zl7,hop,hte,ha,hc,hne,h2];exact h5 K' Kp'
    ·refine .inr ⟨a1,st',h3,kp h4,fun K' Kp'=>?_⟩;simp only [zl7,hop,hte,ha,hc,hne,h2];exact h5 K' Kp'
   ·rename_i cs hc;refine plain h fun K' Kp'=>?_;simp only [zl7,hop,hte,ha,hc]
  ·rename_i hn;refine plain h fun K' Kp'=>?_;simp only [zl7,hop]
 ·rename_i hn1 hn2 hn3;refine plain h fun K' Kp'=>?_;unfold zl7;split
  ·rename_i hop;exact (hn1 _ _ _ hop).elim
  ·rename_i hop;exact (hn2 _ _ _ hop).elim
  ·rename_i hop;exact (hn3 _ _ _ _ hop).elim
  ·rfl
def openH_keeps {k:Nat} {e:TypeId} {d:Nat} {fe:List TypeId} {xs:List (T.U d)} {a:Nat}:Keeps T [k] H (yg6 T H k e d fe xs a):=by
 refine ⟨by unfold yg6;simp,fun i hi hn=>?_,fun i ty t ys hi hy=>?_⟩
 ·unfold yg6;rw [X8 (by simpa using hi),Z5 (fun q=>hn (by simp [q]))]
 ·unfold yg6 at hy;rw [X8 (by simpa using hi)] at hy;by_cases hik:i=k
  ·subst hik;rw [Q0 hi] at hy;cases hy
  ·rw [Z5 (Ne.symm hik)] at hy;exact ⟨ys,hy⟩
def jr7 {k:Nat} {e:TypeId} {d:Nat} {fe:List TypeId} {xs:List (T.U d)} {op:Option (Nat×List (AV T.U))}:Keeps T [k] H (H.set k (.drow e d fe xs op)):=
 Keeps.set (U2 ..) fun ty t ys e=>by cases e
def vf2 {t:TypeId} {k sz a c:Nat} {e:TypeId} {d:Nat} {fe:List TypeId} {xs:List (T.U d)} {op:Option (Nat×List (AV T.U))} {K:AV T.U->List (Ent T.U)->Option R} (h:yo3 P t H k sz a c e d fe xs op K=some r):
  ∃u H1,K u H1=some r/\Keeps T [k] H H1/\ ∀ {R':Type} (K':AV T.U->List (Ent T.U)->Option R'),yo3 P t H k sz a c e d fe xs op K'=K' u H1:=by
 unfold yo3 at h;split at h<;>try (cases h;done)
 rename_i hsz;split at h
 ·split at h<;>try (cases h;done)
  rename_i v hl;split at h
  ·rename_i hn;obtain ⟨ha,hK⟩:=q7 h;exact ⟨v,H,hK,.refl _,fun K'=>by simp only [yo3,hsz,hl,hn,if_pos ha]⟩
  ·rename_i hn;split at h<;>try (cases h;done)
   rename_i u hu;split at h<;>try (cases h;done)
   rename_i hne;obtain ⟨ha,hK⟩:=q7 h;exact ⟨u,_,hK,openH_keeps,fun K'=>by simp only [yo3,hsz,hl,hn,hu,hne,if_pos ha]⟩
 ·split at h<;>try (cases h;done)
  rename_i u hu;split at h<;>try (cases h;done)
  rename_i hne;obtain ⟨ha,hK⟩:=q7 h;exact ⟨u,H,hK,.refl _,fun K'=>by simp only [yo3,hsz,hu,hne,if_pos ha]⟩
def qr5 {t:TypeId} {k sz a c:Nat} {e:TypeId} {d:Nat} {fe:List TypeId} {xs:List (T.U d)} {op:Option (Nat×List (AV T.U))} {v:AV T.U} {K:List (Ent T.U)->Option R} (h:yc8 P t H k sz a c e d fe xs op v K=some r):
  ∃H1,K H1=some r/\Keeps T [k] H H1/\ ∀ {R':Type} (K':List (Ent T.U)->Option R'),yc8 P t H k sz a c e d fe xs op v K'=K' H1:=by
 unfold yc8 at h;split at h<;>try (cases h;done)
 rename_i hsz;split at h
 ·obtain ⟨ha,hK⟩:=q7 h;exact ⟨_,hK,openH_keeps.trans jr7,fun K'=>by simp only [yc8,hsz,if_pos ha]⟩
 ·obtain ⟨ha,hK⟩:=q7 h;exact ⟨_,hK,jr7,fun K'=>by simp only [yc8,hsz,if_pos ha]⟩
def vf9 {d:Nat} {fe:List TypeId} {t:TypeId} {l c:Int} {K:AV T.U->List (Ent T.U)->Option R} (h:jn1 P d fe t H l c K=some r):
  ∃u H1,K u H1=some r/\Keeps T [] H H1/\ ∀ {R':Type} (K':AV T.U->List (Ent T.U)->Option R'),jn1 P d fe t H l c K'=K' u H1:=by
 unfold jn1 at h;split at h<;>try (cases h;done)
 rename_i he;split at h<;>try (cases h;done)
 rename_i hsz hz;split at h<;>try (cases h;done)
 rename_i hx;obtain ⟨ha,hK⟩:=q7 h;refine ⟨_,_,hK,⟨by simp,fun i hi _=>X8 hi,fun i ty t ys hi hy=>⟨ys,by rwa [X8 hi] at hy⟩⟩,fun K'=>by simp only [jn1,he,hsz,hz,hx,if_pos ha]⟩
def vi7 {st:St T} {K:St T->Option R} {z:Option R} (hz:zm5 P C o st K=some z) (h:z=some r):
  ∃a H1,K ⟨za1 T st.F o.dst a,H1⟩=some r/\Keeps T (vk1 o st.F st.H) st.H H1/\ ∀ {R':Type} (K':St T->Option R'),zm5 P C o st K'=some (K' ⟨za1 T st.F o.dst a,H1⟩):=by
 unfold zm5 at hz;split at hz<;>try (cases hz;done)
 ·rename_i t x y hop;split at hz<;>try (cases hz;done)
  rename_i hdr;obtain rfl:=X5 hz;split at h<;>try (cases h;done)
  rename_i hx hy;obtain ⟨u,H1,h1,h2,h3⟩:=vf9 h;exact ⟨u,H1,h1,h2.sub (by simp),fun K'=>by simp only [zm5,hop,hdr,hx,hy,h3]⟩
 ·rename_i t x y hop;split at hz<;>try (cases hz;done)
  rename_i hx;split at hz<;>try (cases hz;done)
  rename_i hi;obtain rfl:=X5 hz;split at h<;>try (cases h;done)
  rename_i hy hel;obtain ⟨hj,hK⟩:=jp6 h;refine ⟨_,_,hK,.refl _,fun K'=>?_⟩;simp only [zm5,hop,hx,hi,hy,hel];exact congrArg some (if_pos hj)
 ·rename_i t x hop;split at hz<;>try (cases hz;done)
  rename_i hx;split at hz<;>try (cases hz;done)
  rename_i hi;obtain rfl:=X5 hz;obtain ⟨u,H1,h1,h2,h3⟩:=vf2 h;exact ⟨u,H1,h1,by simp only [vk1,hop,hx,hi];exact h2,fun K'=>by simp only [zm5,hop,hx,hi,h3]⟩
 ·rename_i t x y hop;split at hz<;>try (cases hz;done)
  rename_i hx;split at hz<;>try (cases hz;done)
  rename_i hi;obtain rfl:=X5 hz;split at h<;>try (cases h;done)
  rename_i hdst hy;obtain ⟨H1,h1,h2,h3⟩:=qr5 h;exact ⟨.raw undef,H1,by rw [hdst];exact h1,by simp only [vk1,hop,hx,hi];exact h2,fun K'=>by simp only [zm5,hop,hx,hi,hdst,hy,h3,za1]⟩
def yp2 {st:St T} {K:St T->Option R} (hz:zm5 P C o st K=none) {R':Type} (K':St T->Option R'):zm5 P C o st K'=none:=by
 unfold zm5 at hz⊢;split at hz<;>rename_i hop<;>(try simp only [hop])
 ·split at hz<;>first|(cases hz;done)|(rename_i h1;simp only [h1])
 ·split at hz
  ·rename_i h1;split at hz
   ·cases hz
   ·rename_i h2;simp only [h1];try (split<;>first|rfl|exact (h2 _ _ _ _ _ ‹_›).elim)
  ·rename_i h1;first|(split<;>first|rfl|exact (h1 _ ‹_›).elim)|rfl
 ·split at hz
  ·rename_i h1;split at hz
   ·cases hz
   ·rename_i h2;simp only [h1];try (split<;>first|rfl|exact (h2 _ _ _ _ _ ‹_›).elim)
  ·rename_i h1;first|(split<;>first|rfl|exact (h1 _ _ _ _ ‹_›).elim)|rfl
 ·split at hz
  ·rename_i h1;split at hz
   ·cases hz
   ·rename_i h2;simp only [h1];try (split<;>first|rfl|exact (h2 _ _ _ _ _ ‹_›).elim)
  ·rename_i h1;first|(split<;>first|rfl|exact (h1 _ _ _ _ ‹_›).elim)|rfl
 all_goals (split<;>simp_all)
def vi6 {st:St T} {K:St T->Option R} {z:Option R} (hz:zx3 P C o st K=some z) (h:z=some r):
  ∃a H1,K ⟨za1 T st.F o.dst a,H1⟩=some r/\Keeps T (zz0 C o st.F st.H) st.H H1/\ ∀ {R':Type} (K':St T->Option R'),zx3 P C o st K'=some (K' ⟨za1 T st.F o.dst a,H1⟩):=by
 unfold zx3 at hz;split at hz<;>try (cases hz;done)
 ·rename_i t len ps hop;split at hz<;>try (cases hz;done)
  rename_i d fe l hdr hl;obtain rfl:=X5 hz;unfold bsD at h;split at h<;>try (cases h;done)
  rename_i e sz cs h1 h2;split at h<;>try (cases h;done)
  rename_i h3;exact ⟨_,_,h,.app,fun K'=>by simp only [zx3,hop,hdr,hl,bsD,h1,h2,h3]⟩
 ·rename_i c hop;split at hz<;>try (cases hz;done)
  rename_i sx xx t t' hc ha hat;split at hz<;>try (cases hz;done)
  rename_i dr i i2 hdr hx hy;split at hz<;>try (cases hz;done)
  rename_i hb;obtain rfl:=X5 hz;have kp:Keeps T (zz0 C o st.F st.H) st.H (zm9 T (zm9 T st.H i) i2)/\i∈zz0 C o st.F st.H/\i2∈zz0 C o st.F st.H:=by
   simp only [zz0,hop,hc,ha,hat,hdr,hx,hy];exact ⟨(closeAt_keeps.sub fun j hj=>X4.2 (.inl hj)).trans (closeAt_keeps.sub fun j hj=>X4.2 (.inr hj)),X4.2 (.inl (U2 ..)),X4.2 (.inr (U2 ..))⟩
  unfold kd2 at h;split at h<;>try (cases h;done)
  rename_i h1 h2 h3;split at h<;>try (cases h;done)
  rename_i hd;split at h<;>try (cases h;done)
  rename_i h4;obtain ⟨h5,hK⟩:=q7 h;refine ⟨_,_,hK,(kp.1.trans ((Keeps.set kp.2.1 fun ty t ys e=>by cases e).trans (Keeps.set kp.2.2 fun ty t ys e=>by cases e))).trans .app,fun K'=>?_⟩;simp only [zx3,hop,hc,ha,hat,hdr,hx,hy,hb,kd2,h1,h2,h3,dif_pos hd,h4,if_pos h5]
def jg8 {st:St T} {K:St T->Option R} (hz:zx3 P C o st K=none) {R':Type} (K':St T->Option R'):zx3 P C o st K'=none:=by
 unfold zx3 at hz⊢;split at hz<;>rename_i hop<;>(try simp only [hop])
 ·split at hz
  ·cases hz
  ·first|rfl|(split<;>first|rfl|simp_all)
 ·split at hz
  ·split at hz
   ·split at hz
    ·cases hz
    ·simp_all
   ·first|rfl|(split<;>first|rfl|simp_all)
  ·first|rfl|(split<;>first|rfl|simp_all)
 all_goals first|rfl|(split<;>simp_all)
def jr8 (hE:za0 T P C.E) {st:St T} {K:St T->Option R} {Kp:AV T.U->St T->Option R} (h:zg1 P C o st K Kp=some r):
  (∃Fz a H1,K ⟨za1 T Fz o.dst a,H1⟩=some r/\Keeps T (wrF C o st) st.H H1/\ ∀ {R':Type} (K':St T->Option R') (Kp':AV T.U->St T->Option R'),zg1 P C o st K' Kp'=K' ⟨za1 T Fz o.dst a,H1⟩)\/ ∃a st',Kp a st'=some r/\Keeps T (wrF C o st) st.H st'.H/\ ∀ {R':Type} (K':St T->Option R') (Kp':AV T.U->St T->Option R'),zg1 P C o st K' Kp'=Kp' a st':=by
 unfold zg1 at h;split at h
 ·rename_i z hz;obtain ⟨a,H1,h1,h2,h3⟩:=vi7 hz h;exact .inl ⟨st.F,a,H1,h1,h2.sub fun i hi=>X4.2 (.inr (X4.2 (.inr hi))),fun K' Kp'=>by simp only [zg1,h3]⟩
 ·rename_i hz;split at h
  ·rename_i z hz2;obtain ⟨a,H1,h1,h2,h3⟩:=vi6 hz2 h;exact .inl ⟨st.F,a,H1,h1,h2.sub fun i hi=>X4.2 (.inr (X4.2 (.inl hi))),fun K' Kp'=>by simp only [zg1,yp2 hz,h3]⟩
  ·rename_i hz2;rcases vi5 hE h with ⟨Fz,a,H1,h1,h2,h3⟩|⟨a,st',h1,h2,h3⟩
   ·exact .inl ⟨Fz,a,H1,h1,h2,fun K' Kp'=>by simp only [zg1,yp2 hz,jg8 hz2,h3]⟩
   ·exact .inr ⟨a,st',h1,h2,fun K' Kp'=>by simp only [zg1,yp2 hz,jg8 hz2,h3]⟩
def jq5 {z:Option (St T)} {st':St T} (hz:zm5 P C o ⟨F,H⟩ some=some z\/zx3 P C o ⟨F,H⟩ some=some z) (hs:z=some st') (hdst:zh5 n o.dst=true) (hns:za6 o=true) (hpre:zs3 F o=true) (h:Sim T w0 S0 ⟨F,H⟩ F' w S φ) {a:Act} (ha:Fr n ds F' a):
  o.wp P a w (fun a' w'=> ∃F1,zc0 T w0 S0 st' F1 w'/\Fr n ds F1 a'/\ ∃v,a'=a.put o.dst v) Q:=by
 let o':Oper:= {o with guard:=none}
 have hd:dec #[o'] 0 n F'=some o':=by
  unfold dec;have hw:zx4 #[o'] F' o'=some true:=rfl;have hp:zz9 F' o'=true:=yk7 (o:=o') h.fr hpre;have h1:zh5 n o'.dst=true:=hdst;have h2:za6 o'=true:=hns;simp only [List.getElem?_toArray,Y4,hw,hp,h1,h2,N7]
 have hs':zm5 P C o' ⟨F,H⟩ some=some z\/zx3 P C o' ⟨F,H⟩ some=some z:=by
  cases o;exact hz
 have fin: ∀st,some st=some st'->zp5 P #[o'] (fun e a' w'=>e=.normal/\ ∃F1,zc0 T w0 S0 st' F1 w'/\Fr n ds F1 a') 1 n ds w0 S0 st:=fun st hst F1 w1 h1=>by
  simp only [X0] at hst;subst hst;exact WR.fin (by rfl) fun a1 ha1=>⟨rfl,F1,h1,ha1⟩
 have hwr:WR P #[o'] (fun e a' w'=>e=.normal/\ ∃F1,zc0 T w0 S0 st' F1 w'/\Fr n ds F1 a') 0 n ds F' w:=by
  rcases hs' with hs'|hs'
  ·exact yz9 hd hs' hs h fin
  ·subst hs;exact yz8 hd hs' h fin
 have hw:=hwr a ha;unfold wpList at hw;have hwant:Region.wanted o' (yielded #[o'] a.tmps)=true:=by
  have:=(zj4 hd).2.2.2.2 ha;exact this
 have hcons:(#[o']:Array Oper).toList.drop 0= [o']:=rfl;rw [hcons] at hw;simp only [hwant,if_true] at hw;rcases hw with hw|⟨_,a1,w1,h1,_⟩
 ·refine jj8 (g:=none) (Oper.wp_and (o:=o') (K:=wpList P #[o'] _ []) ?_ ?_ ?_ hw)
  ·rintro v w1 h1
   unfold wpList at h1;obtain ⟨_,F1,h2,h3⟩:=h1;exact ⟨F1,h2,h3,v,rfl⟩
  ·rintro d w1 h1
   unfold wpList at h1;obtain ⟨_,F1,h2,h3⟩:=h1;have e1:=h3.defers;have e2:({a with defers:=d::a.defers}.put o'.dst undef).defers=d::a.defers:=by cases o'.dst<;>rfl
   rw [e2,ha.defers] at e1;exact absurd (congrArg List.length e1) (by simp)
  ·rintro e a1 w1 hne ⟨rfl,_⟩
   exact hne rfl
 ·cases h1
def jq6 (hE:za0 T P C.E) {st':St T} (hs:zg1 P C o ⟨F,H⟩ some (fun _ _=>none)=some st') (hdst:zh5 n o.dst=true) (hns:za6 o=true) (hpre:zs3 F o=true) (h:Sim T w0 S0 ⟨F,H⟩ F' w S φ) {a:Act} (ha:Fr n ds F' a):
  o.wp P a w (fun a' w'=> ∃F1,zc0 T w0 S0 st' F1 w'/\Fr n ds F1 a'/\ ∃v,a'=a.put o.dst v) Q:=by
 have pre2: ∀ {F2:AF T} {H2:List (Ent T.U)} {S2:List Nat},Sim T w0 S0 ⟨F2,H2⟩ F' w S2 φ->(∀t,(F.get T t).isSome=true->(F2.get T t).isSome=true)->zs3 F2 o=true:=by
  intro F2 H2 S2 _ hF;unfold zs3 at hpre⊢;rw [Y8] at hpre⊢;intro x hx;have:=hpre x hx;cases x with
  |tmp t=>exact hF t this
  |_=>exact this
 unfold zg1 at hs;split at hs
 ·rename_i z hz;exact jq5 (.inl hz) hs hdst hns hpre h ha
 split at hs
 ·rename_i z hz;exact jq5 (.inr hz) hs hdst hns hpre h ha
 unfold zl7 at hs;split at hs
 ·split at hs<;>try (cases hs;done)
  split at hs
  ·split at hs<;>try (cases hs;done)
   obtain ⟨⟨F2,H2⟩,S2,h1,h2,h3⟩:=zw3 hs h;exact zt1 hE h1 hdst hns (pre2 h2 h3) h2 ha
  ·exact zt1 hE hs hdst hns hpre h ha
 ·split at hs
  ·obtain ⟨⟨F2,H2⟩,S2,h1,h2,h3⟩:=zy5 hs h;exact zt1 hE h1 hdst hns (pre2 h2 h3) h2 ha
  ·exact zt1 hE hs hdst hns hpre h ha
 ·split at hs
  ·split at hs
   ·split at hs<;>try (cases hs;done)
    obtain ⟨⟨F2,H2⟩,S2,h1,h2,h3⟩:=zw3 hs h;exact zt1 hE h1 hdst hns (pre2 h2 h3) h2 ha
   ·exact zt1 hE hs hdst hns hpre h ha
  ·exact zt1 hE hs hdst hns hpre h ha
 ·exact zt1 hE hs hdst hns hpre h ha
end
end Go.X
namespace Go.X
open Go.RowKit Go.V
section
variable {T:Tab} (P:Program)
def zu9 (c:Nat) (v:AV T.U) (cs:List (AV T.U)):List (AV T.U):=match cs.all (za2 T)&&za2 T v with|true=>cs.set c v|false=>cs
def yn1 (c:Nat) (v:AV T.U):Ent T.U->Ent T.U
 | .blk t cs=>.blk t (zu9 c v cs)
 | .drow e d fe xs (some (a,cs))=>.drow e d fe xs (some (a,cs.set c v))
 |x=>x
def spE (c:Nat):Ent T.U->Ent T.U->Prop
 | .blk t cs,.blk t' cs'=>t=t'/\cs.length=cs'.length/\cs[c]?=cs'[c]?/\cs.all (za2 T)=true/\cs'.all (za2 T)=true
 | .drow e d fe xs (some (a,cs)),y=> ∃cs',y=.drow e d fe xs (some (a,cs'))/\cs.length=cs'.length/\cs[c]?=cs'[c]?
 |_,_=>False
def simE (c:Nat) (x y:Ent T.U):Prop:=x=y\/spE c x y
def yl1 (t:TypeId):Bool:=match P.info? t,P.underlying t with|some i,some d=> !ya1 d&&Nat.beq i.size 1|_,_=>false
def kl6 (o:Oper) (F:AF T) (H:List (Ent T.U)):Option (Nat×Nat×Option (AV T.U)):=
 match o.op with
 | .load t x=>match aev T F x with
  |some (.ptr i c)=>match H[i]? with
   |some (.blk _ cs)=>(match yl1 P t&&(cs.all (za2 T)&&Nat.blt c cs.length) with|true=>some (i,c,none)|false=>none)
   |_=>none
  |some (.eptr i _ _ c)=>match H[i]? with
   |some (.drow _ _ _ _ (some (_,cs)))=>(match yl1 P t&&Nat.blt c cs.length with|true=>some (i,c,none)|false=>none)
   |_=>none
  |_=>none
 | .store t x y=>match o.dst,aev T F x,aev T F y with
  |none,some (.ptr i c),some v=>match H[i]? with
   |some (.blk _ cs)=>(match yl1 P t&&(zv4 T v&&(cs.all (za2 T)&&Nat.blt c cs.length)) with|true=>some (i,c,some v)|false=>none)
   |_=>none
  |none,some (.eptr i _ _ c),some v=>match H[i]? with
   |some (.drow _ _ _ _ (some (_,cs)))=>(match yl1 P t&&(zv4 T v&&Nat.blt c cs.length) with|true=>some (i,c,some v)|false=>none)
   |_=>none
  |_,_,_=>none
 |_=>none
def qg7 (k c:Nat) (sv:Option (AV T.U)) (f:Ent T.U) (H:List (Ent T.U)):List (Ent T.U):=match sv with|some v=>H.set k (yn1 c v f)|none=>H
end
section
variable {T:Tab} {P:Program} {C:Ctx T} {F F':AF T} {H H':List (Ent T.U)} {o:Oper}
def simE.symm {c:Nat} {x y:Ent T.U} (h:simE c x y):simE c y x:=by
 rcases h with rfl|h
 ·exact .inl rfl
 ·cases x with
  |blk t cs=>
   cases y with
   |blk t' cs'=>obtain ⟨rfl,h2,h3,h4,h5⟩:=h;exact .inr ⟨rfl,h2.symm,h3.symm,h5,h4⟩
   |_=>exact h.elim
  |drow e d fe xs op=>
   cases op with
   |none=>exact h.elim
   |some p=>obtain ⟨a,cs⟩:=p;obtain ⟨cs',rfl,h2,h3⟩:=h;exact .inr ⟨cs,rfl,h2.symm,h3.symm⟩
  |_=>exact h.elim
def simE.trans {c:Nat} {x y z:Ent T.U} (h:simE c x y) (h':simE c y z):simE c x z:=by
 rcases h with rfl|h
 ·exact h'
 ·rcases h' with rfl|h'
  ·exact .inr h
  ·cases x with
   |blk t cs=>
    cases y with
    |blk t' cs'=>
     cases z with
     |blk t2 cs2=>obtain ⟨rfl,h2,h3,h4,h5⟩:=h;obtain ⟨rfl,g2,g3,g4,g5⟩:=h';exact .inr ⟨rfl,h2.trans g2,h3.trans g3,h4,g5⟩
     |_=>exact h'.elim
    |_=>exact h.elim
   |drow e d fe xs op=>
    cases op with
    |none=>exact h.elim
    |some p=>
     obtain ⟨a,cs⟩:=p;obtain ⟨cs',rfl,h2,h3⟩:=h;obtain ⟨cs2,rfl,g2,g3⟩:=h';exact .inr ⟨cs2,rfl,h2.trans g2,h3.trans g3⟩
   |_=>exact h.elim
def jc1 {cs:List (AV T.U)} {c:Nat} {v:AV T.U} (h:cs.all (za2 T)=true) (hv:za2 T v=true):(cs.set c v).all (za2 T)=true:=by
 rw [Y8] at h⊢;intro a ha;rcases M0 ha with ha|rfl
 ·exact h a ha
 ·exact hv
def zl2 {c:Nat} {v:AV T.U} {cs:List (AV T.U)} (h:cs.all (za2 T)=true) (hv:za2 T v=true):zu9 c v cs=cs.set c v:=by unfold zu9;rw [h,hv];rfl
def zc8 (c:Nat) (v:AV T.U) (cs:List (AV T.U)):(zu9 c v cs=cs)\/(zu9 c v cs=cs.set c v/\cs.all (za2 T)=true/\za2 T v=true):=by
 cases h:cs.all (za2 T) with
 |false=>left;unfold zu9;rw [h];rfl
 |true=>
  cases hv:za2 T v with
  |false=>left;unfold zu9;rw [h,hv];rfl
  |true=>exact .inr ⟨zl2 h hv,rfl,rfl⟩
def yx5 (c:Nat) (v:AV T.U) (cs:List (AV T.U)):(zu9 c v cs).length=cs.length:=by
 rcases zc8 c v cs with h|⟨h,_⟩<;>rw [h];simp
def yx4 {c:Nat} {v:AV T.U} {cs:List (AV T.U)} (h:cs.all (za2 T)=true):(zu9 c v cs).all (za2 T)=true:=by
 rcases zc8 c v cs with h1|⟨h1,_,hv⟩<;>rw [h1]
 ·exact h
 ·exact jc1 h hv
def vu7 {c c':Nat} (hc:c'≠c) (v:AV T.U) (cs:List (AV T.U)):(zu9 c' v cs)[c]?=cs[c]?:=by
 rcases zc8 c' v cs with h1|⟨h1,_⟩<;>rw [h1];exact Z5 hc
def simE.left {c c':Nat} (hc:c'≠c) (v:AV T.U) {x y:Ent T.U} (h:simE c x y):simE c (yn1 c' v x) y:=by
 have key:simE c (yn1 c' v x) x:=by
  cases x with
  |blk t cs=>
   show simE c (.blk t (zu9 c' v cs)) (.blk t cs);rcases zc8 c' v cs with h1|⟨h1,h2,h3⟩
   ·rw [h1];exact .inl rfl
   ·rw [h1];exact .inr ⟨rfl,by simp,Z5 hc,jc1 h2 h3,h2⟩
  |drow e d fe xs op=>
   cases op with
   |none=>exact .inl rfl
   |some p=>obtain ⟨a,cs⟩:=p;exact .inr ⟨cs,rfl,by simp,Z5 hc⟩
  |_=>exact .inl rfl
 rcases h with rfl|h
 ·exact key
 ·cases x with
  |blk t cs=>
   cases y with
   |blk t' cs'=>
    obtain ⟨rfl,h2,h3,h4,h5⟩:=h;exact .inr ⟨rfl,(yx5 ..).trans h2,(vu7 hc ..).trans h3,yx4 h4,h5⟩
   |_=>exact h.elim
  |drow e d fe xs op=>
   cases op with
   |none=>exact h.elim
   |some p=>
    obtain ⟨a,cs⟩:=p;obtain ⟨cs',rfl,h2,h3⟩:=h;exact .inr ⟨cs',rfl,by simpa using h2,(Z5 hc).trans h3⟩
  |_=>exact h.elim
def simE.both {c:Nat} (c':Nat) (v:AV T.U) {x y:Ent T.U} (h:simE c x y):simE c (yn1 c' v x) (yn1 c' v y):=by
 rcases h with rfl|h
 ·exact .inl rfl
 ·cases x with
  |blk t cs=>
   cases y with
   |blk t' cs'=>
    obtain ⟨rfl,h2,h3,h4,h5⟩:=h;refine .inr ⟨rfl,by rw [yx5,yx5];exact h2,?_,yx4 h4,yx4 h5⟩;cases hv:za2 T v with
    |false=>
     rcases zc8 c' v cs with h6|⟨_,_,h6⟩
     ·rcases zc8 c' v cs' with h7|⟨_,_,h7⟩
      ·rw [h6,h7];exact h3
      ·rw [hv] at h7;cases h7
     ·rw [hv] at h6;cases h6
    |true=>rw [zl2 h4 hv,zl2 h5 hv,List.getElem?_set,List.getElem?_set,h2,h3]
   |_=>exact h.elim
  |drow e d fe xs op=>
   cases op with
   |none=>exact h.elim
   |some p=>
    obtain ⟨a,cs⟩:=p;obtain ⟨cs',rfl,h2,h3⟩:=h;refine .inr ⟨_,rfl,by simpa using h2,?_⟩;rw [List.getElem?_set,List.getElem?_set,h2,h3]
  |_=>exact h.elim
def qq9 {c c':Nat} (hc:c≠c') (v v':AV T.U) (cs:List (AV T.U)):zu9 c v (zu9 c' v' cs)=zu9 c' v' (zu9 c v cs):=by
 rcases zc8 c v cs with h1|⟨h1,h2,h3⟩<;>rcases zc8 c' v' cs with h4|⟨h4,h5,h6⟩
 ·rw [h1,h4,h1]
 ·rw [h1,h4];rcases zc8 c v (cs.set c' v') with h7|⟨h7,h8,h9⟩
  ·exact h7
  ·rw [zl2 h5 h9] at h1;rw [h7,List.set_comm _ _ (Ne.symm hc),h1]
 ·rw [h4,h1];rcases zc8 c' v' (cs.set c v) with h7|⟨h7,h8,h9⟩
  ·exact h7.symm
  ·rw [zl2 h2 h9] at h4;rw [h7,List.set_comm _ _ hc,h4]
 ·rw [h4,h1,zl2 (jc1 h2 h6) h3,zl2 (jc1 h2 h3) h6,List.set_comm _ _ hc]
def vi0 {c c':Nat} (hc:c≠c') (v v':AV T.U) (x:Ent T.U):yn1 c v (yn1 c' v' x)=yn1 c' v' (yn1 c v x):=by
 cases x with
 |blk t cs=>exact congrArg (Ent.blk t) (qq9 hc v v' cs)
 |drow e d fe xs op=>
  cases op with
  |none=>rfl
  |some p=>obtain ⟨a,cs⟩:=p;simp only [yn1];rw [List.set_comm _ _ hc]
 |_=>rfl
def vb4 {cs:List (AV T.U)} {c:Nat} {v:AV T.U} {i:Nat} (h:i∈j8 (cs.set c v)):i∈j8 cs\/i∈v.ids:=by
 obtain ⟨a,ha,hi⟩:=zq0 h;rcases M0 ha with ha|rfl
 ·exact .inl (zi4 ha i hi)
 ·exact .inr hi
def vu8 {c:Nat} {v:AV T.U} {x:Ent T.U} {i:Nat} (h:i∈(yn1 c v x).cellIds):i∈x.cellIds\/i∈v.ids:=by
 cases x with
 |blk t cs=>
  have h:i∈j8 (zu9 c v cs):=h;rcases zc8 c v cs with h1|⟨h1,_⟩
  ·rw [h1] at h;exact .inl h
  ·rw [h1] at h;exact vb4 h
 |drow e d fe xs op=>cases op with
  |none=>exact .inl h
  |some p=>obtain ⟨a,cs⟩:=p;exact vb4 (T:=T) h
 |_=>exact .inl h
def zx6 (hF: ∀t a,F.get T t=some a->F'.get T t=some a) {x:Operand} {a:AV T.U} (h:aev T F x=some a):aev T F' x=some a:=by
 cases x with
 |tmp t=>exact hF t a h
 |const v=>exact h
 |func f=>exact h
 |global g=>exact h
def yf3 {t:TypeId} (h:yl1 P t=true): ∃i d,P.info? t=some i/\P.underlying t=some d/\ya1 d=false/\i.size=1:=by
 unfold yl1 at h;split at h
 ·rename_i i d hi hd;simp only [X3,V4] at h;exact ⟨i,d,hi,hd,h.1,X1 h.2⟩
 ·cases h
def jq1: ∀ {cs:List (AV T.U)} {c:Nat},cs.all (za2 T)=true->c<cs.length->yy9 T cs c=some (cs.drop c)
 | [],c,_,h=>by simp at h
 |a::r,0,_,_=>rfl
 |a::r,c+1,h,hl=>by
  rw [J1,X3] at h;have h1:Nat.ble (wd T a) (c+1)=true:=by rw [qb0 T h.1];exact W5 (by omega)
  unfold yy9;rw [show Nat.beq (c+1) 0=false from rfl];simp only [h1];rw [qb0 T h.1,Nat.add_sub_cancel,jq1 h.2 (by simpa using hl),List.drop_succ_cons]
def qo5 {t:TypeId} (hs:yl1 P t=true) {cs:List (AV T.U)} {c:Nat} (h:cs.all (za2 T)=true) (hl:c<cs.length):ja4 T P t cs c=cs[c]?:=by
 obtain ⟨i,d,hi,hd,ha,_⟩:=yf3 hs;unfold ja4 vw4;rw [hi,hd];simp only [ha];rw [jq1 h hl,M5 hl,Y0 hl];simp only;rw [Y8] at h;rw [h _ (List.getElem_mem hl)]
def jh0 {v:AV T.U} (hv:za2 T v=true): ∀ {cs:List (AV T.U)} {c:Nat},cs.all (za2 T)=true->c<cs.length->yt5 T (kg7 T [v]) cs c=some (cs.set c v)
 | [],c,_,h=>by simp at h
 |a::r,0,h,_=>by
  rw [J1,X3] at h;show kg7 T [v] (a::r)=_;unfold kg7;simp only [putOnes,h.1,hv,N7,List.set_cons_zero]
 |a::r,c+1,h,hl=>by
  rw [J1,X3] at h;have h1:Nat.ble (wd T a) (c+1)=true:=by rw [qb0 T h.1];exact W5 (by omega)
  unfold yt5;rw [show Nat.beq (c+1) 0=false from rfl];simp only [h1];rw [qb0 T h.1,Nat.add_sub_cancel,jh0 hv h.2 (by simpa using hl)];rfl
def ye6 {v:AV T.U} (h:zv4 T v=true):zd4 T v= [v]/\zz6 T v=true/\jb8 v=none/\za2 T v=true:=by
 cases v<;>first|(cases h;done)|exact ⟨rfl,h,rfl,rfl⟩|exact ⟨rfl,rfl,rfl,rfl⟩
def vd8 {t:TypeId} (hs:yl1 P t=true) {v:AV T.U} (h:zv4 T v=true) (c n:Nat) (hc:c<n):jk6 T P t c n v=true:=by
 obtain ⟨i,d,hi,hd,ha,h1⟩:=yf3 hs;obtain ⟨e1,e2,e3,e4⟩:=ye6 h;unfold jk6;rw [hi];simp only [e1,e2,h1,h,U5,T7,J1,List.all_nil,N7,Bool.and_true,Bool.true_and];rw [X3];exact ⟨rfl,W5 hc⟩
def vn9 {t:TypeId} (hs:yl1 P t=true):zf8 P t=none:=by
 obtain ⟨i,d,hi,hd,ha,_⟩:=yf3 hs;unfold zf8;rw [hd];cases d<;>first|rfl|cases ha
def qf3 {t:TypeId} {x:Operand} (hop:o.op=.load t x) {i c:Nat} {e:TypeId} {cs:List (AV T.U)} (hx:aev T F x=some (.ptr i c)) (hi:H[i]?=some (.blk e cs)) (hs:yl1 P t=true) (hn:cs.all (za2 T)=true) (hc:c<cs.length) {R:Type} (K:St T->Option R) (Kp:AV T.U->St T->Option R):
  zg1 P C o ⟨F,H⟩ K Kp=match cs[c]? with|some (.eptr _ _ _ _)=>none|some u=>K ⟨za1 T F o.dst u,H⟩|none=>none:=by
 have h1:zm5 P C o ⟨F,H⟩ K=none:=by simp only [zm5,hop,hx]
 have h1':zx3 P C o ⟨F,H⟩ K=none:=by simp only [zx3,hop]
 have h2:ka1 P o.op=false:=by rw [hop];simp only [ka1,vn9 hs];rfl
 unfold zg1;rw [h1,h1'];simp only [zl7,hop,stepA];unfold zx2;rw [h2];simp only [zq9,hop,jf6,hx,loadA,hi,qo5 hs hn hc];rw [Y0 hc];generalize cs[c]=u;cases u<;>rfl
def jr9 {t:TypeId} {x y:Operand} (hop:o.op=.store t x y) (hdst:o.dst=none) {i c:Nat} {e:TypeId} {cs:List (AV T.U)} {v:AV T.U} (hx:aev T F x=some (.ptr i c)) (hy:aev T F y=some v) (hi:H[i]?=some (.blk e cs)) (hs:yl1 P t=true) (hv:zv4 T v=true) (hn:cs.all (za2 T)=true) (hc:c<cs.length) {R:Type} (K:St T->Option R) (Kp:AV T.U->St T->Option R):
  zg1 P C o ⟨F,H⟩ K Kp=K ⟨F,H.set i (.blk e (cs.set c v))⟩:=by
 obtain ⟨e1,e2,e3,e4⟩:=ye6 hv;have h1:zm5 P C o ⟨F,H⟩ K=none:=by simp only [zm5,hop,hx]
 have h1':zx3 P C o ⟨F,H⟩ K=none:=by simp only [zx3,hop]
 have h3:storeB T P t cs c v=some (cs.set c v):=by
  unfold storeB;simp only [e3,e1,U5,T7];rw [vd8 hs hv 0 _ (by omega)];exact jh0 e4 hn hc
 have h4:stepA P C o ⟨F,H⟩ K Kp=K ⟨F,H.set i (.blk e (cs.set c v))⟩:=by simp only [stepA,hop,hdst,hx,hy,jb6,hi,h3]
 have h5:jv7 T H (.ptr i c) v=none:=rfl;unfold zg1;rw [h1,h1'];simp only [zl7,hop,hx,hy,h5];cases cellsOf T (zd4 T v)<;>exact h4
def jq0 {t:TypeId} {x:Operand} (hop:o.op=.load t x) {i sz a c:Nat} {e:TypeId} {d:Nat} {fe:List TypeId} {xs:List (T.U d)} {b:Nat} {cs:List (AV T.U)} (hx:aev T F x=some (.eptr i sz a c)) (hi:H[i]?=some (.drow e d fe xs (some (b,cs)))) (hs:yl1 P t=true) {R:Type} (K:St T->Option R) (Kp:AV T.U->St T->Option R):
  zg1 P C o ⟨F,H⟩ K Kp=match Nat.beq sz (T.size d),cs[c]? with|true,some u=>(match zh1 u with|true=>if a=b then K ⟨za1 T F o.dst u,H⟩ else none|false=>none)|_,_=>none:=by
 obtain ⟨ii,dd,hii,hdd,ha,_⟩:=yf3 hs;have h0:zs2 T P t cs c=cs[c]?:=by unfold zs2 jk3;rw [hii,hdd];simp only [ha]
 have h1:zm5 P C o ⟨F,H⟩ K=some (yo3 P t H i sz a c e d fe xs (some (b,cs)) fun v H=>K ⟨za1 T F o.dst v,H⟩):=by simp only [zm5,hop,hx,hi]
 unfold zg1;rw [h1];simp only [yo3,h0];cases Nat.beq sz (T.size d) with
 |false=>rfl
 |true=>cases cs[c]?<;>rfl
def jg9 {t:TypeId} {x y:Operand} (hop:o.op=.store t x y) (hdst:o.dst=none) {i sz a c:Nat} {e:TypeId} {d:Nat} {fe:List TypeId} {xs:List (T.U d)} {b:Nat} {cs:List (AV T.U)} {v:AV T.U} (hx:aev T F x=some (.eptr i sz a c)) (hy:aev T F y=some v) (hi:H[i]?=some (.drow e d fe xs (some (b,cs)))) (hv:zv4 T v=true) {R:Type} (K:St T->Option R) (Kp:AV T.U->St T->Option R):
  zg1 P C o ⟨F,H⟩ K Kp=match Nat.beq sz (T.size d)&&jk6 T P t c (T.size d) v with|true=>if a=b then K ⟨F,H.set i (.drow e d fe xs (some (b,cs.set c v)))⟩ else none|false=>none:=by
 obtain ⟨e1,e2,e3,e4⟩:=ye6 hv;have h1:zm5 P C o ⟨F,H⟩ K=some (yc8 P t H i sz a c e d fe xs (some (b,cs)) v fun H=>K ⟨F,H⟩):=by simp only [zm5,hop,hx,hi,hdst,hy]
 unfold zg1;rw [h1];simp only [yc8,e1,yg8];cases Nat.beq sz (T.size d)&&jk6 T P t c (T.size d) v<;>rfl
def ql7 {d:Option Tmp} {Fz:AF T} {a u:AV T.U} (h:za1 T F d u=za1 T Fz d a) (G:AF T):za1 T G d u=za1 T G d a:=by
 cases d with
 |none=>rfl
 |some d=>
  simp only [za1,List.cons.injEq,X7] at h;rw [show u=a from h.1.2]
def vb5 {c:Nat} {f:Ent T.U} {e:TypeId} {cs:List (AV T.U)} (hn:cs.all (za2 T)=true) (h:simE c f (.blk e cs)): ∃cs',f=.blk e cs'/\cs'.length=cs.length/\cs'[c]?=cs[c]?/\cs'.all (za2 T)=true:=by
 rcases h with rfl|h
 ·exact ⟨cs,rfl,rfl,rfl,hn⟩
 ·cases f with
  |blk e' cs'=>obtain ⟨rfl,h2,h3,h4,_⟩:=h;exact ⟨cs',rfl,h2,h3,h4⟩
  |drow e d fe xs op=>cases op with
   |none=>exact h.elim
   |some p=>obtain ⟨a,cs⟩:=p;obtain ⟨_,h,_⟩:=h;cases h
  |_=>exact h.elim
def ql0 {c:Nat} {f:Ent T.U} {e:TypeId} {d:Nat} {fe:List TypeId} {xs:List (T.U d)} {b:Nat} {cs:List (AV T.U)} (h:simE c f (.drow e d fe xs (some (b,cs)))): ∃cs',f=.drow e d fe xs (some (b,cs'))/\cs'.length=cs.length/\cs'[c]?=cs[c]?:=by
 rcases h with rfl|h
 ·exact ⟨cs,rfl,rfl,rfl⟩
 ·cases f with
  |drow e d fe xs op=>cases op with
   |none=>exact h.elim
   |some p=>
    obtain ⟨a,cs0⟩:=p;obtain ⟨cs',h,h2,h3⟩:=h;cases h;exact ⟨cs0,rfl,h2,h3⟩
  |_=>exact h.elim
def vq4 {k c:Nat} {sv:Option (AV T.U)} (hl:kl6 P o F H=some (k,c,sv)) {Fz:AF T} {a:AV T.U} {H1:List (Ent T.U)} (h:zg1 P C o ⟨F,H⟩ some (fun _ _=>none)=some ⟨za1 T Fz o.dst a,H1⟩):
  ∃x,H[k]?=some x/\x.live=true/\H1=qg7 k c sv x H/\ ∀(F':AF T) (H':List (Ent T.U)) (f:Ent T.U),(∀t a,F.get T t=some a->F'.get T t=some a)->H'[k]?=some f->simE c f x->zg1 P C o ⟨F',H'⟩ some (fun _ _=>none)=some ⟨za1 T F' o.dst a,qg7 k c sv f H'⟩:=by
 unfold kl6 at hl;split at hl<;>try (cases hl;done)
 ·rename_i t x hop;split at hl<;>try (cases hl;done)
  ·rename_i i c0 hx;split at hl<;>try (cases hl;done)
   rename_i e cs hi;split at hl<;>try (cases hl;done)
   rename_i hb;simp only [X3,U8] at hb;obtain ⟨hs,hn,hc⟩:=hb;simp only [X0,X7] at hl;obtain ⟨rfl,rfl,rfl⟩:=hl;rw [qf3 hop hx hi hs hn hc] at h;split at h<;>try (cases h;done)
   rename_i u hne hu;simp only [X0,St.mk.injEq] at h;obtain ⟨h,rfl⟩:=h;refine ⟨_,hi,rfl,rfl,fun F' H' f hF hf hsim=>?_⟩;obtain ⟨cs',rfl,g1,g2,g3⟩:=vb5 hn hsim;rw [qf3 hop (zx6 hF hx) hf hs g3 (by omega),g2,hu];have:=ql7 h F';cases u<;>first|exact absurd rfl (hne _ _ _ _)|(simp only [this];rfl)
  ·rename_i i sz0 a0 c0 hx;split at hl<;>try (cases hl;done)
   rename_i e d fe xs b cs hi;split at hl<;>try (cases hl;done)
   rename_i hb;simp only [X3,U8] at hb;obtain ⟨hs,hc⟩:=hb;simp only [X0,X7] at hl;obtain ⟨rfl,rfl,rfl⟩:=hl;rw [jq0 hop hx hi hs] at h;split at h<;>try (cases h;done)
   rename_i u hsz hu;split at h<;>try (cases h;done)
   rename_i hne;obtain ⟨hab,h2⟩:=q7 h;clear h;simp only [X0,St.mk.injEq] at h2;obtain ⟨h,rfl⟩:=h2;refine ⟨_,hi,rfl,rfl,fun F' H' f hF hf hsim=>?_⟩;obtain ⟨cs',rfl,g1,g2⟩:=ql0 hsim;rw [jq0 hop (zx6 hF hx) hf hs,g2,hu,hsz];simp only [hne,if_pos hab,ql7 h F'];rfl
 ·rename_i t x y hop;split at hl<;>try (cases hl;done)
  ·rename_i i c0 v hdst hx hy;split at hl<;>try (cases hl;done)
   rename_i e cs hi;split at hl<;>try (cases hl;done)
   rename_i hb;simp only [X3,U8] at hb;obtain ⟨hs,hv,hn,hc⟩:=hb;simp only [X0,X7] at hl;obtain ⟨rfl,rfl,rfl⟩:=hl;have e4:=(ye6 hv).2.2.2;rw [jr9 hop hdst hx hy hi hs hv hn hc] at h;simp only [X0,St.mk.injEq] at h;obtain ⟨h,rfl⟩:=h;refine ⟨_,hi,rfl,?_,fun F' H' f hF hf hsim=>?_⟩
   ·show _=H.set i (.blk e (zu9 c0 v cs));rw [zl2 hn e4]
   ·obtain ⟨cs',rfl,g1,g2,g3⟩:=vb5 hn hsim;rw [jr9 hop hdst (zx6 hF hx) (zx6 hF hy) hf hs hv g3 (by omega),hdst];show _=some (⟨F',H'.set i (.blk e (zu9 c0 v cs'))⟩:St T);rw [zl2 g3 e4]
  ·rename_i i sz0 a0 c0 v hdst hx hy;split at hl<;>try (cases hl;done)
   rename_i e d fe xs b cs hi;split at hl<;>try (cases hl;done)
   rename_i hb;simp only [X3,U8] at hb;obtain ⟨hs,hv,hc⟩:=hb;simp only [X0,X7] at hl;obtain ⟨rfl,rfl,rfl⟩:=hl;rw [jg9 hop hdst hx hy hi hv] at h;split at h<;>try (cases h;done)
   rename_i hfit;obtain ⟨hab,h2⟩:=q7 h;clear h;simp only [X0,St.mk.injEq] at h2;obtain ⟨h,rfl⟩:=h2;refine ⟨_,hi,rfl,rfl,fun F' H' f hF hf hsim=>?_⟩
   ·obtain ⟨cs',rfl,g1,g2⟩:=ql0 hsim;rw [jg9 hop hdst (zx6 hF hx) (zx6 hF hy) hf hv,hfit,hdst];simp only [if_pos hab];rfl
end
end Go.X
