import Derived.Test.YtliopfopmhhdeaaGreatA5
set_option linter.defProp false
namespace Go.X
open Go.RowKit Go.V
section
variable {T:Tab} (P:Program) (C:Ctx T) {R:Type}
def zt2 (F:AF T) (o:Oper):Bool:=o.op.operands.toList.all fun x=>(aev T F x).isSome
def vn9 (ops:Array Oper) (j:Nat):Option Tmp:=(ops[j]?).bind (·.dst)
def kq5 (c:Call) (st:St T) (K:AV T.U->Option R):Option R:=
 match zp2 T st.F c.args.toList with
 |none=>none
 |some aS=>
  match c.callee with
  | .value f=>match aev T st.F f with
   |some (.fn (.func g) first caps)=>match zl9 P g,qb4 C.E g with
    |true,some cs=>match (first++aS++caps).all zh1 with|true=>cs.q (first++aS++caps) st.H K|false=>none
    |_,_=>none
   |_=>none
  |_=>none
def vp7 (o:Oper) (st:St T) (K:AV T.U->Option R):Option R:=
 match o.op with
 | .call c=>match stepA.reads c with
  |true=>zy0 P o st K
  |false=>kq5 P C c st K
 |_=>zy0 P o st K
def ve3 (stp:Oper->St T->(St T->Option R)->Option R) (ops:Array Oper) (n:Nat) (K:St T->Option R):List Oper->St T->Option R
 | [],st=>K st
 |o::r,st=>
  let a:=fun (st:St T)=>match zi5 n o.dst&&(zb0 o&&zt2 st.F o) with
   |true=>stp o st (fun st=>ve3 stp ops n K r st)
   |false=>none
  let e:=fun (st:St T)=>match zi5 n o.dst with
   |true=>ve3 stp ops n K r ⟨za5 T st.F o.dst (.raw undef),st.H⟩
   |false=>none
  match o.guard with
  |none=>a st
  |some (j,b)=>match vn9 ops j with
   |none=>none
   |some d=>match st.F.get T d with
    |some (.cell ⟨.bool,c⟩)=>z8 c (let st:=⟨(d,cB T true)::st.F,st.H⟩;match b with|true=>a st|false=>e st)
     (let st:=⟨(d,cB T false)::st.F,st.H⟩;match b with|true=>e st|false=>a st)
    |some (.raw (.tuple _))=>e st
    |_=>none
open Classical in
noncomputable def both (a b:Option R):Option R:=if a=b then a else none
noncomputable def yq7 (e:Bool) (a b:Option R):Option R:=match e with|true=>both a b|false=>b
def kb9:Operand->Bool| .const (.slice none _ _)=>true|_=>false
def ks5:BinOp->Option Bool| .eql=>some false| .neq=>some true|_=>none
def kb5 (H:List (Ent T.U)):AV T.U->Option Bool
 | .cell ⟨.list e,xs⟩=>some (List.isEmpty (α:=den T.U e) xs)
 | .cell ⟨.nl e,xs⟩=>some (List.isEmpty (α:=den T.U e) xs)
 | .own i=>match H[i]? with|some (.row _ _ xs)=>some xs.isEmpty|_=>none
 |_=>none
def gk0:AV T.U->Bool| .cell ⟨.nl _,_⟩=>true|_=>false
noncomputable def gk2 (c e:Bool) (a b:Option R):Option R:=match c with|true=>z8 e a b|false=>yq7 e a b
def gk3 (o:Oper) (st:St T):Option (Bool×Bool×Bool):=
 match o.op with
 | .binOp b t x y _=>match P.underlying t with
  |some (.slice _)=>match ks5 b,kb9 y,aev T st.F x with
   |some neg,true,some a=>match kb5 st.H a with|some e=>some (neg,e,gk0 a)|none=>none
   |_,_,_=>none
  |_=>none
 |_=>none
noncomputable def vp6 (o:Oper) (st:St T) (K:St T->Option R) (Kp:AV T.U->St T->Option R):Option R:=
 match gk3 P o st with
 |some (neg,e,kn)=>gk2 kn e (K ⟨za5 T st.F o.dst (cB T (jn3 neg true)),st.H⟩) (K ⟨za5 T st.F o.dst (cB T (jn3 neg false)),st.H⟩)
 |none=>match kh7 P C o st K with|some z=>z|none=>zg8 P C o st K Kp
noncomputable def gl1 (ops:Array Oper) (n:Nat) (a:AV T.U->St T->Option R) (K:St T->Option R) (st:St T):Option R:=ve3 (fun o st K=>vp6 P C o st K a) ops n K ops.toList st
def gl2 (ops:Array Oper) (n:Nat) (K:St T->Option R) (st:St T):Option R:=ve3 (fun o st K=>vp7 P C o st fun a=>K ⟨za5 T st.F o.dst a,st.H⟩) ops n K ops.toList st
end
section
variable {T:Tab} {P:Program} {C:Ctx T} {w w':World} {S S':List Nat} {φ φ':Nat->RA} {w0:World} {S0:Ow} {F:AF T} {H:List (Ent T.U)} {F':PF}
variable {ops:Array Oper} {Q:Exit->Act->World->Prop} {k n:Nat} {ds:List Deferred} {o:Oper}
def Sim.again (h:Sim T w0 S0 ⟨F,H⟩ F' w S φ) {d a} (b:F.get T d=some a):Sim T w0 S0 ⟨(d,a)::F,H⟩ F' w S φ:=by
 obtain ⟨v,c,e⟩:=h.fr d a b;exact h.seen c e (h.ids d a b)
def ym0 (hF:FR T w S φ F F') {o} (h:zt2 F o=true):yb1 F' o=true:=by
 unfold zt2 at h;unfold yb1;rw [Y8] at h⊢;intro x b;obtain ⟨a,c⟩:=T0.1 (h x b);obtain ⟨v,d,_⟩:=j7 hF c;rw [d];rfl
def vn3 (Q:Exit->Act->World->Prop) (n:Nat) (ds:List Deferred) (w0:World) (S0:Ow) (st:St T):Prop:= ∀F1 b,zc4 T w0 S0 st F1 b-> ∀a,Fr n ds F1 a->Q .normal a b
def ji3 {R r stp K} (G:Nat->PF->World->Prop)
  (g: ∀(k:Nat) (o:Oper) (F:AF T) (H:List (Ent T.U)) (F':PF) (w:World) (S:List Nat) (φ:Nat->RA) (K:St T->Option R),dec ops k n F'=some o->stp o ⟨F,H⟩ K=some r->Sim T w0 S0 ⟨F,H⟩ F' w S φ->(∀st,K st=some r-> ∀F1 J S1 x,Sim T w0 S0 st F1 J S1 x->G (k+1) F1 J)->G k F' w)
  (m: ∀(k:Nat) (dst:Option Tmp) (F':PF) (w:World),yo5 ops k n F'=some dst->G (k+1) (upd F' dst undef) w->G k F' w)
  (s: ∀(k:Nat) (st:St T) (F':PF) (w:World) (S:List Nat) (φ:Nat->RA),ops.size<=k->K st=some r->Sim T w0 S0 st F' w S φ->G k F' w):
  ∀(rest:List Oper) (k:Nat),ops.toList.drop k=rest-> ∀(F:AF T) (H:List (Ent T.U)) (F':PF) (w:World) (S:List Nat) (φ:Nat->RA),ve3 stp ops n K rest ⟨F,H⟩=some r->Sim T w0 S0 ⟨F,H⟩ F' w S φ->G k F' w
 | [],k,A,F,H,F',w,S,φ,a,h=>by
  have:ops.size<=k:=by simpa using List.drop_eq_nil_iff.1 A
  exact s k _ F' w S φ this a h
 |o::rest,k,A,F,H,F',w,S,φ,a,h=>by
  have y:k<ops.size:=by
   apply Classical.byContradiction;intro W;rw [M3 (by simpa using W)] at A;cases A
  have V:ops[k]?=some o:=by
   have:=M6 (l:=ops.toList) (i:=k) (by simpa using y);rw [A] at this;rw [Z6 y];have N:=(List.cons.inj this).1;simpa using N.symm
  have D:ops.toList.drop (k+1)=rest:=by
   have:=M6 (l:=ops.toList) (i:=k) (by simpa using y);rw [A] at this;exact (List.cons.inj this).2.symm
  have p: ∀(F:AF T),(match zi5 n o.dst&&(zb0 o&&zt2 F o) with
    |true=>stp o ⟨F,H⟩ (fun st=>ve3 stp ops n K rest st)
    |false=>none)=some r->Sim T w0 S0 ⟨F,H⟩ F' w S φ->zy2 ops F' o=some true->G k F' w:=by
   intro F a h O;split at a
   ·rename_i B;simp only [X3] at B;have X:dec ops k n F'=some o:=by
     unfold dec;rw [V];simp only [O,B.1,B.2.1,ym0 h.fr B.2.2,N2]
    exact g k o F H F' w S φ _ X a h fun st Y F1 J S1 x N=>ji3 G g m s rest (k+1) D st.F st.H F1 J S1 x Y N
   ·cases a
  have f: ∀(F:AF T),(match zi5 n o.dst with
    |true=>ve3 stp ops n K rest ⟨za5 T F o.dst (.raw undef),H⟩
    |false=>none)=some r->Sim T w0 S0 ⟨F,H⟩ F' w S φ->zy2 ops F' o=some false->G k F' w:=by
   intro F a h O;split at a
   ·rename_i B;refine m k o.dst F' w ?_ (ji3 G g m s rest (k+1) D _ _ _ _ S φ a (h.slot rfl ⟨fun i Z=>(by cases Z),trivial⟩));unfold yo5;rw [V];simp only [O,B]
   ·cases a
  unfold ve3 at a;simp only at a;split at a
  ·rename_i z;exact p F a h (by unfold zy2;rw [z])
  ·rename_i j b z;split at a
   ·cases a
   ·rename_i d E;have e: ∀v,F'.get d=some v->yd3 ops F' j=match v with| .bool b=>some (some b)| .tuple _=>some none|_=>none:=by
     intro v I;unfold vn9 at E;unfold yd3;rw [E];simp only [I];cases v<;>rfl
    split at a
    ·rename_i c L;obtain ⟨v,I,t⟩:=h.fr d _ L;have:=ze8 t;subst this;have e:=e _ I;simp only at e;have M:=h.again L;rcases zd8 a with ⟨q,a⟩|⟨q,a⟩
     ·have q:c=true:=q;subst q;cases b with
      |true=>exact p _ a M (by unfold zy2;rw [z];simp only [e];rfl)
      |false=>exact f _ a M (by unfold zy2;rw [z];simp only [e];rfl)
     ·have q:c=false:=q;subst q;cases b with
      |true=>exact f _ a M (by unfold zy2;rw [z];simp only [e];rfl)
      |false=>exact p _ a M (by unfold zy2;rw [z];simp only [e];rfl)
    ·rename_i u L;obtain ⟨v,I,t⟩:=h.fr d _ L;rw [VR] at t;subst t;have e:=e _ I;simp only at e;exact f _ a h (by unfold zy2;rw [z];simp only [e];cases b<;>rfl)
    ·cases a
def vg8 {R:Type} {a b:Option R} {r:R} (h:both a b=some r):a=some r/\b=some r:=by
 unfold both at h;split at h
 ·rename_i c;exact ⟨h,c▸h⟩
 ·cases h
def qg1 {R:Type} {r:R} (hE:za0 T P C.E) (hd:dec ops k n F'=some o) {K:St T->Option R} {Kp:AV T.U->St T->Option R} (hs:vp6 P C o ⟨F,H⟩ K Kp=some r) (h:Sim T w0 S0 ⟨F,H⟩ F' w S φ)
  (HK: ∀st,K st=some r->zq8 P ops Q (k+1) n ds w0 S0 st) (HP: ∀a st,Kp a st=some r->yp1 Q n ds w0 S0 a st):WR P ops Q k n ds F' w:=by
 unfold vp6 at hs;split at hs
 ·rename_i neg e kn hn;unfold gk3 at hn;split at hn<;>try (cases hn;done)
  rename_i b t x y ty hop;split at hn<;>try (cases hn;done)
  rename_i et hu;split at hn<;>try (cases hn;done)
  rename_i neg' a hneg hy hx;split at hn<;>try (cases hn;done)
  rename_i e' he;simp only [X0,X7] at hn;obtain ⟨rfl,rfl,rfl⟩:=hn;have hb:b=if neg' then .neq else .eql:=by cases b<;>simp [ks5] at hneg<;>subst hneg<;>rfl
  obtain ⟨X,h1,h2⟩:=j7 h.fr hx;obtain ⟨m,c,rfl⟩: ∃m c,y=.const (.slice none m c):=by
   unfold kb9 at hy;split at hy
   ·exact ⟨_,_,rfl⟩
   ·cases hy
  have key: ∃ad n' c',X=.slice ad n' c'/\(e'=false->ad.isNone=false)/\(gk0 a=true->e'=true->ad.isNone=true):=by
   unfold kb5 at he;split at he<;>try (cases he;done)
   ·rename_i el xs;simp only [X0] at he;have h2:CR T w S (.list el) xs X:=h2;cases h2 with
    |list _ _ ad cap u hcap hnil had _ _=>
     refine ⟨ad,_,_,rfl,fun hf=>?_,fun q=>by cases q⟩;cases ad with
     |some _=>rfl
     |none=>
      have:=(hnil rfl).1;rw [hf] at he;cases xs with
      |nil=>cases he
      |cons _ _=>cases this
   ·rename_i el xs;simp only [X0] at he;have h2:CR T w S (.nl el) xs X:=h2;cases h2 with
    |nl _ _ ad cap h3 hz=>
     refine ⟨ad,_,_,rfl,fun hf=>?_,fun _ ht=>?_⟩
     ·cases ad with
      |some _=>rfl
      |none=>
       rw [hf] at he;cases xs with
       |nil=>cases he
       |cons _ _=>cases h3 with
        |list _ _ _ _ _ _ hnil _ _ _=>have:=(hnil rfl).1;cases this
     ·rw [ht] at he;cases xs with
      |nil=>rw [(hz rfl).1];rfl
      |cons _ _=>cases he
   ·rename_i i;split at he<;>try (cases he;done)
    rename_i et' ty' xs hi;simp only [X0] at he;rw [VR] at h2;subst h2;obtain ⟨B,vals,q1,q2,_⟩:=h.ents i _ hi;refine ⟨_,_,_,rfl,fun hf=>?_,fun q=>by cases q⟩;cases had:(φ i).ad with
    |some _=>rfl
    |none=>
     have:=(q1.nil0 had).1;rw [q2] at this;rw [hf] at he;cases xs with
     |nil=>cases he
     |cons _ _=>cases this
  obtain ⟨ad,n',c',rfl,hkey,hkn⟩:=key;have hrun:(execOp (evD F') o).run P w=.ok (.value (.bool (jn3 neg' ad.isNone))) w:=by
   have g1:=yy9 (P:=P) (t:=t) (X:=.slice ad n' c') (Y:=.slice none m c) (b:=b) x (.const (.slice none m c)) rfl rfl (.inl (by simp)) w;have g2:=yw4 (P:=P) hb (X:=.slice ad n' c') (Y:=.slice none m c) rfl rfl (fun w0=>(yw3 P hu m c ad n' c' w0).2) w;obtain ⟨Y,h3,h4⟩:=j7 h.fr (show aev T F (.const (.slice none m c))=some (.raw (.slice none m c)) from rfl);rw [VR] at h4;subst h4;simp [execOp,hop,j8 h1,j8 h3,g1,g2]
  have hk:K ⟨za5 T F o.dst (cB T (jn3 neg' ad.isNone)),H⟩=some r:=by
   unfold gk2 at hs;split at hs
   ·rename_i hq;unfold z8 at hs;cases e' with
    |true=>rw [hkn hq rfl];exact hs
    |false=>rw [hkey rfl];exact hs
   unfold yq7 at hs;split at hs
   ·obtain ⟨k1,k2⟩:=vg8 hs;cases ad with
    |none=>exact k1
    |some _=>exact k2
   ·rw [hkey rfl];exact hs
  exact WR.val hd hrun (HK _ hk _ _ ⟨S,φ,h.slot (a:=cB T (jn3 neg' ad.isNone)) (CR.bool _) (zn4 rfl (by intro _ _ _ _ e;cases e))⟩)
 ·split at hs
  ·rename_i z hz;subst hs;exact qg0 hd hz h HK
  ·exact jb9 hE hd hs h HK HP
def ju0 {R:Type} {r:R} (f:za0 T P C.E) {K:St T->Option R} {c:AV T.U->St T->Option R} (d: ∀st,K st=some r->vn3 Q n ds w0 S0 st) (g: ∀a st,c a st=some r->yp1 Q n ds w0 S0 a st)
  (i:gl1 P C ops n c K ⟨F,H⟩=some r) (h:Sim T w0 S0 ⟨F,H⟩ F' w S φ):WR P ops Q 0 n ds F' w:=by
 refine ji3 (w0:=w0) (S0:=S0) (K:=K) (stp:=fun o st K=>vp6 P C o st K c) (r:=r) (fun k F' w=>WR P ops Q k n ds F' w) ?_ ?_ ?_ ops.toList 0 rfl F H F' w S φ i h
 ·intro k o F H F' w S φ K j l h d;exact qg1 f j l h (fun st b F1 m ⟨S1,e,p⟩=>d st b F1 m S1 e p) g
 ·intro k dst F' w q K;exact WR.pass1 q K
 ·intro k st F' w S φ s b h;exact .fin (W5 s) fun a t=>d st b F' w ⟨S,φ,h⟩ a t
def qg2 {R:Type} {r:R} {Qf:Act->Prop} (hE:za0 T P C.E) (hd:dec ops k n F'=some o) {K:AV T.U->Option R} (hs:vp7 P C o ⟨F,H⟩ K=some r) (h:Sim T w0 S0 ⟨F,H⟩ F' w S φ)
  (HK: ∀a v,K a=some r->VR T w S φ a v->okA H a->WQ P ops (fun w'=>Chg [] w w') Qf (k+1) n ds (upd F' o.dst v)):WQ P ops (fun w'=>Chg [] w w') Qf k n ds F':=by
 have hread:zy0 P o ⟨F,H⟩ K=some r->WQ P ops (fun w'=>Chg [] w w') Qf k n ds F':=fun hs=>
  kd8 hd hs h fun a v hK hq hv hok=>WQ.step hd (fun w1 hw=>by rw [hq w1 (qy9 hw S) (Same.pure hw)];exact ⟨rfl,rfl⟩) (HK a v hK hv hok)
 unfold vp7 at hs;split at hs
 ·rename_i hop;split at hs
  ·exact hread hs
  ·unfold kq5 at hs;split at hs
   ·cases hs
   ·rename_i aS has;split at hs
    ·rename_i f hc;split at hs
     ·rename_i g first caps hf
      split at hs
      ·rename_i cs he hcs;split at hs
       ·rename_i hall;obtain ⟨vs,h1,h2,h3⟩:=je5 hop hc hf has he hall h;obtain ⟨a,v,g1,g3,g4,g5⟩:=(hE g cs hcs).2.1 _ H K r hs w0 S0 F F' w S φ h vs h1 h2;refine WQ.step hd (fun w1 hw=>?_) (HK a v g1 g3 g4);rw [h3 w1];refine ⟨rfl,(g5 w1 (qy9 hw S) (Same.pure hw)).mono fun e w'' hR=>?_⟩;cases e with
        |returned u=>obtain ⟨q1,q2⟩:=hR;exact ⟨by rw [q2],hw.pure q1⟩
        |panicked ch=>exact hR.elim
        |outgrown=>exact hR.elim
       ·cases hs
      ·cases hs
     ·cases hs
    ·cases hs
 ·exact hread hs
def qu8 {R:Type} {r:R} (f:za0 T P C.E) {K:St T->Option R} (b: ∀st,K st=some r->vn3 Q n ds w0 S0 st) (g:gl2 P C ops n K ⟨F,H⟩=some r) (h:Sim T w0 S0 ⟨F,H⟩ F' w S φ):
  WQ P ops (fun w'=>Chg [] w w') (fun c=> ∀w',Chg [] w w'->Q .normal c w') 0 n ds F':=by
 refine ji3 (w0:=w0) (S0:=S0) (K:=K) (stp:=fun o st K=>vp7 P C o st fun a=>K ⟨za5 T st.F o.dst a,st.H⟩) (r:=r) (fun k F' w=>WQ P ops (fun w'=>Chg [] w w') (fun c=> ∀w',Chg [] w w'->Q .normal c w') k n ds F') ?_ ?_ ?_ ops.toList 0 rfl F H F' w S φ g h
 ·intro k o F H F' w S φ K i j h b;exact qg2 f i j h fun a v l m d=>b _ l _ w S φ (h.slot m d)
 ·intro k dst F' w p K;exact WQ.pass1 p K
 ·intro k st F' w S φ q e h;exact WQ.fin (W5 q) fun w' s a t=>b st e F' w' ⟨S,φ,h.pure s⟩ a t
end
end Go.X
namespace Go.X
open Go.RowKit Go.V
section
variable (T:Tab)
def Ent.ren {U:Nat->Type} (ρ:Nat->Nat):Ent U->Ent U
 | .blk e cs=>.blk e (zi2 ρ cs)
 | .row e t xs=>.row e t xs
 | .map k es=>.map k (qa4 ρ es)
 | .tmap k t m=>.tmap k t m
 | .drow e d fe xs a=>.drow e d fe xs (vq8 ρ a)
 | .pmap k b d m a=>.pmap k b d m (vq7 ρ a)
 | .hid=>.hid
 | .gone=>.gone
def zp1 (F:AF T):List Nat->AF T
 | []=> []
 |i::r=>match F.get T i with|some a=>(i,a)::zp1 F r|none=>zp1 F r
def jm9:AF T->List Nat
 | []=> []
 |(_,a)::r=>a.ids++jm9 r
def vb9 (H:List (Ent T.U)):List Nat->List Nat
 | []=> []
 |i::r=>match H[i]? with|some e=>e.cellIds++vb9 H r|none=>vb9 H r
def qb0 (H:List (Ent T.U)):Nat->List Nat->List Nat
 |0,l=>l
 |n+1,l=>let l':=qy4 l (vb9 T H l);match Nat.beq l'.length l.length with|true=>l|false=>qb0 H n l'
def zd2 (H:List (Ent T.U)) (ρ:Nat->Nat):List Nat->List (Ent T.U)
 | []=> []
 |i::r=>match H[i]? with|some e=>e.ren ρ::zd2 H ρ r|none=>.gone::zd2 H ρ r
def ve5 (ρ:Nat->Nat):AF T->AF T
 | []=> []
 |(i,a)::r=>(i,a.ren ρ)::ve5 ρ r
def vr0 (l:List Nat):List Nat->Bool| []=>true|i::r=>zs6 i l&&vr0 l r
structure Cut where
 l:List Nat
 nils:List (Nat×TypeId×Ty)
 whole:Bool
 bn:List (Nat×Nat×TypeId×Ty)
 dz:Nat
 inl:Bool
abbrev km3:Nat:=4000000000
abbrev vh2:Nat:=4000000001
def zw5 (e:TypeId):Ty->Ent T.U
 | .nl (.user d)=>.drow e d (T.fe d) [] none
 |t=>.row e t []
def zd6:List (Nat×Nat×TypeId×Ty)->List (Ent T.U)->List (Ent T.U)
 | [],H=>H
 |(i,c,e,t)::r,H=>match Nat.beq e vh2 with
  |true=>zd6 r (closeL T (List.range H.length) H)
  |false=>match H[i]? with
  |some (.blk e0 cs)=>match cs[c]? with
   |some (.raw (.slice none 0 0))=>zd6 r (H.set i (.blk e0 (cs.set c (.own H.length)))++ [zw5 T e t])
   |some (.own k)=>match Nat.beq e km3 with
    |true=>match H[k]? with
     |some (.row _ a xs)=>zd6 r (H.set i (.blk e0 (cs.set c (.sl k (szT T a) 0 xs.length))))
     |_=>zd6 r H
    |false=>zd6 r H
   |_=>zd6 r H
  |_=>zd6 r H
def yx1:List (Nat×TypeId×Ty)->St T->St T
 | [],st=>st
 |(s,e,t)::r,st=>match st.F.get T s with
  |some (.raw (.slice none 0 0))=>yx1 r ⟨(s,.own st.H.length)::st.F,st.H++ [zw5 T e t]⟩
  |_=>yx1 r st
def vo9 (m:Nat) (ids:List Nat):Bool:=(List.range m).all fun k=>match ids[k]? with|some j=>Nat.beq j k|none=>false
def ge5 (m:Nat) (l:List Nat) (st:St T):Option (St T):=
 let F1:=zp1 T st.F l
 let ids:=qb0 T st.H (st.H.length+1) (qy4 (List.range m) (jm9 T F1))
 match vo9 m ids&&(zc5 ids&&(ids.all (fun i=>Nat.blt i st.H.length)&&(vr0 ids (jm9 T F1)&&vr0 ids (vb9 T st.H ids)))) with
 |true=>some ⟨ve5 T (fun i=>qh9 i ids) F1,zd2 T st.H (fun i=>qh9 i ids) ids⟩
 |false=>none
end
section
variable {T:Tab}
def yc6 {l}: ∀ {m},vr0 l m=true-> ∀i∈m,i∈l
 | [],_,i,h=>by cases h
 |j::r,h,i,a=>by
  unfold vr0 at h;simp only [X3] at h;rcases Z0.1 a with rfl|a
  ·exact zb2.1 h.1
  ·exact yc6 h.2 i a
def yl4 {F i a}: ∀ {l},(zp1 T F l).get T i=some a->F.get T i=some a
 | [],h=>by simp [zp1,AF.get] at h
 |j::r,h=>by
  unfold zp1 at h;split at h
  ·rename_i u b;simp only [AF.get] at h;split at h
   ·rename_i c;have:=X1 c;subst this;rw [b];exact h
   ·exact yl4 h
  ·exact yl4 h
def yu3 {i a}: ∀ {F},F.get T i=some a-> ∀j∈a.ids,j∈jm9 T F
 | [],h,_,_=>by simp [AF.get] at h
 |(k,b)::r,h,j,c=>by
  simp only [AF.get] at h;unfold jm9;split at h
  ·simp only [X0] at h;subst h;exact X4.2 (.inl c)
  ·exact X4.2 (.inr (yu3 h j c))
def jl4 {ρ i b}: ∀ {F},(ve5 T ρ F).get T i=some b-> ∃a,F.get T i=some a/\b=a.ren ρ
 | [],h=>by simp [ve5,AF.get] at h
 |(k,c)::r,h=>by
  simp only [ve5,AF.get] at h⊢;split at h
  ·simp only [X0] at h;exact ⟨c,rfl,h.symm⟩
  ·exact jl4 h
def zl2 {H:List (Ent T.U)} {ρ:Nat->Nat} {j:Nat} {e:Ent T.U}: ∀ {l:List Nat},(zd2 T H ρ l)[j]?=some e-> ∃i,l[j]?=some i/\((∃e0,H[i]?=some e0/\e=e0.ren ρ)\/e=.gone)
 | [],h=>by simp [zd2] at h
 |i::r,h=>by
  unfold zd2 at h;split at h
  ·rename_i e0 a;cases j with
   |zero=>simp at h;exact ⟨i,rfl,.inl ⟨e0,a,h.symm⟩⟩
   |succ j=>simp at h;simpa using zl2 h
  ·cases j with
   |zero=>simp at h;exact ⟨i,rfl,.inr h.symm⟩
   |succ j=>simp at h;simpa using zl2 h
def yf9 {H:List (Ent T.U)} {ρ:Nat->Nat}: ∀(l:List Nat),(zd2 T H ρ l).length=l.length
 | []=>rfl
 |i::r=>by unfold zd2;split<;>simp [yf9 r]
def yh6 {H i e} (a:H[i]?=some e): ∀ {l},i∈l-> ∀j∈e.cellIds,j∈vb9 T H l
 | [],h,_,_=>by cases h
 |k::r,h,j,b=>by
  unfold vb9;rcases Z0.1 h with rfl|h
  ·rw [a];exact X4.2 (.inl b)
  ·split
   ·exact X4.2 (.inr (yh6 a h j b))
   ·exact yh6 a h j b
mutual
def ji4 {U ρ}: ∀a:AV U,(a.ren ρ).ids=a.ids.map ρ
 | .cell _=>by rw [AV.ren];rfl
 | .ptr _ _=>by rw [AV.ren];rfl
 | .eptr _ _ _ _=>by rw [AV.ren];rfl
 | .lptr _ _ _ _=>by rw [AV.ren];rfl
 | .own _=>by rw [AV.ren];rfl
 | .sl _ _ _ _=>by rw [AV.ren];rfl
 | .agg cs=>by rw [AV.ren,AV.ids,AV.ids,zu2 cs]
 | .tup cs=>by rw [AV.ren,AV.ids,AV.ids,zu2 cs]
 | .fn _ a b=>by rw [AV.ren,AV.ids,AV.ids,zu2 a,zu2 b,V9]
 | .ifc _ a=>by rw [AV.ren,AV.ids,AV.ids,ji4 a]
 | .raw _=>by rw [AV.ren];rfl
 | .arr _ _ _=>by rw [AV.ren];rfl
 | .aptr _ _ _ _ _ _=>by rw [AV.ren];rfl
 | .asl _ _ _ _ _ _=>by rw [AV.ren];rfl
 | .mp _=>by rw [AV.ren];rfl
 | .hmp _=>by rw [AV.ren];rfl
def zu2 {U ρ}: ∀l:List (AV U),q7 (zi2 ρ l)=(q7 l).map ρ
 | []=>rfl
 |a::r=>by rw [zi2,q7,q7,ji4 a,zu2 r,V9]
end
def qo7 {U ρ}: ∀l:List (Int×AV U),idsM (qa4 ρ l)=(idsM l).map ρ
 | []=>rfl
 |(x,a)::r=>by rw [qa4,idsM,idsM,ji4 a,qo7 r,V9]
def vy6 {U ρ} (b:Option (Nat×List (AV U))):kr3 (vq8 ρ b)=(kr3 b).map ρ:=by
 cases b with
 |none=>rfl
 |some p=>obtain ⟨a,cs⟩:=p;exact zu2 cs
def vy5 (ρ:Nat->Nat) (op:Option (Int×Nat)):qs2 (vq7 ρ op)=(qs2 op).map ρ:=by cases op<;>rfl
def Ent.ren_cellIds {U ρ} (e:Ent U):(e.ren ρ).cellIds=e.cellIds.map ρ:=by cases e<;>first|rfl|exact zu2 _|exact qo7 _|exact vy6 _|exact vy5 _ _
def Ent.ren_live {U ρ} (e:Ent U):(e.ren ρ).live=e.live:=by cases e<;>rfl
def Sim.renum {w0:World} {S0:Ow} {F F1:AF T} {H:List (Ent T.U)} {F':PF} {w:World} {S:List Nat} {φ:Nat->RA} (h:Sim T w0 S0 ⟨F,H⟩ F' w S φ) (ids:List Nat) (hF: ∀i a,F1.get T i=some a->F.get T i=some a)
  (hn:zc5 ids=true) (hp: ∀k,k<S0.pin.length->ids[k]?=some k) (h1: ∀i∈jm9 T F1,i∈ids) (h2: ∀i∈vb9 T H ids,i∈ids):
  Sim T w0 S0 ⟨ve5 T (fun i=>qh9 i ids) F1,zd2 T H (fun i=>qh9 i ids) ids⟩ F' w S (fun j=>φ (ids.getD j 0)):=by
 have hρ: ∀i∈ids,φ (ids.getD (qh9 i ids) 0)=φ i:=by
  intro i hi;rw [Y2,(zw4 hi).2];rfl
 have hd: ∀ {j i:Nat},ids[j]?=some i->φ (ids.getD j 0)=φ i:=by
  intro j i hj;rw [Y2,hj];rfl
 refine ⟨?_,?_,h.chg,h.own,h.ex,?_,fun k r hk=>?_,?_,?_,?_⟩
 ·intro i b hb;obtain ⟨a,ha,rfl⟩:=jl4 hb;obtain ⟨v,h3,h4⟩:=h.fr i a (hF i a ha);exact ⟨v,h3,h4.ren T fun j hj=>hρ j (h1 j (yu3 ha j hj))⟩
 ·intro i b hb;obtain ⟨a,ha,rfl⟩:=jl4 hb;obtain ⟨h3,h4⟩:=h.ids i a (hF i a ha);have hin:=fun j hj=>h1 j (yu3 ha j hj);refine ⟨?_,?_⟩
  ·intro j hj;rw [ji4] at hj;obtain ⟨k,hk,rfl⟩:=U2.1 hj;simp only [yf9];exact (zw4 (hin k hk)).1
  ·cases a with
   |eptr j sz k c=>
    rw [AV.ren];intro e t xs hx;obtain ⟨i',h5,h6⟩:=zl2 hx;have hj:=hin j (by simp [AV.ids]);rw [(zw4 hj).2] at h5;simp only [X0] at h5;subst h5;rcases h6 with ⟨e0,h6,h7⟩|h6
    ·cases e0 with
     |row e1 t1 ys=>
      simp only [Ent.ren,Ent.row.injEq] at h7;obtain ⟨rfl,rfl,h7⟩:=h7;have:=eq_of_heq h7;subst this;exact h4 _ _ _ h6
     |blk _ _=>cases h7
     |map _ _=>cases h7
     |tmap _ _ _=>cases h7
     |drow _ _ _ _ _=>cases h7
     |pmap _ _ _ _ _=>cases h7
     |hid=>cases h7
     |gone=>cases h7
    ·cases h6
   |_=>rw [AV.ren]<;>trivial
 ·intro j e he hl a ha;obtain ⟨i,h5,h6⟩:=zl2 he;rcases h6 with ⟨e0,h6,rfl⟩|rfl
  ·rw [hd h5] at ha;exact h.lives i e0 h6 (by rw [Ent.ren_live] at hl;exact hl) a ha
  ·cases hl
 ·have hk':=hp k (X2.1 hk).1;refine ⟨by rw [hd hk'];exact (h.pins k r hk).1,?_⟩;simp only [yf9];exact (X2.1 hk').1
 ·intro j e he;obtain ⟨i,h5,h6⟩:=zl2 he;rcases h6 with ⟨e0,h6,rfl⟩|rfl
  ·have h3:=h.ents i e0 h6;cases e0 with
   |blk e1 cs=>
    obtain ⟨g,c,a1,a2,a3,a4⟩:=h3;refine ⟨g,c,(congrArg RA.ad (hd h5)).trans a1,a2,a3,a4.ren T fun k hk=>hρ k (h2 k (yh6 h6 (X6 h5) k hk))⟩
   |row e1 t xs=>
    obtain ⟨B,vals,a1,a2,a3,a4,a5⟩:=h3;simp only [EntR,hd h5];exact ⟨B,vals,a1,a2,a3,a4,a5⟩
   |map k es=>
    obtain ⟨g,l,c,a1,a2,a3,a4,a5⟩:=h3;refine ⟨g,l,c,(congrArg RA.ad (hd h5)).trans a1,a2,a3,a4.ren T fun k hk=>hρ k (h2 k (yh6 h6 (X6 h5) k hk)),a5⟩
   |tmap k t m=>
    obtain ⟨g,l,c,a1,a2⟩:=h3;exact ⟨g,l,c,(congrArg RA.ad (hd h5)).trans a1,a2⟩
   |drow e1 d fe xs op=>
    obtain ⟨B,vals,a1,a2,a3,a4,a5⟩:=h3;simp only [Ent.ren,EntR,hd h5];exact ⟨B,vals,a1,a2,a3,a4,a5.renS T fun k hk=>RSame.of (hρ k (h2 k (yh6 h6 (X6 h5) k hk)))⟩
   |pmap k be d m op=>
    obtain ⟨g,l,c,bs,a1,a2,a3,a4,a5⟩:=h3;simp only [Ent.ren,EntR,hd h5];exact ⟨g,l,c,bs,a1,a2,a3,a4.renS T fun k hk=>RSame.of (hρ k (h2 k (yh6 h6 (X6 h5) k hk))),a5⟩
   |hid=>simp only [Ent.ren,EntR,hd h5];exact h3
   |gone=>trivial
  ·trivial
 ·intro j e he k hk;obtain ⟨i,h5,h6⟩:=zl2 he;rcases h6 with ⟨e0,h6,rfl⟩|rfl
  ·rw [Ent.ren_cellIds] at hk;obtain ⟨m,hm,rfl⟩:=U2.1 hk;simp only [yf9];exact (zw4 (h2 m (yh6 h6 (X6 h5) m hm))).1
  ·cases hk
 ·intro j k e e' he he' hl hl' hjk a b ha hb;obtain ⟨i,h5,h6⟩:=zl2 he;obtain ⟨i',h5',h6'⟩:=zl2 he';rcases h6 with ⟨e0,h6,rfl⟩|rfl
  ·rcases h6' with ⟨e0',h6',rfl⟩|rfl
   ·rw [hd h5] at ha;rw [hd h5'] at hb;rw [Ent.ren_live] at hl hl';exact h.apart i i' e0 e0' h6 h6' hl hl' (fun e=>hjk (by subst e;exact zx7 hn h5 h5')) a b ha hb
   ·cases hl'
  ·cases hl
def yr0 {m ids} (h:vo9 m ids=true) {k} (a:k<m):ids[k]?=some k:=by
 unfold vo9 at h;rw [Y8] at h;have:=h k (V0.2 a);split at this
 ·rename_i j b;rw [b,X1 this]
 ·cases this
def qw0 {w0:World} {S0:Ow} {st st':St T} {F':PF} {w:World} {m:Nat} {l:List Nat} (hm:S0.pin.length<=m) (h:zc4 T w0 S0 st F' w) (ht:ge5 T m l st=some st'):zc4 T w0 S0 st' F' w:=by
 obtain ⟨S,φ,h⟩:=h;unfold ge5 at ht;simp only at ht;split at ht
 ·rename_i hb;simp only [X3] at hb;simp only [X0] at ht;subst ht;exact ⟨S,_,h.renum _ (fun i a ha=>yl4 ha) hb.2.1 (fun k hk=>yr0 hb.1 (V4 hk hm)) (yc6 hb.2.2.2.1) (yc6 hb.2.2.2.2)⟩
 ·cases ht
def qt3 (e:TypeId) (t:Ty):(zw5 T e t).cellIds= []:=by unfold zw5;split<;>rfl
def qt4 {w:World} {S:List Nat} {φ:Nat->RA} {i:Nat} (hφ:φ i=⟨none,0,0,[]⟩) (e:TypeId) (t:Ty):EntR T w S φ i (zw5 T e t):=by
 unfold zw5;split
 ·exact ⟨w.heap.size,[],by rw [hφ];exact Own.nil _ _ _ _,by rw [hφ];rfl,W8 _,(fun a ha=>by rw [hφ] at ha;cases ha),⟨(fun j c v h=>by simp at h),(fun j j' c c' v v' _ h=>by simp at h),(fun a cs h=>by cases h)⟩⟩
 ·exact ⟨w.heap.size,[],by rw [hφ];exact Own.nil _ _ _ _,by rw [hφ];rfl,W8 _,⟨rfl,fun j c v h=>by simp at h⟩,fun a ha=>by rw [hφ] at ha;cases ha⟩
def Sim.addNilE {w0:World} {S0:Ow} {F:AF T} {H:List (Ent T.U)} {F':PF} {w:World} {S:List Nat} {φ:Nat->RA} (h:Sim T w0 S0 ⟨F,H⟩ F' w S φ) (e:TypeId) (t:Ty):Sim T w0 S0 ⟨F,H++ [zw5 T e t]⟩ F' w S (zu8 φ H.length ⟨none,0,0,[]⟩):=
 h.addG (Chg.refl [] w) (by simp) (by simp) (fun _ _ _ _ _ _=>by simp) (S':=S) (fun _ h=>h) (fun _ h=>.inl h) (r:=⟨none,0,0,[]⟩) (fun a h=>by cases yf3 h) (fun a h=>by cases yf3 h) (e:=zw5 T e t)
  (qt4 (by rw [j6]) e t) (fun j hj=>by rw [qt3] at hj;cases hj)
def ya4 {w0:World} {S0:Ow} {F':PF} {w:World}: ∀(l:List (Nat×TypeId×Ty)) {st:St T},zc4 T w0 S0 st F' w->zc4 T w0 S0 (yx1 T l st) F' w
 | [],_,h=>h
 |(s,e,t)::r,st,h=>by
  unfold yx1;split
  ·rename_i hs;refine ya4 r ?_;obtain ⟨S,φ,h⟩:=h;obtain ⟨v,h1,h2⟩:=h.fr s _ hs;rw [VR] at h2;subst h2;have hadd:=h.addNilE e t;exact ⟨S,_,hadd.seen h1 (a:=.own st.H.length) (by rw [VR,j6]) ⟨fun i hi=>by simp [AV.ids] at hi;subst hi;simp,trivial⟩⟩
  ·exact ya4 r h
def Sim.addNil {w0:World} {S0:Ow} {F:AF T} {H:List (Ent T.U)} {F':PF} {w:World} {S:List Nat} {φ:Nat->RA} (h:Sim T w0 S0 ⟨F,H⟩ F' w S φ) (e:TypeId) (t:Ty):Sim T w0 S0 ⟨F,H++ [.row e t []]⟩ F' w S (zu8 φ H.length ⟨none,0,0,[]⟩):=
 h.addG (Chg.refl [] w) (by simp) (by simp) (fun _ _ _ _ _ _=>by simp) (S':=S) (fun _ h=>h) (fun _ h=>.inl h) (r:=⟨none,0,0,[]⟩) (fun a h=>by cases yf3 h) (fun a h=>by cases yf3 h) (e:=.row e t [])
  ⟨w.heap.size,[],by rw [j6];exact Own.nil _ _ _ _,by rw [j6];rfl,W8 _,⟨rfl,fun j c v h=>by simp at h⟩,fun a ha=>by rw [j6] at ha;cases ha⟩ (fun j hj=>by cases hj)
def kx3 {w0:World} {S0:Ow} {F:AF T} {H:List (Ent T.U)} {F':PF} {w:World} {S:List Nat} {φ:Nat->RA} (h:Sim T w0 S0 ⟨F,H⟩ F' w S φ) {i:Nat} {e:TypeId} {t:Ty} {xs:List (den T.U t)} (hi:H[i]?=some (.row e t xs)) {v:Value} (hv:VR T w S φ (.own i) v):VR T w S φ (.sl i (szT T t) 0 xs.length) v:=by
 obtain ⟨B,vals,o1,o2,o3,o4,o5⟩:=h.ents i _ hi;rw [VR] at hv;subst hv;rw [o2] at o1;refine ⟨(φ i).ad,?_,?_,?_,fun hn=>o1.nil0 hn,fun _=>rfl⟩
 ·show Value.slice (φ i).ad (φ i).n (φ i).cap=Value.slice (φ i).ad xs.length ((φ i).cap-0);rw [o2];rfl
 ·show 0+xs.length<=(φ i).cap;rw [U0];exact o1.le.1
 rcases o1.cases with ⟨_,hn,_⟩|⟨c,had,_⟩
 ·exact .inl hn
 ·refine .inr ⟨_,had,had.trans ?_⟩;show some (⟨_,0,none⟩:Addr)=some ⟨_,0+0*_,none⟩;rw [M4]
def Sim.cellSl {w0:World} {S0:Ow} {F:AF T} {H:List (Ent T.U)} {F':PF} {w:World} {S:List Nat} {φ:Nat->RA} (h:Sim T w0 S0 ⟨F,H⟩ F' w S φ) {i c k:Nat} {e0 e:TypeId} {cs:List (AV T.U)} {t:Ty} {xs:List (den T.U t)}
  (hi:H[i]?=some (.blk e0 cs)) (hc:cs[c]?=some (.own k)) (hk:H[k]?=some (.row e t xs)):Sim T w0 S0 ⟨F,H.set i (.blk e0 (cs.set c (.sl k (szT T t) 0 xs.length)))⟩ F' w S φ:=by
 obtain ⟨g,cv,a1,a2,a3,a4⟩:=h.ents i _ hi;refine h.upd (i:=i) (e0:=.blk e0 cs) (e:=.blk e0 (cs.set c (.sl k (szT T t) 0 xs.length))) (Tc:= []) (w':=w) hi rfl (Chg.refl [] w) (by simp)
  ⟨g,cv,a1,a2,a3,BR.swap (b:=.sl k (szT T t) 0 xs.length) rfl rfl (fun v hv=>kx3 h hk hv) a4 hc⟩ ?_ (by intro _ _ _ h;cases h)
 intro j hj;rw [Ent.cellIds] at hj;obtain ⟨b,hb,hjb⟩:=zr2 hj;rcases M0 hb with hb|hb
 ·exact h.eids i _ hi j (by rw [Ent.cellIds];exact zh9 hb j hjb)
 ·subst hb;have hm:(AV.own k:AV T.U)∈cs:=X6 hc;simp only [AV.ids,Q5] at hjb;subst hjb;exact h.eids i _ hi j (by rw [Ent.cellIds];exact zh9 hm j (by simp [AV.ids]))
def zc6 {w0:World} {S0:Ow} {F:AF T} {F':PF} {w:World}: ∀(l:List (Nat×Nat×TypeId×Ty)) {H:List (Ent T.U)},zc4 T w0 S0 ⟨F,H⟩ F' w->zc4 T w0 S0 ⟨F,zd6 T l H⟩ F' w
 | [],_,h=>h
 |(i,c,e,t)::r,H,h=>by
  unfold zd6;split
  ·exact zc6 r (zv0 _ h)
  split
  ·rename_i e0 cs hi;split
   ·rename_i hc;refine zc6 r ?_;obtain ⟨S,φ,h⟩:=h;have h1:=h.addNilE e t;have hil:=(X2.1 hi).1;obtain ⟨g,cv,a1,a2,a3,a4⟩:=h1.ents i _ (by rw [X8 hil];exact hi);have h2:=h1.upd (i:=i) (e0:=.blk e0 cs) (e:=.blk e0 (cs.set c (.own H.length))) (Tc:= []) (w':=w) (by rw [X8 hil];exact hi) rfl (Chg.refl [] w) (by simp)
     ⟨g,cv,a1,a2,a3,BR.swap (b:=.own H.length) rfl rfl (fun v hv=>by rw [VR] at hv;subst hv;rw [VR,j6]) a4 hc⟩
     (by
      intro j hj;rw [Ent.cellIds] at hj;obtain ⟨b,hb,hjb⟩:=zr2 hj;rcases M0 hb with hb|hb
      ·have:=h.eids i _ hi j (by rw [Ent.cellIds];exact zh9 hb j hjb);simp at this⊢;omega
      ·subst hb;simp [AV.ids] at hjb;subst hjb;simp) (by intro _ _ _ h;cases h)
    have hset:(H++ [zw5 T e t]).set i (.blk e0 (cs.set c (.own H.length)))=H.set i (.blk e0 (cs.set c (.own H.length)))++ [zw5 T e t]:=by
     rw [List.set_append_left _ _ hil]
    rw [hset] at h2;exact ⟨S,_,h2⟩
   ·rename_i k hc;split
    ·split
     ·rename_i e' t' xs hk;obtain ⟨S,φ,h⟩:=h;exact zc6 r ⟨S,φ,h.cellSl hi hc hk⟩
     ·exact zc6 r h
    ·exact zc6 r h
   ·exact zc6 r h
  ·exact zc6 r h
end
end Go.X
namespace Go.X
open Go.RowKit Go.V
section
variable {T:Tab} {w:World} {S:List Nat} {φ φ':Nat->RA}
def Ent.plain {U:Nat->Type}:Ent U->Bool| .drow _ _ _ _ _=>false| .pmap _ _ _ _ _=>false| .hid=>false|_=>true
def EntR.renS {ρ i e} (h:EntR T w S φ i e) {j} (s:RSame (φ' j) (φ i)) (u:e.plain=true\/(φ' j).xs=(φ i).xs) (x: ∀k∈e.cellIds,RSame (φ' (ρ k)) (φ k)):EntR T w S φ' j (e.ren ρ):=by
 obtain ⟨v,y,z⟩:=s;cases e with
 |blk e cs=>obtain ⟨g,c,f,n,p,q⟩:=h;exact ⟨g,c,by rw [v];exact f,n,p,q.renS T x⟩
 |row e t xs=>obtain ⟨B,o,f,n,p,q,r⟩:=h;simp only [Ent.ren,EntR,v,y,z];exact ⟨B,o,f,n,p,q,r⟩
 |map k es=>obtain ⟨g,l,c,f,n,p,q,r⟩:=h;exact ⟨g,l,c,by rw [v];exact f,n,p,q.renS T x,r⟩
 |tmap k t m=>obtain ⟨g,l,c,f,n⟩:=h;exact ⟨g,l,c,by rw [v];exact f,n⟩
 |drow e d fe xs A=>
  have s:φ' j=φ i:=by
   replace u:=u.resolve_left (by simp [Ent.plain])
   generalize φ' j=a at *;generalize φ i=b at *;cases a;cases b;simp_all
  obtain ⟨B,o,f,n,p,q,r⟩:=h;simp only [Ent.ren,EntR,s];exact ⟨B,o,f,n,p,q,r.renS T x⟩
 |pmap k D d m A=>
  have s:φ' j=φ i:=by
   replace u:=u.resolve_left (by simp [Ent.plain])
   generalize φ' j=a at *;generalize φ i=b at *;cases a;cases b;simp_all
  obtain ⟨g,l,c,C,f,n,p,q,r⟩:=h;simp only [Ent.ren,EntR,s];exact ⟨g,l,c,C,f,n,p,q.renS T x,r⟩
 |hid=>exact ⟨v.trans h.1,(u.resolve_left (by simp [Ent.plain])).trans h.2⟩
 |gone=>trivial
def EntR.ren {ρ i e} (h:EntR T w S φ i e) {j} (p:φ' j=φ i) (r: ∀k∈e.cellIds,φ' (ρ k)=φ k):EntR T w S φ' j (e.ren ρ):=by
 cases e with
 |blk e cs=>obtain ⟨g,c,a,b,n,o⟩:=h;exact ⟨g,c,by rw [p];exact a,b,n,o.ren T r⟩
 |row e t xs=>obtain ⟨B,f,a,b,n,o,q⟩:=h;simp only [Ent.ren,EntR,p];exact ⟨B,f,a,b,n,o,q⟩
 |map k es=>obtain ⟨g,l,c,a,b,n,o,q⟩:=h;exact ⟨g,l,c,by rw [p];exact a,b,n,o.ren T r,q⟩
 |tmap k t m=>obtain ⟨g,l,c,a,b⟩:=h;exact ⟨g,l,c,by rw [p];exact a,b⟩
 |drow e d fe xs u=>obtain ⟨B,f,a,b,n,o,q⟩:=h;simp only [Ent.ren,EntR,p];exact ⟨B,f,a,b,n,o,q.renS T fun k s=>RSame.of (r k s)⟩
 |pmap k x d m u=>obtain ⟨g,l,c,v,a,b,n,o,q⟩:=h;simp only [Ent.ren,EntR,p];exact ⟨g,l,c,v,a,b,n,o.renS T fun k s=>RSame.of (r k s),q⟩
 |hid=>exact ⟨by rw [p];exact h.1,by rw [p];exact h.2⟩
 |gone=>trivial
end
end Go.X
namespace Go.X
open Go.RowKit Go.V
section
variable {T:Tab} {P:Program} {C:Ctx T} {R:Type} {r:R} {H:List (Ent T.U)} {o:Oper}
abbrev Det (f: {R:Type}->(AV T.U->Option R)->Option R) (K:AV T.U->Option R) (r:R):Prop:= ∃a,K a=some r/\ ∀ {c:Type} (b:AV T.U->Option c),f b=b a
def vk3 {c:Bool} {x y:AV T.U} {K:AV T.U->Option R} (h:jc9 c x y K=some r):Det (fun K=>jc9 c x y K) K r:=by
 unfold jc9 at h;split at h
 ·rename_i z a;exact ⟨z,h,fun d=>by simp only [jc9,a]⟩
 ·rename_i a;split at h
  ·rename_i e;by_cases b:c=true
   ·rw [if_pos b] at h;exact ⟨x,h,fun d=>by simp only [jc9,a,e,if_pos b]⟩
   ·rw [if_neg b] at h;exact ⟨y,h,fun d=>by simp only [jc9,a,e,if_neg b]⟩
  ·cases h
def vt0 {b x y K} (h:divA T b x y K=some r):Det (fun K=>divA T b x y K) K r:=by
 unfold divA at h;split at h
 ·split at h
  ·rename_i c;unfold divA.divI at h;obtain ⟨a,h⟩:=ya9 h;exact ⟨_,h,fun d=>by simp only [divA,c,divA.divI,if_neg a]⟩
  ·cases h
 ·split at h
  ·rename_i c;unfold divA.remI at h;obtain ⟨a,h⟩:=ya9 h;exact ⟨_,h,fun d=>by simp only [divA,c,divA.remI,if_neg a]⟩
  ·cases h
 ·unfold divA.shlI at h;obtain ⟨a,h⟩:=ya9 h;exact ⟨_,h,fun d=>by simp only [divA,divA.shlI,if_neg a]⟩
 ·unfold divA.shrI at h;obtain ⟨a,h⟩:=ya9 h;exact ⟨_,h,fun d=>by simp only [divA,divA.shrI,if_neg a]⟩
 ·cases h
def vm8 {s:ByteArray} {j:Int} {K:Int->Option R} (h:qd7 s j K=some r): ∃a,K a=some r/\ ∀ {R':Type} (K':Int->Option R'),qd7 s j K'=K' a:=by
 unfold qd7 at h;split at h
 ·rename_i b hb;exact ⟨_,h,fun K'=>by simp only [qd7,hb]⟩
 ·cases h
def qs3 {t s j K} (h:ya3 T P t H s j K=some r):Det (fun K=>ya3 T P t H s j K) K r:=by
 unfold ya3 at h;split at h
 ·split at h
  ·rename_i b;obtain ⟨a,h⟩:=v6 h;exact ⟨_,h,fun e=>by simp only [ya3,b,if_pos a]⟩
  ·cases h
 ·split at h
  ·rename_i c;split at h
   ·rename_i b;obtain ⟨a,h⟩:=v6 h;exact ⟨_,h,fun e=>by simp only [ya3,c,b,if_pos a]⟩
   ·cases h
  ·cases h
 ·split at h
  ·rename_i c;split at h
   ·rename_i b d;obtain ⟨a,h⟩:=v6 h;obtain ⟨g,h⟩:=v6 h;exact ⟨_,h,fun e=>by simp only [ya3,c,b,d,if_pos a,if_pos g]⟩
   ·cases h
  ·rename_i c;split at h
   ·rename_i s d;split at h
    ·rename_i f;obtain ⟨a,h⟩:=v6 h;exact ⟨_,h,fun e=>by simp only [ya3,c,d,f,if_pos a]⟩
    ·cases h
   ·cases h
  ·cases h
 ·split at h
  ·rename_i s d;split at h
   ·rename_i f;obtain ⟨a,h⟩:=v6 h;exact ⟨_,h,fun e=>by simp only [ya3,d,f,if_pos a]⟩
   ·cases h
  ·cases h
 ·cases h
def qv3 {t:TypeId} {s:AV T.U} {lo hi:Option Int} {K:AV T.U->Option R} (h:ye2 T P t H s lo hi K=some r):Det (fun K=>ye2 T P t H s lo hi K) K r:=by
 unfold ye2 at h;split at h
 ·simp only at h;split at h
  ·rename_i he;obtain ⟨h0,h⟩:=v6 h;exact ⟨_,h,fun K'=>by simp only [ye2,he,if_pos h0]⟩
  ·cases h
 ·split at h
  ·rename_i hi;simp only at h;split at h
   ·rename_i he;obtain ⟨h0,h⟩:=v6 h;exact ⟨_,h,fun K'=>by simp only [ye2,hi,he,if_pos h0]⟩
   ·cases h
  ·cases h
 ·split at h
  ·rename_i hi;simp only at h;split at h
   ·rename_i he hs;obtain ⟨h0,h⟩:=v6 h;exact ⟨_,h,fun K'=>by simp only [ye2,hi,he,hs,if_pos h0]⟩
   ·cases h
  ·cases h
 ·simp only at h;split at h
  ·rename_i he;split at h
   ·rename_i hb;obtain ⟨h0,h⟩:=v6 h;exact ⟨_,h,fun K'=>by simp only [ye2,he,hb,if_pos h0]⟩
   ·cases h
  ·cases h
 ·cases h
def vl2 {st:St T} {K:AV T.U->Option R} (h:zr9 P o st K=some r):Det (fun K=>zr9 P o st K) K r:=by
 unfold zr9 at h;split at h
 ·rename_i a ha;split at h
  ·rename_i hm;exact ⟨a,h,fun K'=>by simp only [zr9,ha,hm]⟩
  ·cases h
 ·rename_i hp;split at h
  ·rename_i hop;rw [hop] at hp;split at h
   ·rename_i hc hx hy;obtain ⟨a,h1,h2⟩:=vk3 h;exact ⟨a,h1,fun K'=>by simp only [zr9,hp,hop,hc,hx,hy];exact h2 K'⟩
   ·cases h
  ·rename_i hop;rw [hop] at hp;split at h
   ·rename_i hx hy;obtain ⟨a,h1,h2⟩:=vt0 h;exact ⟨a,h1,fun K'=>by simp only [zr9,hp,hop,hx,hy];exact h2 K'⟩
   ·cases h
  ·rename_i hop;rw [hop] at hp;split at h
   ·rename_i hx;split at h
    ·rename_i a hl;exact ⟨a,h,fun K'=>by simp only [zr9,hp,hop,hx,hl]⟩
    ·cases h
   ·cases h
  ·rename_i hop;rw [hop] at hp;split at h
   ·rename_i hs hd hx;split at h
    ·rename_i he;obtain ⟨xs,h1,h2⟩:=ji1 (t:=.list (.int .u8)) h;exact ⟨_,h1,fun K'=>by simp only [zr9,hp,hop,hs,hd,hx,he];exact h2 _⟩
    ·cases h
   ·cases h
  ·rename_i hop;rw [hop] at hp;split at h
   ·rename_i hu hx hy;obtain ⟨a,h1,h2⟩:=vm8 h;exact ⟨_,h1,fun K'=>by simp only [zr9,hp,hop,hu,hx,hy];exact h2 _⟩
   ·cases h
  ·rename_i hop;rw [hop] at hp;split at h
   ·rename_i hx hy;obtain ⟨a,h1,h2⟩:=qs3 h;exact ⟨a,h1,fun K'=>by simp only [zr9,hp,hop,hx,hy];exact h2 K'⟩
   ·cases h
  ·rename_i hop;rw [hop] at hp;split at h
   ·rename_i l m hx hl hh;split at h
    ·cases h
    ·rename_i hn;obtain ⟨a,h1,h2⟩:=qv3 h;refine ⟨a,h1,fun K'=>?_⟩;simp only [zr9,hp,hop,hx,hl,hh]
     try exact h2 K'
     all_goals first|exact h2 K'|(split<;>first|exact h2 K'|exact absurd rfl (by simp_all))
   ·cases h
  ·rename_i hop;rw [hop] at hp;split at h
   ·rename_i a hx;split at h
    ·rename_i b hb;split at h
     ·rename_i hn;exact ⟨b,h,fun K'=>by simp only [zr9,hp,hop,hx,hb,hn]⟩
     ·cases h
    ·cases h
   ·cases h
  ·rename_i c hop;rw [hop] at hp;split at h
   ·cases h
   ·rename_i aS has;split at h
    ·rename_i hc;split at h
     ·rename_i a t hat;split at h
      ·rename_i z hz;exact ⟨_,h,fun K'=>by simp only [zr9,hp,hop,has,hc,hat,hz]⟩
      ·rename_i hz;split at h
       ·rename_i z hz2;exact ⟨_,h,fun K'=>by simp only [zr9,hp,hop,has,hc,hat,hz,hz2]⟩
       ·cases h
     ·cases h
    ·rename_i hc;split at h
     ·rename_i a ha;exact ⟨_,h,fun K'=>by simp only [zr9,hp,hop,has,hc,ha]⟩
     ·cases h
    ·rename_i hc;split at h
     ·rename_i a ha;exact ⟨_,h,fun K'=>by simp only [zr9,hp,hop,has,hc,ha]⟩
     ·cases h
    ·cases h
  ·cases h
def qs4 {n sz s j K} (h:yd4 T n sz H s j K=some r):Det (fun K=>yd4 T n sz H s j K) K r:=by
 unfold yd4 at h;split at h
 ·split at h
  ·rename_i c;split at h
   ·rename_i g;split at h
    ·rename_i d;split at h
     ·rename_i b;obtain ⟨a,h⟩:=v6 h;exact ⟨_,h,fun e=>by simp only [yd4,c,g,d,b,if_pos a]⟩
     ·cases h
    ·rename_i d;obtain ⟨a,h⟩:=v6 h;exact ⟨_,h,fun e=>by simp only [yd4,c,g,d,if_pos a]⟩
   ·cases h
  ·cases h
 ·split at h
  ·rename_i b;obtain ⟨a,h⟩:=v6 h;obtain ⟨f,h⟩:=v6 h;exact ⟨_,h,fun e=>by simp only [yd4,b,if_pos a,if_pos f]⟩
  ·cases h
 ·split at h
  ·rename_i c;split at h
   ·rename_i b;obtain ⟨a,h⟩:=v6 h;obtain ⟨f,h⟩:=v6 h;exact ⟨_,h,fun e=>by simp only [yd4,c,b,if_pos a,if_pos f]⟩
   ·cases h
  ·cases h
 ·cases h
def qv4 {n sz:Nat} {s:AV T.U} {lo hi:Option Int} {K:AV T.U->Option R} (h:yo7 T n sz H s lo hi K=some r):Det (fun K=>yo7 T n sz H s lo hi K) K r:=by
 unfold yo7 at h;simp only at h;split at h
 ·split at h
  ·rename_i hi;split at h
   ·rename_i hl;split at h
    ·rename_i ha;split at h
     ·rename_i hb;obtain ⟨h0,h⟩:=v6 h;exact ⟨_,h,fun K'=>by simp only [yo7,hi,hl,ha,hb,if_pos h0]⟩
     ·cases h
    ·cases h
   ·cases h
  ·cases h
 ·split at h
  ·rename_i hb;obtain ⟨h0,h⟩:=v6 h;obtain ⟨h1,h⟩:=v6 h;exact ⟨_,h,fun K'=>by simp only [yo7,hb,if_pos h0,if_pos h1]⟩
  ·cases h
 ·cases h
def qq4 {n sz s K} (h:yn0 T n sz H s K=some r):Det (fun K=>yn0 T n sz H s K) K r:=by
 unfold yn0 at h;split at h
 ·split at h
  ·rename_i a;obtain ⟨b,h⟩:=v6 h;exact ⟨_,h,fun c=>by simp only [yn0,a,if_pos b]⟩
  ·cases h
 ·split at h
  ·rename_i d;split at h
   ·rename_i a;obtain ⟨b,h⟩:=v6 h;exact ⟨_,h,fun c=>by simp only [yn0,d,a,if_pos b]⟩
   ·cases h
  ·cases h
 ·cases h
def vj0 {n sz f s g K} (h:yl6 T n sz f H s K (j5 g K)=some r):Det (fun K=>yl6 T n sz f H s K (j5 g K)) K r:=by
 unfold yl6 at h;split at h
 ·split at h
  ·rename_i b;obtain ⟨d,h⟩:=v6 h;exact ⟨_,h,fun c=>by simp only [yl6,b,if_pos d]⟩
  ·rename_i b;obtain ⟨a,rfl,h⟩:=za7 h;exact ⟨a,h,fun c=>by simp only [yl6,b,j5]⟩
 ·split at h
  ·rename_i e;split at h
   ·rename_i b;obtain ⟨d,h⟩:=v6 h;exact ⟨_,h,fun c=>by simp only [yl6,e,b,if_pos d]⟩
   ·rename_i b;obtain ⟨a,rfl,h⟩:=za7 h;exact ⟨a,h,fun c=>by simp only [yl6,e,b,j5]⟩
  ·rename_i e;obtain ⟨a,rfl,h⟩:=za7 h;refine ⟨a,h,fun c=>?_⟩;simp only [yl6];rfl
 ·rename_i i j;obtain ⟨a,rfl,h⟩:=za7 h;refine ⟨a,h,fun c=>?_⟩;unfold yl6;split
  ·exact absurd rfl (i _ _ _ _)
  ·exact absurd rfl (j _ _ _ _)
  ·rfl
def qs5 {n sz s j K} (h:yo2 T n sz s j K=some r):Det (fun K=>yo2 T n sz s j K) K r:=by
 unfold yo2 at h;split at h
 ·split at h
  ·rename_i a;obtain ⟨b,h⟩:=v6 h;exact ⟨_,h,fun c=>by simp only [yo2,a,if_pos b]⟩
  ·cases h
 ·split at h
  ·rename_i a d;obtain ⟨b,h⟩:=v6 h;exact ⟨_,h,fun c=>by simp only [yo2,a,d,if_pos b]⟩
  ·cases h
 ·cases h
def js9 {e z x K}: ∀ {es},jc7 T e z x K es=some r->Det (fun K=>jc7 T e z x K es) K r
 | [],h=>⟨_,h,fun c=>rfl⟩
 |(y,a)::es,h=>by
  unfold jc7 at h;split at h
  ·rename_i d;exact ⟨_,h,fun c=>by simp only [jc7,if_pos d]⟩
  ·rename_i d;obtain ⟨b,f,g⟩:=js9 h;exact ⟨b,f,fun c=>by simp only [jc7,if_neg d];exact g c⟩
def vj1 {t d m e x K} (h:jg0 T P t d H m e x K=some r):Det (fun K=>jg0 T P t d H m e x K) K r:=by
 unfold jg0 at h;split at h
 ·rename_i f;split at h
  ·rename_i a;split at h
   ·rename_i c i;obtain ⟨b,j,k⟩:=js9 h;exact ⟨b,j,fun g=>by simp only [jg0,f,a,c,i];exact k g⟩
   ·cases h
  ·rename_i a;split at h
   ·rename_i c;exact ⟨_,h,fun g=>by simp only [jg0,f,a,c]⟩
   ·cases h
  ·cases h
 ·cases h
def vl3 {st:St T} {K:AV T.U->Option R} (h:ym5 P o st K=some r):Det (fun K=>ym5 P o st K) K r:=by
 unfold ym5 at h;split at h
 ·rename_i c;split at h
  ·rename_i d f j;obtain ⟨a,e,g⟩:=qs4 h;exact ⟨a,e,fun i=>by simp only [ym5,c,d,f,j];exact g i⟩
  ·cases h
 ·rename_i c;split at h
  ·rename_i d f j k;obtain ⟨a,e,g⟩:=qs5 h;exact ⟨a,e,fun i=>by simp only [ym5,c,d,f,j,k];exact g i⟩
  ·cases h
 ·rename_i c;split at h
  ·rename_i d f l m;obtain ⟨a,e,g⟩:=qv4 h;exact ⟨a,e,fun i=>by simp only [ym5,c,d,f,l,m];exact g i⟩
  ·cases h
 ·rename_i c;split at h
  ·rename_i d f;obtain ⟨a,e,g⟩:=qq4 h;exact ⟨a,e,fun i=>by simp only [ym5,c,d,f];exact g i⟩
  ·cases h
 ·rename_i c;split at h
  ·rename_i d f;obtain ⟨a,e,g⟩:=vj0 h;exact ⟨a,e,fun i=>by simp only [ym5,c,d,f];exact g i⟩
  ·cases h
 ·rename_i c;split at h
  ·rename_i a f;split at h
   ·rename_i n;exact ⟨a,h,fun i=>by simp only [ym5,c,f,n]⟩
   ·cases h
  ·cases h
 ·rename_i c;split at h
  ·rename_i p f;obtain ⟨b,e,g⟩:=vj1 h;simp only at e;split at e
   ·rename_i q;exact ⟨b,e,fun i=>by simp only [ym5,c,p,f];refine (g _).trans ?_;simp only [q]⟩
   ·cases e
  ·cases h
 ·cases h
def vl1 {st:St T} {K:AV T.U->Option R} (h:zy0 P o st K=some r):Det (fun K=>zy0 P o st K) K r:=by
 unfold zy0 at h;split at h
 ·rename_i b;obtain ⟨a,c,d⟩:=vl3 h;exact ⟨a,c,fun e=>by simp only [zy0,b];exact d e⟩
 ·rename_i b;obtain ⟨a,c,d⟩:=vl2 h;exact ⟨a,c,fun e=>by simp only [zy0,b];exact d e⟩
def wrA (C:Ctx T) (o:Oper) (st:St T):List Nat:=
 match o.op with
 | .store _ x _=>match aev T st.F x with|some a=>a.ids|none=> []
 | .insert _ m _ _=>match aev T st.F m with|some a=>a.ids|none=> []
 | .mapUpdate _ m _ _=>match aev T st.F m with|some a=>a.ids|none=> []
 | .convert _ d x=>match C.ty d,aev T st.F x with|some _,some a=>a.ids|_,_=> []
 | .call c=>match zp2 T st.F c.args.toList with
  |none=> []
  |some aS=>match c.callee with
   | .value f=>match aev T st.F f with
    |some (.fn (.func g) first caps)=>(match qb4 C.E g with|some cs=>cs.wr (first++aS++caps) st.H|none=> [])
    |_=> []
   | .builtin .append=>match aS with|s::_=>s.ids| []=> []
   | .builtin .clear=>match aS with|s::_=>s.ids| []=> []
   | .builtin .delete=>match aS with|s::_=>s.ids| []=> []
   |_=> []
 |_=> []
def Keeps.refl (l:List Nat):Keeps T l H H:=⟨W8 _,fun _ _ _=>rfl,fun _ _ _ ys _ h=>⟨ys,h⟩⟩
def Keeps.app {l es}:Keeps T l H (H++es):=
 ⟨by simp,fun e a _=>X8 a,fun e ty t ys a h=>⟨ys,by rwa [X8 a] at h⟩⟩
def Keeps.set {l i x} (c:i∈l) (d: ∀(ty:TypeId) (t:Ty) (ys:List (den T.U t)),x=.row ty t ys-> ∃xs,H[i]?=some (.row ty t xs)):Keeps T l H (H.set i x):=by
 refine ⟨by simp,fun e b f=>?_,fun e ty t ys b h=>?_⟩
 ·rw [Z5 (fun g:i=e=>f (g▸c))]
 ·by_cases a:i=e
  ·subst a;rw [Q0 b] at h;simp only [X0] at h;exact d ty t ys h
  ·rw [Z5 a] at h;exact ⟨ys,h⟩
def Keeps.setApp {l i x es} (h:Keeps T l H (H.set i x)):Keeps T l H (H.set i x++es):=by
 refine ⟨by simp,fun e a c=>?_,fun e ty t ys a b=>?_⟩
 ·rw [X8 (by simpa using a)];exact h.same e a c
 ·rw [X8 (by simpa using a)] at b;exact h.row e ty t ys a b
def jv9 {t p a H1} (h:jd8 T P t H p a=some H1):Keeps T p.ids H H1:=by
 unfold jd8 at h;split at h
 ·split at h
  ·rename_i i o0 e cs b;split at h
   ·simp only [X0] at h;subst h;exact .set (by simp [AV.ids]) fun _ _ _ h=>by cases h
   ·cases h
  ·cases h
 ·split at h
  ·split at h
   ·split at h
    ·simp only [X0] at h;subst h;exact .set (by simp [AV.ids]) fun _ _ _ h=>by cases h
    ·cases h
   ·cases h
  ·cases h
 ·split at h
  ·rename_i i o0 c d e ty xs b;split at h
   ·split at h
    ·rename_i y f;simp only [X0] at h;subst h;refine .set (by simp [AV.ids]) fun ty' g ys h=>?_;simp only [Ent.row.injEq] at h;obtain ⟨rfl,rfl,_⟩:=h;exact ⟨xs,b⟩
    ·cases h
   ·cases h
  ·cases h
 ·cases h
def jf3 {t m b x a H1} (h:kb7 T P t H m b x a=some H1):Keeps T m.ids H H1:=by
 unfold kb7 at h;split at h
 ·split at h
  ·split at h
   ·simp only [X0] at h;subst h;exact .set (by simp [AV.ids]) fun _ _ _ h=>by cases h
   ·cases h
  ·split at h
   ·simp only [X0] at h;subst h;exact .set (by simp [AV.ids]) fun _ _ _ h=>by cases h
   ·cases h
  ·cases h
 ·cases h
def qr3 {t m a x H1} (h:kj6 T P t H m a x=some H1):Keeps T m.ids H H1:=by
 unfold kj6 at h;split at h<;>try (cases h;done)
 split at h<;>try (cases h;done)
 all_goals
  split at h<;>try (cases h;done)
  simp only [X0] at h;subst h;exact .set (by simp [AV.ids]) fun _ _ _ h=>by cases h
abbrev gd0 (f: {R:Type}->(AV T.U->List (Ent T.U)->Option R)->Option R) (K:AV T.U->List (Ent T.U)->Option R) (l:List Nat) (H:List (Ent T.U)) (r:R):Prop:=
 ∃a H1,K a H1=some r/\Keeps T l H H1/\ ∀ {c:Type} (b:AV T.U->List (Ent T.U)->Option c),f b=b a H1
def vy8 {R:Type} {r:R} {ty:Ty} {a:AV T.U} {K:List (den T.U ty)->Option R} (h:appA.rowX T ty H a K=some r): ∃xs,K xs=some r/\ ∀ {R':Type} (K':List (den T.U ty)->Option R'),appA.rowX T ty H a K'=K' xs:=by
 unfold appA.rowX at h;split at h
 ·rename_i hy;exact ⟨_,h,fun K'=>by simp only [appA.rowX,hy]⟩
 ·rename_i hy;split at h<;>try (cases h;done)
  split at h<;>try (cases h;done)
  rename_i hi;split at h<;>try (cases h;done)
  rename_i hsz;split at h<;>try (cases h;done)
  rename_i ht;split at h<;>try (cases h;done)
  rename_i hle;exact ⟨_,h,fun K'=>by simp only [appA.rowX,hy,hi,hsz,dif_pos ht,if_pos hle]⟩
def vy7 {R:Type} {r:R} {ty:Ty} {a:AV T.U} {K:List (den T.U ty)->Option R} (h:appA.rowB T ty H a K=some r): ∃xs,K xs=some r/\ ∀ {R':Type} (K':List (den T.U ty)->Option R'),appA.rowB T ty H a K'=K' xs:=by
 unfold appA.rowB at h;split at h
 ·split at h
  ·rename_i hi;split at h
   ·rename_i hsz;split at h
    ·rename_i ht;split at h
     ·rename_i hle;exact ⟨_,h,fun K'=>by simp only [appA.rowB,hi,hsz,dif_pos ht,if_pos hle]⟩
     ·cases h
    ·cases h
   ·cases h
  ·cases h
 ·rename_i hn;split at h
  ·rename_i hx;refine ⟨_,h,fun K'=>?_⟩;unfold appA.rowB;split
   ·exact (hn _ _ _ _ rfl).elim
   ·simp only [hx]
  ·cases h
def vr2 {ty:Ty} {t:TypeId} {s x:AV T.U} {K:AV T.U->List (Ent T.U)->Option R} (h:appA T P ty t H s x K=some r):gd0 (fun K=>appA T P ty t H s x K) K s.ids H r:=by
 unfold appA at h;split at h
 ·rename_i he;split at h
  ·rename_i hb;obtain ⟨xs,h,hx⟩:=vy7 h;obtain ⟨ys,h,hd⟩:=vy8 h;obtain ⟨h0,h⟩:=v6 h;refine ⟨_,_,h,?_,fun K'=>by simp only [appA,he,hb,hx,hd,if_pos h0]⟩;unfold appA.goneA;split
   ·exact (Keeps.set (by simp [AV.ids]) fun _ _ _ h=>by cases h).setApp
   ·exact (Keeps.set (by simp [AV.ids]) fun _ _ _ h=>by cases h).setApp
   ·exact .app
  ·cases h
 ·cases h
def vj5 {ty:Ty} {t:TypeId} {l c:Int} {K:AV T.U->List (Ent T.U)->Option R} (h:jp2 T P ty t H l c K=some r) (w:List Nat):gd0 (fun K=>jp2 T P ty t H l c K) K w H r:=by
 unfold jp2 at h;split at h
 ·rename_i he;split at h
  ·rename_i hs hz;split at h
   ·rename_i hx;obtain ⟨h0,h⟩:=v6 h;exact ⟨_,_,h,.app,fun K'=>by simp only [jp2,he,hs,hz,hx,if_pos h0]⟩
   ·cases h
  ·cases h
 ·cases h
def qq9 {t s K} (h:yn4 T P t H s K=some r):gd0 (fun K=>yn4 T P t H s K) K s.ids H r:=by
 unfold yn4 at h;split at h<;>try (cases h;done)
 ·split at h<;>try (cases h;done)
  rename_i a b;exact ⟨_,_,h,.set (by simp [AV.ids]) (fun ty' c ys h=>by cases h),fun d=>by simp only [yn4,a,b]⟩
 split at h<;>try (cases h;done)
 rename_i a;split at h<;>try (cases h;done)
 rename_i e;split at h<;>try (cases h;done)
 rename_i f g;split at h<;>try (cases h;done)
 rename_i i;obtain ⟨j,h⟩:=v6 h;refine ⟨_,_,h,.set (by simp [AV.ids]) fun ty' c ys h=>?_,fun d=>by simp only [yn4,a,e,f,g,i,if_pos j]⟩;simp only [Ent.row.injEq] at h;obtain ⟨rfl,rfl,_⟩:=h;exact ⟨_,a⟩
def vh0 (hE:za0 T P C.E) {c:Call} (hop:o.op=.call c) {st:St T} {K Kp:AV T.U->List (Ent T.U)->Option R} (h:yk7 P C c st K Kp=some r):
  (∃a H1,K a H1=some r/\Keeps T (wrA C o st) st.H H1/\ ∀ {R':Type} (K' Kp':AV T.U->List (Ent T.U)->Option R'),yk7 P C c st K' Kp'=K' a H1)\/ ∃a H1,Kp a H1=some r/\Keeps T (wrA C o st) st.H H1/\ ∀ {R':Type} (K' Kp':AV T.U->List (Ent T.U)->Option R'),yk7 P C c st K' Kp'=Kp' a H1:=by
 unfold yk7 at h;split at h
 ·cases h
 ·rename_i aS has;split at h
  ·rename_i f hc;split at h
   ·rename_i g first caps hf
    split at h
    ·rename_i cs he hcs;split at h
     ·rename_i hall;rcases (hE g cs hcs).2.2 _ _ _ _ _ h with ⟨a,H1,h1,h2,h3⟩|⟨a,H1,h1,h2,h3⟩
      ·refine .inl ⟨a,H1,h1,?_,fun K' Kp'=>by simp only [yk7,has,hc,hf,he,hcs,hall,h3]⟩;have:wrA C o st=cs.wr (first++aS++caps) st.H:=by simp only [wrA,hop,has,hc,hf,hcs]
       rw [this];exact h2
      ·refine .inr ⟨a,H1,h1,?_,fun K' Kp'=>by simp only [yk7,has,hc,hf,he,hcs,hall,h3]⟩;have:wrA C o st=cs.wr (first++aS++caps) st.H:=by simp only [wrA,hop,has,hc,hf,hcs]
       rw [this];exact h2
     ·cases h
    ·cases h
   ·cases h
  ·rename_i hc;split at h
   ·rename_i s x t t' hat;split at h
    ·rename_i e htt he;obtain ⟨a,H1,h1,h2,h3⟩:=vr2 h;refine .inl ⟨a,H1,h1,?_,fun K' Kp'=>by simp only [yk7,has,hc,hat,htt,he,h3]⟩;have:wrA C o st=s.ids:=by simp only [wrA,hop,has,hc]
     rw [this];exact h2
    ·cases h
   ·cases h
  ·rename_i hc;split at h
   ·rename_i s t hat;obtain ⟨a,H1,h1,h2,h3⟩:=qq9 h;refine .inl ⟨a,H1,h1,?_,fun K' Kp'=>by simp only [yk7,has,hc,hat,h3]⟩;have:wrA C o st=s.ids:=by simp only [wrA,hop,has,hc]
    rw [this];exact h2
   ·cases h
  ·rename_i hc;split at h
   ·rename_i m kx x t at2 hat;split at h<;>try (cases h;done)
    rename_i H1 hdl;refine .inl ⟨_,H1,h,?_,fun K' Kp'=>by simp only [yk7,has,hc,hat,hdl]⟩;have:wrA C o st=m.ids:=by simp only [wrA,hop,has,hc]
    rw [this];exact qr3 hdl
   ·cases h
  ·cases h
def ym7 (hE:za0 T P C.E) {st:St T} {K:St T->Option R} {Kp:AV T.U->St T->Option R} (h:stepA P C o st K Kp=some r):
  (∃a H1,K ⟨za5 T st.F o.dst a,H1⟩=some r/\Keeps T (wrA C o st) st.H H1/\ ∀ {R':Type} (K':St T->Option R') (Kp':AV T.U->St T->Option R'),stepA P C o st K' Kp'=K' ⟨za5 T st.F o.dst a,H1⟩)\/ ∃a st',Kp a st'=some r/\Keeps T (wrA C o st) st.H st'.H/\ ∀ {R':Type} (K':St T->Option R') (Kp':AV T.U->St T->Option R'),stepA P C o st K' Kp'=Kp' a st':=by
 have hread:zy0 P o st (fun a=>K ⟨za5 T st.F o.dst a,st.H⟩)=some r->(∀ {R':Type} (K':St T->Option R') (Kp':AV T.U->St T->Option R'),stepA P C o st K' Kp'=zy0 P o st fun a=>K' ⟨za5 T st.F o.dst a,st.H⟩)->
   ∃a H1,K ⟨za5 T st.F o.dst a,H1⟩=some r/\Keeps T (wrA C o st) st.H H1/\ ∀ {R':Type} (K':St T->Option R') (Kp':AV T.U->St T->Option R'),stepA P C o st K' Kp'=K' ⟨za5 T st.F o.dst a,H1⟩:=by
  intro h he;obtain ⟨a,h1,h2⟩:=vl1 h;exact ⟨a,st.H,h1,.refl _,fun K' Kp'=>by rw [he];exact h2 _⟩
 unfold stepA at h;simp only at h;split at h
 ·rename_i hop;split at h
  ·rename_i cs hz;split at h
   ·rename_i cs' hl;exact .inl ⟨_,_,h,.app,fun K' Kp'=>by simp only [stepA,hop,hz,hl]⟩
   ·cases h
  ·cases h
 ·rename_i hop;split at h
  ·rename_i a ha;split at h
   ·rename_i hok;exact .inl ⟨_,_,h,.app,fun K' Kp'=>by simp only [stepA,hop,ha,hok]⟩
   ·cases h
  ·cases h
 ·rename_i hop;split at h
  ·rename_i hmk hty;exact .inl ⟨_,_,h,.app,fun K' Kp'=>by simp only [stepA,hop,hmk,hty]⟩
  ·rename_i hmk hty;exact .inl ⟨_,_,h,.app,fun K' Kp'=>by simp only [stepA,hop,hmk,hty]⟩
  ·cases h
 ·rename_i hop;split at h
  ·rename_i hdst hm hx hv;split at h
   ·rename_i H1 hne hi;refine .inl ⟨.raw undef,H1,by rw [hdst];exact h,?_,fun K' Kp'=>by simp only [stepA,hop,hdst,hm,hx,hv,hne,hi];rfl⟩;have: ∀l,wrA C o st=l->Keeps T l st.H H1:=by
     intro l hl';rw [<-hl'];simp only [wrA,hop,hm];exact jf3 hi
    exact this _ rfl
   ·cases h
  ·cases h
 ·rename_i hop;split at h
  ·rename_i hdst hm hx hv;split at h
   ·rename_i H1 hne hi;refine .inl ⟨.raw undef,H1,by rw [hdst];exact h,?_,fun K' Kp'=>by simp only [stepA,hop,hdst,hm,hx,hv,hne,hi];rfl⟩;have: ∀l,wrA C o st=l->Keeps T l st.H H1:=by
     intro l hl';rw [<-hl'];simp only [wrA,hop,hm];exact jf3 hi
    exact this _ rfl
   ·cases h
  ·cases h
 ·rename_i hop;split at h
  ·rename_i hdst hx hy;split at h
   ·rename_i H1 hl;refine .inl ⟨.raw undef,H1,by rw [hdst];exact h,?_,fun K' Kp'=>by simp only [stepA,hop,hdst,hx,hy,hl];rfl⟩;have: ∀l,wrA C o st=l->Keeps T l st.H H1:=by
     intro l hl';rw [<-hl'];simp only [wrA,hop,hx];exact jv9 hl
    exact this _ rfl
   ·cases h
  ·cases h
 ·rename_i hop;split at h
  ·rename_i hx hy he;obtain ⟨a,H1,h1,h2,h3⟩:=vj5 h (wrA C o st);exact .inl ⟨a,H1,h1,h2,fun K' Kp'=>by simp only [stepA,hop,hx,hy,he];exact h3 _⟩
  ·cases h
 ·rename_i hop;split at h
  ·rename_i l ty hl he;split at h
   ·rename_i e xs hb;exact .inl ⟨_,_,h,.app,fun K' Kp'=>by simp only [stepA,hop,hl,he,hb]⟩
   ·cases h
  ·rename_i l hl he;split at h
   ·rename_i e sz cs hb;exact .inl ⟨_,_,h,.app,fun K' Kp'=>by simp only [stepA,hop,hl,he,hb]⟩
   ·cases h
  ·cases h
 ·rename_i c hop;split at h
  ·rename_i hr;exact .inl (hread h fun K' Kp'=>by simp only [stepA,hop,hr])
  ·rename_i hr;rcases vh0 hE hop h with ⟨a,H1,h1,h2,h3⟩|⟨a,H1,h1,h2,h3⟩
   ·exact .inl ⟨a,H1,h1,h2,fun K' Kp'=>by simp only [stepA,hop,hr];exact h3 _ _⟩
   ·exact .inr ⟨a,⟨st.F,H1⟩,h1,h2,fun K' Kp'=>by simp only [stepA,hop,hr];exact h3 _ _⟩
 ·rename_i s d x hop;split at h
  ·rename_i e b h1 h2 h3;split at h
   ·rename_i h4;exact .inl ⟨_,_,h,.refl _,fun K' Kp'=>by simp only [stepA,hop,h1,h2,h3,h4]⟩
   ·cases h
  ·rename_i e i h1 h2 h3;split at h
   ·rename_i y xs hb hty h4 h5;refine .inl ⟨_,_,h,.set (l:=wrA C o st) ?_ (fun _ _ _ h=>by cases h),fun K' Kp'=>by simp only [stepA,hop,h1,h2,h3,hb,hty,h4,h5]⟩;simp [wrA,hop,h3,hty,AV.ids]
   ·cases h
  ·rename_i hn;refine .inl (hread h fun K' Kp'=>?_);unfold stepA;simp only [hop]
 ·rename_i x hop;split at h
  ·rename_i t a ha;exact .inr ⟨_,_,h,.refl _,fun K' Kp'=>by simp only [stepA,hop,ha]⟩
  ·cases h
 ·rename_i h1 h2 h3 h4 h5 h6 h7 h8 h9 h10 h11;refine .inl (hread h fun K' Kp'=>?_);unfold stepA;simp only
end
end Go.X
namespace Go.X
open Go.RowKit Go.V
section
variable {T:Tab} {P:Program} {C:Ctx T} {w w':World} {S S':List Nat} {φ φ':Nat->RA} {w0:World} {S0:Ow} {F:AF T} {H:List (Ent T.U)} {F':PF}
variable {ops:Array Oper} {Q:Exit->Act->World->Prop} {k n:Nat} {ds:List Deferred} {o:Oper}
def Oper.wp_and {o:Oper} {a:Act} {w:World} {K K':Act->World->Prop} {Q Q':Exit->Act->World->Prop} (hK: ∀v w,K (a.put o.dst v) w->K' (a.put o.dst v) w) (hd: ∀(d:Deferred) w',K ({a with defers:=d::a.defers}.put o.dst undef) w'->False) (hQ: ∀e a w,e≠.normal->Q e a w->False)
  (h:o.wp P a w K Q):o.wp P a w K' Q':=by
 unfold Oper.wp at h⊢;generalize (execOp a.eval o).run P w=r at h⊢;unfold Oper.upon at h⊢;split at h
 ·exact hK _ _ h
 ·exact hK _ _ h
 ·exact (hd _ _ h).elim
 ·refine h.mono fun e w' hq=>?_;cases e with
  |returned v=>exact hK _ _ hq
  |panicked ch=>exact (hQ _ _ _ (by simp) hq).elim
  |outgrown=>obtain ⟨a1,w1,h1⟩:=hq;exact (hQ _ _ _ (by simp) h1).elim
 ·exact h.mono fun v w' hq=>hK _ _ hq
 ·exact (hQ _ _ _ (by simp) h).elim
 ·exact h.elim
def jl9 {o:Oper} {g a w K Q} (h:({o with guard:=g}:Oper).wp P a w K Q):o.wp P a w K Q:=h
def zu0 (J:za0 T P C.E) {c} (L:stepA P C o ⟨F,H⟩ some (fun _ _=>none)=some c) (m:zi5 n o.dst=true) (t:zb0 o=true) (p:zt2 F o=true) (h:Sim T w0 S0 ⟨F,H⟩ F' w S φ) {a} (u:Fr n ds F' a):
  o.wp P a w (fun q w'=> ∃F1,zc4 T w0 S0 c F1 w'/\Fr n ds F1 q/\ ∃v,q=a.put o.dst v) Q:=by
 let o':Oper:= {o with guard:=none}
 have D:dec #[o'] 0 n F'=some o':=by
  unfold dec;have i:zy2 #[o'] F' o'=some true:=rfl;have M:yb1 F' o'=true:=ym0 (o:=o') h.fr p;have b:zi5 n o'.dst=true:=m;have r:zb0 o'=true:=t;simp only [List.getElem?_toArray,Y4,i,M,b,r,N2]
 have x:stepA P C o' ⟨F,H⟩ some (fun _ _=>none)=some c:=by
  cases o;exact L
 have y:=zj7 (Q:=fun e q w'=>e=.normal/\ ∃F1,zc4 T w0 S0 c F1 w'/\Fr n ds F1 q) (ds:=ds) J D x h (fun st f F1 s b=>by
  simp only [X0] at f;subst f;exact WR.fin (by rfl) fun G z=>⟨rfl,F1,b,z⟩) (fun a st f=>by cases f)
 have i:=y a u;unfold wpList at i;have j:Region.wanted o' (yielded #[o'] a.tmps)=true:=by
  have:=(zk1 D).2.2.2.2 u;exact this
 have l:(#[o']:Array Oper).toList.drop 0= [o']:=rfl;rw [l] at i;simp only [j,if_true] at i;rcases i with i|⟨_,G,s,b,_⟩
 ·refine jl9 (g:=none) (Oper.wp_and (o:=o') (K:=wpList P #[o'] _ []) ?_ ?_ ?_ i)
  ·rintro v s b
   unfold wpList at b;obtain ⟨_,F1,r,A⟩:=b;exact ⟨F1,r,A,v,rfl⟩
  ·rintro d s b
   unfold wpList at b;obtain ⟨_,F1,r,A⟩:=b;have I:=A.defers;have N:({a with defers:=d::a.defers}.put o'.dst undef).defers=d::a.defers:=by cases o'.dst<;>rfl
   rw [N,u.defers] at I;exact absurd (congrArg List.length I) (by simp)
  ·rintro e G s B ⟨rfl,_⟩
   exact B rfl
 ·cases b
def Sim.frame2 (h:Sim T w0 S0 ⟨F,H⟩ F' w S φ) {tch:List Nat} {nb Fc Fc'} {H1 H2:List (Ent T.U)} {S1 B}
  (D:Sim T w ⟨tch.flatMap fun e=>(φ e).all,S,(List.range nb).map φ⟩ ⟨Fc,H1⟩ Fc' w' S1 B) (hnb:nb<=H1.length) (hl:H1.length<=H.length) (hpin:S0.pin.length<=nb)
  (J: ∀e∈tch,e<nb/\ ∃x,H[e]?=some x/\x.live=true) (hfree: ∀e,nb<=e->e<H1.length->H[e]?=some .gone) (N:H2.length=H.length)
  (h2: ∀(e:Nat) (f:Ent T.U),H2[e]?=some f->(e∈tch/\H1[e]?=some f)\/(nb<=e/\H1[e]?=some f)\/(e∉tch/\(e<nb\/H1.length<=e)/\H[e]?=some f))
  (hrow: ∀(e:Nat) (ty:TypeId) (t:Ty) (ys:List (den T.U t)),e∈tch->H1[e]?=some (.row ty t ys)-> ∃xs,H[e]?=some (.row ty t xs))
  (hFid: ∀t a,F.get T t=some a-> ∀i∈a.ids,i<nb\/H1.length<=i) (hHid: ∀(e:Nat) (f:Ent T.U),H[e]?=some f->(e<nb\/H1.length<=e)-> ∀i∈f.cellIds,i<nb\/H1.length<=i):
  ∃m,Sim T w0 S0 ⟨F,H2⟩ F' w' S1 m/\ ∀a v,VR T w' S1 B a v->(∀i∈a.ids,i<H1.length)->VR T w' S1 m a v:=by
 let m:Nat->RA:=fun i=>if i<H1.length/\(i∈tch\/nb<=i) then B i else φ i
 have hp: ∀i,i<nb->RSame (B i) (φ i):=fun i M=>(D.pins i (φ i) (by simp [M])).1;have p: ∀i,i<H1.length->(i∈tch\/nb<=i)->m i=B i:=fun i M h=>if_pos ⟨M,h⟩;have s: ∀i,i∉tch->(i<nb\/H1.length<=i)->m i=φ i:=fun i h M=>if_neg fun q=>q.2.elim h fun q2=>by have:=q.1;omega
 have hin: ∀i,i<H1.length->RSame (m i) (B i):=fun i M=>by
  by_cases h:i∈tch\/nb<=i
  ·exact .of (p i M h)
  ·rw [not_or] at h;rw [s i h.1 (by omega)];exact (hp i (by omega)).symm
 have O: ∀i,(i<nb\/H1.length<=i)->RSame (m i) (φ i):=fun i M=>by
  by_cases h:i∈tch
  ·have:=(J i h).1;rw [p i (by omega) (.inl h)];exact hp i this
  ·exact .of (s i h M)
 have hT: ∀b∈tch.flatMap (fun e=>(φ e).all),∃e∈tch,∃a,At (φ e) a/\a.block=b:=by
  intro b l;obtain ⟨e,he,l⟩:=V7.1 l;exact ⟨e,he,zo7.1 l⟩
 have hTS: ∀b∈tch.flatMap (fun e=>(φ e).all),b∈S:=by
  intro b l;obtain ⟨e,he,a,d,rfl⟩:=hT b l;obtain ⟨_,x,K,E⟩:=J e he;exact ze2 h K E d
 have hTc: ∀b∈tch.flatMap (fun e=>(φ e).all),b∈S0.chg\/w0.heap.size<=b:=by
  intro b l;obtain ⟨e,he,a,d,rfl⟩:=hT b l;obtain ⟨_,x,K,E⟩:=J e he;exact (h.lives e x K E a d).2
 have hS1: ∀b∈S1,b∈S\/w.heap.size<=b:=fun b l=>(D.own b l).1;refine ⟨m,⟨?_,?_,h.chg.step D.chg hTc,fun b l=>⟨?_,(D.own b l).2⟩,fun b l q1 q2=>D.ex b (h.ex b l q1 q2) (fun R=>(hTc b R).elim q1 fun R=>by omega) (h.own b (h.ex b l q1 q2)).2,?_,fun k r hk=>?_,?_,?_,?_⟩,fun a v hv M=>hv.phiS fun i R=>hin i (M i R)⟩
 ·intro i a d;obtain ⟨v,u,L⟩:=h.fr i a d;exact ⟨v,u,(L.chg T D.chg hTS hS1).phiS fun j hj=>O j (hFid i a d j hj)⟩
 ·intro i a d;obtain ⟨u,L⟩:=h.ids i a d;refine ⟨fun j hj=>by have:=u j hj;simp only [N] at this⊢;exact this,?_⟩;cases a with
  |eptr y sz k c=>
   intro e t xs K;have hy:=hFid i _ d y (by simp [AV.ids]);rcases h2 y _ K with ⟨V,G⟩|⟨V,G⟩|⟨_,_,G⟩
   ·obtain ⟨zs,g5⟩:=hrow y _ _ _ V G;obtain ⟨q4,q5⟩:=L _ _ _ g5;obtain ⟨_,_,_,n1,_⟩:=h.ents y _ g5;obtain ⟨_,_,_,n2,_⟩:=D.ents y _ G;rw [(hp y (J y V).1).2.1] at n2;exact ⟨by omega,q5⟩
   ·have:=(X2.1 G).1;omega
   ·exact L e t xs G
  |_=>trivial
 ·rcases (D.own b l).1 with l|l
  ·exact (h.own b l).1
  ·exact .inr (W9 h.chg.size l)
 ·intro e f hf z a d;have cal:H1[e]?=some f->At (B e) a->a.block∈S1/\(a.block∈S0.chg\/w0.heap.size<=a.block):=fun G d=>by
   refine ⟨(D.lives e f G z a d).1,?_⟩;rcases (D.lives e f G z a d).2 with R|R
   ·exact hTc _ R
   ·exact .inr (W9 h.chg.size R)
  rcases h2 e f hf with ⟨u,G⟩|⟨u,G⟩|⟨g0,u,G⟩
  ·rw [p e (X2.1 G).1 (.inl u)] at d;exact cal G d
  ·rw [p e (X2.1 G).1 (.inr u)] at d;exact cal G d
  ·rw [s e g0 u] at d;have q:=h.lives e f G z a d;refine ⟨D.ex _ q.1 (fun l=>?_) (h.own _ q.1).2,q.2⟩;obtain ⟨e',I,a',W,X⟩:=hT _ l;obtain ⟨_,x,K,E⟩:=J e' I;exact h.apart e e' f x G K z E (fun q=>g0 (q▸I)) a a' d W X.symm
 ·obtain ⟨u,L⟩:=h.pins k r hk;have hk':=(X2.1 hk).1;exact ⟨(O k (.inl (by omega))).trans u,by simp only [N] at L⊢;exact L⟩
 ·intro e f hf;have hcE:(e∈tch\/nb<=e)->H1[e]?=some f->EntR T w' S1 m e f:=fun q g=>
   (D.ents e f g).phiE (p e (X2.1 g).1 q) fun x K=>hin x (D.eids e f g x K)
  rcases h2 e f hf with ⟨q,g⟩|⟨q,g⟩|⟨u,L,V⟩
  ·exact hcE (.inl q) g
  ·exact hcE (.inr q) g
  ·have hnot:f.live=true-> ∀a,At (φ e) a->a.block∉tch.flatMap (fun e=>(φ e).all):=fun hl a d l=>by
    obtain ⟨e',I,a',W,X⟩:=hT _ l;obtain ⟨_,x,K,E⟩:=J e' I;exact h.apart e e' f x V K hl E (fun q=>u (q▸I)) a a' d W X.symm
   have h1:=(h.ents e f V).chg T D.chg hTS hS1 fun hl a d=>⟨hnot hl a d,D.ex _ (ze2 h V hl d) (hnot hl a d) (h.own _ (ze2 h V hl d)).2⟩;exact h1.phiE (s e u L) fun x K=>O x (hHid e f V L x K)
 ·intro e f hf j hj;simp only [N];rcases h2 e f hf with ⟨_,g⟩|⟨_,g⟩|⟨_,_,g⟩
  ·have:=D.eids e f g j hj;simp only at this;omega
  ·have:=D.eids e f g j hj;simp only at this;omega
  ·exact h.eids e f g j hj
 ·have side: ∀(e:Nat) (f:Ent T.U),H2[e]?=some f->(H1[e]?=some f/\m e=B e)\/(e∉tch/\H[e]?=some f/\m e=φ e):=by
   intro e f hf;rcases h2 e f hf with ⟨g0,g⟩|⟨g0,g⟩|⟨u,L,V⟩
   ·exact .inl ⟨g,p e (X2.1 g).1 (.inl g0)⟩
   ·exact .inl ⟨g,p e (X2.1 g).1 (.inr g0)⟩
   ·exact .inr ⟨u,V,s e u L⟩
  have Y: ∀(i j:Nat) (f Z:Ent T.U),H1[i]?=some f->f.live=true->j∉tch->H[j]?=some Z->Z.live=true-> ∀a b,At (B i) a->At (φ j) b->a.block≠b.block:=by
   intro i j f Z M z hj hfj A a b d l;rcases (D.lives i f M z a d).2 with R|R
   ·obtain ⟨e',I,a',W,X⟩:=hT _ R;obtain ⟨_,x,K,E⟩:=J e' I;rw [<-X];exact h.apart e' j x Z K hfj E A (fun q=>hj (q▸I)) a' b W l
   ·have:=(h.own _ (ze2 h hfj A l)).2;omega
  intro i j f Z hf hf' z A hij a b d l;rcases side i f hf with ⟨u,L⟩|⟨g0,u,L⟩<;>rcases side j Z hf' with ⟨k1,k2⟩|⟨k0,k1,k2⟩<;>rw [L] at d<;>rw [k2] at l
  ·exact D.apart i j f Z u k1 z A hij a b d l
  ·exact Y i j f Z u z k0 k1 A a b d l
  ·exact (Y j i Z f k1 A g0 u z b a l d).symm
  ·exact h.apart i j f Z u k1 z A hij a b d l
end
end Go.X
namespace Go.X
open Go.RowKit Go.V
section
variable {T:Tab} {P:Program} {C:Ctx T} {w w':World} {S S':List Nat} {φ φ':Nat->RA} {w0:World} {S0:Ow} {F:AF T} {H:List (Ent T.U)} {F':PF}
variable {ops:Array Oper} {Q:Exit->Act->World->Prop} {k n:Nat} {ds:List Deferred} {o:Oper} {R:Type} {r:R}
def qq8 (H:List (Ent T.U)) (k:Nat):List Nat:=k::match H[k]? with
 |some (.drow _ d fe _ (some (_,cs)))=>(match zw9 T H (qw1 T d) fe cs with|some (_,ids)=>ids|none=> [])
 |some (.pmap _ _ _ _ (some (_,j)))=> [j]
 |_=> []
def ya1 (C:Ctx T) (o:Oper) (F:AF T) (H:List (Ent T.U)):List Nat:=
 match o.op with
 | .store _ x y=>match aev T F x,aev T F y with
  |some p,some a=>match jy2 T H p a with|some _=>a.ids|none=> []
  |_,_=> []
 | .buildSlice t _ ps=>match C.ty t,zp2 T F (ps.toList.map Prod.snd) with|some _,some aS=>q7 aS|_,_=> []
 | .mapUpdate t _ _ v=>match C.ty t,aev T F v with|some _,some a=>a.ids|_,_=> []
 | .call c=>match c.callee,c.args.toList,c.argTypes.toList with
  | .builtin .append,[x,y],[t,_]=>match C.dr t,aev T F x,aev T F y with
   |some _,some (.own i),some (.own i2)=>qq8 H i++qq8 (zo3 T H i) i2
   |_,_,_=> []
  |_,_,_=> []
 |_=> []
def vn8 (o:Oper) (F:AF T) (H:List (Ent T.U)):List Nat:=
 match o.op with
 | .load _ x=>match aev T F x with|some (.eptr k _ _ _)=>(match H[k]? with|some (.drow _ _ _ _ _)=> [k]|_=> [])|_=> []
 | .store _ x _=>match aev T F x with|some (.eptr k _ _ _)=>(match H[k]? with|some (.drow _ _ _ _ _)=> [k]|_=> [])|_=> []
 |_=> []
def wrF (C:Ctx T) (o:Oper) (st:St T):List Nat:=wrA C o st++(ya1 C o st.F st.H++vn8 o st.F st.H)
def Keeps.sub {l m H1} (h:Keeps T l H H1) (a: ∀i∈l,i∈m):Keeps T m H H1:=⟨h.len,fun e b c=>h.same e b fun d=>c (a e d),h.row⟩
def Keeps.trans {l H1 H2} (h:Keeps T l H H1) (b:Keeps T l H1 H2):Keeps T l H H2:=
 ⟨W9 h.len b.len,fun e a c=>(b.same e (V4 a h.len) c).trans (h.same e a c),fun e ty t ys a d=>by
  obtain ⟨xs,f⟩:=b.row e ty t ys (V4 a h.len) d;exact h.row e ty t xs a f⟩
def zs5: ∀(ids:List Nat) {H:List (Ent T.U)},Keeps T ids H (zv4 T H ids)
 | [],H=>.refl _
 |i::r,H=>(Keeps.set (l:=i::r) (U3 ..) fun ty t ys e=>by cases e).trans ((zs5 r).sub fun j hj=>Z4 _ hj)
def closeAt_keeps {k:Nat}:Keeps T (qq8 H k) H (zo3 T H k):=by
 unfold zo3;split
 ·rename_i e d fe xs a cs hk;split
  ·rename_i l ids hc;split
   ·exact (Keeps.set (l:=qq8 H k) (U3 ..) fun ty t ys e=>by cases e).trans ((zs5 ids).sub fun i hi=>Z4 _ (by simp only [hk,hc];exact hi))
   ·exact .refl _
  ·exact .refl _
 ·rename_i kd be d m x j hk;split
  ·split
   ·exact (Keeps.set (l:=qq8 H k) (U3 ..) fun ty t ys e=>by cases e).trans (Keeps.set (Z4 _ (by simp only [hk];exact U3 ..)) fun ty t ys e=>by cases e)
   ·exact .refl _
  ·exact .refl _
 ·exact .refl _
def jk2 {t:Ty} {x:Operand} {st:St T} {K:St T->Option R} (h:qr7 T t x st K=some r): ∃s a y,x=.tmp s/\st.F.get T s=some a/\K ⟨(s,zo9 T t y)::st.F,zv4 T st.H a.ids⟩=some r/\ ∀ {R':Type} (K':St T->Option R'),qr7 T t x st K'=K' ⟨(s,zo9 T t y)::st.F,zv4 T st.H a.ids⟩:=by
 unfold qr7 at h;split at h<;>try (cases h;done)
 rename_i s;split at h<;>try (cases h;done)
 rename_i a ha;obtain ⟨y,h1,h2⟩:=ji1 h;exact ⟨s,a,y,rfl,ha,h1,fun K'=>by simp only [qr7,ha,h2]⟩
def yy7 {te:Ty}: ∀ {ps:List (Nat×Operand)} {st:St T} {K:St T->Option R} {l:List Nat},yu2 T te ps st K=some r->(∀x∈ps.map Prod.snd,∀a,aev T st.F x=some a-> ∀i∈a.ids,i∈l)->
  ∃st',K st'=some r/\Keeps T l st.H st'.H/\ ∀ {R':Type} (K':St T->Option R'),yu2 T te ps st K'=K' st'
 | [],st,K,l,h,_=>⟨st,h,.refl _,fun _=>rfl⟩
 |(j,x)::ps,st,K,l,h,hl=>by
  unfold yu2 at h;split at h<;>try (cases h;done)
  rename_i a ha;split at h
  ·rename_i cs hc;obtain ⟨st',h1,h2,h3⟩:=yy7 h fun y hy=>hl y (Z4 _ hy);exact ⟨st',h1,h2,fun K'=>by simp only [yu2,ha,hc];exact h3 K'⟩
  ·rename_i hc;obtain ⟨s,b,y,rfl,hb,h1,h2⟩:=jk2 h;have:b=a:=by have ha':st.F.get T s=some a:=ha;rw [hb] at ha';exact X5 ha'
   subst this;obtain ⟨st',h3,h4,h5⟩:=yy7 (l:=l) h1 fun z hz c hzc i hi=>by
    have hz':aev T st.F z=some c\/c=zo9 T te y:=by
     cases z with
     |tmp q=>
      have hzc:AF.get T ((s,zo9 T te y)::st.F) q=some c:=hzc;simp only [AF.get] at hzc;split at hzc
      ·exact .inr (X5 hzc).symm
      ·exact .inl hzc
     |const v=>exact .inl hzc
     |global g=>exact .inl hzc
     |func f=>exact .inl hzc
    rcases hz' with hz'|rfl
    ·exact hl z (Z4 _ hz) c hz' i hi
    ·rw [ju9] at hi;cases hi
   refine ⟨st',h3,((zs5 _).sub fun i hi=>hl _ (U3 ..) _ ha i hi).trans h4,fun K'=>?_⟩;simp only [yu2,ha,hc,h2];exact h5 K'
def vm3 (hE:za0 T P C.E) {st:St T} {K:St T->Option R} {Kp:AV T.U->St T->Option R} (h:zm6 P C o st K Kp=some r):
  (∃Fz a H1,K ⟨za5 T Fz o.dst a,H1⟩=some r/\Keeps T (wrF C o st) st.H H1/\ ∀ {R':Type} (K':St T->Option R') (Kp':AV T.U->St T->Option R'),zm6 P C o st K' Kp'=K' ⟨za5 T Fz o.dst a,H1⟩)\/ ∃a st',Kp a st'=some r/\Keeps T (wrF C o st) st.H st'.H/\ ∀ {R':Type} (K':St T->Option R') (Kp':AV T.U->St T->Option R'),zm6 P C o st K' Kp'=Kp' a st':=by
 have plain:stepA P C o st K Kp=some r->(∀ {R':Type} (K':St T->Option R') (Kp':AV T.U->St T->Option R'),zm6 P C o st K' Kp'=stepA P C o st K' Kp')->
   (∃Fz a H1,K ⟨za5 T Fz o.dst a,H1⟩=some r/\Keeps T (wrF C o st) st.H H1/\ ∀ {R':Type} (K':St T->Option R') (Kp':AV T.U->St T->Option R'),zm6 P C o st K' Kp'=K' ⟨za5 T Fz o.dst a,H1⟩)\/ ∃a st',Kp a st'=some r/\Keeps T (wrF C o st) st.H st'.H/\ ∀ {R':Type} (K':St T->Option R') (Kp':AV T.U->St T->Option R'),zm6 P C o st K' Kp'=Kp' a st':=by
  intro h he;rcases ym7 hE h with ⟨a,H1,h1,h2,h3⟩|⟨a,st',h1,h2,h3⟩
  ·exact .inl ⟨st.F,a,H1,h1,h2.sub fun i hi=>X4.2 (.inl hi),fun K' Kp'=>by rw [he];exact h3 K' Kp'⟩
  ·exact .inr ⟨a,st',h1,h2.sub fun i hi=>X4.2 (.inl hi),fun K' Kp'=>by rw [he];exact h3 K' Kp'⟩
 unfold zm6 at h;split at h
 ·rename_i t x y hop;split at h<;>try (cases h;done)
  rename_i p a hp ha;split at h
  ·rename_i te hc hte;split at h<;>try (cases h;done)
   rename_i hne;obtain ⟨s,b,z,rfl,hb,h1,h2⟩:=jk2 h;have:b=a:=by have ha':st.F.get T s=some a:=ha;rw [hb] at ha';exact X5 ha'
   subst this;have kp: ∀ {H1:List (Ent T.U)},Keeps T (wrA C o ⟨(s,zo9 T te z)::st.F,zv4 T st.H b.ids⟩) (zv4 T st.H b.ids) H1->Keeps T (wrF C o st) st.H H1:=by
    intro H1 h4;refine ((zs5 _).sub (m:=wrF C o st) fun i hi=>X4.2 (.inr (X4.2 (.inl ?_)))).trans (h4.sub fun i hi=>X4.2 (.inl ?_))
    ·simp only [ya1,hop,hp,ha,hte];exact hi
    ·have hx:aev T ((s,zo9 T te z)::st.F) x=aev T st.F x:=by
      cases x with
      |tmp q=>
       have hq:Nat.beq s q=false:=by simpa [qt1] using hne
       show AF.get T ((s,zo9 T te z)::st.F) q=_;simp only [AF.get,hq];rfl
      |_=>rfl
     simp only [wrA,hop,hx] at hi⊢;exact hi
   rcases ym7 hE h1 with ⟨a1,H1,h3,h4,h5⟩|⟨a1,st',h3,h4,h5⟩
   ·refine .inl ⟨_,a1,H1,h3,kp h4,fun K' Kp'=>?_⟩;simp only [zm6,hop,hp,ha,hc,hte,hne,h2];exact h5 K' Kp'
   ·refine .inr ⟨a1,st',h3,kp h4,fun K' Kp'=>?_⟩;simp only [zm6,hop,hp,ha,hc,hte,hne,h2];exact h5 K' Kp'
  ·rename_i hn;refine plain h fun K' Kp'=>?_;simp only [zm6,hop,hp,ha]
 ·rename_i t len ps hop;split at h
  ·rename_i te aS hte hps
   ·have hmem: ∀(l:List Operand) (aS:List (AV T.U)),zp2 T st.F l=some aS-> ∀x∈l,∀a,aev T st.F x=some a-> ∀i∈a.ids,i∈q7 aS:=by
     intro l;induction l with
     |nil=>intro aS _ x hx;cases hx
     |cons z q ih=>
      intro aS has x hx a ha i hi;unfold zp2 at has;split at has<;>try (cases has;done)
      rename_i b bs hb hbs;simp only [X0] at has;subst has;rw [q7];rcases Z0.1 hx with rfl|hx
      ·rw [hb] at ha;simp only [X0] at ha;subst ha;exact X4.2 (.inl hi)
      ·exact X4.2 (.inr (ih bs hbs x hx a ha i hi))
    obtain ⟨st',h1,h2,h3⟩:=yy7 (l:=q7 aS) h (hmem _ _ hps);have kp: ∀ {H1:List (Ent T.U)},Keeps T (wrA C o st') st'.H H1->Keeps T (wrF C o st) st.H H1:=by
     intro H1 h5;refine (h2.sub (m:=wrF C o st) fun i hi=>X4.2 (.inr (X4.2 (.inl ?_)))).trans (h5.sub fun i hi=>?_)
     ·simp only [ya1,hop,hte,hps];exact hi
     ·simp only [wrA,hop] at hi;cases hi
    rcases ym7 hE h1 with ⟨a1,H1,h4,h5,h6⟩|⟨a1,st2,h4,h5,h6⟩
    ·refine .inl ⟨_,a1,H1,h4,kp h5,fun K' Kp'=>?_⟩;simp only [zm6,hop,hte,hps,h3];exact h6 K' Kp'
    ·refine .inr ⟨a1,st2,h4,kp h5,fun K' Kp'=>?_⟩;simp only [zm6,hop,hte,hps,h3];exact h6 K' Kp'
  ·rename_i hn;refine plain h fun K' Kp'=>?_;simp only [zm6,hop]
 ·rename_i t m x v hop;split at h
  ·rename_i te a hte ha;split at h
   ·rename_i hc;split at h<;>try (cases h;done)
    rename_i hne;obtain ⟨s,b,z,rfl,hb,h1,h2⟩:=jk2 h;have:b=a:=by have ha':st.F.get T s=some a:=ha;rw [hb] at ha';exact X5 ha'
    subst this;have kp: ∀ {H1:List (Ent T.U)},Keeps T (wrA C o ⟨(s,zo9 T te z)::st.F,zv4 T st.H b.ids⟩) (zv4 T st.H b.ids) H1->Keeps T (wrF C o st) st.H H1:=by
     intro H1 h4;refine ((zs5 _).sub (m:=wrF C o st) fun i hi=>X4.2 (.inr (X4.2 (.inl ?_)))).trans (h4.sub fun i hi=>X4.2 (.inl ?_))
     ·simp only [ya1,hop,hte,ha];exact hi
     ·have hx:aev T ((s,zo9 T te z)::st.F) m=aev T st.F m:=by
       cases m with
       |tmp q=>
        have hq:Nat.beq s q=false:=by
         rw [X3] at hne;simpa [qt1] using hne.1
        show AF.get T ((s,zo9 T te z)::st.F) q=_;simp only [AF.get,hq];rfl
       |_=>rfl
      simp only [wrA,hop,hx] at hi⊢;exact hi
    rcases ym7 hE h1 with ⟨a1,H1,h3,h4,h5⟩|⟨a1,st',h3,h4,h5⟩
    ·refine .inl ⟨_,a1,H1,h3,kp h4,fun K' Kp'=>?_⟩;simp only [zm6,hop,hte,ha,hc,hne,h2];exact h5 K' Kp'
    ·refine .inr ⟨a1,st',h3,kp h4,fun K' Kp'=>?_⟩;simp only [zm6,hop,hte,ha,hc,hne,h2];exact h5 K' Kp'
   ·rename_i cs hc;refine plain h fun K' Kp'=>?_;simp only [zm6,hop,hte,ha,hc]
  ·rename_i hn;refine plain h fun K' Kp'=>?_;simp only [zm6,hop]
 ·rename_i hn1 hn2 hn3;refine plain h fun K' Kp'=>?_;unfold zm6;split
  ·rename_i hop;exact (hn1 _ _ _ hop).elim
  ·rename_i hop;exact (hn2 _ _ _ hop).elim
  ·rename_i hop;exact (hn3 _ _ _ _ hop).elim
  ·rfl
def openH_keeps {k e d fe xs a}:Keeps T [k] H (yi3 T H k e d fe xs a):=by
 refine ⟨by unfold yi3;simp,fun i f g=>?_,fun i ty t ys f b=>?_⟩
 ·unfold yi3;rw [X8 (by simpa using f),Z5 (fun q=>g (by simp [q]))]
 ·unfold yi3 at b;rw [X8 (by simpa using f)] at b;by_cases c:i=k
  ·subst c;rw [Q0 f] at b;cases b
  ·rw [Z5 (Ne.symm c)] at b;exact ⟨ys,b⟩
def ju3 {k e d fe xs a}:Keeps T [k] H (H.set k (.drow e d fe xs a)):=
 Keeps.set (U3 ..) fun ty t ys e=>by cases e
def vi9 {t:TypeId} {k sz a c:Nat} {e:TypeId} {d:Nat} {fe:List TypeId} {xs:List (T.U d)} {op:Option (Nat×List (AV T.U))} {K:AV T.U->List (Ent T.U)->Option R} (h:yq3 P t H k sz a c e d fe xs op K=some r):
  ∃u H1,K u H1=some r/\Keeps T [k] H H1/\ ∀ {R':Type} (K':AV T.U->List (Ent T.U)->Option R'),yq3 P t H k sz a c e d fe xs op K'=K' u H1:=by
 unfold yq3 at h;split at h<;>try (cases h;done)
 rename_i hsz;split at h
 ·split at h<;>try (cases h;done)
  rename_i v hl;split at h
  ·rename_i hn;obtain ⟨ha,hK⟩:=v6 h;exact ⟨v,H,hK,.refl _,fun K'=>by simp only [yq3,hsz,hl,hn,if_pos ha]⟩
  ·rename_i hn;split at h<;>try (cases h;done)
   rename_i u hu;split at h<;>try (cases h;done)
   rename_i hne;obtain ⟨ha,hK⟩:=v6 h;exact ⟨u,_,hK,openH_keeps,fun K'=>by simp only [yq3,hsz,hl,hn,hu,hne,if_pos ha]⟩
 ·split at h<;>try (cases h;done)
  rename_i u hu;split at h<;>try (cases h;done)
  rename_i hne;obtain ⟨ha,hK⟩:=v6 h;exact ⟨u,H,hK,.refl _,fun K'=>by simp only [yq3,hsz,hu,hne,if_pos ha]⟩
def qv7 {t:TypeId} {k sz a c:Nat} {e:TypeId} {d:Nat} {fe:List TypeId} {xs:List (T.U d)} {op:Option (Nat×List (AV T.U))} {v:AV T.U} {K:List (Ent T.U)->Option R} (h:ye3 P t H k sz a c e d fe xs op v K=some r):
  ∃H1,K H1=some r/\Keeps T [k] H H1/\ ∀ {R':Type} (K':List (Ent T.U)->Option R'),ye3 P t H k sz a c e d fe xs op v K'=K' H1:=by
 unfold ye3 at h;split at h<;>try (cases h;done)
 rename_i hsz;split at h
 ·obtain ⟨ha,hK⟩:=v6 h;exact ⟨_,hK,openH_keeps.trans ju3,fun K'=>by simp only [ye3,hsz,if_pos ha]⟩
 ·obtain ⟨ha,hK⟩:=v6 h;exact ⟨_,hK,ju3,fun K'=>by simp only [ye3,hsz,if_pos ha]⟩
def vj6 {d:Nat} {fe:List TypeId} {t:TypeId} {l c:Int} {K:AV T.U->List (Ent T.U)->Option R} (h:jp3 P d fe t H l c K=some r):
  ∃u H1,K u H1=some r/\Keeps T [] H H1/\ ∀ {R':Type} (K':AV T.U->List (Ent T.U)->Option R'),jp3 P d fe t H l c K'=K' u H1:=by
 unfold jp3 at h;split at h<;>try (cases h;done)
 rename_i he;split at h<;>try (cases h;done)
 rename_i hsz hz;split at h<;>try (cases h;done)
 rename_i hx;obtain ⟨ha,hK⟩:=v6 h;refine ⟨_,_,hK,⟨by simp,fun i hi _=>X8 hi,fun i ty t ys hi hy=>⟨ys,by rwa [X8 hi] at hy⟩⟩,fun K'=>by simp only [jp3,he,hsz,hz,hx,if_pos ha]⟩
def vm5 {st:St T} {K:St T->Option R} {z:Option R} (hz:zn7 P C o st K=some z) (h:z=some r):
  ∃a H1,K ⟨za5 T st.F o.dst a,H1⟩=some r/\Keeps T (vn8 o st.F st.H) st.H H1/\ ∀ {R':Type} (K':St T->Option R'),zn7 P C o st K'=some (K' ⟨za5 T st.F o.dst a,H1⟩):=by
 unfold zn7 at hz;split at hz<;>try (cases hz;done)
 ·rename_i t x y hop;split at hz<;>try (cases hz;done)
  rename_i hdr;obtain rfl:=X5 hz;split at h<;>try (cases h;done)
  rename_i hx hy;obtain ⟨u,H1,h1,h2,h3⟩:=vj6 h;exact ⟨u,H1,h1,h2.sub (by simp),fun K'=>by simp only [zn7,hop,hdr,hx,hy,h3]⟩
 ·rename_i t x y hop;split at hz<;>try (cases hz;done)
  rename_i hx;split at hz<;>try (cases hz;done)
  rename_i hi;obtain rfl:=X5 hz;split at h<;>try (cases h;done)
  rename_i hy hel;obtain ⟨hj,hK⟩:=js1 h;refine ⟨_,_,hK,.refl _,fun K'=>?_⟩;simp only [zn7,hop,hx,hi,hy,hel];exact congrArg some (if_pos hj)
 ·rename_i t x hop;split at hz<;>try (cases hz;done)
  rename_i hx;split at hz<;>try (cases hz;done)
  rename_i hi;obtain rfl:=X5 hz;obtain ⟨u,H1,h1,h2,h3⟩:=vi9 h;exact ⟨u,H1,h1,by simp only [vn8,hop,hx,hi];exact h2,fun K'=>by simp only [zn7,hop,hx,hi,h3]⟩
 ·rename_i t x y hop;split at hz<;>try (cases hz;done)
  rename_i hx;split at hz<;>try (cases hz;done)
  rename_i hi;obtain rfl:=X5 hz;split at h<;>try (cases h;done)
  rename_i hdst hy;obtain ⟨H1,h1,h2,h3⟩:=qv7 h;exact ⟨.raw undef,H1,by rw [hdst];exact h1,by simp only [vn8,hop,hx,hi];exact h2,fun K'=>by simp only [zn7,hop,hx,hi,hdst,hy,h3,za5]⟩
def yr3 {st:St T} {K:St T->Option R} (hz:zn7 P C o st K=none) {R':Type} (K':St T->Option R'):zn7 P C o st K'=none:=by
 unfold zn7 at hz⊢;split at hz<;>rename_i hop<;>(try simp only [hop])
 ·split at hz<;>first|(cases hz;done)|(rename_i h1;simp only [h1])
 ·split at hz
  ·rename_i h1;split at hz
   ·cases hz
   ·rename_i h2;simp only [h1];try (split<;>first|rfl|exact (h2 _ _ _ _ _ ‹_›).elim)
  ·rename_i h1;first|(split<;>first|rfl|exact (h1 _ ‹_›).elim)|rfl
 ·split at hz
  ·rename_i h1;split at hz
   ·cases hz
   ·rename_i h2;simp only [h1];try (split<;>first|rfl|exact (h2 _ _ _ _ _ ‹_›).elim)
  ·rename_i h1;first|(split<;>first|rfl|exact (h1 _ _ _ _ ‹_›).elim)|rfl
 ·split at hz
  ·rename_i h1;split at hz
   ·cases hz
   ·rename_i h2;simp only [h1];try (split<;>first|rfl|exact (h2 _ _ _ _ _ ‹_›).elim)
  ·rename_i h1;first|(split<;>first|rfl|exact (h1 _ _ _ _ ‹_›).elim)|rfl
 all_goals (split<;>simp_all)
def vm4 {st:St T} {K:St T->Option R} {z:Option R} (hz:zy1 P C o st K=some z) (h:z=some r):
  ∃a H1,K ⟨za5 T st.F o.dst a,H1⟩=some r/\Keeps T (ya1 C o st.F st.H) st.H H1/\ ∀ {R':Type} (K':St T->Option R'),zy1 P C o st K'=some (K' ⟨za5 T st.F o.dst a,H1⟩):=by
 unfold zy1 at hz;split at hz<;>try (cases hz;done)
 ·rename_i t len ps hop;split at hz<;>try (cases hz;done)
  rename_i d fe l hdr hl;obtain rfl:=X5 hz;unfold bsD at h;split at h<;>try (cases h;done)
  rename_i e sz cs h1 h2;split at h<;>try (cases h;done)
  rename_i h3;exact ⟨_,_,h,.app,fun K'=>by simp only [zy1,hop,hdr,hl,bsD,h1,h2,h3]⟩
 ·rename_i c hop;split at hz<;>try (cases hz;done)
  rename_i sx xx t t' hc ha hat;split at hz<;>try (cases hz;done)
  rename_i dr i i2 hdr hx hy;split at hz<;>try (cases hz;done)
  rename_i hb;obtain rfl:=X5 hz;have kp:Keeps T (ya1 C o st.F st.H) st.H (zo3 T (zo3 T st.H i) i2)/\i∈ya1 C o st.F st.H/\i2∈ya1 C o st.F st.H:=by
   simp only [ya1,hop,hc,ha,hat,hdr,hx,hy];exact ⟨(closeAt_keeps.sub fun j hj=>X4.2 (.inl hj)).trans (closeAt_keeps.sub fun j hj=>X4.2 (.inr hj)),X4.2 (.inl (U3 ..)),X4.2 (.inr (U3 ..))⟩
  unfold ki7 at h;split at h<;>try (cases h;done)
  rename_i h1 h2 h3;split at h<;>try (cases h;done)
  rename_i hd;split at h<;>try (cases h;done)
  rename_i h4;obtain ⟨h5,hK⟩:=v6 h;refine ⟨_,_,hK,(kp.1.trans ((Keeps.set kp.2.1 fun ty t ys e=>by cases e).trans (Keeps.set kp.2.2 fun ty t ys e=>by cases e))).trans .app,fun K'=>?_⟩;simp only [zy1,hop,hc,ha,hat,hdr,hx,hy,hb,ki7,h1,h2,h3,dif_pos hd,h4,if_pos h5]
def ji7 {st:St T} {K:St T->Option R} (hz:zy1 P C o st K=none) {R':Type} (K':St T->Option R'):zy1 P C o st K'=none:=by
 unfold zy1 at hz⊢;split at hz<;>rename_i hop<;>(try simp only [hop])
 ·split at hz
  ·cases hz
  ·first|rfl|(split<;>first|rfl|simp_all)
 ·split at hz
  ·split at hz
   ·split at hz
    ·cases hz
    ·simp_all
   ·first|rfl|(split<;>first|rfl|simp_all)
  ·first|rfl|(split<;>first|rfl|simp_all)
 all_goals first|rfl|(split<;>simp_all)
def ju4 (hE:za0 T P C.E) {st:St T} {K:St T->Option R} {Kp:AV T.U->St T->Option R} (h:zg8 P C o st K Kp=some r):
  (∃Fz a H1,K ⟨za5 T Fz o.dst a,H1⟩=some r/\Keeps T (wrF C o st) st.H H1/\ ∀ {R':Type} (K':St T->Option R') (Kp':AV T.U->St T->Option R'),zg8 P C o st K' Kp'=K' ⟨za5 T Fz o.dst a,H1⟩)\/ ∃a st',Kp a st'=some r/\Keeps T (wrF C o st) st.H st'.H/\ ∀ {R':Type} (K':St T->Option R') (Kp':AV T.U->St T->Option R'),zg8 P C o st K' Kp'=Kp' a st':=by
 unfold zg8 at h;split at h
 ·rename_i z hz;obtain ⟨a,H1,h1,h2,h3⟩:=vm5 hz h;exact .inl ⟨st.F,a,H1,h1,h2.sub fun i hi=>X4.2 (.inr (X4.2 (.inr hi))),fun K' Kp'=>by simp only [zg8,h3]⟩
 ·rename_i hz;split at h
  ·rename_i z hz2;obtain ⟨a,H1,h1,h2,h3⟩:=vm4 hz2 h;exact .inl ⟨st.F,a,H1,h1,h2.sub fun i hi=>X4.2 (.inr (X4.2 (.inl hi))),fun K' Kp'=>by simp only [zg8,yr3 hz,h3]⟩
  ·rename_i hz2;rcases vm3 hE h with ⟨Fz,a,H1,h1,h2,h3⟩|⟨a,st',h1,h2,h3⟩
   ·exact .inl ⟨Fz,a,H1,h1,h2,fun K' Kp'=>by simp only [zg8,yr3 hz,ji7 hz2,h3]⟩
   ·exact .inr ⟨a,st',h1,h2,fun K' Kp'=>by simp only [zg8,yr3 hz,ji7 hz2,h3]⟩
def jt2 {z:Option (St T)} {st':St T} (hz:zn7 P C o ⟨F,H⟩ some=some z\/zy1 P C o ⟨F,H⟩ some=some z) (hs:z=some st') (hdst:zi5 n o.dst=true) (hns:zb0 o=true) (hpre:zt2 F o=true) (h:Sim T w0 S0 ⟨F,H⟩ F' w S φ) {a:Act} (ha:Fr n ds F' a):
  o.wp P a w (fun a' w'=> ∃F1,zc4 T w0 S0 st' F1 w'/\Fr n ds F1 a'/\ ∃v,a'=a.put o.dst v) Q:=by
 let o':Oper:= {o with guard:=none}
 have hd:dec #[o'] 0 n F'=some o':=by
  unfold dec;have hw:zy2 #[o'] F' o'=some true:=rfl;have hp:yb1 F' o'=true:=ym0 (o:=o') h.fr hpre;have h1:zi5 n o'.dst=true:=hdst;have h2:zb0 o'=true:=hns;simp only [List.getElem?_toArray,Y4,hw,hp,h1,h2,N2]
 have hs':zn7 P C o' ⟨F,H⟩ some=some z\/zy1 P C o' ⟨F,H⟩ some=some z:=by
  cases o;exact hz
 have fin: ∀st,some st=some st'->zq8 P #[o'] (fun e a' w'=>e=.normal/\ ∃F1,zc4 T w0 S0 st' F1 w'/\Fr n ds F1 a') 1 n ds w0 S0 st:=fun st hst F1 w1 h1=>by
  simp only [X0] at hst;subst hst;exact WR.fin (by rfl) fun a1 ha1=>⟨rfl,F1,h1,ha1⟩
 have hwr:WR P #[o'] (fun e a' w'=>e=.normal/\ ∃F1,zc4 T w0 S0 st' F1 w'/\Fr n ds F1 a') 0 n ds F' w:=by
  rcases hs' with hs'|hs'
  ·exact jc1 hd hs' hs h fin
  ·subst hs;exact jc0 hd hs' h fin
 have hw:=hwr a ha;unfold wpList at hw;have hwant:Region.wanted o' (yielded #[o'] a.tmps)=true:=by
  have:=(zk1 hd).2.2.2.2 ha;exact this
 have hcons:(#[o']:Array Oper).toList.drop 0= [o']:=rfl;rw [hcons] at hw;simp only [hwant,if_true] at hw;rcases hw with hw|⟨_,a1,w1,h1,_⟩
 ·refine jl9 (g:=none) (Oper.wp_and (o:=o') (K:=wpList P #[o'] _ []) ?_ ?_ ?_ hw)
  ·rintro v w1 h1
   unfold wpList at h1;obtain ⟨_,F1,h2,h3⟩:=h1;exact ⟨F1,h2,h3,v,rfl⟩
  ·rintro d w1 h1
   unfold wpList at h1;obtain ⟨_,F1,h2,h3⟩:=h1;have e1:=h3.defers;have e2:({a with defers:=d::a.defers}.put o'.dst undef).defers=d::a.defers:=by cases o'.dst<;>rfl
   rw [e2,ha.defers] at e1;exact absurd (congrArg List.length e1) (by simp)
  ·rintro e a1 w1 hne ⟨rfl,_⟩
   exact hne rfl
 ·cases h1
def jt3 (hE:za0 T P C.E) {st':St T} (hs:zg8 P C o ⟨F,H⟩ some (fun _ _=>none)=some st') (hdst:zi5 n o.dst=true) (hns:zb0 o=true) (hpre:zt2 F o=true) (h:Sim T w0 S0 ⟨F,H⟩ F' w S φ) {a:Act} (ha:Fr n ds F' a):
  o.wp P a w (fun a' w'=> ∃F1,zc4 T w0 S0 st' F1 w'/\Fr n ds F1 a'/\ ∃v,a'=a.put o.dst v) Q:=by
 have pre2: ∀ {F2:AF T} {H2:List (Ent T.U)} {S2:List Nat},Sim T w0 S0 ⟨F2,H2⟩ F' w S2 φ->(∀t,(F.get T t).isSome=true->(F2.get T t).isSome=true)->zt2 F2 o=true:=by
  intro F2 H2 S2 _ hF;unfold zt2 at hpre⊢;rw [Y8] at hpre⊢;intro x hx;have:=hpre x hx;cases x with
  |tmp t=>exact hF t this
  |_=>exact this
 unfold zg8 at hs;split at hs
 ·rename_i z hz;exact jt2 (.inl hz) hs hdst hns hpre h ha
 split at hs
 ·rename_i z hz;exact jt2 (.inr hz) hs hdst hns hpre h ha
 unfold zm6 at hs;split at hs
 ·split at hs<;>try (cases hs;done)
  split at hs
  ·split at hs<;>try (cases hs;done)
   obtain ⟨⟨F2,H2⟩,S2,h1,h2,h3⟩:=zx1 hs h;exact zu0 hE h1 hdst hns (pre2 h2 h3) h2 ha
  ·exact zu0 hE hs hdst hns hpre h ha
 ·split at hs
  ·obtain ⟨⟨F2,H2⟩,S2,h1,h2,h3⟩:=zz4 hs h;exact zu0 hE h1 hdst hns (pre2 h2 h3) h2 ha
  ·exact zu0 hE hs hdst hns hpre h ha
 ·split at hs
  ·split at hs
   ·split at hs<;>try (cases hs;done)
    obtain ⟨⟨F2,H2⟩,S2,h1,h2,h3⟩:=zx1 hs h;exact zu0 hE h1 hdst hns (pre2 h2 h3) h2 ha
   ·exact zu0 hE hs hdst hns hpre h ha
  ·exact zu0 hE hs hdst hns hpre h ha
 ·exact zu0 hE hs hdst hns hpre h ha
end
end Go.X
namespace Go.X
open Go.RowKit Go.V
section
variable {T:Tab} (P:Program)
def zv7 (c:Nat) (v:AV T.U) (cs:List (AV T.U)):List (AV T.U):=match cs.all (za6 T)&&za6 T v with|true=>cs.set c v|false=>cs
def yo6 (c:Nat) (v:AV T.U):Ent T.U->Ent T.U
 | .blk t cs=>.blk t (zv7 c v cs)
 | .drow e d fe xs (some (a,cs))=>.drow e d fe xs (some (a,cs.set c v))
 |x=>x
def spE (c:Nat):Ent T.U->Ent T.U->Prop
 | .blk t cs,.blk f b=>t=f/\cs.length=b.length/\cs[c]?=b[c]?/\cs.all (za6 T)=true/\b.all (za6 T)=true
 | .drow e d fe xs (some (a,cs)),y=> ∃b,y=.drow e d fe xs (some (a,b))/\cs.length=b.length/\cs[c]?=b[c]?
 |_,_=>False
def simE (c:Nat) (x y:Ent T.U):Prop:=x=y\/spE c x y
def ym6 (t:TypeId):Bool:=match P.info? t,P.underlying t with|some i,some d=> !yb5 d&&Nat.beq i.size 1|_,_=>false
def ks1 (o:Oper) (F:AF T) (H:List (Ent T.U)):Option (Nat×Nat×Option (AV T.U)):=
 match o.op with
 | .load t x=>match aev T F x with
  |some (.ptr i c)=>match H[i]? with
   |some (.blk _ cs)=>(match ym6 P t&&(cs.all (za6 T)&&Nat.blt c cs.length) with|true=>some (i,c,none)|false=>none)
   |_=>none
  |some (.eptr i _ _ c)=>match H[i]? with
   |some (.drow _ _ _ _ (some (_,cs)))=>(match ym6 P t&&Nat.blt c cs.length with|true=>some (i,c,none)|false=>none)
   |_=>none
  |_=>none
 | .store t x y=>match o.dst,aev T F x,aev T F y with
  |none,some (.ptr i c),some v=>match H[i]? with
   |some (.blk _ cs)=>(match ym6 P t&&(zw3 T v&&(cs.all (za6 T)&&Nat.blt c cs.length)) with|true=>some (i,c,some v)|false=>none)
   |_=>none
  |none,some (.eptr i _ _ c),some v=>match H[i]? with
   |some (.drow _ _ _ _ (some (_,cs)))=>(match ym6 P t&&(zw3 T v&&Nat.blt c cs.length) with|true=>some (i,c,some v)|false=>none)
   |_=>none
  |_,_,_=>none
 |_=>none
def qj6 (k c:Nat) (a:Option (AV T.U)) (f:Ent T.U) (H:List (Ent T.U)):List (Ent T.U):=match a with|some v=>H.set k (yo6 c v f)|none=>H
end
section
variable {T:Tab} {P:Program} {C:Ctx T} {F F':AF T} {H H':List (Ent T.U)} {o:Oper}
def simE.symm {c:Nat} {x y:Ent T.U} (h:simE c x y):simE c y x:=by
 rcases h with rfl|h
 ·exact .inl rfl
 ·cases x with
  |blk t cs=>
   cases y with
   |blk l b=>obtain ⟨rfl,f,g,i,j⟩:=h;exact .inr ⟨rfl,f.symm,g.symm,j,i⟩
   |_=>exact h.elim
  |drow e d fe xs k=>
   cases k with
   |none=>exact h.elim
   |some p=>obtain ⟨a,cs⟩:=p;obtain ⟨b,rfl,f,g⟩:=h;exact .inr ⟨cs,rfl,f.symm,g.symm⟩
  |_=>exact h.elim
def simE.trans {c:Nat} {x y z:Ent T.U} (h:simE c x y) (h':simE c y z):simE c x z:=by
 rcases h with rfl|h
 ·exact h'
 ·rcases h' with rfl|h'
  ·exact .inr h
  ·cases x with
   |blk t cs=>
    cases y with
    |blk t' cs'=>
     cases z with
     |blk t2 cs2=>obtain ⟨rfl,h2,h3,h4,h5⟩:=h;obtain ⟨rfl,g2,g3,g4,g5⟩:=h';exact .inr ⟨rfl,h2.trans g2,h3.trans g3,h4,g5⟩
     |_=>exact h'.elim
    |_=>exact h.elim
   |drow e d fe xs op=>
    cases op with
    |none=>exact h.elim
    |some p=>
     obtain ⟨a,cs⟩:=p;obtain ⟨cs',rfl,h2,h3⟩:=h;obtain ⟨cs2,rfl,g2,g3⟩:=h';exact .inr ⟨cs2,rfl,h2.trans g2,h3.trans g3⟩
   |_=>exact h.elim
def je2 {cs:List (AV T.U)} {c v} (h:cs.all (za6 T)=true) (d:za6 T v=true):(cs.set c v).all (za6 T)=true:=by
 rw [Y8] at h⊢;intro a b;rcases M0 b with b|rfl
 ·exact h a b
 ·exact d
def zm1 {c v cs} (h:cs.all (za6 T)=true) (a:za6 T v=true):zv7 c v cs=cs.set c v:=by unfold zv7;rw [h,a];rfl
def zd9 (c:Nat) (v:AV T.U) (cs:List (AV T.U)):(zv7 c v cs=cs)\/(zv7 c v cs=cs.set c v/\cs.all (za6 T)=true/\za6 T v=true):=by
 cases h:cs.all (za6 T) with
 |false=>left;unfold zv7;rw [h];rfl
 |true=>
  cases hv:za6 T v with
  |false=>left;unfold zv7;rw [h,hv];rfl
  |true=>exact .inr ⟨zm1 h hv,rfl,rfl⟩
def yz8 (c:Nat) (v:AV T.U) (cs:List (AV T.U)):(zv7 c v cs).length=cs.length:=by
 rcases zd9 c v cs with h|⟨h,_⟩<;>rw [h];simp
def yz7 {c v cs} (h:cs.all (za6 T)=true):(zv7 c v cs).all (za6 T)=true:=by
 rcases zd9 c v cs with a|⟨a,_,b⟩<;>rw [a]
 ·exact h
 ·exact je2 h b
def vz3 {c c'} (b:c'≠c) (v:AV T.U) (cs:List (AV T.U)):(zv7 c' v cs)[c]?=cs[c]?:=by
 rcases zd9 c' v cs with a|⟨a,_⟩<;>rw [a];exact Z5 b
def simE.left {c c'} (i:c'≠c) (v:AV T.U) {x y} (h:simE c x y):simE c (yo6 c' v x) y:=by
 have j:simE c (yo6 c' v x) x:=by
  cases x with
  |blk t cs=>
   show simE c (.blk t (zv7 c' v cs)) (.blk t cs);rcases zd9 c' v cs with k|⟨k,b,f⟩
   ·rw [k];exact .inl rfl
   ·rw [k];exact .inr ⟨rfl,by simp,Z5 i,je2 b f,b⟩
  |drow e d fe xs l=>
   cases l with
   |none=>exact .inl rfl
   |some p=>obtain ⟨a,cs⟩:=p;exact .inr ⟨cs,rfl,by simp,Z5 i⟩
  |_=>exact .inl rfl
 rcases h with rfl|h
 ·exact j
 ·cases x with
  |blk t cs=>
   cases y with
   |blk q g=>
    obtain ⟨rfl,b,f,m,n⟩:=h;exact .inr ⟨rfl,(yz8 ..).trans b,(vz3 i ..).trans f,yz7 m,n⟩
   |_=>exact h.elim
  |drow e d fe xs l=>
   cases l with
   |none=>exact h.elim
   |some p=>
    obtain ⟨a,cs⟩:=p;obtain ⟨g,rfl,b,f⟩:=h;exact .inr ⟨g,rfl,by simpa using b,(Z5 i).trans f⟩
  |_=>exact h.elim
def simE.both {c} (c':Nat) (v:AV T.U) {x y} (h:simE c x y):simE c (yo6 c' v x) (yo6 c' v y):=by
 rcases h with rfl|h
 ·exact .inl rfl
 ·cases x with
  |blk t cs=>
   cases y with
   |blk n b=>
    obtain ⟨rfl,f,g,k,l⟩:=h;refine .inr ⟨rfl,by rw [yz8,yz8];exact f,?_,yz7 k,yz7 l⟩;cases hv:za6 T v with
    |false=>
     rcases zd9 c' v cs with i|⟨_,_,i⟩
     ·rcases zd9 c' v b with j|⟨_,_,j⟩
      ·rw [i,j];exact g
      ·rw [hv] at j;cases j
     ·rw [hv] at i;cases i
    |true=>rw [zm1 k hv,zm1 l hv,List.getElem?_set,List.getElem?_set,f,g]
   |_=>exact h.elim
  |drow e d fe xs m=>
   cases m with
   |none=>exact h.elim
   |some p=>
    obtain ⟨a,cs⟩:=p;obtain ⟨b,rfl,f,g⟩:=h;refine .inr ⟨_,rfl,by simpa using f,?_⟩;rw [List.getElem?_set,List.getElem?_set,f,g]
  |_=>exact h.elim
def qv1 {c c'} (f:c≠c') (v e:AV T.U) (cs:List (AV T.U)):zv7 c v (zv7 c' e cs)=zv7 c' e (zv7 c v cs):=by
 rcases zd9 c v cs with a|⟨a,g,i⟩<;>rcases zd9 c' e cs with b|⟨b,k,j⟩
 ·rw [a,b,a]
 ·rw [a,b];rcases zd9 c v (cs.set c' e) with d|⟨d,l,h⟩
  ·exact d
  ·rw [zm1 k h] at a;rw [d,List.set_comm _ _ (Ne.symm f),a]
 ·rw [b,a];rcases zd9 c' e (cs.set c v) with d|⟨d,l,h⟩
  ·exact d.symm
  ·rw [zm1 g h] at b;rw [d,List.set_comm _ _ f,b]
 ·rw [b,a,zm1 (je2 g j) i,zm1 (je2 g i) j,List.set_comm _ _ f]
def vl8 {c c'} (f:c≠c') (v b:AV T.U) (x:Ent T.U):yo6 c v (yo6 c' b x)=yo6 c' b (yo6 c v x):=by
 cases x with
 |blk t cs=>exact congrArg (Ent.blk t) (qv1 f v b cs)
 |drow e d fe xs g=>
  cases g with
  |none=>rfl
  |some p=>obtain ⟨a,cs⟩:=p;simp only [yo6];rw [List.set_comm _ _ f]
 |_=>rfl
def vf2 {cs:List (AV T.U)} {c} {v:AV T.U} {i} (h:i∈q7 (cs.set c v)):i∈q7 cs\/i∈v.ids:=by
 obtain ⟨a,b,d⟩:=zr2 h;rcases M0 b with b|rfl
 ·exact .inl (zh9 b i d)
 ·exact .inr d
def vz4 {c} {v:AV T.U} {x:Ent T.U} {i} (h:i∈(yo6 c v x).cellIds):i∈x.cellIds\/i∈v.ids:=by
 cases x with
 |blk t cs=>
  have h:i∈q7 (zv7 c v cs):=h;rcases zd9 c v cs with b|⟨b,_⟩
  ·rw [b] at h;exact .inl h
  ·rw [b] at h;exact vf2 h
 |drow e d fe xs f=>cases f with
  |none=>exact .inl h
  |some p=>obtain ⟨a,cs⟩:=p;exact vf2 (T:=T) h
 |_=>exact .inl h
def zy4 (hF: ∀t a,F.get T t=some a->F'.get T t=some a) {x:Operand} {a:AV T.U} (h:aev T F x=some a):aev T F' x=some a:=by
 cases x with
 |tmp t=>exact hF t a h
 |const v=>exact h
 |func f=>exact h
 |global g=>exact h
def yh0 {t} (h:ym6 P t=true): ∃i d,P.info? t=some i/\P.underlying t=some d/\yb5 d=false/\i.size=1:=by
 unfold ym6 at h;split at h
 ·rename_i i d a b;simp only [X3,U9] at h;exact ⟨i,d,a,b,h.1,X1 h.2⟩
 ·cases h
def js8: ∀ {cs c},cs.all (za6 T)=true->c<cs.length->jb2 T cs c=some (cs.drop c)
 | [],c,_,h=>by simp at h
 |a::r,0,_,_=>rfl
 |a::r,c+1,h,b=>by
  rw [J1,X3] at h;have d:Nat.ble (wd T a) (c+1)=true:=by rw [qd9 T h.1];exact W5 (by omega)
  unfold jb2;rw [show Nat.beq (c+1) 0=false from rfl];simp only [d];rw [qd9 T h.1,Nat.add_sub_cancel,js8 h.2 (by simpa using b),List.drop_succ_cons]
def qs7 {t} (b:ym6 P t=true) {cs c} (h:cs.all (za6 T)=true) (a:c<cs.length):jc6 T P t cs c=cs[c]?:=by
 obtain ⟨i,d,e,f,g,_⟩:=yh0 b;unfold jc6 kb2;rw [e,f];simp only [g];rw [js8 h a,M6 a,Y0 a];simp only;rw [Y8] at h;rw [h _ (List.getElem_mem a)]
def jj0 {v} (b:za6 T v=true): ∀ {cs c},cs.all (za6 T)=true->c<cs.length->yv8 T (km4 T [v]) cs c=some (cs.set c v)
 | [],c,_,h=>by simp at h
 |a::r,0,h,_=>by
  rw [J1,X3] at h;show km4 T [v] (a::r)=_;unfold km4;simp only [putOnes,h.1,b,N2,List.set_cons_zero]
 |a::r,c+1,h,d=>by
  rw [J1,X3] at h;have e:Nat.ble (wd T a) (c+1)=true:=by rw [qd9 T h.1];exact W5 (by omega)
  unfold yv8;rw [show Nat.beq (c+1) 0=false from rfl];simp only [e];rw [qd9 T h.1,Nat.add_sub_cancel,jj0 b h.2 (by simpa using d)];rfl
def yg2 {v} (h:zw3 T v=true):ze7 T v= [v]/\ya8 T v=true/\jd9 v=none/\za6 T v=true:=by
 cases v<;>first|(cases h;done)|exact ⟨rfl,h,rfl,rfl⟩|exact ⟨rfl,rfl,rfl,rfl⟩
def vh8 {t:TypeId} (hs:ym6 P t=true) {v:AV T.U} (h:zw3 T v=true) (c n:Nat) (hc:c<n):jm7 T P t c n v=true:=by
 obtain ⟨i,d,hi,hd,ha,h1⟩:=yh0 hs;obtain ⟨e1,e2,e3,e4⟩:=yg2 h;unfold jm7;rw [hi];simp only [e1,e2,h1,h,U7,R2,J1,List.all_nil,N2,Bool.and_true,Bool.true_and];rw [X3];exact ⟨rfl,W5 hc⟩
def vr6 {t} (a:ym6 P t=true):zg6 P t=none:=by
 obtain ⟨i,d,e,b,c,_⟩:=yh0 a;unfold zg6;rw [b];cases d<;>first|rfl|cases c
def qi3 {t:TypeId} {x:Operand} (hop:o.op=.load t x) {i c:Nat} {e:TypeId} {cs:List (AV T.U)} (hx:aev T F x=some (.ptr i c)) (hi:H[i]?=some (.blk e cs)) (hs:ym6 P t=true) (hn:cs.all (za6 T)=true) (hc:c<cs.length) {R:Type} (K:St T->Option R) (Kp:AV T.U->St T->Option R):
  zg8 P C o ⟨F,H⟩ K Kp=match cs[c]? with|some (.eptr _ _ _ _)=>none|some u=>K ⟨za5 T F o.dst u,H⟩|none=>none:=by
 have h1:zn7 P C o ⟨F,H⟩ K=none:=by simp only [zn7,hop,hx]
 have h1':zy1 P C o ⟨F,H⟩ K=none:=by simp only [zy1,hop]
 have h2:kf2 P o.op=false:=by rw [hop];simp only [kf2,vr6 hs];rfl
 unfold zg8;rw [h1,h1'];simp only [zm6,hop,stepA];unfold zy0;rw [h2];simp only [zr9,hop,jh4,hx,loadA,hi,qs7 hs hn hc];rw [Y0 hc];generalize cs[c]=u;cases u<;>rfl
def ju5 {t:TypeId} {x y:Operand} (hop:o.op=.store t x y) (hdst:o.dst=none) {i c:Nat} {e:TypeId} {cs:List (AV T.U)} {v:AV T.U} (hx:aev T F x=some (.ptr i c)) (hy:aev T F y=some v) (hi:H[i]?=some (.blk e cs)) (hs:ym6 P t=true) (hv:zw3 T v=true) (hn:cs.all (za6 T)=true) (hc:c<cs.length) {R:Type} (K:St T->Option R) (Kp:AV T.U->St T->Option R):
  zg8 P C o ⟨F,H⟩ K Kp=K ⟨F,H.set i (.blk e (cs.set c v))⟩:=by
 obtain ⟨e1,e2,e3,e4⟩:=yg2 hv;have h1:zn7 P C o ⟨F,H⟩ K=none:=by simp only [zn7,hop,hx]
 have h1':zy1 P C o ⟨F,H⟩ K=none:=by simp only [zy1,hop]
 have h3:storeB T P t cs c v=some (cs.set c v):=by
  unfold storeB;simp only [e3,e1,U7,R2];rw [vh8 hs hv 0 _ (by omega)];exact jj0 e4 hn hc
 have h4:stepA P C o ⟨F,H⟩ K Kp=K ⟨F,H.set i (.blk e (cs.set c v))⟩:=by simp only [stepA,hop,hdst,hx,hy,jd8,hi,h3]
 have h5:jy2 T H (.ptr i c) v=none:=rfl;unfold zg8;rw [h1,h1'];simp only [zm6,hop,hx,hy,h5];cases zd7 T (ze7 T v)<;>exact h4
def js7 {t x} (f:o.op=.load t x) {i sz a c e d fe xs b cs} (j:aev T F x=some (.eptr i sz a c)) (k:H[i]?=some (.drow e d fe xs (some (b,cs)))) (l:ym6 P t=true) {R} (K:St T->Option R) (m:AV T.U->St T->Option R):
  zg8 P C o ⟨F,H⟩ K m=match Nat.beq sz (T.size d),cs[c]? with|true,some u=>(match zh1 u with|true=>if a=b then K ⟨za5 T F o.dst u,H⟩ else none|false=>none)|_,_=>none:=by
 obtain ⟨r,s,g,h,n,_⟩:=yh0 l;have p:zt0 T P t cs c=cs[c]?:=by unfold zt0 jm4;rw [g,h];simp only [n]
 have q:zn7 P C o ⟨F,H⟩ K=some (yq3 P t H i sz a c e d fe xs (some (b,cs)) fun v H=>K ⟨za5 T F o.dst v,H⟩):=by simp only [zn7,f,j,k]
 unfold zg8;rw [q];simp only [yq3,p];cases Nat.beq sz (T.size d) with
 |false=>rfl
 |true=>cases cs[c]?<;>rfl
def ji8 {t x y} (g:o.op=.store t x y) (f:o.dst=none) {i sz a c e d fe xs b cs v} (h:aev T F x=some (.eptr i sz a c)) (j:aev T F y=some v) (k:H[i]?=some (.drow e d fe xs (some (b,cs)))) (l:zw3 T v=true) {R} (K:St T->Option R) (m:AV T.U->St T->Option R):
  zg8 P C o ⟨F,H⟩ K m=match Nat.beq sz (T.size d)&&jm7 T P t c (T.size d) v with|true=>if a=b then K ⟨F,H.set i (.drow e d fe xs (some (b,cs.set c v)))⟩ else none|false=>none:=by
 obtain ⟨n,q,r,s⟩:=yg2 l;have p:zn7 P C o ⟨F,H⟩ K=some (ye3 P t H i sz a c e d fe xs (some (b,cs)) v fun H=>K ⟨F,H⟩):=by simp only [zn7,g,h,k,f,j]
 unfold zg8;rw [p];simp only [ye3,n,yi5];cases Nat.beq sz (T.size d)&&jm7 T P t c (T.size d) v<;>rfl
def qp8 {d b a u} (h:za5 T F d u=za5 T b d a) (G):za5 T G d u=za5 T G d a:=by
 cases d with
 |none=>rfl
 |some d=>
  simp only [za5,List.cons.injEq,X7] at h;rw [show u=a from h.1.2]
def vf3 {c f e cs} (g:cs.all (za6 T)=true) (h:simE c f (.blk e cs)): ∃b,f=.blk e b/\b.length=cs.length/\b[c]?=cs[c]?/\b.all (za6 T)=true:=by
 rcases h with rfl|h
 ·exact ⟨cs,rfl,rfl,rfl,g⟩
 ·cases f with
  |blk m b=>obtain ⟨rfl,i,j,k,_⟩:=h;exact ⟨b,rfl,i,j,k⟩
  |drow e d fe xs l=>cases l with
   |none=>exact h.elim
   |some p=>obtain ⟨a,cs⟩:=p;obtain ⟨_,h,_⟩:=h;cases h
  |_=>exact h.elim
def qp1 {c f e d fe xs b} {cs:List (AV T.U)} (h:simE c f (.drow e d fe xs (some (b,cs)))): ∃g,f=.drow e d fe xs (some (b,g))/\g.length=cs.length/\g[c]?=cs[c]?:=by
 rcases h with rfl|h
 ·exact ⟨cs,rfl,rfl,rfl⟩
 ·cases f with
  |drow e d fe xs j=>cases j with
   |none=>exact h.elim
   |some p=>
    obtain ⟨a,i⟩:=p;obtain ⟨g,h,k,l⟩:=h;cases h;exact ⟨i,rfl,k,l⟩
  |_=>exact h.elim
def vu5 {k c N} (g:ks1 P o F H=some (k,c,N)) {W a H1} (h:zg8 P C o ⟨F,H⟩ some (fun _ _=>none)=some ⟨za5 T W o.dst a,H1⟩):
  ∃x,H[k]?=some x/\x.live=true/\H1=qj6 k c N x H/\ ∀(F':AF T) (H':List (Ent T.U)) (f:Ent T.U),(∀t a,F.get T t=some a->F'.get T t=some a)->H'[k]?=some f->simE c f x->zg8 P C o ⟨F',H'⟩ some (fun _ _=>none)=some ⟨za5 T F' o.dst a,qj6 k c N f H'⟩:=by
 unfold ks1 at g;split at g<;>try (cases g;done)
 ·rename_i t x m;split at g<;>try (cases g;done)
  ·rename_i i E n;split at g<;>try (cases g;done)
   rename_i e cs p;split at g<;>try (cases g;done)
   rename_i q;simp only [X3,U8] at q;obtain ⟨r,B,G⟩:=q;simp only [X0,X7] at g;obtain ⟨rfl,rfl,rfl⟩:=g;rw [qi3 m n p r B G] at h;split at h<;>try (cases h;done)
   rename_i u w O;simp only [X0,St.mk.injEq] at h;obtain ⟨h,rfl⟩:=h;refine ⟨_,p,rfl,rfl,fun F' H' f hF z j=>?_⟩;obtain ⟨s,rfl,Q,I,M⟩:=vf3 B j;rw [qi3 m (zy4 hF n) z r M (by omega),I,O];have:=qp8 h F';cases u<;>first|exact absurd rfl (w _ _ _ _)|(simp only [this];rfl)
  ·rename_i i R X E n;split at g<;>try (cases g;done)
   rename_i e d fe xs b cs p;split at g<;>try (cases g;done)
   rename_i q;simp only [X3,U8] at q;obtain ⟨r,G⟩:=q;simp only [X0,X7] at g;obtain ⟨rfl,rfl,rfl⟩:=g;rw [js7 m n p r] at h;split at h<;>try (cases h;done)
   rename_i u S O;split at h<;>try (cases h;done)
   rename_i w;obtain ⟨A,J⟩:=v6 h;clear h;simp only [X0,St.mk.injEq] at J;obtain ⟨h,rfl⟩:=J;refine ⟨_,p,rfl,rfl,fun F' H' f hF z j=>?_⟩;obtain ⟨s,rfl,Q,I⟩:=qp1 j;rw [js7 m (zy4 hF n) z r,I,O,S];simp only [w,if_pos A,qp8 h F'];rfl
 ·rename_i t x y m;split at g<;>try (cases g;done)
  ·rename_i i E v l n K;split at g<;>try (cases g;done)
   rename_i e cs p;split at g<;>try (cases g;done)
   rename_i q;simp only [X3,U8] at q;obtain ⟨r,D,B,G⟩:=q;simp only [X0,X7] at g;obtain ⟨rfl,rfl,rfl⟩:=g;have V:=(yg2 D).2.2.2;rw [ju5 m l n K p r D B G] at h;simp only [X0,St.mk.injEq] at h;obtain ⟨h,rfl⟩:=h;refine ⟨_,p,rfl,?_,fun F' H' f hF z j=>?_⟩
   ·show _=H.set i (.blk e (zv7 E v cs));rw [zm1 B V]
   ·obtain ⟨s,rfl,Q,I,M⟩:=vf3 B j;rw [ju5 m l (zy4 hF n) (zy4 hF K) z r D M (by omega),l];show _=some (⟨F',H'.set i (.blk e (zv7 E v s))⟩:St T);rw [zm1 M V]
  ·rename_i i R X E v l n K;split at g<;>try (cases g;done)
   rename_i e d fe xs b cs p;split at g<;>try (cases g;done)
   rename_i q;simp only [X3,U8] at q;obtain ⟨r,D,G⟩:=q;simp only [X0,X7] at g;obtain ⟨rfl,rfl,rfl⟩:=g;rw [ji8 m l n K p D] at h;split at h<;>try (cases h;done)
   rename_i L;obtain ⟨A,J⟩:=v6 h;clear h;simp only [X0,St.mk.injEq] at J;obtain ⟨h,rfl⟩:=J;refine ⟨_,p,rfl,rfl,fun F' H' f hF z j=>?_⟩
   ·obtain ⟨s,rfl,Q,I⟩:=qp1 j;rw [ji8 m l (zy4 hF n) (zy4 hF K) z D,L,l];simp only [if_pos A];rfl
end
end Go.X
