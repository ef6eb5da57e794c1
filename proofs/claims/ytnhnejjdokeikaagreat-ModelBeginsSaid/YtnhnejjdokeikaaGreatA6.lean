import Derived.Test.YtnhnejjdokeikaaGreatA5
set_option linter.defProp false
namespace Go.X
open Go.RowKit Go.V
section
variable {T:Tab} (P:Program) (C:Ctx T) {R:Type}
def zp6 (F:AF T) (o:Oper):Bool:=o.op.operands.toList.all fun x=>(aev T F x).isSome
def vt6 (ops:Array Oper) (j:Nat):Option Tmp:=(ops[j]?).bind (·.dst)
def gi3 (c:Call) (st:St T) (K:AV T.U->Option R):Option R:=
 match zs2 T st.F c.args.toList with
 |none=>none
 |some aS=>
  match c.callee with
  | .value f=>match aev T st.F f with
   |some (.fn (.func g) first a)=>match zl1 P g,qb1 C.E g with
    |true,some cs=>match (first++aS++a).all zk7 with|true=>cs.q (first++aS++a) st.H K|false=>none
    |_,_=>none
   |_=>none
  |_=>none
def vw6 (o:Oper) (st:St T) (K:AV T.U->Option R):Option R:=
 match o.op with
 | .call c=>match stepA.reads c with
  |true=>zu3 P o st K
  |false=>gi3 P C c st K
 |_=>zu3 P o st K
def qp0 (stp:Oper->St T->(St T->Option R)->Option R) (ops:Array Oper) (n:Nat) (K:St T->Option R):List Oper->St T->Option R
 | [],st=>K st
 |o::r,st=>
  let a:=fun (st:St T)=>match zi4 n o.dst&&(zc7 o&&zp6 st.F o) with
   |true=>stp o st (fun st=>qp0 stp ops n K r st)
   |false=>none
  let e:=fun (st:St T)=>match zi4 n o.dst with
   |true=>qp0 stp ops n K r ⟨zc2 T st.F o.dst (.raw undef),st.H⟩
   |false=>none
  match o.guard with
  |none=>a st
  |some (j,b)=>match vt6 ops j with
   |none=>none
   |some d=>match st.F.get T d with
    |some (.cell ⟨.bool,c⟩)=>j8 c (let st:=⟨(d,cB T true)::st.F,st.H⟩;match b with|true=>a st|false=>e st)
     (let st:=⟨(d,cB T false)::st.F,st.H⟩;match b with|true=>e st|false=>a st)
    |some (.raw (.tuple _))=>e st
    |_=>none
open Classical in
noncomputable def both (a b:Option R):Option R:=if a=b then a else none
noncomputable def gk6 (e:Bool) (a b:Option R):Option R:=match e with|true=>both a b|false=>b
def kj2:Operand->Bool| .const (.slice none _ _)=>true|_=>false
def gk4:BinOp->Option Bool| .eql=>some false| .neq=>some true|_=>none
def ki3 (H:List (Ent T.U)):AV T.U->Option Bool
 | .cell ⟨.list e,xs⟩=>some (List.isEmpty (α:=den T.U e) xs)
 | .cell ⟨.nl e,xs⟩=>some (List.isEmpty (α:=den T.U e) xs)
 | .own i=>match H[i]? with|some (.row _ _ xs)=>some xs.isEmpty|_=>none
 |_=>none
def ul9:AV T.U->Bool| .cell ⟨.nl _,_⟩=>true|_=>false
noncomputable def um2 (c e:Bool) (a b:Option R):Option R:=match c with|true=>j8 e a b|false=>gk6 e a b
def um3 (o:Oper) (st:St T):Option (Bool×Bool×Bool):=
 match o.op with
 | .binOp b t x y _=>match P.underlying t with
  |some (.slice _)=>match gk4 b,kj2 y,aev T st.F x with
   |some neg,true,some a=>match ki3 st.H a with|some e=>some (neg,e,ul9 a)|none=>none
   |_,_,_=>none
  |_=>none
 |_=>none
noncomputable def vw5 (o:Oper) (st:St T) (K:St T->Option R) (a:AV T.U->St T->Option R):Option R:=
 match um3 P o st with
 |some (neg,e,b)=>um2 b e (K ⟨zc2 T st.F o.dst (cB T (jm3 neg true)),st.H⟩) (K ⟨zc2 T st.F o.dst (cB T (jm3 neg false)),st.H⟩)
 |none=>match kz1 P C o st K with|some z=>z|none=>match kz2 P C o st K with|some z=>z|none=>zj4 P C o st K a
noncomputable def um8 (ops:Array Oper) (n:Nat) (a:AV T.U->St T->Option R) (K:St T->Option R) (st:St T):Option R:=qp0 (fun o st K=>vw5 P C o st K a) ops n K ops.toList st
def um9 (ops:Array Oper) (n:Nat) (K:St T->Option R) (st:St T):Option R:=qp0 (fun o st K=>vw6 P C o st fun a=>K ⟨zc2 T st.F o.dst a,st.H⟩) ops n K ops.toList st
end
section
variable {T:Tab} {P:Program} {C:Ctx T} {w w':World} {S S':List Nat} {φ φ':Nat->RA} {w0:World} {S0:Ow} {F:AF T} {H:List (Ent T.U)} {F':PF}
variable {ops:Array Oper} {Q:Exit->Act->World->Prop} {k n:Nat} {ds:List Deferred} {o:Oper}
def Sim.again (h:Sim T w0 S0 ⟨F,H⟩ F' w S φ) {d a} (b:F.get T d=some a):Sim T w0 S0 ⟨(d,a)::F,H⟩ F' w S φ:=by
 obtain ⟨v,c,e⟩:=h.fr d a b;exact h.seen c e (h.ids d a b)
def yi7 (hF:FR T w S φ F F') {o} (h:zp6 F o=true):zy4 F' o=true:=by
 unfold zp6 at h;unfold zy4;rw [Y8] at h⊢;intro x b;obtain ⟨a,c⟩:=N8.1 (h x b);obtain ⟨v,d,_⟩:=w4 hF c;rw [d];rfl
def vt1 (Q:Exit->Act->World->Prop) (n:Nat) (ds:List Deferred) (w0:World) (S0:Ow) (st:St T):Prop:= ∀F1 b,zd2 T w0 S0 st F1 b-> ∀a,Fr n ds F1 a->Q .normal a b
def yl6 {R r stp K} (G:Nat->PF->World->Prop)
  (g: ∀(k:Nat) (o:Oper) (F:AF T) (H:List (Ent T.U)) (F':PF) (w:World) (S:List Nat) (φ:Nat->RA) (K:St T->Option R),dec ops k n F'=some o->stp o ⟨F,H⟩ K=some r->Sim T w0 S0 ⟨F,H⟩ F' w S φ->(∀st,K st=some r-> ∀F1 J S1 x,Sim T w0 S0 st F1 J S1 x->G (k+1) F1 J)->G k F' w)
  (m: ∀(k:Nat) (dst:Option Tmp) (F':PF) (w:World),zy3 ops k n F'=some dst->G (k+1) (upd F' dst undef) w->G k F' w)
  (s: ∀(k:Nat) (st:St T) (F':PF) (w:World) (S:List Nat) (φ:Nat->RA),ops.size<=k->K st=some r->Sim T w0 S0 st F' w S φ->G k F' w):
  ∀(rest:List Oper) (k:Nat),ops.toList.drop k=rest-> ∀(F:AF T) (H:List (Ent T.U)) (F':PF) (w:World) (S:List Nat) (φ:Nat->RA),qp0 stp ops n K rest ⟨F,H⟩=some r->Sim T w0 S0 ⟨F,H⟩ F' w S φ->G k F' w
 | [],k,A,F,H,F',w,S,φ,a,h=>by
  have:ops.size<=k:=by simpa using List.drop_eq_nil_iff.1 A
  exact s k _ F' w S φ this a h
 |o::rest,k,A,F,H,F',w,S,φ,a,h=>by
  have y:k<ops.size:=by
   apply Classical.byContradiction;intro W;rw [N4 (by simpa using W)] at A;cases A
  have V:ops[k]?=some o:=by
   have:=U3 (l:=ops.toList) (i:=k) (by simpa using y);rw [A] at this;rw [Z6 y];have N:=(List.cons.inj this).1;simpa using N.symm
  have D:ops.toList.drop (k+1)=rest:=by
   have:=U3 (l:=ops.toList) (i:=k) (by simpa using y);rw [A] at this;exact (List.cons.inj this).2.symm
  have p: ∀(F:AF T),(match zi4 n o.dst&&(zc7 o&&zp6 F o) with
    |true=>stp o ⟨F,H⟩ (fun st=>qp0 stp ops n K rest st)
    |false=>none)=some r->Sim T w0 S0 ⟨F,H⟩ F' w S φ->zs1 ops F' o=some true->G k F' w:=by
   intro F a h O;split at a
   ·rename_i B;simp only [X3] at B;have X:dec ops k n F'=some o:=by
     unfold dec;rw [V];simp only [O,B.1,B.2.1,yi7 h.fr B.2.2,M0]
    exact g k o F H F' w S φ _ X a h fun st Y F1 J S1 x N=>yl6 G g m s rest (k+1) D st.F st.H F1 J S1 x Y N
   ·cases a
  have f: ∀(F:AF T),(match zi4 n o.dst with
    |true=>qp0 stp ops n K rest ⟨zc2 T F o.dst (.raw undef),H⟩
    |false=>none)=some r->Sim T w0 S0 ⟨F,H⟩ F' w S φ->zs1 ops F' o=some false->G k F' w:=by
   intro F a h O;split at a
   ·rename_i B;refine m k o.dst F' w ?_ (yl6 G g m s rest (k+1) D _ _ _ _ S φ a (h.slot rfl ⟨fun i Z=>(by cases Z),trivial⟩));unfold zy3;rw [V];simp only [O,B]
   ·cases a
  unfold qp0 at a;simp only at a;split at a
  ·rename_i z;exact p F a h (by unfold zs1;rw [z])
  ·rename_i j b z;split at a
   ·cases a
   ·rename_i d E;have e: ∀v,F'.get d=some v->ya5 ops F' j=match v with| .bool b=>some (some b)| .tuple _=>some none|_=>none:=by
     intro v I;unfold vt6 at E;unfold ya5;rw [E];simp only [I];cases v<;>rfl
    split at a
    ·rename_i c L;obtain ⟨v,I,t⟩:=h.fr d _ L;have:=zf1 t;subst this;have e:=e _ I;simp only at e;have M:=h.again L;rcases zh9 a with ⟨q,a⟩|⟨q,a⟩
     ·have q:c=true:=q;subst q;cases b with
      |true=>exact p _ a M (by unfold zs1;rw [z];simp only [e];rfl)
      |false=>exact f _ a M (by unfold zs1;rw [z];simp only [e];rfl)
     ·have q:c=false:=q;subst q;cases b with
      |true=>exact f _ a M (by unfold zs1;rw [z];simp only [e];rfl)
      |false=>exact p _ a M (by unfold zs1;rw [z];simp only [e];rfl)
    ·rename_i u L;obtain ⟨v,I,t⟩:=h.fr d _ L;rw [VR] at t;subst t;have e:=e _ I;simp only at e;exact f _ a h (by unfold zs1;rw [z];simp only [e];cases b<;>rfl)
    ·cases a
def vl0 {R:Type} {a b:Option R} {r:R} (h:both a b=some r):a=some r/\b=some r:=by
 unfold both at h;split at h
 ·rename_i c;exact ⟨h,c▸h⟩
 ·cases h
def vk9 {R} (a:Option R):both a a=a:=by unfold both;rw [if_pos rfl]
def vn8 {R} (e:Bool) (a:Option R):gk6 e a a=a:=by cases e;rfl;exact vk9 a
def qi2 {R:Type} {r:R} (hE:zc5 T P C.E) (L:dec ops k n F'=some o) {K:St T->Option R} {Kp:AV T.U->St T->Option R} (d:vw5 P C o ⟨F,H⟩ K Kp=some r) (h:Sim T w0 S0 ⟨F,H⟩ F' w S φ)
  (M: ∀st,K st=some r->zx4 P ops Q (k+1) n ds w0 S0 st) (HP: ∀a st,Kp a st=some r->ym2 Q n ds w0 S0 a st):WR P ops Q k n ds F' w:=by
 unfold vw5 at d;split at d
 ·rename_i neg e kn j;unfold um3 at j;split at j<;>try (cases j;done)
  rename_i b t x y ty N;split at j<;>try (cases j;done)
  rename_i et hu;split at j<;>try (cases j;done)
  rename_i g a p O hx;split at j<;>try (cases j;done)
  rename_i V f;simp only [X0,X7] at j;obtain ⟨rfl,rfl,rfl⟩:=j;have hb:b=if g then .neq else .eql:=by cases b<;>simp [gk4] at p<;>subst p<;>rfl
  obtain ⟨X,h1,s⟩:=w4 h.fr hx;obtain ⟨m,c,rfl⟩: ∃m c,y=.const (.slice none m c):=by
   unfold kj2 at O;split at O
   ·exact ⟨_,_,rfl⟩
   ·cases O
  have W: ∃ad A c',X=.slice ad A c'/\(V=false->ad.isNone=false)/\(ul9 a=true->V=true->ad.isNone=true):=by
   unfold ki3 at f;split at f<;>try (cases f;done)
   ·rename_i Z xs;simp only [X0] at f;have s:CR T w S (.list Z) xs X:=s;cases s with
    |list _ _ ad cap u hcap l D _ _=>
     refine ⟨ad,_,_,rfl,fun G=>?_,fun q=>by cases q⟩;cases ad with
     |some _=>rfl
     |none=>
      have:=(l rfl).1;rw [G] at f;cases xs with
      |nil=>cases f
      |cons _ _=>cases this
   ·rename_i Z xs;simp only [X0] at f;have s:CR T w S (.nl Z) xs X:=s;cases s with
    |nl _ _ ad cap h3 I=>
     refine ⟨ad,_,_,rfl,fun G=>?_,fun _ ht=>?_⟩
     ·cases ad with
      |some _=>rfl
      |none=>
       rw [G] at f;cases xs with
       |nil=>cases f
       |cons _ _=>cases h3 with
        |list _ _ _ _ _ _ l _ _ _=>have:=(l rfl).1;cases this
     ·rw [ht] at f;cases xs with
      |nil=>rw [(I rfl).1];rfl
      |cons _ _=>cases f
   ·rename_i i;split at f<;>try (cases f;done)
    rename_i et' ty' xs hi;simp only [X0] at f;rw [VR] at s;subst s;obtain ⟨B,vals,q1,q2,_⟩:=h.ents i _ hi;refine ⟨_,_,_,rfl,fun G=>?_,fun q=>by cases q⟩;cases D:(φ i).ad with
    |some _=>rfl
    |none=>
     have:=(q1.nil0 D).1;rw [q2] at this;rw [G] at f;cases xs with
     |nil=>cases f
     |cons _ _=>cases this
  obtain ⟨ad,A,c',rfl,v,hkn⟩:=W;have J:(execOp (evD F') o).run P w=.ok (.value (.bool (jm3 g ad.isNone))) w:=by
   have g1:=yv2 (P:=P) (t:=t) (X:=.slice ad A c') (Y:=.slice none m c) (b:=b) x (.const (.slice none m c)) rfl rfl (.inl (by simp)) w;have g2:=yt3 (P:=P) hb (X:=.slice ad A c') (Y:=.slice none m c) rfl rfl (fun w0=>(yt2 P hu m c ad A c' w0).2) w;obtain ⟨Y,h3,h4⟩:=w4 h.fr (show aev T F (.const (.slice none m c))=some (.raw (.slice none m c)) from rfl);rw [VR] at h4;subst h4;simp [execOp,N,w5 h1,w5 h3,g1,g2]
  have hk:K ⟨zc2 T F o.dst (cB T (jm3 g ad.isNone)),H⟩=some r:=by
   unfold um2 at d;split at d
   ·rename_i hq;unfold j8 at d;cases V with
    |true=>rw [hkn hq rfl];exact d
    |false=>rw [v rfl];exact d
   unfold gk6 at d;split at d
   ·obtain ⟨k1,k2⟩:=vl0 d;cases ad with
    |none=>exact k1
    |some _=>exact k2
   ·rw [v rfl];exact d
  exact WR.val L J (M _ hk _ _ ⟨S,φ,h.slot (a:=cB T (jm3 g ad.isNone)) (CR.bool _) (zm6 rfl (by intro _ _ _ _ e;cases e))⟩)
 ·split at d
  ·rename_i z I;subst d;exact qi1 L I h M
  ·split at d
   ·rename_i z I;subst d;exact qi3 L I h M
   ·exact yz7 hE L d h M HP
def jv6 {R:Type} {r:R} (f:zc5 T P C.E) {K:St T->Option R} {c:AV T.U->St T->Option R} (d: ∀st,K st=some r->vt1 Q n ds w0 S0 st) (g: ∀a st,c a st=some r->ym2 Q n ds w0 S0 a st)
  (i:um8 P C ops n c K ⟨F,H⟩=some r) (h:Sim T w0 S0 ⟨F,H⟩ F' w S φ):WR P ops Q 0 n ds F' w:=by
 refine yl6 (w0:=w0) (S0:=S0) (K:=K) (stp:=fun o st K=>vw5 P C o st K c) (r:=r) (fun k F' w=>WR P ops Q k n ds F' w) ?_ ?_ ?_ ops.toList 0 rfl F H F' w S φ i h
 ·intro k o F H F' w S φ K j l h d;exact qi2 f j l h (fun st b F1 m ⟨S1,e,p⟩=>d st b F1 m S1 e p) g
 ·intro k dst F' w q K;exact WR.pass1 q K
 ·intro k st F' w S φ s b h;exact .fin (W3 s) fun a t=>d st b F' w ⟨S,φ,h⟩ a t
def qi4 {R:Type} {r:R} {Qf:Act->Prop} (hE:zc5 T P C.E) (hd:dec ops k n F'=some o) {K:AV T.U->Option R} (hs:vw6 P C o ⟨F,H⟩ K=some r) (h:Sim T w0 S0 ⟨F,H⟩ F' w S φ)
  (HK: ∀a v,K a=some r->VR T w S φ a v->okA H a->WQ P ops (fun w'=>Chg [] w w') Qf (k+1) n ds (upd F' o.dst v)):WQ P ops (fun w'=>Chg [] w w') Qf k n ds F':=by
 have hread:zu3 P o ⟨F,H⟩ K=some r->WQ P ops (fun w'=>Chg [] w w') Qf k n ds F':=fun hs=>
  kp6 hd hs h fun a v hK hq hv hok=>WQ.step hd (fun w1 hw=>by rw [hq w1 (ve0 hw S) (Same.pure hw)];exact ⟨rfl,rfl⟩) (HK a v hK hv hok)
 unfold vw6 at hs;split at hs
 ·rename_i hop;split at hs
  ·exact hread hs
  ·unfold gi3 at hs;split at hs
   ·cases hs
   ·rename_i aS has;split at hs
    ·rename_i f hc;split at hs
     ·rename_i g first caps hf
      split at hs
      ·rename_i cs he hcs;split at hs
       ·rename_i hall;obtain ⟨vs,h1,h2,h3⟩:=jd9 hop hc hf has he hall h;obtain ⟨a,v,g1,g3,g4,g5⟩:=(hE g cs hcs).2.1 _ H K r hs w0 S0 F F' w S φ h vs h1 h2;refine WQ.step hd (fun w1 hw=>?_) (HK a v g1 g3 g4);rw [h3 w1];refine ⟨rfl,(g5 w1 (ve0 hw S) (Same.pure hw)).mono fun e w'' hR=>?_⟩;cases e with
        |returned u=>obtain ⟨q1,q2⟩:=hR;exact ⟨by rw [q2],hw.pure q1⟩
        |panicked ch=>exact hR.elim
        |outgrown=>exact hR.elim
       ·cases hs
      ·cases hs
     ·cases hs
    ·cases hs
 ·exact hread hs
def qw0 {R:Type} {r:R} (f:zc5 T P C.E) {K:St T->Option R} (b: ∀st,K st=some r->vt1 Q n ds w0 S0 st) (g:um9 P C ops n K ⟨F,H⟩=some r) (h:Sim T w0 S0 ⟨F,H⟩ F' w S φ):
  WQ P ops (fun w'=>Chg [] w w') (fun c=> ∀w',Chg [] w w'->Q .normal c w') 0 n ds F':=by
 refine yl6 (w0:=w0) (S0:=S0) (K:=K) (stp:=fun o st K=>vw6 P C o st fun a=>K ⟨zc2 T st.F o.dst a,st.H⟩) (r:=r) (fun k F' w=>WQ P ops (fun w'=>Chg [] w w') (fun c=> ∀w',Chg [] w w'->Q .normal c w') k n ds F') ?_ ?_ ?_ ops.toList 0 rfl F H F' w S φ g h
 ·intro k o F H F' w S φ K i j h b;exact qi4 f i j h fun a v l m d=>b _ l _ w S φ (h.slot m d)
 ·intro k dst F' w p K;exact WQ.pass1 p K
 ·intro k st F' w S φ q e h;exact WQ.fin (W3 q) fun w' s a t=>b st e F' w' ⟨S,φ,h.pure s⟩ a t
end
end Go.X
namespace Go.X
open Go.RowKit Go.V
section
variable (T:Tab)
def Ent.ren {U:Nat->Type} (ρ:Nat->Nat):Ent U->Ent U
 | .blk e cs=>.blk e (zi5 ρ cs)
 | .row e t xs=>.row e t xs
 | .map k es=>.map k (jz9 ρ es)
 | .tmap k t m=>.tmap k t m
 | .drow e d fe xs a=>.drow e d fe xs (vy1 ρ a)
 | .pmap k b d m a=>.pmap k b d m (vy0 ρ a)
 | .hid=>.hid
 | .gone=>.gone
def zo4 (F:AF T):List Nat->AF T
 | []=> []
 |i::r=>match F.get T i with|some a=>(i,a)::zo4 F r|none=>zo4 F r
def jm1:AF T->List Nat
 | []=> []
 |(_,a)::r=>a.ids++jm1 r
def vf0 (H:List (Ent T.U)):List Nat->List Nat
 | []=> []
 |i::r=>match H[i]? with|some e=>e.cellIds++vf0 H r|none=>vf0 H r
def qa7 (H:List (Ent T.U)):Nat->List Nat->List Nat
 |0,l=>l
 |n+1,l=>let l':=vd4 l (vf0 T H l);match Nat.beq l'.length l.length with|true=>l|false=>qa7 H n l'
def zd9 (H:List (Ent T.U)) (ρ:Nat->Nat):List Nat->List (Ent T.U)
 | []=> []
 |i::r=>match H[i]? with|some e=>e.ren ρ::zd9 H ρ r|none=>.gone::zd9 H ρ r
def vi7 (ρ:Nat->Nat):AF T->AF T
 | []=> []
 |(i,a)::r=>(i,a.ren ρ)::vi7 ρ r
def vy3 (l:List Nat):List Nat->Bool| []=>true|i::r=>zx9 i l&&vy3 l r
structure Cut where
 l:List Nat
 nils:List (Nat×TypeId×Ty)
 whole:Bool
 bn:List (Nat×Nat×TypeId×Ty)
 dz:Nat
 inl:Bool
abbrev gd5:Nat:=4000000000
abbrev vl4:Nat:=4000000001
def zt0 (e:TypeId):Ty->Ent T.U
 | .nl (.user d)=>.drow e d (T.fe d) [] none
 |t=>.row e t []
def ze8:List (Nat×Nat×TypeId×Ty)->List (Ent T.U)->List (Ent T.U)
 | [],H=>H
 |(i,c,e,t)::r,H=>match Nat.beq e vl4 with
  |true=>ze8 r (closeL T (List.range H.length) H)
  |false=>match H[i]? with
  |some (.blk e0 cs)=>match cs[c]? with
   |some (.raw (.slice none 0 0))=>ze8 r (H.set i (.blk e0 (cs.set c (.own H.length)))++ [zt0 T e t])
   |some (.own k)=>match Nat.beq e gd5 with
    |true=>match H[k]? with
     |some (.row _ a xs)=>ze8 r (H.set i (.blk e0 (cs.set c (.sl k (szT T a) 0 xs.length))))
     |_=>ze8 r H
    |false=>ze8 r H
   |_=>ze8 r H
  |_=>ze8 r H
def yt6:List (Nat×TypeId×Ty)->St T->St T
 | [],st=>st
 |(s,e,t)::r,st=>match st.F.get T s with
  |some (.raw (.slice none 0 0))=>yt6 r ⟨(s,.own st.H.length)::st.F,st.H++ [zt0 T e t]⟩
  |_=>yt6 r st
def vu3 (m:Nat) (ids:List Nat):Bool:=(List.range m).all fun k=>match ids[k]? with|some j=>Nat.beq j k|none=>false
def wa0 (m:Nat) (l:List Nat) (st:St T):Option (St T):=
 let F1:=zo4 T st.F l
 let ids:=qa7 T st.H (st.H.length+1) (vd4 (List.range m) (jm1 T F1))
 match vu3 m ids&&(ze6 ids&&(ids.all (fun i=>Nat.blt i st.H.length)&&(vy3 ids (jm1 T F1)&&vy3 ids (vf0 T st.H ids)))) with
 |true=>some ⟨vi7 T (fun i=>qk2 i ids) F1,zd9 T st.H (fun i=>qk2 i ids) ids⟩
 |false=>none
end
section
variable {T:Tab}
def zz8 {l}: ∀ {m},vy3 l m=true-> ∀i∈m,i∈l
 | [],_,i,h=>by cases h
 |j::r,h,i,a=>by
  unfold vy3 at h;simp only [X3] at h;rcases Z0.1 a with rfl|a
  ·exact zb9.1 h.1
  ·exact zz8 h.2 i a
def yi2 {F i a}: ∀ {l},(zo4 T F l).get T i=some a->F.get T i=some a
 | [],h=>by simp [zo4,AF.get] at h
 |j::r,h=>by
  unfold zo4 at h;split at h
  ·rename_i u b;simp only [AF.get] at h;split at h
   ·rename_i c;have:=X1 c;subst this;rw [b];exact h
   ·exact yi2 h
  ·exact yi2 h
def yr7 {i a}: ∀ {F},F.get T i=some a-> ∀j∈a.ids,j∈jm1 T F
 | [],h,_,_=>by simp [AF.get] at h
 |(k,b)::r,h,j,c=>by
  simp only [AF.get] at h;unfold jm1;split at h
  ·simp only [X0] at h;subst h;exact X4.2 (.inl c)
  ·exact X4.2 (.inr (yr7 h j c))
def jk6 {ρ i b}: ∀ {F},(vi7 T ρ F).get T i=some b-> ∃a,F.get T i=some a/\b=a.ren ρ
 | [],h=>by simp [vi7,AF.get] at h
 |(k,c)::r,h=>by
  simp only [vi7,AF.get] at h⊢;split at h
  ·simp only [X0] at h;exact ⟨c,rfl,h.symm⟩
  ·exact jk6 h
def zk5 {H:List (Ent T.U)} {ρ:Nat->Nat} {j:Nat} {e:Ent T.U}: ∀ {l:List Nat},(zd9 T H ρ l)[j]?=some e-> ∃i,l[j]?=some i/\((∃e0,H[i]?=some e0/\e=e0.ren ρ)\/e=.gone)
 | [],h=>by simp [zd9] at h
 |i::r,h=>by
  unfold zd9 at h;split at h
  ·rename_i e0 a;cases j with
   |zero=>simp at h;exact ⟨i,rfl,.inl ⟨e0,a,h.symm⟩⟩
   |succ j=>simp at h;simpa using zk5 h
  ·cases j with
   |zero=>simp at h;exact ⟨i,rfl,.inr h.symm⟩
   |succ j=>simp at h;simpa using zk5 h
def yc0 {H ρ}: ∀(l),(zd9 T H ρ l).length=l.length
 | []=>rfl
 |i::r=>by unfold zd9;split<;>simp [yc0 r]
def yd7 {H i e} (a:H[i]?=some e): ∀ {l},i∈l-> ∀j∈e.cellIds,j∈vf0 T H l
 | [],h,_,_=>by cases h
 |k::r,h,j,b=>by
  unfold vf0;rcases Z0.1 h with rfl|h
  ·rw [a];exact X4.2 (.inl b)
  ·split
   ·exact X4.2 (.inr (yd7 a h j b))
   ·exact yd7 a h j b
mutual
def jh2 {U ρ}: ∀a:AV U,(a.ren ρ).ids=a.ids.map ρ
 | .cell _=>by rw [AV.ren];rfl
 | .ptr _ _=>by rw [AV.ren];rfl
 | .eptr _ _ _ _=>by rw [AV.ren];rfl
 | .lptr _ _ _ _=>by rw [AV.ren];rfl
 | .own _=>by rw [AV.ren];rfl
 | .sl _ _ _ _=>by rw [AV.ren];rfl
 | .agg cs=>by rw [AV.ren,AV.ids,AV.ids,zq6 cs]
 | .tup cs=>by rw [AV.ren,AV.ids,AV.ids,zq6 cs]
 | .fn _ a b=>by rw [AV.ren,AV.ids,AV.ids,zq6 a,zq6 b,V6]
 | .ifc _ a=>by rw [AV.ren,AV.ids,AV.ids,jh2 a]
 | .raw _=>by rw [AV.ren];rfl
 | .arr _ _ _=>by rw [AV.ren];rfl
 | .aptr _ _ _ _ _ _=>by rw [AV.ren];rfl
 | .asl _ _ _ _ _ _=>by rw [AV.ren];rfl
 | .mp _=>by rw [AV.ren];rfl
 | .hmp _=>by rw [AV.ren];rfl
def zq6 {U ρ}: ∀l:List (AV U),v8 (zi5 ρ l)=(v8 l).map ρ
 | []=>rfl
 |a::r=>by rw [zi5,v8,v8,jh2 a,zq6 r,V6]
end
def qp3 {U ρ}: ∀l:List (Int×AV U),idsM (jz9 ρ l)=(idsM l).map ρ
 | []=>rfl
 |(x,a)::r=>by rw [jz9,idsM,idsM,jh2 a,qp3 r,V6]
def kg0 {U ρ} (b:Option (Nat×List (AV U))):gj3 (vy1 ρ b)=(gj3 b).map ρ:=by
 cases b with
 |none=>rfl
 |some p=>obtain ⟨a,cs⟩:=p;exact zq6 cs
def kf9 (ρ a):ki8 (vy0 ρ a)=(ki8 a).map ρ:=by cases a<;>rfl
def Ent.ren_cellIds {U ρ} (e:Ent U):(e.ren ρ).cellIds=e.cellIds.map ρ:=by cases e<;>first|rfl|exact zq6 _|exact qp3 _|exact kg0 _|exact kf9 _ _
def Ent.ren_live {U ρ} (e:Ent U):(e.ren ρ).live=e.live:=by cases e<;>rfl
def Sim.renum {w0 S0 F F1 H Z w S φ} (h:Sim T w0 S0 ⟨F,H⟩ Z w S φ) (ids) (hF: ∀i a,F1.get T i=some a->F.get T i=some a)
  (hn:ze6 ids=true) (hp: ∀k,k<S0.pin.length->ids[k]?=some k) (h1: ∀i∈jm1 T F1,i∈ids) (N: ∀i∈vf0 T H ids,i∈ids):
  Sim T w0 S0 ⟨vi7 T (fun i=>qk2 i ids) F1,zd9 T H (fun i=>qk2 i ids) ids⟩ Z w S (fun j=>φ (ids.getD j 0)):=by
 have p: ∀i∈ids,φ (ids.getD (qk2 i ids) 0)=φ i:=by
  intro i hi;rw [Y2,(zs9 hi).2];rfl
 have q: ∀ {j i:Nat},ids[j]?=some i->φ (ids.getD j 0)=φ i:=by
  intro j i A;rw [Y2,A];rfl
 refine ⟨?_,?_,h.chg,h.own,h.ex,?_,fun k r o=>?_,?_,?_,?_⟩
 ·intro i b M;obtain ⟨a,s,rfl⟩:=jk6 M;obtain ⟨v,C,R⟩:=h.fr i a (hF i a s);exact ⟨v,C,R.ren T fun j A=>p j (h1 j (yr7 s j A))⟩
 ·intro i b M;obtain ⟨a,s,rfl⟩:=jk6 M;obtain ⟨C,R⟩:=h.ids i a (hF i a s);have O:=fun j A=>h1 j (yr7 s j A);refine ⟨?_,?_⟩
  ·intro j A;rw [jh2] at A;obtain ⟨k,o,rfl⟩:=U0.1 A;simp only [yc0];exact (zs9 (O k o)).1
  ·cases a with
   |eptr j sz k c=>
    rw [AV.ren];intro e t xs hx;obtain ⟨i',n,f⟩:=zk5 hx;have A:=O j (by simp [AV.ids]);rw [(zs9 A).2] at n;simp only [X0] at n;subst n;rcases f with ⟨e0,f,u⟩|f
    ·cases e0 with
     |row V t1 ys=>
      simp only [Ent.ren,Ent.row.injEq] at u;obtain ⟨rfl,rfl,u⟩:=u;have:=eq_of_heq u;subst this;exact R _ _ _ f
     |blk _ _=>cases u
     |map _ _=>cases u
     |tmap _ _ _=>cases u
     |drow _ _ _ _ _=>cases u
     |pmap _ _ _ _ _=>cases u
     |hid=>cases u
     |gone=>cases u
    ·cases f
   |_=>rw [AV.ren]<;>trivial
 ·intro j e G I a s;obtain ⟨i,n,f⟩:=zk5 G;rcases f with ⟨e0,f,rfl⟩|rfl
  ·rw [q n] at s;exact h.lives i e0 f (by rw [Ent.ren_live] at I;exact I) a s
  ·cases I
 ·have P:=hp k (X2.1 o).1;refine ⟨by rw [q P];exact (h.pins k r o).1,?_⟩;simp only [yc0];exact (X2.1 P).1
 ·intro j e G;obtain ⟨i,n,f⟩:=zk5 G;rcases f with ⟨e0,f,rfl⟩|rfl
  ·have C:=h.ents i e0 f;cases e0 with
   |blk V cs=>
    obtain ⟨g,c,x,y,D,E⟩:=C;refine ⟨g,c,(congrArg RA.ad (q n)).trans x,y,D,E.ren T fun k o=>p k (N k (yd7 f (X6 n) k o))⟩
   |row V t xs=>
    obtain ⟨B,z,x,y,D,E,J⟩:=C;simp only [EntR,q n];exact ⟨B,z,x,y,D,E,J⟩
   |map k es=>
    obtain ⟨g,l,c,x,y,D,E,J⟩:=C;refine ⟨g,l,c,(congrArg RA.ad (q n)).trans x,y,D,E.ren T fun k o=>p k (N k (yd7 f (X6 n) k o)),J⟩
   |tmap k t m=>
    obtain ⟨g,l,c,x,y⟩:=C;exact ⟨g,l,c,(congrArg RA.ad (q n)).trans x,y⟩
   |drow V d fe xs op=>
    obtain ⟨B,z,x,y,D,E,J⟩:=C;simp only [Ent.ren,EntR,q n];exact ⟨B,z,x,y,D,E,J.renS T fun k o=>RSame.of (p k (N k (yd7 f (X6 n) k o)))⟩
   |pmap k be d m op=>
    obtain ⟨g,l,c,bs,x,y,D,E,J⟩:=C;simp only [Ent.ren,EntR,q n];exact ⟨g,l,c,bs,x,y,D,E.renS T fun k o=>RSame.of (p k (N k (yd7 f (X6 n) k o))),J⟩
   |hid=>simp only [Ent.ren,EntR,q n];exact C
   |gone=>trivial
  ·trivial
 ·intro j e G k o;obtain ⟨i,n,f⟩:=zk5 G;rcases f with ⟨e0,f,rfl⟩|rfl
  ·rw [Ent.ren_cellIds] at o;obtain ⟨m,hm,rfl⟩:=U0.1 o;simp only [yc0];exact (zs9 (N m (yd7 f (X6 n) m hm))).1
  ·cases o
 ·intro j k e e' G W I K X a b s M;obtain ⟨i,n,f⟩:=zk5 G;obtain ⟨i',Q,L⟩:=zk5 W;rcases f with ⟨e0,f,rfl⟩|rfl
  ·rcases L with ⟨Y,L,rfl⟩|rfl
   ·rw [q n] at s;rw [q Q] at M;rw [Ent.ren_live] at I K;exact h.apart i i' e0 Y f L I K (fun e=>X (by subst e;exact zu2 hn n Q)) a b s M
   ·cases K
  ·cases I
def yn8 {m ids} (h:vu3 m ids=true) {k} (a:k<m):ids[k]?=some k:=by
 unfold vu3 at h;rw [Y8] at h;have:=h k (V9.2 a);split at this
 ·rename_i j b;rw [b,X1 this]
 ·cases this
def ji2 {w0 S0 st c e w m l} (f:S0.pin.length<=m) (h:zd2 T w0 S0 st e w) (b:wa0 T m l st=some c):zd2 T w0 S0 c e w:=by
 obtain ⟨S,φ,h⟩:=h;unfold wa0 at b;simp only at b;split at b
 ·rename_i d;simp only [X3] at d;simp only [X0] at b;subst b;exact ⟨S,_,h.renum _ (fun i a g=>yi2 g) d.2.1 (fun k j=>yn8 d.1 (V5 j f)) (zz8 d.2.2.2.1) (zz8 d.2.2.2.2)⟩
 ·cases b
def qu2 (e t):(zt0 T e t).cellIds= []:=by unfold zt0;split<;>rfl
def qu3 {w S φ i} (b:φ i=⟨none,0,0,[]⟩) (e t):EntR T w S φ i (zt0 T e t):=by
 unfold zt0;split
 ·exact ⟨w.heap.size,[],by rw [b];exact Own.nil _ _ _ _,by rw [b];rfl,W6 _,(fun a d=>by rw [b] at d;cases d),⟨(fun j c v h=>by simp at h),(fun j f c c' v g _ h=>by simp at h),(fun a cs h=>by cases h)⟩⟩
 ·exact ⟨w.heap.size,[],by rw [b];exact Own.nil _ _ _ _,by rw [b];rfl,W6 _,⟨rfl,fun j c v h=>by simp at h⟩,fun a d=>by rw [b] at d;cases d⟩
def Sim.addNilE {w0 S0 F H b w S φ} (h:Sim T w0 S0 ⟨F,H⟩ b w S φ) (e t):Sim T w0 S0 ⟨F,H++ [zt0 T e t]⟩ b w S (setR φ H.length ⟨none,0,0,[]⟩):=
 h.addG (Chg.refl [] w) (by simp) (by simp) (fun _ _ _ _ _ _=>by simp) (S':=S) (fun _ h=>h) (fun _ h=>.inl h) (r:=⟨none,0,0,[]⟩) (fun a h=>by cases yb7 h) (fun a h=>by cases yb7 h) (e:=zt0 T e t)
  (qu3 (by rw [w6]) e t) (fun j c=>by rw [qu2] at c;cases c)
def zx1 {w0 S0 c w}: ∀(l) {st},zd2 T w0 S0 st c w->zd2 T w0 S0 (yt6 T l st) c w
 | [],_,h=>h
 |(s,e,t)::r,st,h=>by
  unfold yt6;split
  ·rename_i g;refine zx1 r ?_;obtain ⟨S,φ,h⟩:=h;obtain ⟨v,j,d⟩:=h.fr s _ g;rw [VR] at d;subst d;have b:=h.addNilE e t;exact ⟨S,_,b.seen j (a:=.own st.H.length) (by rw [VR,w6]) ⟨fun i f=>by simp [AV.ids] at f;subst f;simp,trivial⟩⟩
  ·exact zx1 r h
def Sim.addNil {w0 S0 F H b w S φ} (h:Sim T w0 S0 ⟨F,H⟩ b w S φ) (e t):Sim T w0 S0 ⟨F,H++ [.row e t []]⟩ b w S (setR φ H.length ⟨none,0,0,[]⟩):=
 h.addG (Chg.refl [] w) (by simp) (by simp) (fun _ _ _ _ _ _=>by simp) (S':=S) (fun _ h=>h) (fun _ h=>.inl h) (r:=⟨none,0,0,[]⟩) (fun a h=>by cases yb7 h) (fun a h=>by cases yb7 h) (e:=.row e t [])
  ⟨w.heap.size,[],by rw [w6];exact Own.nil _ _ _ _,by rw [w6];rfl,W6 _,⟨rfl,fun j c v h=>by simp at h⟩,fun a d=>by rw [w6] at d;cases d⟩ (fun j f=>by cases f)
def we1 {w0 S0 F H k w S φ} (h:Sim T w0 S0 ⟨F,H⟩ k w S φ) {i e t xs} (l:H[i]?=some (.row e t xs)) {v} (f:VR T w S φ (.own i) v):VR T w S φ (.sl i (szT T t) 0 xs.length) v:=by
 obtain ⟨B,g,b,j,m,o,p⟩:=h.ents i _ l;rw [VR] at f;subst f;rw [j] at b;refine ⟨(φ i).ad,?_,?_,?_,fun d=>b.nil0 d,fun _=>rfl⟩
 ·show Value.slice (φ i).ad (φ i).n (φ i).cap=Value.slice (φ i).ad xs.length ((φ i).cap-0);rw [j];rfl
 ·show 0+xs.length<=(φ i).cap;rw [W7];exact b.le.1
 rcases b.cases with ⟨_,d,_⟩|⟨c,a,_⟩
 ·exact .inl d
 ·refine .inr ⟨_,a,a.trans ?_⟩;show some (⟨_,0,none⟩:Addr)=some ⟨_,0+0*_,none⟩;rw [K7]
def Sim.cellSl {w0 S0 F H l w S φ} (h:Sim T w0 S0 ⟨F,H⟩ l w S φ) {i c k e0 e cs t xs}
  (f:H[i]?=some (.blk e0 cs)) (m:cs[c]?=some (.own k)) (o:H[k]?=some (.row e t xs)):Sim T w0 S0 ⟨F,H.set i (.blk e0 (cs.set c (.sl k (szT T t) 0 xs.length)))⟩ l w S φ:=by
 obtain ⟨g,p,q,r,s,u⟩:=h.ents i _ f;refine h.upd (i:=i) (e0:=.blk e0 cs) (e:=.blk e0 (cs.set c (.sl k (szT T t) 0 xs.length))) (Tc:= []) (w':=w) f rfl (Chg.refl [] w) (by simp)
  ⟨g,p,q,r,s,BR.swap (b:=.sl k (szT T t) 0 xs.length) rfl rfl (fun v x=>we1 h o x) u m⟩ ?_ (by intro _ _ _ h;cases h)
 intro j n;rw [Ent.cellIds] at n;obtain ⟨b,d,a⟩:=zq1 n;rcases K3 d with d|d
 ·exact h.eids i _ f j (by rw [Ent.cellIds];exact zh7 d j a)
 ·subst d;have y:(AV.own k:AV T.U)∈cs:=X6 m;simp only [AV.ids,Q4] at a;subst a;exact h.eids i _ f j (by rw [Ent.cellIds];exact zh7 y j (by simp [AV.ids]))
def ze3 {w0 S0 F p w}: ∀(l) {H},zd2 T w0 S0 ⟨F,H⟩ p w->zd2 T w0 S0 ⟨F,ze8 T l H⟩ p w
 | [],_,h=>h
 |(i,c,e,t)::r,H,h=>by
  unfold ze8;split
  ·exact ze3 r (jx2 _ h)
  split
  ·rename_i e0 cs f;split
   ·rename_i o;refine ze3 r ?_;obtain ⟨S,φ,h⟩:=h;have q:=h.addNilE e t;have a:=(X2.1 f).1;obtain ⟨g,y,z,A,B,C⟩:=q.ents i _ (by rw [X8 a];exact f);have s:=q.upd (i:=i) (e0:=.blk e0 cs) (e:=.blk e0 (cs.set c (.own H.length))) (Tc:= []) (w':=w) (by rw [X8 a];exact f) rfl (Chg.refl [] w) (by simp)
     ⟨g,y,z,A,B,BR.swap (b:=.own H.length) rfl rfl (fun v u=>by rw [VR] at u;subst u;rw [VR,w6]) C o⟩
     (by
      intro j x;rw [Ent.cellIds] at x;obtain ⟨b,m,d⟩:=zq1 x;rcases K3 m with m|m
      ·have:=h.eids i _ f j (by rw [Ent.cellIds];exact zh7 m j d);simp at this⊢;omega
      ·subst m;simp [AV.ids] at d;subst d;simp) (by intro _ _ _ h;cases h)
    have n:(H++ [zt0 T e t]).set i (.blk e0 (cs.set c (.own H.length)))=H.set i (.blk e0 (cs.set c (.own H.length)))++ [zt0 T e t]:=by
     rw [List.set_append_left _ _ a]
    rw [n] at s;exact ⟨S,_,s⟩
   ·rename_i k o;split
    ·split
     ·rename_i E G xs D;obtain ⟨S,φ,h⟩:=h;exact ze3 r ⟨S,φ,h.cellSl f o D⟩
     ·exact ze3 r h
    ·exact ze3 r h
   ·exact ze3 r h
  ·exact ze3 r h
end
end Go.X
namespace Go.X
open Go.RowKit Go.V
section
variable {T:Tab} {w:World} {S:List Nat} {φ φ':Nat->RA}
def Ent.plain {U:Nat->Type}:Ent U->Bool| .drow _ _ _ _ _=>false| .pmap _ _ _ _ _=>false| .hid=>false|_=>true
def EntR.renS {ρ i e} (h:EntR T w S φ i e) {j} (s:RSame (φ' j) (φ i)) (u:e.plain=true\/(φ' j).xs=(φ i).xs) (x: ∀k∈e.cellIds,RSame (φ' (ρ k)) (φ k)):EntR T w S φ' j (e.ren ρ):=by
 obtain ⟨v,y,z⟩:=s;cases e with
 |blk e cs=>obtain ⟨g,c,f,n,p,q⟩:=h;exact ⟨g,c,by rw [v];exact f,n,p,q.renS T x⟩
 |row e t xs=>obtain ⟨B,o,f,n,p,q,r⟩:=h;simp only [Ent.ren,EntR,v,y,z];exact ⟨B,o,f,n,p,q,r⟩
 |map k es=>obtain ⟨g,l,c,f,n,p,q,r⟩:=h;exact ⟨g,l,c,by rw [v];exact f,n,p,q.renS T x,r⟩
 |tmap k t m=>obtain ⟨g,l,c,f,n⟩:=h;exact ⟨g,l,c,by rw [v];exact f,n⟩
 |drow e d fe xs A=>
  have s:φ' j=φ i:=by
   replace u:=u.resolve_left (by simp [Ent.plain])
   generalize φ' j=a at *;generalize φ i=b at *;cases a;cases b;simp_all
  obtain ⟨B,o,f,n,p,q,r⟩:=h;simp only [Ent.ren,EntR,s];exact ⟨B,o,f,n,p,q,r.renS T x⟩
 |pmap k D d m A=>
  have s:φ' j=φ i:=by
   replace u:=u.resolve_left (by simp [Ent.plain])
   generalize φ' j=a at *;generalize φ i=b at *;cases a;cases b;simp_all
  obtain ⟨g,l,c,C,f,n,p,q,r⟩:=h;simp only [Ent.ren,EntR,s];exact ⟨g,l,c,C,f,n,p,q.renS T x,r⟩
 |hid=>exact ⟨v.trans h.1,(u.resolve_left (by simp [Ent.plain])).trans h.2⟩
 |gone=>trivial
def EntR.ren {ρ i e} (h:EntR T w S φ i e) {j} (p:φ' j=φ i) (r: ∀k∈e.cellIds,φ' (ρ k)=φ k):EntR T w S φ' j (e.ren ρ):=by
 cases e with
 |blk e cs=>obtain ⟨g,c,a,b,n,o⟩:=h;exact ⟨g,c,by rw [p];exact a,b,n,o.ren T r⟩
 |row e t xs=>obtain ⟨B,f,a,b,n,o,q⟩:=h;simp only [Ent.ren,EntR,p];exact ⟨B,f,a,b,n,o,q⟩
 |map k es=>obtain ⟨g,l,c,a,b,n,o,q⟩:=h;exact ⟨g,l,c,by rw [p];exact a,b,n,o.ren T r,q⟩
 |tmap k t m=>obtain ⟨g,l,c,a,b⟩:=h;exact ⟨g,l,c,by rw [p];exact a,b⟩
 |drow e d fe xs u=>obtain ⟨B,f,a,b,n,o,q⟩:=h;simp only [Ent.ren,EntR,p];exact ⟨B,f,a,b,n,o,q.renS T fun k s=>RSame.of (r k s)⟩
 |pmap k x d m u=>obtain ⟨g,l,c,v,a,b,n,o,q⟩:=h;simp only [Ent.ren,EntR,p];exact ⟨g,l,c,v,a,b,n,o.renS T fun k s=>RSame.of (r k s),q⟩
 |hid=>exact ⟨by rw [p];exact h.1,by rw [p];exact h.2⟩
 |gone=>trivial
end
end Go.X
namespace Go.X
open Go.RowKit Go.V
section
variable {T:Tab} {P:Program} {C:Ctx T} {R:Type} {r:R} {H:List (Ent T.U)} {o:Oper}
abbrev Det (f: {R:Type}->(AV T.U->Option R)->Option R) (K:AV T.U->Option R) (r:R):Prop:= ∃a,K a=some r/\ ∀ {c:Type} (b:AV T.U->Option c),f b=b a
def vo3 {c:Bool} {x y:AV T.U} {K:AV T.U->Option R} (h:jb1 c x y K=some r):Det (fun K=>jb1 c x y K) K r:=by
 unfold jb1 at h;split at h
 ·rename_i z a;exact ⟨z,h,fun d=>by simp only [jb1,a]⟩
 ·rename_i a;split at h
  ·rename_i e;by_cases b:c=true
   ·rw [if_pos b] at h;exact ⟨x,h,fun d=>by simp only [jb1,a,e,if_pos b]⟩
   ·rw [if_neg b] at h;exact ⟨y,h,fun d=>by simp only [jb1,a,e,if_neg b]⟩
  ·cases h
def ka7 {b x y K} (h:divA T b x y K=some r):Det (fun K=>divA T b x y K) K r:=by
 unfold divA at h;split at h
 ·split at h
  ·rename_i c;unfold divA.divI at h;obtain ⟨a,h⟩:=zx8 h;exact ⟨_,h,fun d=>by simp only [divA,c,divA.divI,if_neg a]⟩
  ·cases h
 ·split at h
  ·rename_i c;unfold divA.remI at h;obtain ⟨a,h⟩:=zx8 h;exact ⟨_,h,fun d=>by simp only [divA,c,divA.remI,if_neg a]⟩
  ·cases h
 ·unfold divA.shlI at h;obtain ⟨a,h⟩:=zx8 h;exact ⟨_,h,fun d=>by simp only [divA,divA.shlI,if_neg a]⟩
 ·unfold divA.shrI at h;obtain ⟨a,h⟩:=zx8 h;exact ⟨_,h,fun d=>by simp only [divA,divA.shrI,if_neg a]⟩
 ·cases h
def vs5 {s j K} (h:qe8 s j K=some r): ∃a,K a=some r/\ ∀ {d:Type} (c:Int->Option d),qe8 s j c=c a:=by
 unfold qe8 at h;split at h
 ·rename_i b e;exact ⟨_,h,fun c=>by simp only [qe8,e]⟩
 ·cases h
def qt3 {t s j K} (h:zw8 T P t H s j K=some r):Det (fun K=>zw8 T P t H s j K) K r:=by
 unfold zw8 at h;split at h
 ·split at h
  ·rename_i b;obtain ⟨a,h⟩:=za3 h;exact ⟨_,h,fun e=>by simp only [zw8,b,if_pos a]⟩
  ·cases h
 ·split at h
  ·rename_i c;split at h
   ·rename_i b;obtain ⟨a,h⟩:=za3 h;exact ⟨_,h,fun e=>by simp only [zw8,c,b,if_pos a]⟩
   ·cases h
  ·cases h
 ·split at h
  ·rename_i c;split at h
   ·rename_i b d;obtain ⟨a,h⟩:=za3 h;obtain ⟨g,h⟩:=za3 h;exact ⟨_,h,fun e=>by simp only [zw8,c,b,d,if_pos a,if_pos g]⟩
   ·cases h
  ·rename_i c;split at h
   ·rename_i s d;split at h
    ·rename_i f;obtain ⟨a,h⟩:=za3 h;exact ⟨_,h,fun e=>by simp only [zw8,c,d,f,if_pos a]⟩
    ·cases h
   ·cases h
  ·cases h
 ·split at h
  ·rename_i s d;split at h
   ·rename_i f;obtain ⟨a,h⟩:=za3 h;exact ⟨_,h,fun e=>by simp only [zw8,d,f,if_pos a]⟩
   ·cases h
  ·cases h
 ·cases h
def qw7 {t s e c K} (h:yb4 T P t H s e c K=some r):Det (fun K=>yb4 T P t H s e c K) K r:=by
 unfold yb4 at h;split at h
 ·simp only at h;split at h
  ·rename_i a;obtain ⟨b,h⟩:=za3 h;exact ⟨_,h,fun d=>by simp only [yb4,a,if_pos b]⟩
  ·cases h
 ·split at h
  ·rename_i c;simp only at h;split at h
   ·rename_i a;obtain ⟨b,h⟩:=za3 h;exact ⟨_,h,fun d=>by simp only [yb4,c,a,if_pos b]⟩
   ·cases h
  ·cases h
 ·split at h
  ·rename_i c;simp only at h;split at h
   ·rename_i a f;obtain ⟨b,h⟩:=za3 h;exact ⟨_,h,fun d=>by simp only [yb4,c,a,f,if_pos b]⟩
   ·cases h
  ·cases h
 ·simp only at h;split at h
  ·rename_i a;split at h
   ·rename_i g;obtain ⟨b,h⟩:=za3 h;exact ⟨_,h,fun d=>by simp only [yb4,a,g,if_pos b]⟩
   ·cases h
  ·cases h
 ·cases h
def vq8 {st:St T} {K:AV T.U->Option R} (h:zo6 P o st K=some r):Det (fun K=>zo6 P o st K) K r:=by
 unfold zo6 at h;split at h
 ·rename_i a q;split at h
  ·rename_i y;exact ⟨a,h,fun f=>by simp only [zo6,q,y]⟩
  ·cases h
 ·rename_i e;split at h
  ·rename_i d;rw [d] at e;split at h
   ·rename_i n g p;obtain ⟨a,j,i⟩:=vo3 h;exact ⟨a,j,fun f=>by simp only [zo6,e,d,n,g,p];exact i f⟩
   ·cases h
  ·rename_i d;rw [d] at e;split at h
   ·rename_i g p;obtain ⟨a,j,i⟩:=ka7 h;exact ⟨a,j,fun f=>by simp only [zo6,e,d,g,p];exact i f⟩
   ·cases h
  ·rename_i d;rw [d] at e;split at h
   ·rename_i g;split at h
    ·rename_i a u;exact ⟨a,h,fun f=>by simp only [zo6,e,d,g,u]⟩
    ·cases h
   ·cases h
  ·rename_i d;rw [d] at e;split at h
   ·rename_i A B g;split at h
    ·rename_i D;obtain ⟨xs,j,i⟩:=jh0 (t:=.list (.int .u8)) h;exact ⟨_,j,fun f=>by simp only [zo6,e,d,A,B,g,D];exact i _⟩
    ·cases h
   ·cases h
  ·rename_i d;rw [d] at e;split at h
   ·rename_i E g p;obtain ⟨a,j,i⟩:=vs5 h;exact ⟨_,j,fun f=>by simp only [zo6,e,d,E,g,p];exact i _⟩
   ·cases h
  ·rename_i d;rw [d] at e;split at h
   ·rename_i g p;obtain ⟨a,j,i⟩:=qt3 h;exact ⟨a,j,fun f=>by simp only [zo6,e,d,g,p];exact i f⟩
   ·cases h
  ·rename_i d;rw [d] at e;split at h
   ·rename_i l m g u F;split at h
    ·cases h
    ·rename_i x;obtain ⟨a,j,i⟩:=qw7 h;refine ⟨a,j,fun f=>?_⟩;simp only [zo6,e,d,g,u,F]
     try exact i f
     all_goals first|exact i f|(split<;>first|exact i f|exact absurd rfl (by simp_all))
   ·cases h
  ·rename_i d;rw [d] at e;split at h
   ·rename_i a g;split at h
    ·rename_i b G;split at h
     ·rename_i x;exact ⟨b,h,fun f=>by simp only [zo6,e,d,g,G,x]⟩
     ·cases h
    ·cases h
   ·cases h
  ·rename_i c d;rw [d] at e;split at h
   ·cases h
   ·rename_i aS k;split at h
    ·rename_i n;split at h
     ·rename_i a t s;split at h
      ·rename_i z v;exact ⟨_,h,fun f=>by simp only [zo6,e,d,k,n,s,v]⟩
      ·rename_i v;split at h
       ·rename_i z w;exact ⟨_,h,fun f=>by simp only [zo6,e,d,k,n,s,v,w]⟩
       ·cases h
     ·cases h
    ·rename_i n;split at h
     ·rename_i a q;exact ⟨_,h,fun f=>by simp only [zo6,e,d,k,n,q]⟩
     ·cases h
    ·rename_i n;split at h
     ·rename_i a q;exact ⟨_,h,fun f=>by simp only [zo6,e,d,k,n,q]⟩
     ·cases h
    ·cases h
  ·cases h
def qt4 {n sz s j K} (h:ya7 T n sz H s j K=some r):Det (fun K=>ya7 T n sz H s j K) K r:=by
 unfold ya7 at h;split at h
 ·split at h
  ·rename_i c;split at h
   ·rename_i g;split at h
    ·rename_i d;split at h
     ·rename_i b;obtain ⟨a,h⟩:=za3 h;exact ⟨_,h,fun e=>by simp only [ya7,c,g,d,b,if_pos a]⟩
     ·cases h
    ·rename_i d;obtain ⟨a,h⟩:=za3 h;exact ⟨_,h,fun e=>by simp only [ya7,c,g,d,if_pos a]⟩
   ·cases h
  ·cases h
 ·split at h
  ·rename_i b;obtain ⟨a,h⟩:=za3 h;obtain ⟨f,h⟩:=za3 h;exact ⟨_,h,fun e=>by simp only [ya7,b,if_pos a,if_pos f]⟩
  ·cases h
 ·split at h
  ·rename_i c;split at h
   ·rename_i b;obtain ⟨a,h⟩:=za3 h;obtain ⟨f,h⟩:=za3 h;exact ⟨_,h,fun e=>by simp only [ya7,c,b,if_pos a,if_pos f]⟩
   ·cases h
  ·cases h
 ·cases h
def qw8 {n sz s d a K} (h:yl9 T n sz H s d a K=some r):Det (fun K=>yl9 T n sz H s d a K) K r:=by
 unfold yl9 at h;simp only at h;split at h
 ·split at h
  ·rename_i a;split at h
   ·rename_i e;split at h
    ·rename_i f;split at h
     ·rename_i b;obtain ⟨c,h⟩:=za3 h;exact ⟨_,h,fun g=>by simp only [yl9,a,e,f,b,if_pos c]⟩
     ·cases h
    ·cases h
   ·cases h
  ·cases h
 ·split at h
  ·rename_i b;obtain ⟨c,h⟩:=za3 h;obtain ⟨i,h⟩:=za3 h;exact ⟨_,h,fun g=>by simp only [yl9,b,if_pos c,if_pos i]⟩
  ·cases h
 ·cases h
def qr0 {n sz s K} (h:yj5 T n sz H s K=some r):Det (fun K=>yj5 T n sz H s K) K r:=by
 unfold yj5 at h;split at h
 ·split at h
  ·rename_i a;obtain ⟨b,h⟩:=za3 h;exact ⟨_,h,fun c=>by simp only [yj5,a,if_pos b]⟩
  ·cases h
 ·split at h
  ·rename_i d;split at h
   ·rename_i a;obtain ⟨b,h⟩:=za3 h;exact ⟨_,h,fun c=>by simp only [yj5,d,a,if_pos b]⟩
   ·cases h
  ·cases h
 ·cases h
def vn2 {n sz f s g K} (h:yi3 T n sz f H s K (j7 g K)=some r):Det (fun K=>yi3 T n sz f H s K (j7 g K)) K r:=by
 unfold yi3 at h;split at h
 ·split at h
  ·rename_i b;obtain ⟨d,h⟩:=za3 h;exact ⟨_,h,fun c=>by simp only [yi3,b,if_pos d]⟩
  ·rename_i b;obtain ⟨a,rfl,h⟩:=za8 h;exact ⟨a,h,fun c=>by simp only [yi3,b,j7]⟩
 ·split at h
  ·rename_i e;split at h
   ·rename_i b;obtain ⟨d,h⟩:=za3 h;exact ⟨_,h,fun c=>by simp only [yi3,e,b,if_pos d]⟩
   ·rename_i b;obtain ⟨a,rfl,h⟩:=za8 h;exact ⟨a,h,fun c=>by simp only [yi3,e,b,j7]⟩
  ·rename_i e;obtain ⟨a,rfl,h⟩:=za8 h;refine ⟨a,h,fun c=>?_⟩;simp only [yi3];rfl
 ·rename_i i j;obtain ⟨a,rfl,h⟩:=za8 h;refine ⟨a,h,fun c=>?_⟩;unfold yi3;split
  ·exact absurd rfl (i _ _ _ _)
  ·exact absurd rfl (j _ _ _ _)
  ·rfl
def qt5 {n sz s j K} (h:yk7 T n sz s j K=some r):Det (fun K=>yk7 T n sz s j K) K r:=by
 unfold yk7 at h;split at h
 ·split at h
  ·rename_i a;obtain ⟨b,h⟩:=za3 h;exact ⟨_,h,fun c=>by simp only [yk7,a,if_pos b]⟩
  ·cases h
 ·split at h
  ·rename_i a d;obtain ⟨b,h⟩:=za3 h;exact ⟨_,h,fun c=>by simp only [yk7,a,d,if_pos b]⟩
  ·cases h
 ·cases h
def js7 {e z x K}: ∀ {es},ja9 T e z x K es=some r->Det (fun K=>ja9 T e z x K es) K r
 | [],h=>⟨_,h,fun c=>rfl⟩
 |(y,a)::es,h=>by
  unfold ja9 at h;split at h
  ·rename_i d;exact ⟨_,h,fun c=>by simp only [ja9,if_pos d]⟩
  ·rename_i d;obtain ⟨b,f,g⟩:=js7 h;exact ⟨b,f,fun c=>by simp only [ja9,if_neg d];exact g c⟩
def vn3 {t d m e x K} (h:jf3 T P t d H m e x K=some r):Det (fun K=>jf3 T P t d H m e x K) K r:=by
 unfold jf3 at h;split at h
 ·rename_i f;split at h
  ·rename_i a;split at h
   ·rename_i c i;obtain ⟨b,j,k⟩:=js7 h;exact ⟨b,j,fun g=>by simp only [jf3,f,a,c,i];exact k g⟩
   ·cases h
  ·rename_i a;split at h
   ·rename_i c;exact ⟨_,h,fun g=>by simp only [jf3,f,a,c]⟩
   ·cases h
  ·cases h
 ·cases h
def vq9 {st:St T} {K:AV T.U->Option R} (h:yj0 P o st K=some r):Det (fun K=>yj0 P o st K) K r:=by
 unfold yj0 at h;split at h
 ·rename_i c;split at h
  ·rename_i d f j;obtain ⟨a,e,g⟩:=qt4 h;exact ⟨a,e,fun i=>by simp only [yj0,c,d,f,j];exact g i⟩
  ·cases h
 ·rename_i c;split at h
  ·rename_i d f j k;obtain ⟨a,e,g⟩:=qt5 h;exact ⟨a,e,fun i=>by simp only [yj0,c,d,f,j,k];exact g i⟩
  ·cases h
 ·rename_i c;split at h
  ·rename_i d f l m;obtain ⟨a,e,g⟩:=qw8 h;exact ⟨a,e,fun i=>by simp only [yj0,c,d,f,l,m];exact g i⟩
  ·cases h
 ·rename_i c;split at h
  ·rename_i d f;obtain ⟨a,e,g⟩:=qr0 h;exact ⟨a,e,fun i=>by simp only [yj0,c,d,f];exact g i⟩
  ·cases h
 ·rename_i c;split at h
  ·rename_i d f;obtain ⟨a,e,g⟩:=vn2 h;exact ⟨a,e,fun i=>by simp only [yj0,c,d,f];exact g i⟩
  ·cases h
 ·rename_i c;split at h
  ·rename_i a f;split at h
   ·rename_i n;exact ⟨a,h,fun i=>by simp only [yj0,c,f,n]⟩
   ·cases h
  ·cases h
 ·rename_i c;split at h
  ·rename_i p f;obtain ⟨b,e,g⟩:=vn3 h;simp only at e;split at e
   ·rename_i q;exact ⟨b,e,fun i=>by simp only [yj0,c,p,f];refine (g _).trans ?_;simp only [q]⟩
   ·cases e
  ·cases h
 ·cases h
def vq7 {st:St T} {K:AV T.U->Option R} (h:zu3 P o st K=some r):Det (fun K=>zu3 P o st K) K r:=by
 unfold zu3 at h;split at h
 ·rename_i b;obtain ⟨a,c,d⟩:=vq9 h;exact ⟨a,c,fun e=>by simp only [zu3,b];exact d e⟩
 ·rename_i b;obtain ⟨a,c,d⟩:=vq8 h;exact ⟨a,c,fun e=>by simp only [zu3,b];exact d e⟩
def wrA (C:Ctx T) (o:Oper) (st:St T):List Nat:=
 match o.op with
 | .store _ x _=>match aev T st.F x with|some a=>a.ids|none=> []
 | .insert _ m _ _=>match aev T st.F m with|some a=>a.ids|none=> []
 | .mapUpdate _ m _ _=>match aev T st.F m with|some a=>a.ids|none=> []
 | .convert _ d x=>match C.ty d,aev T st.F x with|some _,some a=>a.ids|_,_=> []
 | .call c=>match zs2 T st.F c.args.toList with
  |none=> []
  |some aS=>match c.callee with
   | .value f=>match aev T st.F f with
    |some (.fn (.func g) first b)=>(match qb1 C.E g with|some cs=>cs.wr (first++aS++b) st.H|none=> [])
    |_=> []
   | .builtin .append=>match aS with|s::_=>s.ids| []=> []
   | .builtin .clear=>match aS with|s::_=>s.ids| []=> []
   | .builtin .delete=>match aS with|s::_=>s.ids| []=> []
   |_=> []
 |_=> []
def Keeps.refl (l):Keeps T l H H:=⟨W6 _,fun _ _ _=>rfl,fun _ _ _ ys _ h=>⟨ys,h⟩⟩
def Keeps.app {l es}:Keeps T l H (H++es):=
 ⟨by simp,fun e a _=>X8 a,fun e ty t ys a h=>⟨ys,by rwa [X8 a] at h⟩⟩
def Keeps.set {l i x} (c:i∈l) (d: ∀(ty:TypeId) (t:Ty) (ys:List (den T.U t)),x=.row ty t ys-> ∃xs,H[i]?=some (.row ty t xs)):Keeps T l H (H.set i x):=by
 refine ⟨by simp,fun e b f=>?_,fun e ty t ys b h=>?_⟩
 ·rw [Z5 (fun g:i=e=>f (g▸c))]
 ·by_cases a:i=e
  ·subst a;rw [Q0 b] at h;simp only [X0] at h;exact d ty t ys h
  ·rw [Z5 a] at h;exact ⟨ys,h⟩
def Keeps.setApp {l i x es} (h:Keeps T l H (H.set i x)):Keeps T l H (H.set i x++es):=by
 refine ⟨by simp,fun e a c=>?_,fun e ty t ys a b=>?_⟩
 ·rw [X8 (by simpa using a)];exact h.same e a c
 ·rw [X8 (by simpa using a)] at b;exact h.row e ty t ys a b
def jy0 {t p a H1} (h:jc8 T P t H p a=some H1):Keeps T p.ids H H1:=by
 unfold jc8 at h;split at h
 ·split at h
  ·rename_i i o0 e cs b;split at h
   ·simp only [X0] at h;subst h;exact .set (by simp [AV.ids]) fun _ _ _ h=>by cases h
   ·cases h
  ·cases h
 ·split at h
  ·split at h
   ·split at h
    ·simp only [X0] at h;subst h;exact .set (by simp [AV.ids]) fun _ _ _ h=>by cases h
    ·cases h
   ·cases h
  ·cases h
 ·split at h
  ·rename_i i o0 c d e ty xs b;split at h
   ·split at h
    ·rename_i y f;simp only [X0] at h;subst h;refine .set (by simp [AV.ids]) fun ty' g ys h=>?_;simp only [Ent.row.injEq] at h;obtain ⟨rfl,rfl,_⟩:=h;exact ⟨xs,b⟩
    ·cases h
   ·cases h
  ·cases h
 ·cases h
def jf1 {t m b x a H1} (h:kj0 T P t H m b x a=some H1):Keeps T m.ids H H1:=by
 unfold kj0 at h;split at h
 ·split at h
  ·split at h
   ·simp only [X0] at h;subst h;exact .set (by simp [AV.ids]) fun _ _ _ h=>by cases h
   ·cases h
  ·split at h
   ·simp only [X0] at h;subst h;exact .set (by simp [AV.ids]) fun _ _ _ h=>by cases h
   ·cases h
  ·cases h
 ·cases h
def qs3 {t m a x H1} (h:gb1 T P t H m a x=some H1):Keeps T m.ids H H1:=by
 unfold gb1 at h;split at h<;>try (cases h;done)
 split at h<;>try (cases h;done)
 all_goals
  split at h<;>try (cases h;done)
  simp only [X0] at h;subst h;exact .set (by simp [AV.ids]) fun _ _ _ h=>by cases h
abbrev ud3 (f: {R:Type}->(AV T.U->List (Ent T.U)->Option R)->Option R) (K:AV T.U->List (Ent T.U)->Option R) (l:List Nat) (H:List (Ent T.U)) (r:R):Prop:=
 ∃a H1,K a H1=some r/\Keeps T l H H1/\ ∀ {c:Type} (b:AV T.U->List (Ent T.U)->Option c),f b=b a H1
def kg1 {R:Type} {r:R} {ty:Ty} {a:AV T.U} {K:List (den T.U ty)->Option R} (h:appA.rowX T ty H a K=some r): ∃xs,K xs=some r/\ ∀ {f:Type} (b:List (den T.U ty)->Option f),appA.rowX T ty H a b=b xs:=by
 unfold appA.rowX at h;split at h
 ·rename_i c;exact ⟨_,h,fun b=>by simp only [appA.rowX,c]⟩
 ·rename_i c;split at h<;>try (cases h;done)
  split at h<;>try (cases h;done)
  rename_i g;split at h<;>try (cases h;done)
  rename_i d;split at h<;>try (cases h;done)
  rename_i i;split at h<;>try (cases h;done)
  rename_i e;exact ⟨_,h,fun b=>by simp only [appA.rowX,c,g,d,dif_pos i,if_pos e]⟩
def vy8 {ty t s x K} (h:appA T P ty t H s x K=some r):ud3 (fun K=>appA T P ty t H s x K) K s.ids H r:=by
 unfold appA at h;split at h
 ·rename_i a;split at h
  ·rename_i b;split at h
   ·rename_i xs c;obtain ⟨ys,h,d⟩:=kg1 h;obtain ⟨e,h⟩:=za3 h;refine ⟨_,_,h,?_,fun f=>by simp only [appA,a,b,c,d,if_pos e]⟩;unfold appA.goneA;split
    ·exact (Keeps.set (by simp [AV.ids]) fun _ _ _ h=>by cases h).setApp
    ·exact .app
   ·cases h
  ·cases h
 ·cases h
def vn4 {ty t l c K} (h:jp5 T P ty t H l c K=some r) (w):ud3 (fun K=>jp5 T P ty t H l c K) K w H r:=by
 unfold jp5 at h;split at h
 ·rename_i a;split at h
  ·rename_i b d;split at h
   ·rename_i e;obtain ⟨f,h⟩:=za3 h;exact ⟨_,_,h,.app,fun g=>by simp only [jp5,a,b,d,e,if_pos f]⟩
   ·cases h
  ·cases h
 ·cases h
def qr6 {t s K} (h:yj9 T P t H s K=some r):ud3 (fun K=>yj9 T P t H s K) K s.ids H r:=by
 unfold yj9 at h;split at h<;>try (cases h;done)
 ·split at h<;>try (cases h;done)
  rename_i a b;exact ⟨_,_,h,.set (by simp [AV.ids]) (fun ty' c ys h=>by cases h),fun d=>by simp only [yj9,a,b]⟩
 split at h<;>try (cases h;done)
 rename_i a;split at h<;>try (cases h;done)
 rename_i e;split at h<;>try (cases h;done)
 rename_i f g;split at h<;>try (cases h;done)
 rename_i i;obtain ⟨j,h⟩:=za3 h;refine ⟨_,_,h,.set (by simp [AV.ids]) fun ty' c ys h=>?_,fun d=>by simp only [yj9,a,e,f,g,i,if_pos j]⟩;simp only [Ent.row.injEq] at h;obtain ⟨rfl,rfl,_⟩:=h;exact ⟨_,a⟩
def vl3 (G:zc5 T P C.E) {c} (j:o.op=.call c) {st K F} (h:yh3 P C c st K F=some r):
  (∃a H1,K a H1=some r/\Keeps T (wrA C o st) st.H H1/\ ∀ {B:Type} (n d:AV T.U->List (Ent T.U)->Option B),yh3 P C c st n d=n a H1)\/ ∃a H1,F a H1=some r/\Keeps T (wrA C o st) st.H H1/\ ∀ {B:Type} (n d:AV T.U->List (Ent T.U)->Option B),yh3 P C c st n d=d a H1:=by
 unfold yh3 at h;split at h
 ·cases h
 ·rename_i aS b;split at h
  ·rename_i f i;split at h
   ·rename_i g first p z
    split at h
    ·rename_i cs A k;split at h
     ·rename_i q;rcases (G g cs k).2.2 _ _ _ _ _ h with ⟨a,H1,u,v,w⟩|⟨a,H1,u,v,w⟩
      ·refine .inl ⟨a,H1,u,?_,fun n d=>by simp only [yh3,b,i,z,A,k,q,w]⟩;have:wrA C o st=cs.wr (first++aS++p) st.H:=by simp only [wrA,j,b,i,z,k]
       rw [this];exact v
      ·refine .inr ⟨a,H1,u,?_,fun n d=>by simp only [yh3,b,i,z,A,k,q,w]⟩;have:wrA C o st=cs.wr (first++aS++p) st.H:=by simp only [wrA,j,b,i,z,k]
       rw [this];exact v
     ·cases h
    ·cases h
   ·cases h
  ·rename_i i;split at h
   ·rename_i s x t I l;split at h
    ·rename_i e D A;obtain ⟨a,H1,u,v,w⟩:=vy8 h;refine .inl ⟨a,H1,u,?_,fun n d=>by simp only [yh3,b,i,l,D,A,w]⟩;have:wrA C o st=s.ids:=by simp only [wrA,j,b,i]
     rw [this];exact v
    ·cases h
   ·cases h
  ·rename_i i;split at h
   ·rename_i s t l;obtain ⟨a,H1,u,v,w⟩:=qr6 h;refine .inl ⟨a,H1,u,?_,fun n d=>by simp only [yh3,b,i,l,w]⟩;have:wrA C o st=s.ids:=by simp only [wrA,j,b,i]
    rw [this];exact v
   ·cases h
  ·rename_i i;split at h
   ·rename_i m J x t at2 l;split at h<;>try (cases h;done)
    rename_i H1 y;refine .inl ⟨_,H1,h,?_,fun n d=>by simp only [yh3,b,i,l,y]⟩;have:wrA C o st=m.ids:=by simp only [wrA,j,b,i]
    rw [this];exact qs3 y
   ·cases h
  ·cases h
def yj3 (Z:zc5 T P C.E) {st K X} (h:stepA P C o st K X=some r):
  (∃a H1,K ⟨zc2 T st.F o.dst a,H1⟩=some r/\Keeps T (wrA C o st) st.H H1/\ ∀ {u:Type} (j:St T->Option u) (g:AV T.U->St T->Option u),stepA P C o st j g=j ⟨zc2 T st.F o.dst a,H1⟩)\/ ∃a B,X a B=some r/\Keeps T (wrA C o st) st.H B.H/\ ∀ {u:Type} (j:St T->Option u) (g:AV T.U->St T->Option u),stepA P C o st j g=g a B:=by
 have m:zu3 P o st (fun a=>K ⟨zc2 T st.F o.dst a,st.H⟩)=some r->(∀ {u:Type} (j:St T->Option u) (g:AV T.U->St T->Option u),stepA P C o st j g=zu3 P o st fun a=>j ⟨zc2 T st.F o.dst a,st.H⟩)->
   ∃a H1,K ⟨zc2 T st.F o.dst a,H1⟩=some r/\Keeps T (wrA C o st) st.H H1/\ ∀ {u:Type} (j:St T->Option u) (g:AV T.U->St T->Option u),stepA P C o st j g=j ⟨zc2 T st.F o.dst a,H1⟩:=by
  intro h D;obtain ⟨a,p,q⟩:=vq7 h;exact ⟨a,st.H,p,.refl _,fun j g=>by rw [D];exact q _⟩
 unfold stepA at h;simp only at h;split at h
 ·rename_i f;split at h
  ·rename_i cs hz;split at h
   ·rename_i cs' z;exact .inl ⟨_,_,h,.app,fun j g=>by simp only [stepA,f,hz,z]⟩
   ·cases h
  ·cases h
 ·rename_i f;split at h
  ·rename_i a Q;split at h
   ·rename_i S;exact .inl ⟨_,_,h,.app,fun j g=>by simp only [stepA,f,Q,S]⟩
   ·cases h
  ·cases h
 ·rename_i f;split at h
  ·rename_i G n;exact .inl ⟨_,_,h,.app,fun j g=>by simp only [stepA,f,G,n]⟩
  ·rename_i G n;exact .inl ⟨_,_,h,.app,fun j g=>by simp only [stepA,f,G,n]⟩
  ·cases h
 ·rename_i f;split at h
  ·rename_i k J A V;split at h
   ·rename_i H1 I L;refine .inl ⟨.raw undef,H1,by rw [k];exact h,?_,fun j g=>by simp only [stepA,f,k,J,A,V,I,L];rfl⟩;have: ∀l,wrA C o st=l->Keeps T l st.H H1:=by
     intro l v;rw [<-v];simp only [wrA,f,J];exact jf1 L
    exact this _ rfl
   ·cases h
  ·cases h
 ·rename_i f;split at h
  ·rename_i k J A V;split at h
   ·rename_i H1 I L;refine .inl ⟨.raw undef,H1,by rw [k];exact h,?_,fun j g=>by simp only [stepA,f,k,J,A,V,I,L];rfl⟩;have: ∀l,wrA C o st=l->Keeps T l st.H H1:=by
     intro l v;rw [<-v];simp only [wrA,f,J];exact jf1 L
    exact this _ rfl
   ·cases h
  ·cases h
 ·rename_i f;split at h
  ·rename_i k A W;split at h
   ·rename_i H1 z;refine .inl ⟨.raw undef,H1,by rw [k];exact h,?_,fun j g=>by simp only [stepA,f,k,A,W,z];rfl⟩;have: ∀l,wrA C o st=l->Keeps T l st.H H1:=by
     intro l v;rw [<-v];simp only [wrA,f,A];exact jy0 z
    exact this _ rfl
   ·cases h
  ·cases h
 ·rename_i f;split at h
  ·rename_i A W D;obtain ⟨a,H1,p,q,w⟩:=vn4 h (wrA C o st);exact .inl ⟨a,H1,p,q,fun j g=>by simp only [stepA,f,A,W,D];exact w _⟩
  ·cases h
 ·rename_i f;split at h
  ·rename_i l ty z D;split at h
   ·rename_i e xs M;exact .inl ⟨_,_,h,.app,fun j g=>by simp only [stepA,f,z,D,M]⟩
   ·cases h
  ·rename_i l z D;split at h
   ·rename_i e sz cs M;exact .inl ⟨_,_,h,.app,fun j g=>by simp only [stepA,f,z,D,M]⟩
   ·cases h
  ·cases h
 ·rename_i c f;split at h
  ·rename_i N;exact .inl (m h fun j g=>by simp only [stepA,f,N])
  ·rename_i N;rcases vl3 Z f h with ⟨a,H1,p,q,w⟩|⟨a,H1,p,q,w⟩
   ·exact .inl ⟨a,H1,p,q,fun j g=>by simp only [stepA,f,N];exact w _ _⟩
   ·exact .inr ⟨a,⟨st.F,H1⟩,p,q,fun j g=>by simp only [stepA,f,N];exact w _ _⟩
 ·rename_i s d x f;split at h
  ·rename_i e b p q w;split at h
   ·rename_i O;exact .inl ⟨_,_,h,.refl _,fun j g=>by simp only [stepA,f,p,q,w,O]⟩
   ·cases h
  ·rename_i e i p q w;split at h
   ·rename_i y xs M n O Y;refine .inl ⟨_,_,h,.set (l:=wrA C o st) ?_ (fun _ _ _ h=>by cases h),fun j g=>by simp only [stepA,f,p,q,w,M,n,O,Y]⟩;simp [wrA,f,w,n,AV.ids]
   ·cases h
  ·rename_i hn;refine .inl (m h fun j g=>?_);unfold stepA;simp only [f]
 ·rename_i x f;split at h
  ·rename_i t a Q;exact .inr ⟨_,_,h,.refl _,fun j g=>by simp only [stepA,f,Q]⟩
  ·cases h
 ·rename_i p q w O Y h6 h7 h8 h9 h10 h11;refine .inl (m h fun j g=>?_);unfold stepA;simp only
end
end Go.X
namespace Go.X
open Go.RowKit Go.V
section
variable {T:Tab} {P:Program} {C:Ctx T} {w w':World} {S S':List Nat} {φ φ':Nat->RA} {w0:World} {S0:Ow} {F:AF T} {H:List (Ent T.U)} {F':PF}
variable {ops:Array Oper} {Q:Exit->Act->World->Prop} {k n:Nat} {ds:List Deferred} {o:Oper}
def Oper.wp_and {o:Oper} {a:Act} {w:World} {K K':Act->World->Prop} {Q Q':Exit->Act->World->Prop} (hK: ∀v w,K (a.put o.dst v) w->K' (a.put o.dst v) w) (hd: ∀(d:Deferred) w',K ({a with defers:=d::a.defers}.put o.dst undef) w'->False) (hQ: ∀e a w,e≠.normal->Q e a w->False)
  (h:o.wp P a w K Q):o.wp P a w K' Q':=by
 unfold Oper.wp at h⊢;generalize (execOp a.eval o).run P w=r at h⊢;unfold Oper.upon at h⊢;split at h
 ·exact hK _ _ h
 ·exact hK _ _ h
 ·exact (hd _ _ h).elim
 ·refine h.mono fun e w' hq=>?_;cases e with
  |returned v=>exact hK _ _ hq
  |panicked ch=>exact (hQ _ _ _ (by simp) hq).elim
  |outgrown=>obtain ⟨a1,w1,h1⟩:=hq;exact (hQ _ _ _ (by simp) h1).elim
 ·exact h.mono fun v w' hq=>hK _ _ hq
 ·exact (hQ _ _ _ (by simp) h).elim
 ·exact h.elim
def jk9 {o:Oper} {g a w K Q} (h:({o with guard:=g}:Oper).wp P a w K Q):o.wp P a w K Q:=h
def zq4 (J:zc5 T P C.E) {c} (L:stepA P C o ⟨F,H⟩ some (fun _ _=>none)=some c) (m:zi4 n o.dst=true) (t:zc7 o=true) (p:zp6 F o=true) (h:Sim T w0 S0 ⟨F,H⟩ F' w S φ) {a} (u:Fr n ds F' a):
  o.wp P a w (fun q w'=> ∃F1,zd2 T w0 S0 c F1 w'/\Fr n ds F1 q/\ ∃v,q=a.put o.dst v) Q:=by
 let o':Oper:= {o with guard:=none}
 have D:dec #[o'] 0 n F'=some o':=by
  unfold dec;have i:zs1 #[o'] F' o'=some true:=rfl;have M:zy4 F' o'=true:=yi7 (o:=o') h.fr p;have b:zi4 n o'.dst=true:=m;have r:zc7 o'=true:=t;simp only [List.getElem?_toArray,Y4,i,M,b,r,M0]
 have x:stepA P C o' ⟨F,H⟩ some (fun _ _=>none)=some c:=by
  cases o;exact L
 have y:=zh6 (Q:=fun e q w'=>e=.normal/\ ∃F1,zd2 T w0 S0 c F1 w'/\Fr n ds F1 q) (ds:=ds) J D x h (fun st f F1 s b=>by
  simp only [X0] at f;subst f;exact WR.fin (by rfl) fun G z=>⟨rfl,F1,b,z⟩) (fun a st f=>by cases f)
 have i:=y a u;unfold wpList at i;have j:Region.wanted o' (yielded #[o'] a.tmps)=true:=by
  have:=(zi2 D).2.2.2.2 u;exact this
 have l:(#[o']:Array Oper).toList.drop 0= [o']:=rfl;rw [l] at i;simp only [j,if_true] at i;rcases i with i|⟨_,G,s,b,_⟩
 ·refine jk9 (g:=none) (Oper.wp_and (o:=o') (K:=wpList P #[o'] _ []) ?_ ?_ ?_ i)
  ·rintro v s b
   unfold wpList at b;obtain ⟨_,F1,r,A⟩:=b;exact ⟨F1,r,A,v,rfl⟩
  ·rintro d s b
   unfold wpList at b;obtain ⟨_,F1,r,A⟩:=b;have I:=A.defers;have N:({a with defers:=d::a.defers}.put o'.dst undef).defers=d::a.defers:=by cases o'.dst<;>rfl
   rw [N,u.defers] at I;exact absurd (congrArg List.length I) (by simp)
  ·rintro e G s B ⟨rfl,_⟩
   exact B rfl
 ·cases b
def Sim.frame2 (h:Sim T w0 S0 ⟨F,H⟩ F' w S φ) {tch:List Nat} {nb Fc Fc'} {H1 H2:List (Ent T.U)} {S1 B}
  (D:Sim T w ⟨tch.flatMap fun e=>(φ e).all,S,(List.range nb).map φ⟩ ⟨Fc,H1⟩ Fc' w' S1 B) (hnb:nb<=H1.length) (hl:H1.length<=H.length) (hpin:S0.pin.length<=nb)
  (J: ∀e∈tch,e<nb/\ ∃x,H[e]?=some x/\x.live=true) (hfree: ∀e,nb<=e->e<H1.length->H[e]?=some .gone) (N:H2.length=H.length)
  (h2: ∀(e:Nat) (f:Ent T.U),H2[e]?=some f->(e∈tch/\H1[e]?=some f)\/(nb<=e/\H1[e]?=some f)\/(e∉tch/\(e<nb\/H1.length<=e)/\H[e]?=some f))
  (hrow: ∀(e:Nat) (ty:TypeId) (t:Ty) (ys:List (den T.U t)),e∈tch->H1[e]?=some (.row ty t ys)-> ∃xs,H[e]?=some (.row ty t xs))
  (hFid: ∀t a,F.get T t=some a-> ∀i∈a.ids,i<nb\/H1.length<=i) (hHid: ∀(e:Nat) (f:Ent T.U),H[e]?=some f->(e<nb\/H1.length<=e)-> ∀i∈f.cellIds,i<nb\/H1.length<=i):
  ∃m,Sim T w0 S0 ⟨F,H2⟩ F' w' S1 m/\ ∀a v,VR T w' S1 B a v->(∀i∈a.ids,i<H1.length)->VR T w' S1 m a v:=by
 let m:Nat->RA:=fun i=>if i<H1.length/\(i∈tch\/nb<=i) then B i else φ i
 have hp: ∀i,i<nb->RSame (B i) (φ i):=fun i M=>(D.pins i (φ i) (by simp [M])).1;have p: ∀i,i<H1.length->(i∈tch\/nb<=i)->m i=B i:=fun i M h=>if_pos ⟨M,h⟩;have s: ∀i,i∉tch->(i<nb\/H1.length<=i)->m i=φ i:=fun i h M=>if_neg fun q=>q.2.elim h fun q2=>by have:=q.1;omega
 have hin: ∀i,i<H1.length->RSame (m i) (B i):=fun i M=>by
  by_cases h:i∈tch\/nb<=i
  ·exact .of (p i M h)
  ·rw [not_or] at h;rw [s i h.1 (by omega)];exact (hp i (by omega)).symm
 have O: ∀i,(i<nb\/H1.length<=i)->RSame (m i) (φ i):=fun i M=>by
  by_cases h:i∈tch
  ·have:=(J i h).1;rw [p i (by omega) (.inl h)];exact hp i this
  ·exact .of (s i h M)
 have hT: ∀b∈tch.flatMap (fun e=>(φ e).all),∃e∈tch,∃a,At (φ e) a/\a.block=b:=by
  intro b l;obtain ⟨e,he,l⟩:=M3.1 l;exact ⟨e,he,zy0.1 l⟩
 have hTS: ∀b∈tch.flatMap (fun e=>(φ e).all),b∈S:=by
  intro b l;obtain ⟨e,he,a,d,rfl⟩:=hT b l;obtain ⟨_,x,K,E⟩:=J e he;exact zi7 h K E d
 have hTc: ∀b∈tch.flatMap (fun e=>(φ e).all),b∈S0.chg\/w0.heap.size<=b:=by
  intro b l;obtain ⟨e,he,a,d,rfl⟩:=hT b l;obtain ⟨_,x,K,E⟩:=J e he;exact (h.lives e x K E a d).2
 have hS1: ∀b∈S1,b∈S\/w.heap.size<=b:=fun b l=>(D.own b l).1;refine ⟨m,⟨?_,?_,h.chg.step D.chg hTc,fun b l=>⟨?_,(D.own b l).2⟩,fun b l q1 q2=>D.ex b (h.ex b l q1 q2) (fun R=>(hTc b R).elim q1 fun R=>by omega) (h.own b (h.ex b l q1 q2)).2,?_,fun k r hk=>?_,?_,?_,?_⟩,fun a v hv M=>hv.phiS fun i R=>hin i (M i R)⟩
 ·intro i a d;obtain ⟨v,u,L⟩:=h.fr i a d;exact ⟨v,u,(L.chg T D.chg hTS hS1).phiS fun j hj=>O j (hFid i a d j hj)⟩
 ·intro i a d;obtain ⟨u,L⟩:=h.ids i a d;refine ⟨fun j hj=>by have:=u j hj;simp only [N] at this⊢;exact this,?_⟩;cases a with
  |eptr y sz k c=>
   intro e t xs K;have hy:=hFid i _ d y (by simp [AV.ids]);rcases h2 y _ K with ⟨V,G⟩|⟨V,G⟩|⟨_,_,G⟩
   ·obtain ⟨zs,g5⟩:=hrow y _ _ _ V G;obtain ⟨q4,q5⟩:=L _ _ _ g5;obtain ⟨_,_,_,n1,_⟩:=h.ents y _ g5;obtain ⟨_,_,_,n2,_⟩:=D.ents y _ G;rw [(hp y (J y V).1).2.1] at n2;exact ⟨by omega,q5⟩
   ·have:=(X2.1 G).1;omega
   ·exact L e t xs G
  |_=>trivial
 ·rcases (D.own b l).1 with l|l
  ·exact (h.own b l).1
  ·exact .inr (W9 h.chg.size l)
 ·intro e f hf z a d;have cal:H1[e]?=some f->At (B e) a->a.block∈S1/\(a.block∈S0.chg\/w0.heap.size<=a.block):=fun G d=>by
   refine ⟨(D.lives e f G z a d).1,?_⟩;rcases (D.lives e f G z a d).2 with R|R
   ·exact hTc _ R
   ·exact .inr (W9 h.chg.size R)
  rcases h2 e f hf with ⟨u,G⟩|⟨u,G⟩|⟨g0,u,G⟩
  ·rw [p e (X2.1 G).1 (.inl u)] at d;exact cal G d
  ·rw [p e (X2.1 G).1 (.inr u)] at d;exact cal G d
  ·rw [s e g0 u] at d;have q:=h.lives e f G z a d;refine ⟨D.ex _ q.1 (fun l=>?_) (h.own _ q.1).2,q.2⟩;obtain ⟨e',I,a',W,X⟩:=hT _ l;obtain ⟨_,x,K,E⟩:=J e' I;exact h.apart e e' f x G K z E (fun q=>g0 (q▸I)) a a' d W X.symm
 ·obtain ⟨u,L⟩:=h.pins k r hk;have hk':=(X2.1 hk).1;exact ⟨(O k (.inl (by omega))).trans u,by simp only [N] at L⊢;exact L⟩
 ·intro e f hf;have hcE:(e∈tch\/nb<=e)->H1[e]?=some f->EntR T w' S1 m e f:=fun q g=>
   (D.ents e f g).phiE (p e (X2.1 g).1 q) fun x K=>hin x (D.eids e f g x K)
  rcases h2 e f hf with ⟨q,g⟩|⟨q,g⟩|⟨u,L,V⟩
  ·exact hcE (.inl q) g
  ·exact hcE (.inr q) g
  ·have hnot:f.live=true-> ∀a,At (φ e) a->a.block∉tch.flatMap (fun e=>(φ e).all):=fun hl a d l=>by
    obtain ⟨e',I,a',W,X⟩:=hT _ l;obtain ⟨_,x,K,E⟩:=J e' I;exact h.apart e e' f x V K hl E (fun q=>u (q▸I)) a a' d W X.symm
   have h1:=(h.ents e f V).chg T D.chg hTS hS1 fun hl a d=>⟨hnot hl a d,D.ex _ (zi7 h V hl d) (hnot hl a d) (h.own _ (zi7 h V hl d)).2⟩;exact h1.phiE (s e u L) fun x K=>O x (hHid e f V L x K)
 ·intro e f hf j hj;simp only [N];rcases h2 e f hf with ⟨_,g⟩|⟨_,g⟩|⟨_,_,g⟩
  ·have:=D.eids e f g j hj;simp only at this;omega
  ·have:=D.eids e f g j hj;simp only at this;omega
  ·exact h.eids e f g j hj
 ·have side: ∀(e:Nat) (f:Ent T.U),H2[e]?=some f->(H1[e]?=some f/\m e=B e)\/(e∉tch/\H[e]?=some f/\m e=φ e):=by
   intro e f hf;rcases h2 e f hf with ⟨g0,g⟩|⟨g0,g⟩|⟨u,L,V⟩
   ·exact .inl ⟨g,p e (X2.1 g).1 (.inl g0)⟩
   ·exact .inl ⟨g,p e (X2.1 g).1 (.inr g0)⟩
   ·exact .inr ⟨u,V,s e u L⟩
  have Y: ∀(i j:Nat) (f Z:Ent T.U),H1[i]?=some f->f.live=true->j∉tch->H[j]?=some Z->Z.live=true-> ∀a b,At (B i) a->At (φ j) b->a.block≠b.block:=by
   intro i j f Z M z hj hfj A a b d l;rcases (D.lives i f M z a d).2 with R|R
   ·obtain ⟨e',I,a',W,X⟩:=hT _ R;obtain ⟨_,x,K,E⟩:=J e' I;rw [<-X];exact h.apart e' j x Z K hfj E A (fun q=>hj (q▸I)) a' b W l
   ·have:=(h.own _ (zi7 h hfj A l)).2;omega
  intro i j f Z hf hf' z A hij a b d l;rcases side i f hf with ⟨u,L⟩|⟨g0,u,L⟩<;>rcases side j Z hf' with ⟨k1,k2⟩|⟨k0,k1,k2⟩<;>rw [L] at d<;>rw [k2] at l
  ·exact D.apart i j f Z u k1 z A hij a b d l
  ·exact Y i j f Z u z k0 k1 A a b d l
  ·exact (Y j i Z f k1 A g0 u z b a l d).symm
  ·exact h.apart i j f Z u k1 z A hij a b d l
end
end Go.X
namespace Go.X
open Go.RowKit Go.V
section
variable {T:Tab} {P:Program} {C:Ctx T} {w w':World} {S S':List Nat} {φ φ':Nat->RA} {w0:World} {S0:Ow} {F:AF T} {H:List (Ent T.U)} {F':PF}
variable {ops:Array Oper} {Q:Exit->Act->World->Prop} {k n:Nat} {ds:List Deferred} {o:Oper} {R:Type} {r:R}
def jb8 (C:Ctx T) (o:Oper) (F:AF T) (H:List (Ent T.U)):List Nat:=
 match o.op with
 | .store _ x y=>match aev T F x,aev T F y with
  |some p,some a=>match jz0 T H p a with|some _=>a.ids|none=> []
  |_,_=> []
 | .buildSlice t _ ps=>match C.ty t,zs2 T F (ps.toList.map Prod.snd) with|some _,some aS=>v8 aS|_,_=> []
 | .mapUpdate t _ _ v=>match C.ty t,aev T F v with|some _,some a=>a.ids|_,_=> []
 |_=> []
def gi7 (o:Oper) (F:AF T) (H:List (Ent T.U)):List Nat:=
 match o.op with
 | .load _ x=>match aev T F x with|some (.eptr k _ _ _)=>(match H[k]? with|some (.drow _ _ _ _ _)=> [k]|_=> [])|_=> []
 | .store _ x _=>match aev T F x with|some (.eptr k _ _ _)=>(match H[k]? with|some (.drow _ _ _ _ _)=> [k]|_=> [])|_=> []
 |_=> []
def wrF (C:Ctx T) (o:Oper) (st:St T):List Nat:=wrA C o st++(jb8 C o st.F st.H++gi7 o st.F st.H)
def Keeps.sub {l m H1} (h:Keeps T l H H1) (a: ∀i∈l,i∈m):Keeps T m H H1:=⟨h.len,fun e b c=>h.same e b fun d=>c (a e d),h.row⟩
def Keeps.trans {l H1 H2} (h:Keeps T l H H1) (b:Keeps T l H1 H2):Keeps T l H H2:=
 ⟨W9 h.len b.len,fun e a c=>(b.same e (V5 a h.len) c).trans (h.same e a c),fun e ty t ys a d=>by
  obtain ⟨xs,f⟩:=b.row e ty t ys (V5 a h.len) d;exact h.row e ty t xs a f⟩
def zv9: ∀(ids) {H},Keeps T ids H (ym9 T H ids)
 | [],H=>.refl _
 |i::r,H=>(Keeps.set (l:=i::r) (U2 ..) fun ty t ys e=>by cases e).trans ((zv9 r).sub fun j a=>Z4 _ a)
def jj3 {t x st K} (h:qt0 T t x st K=some r): ∃s a y,x=.tmp s/\st.F.get T s=some a/\K ⟨(s,zm8 T t y)::st.F,ym9 T st.H a.ids⟩=some r/\ ∀ {d:Type} (b:St T->Option d),qt0 T t x st b=b ⟨(s,zm8 T t y)::st.F,ym9 T st.H a.ids⟩:=by
 unfold qt0 at h;split at h<;>try (cases h;done)
 rename_i s;split at h<;>try (cases h;done)
 rename_i a c;obtain ⟨y,e,f⟩:=jh0 h;exact ⟨s,a,y,rfl,c,e,fun b=>by simp only [qt0,c,f]⟩
def yv1 {te:Ty}: ∀ {ps:List (Nat×Operand)} {st:St T} {K:St T->Option R} {l:List Nat},yr6 T te ps st K=some r->(∀x∈ps.map Prod.snd,∀a,aev T st.F x=some a-> ∀i∈a.ids,i∈l)->
  ∃st',K st'=some r/\Keeps T l st.H st'.H/\ ∀ {R':Type} (K':St T->Option R'),yr6 T te ps st K'=K' st'
 | [],st,K,l,h,_=>⟨st,h,.refl _,fun _=>rfl⟩
 |(j,x)::ps,st,K,l,h,hl=>by
  unfold yr6 at h;split at h<;>try (cases h;done)
  rename_i a ha;split at h
  ·rename_i cs hc;obtain ⟨st',h1,h2,h3⟩:=yv1 h fun y hy=>hl y (Z4 _ hy);exact ⟨st',h1,h2,fun K'=>by simp only [yr6,ha,hc];exact h3 K'⟩
  ·rename_i hc;obtain ⟨s,b,y,rfl,hb,h1,h2⟩:=jj3 h;have:b=a:=by have ha':st.F.get T s=some a:=ha;rw [hb] at ha';exact X5 ha'
   subst this;obtain ⟨st',h3,h4,h5⟩:=yv1 (l:=l) h1 fun z hz c hzc i hi=>by
    have hz':aev T st.F z=some c\/c=zm8 T te y:=by
     cases z with
     |tmp q=>
      have hzc:AF.get T ((s,zm8 T te y)::st.F) q=some c:=hzc;simp only [AF.get] at hzc;split at hzc
      ·exact .inr (X5 hzc).symm
      ·exact .inl hzc
     |const v=>exact .inl hzc
     |global g=>exact .inl hzc
     |func f=>exact .inl hzc
    rcases hz' with hz'|rfl
    ·exact hl z (Z4 _ hz) c hz' i hi
    ·rw [jw9] at hi;cases hi
   refine ⟨st',h3,((zv9 _).sub fun i hi=>hl _ (U2 ..) _ ha i hi).trans h4,fun K'=>?_⟩;simp only [yr6,ha,hc,h2];exact h5 K'
def vr9 (hE:zc5 T P C.E) {st K Kp} (h:zm1 P C o st K Kp=some r):
  (∃Fz a H1,K ⟨zc2 T Fz o.dst a,H1⟩=some r/\Keeps T (wrF C o st) st.H H1/\ ∀ {G:Type} (e:St T->Option G) (c:AV T.U->St T->Option G),zm1 P C o st e c=e ⟨zc2 T Fz o.dst a,H1⟩)\/ ∃a f,Kp a f=some r/\Keeps T (wrF C o st) st.H f.H/\ ∀ {G:Type} (e:St T->Option G) (c:AV T.U->St T->Option G),zm1 P C o st e c=c a f:=by
 have j:stepA P C o st K Kp=some r->(∀ {G:Type} (e:St T->Option G) (c:AV T.U->St T->Option G),zm1 P C o st e c=stepA P C o st e c)->
   (∃Fz a H1,K ⟨zc2 T Fz o.dst a,H1⟩=some r/\Keeps T (wrF C o st) st.H H1/\ ∀ {G:Type} (e:St T->Option G) (c:AV T.U->St T->Option G),zm1 P C o st e c=e ⟨zc2 T Fz o.dst a,H1⟩)\/ ∃a f,Kp a f=some r/\Keeps T (wrF C o st) st.H f.H/\ ∀ {G:Type} (e:St T->Option G) (c:AV T.U->St T->Option G),zm1 P C o st e c=c a f:=by
  intro h he;rcases yj3 hE h with ⟨a,H1,V,L,I⟩|⟨a,f,V,L,I⟩
  ·exact .inl ⟨st.F,a,H1,V,L.sub fun i u=>X4.2 (.inl u),fun e c=>by rw [he];exact I e c⟩
  ·exact .inr ⟨a,f,V,L.sub fun i u=>X4.2 (.inl u),fun e c=>by rw [he];exact I e c⟩
 unfold zm1 at h;split at h
 ·rename_i t x y d;split at h<;>try (cases h;done)
  rename_i p a hp B;split at h
  ·rename_i Y hc g;split at h<;>try (cases h;done)
   rename_i A;obtain ⟨s,b,z,rfl,hb,V,L⟩:=jj3 h;have:b=a:=by have M:st.F.get T s=some a:=B;rw [hb] at M;exact X5 M
   subst this;have Z: ∀ {H1:List (Ent T.U)},Keeps T (wrA C o ⟨(s,zm8 T Y z)::st.F,ym9 T st.H b.ids⟩) (ym9 T st.H b.ids) H1->Keeps T (wrF C o st) st.H H1:=by
    intro H1 D;refine ((zv9 _).sub (m:=wrF C o st) fun i u=>X4.2 (.inr (X4.2 (.inl ?_)))).trans (D.sub fun i u=>X4.2 (.inl ?_))
    ·simp only [jb8,d,hp,B,g];exact u
    ·have W:aev T ((s,zm8 T Y z)::st.F) x=aev T st.F x:=by
      cases x with
      |tmp q=>
       have hq:Nat.beq s q=false:=by simpa [qu1] using A
       show AF.get T ((s,zm8 T Y z)::st.F) q=_;simp only [AF.get,hq];rfl
      |_=>rfl
     simp only [wrA,d,W] at u⊢;exact u
   rcases yj3 hE V with ⟨N,H1,I,D,J⟩|⟨N,f,I,D,J⟩
   ·refine .inl ⟨_,N,H1,I,Z D,fun e c=>?_⟩;simp only [zm1,d,hp,B,hc,g,A,L];exact J e c
   ·refine .inr ⟨N,f,I,Z D,fun e c=>?_⟩;simp only [zm1,d,hp,B,hc,g,A,L];exact J e c
  ·rename_i hn;refine j h fun e c=>?_;simp only [zm1,d,hp,B]
 ·rename_i t len ps d;split at h
  ·rename_i Y aS g X
   ·have hmem: ∀(l:List Operand) (aS:List (AV T.U)),zs2 T st.F l=some aS-> ∀x∈l,∀a,aev T st.F x=some a-> ∀i∈a.ids,i∈v8 aS:=by
     intro l;induction l with
     |nil=>intro aS _ x W;cases W
     |cons z q ih=>
      intro aS O x W a B i u;unfold zs2 at O;split at O<;>try (cases O;done)
      rename_i b bs hb hbs;simp only [X0] at O;subst O;rw [v8];rcases Z0.1 W with rfl|W
      ·rw [hb] at B;simp only [X0] at B;subst B;exact X4.2 (.inl u)
      ·exact X4.2 (.inr (ih bs hbs x W a B i u))
    obtain ⟨f,V,L,I⟩:=yv1 (l:=v8 aS) h (hmem _ _ X);have Z: ∀ {H1:List (Ent T.U)},Keeps T (wrA C o f) f.H H1->Keeps T (wrF C o st) st.H H1:=by
     intro H1 J;refine (L.sub (m:=wrF C o st) fun i u=>X4.2 (.inr (X4.2 (.inl ?_)))).trans (J.sub fun i u=>?_)
     ·simp only [jb8,d,g,X];exact u
     ·simp only [wrA,d] at u;cases u
    rcases yj3 hE V with ⟨N,H1,D,J,h6⟩|⟨N,st2,D,J,h6⟩
    ·refine .inl ⟨_,N,H1,D,Z J,fun e c=>?_⟩;simp only [zm1,d,g,X,I];exact h6 e c
    ·refine .inr ⟨N,st2,D,Z J,fun e c=>?_⟩;simp only [zm1,d,g,X,I];exact h6 e c
  ·rename_i hn;refine j h fun e c=>?_;simp only [zm1,d]
 ·rename_i t m x v d;split at h
  ·rename_i Y a g B;split at h
   ·rename_i hc;split at h<;>try (cases h;done)
    rename_i A;obtain ⟨s,b,z,rfl,hb,V,L⟩:=jj3 h;have:b=a:=by have M:st.F.get T s=some a:=B;rw [hb] at M;exact X5 M
    subst this;have Z: ∀ {H1:List (Ent T.U)},Keeps T (wrA C o ⟨(s,zm8 T Y z)::st.F,ym9 T st.H b.ids⟩) (ym9 T st.H b.ids) H1->Keeps T (wrF C o st) st.H H1:=by
     intro H1 D;refine ((zv9 _).sub (m:=wrF C o st) fun i u=>X4.2 (.inr (X4.2 (.inl ?_)))).trans (D.sub fun i u=>X4.2 (.inl ?_))
     ·simp only [jb8,d,g,B];exact u
     ·have W:aev T ((s,zm8 T Y z)::st.F) m=aev T st.F m:=by
       cases m with
       |tmp q=>
        have hq:Nat.beq s q=false:=by
         rw [X3] at A;simpa [qu1] using A.1
        show AF.get T ((s,zm8 T Y z)::st.F) q=_;simp only [AF.get,hq];rfl
       |_=>rfl
      simp only [wrA,d,W] at u⊢;exact u
    rcases yj3 hE V with ⟨N,H1,I,D,J⟩|⟨N,f,I,D,J⟩
    ·refine .inl ⟨_,N,H1,I,Z D,fun e c=>?_⟩;simp only [zm1,d,g,B,hc,A,L];exact J e c
    ·refine .inr ⟨N,f,I,Z D,fun e c=>?_⟩;simp only [zm1,d,g,B,hc,A,L];exact J e c
   ·rename_i cs hc;refine j h fun e c=>?_;simp only [zm1,d,g,B,hc]
  ·rename_i hn;refine j h fun e c=>?_;simp only [zm1,d]
 ·rename_i hn1 hn2 hn3;refine j h fun e c=>?_;unfold zm1;split
  ·rename_i d;exact (hn1 _ _ _ d).elim
  ·rename_i d;exact (hn2 _ _ _ d).elim
  ·rename_i d;exact (hn3 _ _ _ _ d).elim
  ·rfl
def vs3 {st:St T} {K:St T->Option R} {z:Option R} (hz:yd1 P C o st K=some z) (h:z=some r):
  ∃a H1,K ⟨zc2 T st.F o.dst a,H1⟩=some r/\Keeps T (gi7 o st.F st.H) st.H H1/\ ∀ {R':Type} (K':St T->Option R'),yd1 P C o st K'=some (K' ⟨zc2 T st.F o.dst a,H1⟩):=by
 unfold yd1 at hz;cases hz
def ji1 {st:St T} {K:St T->Option R} (hz:yd1 P C o st K=none) {R':Type} (K':St T->Option R'):yd1 P C o st K'=none:=rfl
def jw5 (q:zc5 T P C.E) {st K p} (h:zj4 P C o st K p=some r):
  (∃l a H1,K ⟨zc2 T l o.dst a,H1⟩=some r/\Keeps T (wrF C o st) st.H H1/\ ∀ {e:Type} (d:St T->Option e) (b:AV T.U->St T->Option e),zj4 P C o st d b=d ⟨zc2 T l o.dst a,H1⟩)\/ ∃a c,p a c=some r/\Keeps T (wrF C o st) st.H c.H/\ ∀ {e:Type} (d:St T->Option e) (b:AV T.U->St T->Option e),zj4 P C o st d b=b a c:=by
 unfold zj4 at h;split at h
 ·rename_i z m;obtain ⟨a,H1,f,g,j⟩:=vs3 m h;exact .inl ⟨st.F,a,H1,f,g.sub fun i s=>X4.2 (.inr (X4.2 (.inr s))),fun d b=>by simp only [zj4,j]⟩
 ·rename_i m;rcases vr9 q h with ⟨l,a,H1,f,g,j⟩|⟨a,c,f,g,j⟩
  ·exact .inl ⟨l,a,H1,f,g,fun d b=>by simp only [zj4,ji1 m,j]⟩
  ·exact .inr ⟨a,c,f,g,fun d b=>by simp only [zj4,ji1 m,j]⟩
def vn9 {z f} (L:yd1 P C o ⟨F,H⟩ some=some z) (M:z=some f) (l:zi4 n o.dst=true) (u:zc7 o=true) (m:zp6 F o=true) (h:Sim T w0 S0 ⟨F,H⟩ F' w S φ) {a} (x:Fr n ds F' a):
  o.wp P a w (fun q w'=> ∃F1,zd2 T w0 S0 f F1 w'/\Fr n ds F1 q/\ ∃v,q=a.put o.dst v) Q:=by
 let o':Oper:= {o with guard:=none}
 have G:dec #[o'] 0 n F'=some o':=by
  unfold dec;have c:zs1 #[o'] F' o'=some true:=rfl;have N:zy4 F' o'=true:=yi7 (o:=o') h.fr m;have b:zi4 n o'.dst=true:=l;have s:zc7 o'=true:=u;simp only [List.getElem?_toArray,Y4,c,N,b,s,M0]
 have y:yd1 P C o' ⟨F,H⟩ some=some z:=by
  cases o;exact L
 have A:=yz8 (Q:=fun e q w'=>e=.normal/\ ∃F1,zd2 T w0 S0 f F1 w'/\Fr n ds F1 q) (ds:=ds) G y M h (fun st p F1 t b=>by
  simp only [X0] at p;subst p;exact WR.fin (by rfl) fun I B=>⟨rfl,F1,b,B⟩)
 have c:=A a x;unfold wpList at c;have i:Region.wanted o' (yielded #[o'] a.tmps)=true:=by
  have:=(zi2 G).2.2.2.2 x;exact this
 have j:(#[o']:Array Oper).toList.drop 0= [o']:=rfl;rw [j] at c;simp only [i,if_true] at c;rcases c with c|⟨_,I,t,b,_⟩
 ·refine jk9 (g:=none) (Oper.wp_and (o:=o') (K:=wpList P #[o'] _ []) ?_ ?_ ?_ c)
  ·rintro v t b
   unfold wpList at b;obtain ⟨_,F1,s,D⟩:=b;exact ⟨F1,s,D,v,rfl⟩
  ·rintro d t b
   unfold wpList at b;obtain ⟨_,F1,s,D⟩:=b;have J:=D.defers;have O:({a with defers:=d::a.defers}.put o'.dst undef).defers=d::a.defers:=by cases o'.dst<;>rfl
   rw [O,x.defers] at J;exact absurd (congrArg List.length J) (by simp)
  ·rintro e I t E ⟨rfl,_⟩
   exact E rfl
 ·cases b
def jt2 (hE:zc5 T P C.E) {st':St T} (hs:zj4 P C o ⟨F,H⟩ some (fun _ _=>none)=some st') (hdst:zi4 n o.dst=true) (hns:zc7 o=true) (hpre:zp6 F o=true) (h:Sim T w0 S0 ⟨F,H⟩ F' w S φ) {a:Act} (ha:Fr n ds F' a):
  o.wp P a w (fun a' w'=> ∃F1,zd2 T w0 S0 st' F1 w'/\Fr n ds F1 a'/\ ∃v,a'=a.put o.dst v) Q:=by
 have pre2: ∀ {F2:AF T} {H2:List (Ent T.U)} {S2:List Nat},Sim T w0 S0 ⟨F2,H2⟩ F' w S2 φ->(∀t,(F.get T t).isSome=true->(F2.get T t).isSome=true)->zp6 F2 o=true:=by
  intro F2 H2 S2 _ hF;unfold zp6 at hpre⊢;rw [Y8] at hpre⊢;intro x hx;have:=hpre x hx;cases x with
  |tmp t=>exact hF t this
  |_=>exact this
 unfold zj4 at hs;split at hs
 ·rename_i z hz;exact vn9 hz hs hdst hns hpre h ha
 unfold zm1 at hs;split at hs
 ·split at hs<;>try (cases hs;done)
  split at hs
  ·split at hs<;>try (cases hs;done)
   obtain ⟨⟨F2,H2⟩,S2,h1,h2,h3⟩:=zt7 hs h;exact zq4 hE h1 hdst hns (pre2 h2 h3) h2 ha
  ·exact zq4 hE hs hdst hns hpre h ha
 ·split at hs
  ·obtain ⟨⟨F2,H2⟩,S2,h1,h2,h3⟩:=zv8 hs h;exact zq4 hE h1 hdst hns (pre2 h2 h3) h2 ha
  ·exact zq4 hE hs hdst hns hpre h ha
 ·split at hs
  ·split at hs
   ·split at hs<;>try (cases hs;done)
    obtain ⟨⟨F2,H2⟩,S2,h1,h2,h3⟩:=zt7 hs h;exact zq4 hE h1 hdst hns (pre2 h2 h3) h2 ha
   ·exact zq4 hE hs hdst hns hpre h ha
  ·exact zq4 hE hs hdst hns hpre h ha
 ·exact zq4 hE hs hdst hns hpre h ha
end
end Go.X
namespace Go.X
open Go.RowKit Go.V
section
variable {T:Tab} (P:Program)
def zr9 (c:Nat) (v:AV T.U) (cs:List (AV T.U)):List (AV T.U):=match cs.all (za6 T)&&za6 T v with|true=>cs.set c v|false=>cs
def yl8 (c:Nat) (v:AV T.U):Ent T.U->Ent T.U
 | .blk t cs=>.blk t (zr9 c v cs)
 | .drow e d fe xs (some (a,cs))=>.drow e d fe xs (some (a,cs.set c v))
 |x=>x
def spE (c:Nat):Ent T.U->Ent T.U->Prop
 | .blk t cs,.blk f b=>t=f/\cs.length=b.length/\cs[c]?=b[c]?/\cs.all (za6 T)=true/\b.all (za6 T)=true
 | .drow e d fe xs (some (a,cs)),y=> ∃b,y=.drow e d fe xs (some (a,b))/\cs.length=b.length/\cs[c]?=b[c]?
 |_,_=>False
def simE (c:Nat) (x y:Ent T.U):Prop:=x=y\/spE c x y
def jb3 (t:TypeId):Bool:=match P.info? t,P.underlying t with|some i,some d=> !yf4 d&&Nat.beq i.size 1|_,_=>false
def gk0 (o:Oper) (F:AF T) (H:List (Ent T.U)):Option (Nat×Nat×Option (AV T.U)):=
 match o.op with
 | .load t x=>match aev T F x with
  |some (.ptr i c)=>match H[i]? with
   |some (.blk _ cs)=>(match jb3 P t&&(cs.all (za6 T)&&Nat.blt c cs.length) with|true=>some (i,c,none)|false=>none)
   |_=>none
  |_=>none
 | .store t x y=>match o.dst,aev T F x,aev T F y with
  |none,some (.ptr i c),some v=>match H[i]? with
   |some (.blk _ cs)=>(match jb3 P t&&(ya4 T v&&(cs.all (za6 T)&&Nat.blt c cs.length)) with|true=>some (i,c,some v)|false=>none)
   |_=>none
  |_,_,_=>none
 |_=>none
def ql9 (k c:Nat) (a:Option (AV T.U)) (f:Ent T.U) (H:List (Ent T.U)):List (Ent T.U):=match a with|some v=>H.set k (yl8 c v f)|none=>H
end
section
variable {T:Tab} {P:Program} {C:Ctx T} {F F':AF T} {H H':List (Ent T.U)} {o:Oper}
def simE.symm {c:Nat} {x y:Ent T.U} (h:simE c x y):simE c y x:=by
 rcases h with rfl|h
 ·exact .inl rfl
 ·cases x with
  |blk t cs=>
   cases y with
   |blk l b=>obtain ⟨rfl,f,g,i,j⟩:=h;exact .inr ⟨rfl,f.symm,g.symm,j,i⟩
   |_=>exact h.elim
  |drow e d fe xs k=>
   cases k with
   |none=>exact h.elim
   |some p=>obtain ⟨a,cs⟩:=p;obtain ⟨b,rfl,f,g⟩:=h;exact .inr ⟨cs,rfl,f.symm,g.symm⟩
  |_=>exact h.elim
def jd8 {cs:List (AV T.U)} {c v} (h:cs.all (za6 T)=true) (d:za6 T v=true):(cs.set c v).all (za6 T)=true:=by
 rw [Y8] at h⊢;intro a b;rcases K3 b with b|rfl
 ·exact h a b
 ·exact d
def zl5 {c v cs} (h:cs.all (za6 T)=true) (a:za6 T v=true):zr9 c v cs=cs.set c v:=by unfold zr9;rw [h,a];rfl
def ze4 (c v cs):(zr9 c v cs=cs)\/(zr9 c v cs=cs.set c v/\cs.all (za6 T)=true/\za6 T v=true):=by
 cases h:cs.all (za6 T) with
 |false=>left;unfold zr9;rw [h];rfl
 |true=>
  cases hv:za6 T v with
  |false=>left;unfold zr9;rw [h,hv];rfl
  |true=>exact .inr ⟨zl5 h hv,rfl,rfl⟩
def yx6 (c:Nat) (v:AV T.U) (cs:List (AV T.U)):(zr9 c v cs).length=cs.length:=by
 rcases ze4 c v cs with h|⟨h,_⟩<;>rw [h];simp
def yx5 {c v cs} (h:cs.all (za6 T)=true):(zr9 c v cs).all (za6 T)=true:=by
 rcases ze4 c v cs with a|⟨a,_,b⟩<;>rw [a]
 ·exact h
 ·exact jd8 h b
def kg4 {c c'} (b:c'≠c) (v:AV T.U) (cs:List (AV T.U)):(zr9 c' v cs)[c]?=cs[c]?:=by
 rcases ze4 c' v cs with a|⟨a,_⟩<;>rw [a];exact Z5 b
def simE.left {c c'} (i:c'≠c) (v:AV T.U) {x y} (h:simE c x y):simE c (yl8 c' v x) y:=by
 have j:simE c (yl8 c' v x) x:=by
  cases x with
  |blk t cs=>
   show simE c (.blk t (zr9 c' v cs)) (.blk t cs);rcases ze4 c' v cs with k|⟨k,b,f⟩
   ·rw [k];exact .inl rfl
   ·rw [k];exact .inr ⟨rfl,by simp,Z5 i,jd8 b f,b⟩
  |drow e d fe xs l=>
   cases l with
   |none=>exact .inl rfl
   |some p=>obtain ⟨a,cs⟩:=p;exact .inr ⟨cs,rfl,by simp,Z5 i⟩
  |_=>exact .inl rfl
 rcases h with rfl|h
 ·exact j
 ·cases x with
  |blk t cs=>
   cases y with
   |blk q g=>
    obtain ⟨rfl,b,f,m,n⟩:=h;exact .inr ⟨rfl,(yx6 ..).trans b,(kg4 i ..).trans f,yx5 m,n⟩
   |_=>exact h.elim
  |drow e d fe xs l=>
   cases l with
   |none=>exact h.elim
   |some p=>
    obtain ⟨a,cs⟩:=p;obtain ⟨g,rfl,b,f⟩:=h;exact .inr ⟨g,rfl,by simpa using b,(Z5 i).trans f⟩
  |_=>exact h.elim
def simE.both {c} (c':Nat) (v:AV T.U) {x y} (h:simE c x y):simE c (yl8 c' v x) (yl8 c' v y):=by
 rcases h with rfl|h
 ·exact .inl rfl
 ·cases x with
  |blk t cs=>
   cases y with
   |blk n b=>
    obtain ⟨rfl,f,g,k,l⟩:=h;refine .inr ⟨rfl,by rw [yx6,yx6];exact f,?_,yx5 k,yx5 l⟩;cases hv:za6 T v with
    |false=>
     rcases ze4 c' v cs with i|⟨_,_,i⟩
     ·rcases ze4 c' v b with j|⟨_,_,j⟩
      ·rw [i,j];exact g
      ·rw [hv] at j;cases j
     ·rw [hv] at i;cases i
    |true=>rw [zl5 k hv,zl5 l hv,List.getElem?_set,List.getElem?_set,f,g]
   |_=>exact h.elim
  |drow e d fe xs m=>
   cases m with
   |none=>exact h.elim
   |some p=>
    obtain ⟨a,cs⟩:=p;obtain ⟨b,rfl,f,g⟩:=h;refine .inr ⟨_,rfl,by simpa using f,?_⟩;rw [List.getElem?_set,List.getElem?_set,f,g]
  |_=>exact h.elim
def qw3 {c c'} (f:c≠c') (v e:AV T.U) (cs:List (AV T.U)):zr9 c v (zr9 c' e cs)=zr9 c' e (zr9 c v cs):=by
 rcases ze4 c v cs with a|⟨a,g,i⟩<;>rcases ze4 c' e cs with b|⟨b,k,j⟩
 ·rw [a,b,a]
 ·rw [a,b];rcases ze4 c v (cs.set c' e) with d|⟨d,l,h⟩
  ·exact d
  ·rw [zl5 k h] at a;rw [d,List.set_comm _ _ (Ne.symm f),a]
 ·rw [b,a];rcases ze4 c' e (cs.set c v) with d|⟨d,l,h⟩
  ·exact d.symm
  ·rw [zl5 g h] at b;rw [d,List.set_comm _ _ f,b]
 ·rw [b,a,zl5 (jd8 g j) i,zl5 (jd8 g i) j,List.set_comm _ _ f]
def vr4 {c c'} (f:c≠c') (v b:AV T.U) (x:Ent T.U):yl8 c v (yl8 c' b x)=yl8 c' b (yl8 c v x):=by
 cases x with
 |blk t cs=>exact congrArg (Ent.blk t) (qw3 f v b cs)
 |drow e d fe xs g=>
  cases g with
  |none=>rfl
  |some p=>obtain ⟨a,cs⟩:=p;simp only [yl8];rw [List.set_comm _ _ f]
 |_=>rfl
def vj5 {cs:List (AV T.U)} {c} {v:AV T.U} {i} (h:i∈v8 (cs.set c v)):i∈v8 cs\/i∈v.ids:=by
 obtain ⟨a,b,d⟩:=zq1 h;rcases K3 b with b|rfl
 ·exact .inl (zh7 b i d)
 ·exact .inr d
def kg5 {c} {v:AV T.U} {x:Ent T.U} {i} (h:i∈(yl8 c v x).cellIds):i∈x.cellIds\/i∈v.ids:=by
 cases x with
 |blk t cs=>
  have h:i∈v8 (zr9 c v cs):=h;rcases ze4 c v cs with b|⟨b,_⟩
  ·rw [b] at h;exact .inl h
  ·rw [b] at h;exact vj5 h
 |drow e d fe xs f=>cases f with
  |none=>exact .inl h
  |some p=>obtain ⟨a,cs⟩:=p;exact vj5 (T:=T) h
 |_=>exact .inl h
def yq3 (hF: ∀t a,F.get T t=some a->F'.get T t=some a) {x:Operand} {a:AV T.U} (h:aev T F x=some a):aev T F' x=some a:=by
 cases x with
 |tmp t=>exact hF t a h
 |const v=>exact h
 |func f=>exact h
 |global g=>exact h
def yo1 {t} (h:jb3 P t=true): ∃i d,P.info? t=some i/\P.underlying t=some d/\yf4 d=false/\i.size=1:=by
 unfold jb3 at h;split at h
 ·rename_i i d a b;simp only [X3,V8] at h;exact ⟨i,d,a,b,h.1,X1 h.2⟩
 ·cases h
def js6: ∀ {cs c},cs.all (za6 T)=true->c<cs.length->yy8 T cs c=some (cs.drop c)
 | [],c,_,h=>by simp at h
 |a::r,0,_,_=>rfl
 |a::r,c+1,h,b=>by
  rw [U4,X3] at h;have d:Nat.ble (wd T a) (c+1)=true:=by rw [qf0 T h.1];exact W3 (by omega)
  unfold yy8;rw [show Nat.beq (c+1) 0=false from rfl];simp only [d];rw [qf0 T h.1,Nat.add_sub_cancel,js6 h.2 (by simpa using b),List.drop_succ_cons]
def qt7 {t} (b:jb3 P t=true) {cs c} (h:cs.all (za6 T)=true) (a:c<cs.length):ja7 T P t cs c=cs[c]?:=by
 obtain ⟨i,d,e,f,g,_⟩:=yo1 b;unfold ja7 kh8;rw [e,f];simp only [g];rw [js6 h a,U3 a,Y0 a];simp only;rw [Y8] at h;rw [h _ (J0 a)]
def ji3 {v} (b:za6 T v=true): ∀ {cs c},cs.all (za6 T)=true->c<cs.length->ys6 T (gd7 T [v]) cs c=some (cs.set c v)
 | [],c,_,h=>by simp at h
 |a::r,0,h,_=>by
  rw [U4,X3] at h;show gd7 T [v] (a::r)=_;unfold gd7;simp only [putOnes,h.1,b,M0,N6]
 |a::r,c+1,h,d=>by
  rw [U4,X3] at h;have e:Nat.ble (wd T a) (c+1)=true:=by rw [qf0 T h.1];exact W3 (by omega)
  unfold ys6;rw [show Nat.beq (c+1) 0=false from rfl];simp only [e];rw [qf0 T h.1,Nat.add_sub_cancel,ji3 b h.2 (by simpa using d)];rfl
def ym8 {v} (h:ya4 T v=true):zi0 T v= [v]/\zx5 T v=true/\jd1 v=none/\za6 T v=true:=by
 cases v<;>first|(cases h;done)|exact ⟨rfl,h,rfl,rfl⟩|exact ⟨rfl,rfl,rfl,rfl⟩
def vm3 {t} (a:jb3 P t=true) {v} (h:ya4 T v=true) (c n) (b:c<n):qs7 T P t c n v=true:=by
 obtain ⟨i,d,e,k,l,f⟩:=yo1 a;obtain ⟨g,j,m,p⟩:=ym8 h;unfold qs7;rw [e];simp only [g,j,f,h,U6,List.length_nil,U4,List.all_nil,M0,Bool.and_true,M4];rw [X3];exact ⟨rfl,W3 b⟩
def vz1 {t} (a:jb3 P t=true):zh4 P t=none:=by
 obtain ⟨i,d,e,b,c,_⟩:=yo1 a;unfold zh4;rw [b];cases d<;>first|rfl|cases c
def qk8 {t x} (a:o.op=.load t x) {i c e cs} (b:aev T F x=some (.ptr i c)) (g:H[i]?=some (.blk e cs)) (d:jb3 P t=true) (h:cs.all (za6 T)=true) (f:c<cs.length) {R} (K:St T->Option R) (j:AV T.U->St T->Option R):
  zj4 P C o ⟨F,H⟩ K j=match cs[c]? with|some (.eptr _ _ _ _)=>none|some u=>K ⟨zc2 T F o.dst u,H⟩|none=>none:=by
 have k:yd1 P C o ⟨F,H⟩ K=none:=by simp only [yd1,a,b]
 have l:kr4 P o.op=false:=by rw [a];simp only [kr4,vz1 d];rfl
 unfold zj4;rw [k];simp only [zm1,a,stepA];unfold zu3;rw [l];simp only [zo6,a,jg7,b,loadA,g,qt7 d h f];rw [Y0 f];generalize cs[c]=u;cases u<;>rfl
def jw6 {t x y} (a:o.op=.store t x y) (b:o.dst=none) {i c e cs v} (d:aev T F x=some (.ptr i c)) (f:aev T F y=some v) (j:H[i]?=some (.blk e cs)) (k:jb3 P t=true) (g:ya4 T v=true) (l:cs.all (za6 T)=true) (m:c<cs.length) {R} (K:St T->Option R) (h:AV T.U->St T->Option R):
  zj4 P C o ⟨F,H⟩ K h=K ⟨F,H.set i (.blk e (cs.set c v))⟩:=by
 obtain ⟨n,z,p,q⟩:=ym8 g;have r:yd1 P C o ⟨F,H⟩ K=none:=by simp only [yd1,a,d]
 have s:jo5 T P t cs c v=some (cs.set c v):=by
  unfold jo5;simp only [p,n,U6,List.length_nil];rw [vm3 k g 0 _ (by omega)];exact ji3 q l m
 have u:stepA P C o ⟨F,H⟩ K h=K ⟨F,H.set i (.blk e (cs.set c v))⟩:=by simp only [stepA,a,b,d,f,jc8,j,s]
 have w:jz0 T H (.ptr i c) v=none:=rfl;unfold zj4;rw [r];simp only [zm1,a,d,f,w];cases cellsOf T (zi0 T v)<;>exact u
def kh2 {d b a u} (h:zc2 T F d u=zc2 T b d a) (G):zc2 T G d u=zc2 T G d a:=by
 cases d with
 |none=>rfl
 |some d=>
  simp only [zc2,List.cons.injEq,X7] at h;rw [show u=a from h.1.2]
def vj6 {c f e cs} (g:cs.all (za6 T)=true) (h:simE c f (.blk e cs)): ∃b,f=.blk e b/\b.length=cs.length/\b[c]?=cs[c]?/\b.all (za6 T)=true:=by
 rcases h with rfl|h
 ·exact ⟨cs,rfl,rfl,rfl,g⟩
 ·cases f with
  |blk m b=>obtain ⟨rfl,i,j,k,_⟩:=h;exact ⟨b,rfl,i,j,k⟩
  |drow e d fe xs l=>cases l with
   |none=>exact h.elim
   |some p=>obtain ⟨a,cs⟩:=p;obtain ⟨_,h,_⟩:=h;cases h
  |_=>exact h.elim
def kc3 {k c:Nat} {sv:Option (AV T.U)} (hl:gk0 P o F H=some (k,c,sv)) {Fz:AF T} {a:AV T.U} {H1:List (Ent T.U)} (h:zj4 P C o ⟨F,H⟩ some (fun _ _=>none)=some ⟨zc2 T Fz o.dst a,H1⟩):
  ∃x,H[k]?=some x/\x.live=true/\H1=ql9 k c sv x H/\ ∀(F':AF T) (H':List (Ent T.U)) (f:Ent T.U),(∀t a,F.get T t=some a->F'.get T t=some a)->H'[k]?=some f->simE c f x->zj4 P C o ⟨F',H'⟩ some (fun _ _=>none)=some ⟨zc2 T F' o.dst a,ql9 k c sv f H'⟩:=by
 unfold gk0 at hl;split at hl<;>try (cases hl;done)
 ·rename_i t x hop;split at hl<;>try (cases hl;done)
  ·rename_i i c0 hx;split at hl<;>try (cases hl;done)
   rename_i e cs hi;split at hl<;>try (cases hl;done)
   rename_i hb;simp only [X3,U9] at hb;obtain ⟨hs,hn,hc⟩:=hb;simp only [X0,X7] at hl;obtain ⟨rfl,rfl,rfl⟩:=hl;rw [qk8 hop hx hi hs hn hc] at h;split at h<;>try (cases h;done)
   rename_i u hne hu;simp only [X0,St.mk.injEq] at h;obtain ⟨h,rfl⟩:=h;refine ⟨_,hi,rfl,rfl,fun F' H' f hF hf hsim=>?_⟩;obtain ⟨cs',rfl,g1,g2,g3⟩:=vj6 hn hsim;rw [qk8 hop (yq3 hF hx) hf hs g3 (by omega),g2,hu];have:=kh2 h F';cases u<;>first|exact absurd rfl (hne _ _ _ _)|(simp only [this];rfl)
 ·rename_i t x y hop;split at hl<;>try (cases hl;done)
  ·rename_i i c0 v hdst hx hy;split at hl<;>try (cases hl;done)
   rename_i e cs hi;split at hl<;>try (cases hl;done)
   rename_i hb;simp only [X3,U9] at hb;obtain ⟨hs,hv,hn,hc⟩:=hb;simp only [X0,X7] at hl;obtain ⟨rfl,rfl,rfl⟩:=hl;have e4:=(ym8 hv).2.2.2;rw [jw6 hop hdst hx hy hi hs hv hn hc] at h;simp only [X0,St.mk.injEq] at h;obtain ⟨h,rfl⟩:=h;refine ⟨_,hi,rfl,?_,fun F' H' f hF hf hsim=>?_⟩
   ·show _=H.set i (.blk e (zr9 c0 v cs));rw [zl5 hn e4]
   ·obtain ⟨cs',rfl,g1,g2,g3⟩:=vj6 hn hsim;rw [jw6 hop hdst (yq3 hF hx) (yq3 hF hy) hf hs hv g3 (by omega),hdst];show _=some (⟨F',H'.set i (.blk e (zr9 c0 v cs'))⟩:St T);rw [zl5 g3 e4]
end
end Go.X
