import Derived.Test.YtbanjakljpjknaaGreatA5
set_option linter.defProp false
namespace Go.X
open Go.RowKit Go.V
section
variable {T:Tab} (P:Program) (C:Ctx T) {R:Type}
def zu1 (F:AF T) (o:Oper):Bool:=o.op.operands.toList.all fun x=>(aev T F x).isSome
def kl1 (ops:Array Oper) (j:Nat):Option Tmp:=(ops[j]?).bind (·.dst)
def wj2 (c:Call) (st:St T) (K:AV T.U->Option R):Option R:=
 match zx4 T st.F c.args.toList with
 |none=>none
 |some aS=>
  match c.callee with
  | .value f=>match aev T st.F f with
   |some (.fn (.func g) first caps)=>match zs6 P g,qo9 C.E g with
    |true,some cs=>match (first++aS++caps).all zj5 with|true=>cs.q (first++aS++caps) st.H K|false=>none
    |_,_=>none
   |_=>none
  |_=>none
def ko5 (o:Oper) (st:St T) (K:AV T.U->Option R):Option R:=
 match o.op with
 | .call c=>match stepA.reads c with
  |true=>zz6 P o st K
  |false=>wj2 P C c st K
 |_=>zz6 P o st K
def vc4 (stp:Oper->St T->(St T->Option R)->Option R) (ops:Array Oper) (n:Nat) (K:St T->Option R):List Oper->St T->Option R
 | [],st=>K st
 |o::r,st=>
  let a:=fun (st:St T)=>match zk1 n o.dst&&(zd3 o&&zu1 st.F o) with
   |true=>stp o st (fun st=>vc4 stp ops n K r st)
   |false=>none
  let e:=fun (st:St T)=>match zk1 n o.dst with
   |true=>vc4 stp ops n K r ⟨zc2 T st.F o.dst (.raw undef),st.H⟩
   |false=>none
  match o.guard with
  |none=>a st
  |some (j,b)=>match kl1 ops j with
   |none=>none
   |some d=>match st.F.get T d with
    |some (.cell ⟨.bool,c⟩)=>j9 c (let st:=⟨(d,cB T true)::st.F,st.H⟩;match b with|true=>a st|false=>e st)
     (let st:=⟨(d,cB T false)::st.F,st.H⟩;match b with|true=>e st|false=>a st)
    |some (.raw (.tuple _))=>e st
    |_=>none
open Classical in
noncomputable def both (a b:Option R):Option R:=if a=b then a else none
noncomputable def wa9 (e:Bool) (a b:Option R):Option R:=match e with|true=>both a b|false=>b
def gi3:Operand->Bool| .const (.slice none _ _)=>true|_=>false
def wl8:BinOp->Option Bool| .eql=>some false| .neq=>some true|_=>none
def gh3 (H:List (Ent T.U)):AV T.U->Option Bool
 | .cell ⟨.list e,xs⟩=>some (List.isEmpty (α:=den T.U e) xs)
 | .cell ⟨.nl e,xs⟩=>some (List.isEmpty (α:=den T.U e) xs)
 | .own i=>match H[i]? with|some (.row _ _ xs)=>some xs.isEmpty|_=>none
 |_=>none
def isNl:AV T.U->Bool| .cell ⟨.nl _,_⟩=>true|_=>false
noncomputable def nilG (c e:Bool) (a b:Option R):Option R:=match c with|true=>j9 e a b|false=>wa9 e a b
def nilL (o:Oper) (st:St T):Option (Bool×Bool×Bool):=
 match o.op with
 | .binOp b t x y _=>match P.underlying t with
  |some (.slice _)=>match wl8 b,gi3 y,aev T st.F x with
   |some neg,true,some a=>match gh3 st.H a with|some e=>some (neg,e,isNl a)|none=>none
   |_,_,_=>none
  |_=>none
 |_=>none
noncomputable def ko4 (o:Oper) (st:St T) (K:St T->Option R) (Kp:AV T.U->St T->Option R):Option R:=
 match nilL P o st with
 |some (neg,e,kn)=>nilG kn e (K ⟨zc2 T st.F o.dst (cB T (zh1 neg true)),st.H⟩) (K ⟨zc2 T st.F o.dst (cB T (zh1 neg false)),st.H⟩)
 |none=>match gu1 P C o st K with|some z=>z|none=>zj7 P C o st K Kp
noncomputable def regA (ops:Array Oper) (n:Nat) (a:AV T.U->St T->Option R) (K:St T->Option R) (st:St T):Option R:=vc4 (fun o st K=>ko4 P C o st K a) ops n K ops.toList st
def regQ (ops:Array Oper) (n:Nat) (K:St T->Option R) (st:St T):Option R:=vc4 (fun o st K=>ko5 P C o st fun a=>K ⟨zc2 T st.F o.dst a,st.H⟩) ops n K ops.toList st
end
section
variable {T:Tab} {P:Program} {C:Ctx T} {w w':World} {S S':List Nat} {φ φ':Nat->RA} {w0:World} {S0:Ow} {F:AF T} {H:List (Ent T.U)} {F':PF}
variable {ops:Array Oper} {Q:Exit->Act->World->Prop} {k n:Nat} {ds:List Deferred} {o:Oper}
def Sim.again (h:Sim T w0 S0 ⟨F,H⟩ F' w S φ) {d a} (b:F.get T d=some a):Sim T w0 S0 ⟨(d,a)::F,H⟩ F' w S φ:=by
 obtain ⟨v,c,e⟩:=h.fr d a b;exact h.seen c e (h.ids d a b)
def yq1 (hF:FR T w S φ F F') {o} (h:zu1 F o=true):yd1 F' o=true:=by
 unfold zu1 at h;unfold yd1;rw [Y8] at h⊢;intro x b;obtain ⟨a,c⟩:=N3.1 (h x b);obtain ⟨v,d,_⟩:=u0 hF c;rw [d];rfl
def kk4 (Q:Exit->Act->World->Prop) (n:Nat) (ds:List Deferred) (w0:World) (S0:Ow) (st:St T):Prop:= ∀F1 b,zd1 T w0 S0 st F1 b-> ∀a,Fr n ds F1 a->Q .normal a b
def yt8 {R r stp K} (G:Nat->PF->World->Prop)
  (g: ∀(k:Nat) (o:Oper) (F:AF T) (H:List (Ent T.U)) (F':PF) (w:World) (S:List Nat) (φ:Nat->RA) (K:St T->Option R),dec ops k n F'=some o->stp o ⟨F,H⟩ K=some r->Sim T w0 S0 ⟨F,H⟩ F' w S φ->(∀st,K st=some r-> ∀F1 J S1 x,Sim T w0 S0 st F1 J S1 x->G (k+1) F1 J)->G k F' w)
  (m: ∀(k:Nat) (dst:Option Tmp) (F':PF) (w:World),yd0 ops k n F'=some dst->G (k+1) (upd F' dst undef) w->G k F' w)
  (s: ∀(k:Nat) (st:St T) (F':PF) (w:World) (S:List Nat) (φ:Nat->RA),ops.size<=k->K st=some r->Sim T w0 S0 st F' w S φ->G k F' w):
  ∀(rest:List Oper) (k:Nat),ops.toList.drop k=rest-> ∀(F:AF T) (H:List (Ent T.U)) (F':PF) (w:World) (S:List Nat) (φ:Nat->RA),vc4 stp ops n K rest ⟨F,H⟩=some r->Sim T w0 S0 ⟨F,H⟩ F' w S φ->G k F' w
 | [],k,A,F,H,F',w,S,φ,a,h=>by
  have:ops.size<=k:=by simpa using List.drop_eq_nil_iff.1 A
  exact s k _ F' w S φ this a h
 |o::rest,k,A,F,H,F',w,S,φ,a,h=>by
  have y:k<ops.size:=by
   apply Classical.byContradiction;intro W;rw [N7 (by simpa using W)] at A;cases A
  have V:ops[k]?=some o:=by
   have:=J8 (l:=ops.toList) (i:=k) (by simpa using y);rw [A] at this;rw [Z6 y];have N:=(List.cons.inj this).1;simpa using N.symm
  have D:ops.toList.drop (k+1)=rest:=by
   have:=J8 (l:=ops.toList) (i:=k) (by simpa using y);rw [A] at this;exact (List.cons.inj this).2.symm
  have p: ∀(F:AF T),(match zk1 n o.dst&&(zd3 o&&zu1 F o) with
    |true=>stp o ⟨F,H⟩ (fun st=>vc4 stp ops n K rest st)
    |false=>none)=some r->Sim T w0 S0 ⟨F,H⟩ F' w S φ->zx3 ops F' o=some true->G k F' w:=by
   intro F a h O;split at a
   ·rename_i B;simp only [X3] at B;have X:dec ops k n F'=some o:=by
     unfold dec;rw [V];simp only [O,B.1,B.2.1,yq1 h.fr B.2.2,V2]
    exact g k o F H F' w S φ _ X a h fun st Y F1 J S1 x N=>yt8 G g m s rest (k+1) D st.F st.H F1 J S1 x Y N
   ·cases a
  have f: ∀(F:AF T),(match zk1 n o.dst with
    |true=>vc4 stp ops n K rest ⟨zc2 T F o.dst (.raw undef),H⟩
    |false=>none)=some r->Sim T w0 S0 ⟨F,H⟩ F' w S φ->zx3 ops F' o=some false->G k F' w:=by
   intro F a h O;split at a
   ·rename_i B;refine m k o.dst F' w ?_ (yt8 G g m s rest (k+1) D _ _ _ _ S φ a (h.slot rfl ⟨fun i Z=>(by cases Z),trivial⟩));unfold yd0;rw [V];simp only [O,B]
   ·cases a
  unfold vc4 at a;simp only at a;split at a
  ·rename_i z;exact p F a h (by unfold zx3;rw [z])
  ·rename_i j b z;split at a
   ·cases a
   ·rename_i d E;have e: ∀v,F'.get d=some v->yg3 ops F' j=match v with| .bool b=>some (some b)| .tuple _=>some none|_=>none:=by
     intro v I;unfold kl1 at E;unfold yg3;rw [E];simp only [I];cases v<;>rfl
    split at a
    ·rename_i c L;obtain ⟨v,I,t⟩:=h.fr d _ L;have:=zh2 t;subst this;have e:=e _ I;simp only at e;have M:=h.again L;rcases zo8 a with ⟨q,a⟩|⟨q,a⟩
     ·have q:c=true:=q;subst q;cases b with
      |true=>exact p _ a M (by unfold zx3;rw [z];simp only [e];rfl)
      |false=>exact f _ a M (by unfold zx3;rw [z];simp only [e];rfl)
     ·have q:c=false:=q;subst q;cases b with
      |true=>exact f _ a M (by unfold zx3;rw [z];simp only [e];rfl)
      |false=>exact p _ a M (by unfold zx3;rw [z];simp only [e];rfl)
    ·rename_i u L;obtain ⟨v,I,t⟩:=h.fr d _ L;rw [VR] at t;subst t;have e:=e _ I;simp only at e;exact f _ a h (by unfold zx3;rw [z];simp only [e];cases b<;>rfl)
    ·cases a
def ka2 {R:Type} {a b:Option R} {r:R} (h:both a b=some r):a=some r/\b=some r:=by
 unfold both at h
 grind
def ka1 {R} (a:Option R):both a a=a:=by unfold both;rw [if_pos rfl]
def qg4 {R} (e:Bool) (a:Option R):wa9 e a a=a:=by cases e;rfl;exact ka1 a
def qv4 {R:Type} {r:R} (hE:zb1 T P C.E) (hd:dec ops k n F'=some o) {K:St T->Option R} {Kp:AV T.U->St T->Option R} (hs:ko4 P C o ⟨F,H⟩ K Kp=some r) (h:Sim T w0 S0 ⟨F,H⟩ F' w S φ)
  (HK: ∀st,K st=some r->zt3 P ops Q (k+1) n ds w0 S0 st) (HP: ∀a st,Kp a st=some r->yu3 Q n ds w0 S0 a st):WR P ops Q k n ds F' w:=by
 unfold ko4 at hs;split at hs
 ·rename_i neg e kn hn;unfold nilL at hn;split at hn<;>try (cases hn;done)
  rename_i b t x y ty hop;split at hn<;>try (cases hn;done)
  rename_i et hu;split at hn<;>try (cases hn;done)
  rename_i neg' a hneg hy hx;split at hn<;>try (cases hn;done)
  rename_i e' he;simp only [X0,X7] at hn;obtain ⟨rfl,rfl,rfl⟩:=hn;have hb:b=if neg' then .neq else .eql:=by cases b<;>simp [wl8] at hneg<;>subst hneg<;>rfl
  obtain ⟨X,h1,h2⟩:=u0 h.fr hx;obtain ⟨m,c,rfl⟩: ∃m c,y=.const (.slice none m c):=by
   unfold gi3 at hy;split at hy
   ·exact ⟨_,_,rfl⟩
   ·cases hy
  have key: ∃ad n' c',X=.slice ad n' c'/\(e'=false->ad.isNone=false)/\(isNl a=true->e'=true->ad.isNone=true):=by
   unfold gh3 at he;split at he<;>try (cases he;done)
   ·rename_i el xs;simp only [X0] at he;have h2:CR T w S (.list el) xs X:=h2;cases h2 with
    |list _ _ ad cap u hcap hnil had _ _=>
     refine ⟨ad,_,_,rfl,fun hf=>?_,fun q=>by cases q⟩;cases ad with
     |some _=>rfl
     |none=>
      have:=(hnil rfl).1;rw [hf] at he;cases xs with
      |nil=>cases he
      |cons _ _=>cases this
   ·rename_i el xs;simp only [X0] at he;have h2:CR T w S (.nl el) xs X:=h2;cases h2 with
    |nl _ _ ad cap h3 hz=>
     refine ⟨ad,_,_,rfl,fun hf=>?_,fun _ ht=>?_⟩
     ·cases ad with
      |some _=>rfl
      |none=>
       rw [hf] at he;cases xs with
       |nil=>cases he
       |cons _ _=>cases h3 with
        |list _ _ _ _ _ _ hnil _ _ _=>have:=(hnil rfl).1;cases this
     ·rw [ht] at he;cases xs with
      |nil=>rw [(hz rfl).1];rfl
      |cons _ _=>cases he
   ·rename_i i;split at he<;>try (cases he;done)
    rename_i et' ty' xs hi;simp only [X0] at he;rw [VR] at h2;subst h2;obtain ⟨B,vals,q1,q2,_⟩:=h.ents i _ hi;refine ⟨_,_,_,rfl,fun hf=>?_,fun q=>by cases q⟩;cases had:(φ i).ad with
    |some _=>rfl
    |none=>
     have:=(q1.nil0 had).1;rw [q2] at this;rw [hf] at he;cases xs with
     |nil=>cases he
     |cons _ _=>cases this
  obtain ⟨ad,n',c',rfl,hkey,hkn⟩:=key;have hrun:(execOp (evD F') o).run P w=.ok (.value (.bool (zh1 neg' ad.isNone))) w:=by
   have g1:=jf3 (P:=P) (t:=t) (X:=.slice ad n' c') (Y:=.slice none m c) (b:=b) x (.const (.slice none m c)) rfl rfl (.inl (by simp)) w;have g2:=jd1 (P:=P) hb (X:=.slice ad n' c') (Y:=.slice none m c) rfl rfl (fun w0=>(jd0 P hu m c ad n' c' w0).2) w;obtain ⟨Y,h3,h4⟩:=u0 h.fr (show aev T F (.const (.slice none m c))=some (.raw (.slice none m c)) from rfl);rw [VR] at h4;subst h4;simp [execOp,hop,u9 h1,u9 h3,g1,g2]
  have hk:K ⟨zc2 T F o.dst (cB T (zh1 neg' ad.isNone)),H⟩=some r:=by
   unfold nilG at hs;split at hs
   ·rename_i hq;unfold j9 at hs;cases e' with
    |true=>rw [hkn hq rfl];exact hs
    |false=>rw [hkey rfl];exact hs
   unfold wa9 at hs;split at hs
   ·obtain ⟨k1,k2⟩:=ka2 hs;cases ad with
    |none=>exact k1
    |some _=>exact k2
   ·rw [hkey rfl];exact hs
  exact WR.val hd hrun (HK _ hk _ _ ⟨S,φ,h.slot (a:=cB T (zh1 neg' ad.isNone)) (CR.bool _) (zo1 rfl (by intro _ _ _ _ e;cases e))⟩)
 ·split at hs
  ·rename_i z hz;subst hs;exact qv3 hd hz h HK
  ·exact ji5 hE hd hs h HK HP
def ki4 {R:Type} {r:R} (f:zb1 T P C.E) {K:St T->Option R} {c:AV T.U->St T->Option R} (d: ∀st,K st=some r->kk4 Q n ds w0 S0 st) (g: ∀a st,c a st=some r->yu3 Q n ds w0 S0 a st)
  (i:regA P C ops n c K ⟨F,H⟩=some r) (h:Sim T w0 S0 ⟨F,H⟩ F' w S φ):WR P ops Q 0 n ds F' w:=by
 refine yt8 (w0:=w0) (S0:=S0) (K:=K) (stp:=fun o st K=>ko4 P C o st K c) (r:=r) (fun k F' w=>WR P ops Q k n ds F' w) ?_ ?_ ?_ ops.toList 0 rfl F H F' w S φ i h
 ·intro k o F H F' w S φ K j l h d;exact qv4 f j l h (fun st b F1 m ⟨S1,e,p⟩=>d st b F1 m S1 e p) g
 ·intro k dst F' w q K;exact WR.pass1 q K
 ·intro k st F' w S φ s b h;exact .fin (W3 s) fun a t=>d st b F' w ⟨S,φ,h⟩ a t
def qv5 {R:Type} {r:R} {Qf:Act->Prop} (hE:zb1 T P C.E) (hd:dec ops k n F'=some o) {K:AV T.U->Option R} (hs:ko5 P C o ⟨F,H⟩ K=some r) (h:Sim T w0 S0 ⟨F,H⟩ F' w S φ)
  (HK: ∀a v,K a=some r->VR T w S φ a v->okA H a->WQ P ops (fun w'=>Chg [] w w') Qf (k+1) n ds (upd F' o.dst v)):WQ P ops (fun w'=>Chg [] w w') Qf k n ds F':=by
 have hread:zz6 P o ⟨F,H⟩ K=some r->WQ P ops (fun w'=>Chg [] w w') Qf k n ds F':=fun hs=>
  go7 hd hs h fun a v hK hq hv hok=>WQ.step hd (fun w1 hw=>by rw [hq w1 (vs2 hw S) (Same.pure hw)];exact ⟨rfl,rfl⟩) (HK a v hK hv hok)
 unfold ko5 at hs;split at hs
 ·rename_i hop;split at hs
  ·exact hread hs
  ·unfold wj2 at hs;split at hs
   ·cases hs
   ·rename_i aS has;split at hs
    ·rename_i f hc;split at hs
     ·rename_i g first caps hf
      split at hs
      ·rename_i cs he hcs;split at hs
       ·rename_i hall;obtain ⟨vs,h1,h2,h3⟩:=jn5 hop hc hf has he hall h;obtain ⟨a,v,g1,g3,g4,g5⟩:=(hE g cs hcs).2.1 _ H K r hs w0 S0 F F' w S φ h vs h1 h2;refine WQ.step hd (fun w1 hw=>?_) (HK a v g1 g3 g4);rw [h3 w1];refine ⟨rfl,(g5 w1 (vs2 hw S) (Same.pure hw)).mono fun e w'' hR=>?_⟩;cases e with
        |returned u=>obtain ⟨q1,q2⟩:=hR;exact ⟨by rw [q2],hw.pure q1⟩
        |panicked ch=>exact hR.elim
        |outgrown=>exact hR.elim
       ·cases hs
      ·cases hs
     ·cases hs
    ·cases hs
 ·exact hread hs
def vk2 {R:Type} {r:R} (f:zb1 T P C.E) {K:St T->Option R} (b: ∀st,K st=some r->kk4 Q n ds w0 S0 st) (g:regQ P C ops n K ⟨F,H⟩=some r) (h:Sim T w0 S0 ⟨F,H⟩ F' w S φ):
  WQ P ops (fun w'=>Chg [] w w') (fun c=> ∀w',Chg [] w w'->Q .normal c w') 0 n ds F':=by
 refine yt8 (w0:=w0) (S0:=S0) (K:=K) (stp:=fun o st K=>ko5 P C o st fun a=>K ⟨zc2 T st.F o.dst a,st.H⟩) (r:=r) (fun k F' w=>WQ P ops (fun w'=>Chg [] w w') (fun c=> ∀w',Chg [] w w'->Q .normal c w') k n ds F') ?_ ?_ ?_ ops.toList 0 rfl F H F' w S φ g h
 ·intro k o F H F' w S φ K i j h b;exact qv5 f i j h fun a v l m d=>b _ l _ w S φ (h.slot m d)
 ·intro k dst F' w p K;exact WQ.pass1 p K
 ·intro k st F' w S φ q e h;exact WQ.fin (W3 q) fun w' s a t=>b st e F' w' ⟨S,φ,h.pure s⟩ a t
end
end Go.X
namespace Go.X
open Go.RowKit Go.V
section
variable (T:Tab)
def Ent.ren {U:Nat->Type} (ρ:Nat->Nat):Ent U->Ent U
 | .blk e cs=>.blk e (zk5 ρ cs)
 | .row e t xs=>.row e t xs
 | .map k es=>.map k (qn0 ρ es)
 | .tmap k t m=>.tmap k t m
 | .drow e d fe xs a=>.drow e d fe xs (kp7 ρ a)
 | .pmap k b d m a=>.pmap k b d m (kp6 ρ a)
 | .hid=>.hid
 | .gone=>.gone
def yd8 (F:AF T):List Nat->AF T
 | []=> []
 |i::r=>match F.get T i with|some a=>(i,a)::yd8 F r|none=>yd8 F r
def vg7:AF T->List Nat
 | []=> []
 |(_,a)::r=>a.ids++vg7 r
def kp4 (H:List (Ent T.U)):List Nat->List Nat
 | []=> []
 |i::r=>match H[i]? with|some e=>e.cellIds++kp4 H r|none=>kp4 H r
def vm4 (H:List (Ent T.U)):Nat->List Nat->List Nat
 |0,l=>l
 |n+1,l=>let l':=vr4 l (kp4 T H l);match Nat.beq l'.length l.length with|true=>l|false=>vm4 H n l'
def zf4 (H:List (Ent T.U)) (ρ:Nat->Nat):List Nat->List (Ent T.U)
 | []=> []
 |i::r=>match H[i]? with|some e=>e.ren ρ::zf4 H ρ r|none=>.gone::zf4 H ρ r
def go9 (ρ:Nat->Nat):AF T->AF T
 | []=> []
 |(i,a)::r=>(i,a.ren ρ)::go9 ρ r
def wh6 (l:List Nat):List Nat->Bool| []=>true|i::r=>zu7 i l&&wh6 l r
structure Cut where
 l:List Nat
 nils:List (Nat×TypeId×Ty)
 whole:Bool
 bn:List (Nat×Nat×TypeId×Ty)
 dz:Nat
 inl:Bool
abbrev wb3:Nat:=4000000000
abbrev ka6:Nat:=4000000001
def zy3 (e:TypeId):Ty->Ent T.U
 | .nl (.user d)=>.drow e d (T.fe d) [] none
 |t=>.row e t []
def zf7:List (Nat×Nat×TypeId×Ty)->List (Ent T.U)->List (Ent T.U)
 | [],H=>H
 |(i,c,e,t)::r,H=>match Nat.beq e ka6 with
  |true=>zf7 r (closeL T (List.range H.length) H)
  |false=>match H[i]? with
  |some (.blk e0 cs)=>match cs[c]? with
   |some (.raw (.slice none 0 0))=>zf7 r (H.set i (.blk e0 (cs.set c (.own H.length)))++ [zy3 T e t])
   |some (.own k)=>match Nat.beq e wb3 with
    |true=>match H[k]? with
     |some (.row _ a xs)=>zf7 r (H.set i (.blk e0 (cs.set c (.sl k (szT T a) 0 xs.length))))
     |_=>zf7 r H
    |false=>zf7 r H
   |_=>zf7 r H
  |_=>zf7 r H
def jd5:List (Nat×TypeId×Ty)->St T->St T
 | [],st=>st
 |(s,e,t)::r,st=>match st.F.get T s with
  |some (.raw (.slice none 0 0))=>jd5 r ⟨(s,.own st.H.length)::st.F,st.H++ [zy3 T e t]⟩
  |_=>jd5 r st
def gr5 (m:Nat) (ids:List Nat):Bool:=(List.range m).all fun k=>match ids[k]? with|some j=>Nat.beq j k|none=>false
def uf4 (m:Nat) (l:List Nat) (st:St T):Option (St T):=
 let F1:=yd8 T st.F l
 let ids:=vm4 T st.H (st.H.length+1) (vr4 (List.range m) (vg7 T F1))
 match gr5 m ids&&(ze4 ids&&(ids.all (fun i=>Nat.blt i st.H.length)&&(wh6 ids (vg7 T F1)&&wh6 ids (kp4 T st.H ids)))) with
 |true=>some ⟨go9 T (fun i=>vg8 i ids) F1,zf4 T st.H (fun i=>vg8 i ids) ids⟩
 |false=>none
end
section
variable {T:Tab}
def jg6 {l}: ∀ {m},wh6 l m=true-> ∀i∈m,i∈l
 | [],_,i,h=>by cases h
 |j::r,h,i,a=>by
  unfold wh6 at h;simp only [X3] at h;rcases Z0.1 a with rfl|a
  ·exact zc9.1 h.1
  ·exact jg6 h.2 i a
def jf5 {F i a}: ∀ {l},(yd8 T F l).get T i=some a->F.get T i=some a
 | [],h=>by simp [yd8,AF.get] at h
 |j::r,h=>by
  unfold yd8 at h;split at h
  ·rename_i u b;simp only [AF.get] at h;split at h
   ·rename_i c;have:=X1 c;subst this;rw [b];exact h
   ·exact jf5 h
  ·exact jf5 h
def ja4 {i:Nat} {a:AV T.U}: ∀ {F:AF T},F.get T i=some a-> ∀j∈a.ids,j∈vg7 T F
 | [],h,_,_=>by simp [AF.get] at h
 |(k,b)::r,h,j,hj=>by
  simp only [AF.get] at h;unfold vg7;split at h
  ·grind
  ·exact X4.2 (.inr (ja4 h j hj))
def jx4 {ρ:Nat->Nat} {i:Nat} {b:AV T.U}: ∀ {F:AF T},(go9 T ρ F).get T i=some b-> ∃a,F.get T i=some a/\b=a.ren ρ
 | [],h=>by simp [go9,AF.get] at h
 |(k,c)::r,h=>by
  simp only [go9,AF.get] at h⊢;split at h
  ·grind
  ·exact jx4 h
def zl8 {H:List (Ent T.U)} {ρ:Nat->Nat} {j:Nat} {e:Ent T.U}: ∀ {l:List Nat},(zf4 T H ρ l)[j]?=some e-> ∃i,l[j]?=some i/\((∃e0,H[i]?=some e0/\e=e0.ren ρ)\/e=.gone)
 | [],h=>by simp [zf4] at h
 |i::r,h=>by
  unfold zf4 at h;split at h
  ·rename_i e0 a;cases j with
   |zero=>simp at h;exact ⟨i,rfl,.inl ⟨e0,a,h.symm⟩⟩
   |succ j=>simp at h;simpa using zl8 h
  ·cases j with
   |zero=>simp at h;exact ⟨i,rfl,.inr h.symm⟩
   |succ j=>simp at h;simpa using zl8 h
def yi0 {H ρ}: ∀(l),(zf4 T H ρ l).length=l.length
 | []=>rfl
 |i::r=>by unfold zf4;split<;>simp [yi0 r]
def yk6 {H i e} (a:H[i]?=some e): ∀ {l},i∈l-> ∀j∈e.cellIds,j∈kp4 T H l
 | [],h,_,_=>by cases h
 |k::r,h,j,b=>by
  unfold kp4;rcases Z0.1 h with rfl|h
  ·rw [a];exact X4.2 (.inl b)
  ·split
   ·exact X4.2 (.inr (yk6 a h j b))
   ·exact yk6 a h j b
mutual
def js0 {U ρ}: ∀a:AV U,(a.ren ρ).ids=a.ids.map ρ
 | .cell _=>by rw [AV.ren];rfl
 | .ptr _ _=>by rw [AV.ren];rfl
 | .eptr _ _ _ _=>by rw [AV.ren];rfl
 | .lptr _ _ _ _=>by rw [AV.ren];rfl
 | .own _=>by rw [AV.ren];rfl
 | .sl _ _ _ _=>by rw [AV.ren];rfl
 | .agg cs=>by rw [AV.ren,AV.ids,AV.ids,zv9 cs]
 | .tup cs=>by rw [AV.ren,AV.ids,AV.ids,zv9 cs]
 | .fn _ a b=>by rw [AV.ren,AV.ids,AV.ids,zv9 a,zv9 b,V8]
 | .ifc _ a=>by rw [AV.ren,AV.ids,AV.ids,js0 a]
 | .raw _=>by rw [AV.ren];rfl
 | .arr _ _ _=>by rw [AV.ren];rfl
 | .aptr _ _ _ _ _ _=>by rw [AV.ren];rfl
 | .asl _ _ _ _ _ _=>by rw [AV.ren];rfl
 | .mp _=>by rw [AV.ren];rfl
 | .hmp _=>by rw [AV.ren];rfl
def zv9 {U ρ}: ∀l:List (AV U),za1 (zk5 ρ l)=(za1 l).map ρ
 | []=>rfl
 |a::r=>by rw [zk5,za1,za1,js0 a,zv9 r,V8]
end
def vc7 {U ρ}: ∀l:List (Int×AV U),idsM (qn0 ρ l)=(idsM l).map ρ
 | []=>rfl
 |(x,a)::r=>by rw [qn0,idsM,idsM,js0 a,vc7 r,V8]
def ge1 {U ρ} (b:Option (Nat×List (AV U))):wk3 (kp7 ρ b)=(wk3 b).map ρ:=by
 cases b with
 |none=>rfl
 |some p=>obtain ⟨a,cs⟩:=p;exact zv9 cs
def ge0 (ρ a):gi0 (kp6 ρ a)=(gi0 a).map ρ:=by cases a<;>rfl
def Ent.ren_cellIds {U ρ} (e:Ent U):(e.ren ρ).cellIds=e.cellIds.map ρ:=by cases e<;>first|rfl|exact zv9 _|exact vc7 _|exact ge1 _|exact ge0 _ _
def Ent.ren_live {U ρ} (e:Ent U):(e.ren ρ).live=e.live:=by cases e<;>rfl
def Sim.renum {w0 S0 F F1 H Z w S φ} (h:Sim T w0 S0 ⟨F,H⟩ Z w S φ) (ids) (hF: ∀i a,F1.get T i=some a->F.get T i=some a)
  (hn:ze4 ids=true) (hp: ∀k,k<S0.pin.length->ids[k]?=some k) (h1: ∀i∈vg7 T F1,i∈ids) (N: ∀i∈kp4 T H ids,i∈ids):
  Sim T w0 S0 ⟨go9 T (fun i=>vg8 i ids) F1,zf4 T H (fun i=>vg8 i ids) ids⟩ Z w S (fun j=>φ (ids.getD j 0)):=by
 have p: ∀i∈ids,φ (ids.getD (vg8 i ids) 0)=φ i:=by
  intro i hi;rw [Y2,(ye5 hi).2];rfl
 have q: ∀ {j i:Nat},ids[j]?=some i->φ (ids.getD j 0)=φ i:=by
  intro j i A;rw [Y2,A];rfl
 refine ⟨?_,?_,h.chg,h.own,h.ex,?_,fun k r o=>?_,?_,?_,?_⟩
 ·intro i b M;obtain ⟨a,s,rfl⟩:=jx4 M;obtain ⟨v,C,R⟩:=h.fr i a (hF i a s);exact ⟨v,C,R.ren T fun j A=>p j (h1 j (ja4 s j A))⟩
 ·intro i b M;obtain ⟨a,s,rfl⟩:=jx4 M;obtain ⟨C,R⟩:=h.ids i a (hF i a s);have O:=fun j A=>h1 j (ja4 s j A);refine ⟨?_,?_⟩
  ·intro j A;rw [js0] at A;obtain ⟨k,o,rfl⟩:=U5.1 A;simp only [yi0];exact (ye5 (O k o)).1
  ·cases a with
   |eptr j sz k c=>
    rw [AV.ren];intro e t xs hx;obtain ⟨i',n,f⟩:=zl8 hx;have A:=O j (by simp [AV.ids]);rw [(ye5 A).2] at n;simp only [X0] at n;subst n;rcases f with ⟨e0,f,u⟩|f
    ·cases e0 with
     |row V t1 ys=>
      simp only [Ent.ren,Ent.row.injEq] at u;obtain ⟨rfl,rfl,u⟩:=u;have:=eq_of_heq u;subst this;exact R _ _ _ f
     |blk _ _=>cases u
     |map _ _=>cases u
     |tmap _ _ _=>cases u
     |drow _ _ _ _ _=>cases u
     |pmap _ _ _ _ _=>cases u
     |hid=>cases u
     |gone=>cases u
    ·cases f
   |_=>rw [AV.ren]<;>trivial
 ·intro j e G I a s;obtain ⟨i,n,f⟩:=zl8 G;rcases f with ⟨e0,f,rfl⟩|rfl
  ·rw [q n] at s;exact h.lives i e0 f (by rw [Ent.ren_live] at I;exact I) a s
  ·cases I
 ·have P:=hp k (X2.1 o).1;refine ⟨by rw [q P];exact (h.pins k r o).1,?_⟩;simp only [yi0];exact (X2.1 P).1
 ·intro j e G;obtain ⟨i,n,f⟩:=zl8 G;rcases f with ⟨e0,f,rfl⟩|rfl
  ·have C:=h.ents i e0 f;cases e0 with
   |blk V cs=>
    obtain ⟨g,c,x,y,D,E⟩:=C;refine ⟨g,c,(congrArg RA.ad (q n)).trans x,y,D,E.ren T fun k o=>p k (N k (yk6 f (X6 n) k o))⟩
   |row V t xs=>
    obtain ⟨B,z,x,y,D,E,J⟩:=C;simp only [EntR,q n];exact ⟨B,z,x,y,D,E,J⟩
   |map k es=>
    obtain ⟨g,l,c,x,y,D,E,J⟩:=C;refine ⟨g,l,c,(congrArg RA.ad (q n)).trans x,y,D,E.ren T fun k o=>p k (N k (yk6 f (X6 n) k o)),J⟩
   |tmap k t m=>
    obtain ⟨g,l,c,x,y⟩:=C;exact ⟨g,l,c,(congrArg RA.ad (q n)).trans x,y⟩
   |drow V d fe xs op=>
    obtain ⟨B,z,x,y,D,E,J⟩:=C;simp only [Ent.ren,EntR,q n];exact ⟨B,z,x,y,D,E,J.renS T fun k o=>RSame.of (p k (N k (yk6 f (X6 n) k o)))⟩
   |pmap k be d m op=>
    obtain ⟨g,l,c,bs,x,y,D,E,J⟩:=C;simp only [Ent.ren,EntR,q n];exact ⟨g,l,c,bs,x,y,D,E.renS T fun k o=>RSame.of (p k (N k (yk6 f (X6 n) k o))),J⟩
   |hid=>simp only [Ent.ren,EntR,q n];exact C
   |gone=>trivial
  ·trivial
 ·intro j e G k o;obtain ⟨i,n,f⟩:=zl8 G;rcases f with ⟨e0,f,rfl⟩|rfl
  ·rw [Ent.ren_cellIds] at o;obtain ⟨m,hm,rfl⟩:=U5.1 o;simp only [yi0];exact (ye5 (N m (yk6 f (X6 n) m hm))).1
  ·cases o
 ·intro j k e e' G W I K X a b s M;obtain ⟨i,n,f⟩:=zl8 G;obtain ⟨i',Q,L⟩:=zl8 W;rcases f with ⟨e0,f,rfl⟩|rfl
  ·rcases L with ⟨Y,L,rfl⟩|rfl
   ·rw [q n] at s;rw [q Q] at M;rw [Ent.ren_live] at I K;exact h.apart i i' e0 Y f L I K (fun e=>X (by subst e;exact yi8 hn n Q)) a b s M
   ·cases K
  ·cases I
def vi4 {m ids} (h:gr5 m ids=true) {k} (a:k<m):ids[k]?=some k:=by
 unfold gr5 at h;rw [Y8] at h;have:=h k (J3.2 a);split at this
 ·rename_i j b;rw [b,X1 this]
 ·cases this
def js9 {w0 S0 st c e w m l} (f:S0.pin.length<=m) (h:zd1 T w0 S0 st e w) (b:uf4 T m l st=some c):zd1 T w0 S0 c e w:=by
 obtain ⟨S,φ,h⟩:=h;unfold uf4 at b;simp only at b;split at b
 ·rename_i d;simp only [X3] at d;simp only [X0] at b;subst b;exact ⟨S,_,h.renum _ (fun i a g=>jf5 g) d.2.1 (fun k j=>vi4 d.1 (V3 j f)) (jg6 d.2.2.2.1) (jg6 d.2.2.2.2)⟩
 ·cases b
def vh9 (e t):(zy3 T e t).cellIds= []:=by unfold zy3;split<;>rfl
def vi0 {w S φ i} (b:φ i=⟨none,0,0,[]⟩) (e t):EntR T w S φ i (zy3 T e t):=by
 unfold zy3;split
 ·exact ⟨w.heap.size,[],by rw [b];exact Own.nil _ _ _ _,by rw [b];rfl,W6 _,(fun a d=>by rw [b] at d;cases d),⟨(fun j c v h=>by simp at h),(fun j f c c' v g _ h=>by simp at h),(fun a cs h=>by cases h)⟩⟩
 ·exact ⟨w.heap.size,[],by rw [b];exact Own.nil _ _ _ _,by rw [b];rfl,W6 _,⟨rfl,fun j c v h=>by simp at h⟩,fun a d=>by rw [b] at d;cases d⟩
def Sim.addNilE {w0 S0 F H b w S φ} (h:Sim T w0 S0 ⟨F,H⟩ b w S φ) (e t):Sim T w0 S0 ⟨F,H++ [zy3 T e t]⟩ b w S (yd4 φ H.length ⟨none,0,0,[]⟩):=
 h.addG (Chg.refl [] w) (by simp) (by simp) (fun _ _ _ _ _ _=>by simp) (S':=S) (fun _ h=>h) (fun _ h=>.inl h) (r:=⟨none,0,0,[]⟩) (fun a h=>by cases yo3 h) (fun a h=>by cases yo3 h) (e:=zy3 T e t)
  (vi0 (by rw [za8]) e t) (fun j c=>by rw [vh9] at c;cases c)
def yc2 {w0 S0 c w}: ∀(l) {st},zd1 T w0 S0 st c w->zd1 T w0 S0 (jd5 T l st) c w
 | [],_,h=>h
 |(s,e,t)::r,st,h=>by
  unfold jd5;split
  ·rename_i g;refine yc2 r ?_;obtain ⟨S,φ,h⟩:=h;obtain ⟨v,j,d⟩:=h.fr s _ g;rw [VR] at d;subst d;have b:=h.addNilE e t;exact ⟨S,_,b.seen j (a:=.own st.H.length) (by rw [VR,za8]) ⟨fun i f=>by simp [AV.ids] at f;subst f;simp,trivial⟩⟩
  ·exact yc2 r h
def Sim.addNil {w0 S0 F H b w S φ} (h:Sim T w0 S0 ⟨F,H⟩ b w S φ) (e t):Sim T w0 S0 ⟨F,H++ [.row e t []]⟩ b w S (yd4 φ H.length ⟨none,0,0,[]⟩):=
 h.addG (Chg.refl [] w) (by simp) (by simp) (fun _ _ _ _ _ _=>by simp) (S':=S) (fun _ h=>h) (fun _ h=>.inl h) (r:=⟨none,0,0,[]⟩) (fun a h=>by cases yo3 h) (fun a h=>by cases yo3 h) (e:=.row e t [])
  ⟨w.heap.size,[],by rw [za8];exact Own.nil _ _ _ _,by rw [za8];rfl,W6 _,⟨rfl,fun j c v h=>by simp at h⟩,fun a d=>by rw [za8] at d;cases d⟩ (fun j f=>by cases f)
def ui8 {w0 S0 F H k w S φ} (h:Sim T w0 S0 ⟨F,H⟩ k w S φ) {i e t xs} (l:H[i]?=some (.row e t xs)) {v} (f:VR T w S φ (.own i) v):VR T w S φ (.sl i (szT T t) 0 xs.length) v:=by
 obtain ⟨B,g,b,j,m,o,p⟩:=h.ents i _ l;rw [VR] at f;subst f;rw [j] at b;refine ⟨(φ i).ad,?_,?_,?_,fun d=>b.nil0 d,fun _=>rfl⟩
 ·show Value.slice (φ i).ad (φ i).n (φ i).cap=Value.slice (φ i).ad xs.length ((φ i).cap-0);rw [j];rfl
 ·show 0+xs.length<=(φ i).cap;rw [W9];exact b.le.1
 rcases b.cases with ⟨_,d,_⟩|⟨c,a,_⟩
 ·exact .inl d
 ·refine .inr ⟨_,a,a.trans ?_⟩;show some (⟨_,0,none⟩:Addr)=some ⟨_,0+0*_,none⟩;rw [M9]
def Sim.cellSl {w0 S0 F H l w S φ} (h:Sim T w0 S0 ⟨F,H⟩ l w S φ) {i c k e0 e cs t xs}
  (f:H[i]?=some (.blk e0 cs)) (m:cs[c]?=some (.own k)) (o:H[k]?=some (.row e t xs)):Sim T w0 S0 ⟨F,H.set i (.blk e0 (cs.set c (.sl k (szT T t) 0 xs.length)))⟩ l w S φ:=by
 obtain ⟨g,p,q,r,s,u⟩:=h.ents i _ f;refine h.upd (i:=i) (e0:=.blk e0 cs) (e:=.blk e0 (cs.set c (.sl k (szT T t) 0 xs.length))) (Tc:= []) (w':=w) f rfl (Chg.refl [] w) (by simp)
  ⟨g,p,q,r,s,BR.swap (b:=.sl k (szT T t) 0 xs.length) rfl rfl (fun v x=>ui8 h o x) u m⟩ ?_ (by intro _ _ _ h;cases h)
 intro j n;rw [Ent.cellIds] at n;obtain ⟨b,d,a⟩:=zu6 n;rcases N4 d with d|d
 ·exact h.eids i _ f j (by rw [Ent.cellIds];exact zi2 d j a)
 ·subst d;have y:(AV.own k:AV T.U)∈cs:=X6 m;simp only [AV.ids,Q5] at a;subst a;exact h.eids i _ f j (by rw [Ent.cellIds];exact zi2 y j (by simp [AV.ids]))
def zf1 {w0 S0 F p w}: ∀(l) {H},zd1 T w0 S0 ⟨F,H⟩ p w->zd1 T w0 S0 ⟨F,zf7 T l H⟩ p w
 | [],_,h=>h
 |(i,c,e,t)::r,H,h=>by
  unfold zf7;split
  ·exact zf1 r (zw6 _ h)
  split
  ·rename_i e0 cs f;split
   ·rename_i o;refine zf1 r ?_;obtain ⟨S,φ,h⟩:=h;have q:=h.addNilE e t;have a:=(X2.1 f).1;obtain ⟨g,y,z,A,B,C⟩:=q.ents i _ (by rw [X8 a];exact f);have s:=q.upd (i:=i) (e0:=.blk e0 cs) (e:=.blk e0 (cs.set c (.own H.length))) (Tc:= []) (w':=w) (by rw [X8 a];exact f) rfl (Chg.refl [] w) (by simp)
     ⟨g,y,z,A,B,BR.swap (b:=.own H.length) rfl rfl (fun v u=>by rw [VR] at u;subst u;rw [VR,za8]) C o⟩
     (by
      intro j x;rw [Ent.cellIds] at x;obtain ⟨b,m,d⟩:=zu6 x;rcases N4 m with m|m
      ·have:=h.eids i _ f j (by rw [Ent.cellIds];exact zi2 m j d);simp at this⊢;omega
      ·subst m;simp [AV.ids] at d;subst d;simp) (by intro _ _ _ h;cases h)
    have n:(H++ [zy3 T e t]).set i (.blk e0 (cs.set c (.own H.length)))=H.set i (.blk e0 (cs.set c (.own H.length)))++ [zy3 T e t]:=by
     rw [List.set_append_left _ _ a]
    rw [n] at s;exact ⟨S,_,s⟩
   ·rename_i k o;split
    ·split
     ·rename_i E G xs D;obtain ⟨S,φ,h⟩:=h;exact zf1 r ⟨S,φ,h.cellSl f o D⟩
     ·exact zf1 r h
    ·exact zf1 r h
   ·exact zf1 r h
  ·exact zf1 r h
end
end Go.X
namespace Go.X
open Go.RowKit Go.V
section
variable {T:Tab} {w:World} {S:List Nat} {φ φ':Nat->RA}
def Ent.plain {U:Nat->Type}:Ent U->Bool| .drow _ _ _ _ _=>false| .pmap _ _ _ _ _=>false| .hid=>false|_=>true
def EntR.renS {ρ i e} (h:EntR T w S φ i e) {j} (s:RSame (φ' j) (φ i)) (u:e.plain=true\/(φ' j).xs=(φ i).xs) (x: ∀k∈e.cellIds,RSame (φ' (ρ k)) (φ k)):EntR T w S φ' j (e.ren ρ):=by
 obtain ⟨v,y,z⟩:=s;cases e with
 |blk e cs=>obtain ⟨g,c,f,n,p,q⟩:=h;exact ⟨g,c,by rw [v];exact f,n,p,q.renS T x⟩
 |row e t xs=>obtain ⟨B,o,f,n,p,q,r⟩:=h;simp only [Ent.ren,EntR,v,y,z];exact ⟨B,o,f,n,p,q,r⟩
 |map k es=>obtain ⟨g,l,c,f,n,p,q,r⟩:=h;exact ⟨g,l,c,by rw [v];exact f,n,p,q.renS T x,r⟩
 |tmap k t m=>obtain ⟨g,l,c,f,n⟩:=h;exact ⟨g,l,c,by rw [v];exact f,n⟩
 |drow e d fe xs A=>
  have s:φ' j=φ i:=by
   replace u:=u.resolve_left (by simp [Ent.plain])
   generalize φ' j=a at *;generalize φ i=b at *;cases a;cases b;simp_all
  obtain ⟨B,o,f,n,p,q,r⟩:=h;simp only [Ent.ren,EntR,s];exact ⟨B,o,f,n,p,q,r.renS T x⟩
 |pmap k D d m A=>
  have s:φ' j=φ i:=by
   replace u:=u.resolve_left (by simp [Ent.plain])
   generalize φ' j=a at *;generalize φ i=b at *;cases a;cases b;simp_all
  obtain ⟨g,l,c,C,f,n,p,q,r⟩:=h;simp only [Ent.ren,EntR,s];exact ⟨g,l,c,C,f,n,p,q.renS T x,r⟩
 |hid=>exact ⟨v.trans h.1,(u.resolve_left (by simp [Ent.plain])).trans h.2⟩
 |gone=>trivial
def EntR.ren {ρ i e} (h:EntR T w S φ i e) {j} (p:φ' j=φ i) (r: ∀k∈e.cellIds,φ' (ρ k)=φ k):EntR T w S φ' j (e.ren ρ):=by
 cases e with
 |blk e cs=>obtain ⟨g,c,a,b,n,o⟩:=h;exact ⟨g,c,by rw [p];exact a,b,n,o.ren T r⟩
 |row e t xs=>obtain ⟨B,f,a,b,n,o,q⟩:=h;simp only [Ent.ren,EntR,p];exact ⟨B,f,a,b,n,o,q⟩
 |map k es=>obtain ⟨g,l,c,a,b,n,o,q⟩:=h;exact ⟨g,l,c,by rw [p];exact a,b,n,o.ren T r,q⟩
 |tmap k t m=>obtain ⟨g,l,c,a,b⟩:=h;exact ⟨g,l,c,by rw [p];exact a,b⟩
 |drow e d fe xs u=>obtain ⟨B,f,a,b,n,o,q⟩:=h;simp only [Ent.ren,EntR,p];exact ⟨B,f,a,b,n,o,q.renS T fun k s=>RSame.of (r k s)⟩
 |pmap k x d m u=>obtain ⟨g,l,c,v,a,b,n,o,q⟩:=h;simp only [Ent.ren,EntR,p];exact ⟨g,l,c,v,a,b,n,o.renS T fun k s=>RSame.of (r k s),q⟩
 |hid=>exact ⟨by rw [p];exact h.1,by rw [p];exact h.2⟩
 |gone=>trivial
end
end Go.X
namespace Go.X
open Go.RowKit Go.V
section
variable {T:Tab} {P:Program} {C:Ctx T} {R:Type} {r:R} {H:List (Ent T.U)} {o:Oper}
abbrev Det (f: {R:Type}->(AV T.U->Option R)->Option R) (K:AV T.U->Option R) (r:R):Prop:= ∃a,K a=some r/\ ∀ {c:Type} (b:AV T.U->Option c),f b=b a
def ke5 {c:Bool} {x y:AV T.U} {K:AV T.U->Option R} (h:jj7 c x y K=some r):Det (fun K=>jj7 c x y K) K r:=by
 unfold jj7 at h;split at h
 ·rename_i z a;exact ⟨z,h,fun d=>by simp only [jj7,a]⟩
 ·rename_i a;split at h
  ·rename_i e;by_cases b:c=true
   ·rw [if_pos b] at h;exact ⟨x,h,fun d=>by simp only [jj7,a,e,if_pos b]⟩
   ·rw [if_neg b] at h;exact ⟨y,h,fun d=>by simp only [jj7,a,e,if_neg b]⟩
  ·cases h
def ks5 {b x y K} (h:divA T b x y K=some r):Det (fun K=>divA T b x y K) K r:=by
 unfold divA at h;split at h
 ·split at h
  ·rename_i c;unfold divA.divI at h;obtain ⟨a,h⟩:=yc7 h;exact ⟨_,h,fun d=>by simp only [divA,c,divA.divI,if_neg a]⟩
  ·cases h
 ·split at h
  ·rename_i c;unfold divA.remI at h;obtain ⟨a,h⟩:=yc7 h;exact ⟨_,h,fun d=>by simp only [divA,c,divA.remI,if_neg a]⟩
  ·cases h
 ·unfold divA.shlI at h;obtain ⟨a,h⟩:=yc7 h;exact ⟨_,h,fun d=>by simp only [divA,divA.shlI,if_neg a]⟩
 ·unfold divA.shrI at h;obtain ⟨a,h⟩:=yc7 h;exact ⟨_,h,fun d=>by simp only [divA,divA.shrI,if_neg a]⟩
 ·cases h
def kj8 {s j K} (h:jk1 s j K=some r): ∃a,K a=some r/\ ∀ {d:Type} (c:Int->Option d),jk1 s j c=c a:=by
 unfold jk1 at h;split at h
 ·rename_i b e;exact ⟨_,h,fun c=>by simp only [jk1,e]⟩
 ·cases h
def vh0 {t:TypeId} {s:AV T.U} {j:Int} {K:AV T.U->Option R} (h:zy0 T P t H s j K=some r):Det (fun K=>zy0 T P t H s j K) K r:=by
 unfold zy0 at h;split at h
 ·split at h
  ·rename_i he;obtain ⟨h0,h⟩:=za7 h;exact ⟨_,h,fun K'=>by simp only [zy0,he,if_pos h0]⟩
  ·cases h
 ·split at h
  ·rename_i hi;split at h
   ·rename_i he;obtain ⟨h0,h⟩:=za7 h;exact ⟨_,h,fun K'=>by simp only [zy0,hi,he,if_pos h0]⟩
   ·cases h
  ·cases h
 ·split at h
  ·rename_i hi;split at h
   ·rename_i he hs;obtain ⟨h0,h⟩:=za7 h;obtain ⟨h1,h⟩:=za7 h;exact ⟨_,h,fun K'=>by simp only [zy0,hi,he,hs,if_pos h0,if_pos h1]⟩
   ·cases h
  ·rename_i hi;split at h
   ·rename_i s hs;split at h
    ·rename_i hb;obtain ⟨h0,h⟩:=za7 h;exact ⟨_,h,fun K'=>by simp only [zy0,hi,hs,hb,if_pos h0]⟩
    ·cases h
   ·cases h
  ·cases h
 ·split at h
  ·rename_i s hs;split at h
   ·rename_i hb;obtain ⟨h0,h⟩:=za7 h;split at h
    ·rename_i ha;exact ⟨_,h,fun K'=>by simp only [zy0,hs,hb,if_pos h0,ha]⟩
    ·rename_i ha;exact ⟨_,h,fun K'=>by simp only [zy0,hs,hb,if_pos h0,ha]⟩
   ·cases h
  ·cases h
 ·cases h
def vl1 {t s e c K} (h:yh2 T P t H s e c K=some r):Det (fun K=>yh2 T P t H s e c K) K r:=by
 unfold yh2 at h;split at h
 ·simp only at h;split at h
  ·rename_i a;obtain ⟨b,h⟩:=za7 h;exact ⟨_,h,fun d=>by simp only [yh2,a,if_pos b]⟩
  ·cases h
 ·split at h
  ·rename_i c;simp only at h;split at h
   ·rename_i a;obtain ⟨b,h⟩:=za7 h;exact ⟨_,h,fun d=>by simp only [yh2,c,a,if_pos b]⟩
   ·cases h
  ·cases h
 ·split at h
  ·rename_i c;simp only at h;split at h
   ·rename_i a f;obtain ⟨b,h⟩:=za7 h;exact ⟨_,h,fun d=>by simp only [yh2,c,a,f,if_pos b]⟩
   ·cases h
  ·cases h
 ·simp only at h;split at h
  ·rename_i a;split at h
   ·rename_i g;obtain ⟨b,h⟩:=za7 h;exact ⟨_,h,fun d=>by simp only [yh2,a,g,if_pos b]⟩
   ·cases h
  ·cases h
 ·cases h
def ki1 {st:St T} {K:AV T.U->Option R} (h:zr9 P o st K=some r):Det (fun K=>zr9 P o st K) K r:=by
 unfold zr9 at h;split at h
 ·rename_i a ha;split at h
  ·rename_i hm;exact ⟨a,h,fun K'=>by simp only [zr9,ha,hm]⟩
  ·cases h
 ·rename_i hp;split at h
  ·rename_i hop;rw [hop] at hp;split at h
   ·rename_i hc hx hy;obtain ⟨a,h1,h2⟩:=ke5 h;exact ⟨a,h1,fun K'=>by simp only [zr9,hp,hop,hc,hx,hy];exact h2 K'⟩
   ·cases h
  ·rename_i hop;rw [hop] at hp;split at h
   ·rename_i hx hy;obtain ⟨a,h1,h2⟩:=ks5 h;exact ⟨a,h1,fun K'=>by simp only [zr9,hp,hop,hx,hy];exact h2 K'⟩
   ·cases h
  ·rename_i hop;rw [hop] at hp;split at h
   ·rename_i hx;split at h
    ·rename_i a hl;exact ⟨a,h,fun K'=>by simp only [zr9,hp,hop,hx,hl]⟩
    ·cases h
   ·cases h
  ·rename_i hop;rw [hop] at hp;split at h
   ·rename_i hs hd hx;split at h
    ·rename_i he;obtain ⟨xs,h1,h2⟩:=jr7 (t:=.list (.int .u8)) h;exact ⟨_,h1,fun K'=>by simp only [zr9,hp,hop,hs,hd,hx,he];exact h2 _⟩
    ·cases h
   ·cases h
  ·rename_i hop;rw [hop] at hp;split at h
   ·rename_i hu hx hy;obtain ⟨a,h1,h2⟩:=kj8 h;exact ⟨_,h1,fun K'=>by simp only [zr9,hp,hop,hu,hx,hy];exact h2 _⟩
   ·cases h
  ·rename_i hop;rw [hop] at hp;split at h
   ·rename_i hx hy;obtain ⟨a,h1,h2⟩:=vh0 h;exact ⟨a,h1,fun K'=>by simp only [zr9,hp,hop,hx,hy];exact h2 K'⟩
   ·cases h
  ·rename_i hop;rw [hop] at hp;split at h
   ·rename_i l m hx hl hh;split at h
    ·cases h
    ·rename_i hn;obtain ⟨a,h1,h2⟩:=vl1 h;refine ⟨a,h1,fun K'=>?_⟩;simp only [zr9,hp,hop,hx,hl,hh]
     try exact h2 K'
     all_goals first|exact h2 K'|(split<;>first|exact h2 K'|exact absurd rfl (by simp_all))
   ·cases h
  ·rename_i hop;rw [hop] at hp;split at h
   ·rename_i a hx;split at h
    ·rename_i b hb;split at h
     ·rename_i hn;exact ⟨b,h,fun K'=>by simp only [zr9,hp,hop,hx,hb,hn]⟩
     ·cases h
    ·cases h
   ·cases h
  ·rename_i c hop;rw [hop] at hp;split at h
   ·cases h
   ·rename_i aS has;split at h
    ·rename_i hc;split at h
     ·rename_i a t hat;split at h
      ·rename_i z hz;exact ⟨_,h,fun K'=>by simp only [zr9,hp,hop,has,hc,hat,hz]⟩
      ·rename_i hz;split at h
       ·rename_i z hz2;exact ⟨_,h,fun K'=>by simp only [zr9,hp,hop,has,hc,hat,hz,hz2]⟩
       ·cases h
     ·cases h
    ·rename_i hc;split at h
     ·rename_i a ha;exact ⟨_,h,fun K'=>by simp only [zr9,hp,hop,has,hc,ha]⟩
     ·cases h
    ·rename_i hc;split at h
     ·rename_i a ha;exact ⟨_,h,fun K'=>by simp only [zr9,hp,hop,has,hc,ha]⟩
     ·cases h
    ·cases h
  ·cases h
def vh1 {n sz s j K} (h:yg4 T n sz H s j K=some r):Det (fun K=>yg4 T n sz H s j K) K r:=by
 unfold yg4 at h;split at h
 ·split at h
  ·rename_i c;split at h
   ·rename_i g;split at h
    ·rename_i d;split at h
     ·rename_i b;obtain ⟨a,h⟩:=za7 h;exact ⟨_,h,fun e=>by simp only [yg4,c,g,d,b,if_pos a]⟩
     ·cases h
    ·rename_i d;obtain ⟨a,h⟩:=za7 h;exact ⟨_,h,fun e=>by simp only [yg4,c,g,d,if_pos a]⟩
   ·cases h
  ·cases h
 ·split at h
  ·rename_i b;obtain ⟨a,h⟩:=za7 h;obtain ⟨f,h⟩:=za7 h;exact ⟨_,h,fun e=>by simp only [yg4,b,if_pos a,if_pos f]⟩
  ·cases h
 ·split at h
  ·rename_i c;split at h
   ·rename_i b;obtain ⟨a,h⟩:=za7 h;obtain ⟨f,h⟩:=za7 h;exact ⟨_,h,fun e=>by simp only [yg4,c,b,if_pos a,if_pos f]⟩
   ·cases h
  ·cases h
 ·cases h
def vl2 {n sz s d a K} (h:yu0 T n sz H s d a K=some r):Det (fun K=>yu0 T n sz H s d a K) K r:=by
 unfold yu0 at h;simp only at h;split at h
 ·split at h
  ·rename_i a;split at h
   ·rename_i e;split at h
    ·rename_i f;split at h
     ·rename_i b;obtain ⟨c,h⟩:=za7 h;exact ⟨_,h,fun g=>by simp only [yu0,a,e,f,b,if_pos c]⟩
     ·cases h
    ·cases h
   ·cases h
  ·cases h
 ·split at h
  ·rename_i b;obtain ⟨c,h⟩:=za7 h;obtain ⟨i,h⟩:=za7 h;exact ⟨_,h,fun g=>by simp only [yu0,b,if_pos c,if_pos i]⟩
  ·cases h
 ·cases h
def ve6 {n sz s K} (h:yr1 T n sz H s K=some r):Det (fun K=>yr1 T n sz H s K) K r:=by
 unfold yr1 at h;split at h
 ·split at h
  ·rename_i a;obtain ⟨b,h⟩:=za7 h;exact ⟨_,h,fun c=>by simp only [yr1,a,if_pos b]⟩
  ·cases h
 ·split at h
  ·rename_i d;split at h
   ·rename_i a;obtain ⟨b,h⟩:=za7 h;exact ⟨_,h,fun c=>by simp only [yr1,d,a,if_pos b]⟩
   ·cases h
  ·cases h
 ·cases h
def kc9 {n sz f s g K} (h:yp7 T n sz f H s K (j6 g K)=some r):Det (fun K=>yp7 T n sz f H s K (j6 g K)) K r:=by
 unfold yp7 at h;split at h
 ·split at h
  ·rename_i b;obtain ⟨d,h⟩:=za7 h;exact ⟨_,h,fun c=>by simp only [yp7,b,if_pos d]⟩
  ·rename_i b;obtain ⟨a,rfl,h⟩:=zb8 h;exact ⟨a,h,fun c=>by simp only [yp7,b,j6]⟩
 ·split at h
  ·rename_i e;split at h
   ·rename_i b;obtain ⟨d,h⟩:=za7 h;exact ⟨_,h,fun c=>by simp only [yp7,e,b,if_pos d]⟩
   ·rename_i b;obtain ⟨a,rfl,h⟩:=zb8 h;exact ⟨a,h,fun c=>by simp only [yp7,e,b,j6]⟩
  ·rename_i e;obtain ⟨a,rfl,h⟩:=zb8 h;refine ⟨a,h,fun c=>?_⟩;simp only [yp7];rfl
 ·rename_i i j;obtain ⟨a,rfl,h⟩:=zb8 h;refine ⟨a,h,fun c=>?_⟩;unfold yp7;split
  ·exact absurd rfl (i _ _ _ _)
  ·exact absurd rfl (j _ _ _ _)
  ·rfl
def vh2 {n sz s j K} (h:ys3 T n sz s j K=some r):Det (fun K=>ys3 T n sz s j K) K r:=by
 unfold ys3 at h;split at h
 ·split at h
  ·rename_i a;obtain ⟨b,h⟩:=za7 h;exact ⟨_,h,fun c=>by simp only [ys3,a,if_pos b]⟩
  ·cases h
 ·split at h
  ·rename_i a d;obtain ⟨b,h⟩:=za7 h;exact ⟨_,h,fun c=>by simp only [ys3,a,d,if_pos b]⟩
  ·cases h
 ·cases h
def qg1 {e z x K}: ∀ {es},jj5 T e z x K es=some r->Det (fun K=>jj5 T e z x K es) K r
 | [],h=>⟨_,h,fun c=>rfl⟩
 |(y,a)::es,h=>by
  unfold jj5 at h;split at h
  ·rename_i d;exact ⟨_,h,fun c=>by simp only [jj5,if_pos d]⟩
  ·rename_i d;obtain ⟨b,f,g⟩:=qg1 h;exact ⟨b,f,fun c=>by simp only [jj5,if_neg d];exact g c⟩
def kd0 {t d m e x K} (h:jp1 T P t d H m e x K=some r):Det (fun K=>jp1 T P t d H m e x K) K r:=by
 unfold jp1 at h;split at h
 ·rename_i f;split at h
  ·rename_i a;split at h
   ·rename_i c i;obtain ⟨b,j,k⟩:=qg1 h;exact ⟨b,j,fun g=>by simp only [jp1,f,a,c,i];exact k g⟩
   ·cases h
  ·rename_i a;split at h
   ·rename_i c;exact ⟨_,h,fun g=>by simp only [jp1,f,a,c]⟩
   ·cases h
  ·cases h
 ·cases h
def ki2 {st:St T} {K:AV T.U->Option R} (h:yq6 P o st K=some r):Det (fun K=>yq6 P o st K) K r:=by
 unfold yq6 at h;split at h
 ·rename_i c;split at h
  ·rename_i d f j;obtain ⟨a,e,g⟩:=vh1 h;exact ⟨a,e,fun i=>by simp only [yq6,c,d,f,j];exact g i⟩
  ·cases h
 ·rename_i c;split at h
  ·rename_i d f j k;obtain ⟨a,e,g⟩:=vh2 h;exact ⟨a,e,fun i=>by simp only [yq6,c,d,f,j,k];exact g i⟩
  ·cases h
 ·rename_i c;split at h
  ·rename_i d f l m;obtain ⟨a,e,g⟩:=vl2 h;exact ⟨a,e,fun i=>by simp only [yq6,c,d,f,l,m];exact g i⟩
  ·cases h
 ·rename_i c;split at h
  ·rename_i d f;obtain ⟨a,e,g⟩:=ve6 h;exact ⟨a,e,fun i=>by simp only [yq6,c,d,f];exact g i⟩
  ·cases h
 ·rename_i c;split at h
  ·rename_i d f;obtain ⟨a,e,g⟩:=kc9 h;exact ⟨a,e,fun i=>by simp only [yq6,c,d,f];exact g i⟩
  ·cases h
 ·rename_i c;split at h
  ·rename_i a f;split at h
   ·rename_i n;exact ⟨a,h,fun i=>by simp only [yq6,c,f,n]⟩
   ·cases h
  ·cases h
 ·rename_i c;split at h
  ·rename_i p f;obtain ⟨b,e,g⟩:=kd0 h;simp only at e;split at e
   ·rename_i q;exact ⟨b,e,fun i=>by simp only [yq6,c,p,f];refine (g _).trans ?_;simp only [q]⟩
   ·cases e
  ·cases h
 ·cases h
def ki0 {st:St T} {K:AV T.U->Option R} (h:zz6 P o st K=some r):Det (fun K=>zz6 P o st K) K r:=by
 unfold zz6 at h;split at h
 ·rename_i b;obtain ⟨a,c,d⟩:=ki2 h;exact ⟨a,c,fun e=>by simp only [zz6,b];exact d e⟩
 ·rename_i b;obtain ⟨a,c,d⟩:=ki1 h;exact ⟨a,c,fun e=>by simp only [zz6,b];exact d e⟩
def wrA (C:Ctx T) (o:Oper) (st:St T):List Nat:=
 match o.op with
 | .store _ x _=>match aev T st.F x with|some a=>a.ids|none=> []
 | .insert _ m _ _=>match aev T st.F m with|some a=>a.ids|none=> []
 | .mapUpdate _ m _ _=>match aev T st.F m with|some a=>a.ids|none=> []
 | .convert _ d x=>match C.ty d,aev T st.F x with|some _,some a=>a.ids|_,_=> []
 | .call c=>match zx4 T st.F c.args.toList with
  |none=> []
  |some aS=>match c.callee with
   | .value f=>match aev T st.F f with
    |some (.fn (.func g) first caps)=>(match qo9 C.E g with|some cs=>cs.wr (first++aS++caps) st.H|none=> [])
    |_=> []
   | .builtin .append=>match aS with|s::_=>s.ids| []=> []
   | .builtin .clear=>match aS with|s::_=>s.ids| []=> []
   | .builtin .delete=>match aS with|s::_=>s.ids| []=> []
   |_=> []
 |_=> []
def Keeps.refl (l):Keeps T l H H:=⟨W6 _,fun _ _ _=>rfl,fun _ _ _ ys _ h=>⟨ys,h⟩⟩
def Keeps.app {l es}:Keeps T l H (H++es):=
 ⟨by simp,fun e a _=>X8 a,fun e ty t ys a h=>⟨ys,by rwa [X8 a] at h⟩⟩
def Keeps.set {l:List Nat} {i:Nat} {x:Ent T.U} (hi:i∈l) (hr: ∀(ty:TypeId) (t:Ty) (ys:List (den T.U t)),x=.row ty t ys-> ∃xs,H[i]?=some (.row ty t xs)):Keeps T l H (H.set i x):=by
 refine ⟨by simp,fun e he hn=>?_,fun e ty t ys he h=>?_⟩
 ·grind
 ·grind
def Keeps.setApp {l i x es} (h:Keeps T l H (H.set i x)):Keeps T l H (H.set i x++es):=by
 refine ⟨by simp,fun e a c=>?_,fun e ty t ys a b=>?_⟩
 ·rw [X8 (by simpa using a)];exact h.same e a c
 ·rw [X8 (by simpa using a)] at b;exact h.row e ty t ys a b
def qk1 {t:TypeId} {p a:AV T.U} {H1:List (Ent T.U)} (h:jm5 T P t H p a=some H1):Keeps T p.ids H H1:=by
 unfold jm5 at h;split at h
 ·split at h
  ·rename_i i o0 e cs hi;split at h
   ·simp only [X0] at h;subst h;exact .set (by simp [AV.ids]) fun _ _ _ h=>by cases h
   ·cases h
  ·cases h
 ·split at h
  ·split at h
   ·split at h
    ·simp only [X0] at h;subst h;exact .set (by simp [AV.ids]) fun _ _ _ h=>by cases h
    ·cases h
   ·cases h
  ·cases h
 ·split at h
  ·rename_i i o0 k0 c0 e ty xs hi;split at h
   ·split at h
    ·rename_i y hy;simp only [X0] at h;subst h;refine .set (by simp [AV.ids]) fun ty' t' ys h=>?_
     grind
    ·cases h
   ·cases h
  ·cases h
 ·cases h
def jo6 {t m b x a H1} (h:gi1 T P t H m b x a=some H1):Keeps T m.ids H H1:=by
 unfold gi1 at h;split at h
 ·split at h
  ·split at h
   ·simp only [X0] at h;subst h;exact .set (by simp [AV.ids]) fun _ _ _ h=>by cases h
   ·cases h
  ·split at h
   ·simp only [X0] at h;subst h;exact .set (by simp [AV.ids]) fun _ _ _ h=>by cases h
   ·cases h
  ·cases h
 ·cases h
def vf7 {t m a x H1} (h:gw3 T P t H m a x=some H1):Keeps T m.ids H H1:=by
 unfold gw3 at h;split at h<;>try (cases h;done)
 split at h<;>try (cases h;done)
 all_goals
  split at h<;>try (cases h;done)
  simp only [X0] at h;subst h;exact .set (by simp [AV.ids]) fun _ _ _ h=>by cases h
abbrev Det2 (f: {R:Type}->(AV T.U->List (Ent T.U)->Option R)->Option R) (K:AV T.U->List (Ent T.U)->Option R) (l:List Nat) (H:List (Ent T.U)) (r:R):Prop:=
 ∃a H1,K a H1=some r/\Keeps T l H H1/\ ∀ {c:Type} (b:AV T.U->List (Ent T.U)->Option c),f b=b a H1
def ge4 {R:Type} {r:R} {ty:Ty} {a:AV T.U} {K:List (den T.U ty)->Option R} (h:appA.rowX T ty H a K=some r): ∃xs,K xs=some r/\ ∀ {f:Type} (b:List (den T.U ty)->Option f),appA.rowX T ty H a b=b xs:=by
 unfold appA.rowX at h;split at h
 ·rename_i c;exact ⟨_,h,fun b=>by simp only [appA.rowX,c]⟩
 ·rename_i c;split at h<;>try (cases h;done)
  split at h<;>try (cases h;done)
  rename_i g;split at h<;>try (cases h;done)
  rename_i d;split at h<;>try (cases h;done)
  rename_i i;split at h<;>try (cases h;done)
  rename_i e;exact ⟨_,h,fun b=>by simp only [appA.rowX,c,g,d,dif_pos i,if_pos e]⟩
def ge3 {R:Type} {r:R} {ty:Ty} {a:AV T.U} {K:List (den T.U ty)->Option R} (h:appA.rowB T ty H a K=some r): ∃xs,K xs=some r/\ ∀ {R':Type} (K':List (den T.U ty)->Option R'),appA.rowB T ty H a K'=K' xs:=by
 unfold appA.rowB at h;split at h
 ·split at h
  ·rename_i hi;split at h
   ·rename_i hsz;split at h
    ·rename_i ht;split at h
     ·rename_i hle;exact ⟨_,h,fun K'=>by simp only [appA.rowB,hi,hsz,dif_pos ht,if_pos hle]⟩
     ·cases h
    ·cases h
   ·cases h
  ·cases h
 ·rename_i hn;split at h
  ·rename_i hx;refine ⟨_,h,fun K'=>?_⟩;unfold appA.rowB
   grind
  ·cases h
def kq6 {ty:Ty} {t:TypeId} {s x:AV T.U} {K:AV T.U->List (Ent T.U)->Option R} (h:appA T P ty t H s x K=some r):Det2 (fun K=>appA T P ty t H s x K) K s.ids H r:=by
 unfold appA at h;split at h
 ·rename_i he;split at h
  ·rename_i hb;obtain ⟨xs,h,hx⟩:=ge3 h;obtain ⟨ys,h,hd⟩:=ge4 h;obtain ⟨h0,h⟩:=za7 h;refine ⟨_,_,h,?_,fun K'=>by simp only [appA,he,hb,hx,hd,if_pos h0]⟩;unfold appA.goneA;split
   ·exact (Keeps.set (by simp [AV.ids]) fun _ _ _ h=>by cases h).setApp
   ·exact (Keeps.set (by simp [AV.ids]) fun _ _ _ h=>by cases h).setApp
   ·exact .app
  ·cases h
 ·cases h
def kd4 {ty t l c K} (h:qc9 T P ty t H l c K=some r) (w):Det2 (fun K=>qc9 T P ty t H l c K) K w H r:=by
 unfold qc9 at h;split at h
 ·rename_i a;split at h
  ·rename_i b d;split at h
   ·rename_i e;obtain ⟨f,h⟩:=za7 h;exact ⟨_,_,h,.app,fun g=>by simp only [qc9,a,b,d,e,if_pos f]⟩
   ·cases h
  ·cases h
 ·cases h
def vf2 {t:TypeId} {s:AV T.U} {K:AV T.U->List (Ent T.U)->Option R} (h:yr4 T P t H s K=some r):Det2 (fun K=>yr4 T P t H s K) K s.ids H r:=by
 unfold yr4 at h;split at h<;>try (cases h;done)
 ·split at h<;>try (cases h;done)
  rename_i hi hu;exact ⟨_,_,h,.set (by simp [AV.ids]) (fun ty' t' ys h=>by cases h),fun K'=>by simp only [yr4,hi,hu]⟩
 split at h<;>try (cases h;done)
 rename_i hi;split at h<;>try (cases h;done)
 rename_i he;split at h<;>try (cases h;done)
 rename_i hs hz;split at h<;>try (cases h;done)
 rename_i hx;obtain ⟨h0,h⟩:=za7 h;refine ⟨_,_,h,.set (by simp [AV.ids]) fun ty' t' ys h=>?_,fun K'=>by simp only [yr4,hi,he,hs,hz,hx,if_pos h0]⟩
 grind
def ka5 (hE:zb1 T P C.E) {c:Call} (hop:o.op=.call c) {st:St T} {K Kp:AV T.U->List (Ent T.U)->Option R} (h:yo4 P C c st K Kp=some r):
  (∃a H1,K a H1=some r/\Keeps T (wrA C o st) st.H H1/\ ∀ {R':Type} (K' Kp':AV T.U->List (Ent T.U)->Option R'),yo4 P C c st K' Kp'=K' a H1)\/ ∃a H1,Kp a H1=some r/\Keeps T (wrA C o st) st.H H1/\ ∀ {R':Type} (K' Kp':AV T.U->List (Ent T.U)->Option R'),yo4 P C c st K' Kp'=Kp' a H1:=by
 unfold yo4 at h;split at h
 ·cases h
 ·rename_i aS has;split at h
  ·rename_i f hc;split at h
   ·rename_i g first caps hf
    split at h
    ·rename_i cs he hcs;split at h
     ·rename_i hall;rcases (hE g cs hcs).2.2 _ _ _ _ _ h with ⟨a,H1,h1,h2,h3⟩|⟨a,H1,h1,h2,h3⟩
      ·refine .inl ⟨a,H1,h1,?_,fun K' Kp'=>by simp only [yo4,has,hc,hf,he,hcs,hall,h3]⟩;have:wrA C o st=cs.wr (first++aS++caps) st.H:=by simp only [wrA,hop,has,hc,hf,hcs]
       rw [this];exact h2
      ·refine .inr ⟨a,H1,h1,?_,fun K' Kp'=>by simp only [yo4,has,hc,hf,he,hcs,hall,h3]⟩;have:wrA C o st=cs.wr (first++aS++caps) st.H:=by simp only [wrA,hop,has,hc,hf,hcs]
       rw [this];exact h2
     ·cases h
    ·cases h
   ·cases h
  ·rename_i hc;split at h
   ·rename_i s x t t' hat;split at h
    ·rename_i e htt he;obtain ⟨a,H1,h1,h2,h3⟩:=kq6 h;refine .inl ⟨a,H1,h1,?_,fun K' Kp'=>by simp only [yo4,has,hc,hat,htt,he,h3]⟩;have:wrA C o st=s.ids:=by simp only [wrA,hop,has,hc]
     rw [this];exact h2
    ·cases h
   ·cases h
  ·rename_i hc;split at h
   ·rename_i s t hat;obtain ⟨a,H1,h1,h2,h3⟩:=vf2 h;refine .inl ⟨a,H1,h1,?_,fun K' Kp'=>by simp only [yo4,has,hc,hat,h3]⟩;have:wrA C o st=s.ids:=by simp only [wrA,hop,has,hc]
    rw [this];exact h2
   ·cases h
  ·rename_i hc;split at h
   ·rename_i m kx x t at2 hat;split at h<;>try (cases h;done)
    rename_i H1 hdl;refine .inl ⟨_,H1,h,?_,fun K' Kp'=>by simp only [yo4,has,hc,hat,hdl]⟩;have:wrA C o st=m.ids:=by simp only [wrA,hop,has,hc]
    rw [this];exact vf7 hdl
   ·cases h
  ·cases h
def yq8 (Z:zb1 T P C.E) {st K X} (h:stepA P C o st K X=some r):
  (∃a H1,K ⟨zc2 T st.F o.dst a,H1⟩=some r/\Keeps T (wrA C o st) st.H H1/\ ∀ {u:Type} (j:St T->Option u) (g:AV T.U->St T->Option u),stepA P C o st j g=j ⟨zc2 T st.F o.dst a,H1⟩)\/ ∃a B,X a B=some r/\Keeps T (wrA C o st) st.H B.H/\ ∀ {u:Type} (j:St T->Option u) (g:AV T.U->St T->Option u),stepA P C o st j g=g a B:=by
 have m:zz6 P o st (fun a=>K ⟨zc2 T st.F o.dst a,st.H⟩)=some r->(∀ {u:Type} (j:St T->Option u) (g:AV T.U->St T->Option u),stepA P C o st j g=zz6 P o st fun a=>j ⟨zc2 T st.F o.dst a,st.H⟩)->
   ∃a H1,K ⟨zc2 T st.F o.dst a,H1⟩=some r/\Keeps T (wrA C o st) st.H H1/\ ∀ {u:Type} (j:St T->Option u) (g:AV T.U->St T->Option u),stepA P C o st j g=j ⟨zc2 T st.F o.dst a,H1⟩:=by
  intro h D;obtain ⟨a,p,q⟩:=ki0 h;exact ⟨a,st.H,p,.refl _,fun j g=>by rw [D];exact q _⟩
 unfold stepA at h;simp only at h;split at h
 ·rename_i f;split at h
  ·rename_i cs hz;split at h
   ·rename_i cs' z;exact .inl ⟨_,_,h,.app,fun j g=>by simp only [stepA,f,hz,z]⟩
   ·cases h
  ·cases h
 ·rename_i f;split at h
  ·rename_i a Q;split at h
   ·rename_i S;exact .inl ⟨_,_,h,.app,fun j g=>by simp only [stepA,f,Q,S]⟩
   ·cases h
  ·cases h
 ·rename_i f;split at h
  ·rename_i G n;exact .inl ⟨_,_,h,.app,fun j g=>by simp only [stepA,f,G,n]⟩
  ·rename_i G n;exact .inl ⟨_,_,h,.app,fun j g=>by simp only [stepA,f,G,n]⟩
  ·cases h
 ·rename_i f;split at h
  ·rename_i k J A V;split at h
   ·rename_i H1 I L;refine .inl ⟨.raw undef,H1,by rw [k];exact h,?_,fun j g=>by simp only [stepA,f,k,J,A,V,I,L];rfl⟩;have: ∀l,wrA C o st=l->Keeps T l st.H H1:=by
     intro l v;rw [<-v];simp only [wrA,f,J];exact jo6 L
    exact this _ rfl
   ·cases h
  ·cases h
 ·rename_i f;split at h
  ·rename_i k J A V;split at h
   ·rename_i H1 I L;refine .inl ⟨.raw undef,H1,by rw [k];exact h,?_,fun j g=>by simp only [stepA,f,k,J,A,V,I,L];rfl⟩;have: ∀l,wrA C o st=l->Keeps T l st.H H1:=by
     intro l v;rw [<-v];simp only [wrA,f,J];exact jo6 L
    exact this _ rfl
   ·cases h
  ·cases h
 ·rename_i f;split at h
  ·rename_i k A W;split at h
   ·rename_i H1 z;refine .inl ⟨.raw undef,H1,by rw [k];exact h,?_,fun j g=>by simp only [stepA,f,k,A,W,z];rfl⟩;have: ∀l,wrA C o st=l->Keeps T l st.H H1:=by
     intro l v;rw [<-v];simp only [wrA,f,A];exact qk1 z
    exact this _ rfl
   ·cases h
  ·cases h
 ·rename_i f;split at h
  ·rename_i A W D;obtain ⟨a,H1,p,q,w⟩:=kd4 h (wrA C o st);exact .inl ⟨a,H1,p,q,fun j g=>by simp only [stepA,f,A,W,D];exact w _⟩
  ·cases h
 ·rename_i f;split at h
  ·rename_i l ty z D;split at h
   ·rename_i e xs M;exact .inl ⟨_,_,h,.app,fun j g=>by simp only [stepA,f,z,D,M]⟩
   ·cases h
  ·rename_i l z D;split at h
   ·rename_i e sz cs M;exact .inl ⟨_,_,h,.app,fun j g=>by simp only [stepA,f,z,D,M]⟩
   ·cases h
  ·cases h
 ·rename_i c f;split at h
  ·rename_i N;exact .inl (m h fun j g=>by simp only [stepA,f,N])
  ·rename_i N;rcases ka5 Z f h with ⟨a,H1,p,q,w⟩|⟨a,H1,p,q,w⟩
   ·exact .inl ⟨a,H1,p,q,fun j g=>by simp only [stepA,f,N];exact w _ _⟩
   ·exact .inr ⟨a,⟨st.F,H1⟩,p,q,fun j g=>by simp only [stepA,f,N];exact w _ _⟩
 ·rename_i s d x f;split at h
  ·rename_i e b p q w;split at h
   ·rename_i O;exact .inl ⟨_,_,h,.refl _,fun j g=>by simp only [stepA,f,p,q,w,O]⟩
   ·cases h
  ·rename_i e i p q w;split at h
   ·rename_i y xs M n O Y;refine .inl ⟨_,_,h,.set (l:=wrA C o st) ?_ (fun _ _ _ h=>by cases h),fun j g=>by simp only [stepA,f,p,q,w,M,n,O,Y]⟩;simp [wrA,f,w,n,AV.ids]
   ·cases h
  ·rename_i hn;refine .inl (m h fun j g=>?_);unfold stepA;simp only [f]
 ·rename_i x f;split at h
  ·rename_i t a Q;exact .inr ⟨_,_,h,.refl _,fun j g=>by simp only [stepA,f,Q]⟩
  ·cases h
 ·rename_i p q w O Y h6 h7 h8 h9 h10 h11;refine .inl (m h fun j g=>?_);unfold stepA;simp only
end
end Go.X
namespace Go.X
open Go.RowKit Go.V
section
variable {T:Tab} {P:Program} {C:Ctx T} {w w':World} {S S':List Nat} {φ φ':Nat->RA} {w0:World} {S0:Ow} {F:AF T} {H:List (Ent T.U)} {F':PF}
variable {ops:Array Oper} {Q:Exit->Act->World->Prop} {k n:Nat} {ds:List Deferred} {o:Oper}
def Oper.wp_and {o:Oper} {a:Act} {w:World} {K K':Act->World->Prop} {Q Q':Exit->Act->World->Prop} (hK: ∀v w,K (a.put o.dst v) w->K' (a.put o.dst v) w) (hd: ∀(d:Deferred) w',K ({a with defers:=d::a.defers}.put o.dst undef) w'->False) (hQ: ∀e a w,e≠.normal->Q e a w->False)
  (h:o.wp P a w K Q):o.wp P a w K' Q':=by
 unfold Oper.wp at h⊢;generalize (execOp a.eval o).run P w=r at h⊢;unfold Oper.upon at h⊢;split at h
 ·exact hK _ _ h
 ·exact hK _ _ h
 ·exact (hd _ _ h).elim
 ·refine h.mono fun e w' hq=>?_;cases e with
  |returned v=>exact hK _ _ hq
  |panicked ch=>exact (hQ _ _ _ (by simp) hq).elim
  |outgrown=>obtain ⟨a1,w1,h1⟩:=hq;exact (hQ _ _ _ (by simp) h1).elim
 ·exact h.mono fun v w' hq=>hK _ _ hq
 ·exact (hQ _ _ _ (by simp) h).elim
 ·exact h.elim
def jy1 {o:Oper} {g a w K Q} (h:({o with guard:=g}:Oper).wp P a w K Q):o.wp P a w K Q:=h
def zu9 (hE:zb1 T P C.E) {st':St T} (hs:stepA P C o ⟨F,H⟩ some (fun _ _=>none)=some st') (hdst:zk1 n o.dst=true) (hns:zd3 o=true) (hpre:zu1 F o=true) (h:Sim T w0 S0 ⟨F,H⟩ F' w S φ) {a:Act} (ha:Fr n ds F' a):
  o.wp P a w (fun a' w'=> ∃F1,zd1 T w0 S0 st' F1 w'/\Fr n ds F1 a'/\ ∃v,a'=a.put o.dst v) Q:=by
 let o':Oper:= {o with guard:=none}
 have hd:dec #[o'] 0 n F'=some o':=by
  unfold dec;have hw:zx3 #[o'] F' o'=some true:=rfl;have hp:yd1 F' o'=true:=yq1 (o:=o') h.fr hpre;have h1:zk1 n o'.dst=true:=hdst;have h2:zd3 o'=true:=hns
  grind
 have hs':stepA P C o' ⟨F,H⟩ some (fun _ _=>none)=some st':=by
  cases o;exact hs
 have hwr:=zi1 (Q:=fun e a' w'=>e=.normal/\ ∃F1,zd1 T w0 S0 st' F1 w'/\Fr n ds F1 a') (ds:=ds) hE hd hs' h (fun st hst F1 w1 h1=>by
  simp only [X0] at hst;subst hst;exact WR.fin (by rfl) fun a1 ha1=>⟨rfl,F1,h1,ha1⟩) (fun a st hst=>by cases hst)
 have hw:=hwr a ha;unfold wpList at hw;have hwant:Region.wanted o' (yielded #[o'] a.tmps)=true:=by
  have:=(zl1 hd).2.2.2.2 ha;exact this
 have hcons:(#[o']:Array Oper).toList.drop 0= [o']:=rfl;rw [hcons] at hw;simp only [hwant,if_true] at hw;rcases hw with hw|⟨_,a1,w1,h1,_⟩
 ·refine jy1 (g:=none) (Oper.wp_and (o:=o') (K:=wpList P #[o'] _ []) ?_ ?_ ?_ hw)
  ·rintro v w1 h1
   unfold wpList at h1
   grind
  ·rintro d w1 h1
   unfold wpList at h1;obtain ⟨_,F1,h2,h3⟩:=h1;have e1:=h3.defers;have e2:({a with defers:=d::a.defers}.put o'.dst undef).defers=d::a.defers:=by cases o'.dst<;>rfl
   rw [e2,ha.defers] at e1;exact absurd (congrArg List.length e1) (by simp)
  ·grind
 ·cases h1
def Sim.frame2 (h:Sim T w0 S0 ⟨F,H⟩ F' w S φ) {tch:List Nat} {nb:Nat} {Fc:AF T} {Fc':PF} {H1 H2:List (Ent T.U)} {S1:List Nat} {φ1:Nat->RA}
  (hc:Sim T w ⟨tch.flatMap fun e=>(φ e).all,S,(List.range nb).map φ⟩ ⟨Fc,H1⟩ Fc' w' S1 φ1) (hnb:nb<=H1.length) (hl:H1.length<=H.length) (hpin:S0.pin.length<=nb)
  (hlv: ∀e∈tch,e<nb/\ ∃x,H[e]?=some x/\x.live=true) (hfree: ∀e,nb<=e->e<H1.length->H[e]?=some .gone) (hlen:H2.length=H.length)
  (h2: ∀(e:Nat) (f:Ent T.U),H2[e]?=some f->(e∈tch/\H1[e]?=some f)\/(nb<=e/\H1[e]?=some f)\/(e∉tch/\(e<nb\/H1.length<=e)/\H[e]?=some f))
  (hrow: ∀(e:Nat) (ty:TypeId) (t:Ty) (ys:List (den T.U t)),e∈tch->H1[e]?=some (.row ty t ys)-> ∃xs,H[e]?=some (.row ty t xs))
  (hFid: ∀t a,F.get T t=some a-> ∀i∈a.ids,i<nb\/H1.length<=i) (hHid: ∀(e:Nat) (f:Ent T.U),H[e]?=some f->(e<nb\/H1.length<=e)-> ∀i∈f.cellIds,i<nb\/H1.length<=i):
  ∃φ2,Sim T w0 S0 ⟨F,H2⟩ F' w' S1 φ2/\ ∀a v,VR T w' S1 φ1 a v->(∀i∈a.ids,i<H1.length)->VR T w' S1 φ2 a v:=by
 let φ2:Nat->RA:=fun i=>if i<H1.length/\(i∈tch\/nb<=i) then φ1 i else φ i
 have hp: ∀i,i<nb->RSame (φ1 i) (φ i):=fun i hi=>(hc.pins i (φ i) (by simp [hi])).1;have hinE: ∀i,i<H1.length->(i∈tch\/nb<=i)->φ2 i=φ1 i:=fun i hi h=>if_pos ⟨hi,h⟩;have houtE: ∀i,i∉tch->(i<nb\/H1.length<=i)->φ2 i=φ i:=fun i h hi=>if_neg fun q=>q.2.elim h fun q2=>by have:=q.1;omega
 have hin: ∀i,i<H1.length->RSame (φ2 i) (φ1 i):=fun i hi=>by
  by_cases h:i∈tch\/nb<=i
  ·exact .of (hinE i hi h)
  ·rw [not_or] at h;rw [houtE i h.1 (by omega)];exact (hp i (by omega)).symm
 have hout: ∀i,(i<nb\/H1.length<=i)->RSame (φ2 i) (φ i):=fun i hi=>by
  by_cases h:i∈tch
  ·have:=(hlv i h).1;rw [hinE i (by omega) (.inl h)];exact hp i this
  ·exact .of (houtE i h hi)
 have hT: ∀b∈tch.flatMap (fun e=>(φ e).all),∃e∈tch,∃a,At (φ e) a/\a.block=b:=by
  intro b hb;obtain ⟨e,he,hb⟩:=V4.1 hb;exact ⟨e,he,zu8.1 hb⟩
 have hTS: ∀b∈tch.flatMap (fun e=>(φ e).all),b∈S:=by
  intro b hb;obtain ⟨e,he,a,ha,rfl⟩:=hT b hb;obtain ⟨_,x,hx,hlx⟩:=hlv e he;exact zi5 h hx hlx ha
 have hTc: ∀b∈tch.flatMap (fun e=>(φ e).all),b∈S0.chg\/w0.heap.size<=b:=by
  intro b hb;obtain ⟨e,he,a,ha,rfl⟩:=hT b hb;obtain ⟨_,x,hx,hlx⟩:=hlv e he;exact (h.lives e x hx hlx a ha).2
 have hS1: ∀b∈S1,b∈S\/w.heap.size<=b:=fun b hb=>(hc.own b hb).1;refine ⟨φ2,⟨?_,?_,h.chg.step hc.chg hTc,fun b hb=>⟨?_,(hc.own b hb).2⟩,fun b hb q1 q2=>hc.ex b (h.ex b hb q1 q2) (fun hm=>(hTc b hm).elim q1 fun hm=>by omega) (h.own b (h.ex b hb q1 q2)).2,?_,fun k r hk=>?_,?_,?_,?_⟩,fun a v hv hi=>hv.phiS fun i hm=>hin i (hi i hm)⟩
 ·intro i a ha;obtain ⟨v,g1,g2⟩:=h.fr i a ha;exact ⟨v,g1,(g2.chg T hc.chg hTS hS1).phiS fun j hj=>hout j (hFid i a ha j hj)⟩
 ·intro i a ha;obtain ⟨g1,g2⟩:=h.ids i a ha;refine ⟨fun j hj=>by have:=g1 j hj;simp only [hlen] at this⊢;exact this,?_⟩;cases a with
  |eptr y sz k c=>
   intro e t xs hx;have hy:=hFid i _ ha y (by simp [AV.ids]);rcases h2 y _ hx with ⟨g3,g4⟩|⟨g3,g4⟩|⟨_,_,g4⟩
   ·obtain ⟨zs,g5⟩:=hrow y _ _ _ g3 g4;obtain ⟨q4,q5⟩:=g2 _ _ _ g5;obtain ⟨_,_,_,n1,_⟩:=h.ents y _ g5;obtain ⟨_,_,_,n2,_⟩:=hc.ents y _ g4;rw [(hp y (hlv y g3).1).2.1] at n2;exact ⟨by omega,q5⟩
   ·have:=(X2.1 g4).1;omega
   ·exact g2 e t xs g4
  |_=>trivial
 ·rcases (hc.own b hb).1 with hb|hb
  ·exact (h.own b hb).1
  ·exact .inr (W8 h.chg.size hb)
 ·intro e f hf hfl a ha;have cal:H1[e]?=some f->At (φ1 e) a->a.block∈S1/\(a.block∈S0.chg\/w0.heap.size<=a.block):=fun g4 ha=>by
   refine ⟨(hc.lives e f g4 hfl a ha).1,?_⟩;rcases (hc.lives e f g4 hfl a ha).2 with hm|hm
   ·exact hTc _ hm
   ·exact .inr (W8 h.chg.size hm)
  rcases h2 e f hf with ⟨g1,g4⟩|⟨g1,g4⟩|⟨g0,g1,g4⟩
  ·rw [hinE e (X2.1 g4).1 (.inl g1)] at ha;exact cal g4 ha
  ·rw [hinE e (X2.1 g4).1 (.inr g1)] at ha;exact cal g4 ha
  ·rw [houtE e g0 g1] at ha;have q:=h.lives e f g4 hfl a ha;refine ⟨hc.ex _ q.1 (fun hb=>?_) (h.own _ q.1).2,q.2⟩;obtain ⟨e',he',a',ha',hbe⟩:=hT _ hb;obtain ⟨_,x,hx,hlx⟩:=hlv e' he';exact h.apart e e' f x g4 hx hfl hlx (fun q=>g0 (q▸he')) a a' ha ha' hbe.symm
 ·obtain ⟨g1,g2⟩:=h.pins k r hk;have hk':=(X2.1 hk).1;exact ⟨(hout k (.inl (by omega))).trans g1,by simp only [hlen] at g2⊢;exact g2⟩
 ·intro e f hf;have hcE:(e∈tch\/nb<=e)->H1[e]?=some f->EntR T w' S1 φ2 e f:=fun q g=>
   (hc.ents e f g).phiE (hinE e (X2.1 g).1 q) fun x hx=>hin x (hc.eids e f g x hx)
  rcases h2 e f hf with ⟨q,g⟩|⟨q,g⟩|⟨g1,g2,g3⟩
  ·exact hcE (.inl q) g
  ·exact hcE (.inr q) g
  ·have hnot:f.live=true-> ∀a,At (φ e) a->a.block∉tch.flatMap (fun e=>(φ e).all):=fun hl a ha hb=>by
    obtain ⟨e',he',a',ha',hbe⟩:=hT _ hb;obtain ⟨_,x,hx,hlx⟩:=hlv e' he';exact h.apart e e' f x g3 hx hl hlx (fun q=>g1 (q▸he')) a a' ha ha' hbe.symm
   have h1:=(h.ents e f g3).chg T hc.chg hTS hS1 fun hl a ha=>⟨hnot hl a ha,hc.ex _ (zi5 h g3 hl ha) (hnot hl a ha) (h.own _ (zi5 h g3 hl ha)).2⟩;exact h1.phiE (houtE e g1 g2) fun x hx=>hout x (hHid e f g3 g2 x hx)
 ·intro e f hf j hj;simp only [hlen];rcases h2 e f hf with ⟨_,g⟩|⟨_,g⟩|⟨_,_,g⟩
  ·have:=hc.eids e f g j hj;simp only at this;omega
  ·have:=hc.eids e f g j hj;simp only at this;omega
  ·exact h.eids e f g j hj
 ·have side: ∀(e:Nat) (f:Ent T.U),H2[e]?=some f->(H1[e]?=some f/\φ2 e=φ1 e)\/(e∉tch/\H[e]?=some f/\φ2 e=φ e):=by
   grind
  have cross: ∀(i j:Nat) (f f':Ent T.U),H1[i]?=some f->f.live=true->j∉tch->H[j]?=some f'->f'.live=true-> ∀a b,At (φ1 i) a->At (φ j) b->a.block≠b.block:=by
   intro i j f f' hi hfl hj hfj hfl' a b ha hb;rcases (hc.lives i f hi hfl a ha).2 with hm|hm
   ·obtain ⟨e',he',a',ha',hbe⟩:=hT _ hm;obtain ⟨_,x,hx,hlx⟩:=hlv e' he';rw [<-hbe];exact h.apart e' j x f' hx hfj hlx hfl' (fun q=>hj (q▸he')) a' b ha' hb
   ·have:=(h.own _ (zi5 h hfj hfl' hb)).2;omega
  intro i j f f' hf hf' hfl hfl' hij a b ha hb;rcases side i f hf with ⟨g1,g2⟩|⟨g0,g1,g2⟩<;>rcases side j f' hf' with ⟨k1,k2⟩|⟨k0,k1,k2⟩<;>rw [g2] at ha<;>rw [k2] at hb
  ·exact hc.apart i j f f' g1 k1 hfl hfl' hij a b ha hb
  ·exact cross i j f f' g1 hfl k0 k1 hfl' a b ha hb
  ·exact (cross j i f' f k1 hfl' g0 g1 hfl b a hb ha).symm
  ·exact h.apart i j f f' g1 k1 hfl hfl' hij a b ha hb
end
end Go.X
namespace Go.X
open Go.RowKit Go.V
section
variable {T:Tab} {P:Program} {C:Ctx T} {w w':World} {S S':List Nat} {φ φ':Nat->RA} {w0:World} {S0:Ow} {F:AF T} {H:List (Ent T.U)} {F':PF}
variable {ops:Array Oper} {Q:Exit->Act->World->Prop} {k n:Nat} {ds:List Deferred} {o:Oper} {R:Type} {r:R}
def wj3 (H:List (Ent T.U)) (k:Nat):List Nat:=k::match H[k]? with
 |some (.drow _ d fe _ (some (_,cs)))=>(match zy8 T H (vl7 T d) fe cs with|some (_,ids)=>ids|none=> [])
 |some (.pmap _ _ _ _ (some (_,j)))=> [j]
 |_=> []
def yy0 (C:Ctx T) (o:Oper) (F:AF T) (H:List (Ent T.U)):List Nat:=
 match o.op with
 | .store _ x y=>match aev T F x,aev T F y with
  |some p,some a=>match ql7 T H p a with|some _=>a.ids|none=> []
  |_,_=> []
 | .buildSlice t _ ps=>match C.ty t,zx4 T F (ps.toList.map Prod.snd) with|some _,some aS=>za1 aS|_,_=> []
 | .mapUpdate t _ _ v=>match C.ty t,aev T F v with|some _,some a=>a.ids|_,_=> []
 | .call c=>match c.callee,c.args.toList,c.argTypes.toList with
  | .builtin .append,[x,y],[t,_]=>match C.dr t,aev T F x,aev T F y with
   |some _,some (.own i),some (.own i2)=>wj3 H i++wj3 (yr5 T H i) i2
   |none,some (.asl i 0 _ _ 0 _),some (.sl j _ 0 _)=> [i,j]
   |_,_,_=> []
  |_,_,_=> []
 |_=> []
def kl0 (o:Oper) (F:AF T) (H:List (Ent T.U)):List Nat:=
 match o.op with
 | .load _ x=>match aev T F x with|some (.eptr k _ _ _)=>(match H[k]? with|some (.drow _ _ _ _ _)=> [k]|_=> [])|_=> []
 | .store _ x _=>match aev T F x with|some (.eptr k _ _ _)=>(match H[k]? with|some (.drow _ _ _ _ _)=> [k]|_=> [])|_=> []
 |_=> []
def wrF (C:Ctx T) (o:Oper) (st:St T):List Nat:=wrA C o st++(yy0 C o st.F st.H++kl0 o st.F st.H)
def Keeps.sub {l m H1} (h:Keeps T l H H1) (a: ∀i∈l,i∈m):Keeps T m H H1:=⟨h.len,fun e b c=>h.same e b fun d=>c (a e d),h.row⟩
def Keeps.trans {l H1 H2} (h:Keeps T l H H1) (b:Keeps T l H1 H2):Keeps T l H H2:=
 ⟨W8 h.len b.len,fun e a c=>(b.same e (V3 a h.len) c).trans (h.same e a c),fun e ty t ys a d=>by
  obtain ⟨xs,f⟩:=b.row e ty t ys (V3 a h.len) d;exact h.row e ty t xs a f⟩
def yb0: ∀(ids) {H},Keeps T ids H (zw9 T H ids)
 | [],H=>.refl _
 |i::r,H=>(Keeps.set (l:=i::r) (U6 ..) fun ty t ys e=>by cases e).trans ((yb0 r).sub fun j a=>Z4 _ a)
def ju4 {t x st K} (h:vg4 T t x st K=some r): ∃s a y,x=.tmp s/\st.F.get T s=some a/\K ⟨(s,zp6 T t y)::st.F,zw9 T st.H a.ids⟩=some r/\ ∀ {d:Type} (b:St T->Option d),vg4 T t x st b=b ⟨(s,zp6 T t y)::st.F,zw9 T st.H a.ids⟩:=by
 unfold vg4 at h;split at h<;>try (cases h;done)
 rename_i s;split at h<;>try (cases h;done)
 rename_i a c;obtain ⟨y,e,f⟩:=jr7 h;exact ⟨s,a,y,rfl,c,e,fun b=>by simp only [vg4,c,f]⟩
def jf1 {te:Ty}: ∀ {ps:List (Nat×Operand)} {st:St T} {K:St T->Option R} {l:List Nat},ja3 T te ps st K=some r->(∀x∈ps.map Prod.snd,∀a,aev T st.F x=some a-> ∀i∈a.ids,i∈l)->
  ∃st',K st'=some r/\Keeps T l st.H st'.H/\ ∀ {R':Type} (K':St T->Option R'),ja3 T te ps st K'=K' st'
 | [],st,K,l,h,_=>⟨st,h,.refl _,fun _=>rfl⟩
 |(j,x)::ps,st,K,l,h,hl=>by
  unfold ja3 at h;split at h<;>try (cases h;done)
  rename_i a ha;split at h
  ·rename_i cs hc;obtain ⟨st',h1,h2,h3⟩:=jf1 h fun y hy=>hl y (Z4 _ hy);exact ⟨st',h1,h2,fun K'=>by simp only [ja3,ha,hc];exact h3 K'⟩
  ·rename_i hc;obtain ⟨s,b,y,rfl,hb,h1,h2⟩:=ju4 h;have:b=a:=by have ha':st.F.get T s=some a:=ha;rw [hb] at ha';exact X5 ha'
   subst this;obtain ⟨st',h3,h4,h5⟩:=jf1 (l:=l) h1 fun z hz c hzc i hi=>by
    have hz':aev T st.F z=some c\/c=zp6 T te y:=by
     cases z with
     |tmp q=>
      have hzc:AF.get T ((s,zp6 T te y)::st.F) q=some c:=hzc;simp only [AF.get] at hzc;split at hzc
      ·grind
      ·exact .inl hzc
     |const v=>exact .inl hzc
     |global g=>exact .inl hzc
     |func f=>exact .inl hzc
    rcases hz' with hz'|rfl
    ·grind
    ·rw [qj6] at hi;cases hi
   refine ⟨st',h3,((yb0 _).sub fun i hi=>hl _ (U6 ..) _ ha i hi).trans h4,fun K'=>?_⟩;simp only [ja3,ha,hc,h2];exact h5 K'
def kj3 (hE:zb1 T P C.E) {st:St T} {K:St T->Option R} {Kp:AV T.U->St T->Option R} (h:zn5 P C o st K Kp=some r):
  (∃Fz a H1,K ⟨zc2 T Fz o.dst a,H1⟩=some r/\Keeps T (wrF C o st) st.H H1/\ ∀ {R':Type} (K':St T->Option R') (Kp':AV T.U->St T->Option R'),zn5 P C o st K' Kp'=K' ⟨zc2 T Fz o.dst a,H1⟩)\/ ∃a st',Kp a st'=some r/\Keeps T (wrF C o st) st.H st'.H/\ ∀ {R':Type} (K':St T->Option R') (Kp':AV T.U->St T->Option R'),zn5 P C o st K' Kp'=Kp' a st':=by
 have plain:stepA P C o st K Kp=some r->(∀ {R':Type} (K':St T->Option R') (Kp':AV T.U->St T->Option R'),zn5 P C o st K' Kp'=stepA P C o st K' Kp')->
   (∃Fz a H1,K ⟨zc2 T Fz o.dst a,H1⟩=some r/\Keeps T (wrF C o st) st.H H1/\ ∀ {R':Type} (K':St T->Option R') (Kp':AV T.U->St T->Option R'),zn5 P C o st K' Kp'=K' ⟨zc2 T Fz o.dst a,H1⟩)\/ ∃a st',Kp a st'=some r/\Keeps T (wrF C o st) st.H st'.H/\ ∀ {R':Type} (K':St T->Option R') (Kp':AV T.U->St T->Option R'),zn5 P C o st K' Kp'=Kp' a st':=by
  intro h he;rcases yq8 hE h with ⟨a,H1,h1,h2,h3⟩|⟨a,st',h1,h2,h3⟩
  ·exact .inl ⟨st.F,a,H1,h1,h2.sub fun i hi=>X4.2 (.inl hi),fun K' Kp'=>by rw [he];exact h3 K' Kp'⟩
  ·exact .inr ⟨a,st',h1,h2.sub fun i hi=>X4.2 (.inl hi),fun K' Kp'=>by rw [he];exact h3 K' Kp'⟩
 unfold zn5 at h;split at h
 ·rename_i t x y hop;split at h<;>try (cases h;done)
  rename_i p a hp ha;split at h
  ·rename_i te hc hte;split at h<;>try (cases h;done)
   rename_i hne;obtain ⟨s,b,z,rfl,hb,h1,h2⟩:=ju4 h;have:b=a:=by have ha':st.F.get T s=some a:=ha;rw [hb] at ha';exact X5 ha'
   subst this;have kp: ∀ {H1:List (Ent T.U)},Keeps T (wrA C o ⟨(s,zp6 T te z)::st.F,zw9 T st.H b.ids⟩) (zw9 T st.H b.ids) H1->Keeps T (wrF C o st) st.H H1:=by
    intro H1 h4;refine ((yb0 _).sub (m:=wrF C o st) fun i hi=>X4.2 (.inr (X4.2 (.inl ?_)))).trans (h4.sub fun i hi=>X4.2 (.inl ?_))
    ·simp only [yy0,hop,hp,ha,hte];exact hi
    ·have hx:aev T ((s,zp6 T te z)::st.F) x=aev T st.F x:=by
      cases x with
      |tmp q=>
       have hq:Nat.beq s q=false:=by simpa [vh8] using hne
       show AF.get T ((s,zp6 T te z)::st.F) q=_;simp only [AF.get,hq];rfl
      |_=>rfl
     simp only [wrA,hop,hx] at hi⊢;exact hi
   rcases yq8 hE h1 with ⟨a1,H1,h3,h4,h5⟩|⟨a1,st',h3,h4,h5⟩
   ·refine .inl ⟨_,a1,H1,h3,kp h4,fun K' Kp'=>?_⟩;simp only [zn5,hop,hp,ha,hc,hte,hne,h2];exact h5 K' Kp'
   ·refine .inr ⟨a1,st',h3,kp h4,fun K' Kp'=>?_⟩;simp only [zn5,hop,hp,ha,hc,hte,hne,h2];exact h5 K' Kp'
  ·rename_i hn;refine plain h fun K' Kp'=>?_;simp only [zn5,hop,hp,ha]
 ·rename_i t len ps hop;split at h
  ·rename_i te aS hte hps
   ·have hmem: ∀(l:List Operand) (aS:List (AV T.U)),zx4 T st.F l=some aS-> ∀x∈l,∀a,aev T st.F x=some a-> ∀i∈a.ids,i∈za1 aS:=by
     intro l;induction l with
     |nil=>intro aS _ x hx;cases hx
     |cons z q ih=>
      intro aS has x hx a ha i hi;unfold zx4 at has;split at has<;>try (cases has;done)
      rename_i b bs hb hbs;simp only [X0] at has;subst has;rw [za1];rcases Z0.1 hx with rfl|hx
      ·rw [hb] at ha;simp only [X0] at ha;subst ha;exact X4.2 (.inl hi)
      ·exact X4.2 (.inr (ih bs hbs x hx a ha i hi))
    obtain ⟨st',h1,h2,h3⟩:=jf1 (l:=za1 aS) h (hmem _ _ hps);have kp: ∀ {H1:List (Ent T.U)},Keeps T (wrA C o st') st'.H H1->Keeps T (wrF C o st) st.H H1:=by
     intro H1 h5;refine (h2.sub (m:=wrF C o st) fun i hi=>X4.2 (.inr (X4.2 (.inl ?_)))).trans (h5.sub fun i hi=>?_)
     ·simp only [yy0,hop,hte,hps];exact hi
     ·simp only [wrA,hop] at hi;cases hi
    rcases yq8 hE h1 with ⟨a1,H1,h4,h5,h6⟩|⟨a1,st2,h4,h5,h6⟩
    ·refine .inl ⟨_,a1,H1,h4,kp h5,fun K' Kp'=>?_⟩;simp only [zn5,hop,hte,hps,h3];exact h6 K' Kp'
    ·refine .inr ⟨a1,st2,h4,kp h5,fun K' Kp'=>?_⟩;simp only [zn5,hop,hte,hps,h3];exact h6 K' Kp'
  ·rename_i hn;refine plain h fun K' Kp'=>?_;simp only [zn5,hop]
 ·rename_i t m x v hop;split at h
  ·rename_i te a hte ha;split at h
   ·rename_i hc;split at h<;>try (cases h;done)
    rename_i hne;obtain ⟨s,b,z,rfl,hb,h1,h2⟩:=ju4 h;have:b=a:=by have ha':st.F.get T s=some a:=ha;rw [hb] at ha';exact X5 ha'
    subst this;have kp: ∀ {H1:List (Ent T.U)},Keeps T (wrA C o ⟨(s,zp6 T te z)::st.F,zw9 T st.H b.ids⟩) (zw9 T st.H b.ids) H1->Keeps T (wrF C o st) st.H H1:=by
     intro H1 h4;refine ((yb0 _).sub (m:=wrF C o st) fun i hi=>X4.2 (.inr (X4.2 (.inl ?_)))).trans (h4.sub fun i hi=>X4.2 (.inl ?_))
     ·simp only [yy0,hop,hte,ha];exact hi
     ·have hx:aev T ((s,zp6 T te z)::st.F) m=aev T st.F m:=by
       cases m with
       |tmp q=>
        have hq:Nat.beq s q=false:=by
         rw [X3] at hne;simpa [vh8] using hne.1
        show AF.get T ((s,zp6 T te z)::st.F) q=_;simp only [AF.get,hq];rfl
       |_=>rfl
      simp only [wrA,hop,hx] at hi⊢;exact hi
    rcases yq8 hE h1 with ⟨a1,H1,h3,h4,h5⟩|⟨a1,st',h3,h4,h5⟩
    ·refine .inl ⟨_,a1,H1,h3,kp h4,fun K' Kp'=>?_⟩;simp only [zn5,hop,hte,ha,hc,hne,h2];exact h5 K' Kp'
    ·refine .inr ⟨a1,st',h3,kp h4,fun K' Kp'=>?_⟩;simp only [zn5,hop,hte,ha,hc,hne,h2];exact h5 K' Kp'
   ·rename_i cs hc;refine plain h fun K' Kp'=>?_;simp only [zn5,hop,hte,ha,hc]
  ·rename_i hn;refine plain h fun K' Kp'=>?_;simp only [zn5,hop]
 ·rename_i hn1 hn2 hn3;refine plain h fun K' Kp'=>?_;unfold zn5;split
  ·rename_i hop;exact (hn1 _ _ _ hop).elim
  ·rename_i hop;exact (hn2 _ _ _ hop).elim
  ·rename_i hop;exact (hn3 _ _ _ _ hop).elim
  ·rfl
def openH_keeps {k:Nat} {e:TypeId} {d:Nat} {fe:List TypeId} {xs:List (T.U d)} {a:Nat}:Keeps T [k] H (yl6 T H k e d fe xs a):=by
 refine ⟨by unfold yl6;simp,fun i hi hn=>?_,fun i ty t ys hi hy=>?_⟩
 ·unfold yl6;rw [X8 (by simpa using hi),Z5 (fun q=>hn (by simp [q]))]
 ·unfold yl6 at hy
  grind
def qj0 {k e d fe xs a}:Keeps T [k] H (H.set k (.drow e d fe xs a)):=
 Keeps.set (U6 ..) fun ty t ys e=>by cases e
def kc8 {t k sz a c e d fe xs p K} (h:yv4 P t H k sz a c e d fe xs p K=some r):
  ∃u H1,K u H1=some r/\Keeps T [k] H H1/\ ∀ {s:Type} (g:AV T.U->List (Ent T.U)->Option s),yv4 P t H k sz a c e d fe xs p g=g u H1:=by
 unfold yv4 at h;split at h<;>try (cases h;done)
 rename_i b;split at h
 ·split at h<;>try (cases h;done)
  rename_i v q;split at h
  ·rename_i l;obtain ⟨i,j⟩:=za7 h;exact ⟨v,H,j,.refl _,fun g=>by simp only [yv4,b,q,l,if_pos i]⟩
  ·rename_i l;split at h<;>try (cases h;done)
   rename_i u m;split at h<;>try (cases h;done)
   rename_i f;obtain ⟨i,j⟩:=za7 h;exact ⟨u,_,j,openH_keeps,fun g=>by simp only [yv4,b,q,l,m,f,if_pos i]⟩
 ·split at h<;>try (cases h;done)
  rename_i u m;split at h<;>try (cases h;done)
  rename_i f;obtain ⟨i,j⟩:=za7 h;exact ⟨u,H,j,.refl _,fun g=>by simp only [yv4,b,m,f,if_pos i]⟩
def vl5 {t k sz a c e d fe xs j v K} (h:yh3 P t H k sz a c e d fe xs j v K=some r):
  ∃H1,K H1=some r/\Keeps T [k] H H1/\ ∀ {l:Type} (f:List (Ent T.U)->Option l),yh3 P t H k sz a c e d fe xs j v f=f H1:=by
 unfold yh3 at h;split at h<;>try (cases h;done)
 rename_i b;split at h
 ·obtain ⟨g,i⟩:=za7 h;exact ⟨_,i,openH_keeps.trans qj0,fun f=>by simp only [yh3,b,if_pos g]⟩
 ·obtain ⟨g,i⟩:=za7 h;exact ⟨_,i,qj0,fun f=>by simp only [yh3,b,if_pos g]⟩
def kd5 {d fe t l c K} (h:qd0 P d fe t H l c K=some r):
  ∃u H1,K u H1=some r/\Keeps T [] H H1/\ ∀ {f:Type} (a:AV T.U->List (Ent T.U)->Option f),qd0 P d fe t H l c a=a u H1:=by
 unfold qd0 at h;split at h<;>try (cases h;done)
 rename_i g;split at h<;>try (cases h;done)
 rename_i b j;split at h<;>try (cases h;done)
 rename_i m;obtain ⟨p,q⟩:=za7 h;refine ⟨_,_,q,⟨by simp,fun i e _=>X8 e,fun i ty t ys e s=>⟨ys,by rwa [X8 e] at s⟩⟩,fun a=>by simp only [qd0,g,b,j,m,if_pos p]⟩
def kj5 {st K z} (b:zo3 P C o st K=some z) (h:z=some r):
  ∃a H1,K ⟨zc2 T st.F o.dst a,H1⟩=some r/\Keeps T (kl0 o st.F st.H) st.H H1/\ ∀ {s:Type} (g:St T->Option s),zo3 P C o st g=some (g ⟨zc2 T st.F o.dst a,H1⟩):=by
 unfold zo3 at b;split at b<;>try (cases b;done)
 ·rename_i t x y c;split at b<;>try (cases b;done)
  rename_i p;obtain rfl:=X5 b;split at h<;>try (cases h;done)
  rename_i d i;obtain ⟨u,H1,j,l,m⟩:=kd5 h;exact ⟨u,H1,j,l.sub (by simp),fun g=>by simp only [zo3,c,p,d,i,m]⟩
 ·rename_i t x y c;split at b<;>try (cases b;done)
  rename_i d;split at b<;>try (cases b;done)
  rename_i f;obtain rfl:=X5 b;split at h<;>try (cases h;done)
  rename_i i q;obtain ⟨v,A⟩:=qf5 h;refine ⟨_,_,A,.refl _,fun g=>?_⟩;simp only [zo3,c,d,f,i,q];exact congrArg some (if_pos v)
 ·rename_i t x c;split at b<;>try (cases b;done)
  rename_i d;split at b<;>try (cases b;done)
  rename_i f;obtain rfl:=X5 b;obtain ⟨u,H1,j,l,m⟩:=kc8 h;exact ⟨u,H1,j,by simp only [kl0,c,d,f];exact l,fun g=>by simp only [zo3,c,d,f,m]⟩
 ·rename_i t x y c;split at b<;>try (cases b;done)
  rename_i d;split at b<;>try (cases b;done)
  rename_i f;obtain rfl:=X5 b;split at h<;>try (cases h;done)
  rename_i e i;obtain ⟨H1,j,l,m⟩:=vl5 h;exact ⟨.raw undef,H1,by rw [e];exact j,by simp only [kl0,c,d,f];exact l,fun g=>by simp only [zo3,c,d,f,e,i,m,zc2]⟩
def yv9 {st:St T} {K:St T->Option R} (hz:zo3 P C o st K=none) {R':Type} (K':St T->Option R'):zo3 P C o st K'=none:=by
 unfold zo3 at hz⊢
 grind
def kj4 {st:St T} {K:St T->Option R} {z:Option R} (hz:yj5 P C o st K=some z) (h:z=some r):
  ∃a H1,K ⟨zc2 T st.F o.dst a,H1⟩=some r/\Keeps T (yy0 C o st.F st.H) st.H H1/\ ∀ {R':Type} (K':St T->Option R'),yj5 P C o st K'=some (K' ⟨zc2 T st.F o.dst a,H1⟩):=by
 unfold yj5 at hz;cases hz
def js6 {st:St T} {K:St T->Option R} (hz:yj5 P C o st K=none) {R':Type} (K':St T->Option R'):yj5 P C o st K'=none:=rfl
def qj2 (hE:zb1 T P C.E) {st:St T} {K:St T->Option R} {Kp:AV T.U->St T->Option R} (h:zj7 P C o st K Kp=some r):
  (∃Fz a H1,K ⟨zc2 T Fz o.dst a,H1⟩=some r/\Keeps T (wrF C o st) st.H H1/\ ∀ {R':Type} (K':St T->Option R') (Kp':AV T.U->St T->Option R'),zj7 P C o st K' Kp'=K' ⟨zc2 T Fz o.dst a,H1⟩)\/ ∃a st',Kp a st'=some r/\Keeps T (wrF C o st) st.H st'.H/\ ∀ {R':Type} (K':St T->Option R') (Kp':AV T.U->St T->Option R'),zj7 P C o st K' Kp'=Kp' a st':=by
 unfold zj7 at h;split at h
 ·rename_i z hz;obtain ⟨a,H1,h1,h2,h3⟩:=kj5 hz h;exact .inl ⟨st.F,a,H1,h1,h2.sub fun i hi=>X4.2 (.inr (X4.2 (.inr hi))),fun K' Kp'=>by simp only [zj7,h3]⟩
 ·rename_i hz;split at h
  ·rename_i z hz2;obtain ⟨a,H1,h1,h2,h3⟩:=kj4 hz2 h;exact .inl ⟨st.F,a,H1,h1,h2.sub fun i hi=>X4.2 (.inr (X4.2 (.inl hi))),fun K' Kp'=>by simp only [zj7,yv9 hz,h3]⟩
  ·rename_i hz2;rcases kj3 hE h with ⟨Fz,a,H1,h1,h2,h3⟩|⟨a,st',h1,h2,h3⟩
   ·exact .inl ⟨Fz,a,H1,h1,h2,fun K' Kp'=>by simp only [zj7,yv9 hz,js6 hz2,h3]⟩
   ·exact .inr ⟨a,st',h1,h2,fun K' Kp'=>by simp only [zj7,yv9 hz,js6 hz2,h3]⟩
def qg5 {z:Option (St T)} {st':St T} (hz:zo3 P C o ⟨F,H⟩ some=some z\/yj5 P C o ⟨F,H⟩ some=some z) (hs:z=some st') (hdst:zk1 n o.dst=true) (hns:zd3 o=true) (hpre:zu1 F o=true) (h:Sim T w0 S0 ⟨F,H⟩ F' w S φ) {a:Act} (ha:Fr n ds F' a):
  o.wp P a w (fun a' w'=> ∃F1,zd1 T w0 S0 st' F1 w'/\Fr n ds F1 a'/\ ∃v,a'=a.put o.dst v) Q:=by
 let o':Oper:= {o with guard:=none}
 have hd:dec #[o'] 0 n F'=some o':=by
  unfold dec;have hw:zx3 #[o'] F' o'=some true:=rfl;have hp:yd1 F' o'=true:=yq1 (o:=o') h.fr hpre;have h1:zk1 n o'.dst=true:=hdst;have h2:zd3 o'=true:=hns
  grind
 have hs':zo3 P C o' ⟨F,H⟩ some=some z\/yj5 P C o' ⟨F,H⟩ some=some z:=by
  cases o;exact hz
 have fin: ∀st,some st=some st'->zt3 P #[o'] (fun e a' w'=>e=.normal/\ ∃F1,zd1 T w0 S0 st' F1 w'/\Fr n ds F1 a') 1 n ds w0 S0 st:=fun st hst F1 w1 h1=>by
  simp only [X0] at hst;subst hst;exact WR.fin (by rfl) fun a1 ha1=>⟨rfl,F1,h1,ha1⟩
 have hwr:WR P #[o'] (fun e a' w'=>e=.normal/\ ∃F1,zd1 T w0 S0 st' F1 w'/\Fr n ds F1 a') 0 n ds F' w:=by
  rcases hs' with hs'|hs'
  ·exact ji7 hd hs' hs h fin
  ·subst hs;exact ji6 hd hs' h fin
 have hw:=hwr a ha;unfold wpList at hw;have hwant:Region.wanted o' (yielded #[o'] a.tmps)=true:=by
  have:=(zl1 hd).2.2.2.2 ha;exact this
 have hcons:(#[o']:Array Oper).toList.drop 0= [o']:=rfl;rw [hcons] at hw;simp only [hwant,if_true] at hw;rcases hw with hw|⟨_,a1,w1,h1,_⟩
 ·refine jy1 (g:=none) (Oper.wp_and (o:=o') (K:=wpList P #[o'] _ []) ?_ ?_ ?_ hw)
  ·rintro v w1 h1
   unfold wpList at h1
   grind
  ·rintro d w1 h1
   unfold wpList at h1;obtain ⟨_,F1,h2,h3⟩:=h1;have e1:=h3.defers;have e2:({a with defers:=d::a.defers}.put o'.dst undef).defers=d::a.defers:=by cases o'.dst<;>rfl
   rw [e2,ha.defers] at e1;exact absurd (congrArg List.length e1) (by simp)
  ·grind
 ·cases h1
def qg6 (hE:zb1 T P C.E) {st':St T} (hs:zj7 P C o ⟨F,H⟩ some (fun _ _=>none)=some st') (hdst:zk1 n o.dst=true) (hns:zd3 o=true) (hpre:zu1 F o=true) (h:Sim T w0 S0 ⟨F,H⟩ F' w S φ) {a:Act} (ha:Fr n ds F' a):
  o.wp P a w (fun a' w'=> ∃F1,zd1 T w0 S0 st' F1 w'/\Fr n ds F1 a'/\ ∃v,a'=a.put o.dst v) Q:=by
 have pre2: ∀ {F2:AF T} {H2:List (Ent T.U)} {S2:List Nat},Sim T w0 S0 ⟨F2,H2⟩ F' w S2 φ->(∀t,(F.get T t).isSome=true->(F2.get T t).isSome=true)->zu1 F2 o=true:=by
  intro F2 H2 S2 _ hF;unfold zu1 at hpre⊢;rw [Y8] at hpre⊢;intro x hx;have:=hpre x hx;cases x with
  |tmp t=>exact hF t this
  |_=>exact this
 unfold zj7 at hs;split at hs
 ·rename_i z hz;exact qg5 (.inl hz) hs hdst hns hpre h ha
 split at hs
 ·rename_i z hz;exact qg5 (.inr hz) hs hdst hns hpre h ha
 unfold zn5 at hs;split at hs
 ·split at hs<;>try (cases hs;done)
  split at hs
  ·split at hs<;>try (cases hs;done)
   obtain ⟨⟨F2,H2⟩,S2,h1,h2,h3⟩:=zz0 hs h;exact zu9 hE h1 hdst hns (pre2 h2 h3) h2 ha
  ·exact zu9 hE hs hdst hns hpre h ha
 ·split at hs
  ·obtain ⟨⟨F2,H2⟩,S2,h1,h2,h3⟩:=ya9 hs h;exact zu9 hE h1 hdst hns (pre2 h2 h3) h2 ha
  ·exact zu9 hE hs hdst hns hpre h ha
 ·split at hs
  ·split at hs
   ·split at hs<;>try (cases hs;done)
    obtain ⟨⟨F2,H2⟩,S2,h1,h2,h3⟩:=zz0 hs h;exact zu9 hE h1 hdst hns (pre2 h2 h3) h2 ha
   ·exact zu9 hE hs hdst hns hpre h ha
  ·exact zu9 hE hs hdst hns hpre h ha
 ·exact zu9 hE hs hdst hns hpre h ha
end
end Go.X
namespace Go.X
open Go.RowKit Go.V
section
variable {T:Tab} (P:Program)
def zx2 (c:Nat) (v:AV T.U) (cs:List (AV T.U)):List (AV T.U):=match cs.all (zb7 T)&&zb7 T v with|true=>cs.set c v|false=>cs
def yd3 (c:Nat) (v:AV T.U):Ent T.U->Ent T.U
 | .blk t cs=>.blk t (zx2 c v cs)
 | .drow e d fe xs (some (a,cs))=>.drow e d fe xs (some (a,cs.set c v))
 |x=>x
def spE (c:Nat):Ent T.U->Ent T.U->Prop
 | .blk t cs,.blk f b=>t=f/\cs.length=b.length/\cs[c]?=b[c]?/\cs.all (zb7 T)=true/\b.all (zb7 T)=true
 | .drow e d fe xs (some (a,cs)),y=> ∃b,y=.drow e d fe xs (some (a,b))/\cs.length=b.length/\cs[c]?=b[c]?
 |_,_=>False
def simE (c:Nat) (x y:Ent T.U):Prop:=x=y\/spE c x y
def yq7 (t:TypeId):Bool:=match P.info? t,P.underlying t with|some i,some d=> !ye3 d&&Nat.beq i.size 1|_,_=>false
def wl3 (o:Oper) (F:AF T) (H:List (Ent T.U)):Option (Nat×Nat×Option (AV T.U)):=
 match o.op with
 | .load t x=>match aev T F x with
  |some (.ptr i c)=>match H[i]? with
   |some (.blk _ cs)=>(match yq7 P t&&(cs.all (zb7 T)&&Nat.blt c cs.length) with|true=>some (i,c,none)|false=>none)
   |_=>none
  |some (.eptr i _ _ c)=>match H[i]? with
   |some (.drow _ _ _ _ (some (_,cs)))=>(match yq7 P t&&Nat.blt c cs.length with|true=>some (i,c,none)|false=>none)
   |_=>none
  |_=>none
 | .store t x y=>match o.dst,aev T F x,aev T F y with
  |none,some (.ptr i c),some v=>match H[i]? with
   |some (.blk _ cs)=>(match yq7 P t&&(zx8 T v&&(cs.all (zb7 T)&&Nat.blt c cs.length)) with|true=>some (i,c,some v)|false=>none)
   |_=>none
  |none,some (.eptr i _ _ c),some v=>match H[i]? with
   |some (.drow _ _ _ _ (some (_,cs)))=>(match yq7 P t&&(zx8 T v&&Nat.blt c cs.length) with|true=>some (i,c,some v)|false=>none)
   |_=>none
  |_,_,_=>none
 |_=>none
def vi6 (k c:Nat) (a:Option (AV T.U)) (f:Ent T.U) (H:List (Ent T.U)):List (Ent T.U):=match a with|some v=>H.set k (yd3 c v f)|none=>H
end
section
variable {T:Tab} {P:Program} {C:Ctx T} {F F':AF T} {H H':List (Ent T.U)} {o:Oper}
def simE.symm {c:Nat} {x y:Ent T.U} (h:simE c x y):simE c y x:=by
 rcases h with rfl|h
 ·exact .inl rfl
 ·cases x with
  |blk t cs=>
   cases y with
   |blk l b=>obtain ⟨rfl,f,g,i,j⟩:=h;exact .inr ⟨rfl,f.symm,g.symm,j,i⟩
   |_=>exact h.elim
  |drow e d fe xs k=>
   cases k with
   |none=>exact h.elim
   |some p=>obtain ⟨a,cs⟩:=p;obtain ⟨b,rfl,f,g⟩:=h;exact .inr ⟨cs,rfl,f.symm,g.symm⟩
  |_=>exact h.elim
def simE.trans {c:Nat} {x y z:Ent T.U} (h:simE c x y) (h':simE c y z):simE c x z:=by
 rcases h with rfl|h
 ·exact h'
 ·rcases h' with rfl|h'
  ·exact .inr h
  ·cases x with
   |blk t cs=>
    cases y with
    |blk t' cs'=>
     cases z with
     |blk t2 cs2=>obtain ⟨rfl,h2,h3,h4,h5⟩:=h;obtain ⟨rfl,g2,g3,g4,g5⟩:=h';exact .inr ⟨rfl,h2.trans g2,h3.trans g3,h4,g5⟩
     |_=>exact h'.elim
    |_=>exact h.elim
   |drow e d fe xs op=>
    cases op with
    |none=>exact h.elim
    |some p=>
     obtain ⟨a,cs⟩:=p;obtain ⟨cs',rfl,h2,h3⟩:=h;obtain ⟨cs2,rfl,g2,g3⟩:=h';exact .inr ⟨cs2,rfl,h2.trans g2,h3.trans g3⟩
   |_=>exact h.elim
def jn3 {cs:List (AV T.U)} {c:Nat} {v:AV T.U} (h:cs.all (zb7 T)=true) (hv:zb7 T v=true):(cs.set c v).all (zb7 T)=true:=by
 grind
def zm9 {c v cs} (h:cs.all (zb7 T)=true) (a:zb7 T v=true):zx2 c v cs=cs.set c v:=by unfold zx2;rw [h,a];rfl
def zf3 (c v cs):(zx2 c v cs=cs)\/(zx2 c v cs=cs.set c v/\cs.all (zb7 T)=true/\zb7 T v=true):=by
 cases h:cs.all (zb7 T) with
 |false=>left;unfold zx2;rw [h];rfl
 |true=>
  cases hv:zb7 T v with
  |false=>left;unfold zx2;rw [h,hv];rfl
  |true=>exact .inr ⟨zm9 h hv,rfl,rfl⟩
def jg5 (c:Nat) (v:AV T.U) (cs:List (AV T.U)):(zx2 c v cs).length=cs.length:=by
 rcases zf3 c v cs with h|⟨h,_⟩<;>rw [h];simp
def jg4 {c v cs} (h:cs.all (zb7 T)=true):(zx2 c v cs).all (zb7 T)=true:=by
 rcases zf3 c v cs with a|⟨a,_,b⟩<;>rw [a]
 ·exact h
 ·exact jn3 h b
def ge8 {c c'} (b:c'≠c) (v:AV T.U) (cs:List (AV T.U)):(zx2 c' v cs)[c]?=cs[c]?:=by
 rcases zf3 c' v cs with a|⟨a,_⟩<;>rw [a];exact Z5 b
def simE.left {c c'} (i:c'≠c) (v:AV T.U) {x y} (h:simE c x y):simE c (yd3 c' v x) y:=by
 have j:simE c (yd3 c' v x) x:=by
  cases x with
  |blk t cs=>
   show simE c (.blk t (zx2 c' v cs)) (.blk t cs);rcases zf3 c' v cs with k|⟨k,b,f⟩
   ·rw [k];exact .inl rfl
   ·rw [k];exact .inr ⟨rfl,by simp,Z5 i,jn3 b f,b⟩
  |drow e d fe xs l=>
   cases l with
   |none=>exact .inl rfl
   |some p=>obtain ⟨a,cs⟩:=p;exact .inr ⟨cs,rfl,by simp,Z5 i⟩
  |_=>exact .inl rfl
 rcases h with rfl|h
 ·exact j
 ·cases x with
  |blk t cs=>
   cases y with
   |blk q g=>
    obtain ⟨rfl,b,f,m,n⟩:=h;exact .inr ⟨rfl,(jg5 ..).trans b,(ge8 i ..).trans f,jg4 m,n⟩
   |_=>exact h.elim
  |drow e d fe xs l=>
   cases l with
   |none=>exact h.elim
   |some p=>
    obtain ⟨a,cs⟩:=p;obtain ⟨g,rfl,b,f⟩:=h;exact .inr ⟨g,rfl,by simpa using b,(Z5 i).trans f⟩
  |_=>exact h.elim
def simE.both {c:Nat} (c':Nat) (v:AV T.U) {x y:Ent T.U} (h:simE c x y):simE c (yd3 c' v x) (yd3 c' v y):=by
 rcases h with rfl|h
 ·exact .inl rfl
 ·cases x with
  |blk t cs=>
   cases y with
   |blk t' cs'=>
    obtain ⟨rfl,h2,h3,h4,h5⟩:=h;refine .inr ⟨rfl,by rw [jg5,jg5];exact h2,?_,jg4 h4,jg4 h5⟩;cases hv:zb7 T v with
    |false=>
     rcases zf3 c' v cs with h6|⟨_,_,h6⟩
     ·rcases zf3 c' v cs' with h7|⟨_,_,h7⟩
      ·rw [h6,h7];exact h3
      ·rw [hv] at h7;cases h7
     ·rw [hv] at h6;cases h6
    |true=>rw [zm9 h4 hv,zm9 h5 hv,List.getElem?_set,List.getElem?_set,h2,h3]
   |_=>exact h.elim
  |drow e d fe xs op=>
   cases op with
   |none=>exact h.elim
   |some p=>
    obtain ⟨a,cs⟩:=p;obtain ⟨cs',rfl,h2,h3⟩:=h;refine .inr ⟨_,rfl,by simpa using h2,?_⟩
    grind
  |_=>exact h.elim
def vk8 {c c'} (f:c≠c') (v e:AV T.U) (cs:List (AV T.U)):zx2 c v (zx2 c' e cs)=zx2 c' e (zx2 c v cs):=by
 rcases zf3 c v cs with a|⟨a,g,i⟩<;>rcases zf3 c' e cs with b|⟨b,k,j⟩
 ·rw [a,b,a]
 ·rw [a,b];rcases zf3 c v (cs.set c' e) with d|⟨d,l,h⟩
  ·exact d
  ·rw [zm9 k h] at a;rw [d,List.set_comm _ _ (Ne.symm f),a]
 ·rw [b,a];rcases zf3 c' e (cs.set c v) with d|⟨d,l,h⟩
  ·exact d.symm
  ·rw [zm9 g h] at b;rw [d,List.set_comm _ _ f,b]
 ·rw [b,a,zm9 (jn3 g j) i,zm9 (jn3 g i) j,List.set_comm _ _ f]
def ki9 {c c'} (f:c≠c') (v b:AV T.U) (x:Ent T.U):yd3 c v (yd3 c' b x)=yd3 c' b (yd3 c v x):=by
 cases x with
 |blk t cs=>exact congrArg (Ent.blk t) (vk8 f v b cs)
 |drow e d fe xs g=>
  cases g with
  |none=>rfl
  |some p=>obtain ⟨a,cs⟩:=p;simp only [yd3];rw [List.set_comm _ _ f]
 |_=>rfl
def vy5 {cs:List (AV T.U)} {c} {v:AV T.U} {i} (h:i∈za1 (cs.set c v)):i∈za1 cs\/i∈v.ids:=by
 obtain ⟨a,b,d⟩:=zu6 h;rcases N4 b with b|rfl
 ·exact .inl (zi2 b i d)
 ·exact .inr d
def ge9 {c} {v:AV T.U} {x:Ent T.U} {i} (h:i∈(yd3 c v x).cellIds):i∈x.cellIds\/i∈v.ids:=by
 cases x with
 |blk t cs=>
  have h:i∈za1 (zx2 c v cs):=h;rcases zf3 c v cs with b|⟨b,_⟩
  ·rw [b] at h;exact .inl h
  ·rw [b] at h;exact vy5 h
 |drow e d fe xs f=>cases f with
  |none=>exact .inl h
  |some p=>obtain ⟨a,cs⟩:=p;exact vy5 (T:=T) h
 |_=>exact .inl h
def ya0 (hF: ∀t a,F.get T t=some a->F'.get T t=some a) {x:Operand} {a:AV T.U} (h:aev T F x=some a):aev T F' x=some a:=by
 cases x with
 |tmp t=>exact hF t a h
 |const v=>exact h
 |func f=>exact h
 |global g=>exact h
def yj4 {t} (h:yq7 P t=true): ∃i d,P.info? t=some i/\P.underlying t=some d/\ye3 d=false/\i.size=1:=by
 unfold yq7 at h;split at h
 ·rename_i i d a b;simp only [X3,V7] at h;exact ⟨i,d,a,b,h.1,X1 h.2⟩
 ·cases h
def qg0: ∀ {cs c},cs.all (zb7 T)=true->c<cs.length->jd3 T cs c=some (cs.drop c)
 | [],c,_,h=>by simp at h
 |a::r,0,_,_=>rfl
 |a::r,c+1,h,b=>by
  rw [V6,X3] at h;have d:Nat.ble (wd T a) (c+1)=true:=by rw [qt3 T h.1];exact W3 (by omega)
  unfold jd3;rw [show Nat.beq (c+1) 0=false from rfl];simp only [d];rw [qt3 T h.1,Nat.add_sub_cancel,qg0 h.2 (by simpa using b),List.drop_succ_cons]
def vh5 {t:TypeId} (hs:yq7 P t=true) {cs:List (AV T.U)} {c:Nat} (h:cs.all (zb7 T)=true) (hl:c<cs.length):jj3 T P t cs c=cs[c]?:=by
 obtain ⟨i,d,hi,hd,ha,_⟩:=yj4 hs;unfold jj3 gg6;rw [hi,hd];simp only [ha];rw [qg0 h hl,J8 hl,Y0 hl]
 grind
def jt0 {v} (b:zb7 T v=true): ∀ {cs c},cs.all (zb7 T)=true->c<cs.length->jb9 T (wb5 T [v]) cs c=some (cs.set c v)
 | [],c,_,h=>by simp at h
 |a::r,0,h,_=>by
  rw [V6,X3] at h;show wb5 T [v] (a::r)=_;unfold wb5;simp only [putOnes,h.1,b,V2,List.set_cons_zero]
 |a::r,c+1,h,d=>by
  rw [V6,X3] at h;have e:Nat.ble (wd T a) (c+1)=true:=by rw [qt3 T h.1];exact W3 (by omega)
  unfold jb9;rw [show Nat.beq (c+1) 0=false from rfl];simp only [e];rw [qt3 T h.1,Nat.add_sub_cancel,jt0 b h.2 (by simpa using d)];rfl
def yi3 {v} (h:zx8 T v=true):zf8 T v= [v]/\yc6 T v=true/\jg9 v=none/\zb7 T v=true:=by
 cases v<;>first|(cases h;done)|exact ⟨rfl,h,rfl,rfl⟩|exact ⟨rfl,rfl,rfl,rfl⟩
def kb4 {t} (a:yq7 P t=true) {v} (h:zx8 T v=true) (c n) (b:c<n):jz7 T P t c n v=true:=by
 obtain ⟨i,d,e,k,l,f⟩:=yj4 a;obtain ⟨g,j,m,p⟩:=yi3 h;unfold jz7;rw [e];simp only [g,j,f,h,U3,List.length_nil,V6,List.all_nil,V2,Bool.and_true,Bool.true_and];rw [X3];exact ⟨rfl,W3 b⟩
def kq8 {t} (a:yq7 P t=true):zh5 P t=none:=by
 obtain ⟨i,d,e,b,c,_⟩:=yj4 a;unfold zh5;rw [b];cases d<;>first|rfl|cases c
def qx4 {t:TypeId} {x:Operand} (hop:o.op=.load t x) {i c:Nat} {e:TypeId} {cs:List (AV T.U)} (hx:aev T F x=some (.ptr i c)) (hi:H[i]?=some (.blk e cs)) (hs:yq7 P t=true) (hn:cs.all (zb7 T)=true) (hc:c<cs.length) {R:Type} (K:St T->Option R) (Kp:AV T.U->St T->Option R):
  zj7 P C o ⟨F,H⟩ K Kp=match cs[c]? with|some (.eptr _ _ _ _)=>none|some u=>K ⟨zc2 T F o.dst u,H⟩|none=>none:=by
 have h1:zo3 P C o ⟨F,H⟩ K=none:=by simp only [zo3,hop,hx]
 have h1':yj5 P C o ⟨F,H⟩ K=none:=by simp only [yj5,hop]
 have h2:gq2 P o.op=false:=by rw [hop];simp only [gq2,kq8 hs];rfl
 unfold zj7;rw [h1,h1'];simp only [zn5,hop,stepA];unfold zz6;rw [h2];simp only [zr9,hop,jq9,hx,loadA,hi,vh5 hs hn hc];rw [Y0 hc];generalize cs[c]=u;cases u<;>rfl
def qj3 {t:TypeId} {x y:Operand} (hop:o.op=.store t x y) (hdst:o.dst=none) {i c:Nat} {e:TypeId} {cs:List (AV T.U)} {v:AV T.U} (hx:aev T F x=some (.ptr i c)) (hy:aev T F y=some v) (hi:H[i]?=some (.blk e cs)) (hs:yq7 P t=true) (hv:zx8 T v=true) (hn:cs.all (zb7 T)=true) (hc:c<cs.length) {R:Type} (K:St T->Option R) (Kp:AV T.U->St T->Option R):
  zj7 P C o ⟨F,H⟩ K Kp=K ⟨F,H.set i (.blk e (cs.set c v))⟩:=by
 obtain ⟨e1,e2,e3,e4⟩:=yi3 hv;have h1:zo3 P C o ⟨F,H⟩ K=none:=by simp only [zo3,hop,hx]
 have h1':yj5 P C o ⟨F,H⟩ K=none:=by simp only [yj5,hop]
 have h3:storeB T P t cs c v=some (cs.set c v):=by
  unfold storeB;simp only [e3,e1,U3,List.length_nil];rw [kb4 hs hv 0 _ (by omega)];exact jt0 e4 hn hc
 have h4:stepA P C o ⟨F,H⟩ K Kp=K ⟨F,H.set i (.blk e (cs.set c v))⟩:=by simp only [stepA,hop,hdst,hx,hy,jm5,hi,h3]
 have h5:ql7 T H (.ptr i c) v=none:=rfl;unfold zj7;rw [h1,h1'];simp only [zn5,hop,hx,hy,h5];cases cellsOf T (zf8 T v)<;>exact h4
def qf9 {t x} (f:o.op=.load t x) {i sz a c e d fe xs b cs} (j:aev T F x=some (.eptr i sz a c)) (k:H[i]?=some (.drow e d fe xs (some (b,cs)))) (l:yq7 P t=true) {R} (K:St T->Option R) (m:AV T.U->St T->Option R):
  zj7 P C o ⟨F,H⟩ K m=match Nat.beq sz (T.size d),cs[c]? with|true,some u=>(match zj5 u with|true=>if a=b then K ⟨zc2 T F o.dst u,H⟩ else none|false=>none)|_,_=>none:=by
 obtain ⟨r,s,g,h,n,_⟩:=yj4 l;have p:zu0 T P t cs c=cs[c]?:=by unfold zu0 jy7;rw [g,h];simp only [n]
 have q:zo3 P C o ⟨F,H⟩ K=some (yv4 P t H i sz a c e d fe xs (some (b,cs)) fun v H=>K ⟨zc2 T F o.dst v,H⟩):=by simp only [zo3,f,j,k]
 unfold zj7;rw [q];simp only [yv4,p];cases Nat.beq sz (T.size d) with
 |false=>rfl
 |true=>cases cs[c]?<;>rfl
def js7 {t x y} (g:o.op=.store t x y) (f:o.dst=none) {i sz a c e d fe xs b cs v} (h:aev T F x=some (.eptr i sz a c)) (j:aev T F y=some v) (k:H[i]?=some (.drow e d fe xs (some (b,cs)))) (l:zx8 T v=true) {R} (K:St T->Option R) (m:AV T.U->St T->Option R):
  zj7 P C o ⟨F,H⟩ K m=match Nat.beq sz (T.size d)&&jz7 T P t c (T.size d) v with|true=>if a=b then K ⟨F,H.set i (.drow e d fe xs (some (b,cs.set c v)))⟩ else none|false=>none:=by
 obtain ⟨n,q,r,s⟩:=yi3 l;have p:zo3 P C o ⟨F,H⟩ K=some (yh3 P t H i sz a c e d fe xs (some (b,cs)) v fun H=>K ⟨F,H⟩):=by simp only [zo3,g,h,k,f,j]
 unfold zj7;rw [p];simp only [yh3,n,yl7];cases Nat.beq sz (T.size d)&&jz7 T P t c (T.size d) v<;>rfl
def ve0 {d b a u} (h:zc2 T F d u=zc2 T b d a) (G):zc2 T G d u=zc2 T G d a:=by
 cases d with
 |none=>rfl
 |some d=>
  simp only [zc2,List.cons.injEq,X7] at h;rw [show u=a from h.1.2]
def vy6 {c f e cs} (g:cs.all (zb7 T)=true) (h:simE c f (.blk e cs)): ∃b,f=.blk e b/\b.length=cs.length/\b[c]?=cs[c]?/\b.all (zb7 T)=true:=by
 rcases h with rfl|h
 ·exact ⟨cs,rfl,rfl,rfl,g⟩
 ·cases f with
  |blk m b=>obtain ⟨rfl,i,j,k,_⟩:=h;exact ⟨b,rfl,i,j,k⟩
  |drow e d fe xs l=>cases l with
   |none=>exact h.elim
   |some p=>obtain ⟨a,cs⟩:=p;obtain ⟨_,h,_⟩:=h;cases h
  |_=>exact h.elim
def vd2 {c f e d fe xs b} {cs:List (AV T.U)} (h:simE c f (.drow e d fe xs (some (b,cs)))): ∃g,f=.drow e d fe xs (some (b,g))/\g.length=cs.length/\g[c]?=cs[c]?:=by
 rcases h with rfl|h
 ·exact ⟨cs,rfl,rfl,rfl⟩
 ·cases f with
  |drow e d fe xs j=>cases j with
   |none=>exact h.elim
   |some p=>
    obtain ⟨a,i⟩:=p;obtain ⟨g,h,k,l⟩:=h;cases h;exact ⟨i,rfl,k,l⟩
  |_=>exact h.elim
def ku2 {k c N} (g:wl3 P o F H=some (k,c,N)) {W a H1} (h:zj7 P C o ⟨F,H⟩ some (fun _ _=>none)=some ⟨zc2 T W o.dst a,H1⟩):
  ∃x,H[k]?=some x/\x.live=true/\H1=vi6 k c N x H/\ ∀(F':AF T) (H':List (Ent T.U)) (f:Ent T.U),(∀t a,F.get T t=some a->F'.get T t=some a)->H'[k]?=some f->simE c f x->zj7 P C o ⟨F',H'⟩ some (fun _ _=>none)=some ⟨zc2 T F' o.dst a,vi6 k c N f H'⟩:=by
 unfold wl3 at g;split at g<;>try (cases g;done)
 ·rename_i t x m;split at g<;>try (cases g;done)
  ·rename_i i E n;split at g<;>try (cases g;done)
   rename_i e cs p;split at g<;>try (cases g;done)
   rename_i q;simp only [X3,U7] at q;obtain ⟨r,B,G⟩:=q;simp only [X0,X7] at g;obtain ⟨rfl,rfl,rfl⟩:=g;rw [qx4 m n p r B G] at h;split at h<;>try (cases h;done)
   rename_i u w O;simp only [X0,St.mk.injEq] at h;obtain ⟨h,rfl⟩:=h;refine ⟨_,p,rfl,rfl,fun F' H' f hF z j=>?_⟩;obtain ⟨s,rfl,Q,I,M⟩:=vy6 B j;rw [qx4 m (ya0 hF n) z r M (by omega),I,O];have:=ve0 h F';cases u<;>first|exact absurd rfl (w _ _ _ _)|(simp only [this];rfl)
  ·rename_i i R X E n;split at g<;>try (cases g;done)
   rename_i e d fe xs b cs p;split at g<;>try (cases g;done)
   rename_i q;simp only [X3,U7] at q;obtain ⟨r,G⟩:=q;simp only [X0,X7] at g;obtain ⟨rfl,rfl,rfl⟩:=g;rw [qf9 m n p r] at h;split at h<;>try (cases h;done)
   rename_i u S O;split at h<;>try (cases h;done)
   rename_i w;obtain ⟨A,J⟩:=za7 h;clear h;simp only [X0,St.mk.injEq] at J;obtain ⟨h,rfl⟩:=J;refine ⟨_,p,rfl,rfl,fun F' H' f hF z j=>?_⟩;obtain ⟨s,rfl,Q,I⟩:=vd2 j;rw [qf9 m (ya0 hF n) z r,I,O,S];simp only [w,if_pos A,ve0 h F'];rfl
 ·rename_i t x y m;split at g<;>try (cases g;done)
  ·rename_i i E v l n K;split at g<;>try (cases g;done)
   rename_i e cs p;split at g<;>try (cases g;done)
   rename_i q;simp only [X3,U7] at q;obtain ⟨r,D,B,G⟩:=q;simp only [X0,X7] at g;obtain ⟨rfl,rfl,rfl⟩:=g;have V:=(yi3 D).2.2.2;rw [qj3 m l n K p r D B G] at h;simp only [X0,St.mk.injEq] at h;obtain ⟨h,rfl⟩:=h;refine ⟨_,p,rfl,?_,fun F' H' f hF z j=>?_⟩
   ·show _=H.set i (.blk e (zx2 E v cs));rw [zm9 B V]
   ·obtain ⟨s,rfl,Q,I,M⟩:=vy6 B j;rw [qj3 m l (ya0 hF n) (ya0 hF K) z r D M (by omega),l];show _=some (⟨F',H'.set i (.blk e (zx2 E v s))⟩:St T);rw [zm9 M V]
  ·rename_i i R X E v l n K;split at g<;>try (cases g;done)
   rename_i e d fe xs b cs p;split at g<;>try (cases g;done)
   rename_i q;simp only [X3,U7] at q;obtain ⟨r,D,G⟩:=q;simp only [X0,X7] at g;obtain ⟨rfl,rfl,rfl⟩:=g;rw [js7 m l n K p D] at h;split at h<;>try (cases h;done)
   rename_i L;obtain ⟨A,J⟩:=za7 h;clear h;simp only [X0,St.mk.injEq] at J;obtain ⟨h,rfl⟩:=J;refine ⟨_,p,rfl,rfl,fun F' H' f hF z j=>?_⟩
   ·obtain ⟨s,rfl,Q,I⟩:=vd2 j;rw [js7 m l (ya0 hF n) (ya0 hF K) z D,L,l];simp only [if_pos A];rfl
end
end Go.X
