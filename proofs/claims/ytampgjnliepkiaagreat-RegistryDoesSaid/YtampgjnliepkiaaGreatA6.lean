import Derived.Test.YtampgjnliepkiaaGreatA5
set_option linter.defProp false
namespace Go.X
open Go.RowKit Go.V
section
variable {T:Tab} (P:Program) (C:Ctx T) {R:Type}
def zt6 (F:AF T) (o:Oper):Bool:=o.op.operands.toList.all fun x=>(aev T F x).isSome
def vw8 (ops:Array Oper) (j:Nat):Option Tmp:=(ops[j]?).bind (·.dst)
def gl8 (c:Call) (st:St T) (K:AV T.U->Option R):Option R:=
 match zv9 T st.F c.args.toList with
 |none=>none
 |some aS=>
  match c.callee with
  | .value f=>match aev T st.F f with
   |some (.fn (.func g) first caps)=>match zs4 P g,qc3 C.E g with
    |true,some cs=>match (first++aS++caps).all zh9 with|true=>cs.q (first++aS++caps) st.H K|false=>none
    |_,_=>none
   |_=>none
  |_=>none
def kb3 (o:Oper) (st:St T) (K:AV T.U->Option R):Option R:=
 match o.op with
 | .call c=>match stepA.reads c with
  |true=>zy6 P o st K
  |false=>gl8 P C c st K
 |_=>zy6 P o st K
def qs1 (stp:Oper->St T->(St T->Option R)->Option R) (ops:Array Oper) (n:Nat) (K:St T->Option R):List Oper->St T->Option R
 | [],st=>K st
 |o::r,st=>
  let a:=fun (st:St T)=>match zi0 n o.dst&&(zb3 o&&zt6 st.F o) with
   |true=>stp o st (fun st=>qs1 stp ops n K r st)
   |false=>none
  let e:=fun (st:St T)=>match zi0 n o.dst with
   |true=>qs1 stp ops n K r ⟨za9 T st.F o.dst (.raw undef),st.H⟩
   |false=>none
  match o.guard with
  |none=>a st
  |some (j,b)=>match vw8 ops j with
   |none=>none
   |some d=>match st.F.get T d with
    |some (.cell ⟨.bool,c⟩)=>j9 c (let st:=⟨(d,cB T true)::st.F,st.H⟩;match b with|true=>a st|false=>e st)
     (let st:=⟨(d,cB T false)::st.F,st.H⟩;match b with|true=>e st|false=>a st)
    |some (.raw (.tuple _))=>e st
    |_=>none
open Classical in
noncomputable def both (a b:Option R):Option R:=if a=b then a else none
noncomputable def gn9 (e:Bool) (a b:Option R):Option R:=match e with|true=>both a b|false=>b
def kp8:Operand->Bool| .const (.slice none _ _)=>true|_=>false
def gn7:BinOp->Option Bool| .eql=>some false| .neq=>some true|_=>none
def ko9 (H:List (Ent T.U)):AV T.U->Option Bool
 | .cell ⟨.list e,xs⟩=>some (List.isEmpty (α:=den T.U e) xs)
 | .cell ⟨.nl e,xs⟩=>some (List.isEmpty (α:=den T.U e) xs)
 | .own i=>match H[i]? with|some (.row _ _ xs)=>some xs.isEmpty|_=>none
 |_=>none
def uf8:AV T.U->Bool| .cell ⟨.nl _,_⟩=>true|_=>false
noncomputable def ug2 (c e:Bool) (a b:Option R):Option R:=match c with|true=>j9 e a b|false=>gn9 e a b
def ug3 (o:Oper) (st:St T):Option (Bool×Bool×Bool):=
 match o.op with
 | .binOp b t x y _=>match P.underlying t with
  |some (.slice _)=>match gn7 b,kp8 y,aev T st.F x with
   |some neg,true,some a=>match ko9 st.H a with|some e=>some (neg,e,uf8 a)|none=>none
   |_,_,_=>none
  |_=>none
 |_=>none
noncomputable def kb2 (o:Oper) (st:St T) (K:St T->Option R) (Kp:AV T.U->St T->Option R):Option R:=
 match ug3 P o st with
 |some (neg,e,kn)=>ug2 kn e (K ⟨za9 T st.F o.dst (cB T (jo2 neg true)),st.H⟩) (K ⟨za9 T st.F o.dst (cB T (jo2 neg false)),st.H⟩)
 |none=>match kz1 P C o st K with|some z=>z|none=>zg7 P C o st K Kp
noncomputable def um4 (ops:Array Oper) (n:Nat) (a:AV T.U->St T->Option R) (K:St T->Option R) (st:St T):Option R:=qs1 (fun o st K=>kb2 P C o st K a) ops n K ops.toList st
def um5 (ops:Array Oper) (n:Nat) (K:St T->Option R) (st:St T):Option R:=qs1 (fun o st K=>kb3 P C o st fun a=>K ⟨za9 T st.F o.dst a,st.H⟩) ops n K ops.toList st
end
section
variable {T:Tab} {P:Program} {C:Ctx T} {w w':World} {S S':List Nat} {φ φ':Nat->RA} {w0:World} {S0:Ow} {F:AF T} {H:List (Ent T.U)} {F':PF}
variable {ops:Array Oper} {Q:Exit->Act->World->Prop} {k n:Nat} {ds:List Deferred} {o:Oper}
def Sim.again (h:Sim T w0 S0 ⟨F,H⟩ F' w S φ) {d a} (b:F.get T d=some a):Sim T w0 S0 ⟨(d,a)::F,H⟩ F' w S φ:=by
 obtain ⟨v,c,e⟩:=h.fr d a b;exact h.seen c e (h.ids d a b)
def ym8 (hF:FR T w S φ F F') {o} (h:zt6 F o=true):yb3 F' o=true:=by
 unfold zt6 at h;unfold yb3;rw [Y8] at h⊢;intro x b;obtain ⟨a,c⟩:=N4.1 (h x b);obtain ⟨v,d,_⟩:=v8 hF c;rw [d];rfl
def vv9 (Q:Exit->Act->World->Prop) (n:Nat) (ds:List Deferred) (w0:World) (S0:Ow) (st:St T):Prop:= ∀F1 b,zc1 T w0 S0 st F1 b-> ∀a,Fr n ds F1 a->Q .normal a b
def yp0 {R r stp K} (G:Nat->PF->World->Prop)
  (g: ∀(k:Nat) (o:Oper) (F:AF T) (H:List (Ent T.U)) (F':PF) (w:World) (S:List Nat) (φ:Nat->RA) (K:St T->Option R),dec ops k n F'=some o->stp o ⟨F,H⟩ K=some r->Sim T w0 S0 ⟨F,H⟩ F' w S φ->(∀st,K st=some r-> ∀F1 J S1 x,Sim T w0 S0 st F1 J S1 x->G (k+1) F1 J)->G k F' w)
  (m: ∀(k:Nat) (dst:Option Tmp) (F':PF) (w:World),yb2 ops k n F'=some dst->G (k+1) (upd F' dst undef) w->G k F' w)
  (s: ∀(k:Nat) (st:St T) (F':PF) (w:World) (S:List Nat) (φ:Nat->RA),ops.size<=k->K st=some r->Sim T w0 S0 st F' w S φ->G k F' w):
  ∀(rest:List Oper) (k:Nat),ops.toList.drop k=rest-> ∀(F:AF T) (H:List (Ent T.U)) (F':PF) (w:World) (S:List Nat) (φ:Nat->RA),qs1 stp ops n K rest ⟨F,H⟩=some r->Sim T w0 S0 ⟨F,H⟩ F' w S φ->G k F' w
 | [],k,A,F,H,F',w,S,φ,a,h=>by
  have:ops.size<=k:=by simpa using List.drop_eq_nil_iff.1 A
  exact s k _ F' w S φ this a h
 |o::rest,k,A,F,H,F',w,S,φ,a,h=>by
  have y:k<ops.size:=by
   apply Classical.byContradiction;intro W;rw [M6 (by simpa using W)] at A;cases A
  have V:ops[k]?=some o:=by
   have:=V8 (l:=ops.toList) (i:=k) (by simpa using y);rw [A] at this;rw [Z6 y];have N:=(List.cons.inj this).1;simpa using N.symm
  have D:ops.toList.drop (k+1)=rest:=by
   have:=V8 (l:=ops.toList) (i:=k) (by simpa using y);rw [A] at this;exact (List.cons.inj this).2.symm
  have p: ∀(F:AF T),(match zi0 n o.dst&&(zb3 o&&zt6 F o) with
    |true=>stp o ⟨F,H⟩ (fun st=>qs1 stp ops n K rest st)
    |false=>none)=some r->Sim T w0 S0 ⟨F,H⟩ F' w S φ->zv8 ops F' o=some true->G k F' w:=by
   intro F a h O;split at a
   ·rename_i B;simp only [X3] at B;have X:dec ops k n F'=some o:=by
     unfold dec;rw [V];simp only [O,B.1,B.2.1,ym8 h.fr B.2.2,N3]
    exact g k o F H F' w S φ _ X a h fun st Y F1 J S1 x N=>yp0 G g m s rest (k+1) D st.F st.H F1 J S1 x Y N
   ·cases a
  have f: ∀(F:AF T),(match zi0 n o.dst with
    |true=>qs1 stp ops n K rest ⟨za9 T F o.dst (.raw undef),H⟩
    |false=>none)=some r->Sim T w0 S0 ⟨F,H⟩ F' w S φ->zv8 ops F' o=some false->G k F' w:=by
   intro F a h O;split at a
   ·rename_i B;refine m k o.dst F' w ?_ (yp0 G g m s rest (k+1) D _ _ _ _ S φ a (h.slot rfl ⟨fun i Z=>(by cases Z),trivial⟩));unfold yb2;rw [V];simp only [O,B]
   ·cases a
  unfold qs1 at a;simp only at a;split at a
  ·rename_i z;exact p F a h (by unfold zv8;rw [z])
  ·rename_i j b z;split at a
   ·cases a
   ·rename_i d E;have e: ∀v,F'.get d=some v->yd6 ops F' j=match v with| .bool b=>some (some b)| .tuple _=>some none|_=>none:=by
     intro v I;unfold vw8 at E;unfold yd6;rw [E];simp only [I];cases v<;>rfl
    split at a
    ·rename_i c L;obtain ⟨v,I,t⟩:=h.fr d _ L;have:=zg0 t;subst this;have e:=e _ I;simp only at e;have M:=h.again L;rcases zo6 a with ⟨q,a⟩|⟨q,a⟩
     ·have q:c=true:=q;subst q;cases b with
      |true=>exact p _ a M (by unfold zv8;rw [z];simp only [e];rfl)
      |false=>exact f _ a M (by unfold zv8;rw [z];simp only [e];rfl)
     ·have q:c=false:=q;subst q;cases b with
      |true=>exact f _ a M (by unfold zv8;rw [z];simp only [e];rfl)
      |false=>exact p _ a M (by unfold zv8;rw [z];simp only [e];rfl)
    ·rename_i u L;obtain ⟨v,I,t⟩:=h.fr d _ L;rw [VR] at t;subst t;have e:=e _ I;simp only at e;exact f _ a h (by unfold zv8;rw [z];simp only [e];cases b<;>rfl)
    ·cases a
def vn3 {R:Type} {a b:Option R} {r:R} (h:both a b=some r):a=some r/\b=some r:=by
 unfold both at h;split at h
 ·rename_i c;exact ⟨h,c▸h⟩
 ·cases h
def vn2 {R} (a:Option R):both a a=a:=by unfold both;rw [if_pos rfl]
def vr1 {R} (e:Bool) (a:Option R):gn9 e a a=a:=by cases e;rfl;exact vn2 a
def qj4 {R:Type} {r:R} (hE:zb2 T P C.E) (hd:dec ops k n F'=some o) {K:St T->Option R} {Kp:AV T.U->St T->Option R} (hs:kb2 P C o ⟨F,H⟩ K Kp=some r) (h:Sim T w0 S0 ⟨F,H⟩ F' w S φ)
  (HK: ∀st,K st=some r->zp6 P ops Q (k+1) n ds w0 S0 st) (HP: ∀a st,Kp a st=some r->yp7 Q n ds w0 S0 a st):WR P ops Q k n ds F' w:=by
 unfold kb2 at hs;split at hs
 ·rename_i neg e kn hn;unfold ug3 at hn;split at hn<;>try (cases hn;done)
  rename_i b t x y ty hop;split at hn<;>try (cases hn;done)
  rename_i et hu;split at hn<;>try (cases hn;done)
  rename_i neg' a hneg hy hx;split at hn<;>try (cases hn;done)
  rename_i e' he;simp only [X0,X7] at hn;obtain ⟨rfl,rfl,rfl⟩:=hn;have hb:b=if neg' then .neq else .eql:=by cases b<;>simp [gn7] at hneg<;>subst hneg<;>rfl
  obtain ⟨X,h1,h2⟩:=v8 h.fr hx;obtain ⟨m,c,rfl⟩: ∃m c,y=.const (.slice none m c):=by
   unfold kp8 at hy;split at hy
   ·exact ⟨_,_,rfl⟩
   ·cases hy
  have key: ∃ad n' c',X=.slice ad n' c'/\(e'=false->ad.isNone=false)/\(uf8 a=true->e'=true->ad.isNone=true):=by
   unfold ko9 at he;split at he<;>try (cases he;done)
   ·rename_i el xs;simp only [X0] at he;have h2:CR T w S (.list el) xs X:=h2;cases h2 with
    |list _ _ ad cap u hcap hnil had _ _=>
     refine ⟨ad,_,_,rfl,fun hf=>?_,fun q=>by cases q⟩;cases ad with
     |some _=>rfl
     |none=>
      have:=(hnil rfl).1;rw [hf] at he;cases xs with
      |nil=>cases he
      |cons _ _=>cases this
   ·rename_i el xs;simp only [X0] at he;have h2:CR T w S (.nl el) xs X:=h2;cases h2 with
    |nl _ _ ad cap h3 hz=>
     refine ⟨ad,_,_,rfl,fun hf=>?_,fun _ ht=>?_⟩
     ·cases ad with
      |some _=>rfl
      |none=>
       rw [hf] at he;cases xs with
       |nil=>cases he
       |cons _ _=>cases h3 with
        |list _ _ _ _ _ _ hnil _ _ _=>have:=(hnil rfl).1;cases this
     ·rw [ht] at he;cases xs with
      |nil=>rw [(hz rfl).1];rfl
      |cons _ _=>cases he
   ·rename_i i;split at he<;>try (cases he;done)
    rename_i et' ty' xs hi;simp only [X0] at he;rw [VR] at h2;subst h2;obtain ⟨B,vals,q1,q2,_⟩:=h.ents i _ hi;refine ⟨_,_,_,rfl,fun hf=>?_,fun q=>by cases q⟩;cases had:(φ i).ad with
    |some _=>rfl
    |none=>
     have:=(q1.nil0 had).1;rw [q2] at this;rw [hf] at he;cases xs with
     |nil=>cases he
     |cons _ _=>cases this
  obtain ⟨ad,n',c',rfl,hkey,hkn⟩:=key;have hrun:(execOp (evD F') o).run P w=.ok (.value (.bool (jo2 neg' ad.isNone))) w:=by
   have g1:=yz4 (P:=P) (t:=t) (X:=.slice ad n' c') (Y:=.slice none m c) (b:=b) x (.const (.slice none m c)) rfl rfl (.inl (by simp)) w;have g2:=yx6 (P:=P) hb (X:=.slice ad n' c') (Y:=.slice none m c) rfl rfl (fun w0=>(yx5 P hu m c ad n' c' w0).2) w;obtain ⟨Y,h3,h4⟩:=v8 h.fr (show aev T F (.const (.slice none m c))=some (.raw (.slice none m c)) from rfl);rw [VR] at h4;subst h4;simp [execOp,hop,k8 h1,k8 h3,g1,g2]
  have hk:K ⟨za9 T F o.dst (cB T (jo2 neg' ad.isNone)),H⟩=some r:=by
   unfold ug2 at hs;split at hs
   ·rename_i hq;unfold j9 at hs;cases e' with
    |true=>rw [hkn hq rfl];exact hs
    |false=>rw [hkey rfl];exact hs
   unfold gn9 at hs;split at hs
   ·obtain ⟨k1,k2⟩:=vn3 hs;cases ad with
    |none=>exact k1
    |some _=>exact k2
   ·rw [hkey rfl];exact hs
  exact WR.val hd hrun (HK _ hk _ _ ⟨S,φ,h.slot (a:=cB T (jo2 neg' ad.isNone)) (CR.bool _) (zo0 rfl (by intro _ _ _ _ e;cases e))⟩)
 ·split at hs
  ·rename_i z hz;subst hs;exact qj3 hd hz h HK
  ·exact jb5 hE hd hs h HK HP
def vt5 {R:Type} {r:R} (f:zb2 T P C.E) {K:St T->Option R} {c:AV T.U->St T->Option R} (d: ∀st,K st=some r->vv9 Q n ds w0 S0 st) (g: ∀a st,c a st=some r->yp7 Q n ds w0 S0 a st)
  (i:um4 P C ops n c K ⟨F,H⟩=some r) (h:Sim T w0 S0 ⟨F,H⟩ F' w S φ):WR P ops Q 0 n ds F' w:=by
 refine yp0 (w0:=w0) (S0:=S0) (K:=K) (stp:=fun o st K=>kb2 P C o st K c) (r:=r) (fun k F' w=>WR P ops Q k n ds F' w) ?_ ?_ ?_ ops.toList 0 rfl F H F' w S φ i h
 ·intro k o F H F' w S φ K j l h d;exact qj4 f j l h (fun st b F1 m ⟨S1,e,p⟩=>d st b F1 m S1 e p) g
 ·intro k dst F' w q K;exact WR.pass1 q K
 ·intro k st F' w S φ s b h;exact .fin (W3 s) fun a t=>d st b F' w ⟨S,φ,h⟩ a t
def qj5 {R:Type} {r:R} {Qf:Act->Prop} (hE:zb2 T P C.E) (hd:dec ops k n F'=some o) {K:AV T.U->Option R} (hs:kb3 P C o ⟨F,H⟩ K=some r) (h:Sim T w0 S0 ⟨F,H⟩ F' w S φ)
  (HK: ∀a v,K a=some r->VR T w S φ a v->okA H a->WQ P ops (fun w'=>Chg [] w w') Qf (k+1) n ds (upd F' o.dst v)):WQ P ops (fun w'=>Chg [] w w') Qf k n ds F':=by
 have hread:zy6 P o ⟨F,H⟩ K=some r->WQ P ops (fun w'=>Chg [] w w') Qf k n ds F':=fun hs=>
  kv3 hd hs h fun a v hK hq hv hok=>WQ.step hd (fun w1 hw=>by rw [hq w1 (vf0 hw S) (Same.pure hw)];exact ⟨rfl,rfl⟩) (HK a v hK hv hok)
 unfold kb3 at hs;split at hs
 ·rename_i hop;split at hs
  ·exact hread hs
  ·unfold gl8 at hs;split at hs
   ·cases hs
   ·rename_i aS has;split at hs
    ·rename_i f hc;split at hs
     ·rename_i g first caps hf
      split at hs
      ·rename_i cs he hcs;split at hs
       ·rename_i hall;obtain ⟨vs,h1,h2,h3⟩:=jf0 hop hc hf has he hall h;obtain ⟨a,v,g1,g3,g4,g5⟩:=(hE g cs hcs).2.1 _ H K r hs w0 S0 F F' w S φ h vs h1 h2;refine WQ.step hd (fun w1 hw=>?_) (HK a v g1 g3 g4);rw [h3 w1];refine ⟨rfl,(g5 w1 (vf0 hw S) (Same.pure hw)).mono fun e w'' hR=>?_⟩;cases e with
        |returned u=>obtain ⟨q1,q2⟩:=hR;exact ⟨by rw [q2],hw.pure q1⟩
        |panicked ch=>exact hR.elim
        |outgrown=>exact hR.elim
       ·cases hs
      ·cases hs
     ·cases hs
    ·cases hs
 ·exact hread hs
def qy7 {R:Type} {r:R} (f:zb2 T P C.E) {K:St T->Option R} (b: ∀st,K st=some r->vv9 Q n ds w0 S0 st) (g:um5 P C ops n K ⟨F,H⟩=some r) (h:Sim T w0 S0 ⟨F,H⟩ F' w S φ):
  WQ P ops (fun w'=>Chg [] w w') (fun c=> ∀w',Chg [] w w'->Q .normal c w') 0 n ds F':=by
 refine yp0 (w0:=w0) (S0:=S0) (K:=K) (stp:=fun o st K=>kb3 P C o st fun a=>K ⟨za9 T st.F o.dst a,st.H⟩) (r:=r) (fun k F' w=>WQ P ops (fun w'=>Chg [] w w') (fun c=> ∀w',Chg [] w w'->Q .normal c w') k n ds F') ?_ ?_ ?_ ops.toList 0 rfl F H F' w S φ g h
 ·intro k o F H F' w S φ K i j h b;exact qj5 f i j h fun a v l m d=>b _ l _ w S φ (h.slot m d)
 ·intro k dst F' w p K;exact WQ.pass1 p K
 ·intro k st F' w S φ q e h;exact WQ.fin (W3 q) fun w' s a t=>b st e F' w' ⟨S,φ,h.pure s⟩ a t
end
end Go.X
namespace Go.X
open Go.RowKit Go.V
section
variable (T:Tab)
def Ent.ren {U:Nat->Type} (ρ:Nat->Nat):Ent U->Ent U
 | .blk e cs=>.blk e (zi6 ρ cs)
 | .row e t xs=>.row e t xs
 | .map k es=>.map k (qa9 ρ es)
 | .tmap k t m=>.tmap k t m
 | .drow e d fe xs a=>.drow e d fe xs (kc7 ρ a)
 | .pmap k b d m a=>.pmap k b d m (kc6 ρ a)
 | .hid=>.hid
 | .gone=>.gone
def yb6 (F:AF T):List Nat->AF T
 | []=> []
 |i::r=>match F.get T i with|some a=>(i,a)::yb6 F r|none=>yb6 F r
def qv8:AF T->List Nat
 | []=> []
 |(_,a)::r=>a.ids++qv8 r
def kc2 (H:List (Ent T.U)):List Nat->List Nat
 | []=> []
 |i::r=>match H[i]? with|some e=>e.cellIds++kc2 H r|none=>kc2 H r
def vb0 (H:List (Ent T.U)):Nat->List Nat->List Nat
 |0,l=>l
 |n+1,l=>let l':=ve7 l (kc2 T H l);match Nat.beq l'.length l.length with|true=>l|false=>vb0 H n l'
def ze3 (H:List (Ent T.U)) (ρ:Nat->Nat):List Nat->List (Ent T.U)
 | []=> []
 |i::r=>match H[i]? with|some e=>e.ren ρ::ze3 H ρ r|none=>.gone::ze3 H ρ r
def kv7 (ρ:Nat->Nat):AF T->AF T
 | []=> []
 |(i,a)::r=>(i,a.ren ρ)::kv7 ρ r
def gk3 (l:List Nat):List Nat->Bool| []=>true|i::r=>zu2 i l&&gk3 l r
structure Cut where
 l:List Nat
 nils:List (Nat×TypeId×Ty)
 whole:Bool
 bn:List (Nat×Nat×TypeId×Ty)
 dz:Nat
 inl:Bool
abbrev gf9:Nat:=4000000000
abbrev vn7:Nat:=4000000001
def zw8 (e:TypeId):Ty->Ent T.U
 | .nl (.user d)=>.drow e d (T.fe d) [] none
 |t=>.row e t []
def ze8:List (Nat×Nat×TypeId×Ty)->List (Ent T.U)->List (Ent T.U)
 | [],H=>H
 |(i,c,e,t)::r,H=>match Nat.beq e vn7 with
  |true=>ze8 r (closeL T (List.range H.length) H)
  |false=>match H[i]? with
  |some (.blk e0 cs)=>match cs[c]? with
   |some (.raw (.slice none 0 0))=>ze8 r (H.set i (.blk e0 (cs.set c (.own H.length)))++ [zw8 T e t])
   |some (.own k)=>match Nat.beq e gf9 with
    |true=>match H[k]? with
     |some (.row _ a xs)=>ze8 r (H.set i (.blk e0 (cs.set c (.sl k (szT T a) 0 xs.length))))
     |_=>ze8 r H
    |false=>ze8 r H
   |_=>ze8 r H
  |_=>ze8 r H
def yx9:List (Nat×TypeId×Ty)->St T->St T
 | [],st=>st
 |(s,e,t)::r,st=>match st.F.get T s with
  |some (.raw (.slice none 0 0))=>yx9 r ⟨(s,.own st.H.length)::st.F,st.H++ [zw8 T e t]⟩
  |_=>yx9 r st
def kx8 (m:Nat) (ids:List Nat):Bool:=(List.range m).all fun k=>match ids[k]? with|some j=>Nat.beq j k|none=>false
def gz7 (m:Nat) (l:List Nat) (st:St T):Option (St T):=
 let F1:=yb6 T st.F l
 let ids:=vb0 T st.H (st.H.length+1) (ve7 (List.range m) (qv8 T F1))
 match kx8 m ids&&(zd5 ids&&(ids.all (fun i=>Nat.blt i st.H.length)&&(gk3 ids (qv8 T F1)&&gk3 ids (kc2 T st.H ids)))) with
 |true=>some ⟨kv7 T (fun i=>qv9 i ids) F1,ze3 T st.H (fun i=>qv9 i ids) ids⟩
 |false=>none
end
section
variable {T:Tab}
def ja3 {l}: ∀ {m},gk3 l m=true-> ∀i∈m,i∈l
 | [],_,i,h=>by cases h
 |j::r,h,i,a=>by
  unfold gk3 at h;simp only [X3] at h;rcases Z0.1 a with rfl|a
  ·exact zb7.1 h.1
  ·exact ja3 h.2 i a
def yz5 {F i a}: ∀ {l},(yb6 T F l).get T i=some a->F.get T i=some a
 | [],h=>by simp [yb6,AF.get] at h
 |j::r,h=>by
  unfold yb6 at h;split at h
  ·rename_i u b;simp only [AF.get] at h;split at h
   ·rename_i c;have:=X1 c;subst this;rw [b];exact h
   ·exact yz5 h
  ·exact yz5 h
def yv7 {i a}: ∀ {F},F.get T i=some a-> ∀j∈a.ids,j∈qv8 T F
 | [],h,_,_=>by simp [AF.get] at h
 |(k,b)::r,h,j,c=>by
  simp only [AF.get] at h;unfold qv8;split at h
  ·simp only [X0] at h;subst h;exact X4.2 (.inl c)
  ·exact X4.2 (.inr (yv7 h j c))
def jm8 {ρ i b}: ∀ {F},(kv7 T ρ F).get T i=some b-> ∃a,F.get T i=some a/\b=a.ren ρ
 | [],h=>by simp [kv7,AF.get] at h
 |(k,c)::r,h=>by
  simp only [kv7,AF.get] at h⊢;split at h
  ·simp only [X0] at h;exact ⟨c,rfl,h.symm⟩
  ·exact jm8 h
def zk9 {H:List (Ent T.U)} {ρ:Nat->Nat} {j:Nat} {e:Ent T.U}: ∀ {l:List Nat},(ze3 T H ρ l)[j]?=some e-> ∃i,l[j]?=some i/\((∃e0,H[i]?=some e0/\e=e0.ren ρ)\/e=.gone)
 | [],h=>by simp [ze3] at h
 |i::r,h=>by
  unfold ze3 at h;split at h
  ·rename_i e0 a;cases j with
   |zero=>simp at h;exact ⟨i,rfl,.inl ⟨e0,a,h.symm⟩⟩
   |succ j=>simp at h;simpa using zk9 h
  ·cases j with
   |zero=>simp at h;exact ⟨i,rfl,.inr h.symm⟩
   |succ j=>simp at h;simpa using zk9 h
def yf3 {H ρ}: ∀(l),(ze3 T H ρ l).length=l.length
 | []=>rfl
 |i::r=>by unfold ze3;split<;>simp [yf3 r]
def yh4 {H i e} (a:H[i]?=some e): ∀ {l},i∈l-> ∀j∈e.cellIds,j∈kc2 T H l
 | [],h,_,_=>by cases h
 |k::r,h,j,b=>by
  unfold kc2;rcases Z0.1 h with rfl|h
  ·rw [a];exact X4.2 (.inl b)
  ·split
   ·exact X4.2 (.inr (yh4 a h j b))
   ·exact yh4 a h j b
mutual
def ji1 {U ρ}: ∀a:AV U,(a.ren ρ).ids=a.ids.map ρ
 | .cell _=>by rw [AV.ren];rfl
 | .ptr _ _=>by rw [AV.ren];rfl
 | .eptr _ _ _ _=>by rw [AV.ren];rfl
 | .lptr _ _ _ _=>by rw [AV.ren];rfl
 | .own _=>by rw [AV.ren];rfl
 | .sl _ _ _ _=>by rw [AV.ren];rfl
 | .agg cs=>by rw [AV.ren,AV.ids,AV.ids,zu4 cs]
 | .tup cs=>by rw [AV.ren,AV.ids,AV.ids,zu4 cs]
 | .fn _ a b=>by rw [AV.ren,AV.ids,AV.ids,zu4 a,zu4 b,J3]
 | .ifc _ a=>by rw [AV.ren,AV.ids,AV.ids,ji1 a]
 | .raw _=>by rw [AV.ren];rfl
 | .arr _ _ _=>by rw [AV.ren];rfl
 | .aptr _ _ _ _ _ _=>by rw [AV.ren];rfl
 | .asl _ _ _ _ _ _=>by rw [AV.ren];rfl
 | .mp _=>by rw [AV.ren];rfl
 | .hmp _=>by rw [AV.ren];rfl
def zu4 {U ρ}: ∀l:List (AV U),u0 (zi6 ρ l)=(u0 l).map ρ
 | []=>rfl
 |a::r=>by rw [zi6,u0,u0,ji1 a,zu4 r,J3]
end
def qs4 {U ρ}: ∀l:List (Int×AV U),idsM (qa9 ρ l)=(idsM l).map ρ
 | []=>rfl
 |(x,a)::r=>by rw [qa9,idsM,idsM,ji1 a,qs4 r,J3]
def kl6 {U ρ} (b:Option (Nat×List (AV U))):gm5 (kc7 ρ b)=(gm5 b).map ρ:=by
 cases b with
 |none=>rfl
 |some p=>obtain ⟨a,cs⟩:=p;exact zu4 cs
def kl5 (ρ a):kp5 (kc6 ρ a)=(kp5 a).map ρ:=by cases a<;>rfl
def Ent.ren_cellIds {U ρ} (e:Ent U):(e.ren ρ).cellIds=e.cellIds.map ρ:=by cases e<;>first|rfl|exact zu4 _|exact qs4 _|exact kl6 _|exact kl5 _ _
def Ent.ren_live {U ρ} (e:Ent U):(e.ren ρ).live=e.live:=by cases e<;>rfl
def Sim.renum {w0 S0 F F1 H Z w S φ} (h:Sim T w0 S0 ⟨F,H⟩ Z w S φ) (ids) (hF: ∀i a,F1.get T i=some a->F.get T i=some a)
  (hn:zd5 ids=true) (hp: ∀k,k<S0.pin.length->ids[k]?=some k) (h1: ∀i∈qv8 T F1,i∈ids) (N: ∀i∈kc2 T H ids,i∈ids):
  Sim T w0 S0 ⟨kv7 T (fun i=>qv9 i ids) F1,ze3 T H (fun i=>qv9 i ids) ids⟩ Z w S (fun j=>φ (ids.getD j 0)):=by
 have p: ∀i∈ids,φ (ids.getD (qv9 i ids) 0)=φ i:=by
  intro i hi;rw [Y2,(yc0 hi).2];rfl
 have q: ∀ {j i:Nat},ids[j]?=some i->φ (ids.getD j 0)=φ i:=by
  intro j i A;rw [Y2,A];rfl
 refine ⟨?_,?_,h.chg,h.own,h.ex,?_,fun k r o=>?_,?_,?_,?_⟩
 ·intro i b M;obtain ⟨a,s,rfl⟩:=jm8 M;obtain ⟨v,C,R⟩:=h.fr i a (hF i a s);exact ⟨v,C,R.ren T fun j A=>p j (h1 j (yv7 s j A))⟩
 ·intro i b M;obtain ⟨a,s,rfl⟩:=jm8 M;obtain ⟨C,R⟩:=h.ids i a (hF i a s);have O:=fun j A=>h1 j (yv7 s j A);refine ⟨?_,?_⟩
  ·intro j A;rw [ji1] at A;obtain ⟨k,o,rfl⟩:=U0.1 A;simp only [yf3];exact (yc0 (O k o)).1
  ·cases a with
   |eptr j sz k c=>
    rw [AV.ren];intro e t xs hx;obtain ⟨i',n,f⟩:=zk9 hx;have A:=O j (by simp [AV.ids]);rw [(yc0 A).2] at n;simp only [X0] at n;subst n;rcases f with ⟨e0,f,u⟩|f
    ·cases e0 with
     |row V t1 ys=>
      simp only [Ent.ren,Ent.row.injEq] at u;obtain ⟨rfl,rfl,u⟩:=u;have:=eq_of_heq u;subst this;exact R _ _ _ f
     |blk _ _=>cases u
     |map _ _=>cases u
     |tmap _ _ _=>cases u
     |drow _ _ _ _ _=>cases u
     |pmap _ _ _ _ _=>cases u
     |hid=>cases u
     |gone=>cases u
    ·cases f
   |_=>rw [AV.ren]<;>trivial
 ·intro j e G I a s;obtain ⟨i,n,f⟩:=zk9 G;rcases f with ⟨e0,f,rfl⟩|rfl
  ·rw [q n] at s;exact h.lives i e0 f (by rw [Ent.ren_live] at I;exact I) a s
  ·cases I
 ·have P:=hp k (X2.1 o).1;refine ⟨by rw [q P];exact (h.pins k r o).1,?_⟩;simp only [yf3];exact (X2.1 P).1
 ·intro j e G;obtain ⟨i,n,f⟩:=zk9 G;rcases f with ⟨e0,f,rfl⟩|rfl
  ·have C:=h.ents i e0 f;cases e0 with
   |blk V cs=>
    obtain ⟨g,c,x,y,D,E⟩:=C;refine ⟨g,c,(congrArg RA.ad (q n)).trans x,y,D,E.ren T fun k o=>p k (N k (yh4 f (X6 n) k o))⟩
   |row V t xs=>
    obtain ⟨B,z,x,y,D,E,J⟩:=C;simp only [EntR,q n];exact ⟨B,z,x,y,D,E,J⟩
   |map k es=>
    obtain ⟨g,l,c,x,y,D,E,J⟩:=C;refine ⟨g,l,c,(congrArg RA.ad (q n)).trans x,y,D,E.ren T fun k o=>p k (N k (yh4 f (X6 n) k o)),J⟩
   |tmap k t m=>
    obtain ⟨g,l,c,x,y⟩:=C;exact ⟨g,l,c,(congrArg RA.ad (q n)).trans x,y⟩
   |drow V d fe xs op=>
    obtain ⟨B,z,x,y,D,E,J⟩:=C;simp only [Ent.ren,EntR,q n];exact ⟨B,z,x,y,D,E,J.renS T fun k o=>RSame.of (p k (N k (yh4 f (X6 n) k o)))⟩
   |pmap k be d m op=>
    obtain ⟨g,l,c,bs,x,y,D,E,J⟩:=C;simp only [Ent.ren,EntR,q n];exact ⟨g,l,c,bs,x,y,D,E.renS T fun k o=>RSame.of (p k (N k (yh4 f (X6 n) k o))),J⟩
   |hid=>simp only [Ent.ren,EntR,q n];exact C
   |gone=>trivial
  ·trivial
 ·intro j e G k o;obtain ⟨i,n,f⟩:=zk9 G;rcases f with ⟨e0,f,rfl⟩|rfl
  ·rw [Ent.ren_cellIds] at o;obtain ⟨m,hm,rfl⟩:=U0.1 o;simp only [yf3];exact (yc0 (N m (yh4 f (X6 n) m hm))).1
  ·cases o
 ·intro j k e e' G W I K X a b s M;obtain ⟨i,n,f⟩:=zk9 G;obtain ⟨i',Q,L⟩:=zk9 W;rcases f with ⟨e0,f,rfl⟩|rfl
  ·rcases L with ⟨Y,L,rfl⟩|rfl
   ·rw [q n] at s;rw [q Q] at M;rw [Ent.ren_live] at I K;exact h.apart i i' e0 Y f L I K (fun e=>X (by subst e;exact yf8 hn n Q)) a b s M
   ·cases K
  ·cases I
def qx3 {m ids} (h:kx8 m ids=true) {k} (a:k<m):ids[k]?=some k:=by
 unfold kx8 at h;rw [Y8] at h;have:=h k (V0.2 a);split at this
 ·rename_i j b;rw [b,X1 this]
 ·cases this
def jj0 {w0 S0 st c e w m l} (f:S0.pin.length<=m) (h:zc1 T w0 S0 st e w) (b:gz7 T m l st=some c):zc1 T w0 S0 c e w:=by
 obtain ⟨S,φ,h⟩:=h;unfold gz7 at b;simp only at b;split at b
 ·rename_i d;simp only [X3] at d;simp only [X0] at b;subst b;exact ⟨S,_,h.renum _ (fun i a g=>yz5 g) d.2.1 (fun k j=>qx3 d.1 (V1 j f)) (ja3 d.2.2.2.1) (ja3 d.2.2.2.2)⟩
 ·cases b
def qw8 (e t):(zw8 T e t).cellIds= []:=by unfold zw8;split<;>rfl
def qw9 {w S φ i} (b:φ i=⟨none,0,0,[]⟩) (e t):EntR T w S φ i (zw8 T e t):=by
 unfold zw8;split
 ·exact ⟨w.heap.size,[],by rw [b];exact Own.nil _ _ _ _,by rw [b];rfl,W6 _,(fun a d=>by rw [b] at d;cases d),⟨(fun j c v h=>by simp at h),(fun j f c c' v g _ h=>by simp at h),(fun a cs h=>by cases h)⟩⟩
 ·exact ⟨w.heap.size,[],by rw [b];exact Own.nil _ _ _ _,by rw [b];rfl,W6 _,⟨rfl,fun j c v h=>by simp at h⟩,fun a d=>by rw [b] at d;cases d⟩
def Sim.addNilE {w0 S0 F H b w S φ} (h:Sim T w0 S0 ⟨F,H⟩ b w S φ) (e t):Sim T w0 S0 ⟨F,H++ [zw8 T e t]⟩ b w S (zw1 φ H.length ⟨none,0,0,[]⟩):=
 h.addG (Chg.refl [] w) (by simp) (by simp) (fun _ _ _ _ _ _=>by simp) (S':=S) (fun _ h=>h) (fun _ h=>.inl h) (r:=⟨none,0,0,[]⟩) (fun a h=>by cases yf0 h) (fun a h=>by cases yf0 h) (e:=zw8 T e t)
  (qw9 (by rw [k7]) e t) (fun j c=>by rw [qw8] at c;cases c)
def ya7 {w0 S0 c w}: ∀(l) {st},zc1 T w0 S0 st c w->zc1 T w0 S0 (yx9 T l st) c w
 | [],_,h=>h
 |(s,e,t)::r,st,h=>by
  unfold yx9;split
  ·rename_i g;refine ya7 r ?_;obtain ⟨S,φ,h⟩:=h;obtain ⟨v,j,d⟩:=h.fr s _ g;rw [VR] at d;subst d;have b:=h.addNilE e t;exact ⟨S,_,b.seen j (a:=.own st.H.length) (by rw [VR,k7]) ⟨fun i f=>by simp [AV.ids] at f;subst f;simp,trivial⟩⟩
  ·exact ya7 r h
def Sim.addNil {w0 S0 F H b w S φ} (h:Sim T w0 S0 ⟨F,H⟩ b w S φ) (e t):Sim T w0 S0 ⟨F,H++ [.row e t []]⟩ b w S (zw1 φ H.length ⟨none,0,0,[]⟩):=
 h.addG (Chg.refl [] w) (by simp) (by simp) (fun _ _ _ _ _ _=>by simp) (S':=S) (fun _ h=>h) (fun _ h=>.inl h) (r:=⟨none,0,0,[]⟩) (fun a h=>by cases yf0 h) (fun a h=>by cases yf0 h) (e:=.row e t [])
  ⟨w.heap.size,[],by rw [k7];exact Own.nil _ _ _ _,by rw [k7];rfl,W6 _,⟨rfl,fun j c v h=>by simp at h⟩,fun a d=>by rw [k7] at d;cases d⟩ (fun j f=>by cases f)
def wc4 {w0 S0 F H k w S φ} (h:Sim T w0 S0 ⟨F,H⟩ k w S φ) {i e t xs} (l:H[i]?=some (.row e t xs)) {v} (f:VR T w S φ (.own i) v):VR T w S φ (.sl i (szT T t) 0 xs.length) v:=by
 obtain ⟨B,g,b,j,m,o,p⟩:=h.ents i _ l;rw [VR] at f;subst f;rw [j] at b;refine ⟨(φ i).ad,?_,?_,?_,fun d=>b.nil0 d,fun _=>rfl⟩
 ·show Value.slice (φ i).ad (φ i).n (φ i).cap=Value.slice (φ i).ad xs.length ((φ i).cap-0);rw [j];rfl
 ·show 0+xs.length<=(φ i).cap;rw [W8];exact b.le.1
 rcases b.cases with ⟨_,d,_⟩|⟨c,a,_⟩
 ·exact .inl d
 ·refine .inr ⟨_,a,a.trans ?_⟩;show some (⟨_,0,none⟩:Addr)=some ⟨_,0+0*_,none⟩;rw [M0]
def Sim.cellSl {w0 S0 F H l w S φ} (h:Sim T w0 S0 ⟨F,H⟩ l w S φ) {i c k e0 e cs t xs}
  (f:H[i]?=some (.blk e0 cs)) (m:cs[c]?=some (.own k)) (o:H[k]?=some (.row e t xs)):Sim T w0 S0 ⟨F,H.set i (.blk e0 (cs.set c (.sl k (szT T t) 0 xs.length)))⟩ l w S φ:=by
 obtain ⟨g,p,q,r,s,u⟩:=h.ents i _ f;refine h.upd (i:=i) (e0:=.blk e0 cs) (e:=.blk e0 (cs.set c (.sl k (szT T t) 0 xs.length))) (Tc:= []) (w':=w) f rfl (Chg.refl [] w) (by simp)
  ⟨g,p,q,r,s,BR.swap (b:=.sl k (szT T t) 0 xs.length) rfl rfl (fun v x=>wc4 h o x) u m⟩ ?_ (by intro _ _ _ h;cases h)
 intro j n;rw [Ent.cellIds] at n;obtain ⟨b,d,a⟩:=zm0 n;rcases N2 d with d|d
 ·exact h.eids i _ f j (by rw [Ent.cellIds];exact zd7 d j a)
 ·subst d;have y:(AV.own k:AV T.U)∈cs:=X6 m;simp only [AV.ids,Q5] at a;subst a;exact h.eids i _ f j (by rw [Ent.cellIds];exact zd7 y j (by simp [AV.ids]))
def zd9 {w0 S0 F p w}: ∀(l) {H},zc1 T w0 S0 ⟨F,H⟩ p w->zc1 T w0 S0 ⟨F,ze8 T l H⟩ p w
 | [],_,h=>h
 |(i,c,e,t)::r,H,h=>by
  unfold ze8;split
  ·exact zd9 r (zu9 _ h)
  split
  ·rename_i e0 cs f;split
   ·rename_i o;refine zd9 r ?_;obtain ⟨S,φ,h⟩:=h;have q:=h.addNilE e t;have a:=(X2.1 f).1;obtain ⟨g,y,z,A,B,C⟩:=q.ents i _ (by rw [X8 a];exact f);have s:=q.upd (i:=i) (e0:=.blk e0 cs) (e:=.blk e0 (cs.set c (.own H.length))) (Tc:= []) (w':=w) (by rw [X8 a];exact f) rfl (Chg.refl [] w) (by simp)
     ⟨g,y,z,A,B,BR.swap (b:=.own H.length) rfl rfl (fun v u=>by rw [VR] at u;subst u;rw [VR,k7]) C o⟩
     (by
      intro j x;rw [Ent.cellIds] at x;obtain ⟨b,m,d⟩:=zm0 x;rcases N2 m with m|m
      ·have:=h.eids i _ f j (by rw [Ent.cellIds];exact zd7 m j d);simp at this⊢;omega
      ·subst m;simp [AV.ids] at d;subst d;simp) (by intro _ _ _ h;cases h)
    have n:(H++ [zw8 T e t]).set i (.blk e0 (cs.set c (.own H.length)))=H.set i (.blk e0 (cs.set c (.own H.length)))++ [zw8 T e t]:=by
     rw [List.set_append_left _ _ a]
    rw [n] at s;exact ⟨S,_,s⟩
   ·rename_i k o;split
    ·split
     ·rename_i E G xs D;obtain ⟨S,φ,h⟩:=h;exact zd9 r ⟨S,φ,h.cellSl f o D⟩
     ·exact zd9 r h
    ·exact zd9 r h
   ·exact zd9 r h
  ·exact zd9 r h
end
end Go.X
namespace Go.X
open Go.RowKit Go.V
section
variable {T:Tab} {w:World} {S:List Nat} {φ φ':Nat->RA}
def Ent.plain {U:Nat->Type}:Ent U->Bool| .drow _ _ _ _ _=>false| .pmap _ _ _ _ _=>false| .hid=>false|_=>true
def EntR.renS {ρ i e} (h:EntR T w S φ i e) {j} (s:RSame (φ' j) (φ i)) (u:e.plain=true\/(φ' j).xs=(φ i).xs) (x: ∀k∈e.cellIds,RSame (φ' (ρ k)) (φ k)):EntR T w S φ' j (e.ren ρ):=by
 obtain ⟨v,y,z⟩:=s;cases e with
 |blk e cs=>obtain ⟨g,c,f,n,p,q⟩:=h;exact ⟨g,c,by rw [v];exact f,n,p,q.renS T x⟩
 |row e t xs=>obtain ⟨B,o,f,n,p,q,r⟩:=h;simp only [Ent.ren,EntR,v,y,z];exact ⟨B,o,f,n,p,q,r⟩
 |map k es=>obtain ⟨g,l,c,f,n,p,q,r⟩:=h;exact ⟨g,l,c,by rw [v];exact f,n,p,q.renS T x,r⟩
 |tmap k t m=>obtain ⟨g,l,c,f,n⟩:=h;exact ⟨g,l,c,by rw [v];exact f,n⟩
 |drow e d fe xs A=>
  have s:φ' j=φ i:=by
   replace u:=u.resolve_left (by simp [Ent.plain])
   generalize φ' j=a at *;generalize φ i=b at *;cases a;cases b;simp_all
  obtain ⟨B,o,f,n,p,q,r⟩:=h;simp only [Ent.ren,EntR,s];exact ⟨B,o,f,n,p,q,r.renS T x⟩
 |pmap k D d m A=>
  have s:φ' j=φ i:=by
   replace u:=u.resolve_left (by simp [Ent.plain])
   generalize φ' j=a at *;generalize φ i=b at *;cases a;cases b;simp_all
  obtain ⟨g,l,c,C,f,n,p,q,r⟩:=h;simp only [Ent.ren,EntR,s];exact ⟨g,l,c,C,f,n,p,q.renS T x,r⟩
 |hid=>exact ⟨v.trans h.1,(u.resolve_left (by simp [Ent.plain])).trans h.2⟩
 |gone=>trivial
def EntR.ren {ρ i e} (h:EntR T w S φ i e) {j} (p:φ' j=φ i) (r: ∀k∈e.cellIds,φ' (ρ k)=φ k):EntR T w S φ' j (e.ren ρ):=by
 cases e with
 |blk e cs=>obtain ⟨g,c,a,b,n,o⟩:=h;exact ⟨g,c,by rw [p];exact a,b,n,o.ren T r⟩
 |row e t xs=>obtain ⟨B,f,a,b,n,o,q⟩:=h;simp only [Ent.ren,EntR,p];exact ⟨B,f,a,b,n,o,q⟩
 |map k es=>obtain ⟨g,l,c,a,b,n,o,q⟩:=h;exact ⟨g,l,c,by rw [p];exact a,b,n,o.ren T r,q⟩
 |tmap k t m=>obtain ⟨g,l,c,a,b⟩:=h;exact ⟨g,l,c,by rw [p];exact a,b⟩
 |drow e d fe xs u=>obtain ⟨B,f,a,b,n,o,q⟩:=h;simp only [Ent.ren,EntR,p];exact ⟨B,f,a,b,n,o,q.renS T fun k s=>RSame.of (r k s)⟩
 |pmap k x d m u=>obtain ⟨g,l,c,v,a,b,n,o,q⟩:=h;simp only [Ent.ren,EntR,p];exact ⟨g,l,c,v,a,b,n,o.renS T fun k s=>RSame.of (r k s),q⟩
 |hid=>exact ⟨by rw [p];exact h.1,by rw [p];exact h.2⟩
 |gone=>trivial
end
end Go.X
namespace Go.X
open Go.RowKit Go.V
section
variable {T:Tab} {P:Program} {C:Ctx T} {R:Type} {r:R} {H:List (Ent T.U)} {o:Oper}
abbrev Det (f: {R:Type}->(AV T.U->Option R)->Option R) (K:AV T.U->Option R) (r:R):Prop:= ∃a,K a=some r/\ ∀ {c:Type} (b:AV T.U->Option c),f b=b a
def vr4 {c:Bool} {x y:AV T.U} {K:AV T.U->Option R} (h:jc5 c x y K=some r):Det (fun K=>jc5 c x y K) K r:=by
 unfold jc5 at h;split at h
 ·rename_i z a;exact ⟨z,h,fun d=>by simp only [jc5,a]⟩
 ·rename_i a;split at h
  ·rename_i e;by_cases b:c=true
   ·rw [if_pos b] at h;exact ⟨x,h,fun d=>by simp only [jc5,a,e,if_pos b]⟩
   ·rw [if_neg b] at h;exact ⟨y,h,fun d=>by simp only [jc5,a,e,if_neg b]⟩
  ·cases h
def kf0 {b x y K} (h:divA T b x y K=some r):Det (fun K=>divA T b x y K) K r:=by
 unfold divA at h;split at h
 ·split at h
  ·rename_i c;unfold divA.divI at h;obtain ⟨a,h⟩:=yb0 h;exact ⟨_,h,fun d=>by simp only [divA,c,divA.divI,if_neg a]⟩
  ·cases h
 ·split at h
  ·rename_i c;unfold divA.remI at h;obtain ⟨a,h⟩:=yb0 h;exact ⟨_,h,fun d=>by simp only [divA,c,divA.remI,if_neg a]⟩
  ·cases h
 ·unfold divA.shlI at h;obtain ⟨a,h⟩:=yb0 h;exact ⟨_,h,fun d=>by simp only [divA,divA.shlI,if_neg a]⟩
 ·unfold divA.shrI at h;obtain ⟨a,h⟩:=yb0 h;exact ⟨_,h,fun d=>by simp only [divA,divA.shrI,if_neg a]⟩
 ·cases h
def vv5 {s j K} (h:qg1 s j K=some r): ∃a,K a=some r/\ ∀ {d:Type} (c:Int->Option d),qg1 s j c=c a:=by
 unfold qg1 at h;split at h
 ·rename_i b e;exact ⟨_,h,fun c=>by simp only [qg1,e]⟩
 ·cases h
def qw0 {t:TypeId} {s:AV T.U} {j:Int} {K:AV T.U->Option R} (h:zw5 T P t H s j K=some r):Det (fun K=>zw5 T P t H s j K) K r:=by
 unfold zw5 at h;split at h
 ·split at h
  ·rename_i he;obtain ⟨h0,h⟩:=u9 h;exact ⟨_,h,fun K'=>by simp only [zw5,he,if_pos h0]⟩
  ·cases h
 ·split at h
  ·rename_i hi;split at h
   ·rename_i he;obtain ⟨h0,h⟩:=u9 h;exact ⟨_,h,fun K'=>by simp only [zw5,hi,he,if_pos h0]⟩
   ·cases h
  ·cases h
 ·split at h
  ·rename_i hi;split at h
   ·rename_i he hs;obtain ⟨h0,h⟩:=u9 h;obtain ⟨h1,h⟩:=u9 h;exact ⟨_,h,fun K'=>by simp only [zw5,hi,he,hs,if_pos h0,if_pos h1]⟩
   ·cases h
  ·rename_i hi;split at h
   ·rename_i s hs;split at h
    ·rename_i hb;obtain ⟨h0,h⟩:=u9 h;exact ⟨_,h,fun K'=>by simp only [zw5,hi,hs,hb,if_pos h0]⟩
    ·cases h
   ·cases h
  ·cases h
 ·split at h
  ·rename_i s hs;split at h
   ·rename_i hb;obtain ⟨h0,h⟩:=u9 h;split at h
    ·rename_i ha;exact ⟨_,h,fun K'=>by simp only [zw5,hs,hb,if_pos h0,ha]⟩
    ·rename_i ha;exact ⟨_,h,fun K'=>by simp only [zw5,hs,hb,if_pos h0,ha]⟩
   ·cases h
  ·cases h
 ·cases h
def qz2 {t s e c K} (h:ye7 T P t H s e c K=some r):Det (fun K=>ye7 T P t H s e c K) K r:=by
 unfold ye7 at h;split at h
 ·simp only at h;split at h
  ·rename_i a;obtain ⟨b,h⟩:=u9 h;exact ⟨_,h,fun d=>by simp only [ye7,a,if_pos b]⟩
  ·cases h
 ·split at h
  ·rename_i c;simp only at h;split at h
   ·rename_i a;obtain ⟨b,h⟩:=u9 h;exact ⟨_,h,fun d=>by simp only [ye7,c,a,if_pos b]⟩
   ·cases h
  ·cases h
 ·split at h
  ·rename_i c;simp only at h;split at h
   ·rename_i a f;obtain ⟨b,h⟩:=u9 h;exact ⟨_,h,fun d=>by simp only [ye7,c,a,f,if_pos b]⟩
   ·cases h
  ·cases h
 ·simp only at h;split at h
  ·rename_i a;split at h
   ·rename_i g;obtain ⟨b,h⟩:=u9 h;exact ⟨_,h,fun d=>by simp only [ye7,a,g,if_pos b]⟩
   ·cases h
  ·cases h
 ·cases h
def vt3 {st:St T} {K:AV T.U->Option R} (h:zs1 P o st K=some r):Det (fun K=>zs1 P o st K) K r:=by
 unfold zs1 at h;split at h
 ·rename_i a ha;split at h
  ·rename_i hm;exact ⟨a,h,fun K'=>by simp only [zs1,ha,hm]⟩
  ·cases h
 ·rename_i hp;split at h
  ·rename_i hop;rw [hop] at hp;split at h
   ·rename_i hc hx hy;obtain ⟨a,h1,h2⟩:=vr4 h;exact ⟨a,h1,fun K'=>by simp only [zs1,hp,hop,hc,hx,hy];exact h2 K'⟩
   ·cases h
  ·rename_i hop;rw [hop] at hp;split at h
   ·rename_i hx hy;obtain ⟨a,h1,h2⟩:=kf0 h;exact ⟨a,h1,fun K'=>by simp only [zs1,hp,hop,hx,hy];exact h2 K'⟩
   ·cases h
  ·rename_i hop;rw [hop] at hp;split at h
   ·rename_i hx;split at h
    ·rename_i a hl;exact ⟨a,h,fun K'=>by simp only [zs1,hp,hop,hx,hl]⟩
    ·cases h
   ·cases h
  ·rename_i hop;rw [hop] at hp;split at h
   ·rename_i hs hd hx;split at h
    ·rename_i he;obtain ⟨xs,h1,h2⟩:=jh8 (t:=.list (.int .u8)) h;exact ⟨_,h1,fun K'=>by simp only [zs1,hp,hop,hs,hd,hx,he];exact h2 _⟩
    ·cases h
   ·cases h
  ·rename_i hop;rw [hop] at hp;split at h
   ·rename_i hu hx hy;obtain ⟨a,h1,h2⟩:=vv5 h;exact ⟨_,h1,fun K'=>by simp only [zs1,hp,hop,hu,hx,hy];exact h2 _⟩
   ·cases h
  ·rename_i hop;rw [hop] at hp;split at h
   ·rename_i hx hy;obtain ⟨a,h1,h2⟩:=qw0 h;exact ⟨a,h1,fun K'=>by simp only [zs1,hp,hop,hx,hy];exact h2 K'⟩
   ·cases h
  ·rename_i hop;rw [hop] at hp;split at h
   ·rename_i l m hx hl hh;split at h
    ·cases h
    ·rename_i hn;obtain ⟨a,h1,h2⟩:=qz2 h;refine ⟨a,h1,fun K'=>?_⟩;simp only [zs1,hp,hop,hx,hl,hh]
     try exact h2 K'
     all_goals first|exact h2 K'|(split<;>first|exact h2 K'|exact absurd rfl (by simp_all))
   ·cases h
  ·rename_i hop;rw [hop] at hp;split at h
   ·rename_i a hx;split at h
    ·rename_i b hb;split at h
     ·rename_i hn;exact ⟨b,h,fun K'=>by simp only [zs1,hp,hop,hx,hb,hn]⟩
     ·cases h
    ·cases h
   ·cases h
  ·rename_i c hop;rw [hop] at hp;split at h
   ·cases h
   ·rename_i aS has;split at h
    ·rename_i hc;split at h
     ·rename_i a t hat;split at h
      ·rename_i z hz;exact ⟨_,h,fun K'=>by simp only [zs1,hp,hop,has,hc,hat,hz]⟩
      ·rename_i hz;split at h
       ·rename_i z hz2;exact ⟨_,h,fun K'=>by simp only [zs1,hp,hop,has,hc,hat,hz,hz2]⟩
       ·cases h
     ·cases h
    ·rename_i hc;split at h
     ·rename_i a ha;exact ⟨_,h,fun K'=>by simp only [zs1,hp,hop,has,hc,ha]⟩
     ·cases h
    ·rename_i hc;split at h
     ·rename_i a ha;exact ⟨_,h,fun K'=>by simp only [zs1,hp,hop,has,hc,ha]⟩
     ·cases h
    ·cases h
  ·cases h
def qw1 {n sz s j K} (h:yd7 T n sz H s j K=some r):Det (fun K=>yd7 T n sz H s j K) K r:=by
 unfold yd7 at h;split at h
 ·split at h
  ·rename_i c;split at h
   ·rename_i g;split at h
    ·rename_i d;split at h
     ·rename_i b;obtain ⟨a,h⟩:=u9 h;exact ⟨_,h,fun e=>by simp only [yd7,c,g,d,b,if_pos a]⟩
     ·cases h
    ·rename_i d;obtain ⟨a,h⟩:=u9 h;exact ⟨_,h,fun e=>by simp only [yd7,c,g,d,if_pos a]⟩
   ·cases h
  ·cases h
 ·split at h
  ·rename_i b;obtain ⟨a,h⟩:=u9 h;obtain ⟨f,h⟩:=u9 h;exact ⟨_,h,fun e=>by simp only [yd7,b,if_pos a,if_pos f]⟩
  ·cases h
 ·split at h
  ·rename_i c;split at h
   ·rename_i b;obtain ⟨a,h⟩:=u9 h;obtain ⟨f,h⟩:=u9 h;exact ⟨_,h,fun e=>by simp only [yd7,c,b,if_pos a,if_pos f]⟩
   ·cases h
  ·cases h
 ·cases h
def qz3 {n sz s d a K} (h:yp2 T n sz H s d a K=some r):Det (fun K=>yp2 T n sz H s d a K) K r:=by
 unfold yp2 at h;simp only at h;split at h
 ·split at h
  ·rename_i a;split at h
   ·rename_i e;split at h
    ·rename_i f;split at h
     ·rename_i b;obtain ⟨c,h⟩:=u9 h;exact ⟨_,h,fun g=>by simp only [yp2,a,e,f,b,if_pos c]⟩
     ·cases h
    ·cases h
   ·cases h
  ·cases h
 ·split at h
  ·rename_i b;obtain ⟨c,h⟩:=u9 h;obtain ⟨i,h⟩:=u9 h;exact ⟨_,h,fun g=>by simp only [yp2,b,if_pos c,if_pos i]⟩
  ·cases h
 ·cases h
def qt7 {n sz s K} (h:yn5 T n sz H s K=some r):Det (fun K=>yn5 T n sz H s K) K r:=by
 unfold yn5 at h;split at h
 ·split at h
  ·rename_i a;obtain ⟨b,h⟩:=u9 h;exact ⟨_,h,fun c=>by simp only [yn5,a,if_pos b]⟩
  ·cases h
 ·split at h
  ·rename_i d;split at h
   ·rename_i a;obtain ⟨b,h⟩:=u9 h;exact ⟨_,h,fun c=>by simp only [yn5,d,a,if_pos b]⟩
   ·cases h
  ·cases h
 ·cases h
def vq0 {n sz f s g K} (h:ym4 T n sz f H s K (q9 g K)=some r):Det (fun K=>ym4 T n sz f H s K (q9 g K)) K r:=by
 unfold ym4 at h;split at h
 ·split at h
  ·rename_i b;obtain ⟨d,h⟩:=u9 h;exact ⟨_,h,fun c=>by simp only [ym4,b,if_pos d]⟩
  ·rename_i b;obtain ⟨a,rfl,h⟩:=zb9 h;exact ⟨a,h,fun c=>by simp only [ym4,b,q9]⟩
 ·split at h
  ·rename_i e;split at h
   ·rename_i b;obtain ⟨d,h⟩:=u9 h;exact ⟨_,h,fun c=>by simp only [ym4,e,b,if_pos d]⟩
   ·rename_i b;obtain ⟨a,rfl,h⟩:=zb9 h;exact ⟨a,h,fun c=>by simp only [ym4,e,b,q9]⟩
  ·rename_i e;obtain ⟨a,rfl,h⟩:=zb9 h;refine ⟨a,h,fun c=>?_⟩;simp only [ym4];rfl
 ·rename_i i j;obtain ⟨a,rfl,h⟩:=zb9 h;refine ⟨a,h,fun c=>?_⟩;unfold ym4;split
  ·exact absurd rfl (i _ _ _ _)
  ·exact absurd rfl (j _ _ _ _)
  ·rfl
def qw2 {n sz s j K} (h:yo4 T n sz s j K=some r):Det (fun K=>yo4 T n sz s j K) K r:=by
 unfold yo4 at h;split at h
 ·split at h
  ·rename_i a;obtain ⟨b,h⟩:=u9 h;exact ⟨_,h,fun c=>by simp only [yo4,a,if_pos b]⟩
  ·cases h
 ·split at h
  ·rename_i a d;obtain ⟨b,h⟩:=u9 h;exact ⟨_,h,fun c=>by simp only [yo4,a,d,if_pos b]⟩
  ·cases h
 ·cases h
def ju2 {e z x K}: ∀ {es},jc3 T e z x K es=some r->Det (fun K=>jc3 T e z x K es) K r
 | [],h=>⟨_,h,fun c=>rfl⟩
 |(y,a)::es,h=>by
  unfold jc3 at h;split at h
  ·rename_i d;exact ⟨_,h,fun c=>by simp only [jc3,if_pos d]⟩
  ·rename_i d;obtain ⟨b,f,g⟩:=ju2 h;exact ⟨b,f,fun c=>by simp only [jc3,if_neg d];exact g c⟩
def vq1 {t d m e x K} (h:jg1 T P t d H m e x K=some r):Det (fun K=>jg1 T P t d H m e x K) K r:=by
 unfold jg1 at h;split at h
 ·rename_i f;split at h
  ·rename_i a;split at h
   ·rename_i c i;obtain ⟨b,j,k⟩:=ju2 h;exact ⟨b,j,fun g=>by simp only [jg1,f,a,c,i];exact k g⟩
   ·cases h
  ·rename_i a;split at h
   ·rename_i c;exact ⟨_,h,fun g=>by simp only [jg1,f,a,c]⟩
   ·cases h
  ·cases h
 ·cases h
def vt4 {st:St T} {K:AV T.U->Option R} (h:yn1 P o st K=some r):Det (fun K=>yn1 P o st K) K r:=by
 unfold yn1 at h;split at h
 ·rename_i c;split at h
  ·rename_i d f j;obtain ⟨a,e,g⟩:=qw1 h;exact ⟨a,e,fun i=>by simp only [yn1,c,d,f,j];exact g i⟩
  ·cases h
 ·rename_i c;split at h
  ·rename_i d f j k;obtain ⟨a,e,g⟩:=qw2 h;exact ⟨a,e,fun i=>by simp only [yn1,c,d,f,j,k];exact g i⟩
  ·cases h
 ·rename_i c;split at h
  ·rename_i d f l m;obtain ⟨a,e,g⟩:=qz3 h;exact ⟨a,e,fun i=>by simp only [yn1,c,d,f,l,m];exact g i⟩
  ·cases h
 ·rename_i c;split at h
  ·rename_i d f;obtain ⟨a,e,g⟩:=qt7 h;exact ⟨a,e,fun i=>by simp only [yn1,c,d,f];exact g i⟩
  ·cases h
 ·rename_i c;split at h
  ·rename_i d f;obtain ⟨a,e,g⟩:=vq0 h;exact ⟨a,e,fun i=>by simp only [yn1,c,d,f];exact g i⟩
  ·cases h
 ·rename_i c;split at h
  ·rename_i a f;split at h
   ·rename_i n;exact ⟨a,h,fun i=>by simp only [yn1,c,f,n]⟩
   ·cases h
  ·cases h
 ·rename_i c;split at h
  ·rename_i p f;obtain ⟨b,e,g⟩:=vq1 h;simp only at e;split at e
   ·rename_i q;exact ⟨b,e,fun i=>by simp only [yn1,c,p,f];refine (g _).trans ?_;simp only [q]⟩
   ·cases e
  ·cases h
 ·cases h
def vt2 {st:St T} {K:AV T.U->Option R} (h:zy6 P o st K=some r):Det (fun K=>zy6 P o st K) K r:=by
 unfold zy6 at h;split at h
 ·rename_i b;obtain ⟨a,c,d⟩:=vt4 h;exact ⟨a,c,fun e=>by simp only [zy6,b];exact d e⟩
 ·rename_i b;obtain ⟨a,c,d⟩:=vt3 h;exact ⟨a,c,fun e=>by simp only [zy6,b];exact d e⟩
def wrA (C:Ctx T) (o:Oper) (st:St T):List Nat:=
 match o.op with
 | .store _ x _=>match aev T st.F x with|some a=>a.ids|none=> []
 | .insert _ m _ _=>match aev T st.F m with|some a=>a.ids|none=> []
 | .mapUpdate _ m _ _=>match aev T st.F m with|some a=>a.ids|none=> []
 | .convert _ d x=>match C.ty d,aev T st.F x with|some _,some a=>a.ids|_,_=> []
 | .call c=>match zv9 T st.F c.args.toList with
  |none=> []
  |some aS=>match c.callee with
   | .value f=>match aev T st.F f with
    |some (.fn (.func g) first caps)=>(match qc3 C.E g with|some cs=>cs.wr (first++aS++caps) st.H|none=> [])
    |_=> []
   | .builtin .append=>match aS with|s::_=>s.ids| []=> []
   | .builtin .clear=>match aS with|s::_=>s.ids| []=> []
   | .builtin .delete=>match aS with|s::_=>s.ids| []=> []
   |_=> []
 |_=> []
def Keeps.refl (l):Keeps T l H H:=⟨W6 _,fun _ _ _=>rfl,fun _ _ _ ys _ h=>⟨ys,h⟩⟩
def Keeps.app {l es}:Keeps T l H (H++es):=
 ⟨by simp,fun e a _=>X8 a,fun e ty t ys a h=>⟨ys,by rwa [X8 a] at h⟩⟩
def Keeps.set {l i x} (c:i∈l) (d: ∀(ty:TypeId) (t:Ty) (ys:List (den T.U t)),x=.row ty t ys-> ∃xs,H[i]?=some (.row ty t xs)):Keeps T l H (H.set i x):=by
 refine ⟨by simp,fun e b f=>?_,fun e ty t ys b h=>?_⟩
 ·rw [Z5 (fun g:i=e=>f (g▸c))]
 ·by_cases a:i=e
  ·subst a;rw [Q0 b] at h;simp only [X0] at h;exact d ty t ys h
  ·rw [Z5 a] at h;exact ⟨ys,h⟩
def Keeps.setApp {l i x es} (h:Keeps T l H (H.set i x)):Keeps T l H (H.set i x++es):=by
 refine ⟨by simp,fun e a c=>?_,fun e ty t ys a b=>?_⟩
 ·rw [X8 (by simpa using a)];exact h.same e a c
 ·rw [X8 (by simpa using a)] at b;exact h.row e ty t ys a b
def jy0 {t p a H1} (h:je1 T P t H p a=some H1):Keeps T p.ids H H1:=by
 unfold je1 at h;split at h
 ·split at h
  ·rename_i i o0 e cs b;split at h
   ·simp only [X0] at h;subst h;exact .set (by simp [AV.ids]) fun _ _ _ h=>by cases h
   ·cases h
  ·cases h
 ·split at h
  ·split at h
   ·split at h
    ·simp only [X0] at h;subst h;exact .set (by simp [AV.ids]) fun _ _ _ h=>by cases h
    ·cases h
   ·cases h
  ·cases h
 ·split at h
  ·rename_i i o0 c d e ty xs b;split at h
   ·split at h
    ·rename_i y f;simp only [X0] at h;subst h;refine .set (by simp [AV.ids]) fun ty' g ys h=>?_;simp only [Ent.row.injEq] at h;obtain ⟨rfl,rfl,_⟩:=h;exact ⟨xs,b⟩
    ·cases h
   ·cases h
  ·cases h
 ·cases h
def jf8 {t m b x a H1} (h:kp6 T P t H m b x a=some H1):Keeps T m.ids H H1:=by
 unfold kp6 at h;split at h
 ·split at h
  ·split at h
   ·simp only [X0] at h;subst h;exact .set (by simp [AV.ids]) fun _ _ _ h=>by cases h
   ·cases h
  ·split at h
   ·simp only [X0] at h;subst h;exact .set (by simp [AV.ids]) fun _ _ _ h=>by cases h
   ·cases h
  ·cases h
 ·cases h
def qu8 {t m a x H1} (h:gb3 T P t H m a x=some H1):Keeps T m.ids H H1:=by
 unfold gb3 at h;split at h<;>try (cases h;done)
 split at h<;>try (cases h;done)
 all_goals
  split at h<;>try (cases h;done)
  simp only [X0] at h;subst h;exact .set (by simp [AV.ids]) fun _ _ _ h=>by cases h
abbrev wo7 (f: {R:Type}->(AV T.U->List (Ent T.U)->Option R)->Option R) (K:AV T.U->List (Ent T.U)->Option R) (l:List Nat) (H:List (Ent T.U)) (r:R):Prop:=
 ∃a H1,K a H1=some r/\Keeps T l H H1/\ ∀ {c:Type} (b:AV T.U->List (Ent T.U)->Option c),f b=b a H1
def kl8 {R:Type} {r:R} {ty:Ty} {a:AV T.U} {K:List (den T.U ty)->Option R} (h:appA.rowX T ty H a K=some r): ∃xs,K xs=some r/\ ∀ {f:Type} (b:List (den T.U ty)->Option f),appA.rowX T ty H a b=b xs:=by
 unfold appA.rowX at h;split at h
 ·rename_i c;exact ⟨_,h,fun b=>by simp only [appA.rowX,c]⟩
 ·rename_i c;split at h<;>try (cases h;done)
  split at h<;>try (cases h;done)
  rename_i g;split at h<;>try (cases h;done)
  rename_i d;split at h<;>try (cases h;done)
  rename_i i;split at h<;>try (cases h;done)
  rename_i e;exact ⟨_,h,fun b=>by simp only [appA.rowX,c,g,d,dif_pos i,if_pos e]⟩
def kl7 {R:Type} {r:R} {ty:Ty} {a:AV T.U} {K:List (den T.U ty)->Option R} (h:appA.rowB T ty H a K=some r): ∃xs,K xs=some r/\ ∀ {R':Type} (K':List (den T.U ty)->Option R'),appA.rowB T ty H a K'=K' xs:=by
 unfold appA.rowB at h;split at h
 ·split at h
  ·rename_i hi;split at h
   ·rename_i hsz;split at h
    ·rename_i ht;split at h
     ·rename_i hle;exact ⟨_,h,fun K'=>by simp only [appA.rowB,hi,hsz,dif_pos ht,if_pos hle]⟩
     ·cases h
    ·cases h
   ·cases h
  ·cases h
 ·rename_i hn;split at h
  ·rename_i hx;refine ⟨_,h,fun K'=>?_⟩;unfold appA.rowB;split
   ·exact (hn _ _ _ _ rfl).elim
   ·simp only [hx]
  ·cases h
def kd1 {ty:Ty} {t:TypeId} {s x:AV T.U} {K:AV T.U->List (Ent T.U)->Option R} (h:appA T P ty t H s x K=some r):wo7 (fun K=>appA T P ty t H s x K) K s.ids H r:=by
 unfold appA at h;split at h
 ·rename_i he;split at h
  ·rename_i hb;obtain ⟨xs,h,hx⟩:=kl7 h;obtain ⟨ys,h,hd⟩:=kl8 h;obtain ⟨h0,h⟩:=u9 h;refine ⟨_,_,h,?_,fun K'=>by simp only [appA,he,hb,hx,hd,if_pos h0]⟩;unfold appA.goneA;split
   ·exact (Keeps.set (by simp [AV.ids]) fun _ _ _ h=>by cases h).setApp
   ·exact (Keeps.set (by simp [AV.ids]) fun _ _ _ h=>by cases h).setApp
   ·exact .app
  ·cases h
 ·cases h
def vq5 {ty t l c K} (h:jr1 T P ty t H l c K=some r) (w):wo7 (fun K=>jr1 T P ty t H l c K) K w H r:=by
 unfold jr1 at h;split at h
 ·rename_i a;split at h
  ·rename_i b d;split at h
   ·rename_i e;obtain ⟨f,h⟩:=u9 h;exact ⟨_,_,h,.app,fun g=>by simp only [jr1,a,b,d,e,if_pos f]⟩
   ·cases h
  ·cases h
 ·cases h
def qu3 {t s K} (h:yn7 T P t H s K=some r):wo7 (fun K=>yn7 T P t H s K) K s.ids H r:=by
 unfold yn7 at h;split at h<;>try (cases h;done)
 ·split at h<;>try (cases h;done)
  rename_i a b;exact ⟨_,_,h,.set (by simp [AV.ids]) (fun ty' c ys h=>by cases h),fun d=>by simp only [yn7,a,b]⟩
 split at h<;>try (cases h;done)
 rename_i a;split at h<;>try (cases h;done)
 rename_i e;split at h<;>try (cases h;done)
 rename_i f g;split at h<;>try (cases h;done)
 rename_i i;obtain ⟨j,h⟩:=u9 h;refine ⟨_,_,h,.set (by simp [AV.ids]) fun ty' c ys h=>?_,fun d=>by simp only [yn7,a,e,f,g,i,if_pos j]⟩;simp only [Ent.row.injEq] at h;obtain ⟨rfl,rfl,_⟩:=h;exact ⟨_,a⟩
def vn6 (hE:zb2 T P C.E) {c:Call} (hop:o.op=.call c) {st:St T} {K Kp:AV T.U->List (Ent T.U)->Option R} (h:yl5 P C c st K Kp=some r):
  (∃a H1,K a H1=some r/\Keeps T (wrA C o st) st.H H1/\ ∀ {R':Type} (K' Kp':AV T.U->List (Ent T.U)->Option R'),yl5 P C c st K' Kp'=K' a H1)\/ ∃a H1,Kp a H1=some r/\Keeps T (wrA C o st) st.H H1/\ ∀ {R':Type} (K' Kp':AV T.U->List (Ent T.U)->Option R'),yl5 P C c st K' Kp'=Kp' a H1:=by
 unfold yl5 at h;split at h
 ·cases h
 ·rename_i aS has;split at h
  ·rename_i f hc;split at h
   ·rename_i g first caps hf
    split at h
    ·rename_i cs he hcs;split at h
     ·rename_i hall;rcases (hE g cs hcs).2.2 _ _ _ _ _ h with ⟨a,H1,h1,h2,h3⟩|⟨a,H1,h1,h2,h3⟩
      ·refine .inl ⟨a,H1,h1,?_,fun K' Kp'=>by simp only [yl5,has,hc,hf,he,hcs,hall,h3]⟩;have:wrA C o st=cs.wr (first++aS++caps) st.H:=by simp only [wrA,hop,has,hc,hf,hcs]
       rw [this];exact h2
      ·refine .inr ⟨a,H1,h1,?_,fun K' Kp'=>by simp only [yl5,has,hc,hf,he,hcs,hall,h3]⟩;have:wrA C o st=cs.wr (first++aS++caps) st.H:=by simp only [wrA,hop,has,hc,hf,hcs]
       rw [this];exact h2
     ·cases h
    ·cases h
   ·cases h
  ·rename_i hc;split at h
   ·rename_i s x t t' hat;split at h
    ·rename_i e htt he;obtain ⟨a,H1,h1,h2,h3⟩:=kd1 h;refine .inl ⟨a,H1,h1,?_,fun K' Kp'=>by simp only [yl5,has,hc,hat,htt,he,h3]⟩;have:wrA C o st=s.ids:=by simp only [wrA,hop,has,hc]
     rw [this];exact h2
    ·cases h
   ·cases h
  ·rename_i hc;split at h
   ·rename_i s t hat;obtain ⟨a,H1,h1,h2,h3⟩:=qu3 h;refine .inl ⟨a,H1,h1,?_,fun K' Kp'=>by simp only [yl5,has,hc,hat,h3]⟩;have:wrA C o st=s.ids:=by simp only [wrA,hop,has,hc]
    rw [this];exact h2
   ·cases h
  ·rename_i hc;split at h
   ·rename_i m kx x t at2 hat;split at h<;>try (cases h;done)
    rename_i H1 hdl;refine .inl ⟨_,H1,h,?_,fun K' Kp'=>by simp only [yl5,has,hc,hat,hdl]⟩;have:wrA C o st=m.ids:=by simp only [wrA,hop,has,hc]
    rw [this];exact qu8 hdl
   ·cases h
  ·cases h
def yn3 (Z:zb2 T P C.E) {st K X} (h:stepA P C o st K X=some r):
  (∃a H1,K ⟨za9 T st.F o.dst a,H1⟩=some r/\Keeps T (wrA C o st) st.H H1/\ ∀ {u:Type} (j:St T->Option u) (g:AV T.U->St T->Option u),stepA P C o st j g=j ⟨za9 T st.F o.dst a,H1⟩)\/ ∃a B,X a B=some r/\Keeps T (wrA C o st) st.H B.H/\ ∀ {u:Type} (j:St T->Option u) (g:AV T.U->St T->Option u),stepA P C o st j g=g a B:=by
 have m:zy6 P o st (fun a=>K ⟨za9 T st.F o.dst a,st.H⟩)=some r->(∀ {u:Type} (j:St T->Option u) (g:AV T.U->St T->Option u),stepA P C o st j g=zy6 P o st fun a=>j ⟨za9 T st.F o.dst a,st.H⟩)->
   ∃a H1,K ⟨za9 T st.F o.dst a,H1⟩=some r/\Keeps T (wrA C o st) st.H H1/\ ∀ {u:Type} (j:St T->Option u) (g:AV T.U->St T->Option u),stepA P C o st j g=j ⟨za9 T st.F o.dst a,H1⟩:=by
  intro h D;obtain ⟨a,p,q⟩:=vt2 h;exact ⟨a,st.H,p,.refl _,fun j g=>by rw [D];exact q _⟩
 unfold stepA at h;simp only at h;split at h
 ·rename_i f;split at h
  ·rename_i cs hz;split at h
   ·rename_i cs' z;exact .inl ⟨_,_,h,.app,fun j g=>by simp only [stepA,f,hz,z]⟩
   ·cases h
  ·cases h
 ·rename_i f;split at h
  ·rename_i a Q;split at h
   ·rename_i S;exact .inl ⟨_,_,h,.app,fun j g=>by simp only [stepA,f,Q,S]⟩
   ·cases h
  ·cases h
 ·rename_i f;split at h
  ·rename_i G n;exact .inl ⟨_,_,h,.app,fun j g=>by simp only [stepA,f,G,n]⟩
  ·rename_i G n;exact .inl ⟨_,_,h,.app,fun j g=>by simp only [stepA,f,G,n]⟩
  ·cases h
 ·rename_i f;split at h
  ·rename_i k J A V;split at h
   ·rename_i H1 I L;refine .inl ⟨.raw undef,H1,by rw [k];exact h,?_,fun j g=>by simp only [stepA,f,k,J,A,V,I,L];rfl⟩;have: ∀l,wrA C o st=l->Keeps T l st.H H1:=by
     intro l v;rw [<-v];simp only [wrA,f,J];exact jf8 L
    exact this _ rfl
   ·cases h
  ·cases h
 ·rename_i f;split at h
  ·rename_i k J A V;split at h
   ·rename_i H1 I L;refine .inl ⟨.raw undef,H1,by rw [k];exact h,?_,fun j g=>by simp only [stepA,f,k,J,A,V,I,L];rfl⟩;have: ∀l,wrA C o st=l->Keeps T l st.H H1:=by
     intro l v;rw [<-v];simp only [wrA,f,J];exact jf8 L
    exact this _ rfl
   ·cases h
  ·cases h
 ·rename_i f;split at h
  ·rename_i k A W;split at h
   ·rename_i H1 z;refine .inl ⟨.raw undef,H1,by rw [k];exact h,?_,fun j g=>by simp only [stepA,f,k,A,W,z];rfl⟩;have: ∀l,wrA C o st=l->Keeps T l st.H H1:=by
     intro l v;rw [<-v];simp only [wrA,f,A];exact jy0 z
    exact this _ rfl
   ·cases h
  ·cases h
 ·rename_i f;split at h
  ·rename_i A W D;obtain ⟨a,H1,p,q,w⟩:=vq5 h (wrA C o st);exact .inl ⟨a,H1,p,q,fun j g=>by simp only [stepA,f,A,W,D];exact w _⟩
  ·cases h
 ·rename_i f;split at h
  ·rename_i l ty z D;split at h
   ·rename_i e xs M;exact .inl ⟨_,_,h,.app,fun j g=>by simp only [stepA,f,z,D,M]⟩
   ·cases h
  ·rename_i l z D;split at h
   ·rename_i e sz cs M;exact .inl ⟨_,_,h,.app,fun j g=>by simp only [stepA,f,z,D,M]⟩
   ·cases h
  ·cases h
 ·rename_i c f;split at h
  ·rename_i N;exact .inl (m h fun j g=>by simp only [stepA,f,N])
  ·rename_i N;rcases vn6 Z f h with ⟨a,H1,p,q,w⟩|⟨a,H1,p,q,w⟩
   ·exact .inl ⟨a,H1,p,q,fun j g=>by simp only [stepA,f,N];exact w _ _⟩
   ·exact .inr ⟨a,⟨st.F,H1⟩,p,q,fun j g=>by simp only [stepA,f,N];exact w _ _⟩
 ·rename_i s d x f;split at h
  ·rename_i e b p q w;split at h
   ·rename_i O;exact .inl ⟨_,_,h,.refl _,fun j g=>by simp only [stepA,f,p,q,w,O]⟩
   ·cases h
  ·rename_i e i p q w;split at h
   ·rename_i y xs M n O Y;refine .inl ⟨_,_,h,.set (l:=wrA C o st) ?_ (fun _ _ _ h=>by cases h),fun j g=>by simp only [stepA,f,p,q,w,M,n,O,Y]⟩;simp [wrA,f,w,n,AV.ids]
   ·cases h
  ·rename_i hn;refine .inl (m h fun j g=>?_);unfold stepA;simp only [f]
 ·rename_i x f;split at h
  ·rename_i t a Q;exact .inr ⟨_,_,h,.refl _,fun j g=>by simp only [stepA,f,Q]⟩
  ·cases h
 ·rename_i p q w O Y h6 h7 h8 h9 h10 h11;refine .inl (m h fun j g=>?_);unfold stepA;simp only
end
end Go.X
namespace Go.X
open Go.RowKit Go.V
section
variable {T:Tab} {P:Program} {C:Ctx T} {w w':World} {S S':List Nat} {φ φ':Nat->RA} {w0:World} {S0:Ow} {F:AF T} {H:List (Ent T.U)} {F':PF}
variable {ops:Array Oper} {Q:Exit->Act->World->Prop} {k n:Nat} {ds:List Deferred} {o:Oper}
def Oper.wp_and {o:Oper} {a:Act} {w:World} {K K':Act->World->Prop} {Q Q':Exit->Act->World->Prop} (hK: ∀v w,K (a.put o.dst v) w->K' (a.put o.dst v) w) (hd: ∀(d:Deferred) w',K ({a with defers:=d::a.defers}.put o.dst undef) w'->False) (hQ: ∀e a w,e≠.normal->Q e a w->False)
  (h:o.wp P a w K Q):o.wp P a w K' Q':=by
 unfold Oper.wp at h⊢;generalize (execOp a.eval o).run P w=r at h⊢;unfold Oper.upon at h⊢;split at h
 ·exact hK _ _ h
 ·exact hK _ _ h
 ·exact (hd _ _ h).elim
 ·refine h.mono fun e w' hq=>?_;cases e with
  |returned v=>exact hK _ _ hq
  |panicked ch=>exact (hQ _ _ _ (by simp) hq).elim
  |outgrown=>obtain ⟨a1,w1,h1⟩:=hq;exact (hQ _ _ _ (by simp) h1).elim
 ·exact h.mono fun v w' hq=>hK _ _ hq
 ·exact (hQ _ _ _ (by simp) h).elim
 ·exact h.elim
def jn0 {o:Oper} {g a w K Q} (h:({o with guard:=g}:Oper).wp P a w K Q):o.wp P a w K Q:=h
def zu3 (J:zb2 T P C.E) {c} (L:stepA P C o ⟨F,H⟩ some (fun _ _=>none)=some c) (m:zi0 n o.dst=true) (t:zb3 o=true) (p:zt6 F o=true) (h:Sim T w0 S0 ⟨F,H⟩ F' w S φ) {a} (u:Fr n ds F' a):
  o.wp P a w (fun q w'=> ∃F1,zc1 T w0 S0 c F1 w'/\Fr n ds F1 q/\ ∃v,q=a.put o.dst v) Q:=by
 let o':Oper:= {o with guard:=none}
 have D:dec #[o'] 0 n F'=some o':=by
  unfold dec;have i:zv8 #[o'] F' o'=some true:=rfl;have M:yb3 F' o'=true:=ym8 (o:=o') h.fr p;have b:zi0 n o'.dst=true:=m;have r:zb3 o'=true:=t;simp only [List.getElem?_toArray,Y4,i,M,b,r,N3]
 have x:stepA P C o' ⟨F,H⟩ some (fun _ _=>none)=some c:=by
  cases o;exact L
 have y:=zg5 (Q:=fun e q w'=>e=.normal/\ ∃F1,zc1 T w0 S0 c F1 w'/\Fr n ds F1 q) (ds:=ds) J D x h (fun st f F1 s b=>by
  simp only [X0] at f;subst f;exact WR.fin (by rfl) fun G z=>⟨rfl,F1,b,z⟩) (fun a st f=>by cases f)
 have i:=y a u;unfold wpList at i;have j:Region.wanted o' (yielded #[o'] a.tmps)=true:=by
  have:=(zn2 D).2.2.2.2 u;exact this
 have l:(#[o']:Array Oper).toList.drop 0= [o']:=rfl;rw [l] at i;simp only [j,if_true] at i;rcases i with i|⟨_,G,s,b,_⟩
 ·refine jn0 (g:=none) (Oper.wp_and (o:=o') (K:=wpList P #[o'] _ []) ?_ ?_ ?_ i)
  ·rintro v s b
   unfold wpList at b;obtain ⟨_,F1,r,A⟩:=b;exact ⟨F1,r,A,v,rfl⟩
  ·rintro d s b
   unfold wpList at b;obtain ⟨_,F1,r,A⟩:=b;have I:=A.defers;have N:({a with defers:=d::a.defers}.put o'.dst undef).defers=d::a.defers:=by cases o'.dst<;>rfl
   rw [N,u.defers] at I;exact absurd (congrArg List.length I) (by simp)
  ·rintro e G s B ⟨rfl,_⟩
   exact B rfl
 ·cases b
def Sim.frame2 (h:Sim T w0 S0 ⟨F,H⟩ F' w S φ) {tch:List Nat} {nb Fc Fc'} {H1 H2:List (Ent T.U)} {S1 B}
  (D:Sim T w ⟨tch.flatMap fun e=>(φ e).all,S,(List.range nb).map φ⟩ ⟨Fc,H1⟩ Fc' w' S1 B) (hnb:nb<=H1.length) (hl:H1.length<=H.length) (hpin:S0.pin.length<=nb)
  (J: ∀e∈tch,e<nb/\ ∃x,H[e]?=some x/\x.live=true) (hfree: ∀e,nb<=e->e<H1.length->H[e]?=some .gone) (N:H2.length=H.length)
  (h2: ∀(e:Nat) (f:Ent T.U),H2[e]?=some f->(e∈tch/\H1[e]?=some f)\/(nb<=e/\H1[e]?=some f)\/(e∉tch/\(e<nb\/H1.length<=e)/\H[e]?=some f))
  (hrow: ∀(e:Nat) (ty:TypeId) (t:Ty) (ys:List (den T.U t)),e∈tch->H1[e]?=some (.row ty t ys)-> ∃xs,H[e]?=some (.row ty t xs))
  (hFid: ∀t a,F.get T t=some a-> ∀i∈a.ids,i<nb\/H1.length<=i) (hHid: ∀(e:Nat) (f:Ent T.U),H[e]?=some f->(e<nb\/H1.length<=e)-> ∀i∈f.cellIds,i<nb\/H1.length<=i):
  ∃m,Sim T w0 S0 ⟨F,H2⟩ F' w' S1 m/\ ∀a v,VR T w' S1 B a v->(∀i∈a.ids,i<H1.length)->VR T w' S1 m a v:=by
 let m:Nat->RA:=fun i=>if i<H1.length/\(i∈tch\/nb<=i) then B i else φ i
 have hp: ∀i,i<nb->RSame (B i) (φ i):=fun i M=>(D.pins i (φ i) (by simp [M])).1;have p: ∀i,i<H1.length->(i∈tch\/nb<=i)->m i=B i:=fun i M h=>if_pos ⟨M,h⟩;have s: ∀i,i∉tch->(i<nb\/H1.length<=i)->m i=φ i:=fun i h M=>if_neg fun q=>q.2.elim h fun q2=>by have:=q.1;omega
 have hin: ∀i,i<H1.length->RSame (m i) (B i):=fun i M=>by
  by_cases h:i∈tch\/nb<=i
  ·exact .of (p i M h)
  ·rw [not_or] at h;rw [s i h.1 (by omega)];exact (hp i (by omega)).symm
 have O: ∀i,(i<nb\/H1.length<=i)->RSame (m i) (φ i):=fun i M=>by
  by_cases h:i∈tch
  ·have:=(J i h).1;rw [p i (by omega) (.inl h)];exact hp i this
  ·exact .of (s i h M)
 have hT: ∀b∈tch.flatMap (fun e=>(φ e).all),∃e∈tch,∃a,At (φ e) a/\a.block=b:=by
  intro b l;obtain ⟨e,he,l⟩:=V6.1 l;exact ⟨e,he,zr4.1 l⟩
 have hTS: ∀b∈tch.flatMap (fun e=>(φ e).all),b∈S:=by
  intro b l;obtain ⟨e,he,a,d,rfl⟩:=hT b l;obtain ⟨_,x,K,E⟩:=J e he;exact zf5 h K E d
 have hTc: ∀b∈tch.flatMap (fun e=>(φ e).all),b∈S0.chg\/w0.heap.size<=b:=by
  intro b l;obtain ⟨e,he,a,d,rfl⟩:=hT b l;obtain ⟨_,x,K,E⟩:=J e he;exact (h.lives e x K E a d).2
 have hS1: ∀b∈S1,b∈S\/w.heap.size<=b:=fun b l=>(D.own b l).1;refine ⟨m,⟨?_,?_,h.chg.step D.chg hTc,fun b l=>⟨?_,(D.own b l).2⟩,fun b l q1 q2=>D.ex b (h.ex b l q1 q2) (fun R=>(hTc b R).elim q1 fun R=>by omega) (h.own b (h.ex b l q1 q2)).2,?_,fun k r hk=>?_,?_,?_,?_⟩,fun a v hv M=>hv.phiS fun i R=>hin i (M i R)⟩
 ·intro i a d;obtain ⟨v,u,L⟩:=h.fr i a d;exact ⟨v,u,(L.chg T D.chg hTS hS1).phiS fun j hj=>O j (hFid i a d j hj)⟩
 ·intro i a d;obtain ⟨u,L⟩:=h.ids i a d;refine ⟨fun j hj=>by have:=u j hj;simp only [N] at this⊢;exact this,?_⟩;cases a with
  |eptr y sz k c=>
   intro e t xs K;have hy:=hFid i _ d y (by simp [AV.ids]);rcases h2 y _ K with ⟨V,G⟩|⟨V,G⟩|⟨_,_,G⟩
   ·obtain ⟨zs,g5⟩:=hrow y _ _ _ V G;obtain ⟨q4,q5⟩:=L _ _ _ g5;obtain ⟨_,_,_,n1,_⟩:=h.ents y _ g5;obtain ⟨_,_,_,n2,_⟩:=D.ents y _ G;rw [(hp y (J y V).1).2.1] at n2;exact ⟨by omega,q5⟩
   ·have:=(X2.1 G).1;omega
   ·exact L e t xs G
  |_=>trivial
 ·rcases (D.own b l).1 with l|l
  ·exact (h.own b l).1
  ·exact .inr (W7 h.chg.size l)
 ·intro e f hf z a d;have cal:H1[e]?=some f->At (B e) a->a.block∈S1/\(a.block∈S0.chg\/w0.heap.size<=a.block):=fun G d=>by
   refine ⟨(D.lives e f G z a d).1,?_⟩;rcases (D.lives e f G z a d).2 with R|R
   ·exact hTc _ R
   ·exact .inr (W7 h.chg.size R)
  rcases h2 e f hf with ⟨u,G⟩|⟨u,G⟩|⟨g0,u,G⟩
  ·rw [p e (X2.1 G).1 (.inl u)] at d;exact cal G d
  ·rw [p e (X2.1 G).1 (.inr u)] at d;exact cal G d
  ·rw [s e g0 u] at d;have q:=h.lives e f G z a d;refine ⟨D.ex _ q.1 (fun l=>?_) (h.own _ q.1).2,q.2⟩;obtain ⟨e',I,a',W,X⟩:=hT _ l;obtain ⟨_,x,K,E⟩:=J e' I;exact h.apart e e' f x G K z E (fun q=>g0 (q▸I)) a a' d W X.symm
 ·obtain ⟨u,L⟩:=h.pins k r hk;have hk':=(X2.1 hk).1;exact ⟨(O k (.inl (by omega))).trans u,by simp only [N] at L⊢;exact L⟩
 ·intro e f hf;have hcE:(e∈tch\/nb<=e)->H1[e]?=some f->EntR T w' S1 m e f:=fun q g=>
   (D.ents e f g).phiE (p e (X2.1 g).1 q) fun x K=>hin x (D.eids e f g x K)
  rcases h2 e f hf with ⟨q,g⟩|⟨q,g⟩|⟨u,L,V⟩
  ·exact hcE (.inl q) g
  ·exact hcE (.inr q) g
  ·have hnot:f.live=true-> ∀a,At (φ e) a->a.block∉tch.flatMap (fun e=>(φ e).all):=fun hl a d l=>by
    obtain ⟨e',I,a',W,X⟩:=hT _ l;obtain ⟨_,x,K,E⟩:=J e' I;exact h.apart e e' f x V K hl E (fun q=>u (q▸I)) a a' d W X.symm
   have h1:=(h.ents e f V).chg T D.chg hTS hS1 fun hl a d=>⟨hnot hl a d,D.ex _ (zf5 h V hl d) (hnot hl a d) (h.own _ (zf5 h V hl d)).2⟩;exact h1.phiE (s e u L) fun x K=>O x (hHid e f V L x K)
 ·intro e f hf j hj;simp only [N];rcases h2 e f hf with ⟨_,g⟩|⟨_,g⟩|⟨_,_,g⟩
  ·have:=D.eids e f g j hj;simp only at this;omega
  ·have:=D.eids e f g j hj;simp only at this;omega
  ·exact h.eids e f g j hj
 ·have side: ∀(e:Nat) (f:Ent T.U),H2[e]?=some f->(H1[e]?=some f/\m e=B e)\/(e∉tch/\H[e]?=some f/\m e=φ e):=by
   intro e f hf;rcases h2 e f hf with ⟨g0,g⟩|⟨g0,g⟩|⟨u,L,V⟩
   ·exact .inl ⟨g,p e (X2.1 g).1 (.inl g0)⟩
   ·exact .inl ⟨g,p e (X2.1 g).1 (.inr g0)⟩
   ·exact .inr ⟨u,V,s e u L⟩
  have Y: ∀(i j:Nat) (f Z:Ent T.U),H1[i]?=some f->f.live=true->j∉tch->H[j]?=some Z->Z.live=true-> ∀a b,At (B i) a->At (φ j) b->a.block≠b.block:=by
   intro i j f Z M z hj hfj A a b d l;rcases (D.lives i f M z a d).2 with R|R
   ·obtain ⟨e',I,a',W,X⟩:=hT _ R;obtain ⟨_,x,K,E⟩:=J e' I;rw [<-X];exact h.apart e' j x Z K hfj E A (fun q=>hj (q▸I)) a' b W l
   ·have:=(h.own _ (zf5 h hfj A l)).2;omega
  intro i j f Z hf hf' z A hij a b d l;rcases side i f hf with ⟨u,L⟩|⟨g0,u,L⟩<;>rcases side j Z hf' with ⟨k1,k2⟩|⟨k0,k1,k2⟩<;>rw [L] at d<;>rw [k2] at l
  ·exact D.apart i j f Z u k1 z A hij a b d l
  ·exact Y i j f Z u z k0 k1 A a b d l
  ·exact (Y j i Z f k1 A g0 u z b a l d).symm
  ·exact h.apart i j f Z u k1 z A hij a b d l
end
end Go.X
namespace Go.X
open Go.RowKit Go.V
section
variable {T:Tab} {P:Program} {C:Ctx T} {w w':World} {S S':List Nat} {φ φ':Nat->RA} {w0:World} {S0:Ow} {F:AF T} {H:List (Ent T.U)} {F':PF}
variable {ops:Array Oper} {Q:Exit->Act->World->Prop} {k n:Nat} {ds:List Deferred} {o:Oper} {R:Type} {r:R}
def vw2 (H:List (Ent T.U)) (k:Nat):List Nat:=k::match H[k]? with
 |some (.drow _ d fe _ (some (_,cs)))=>(match zx4 T H (va3 T d) fe cs with|some (_,ids)=>ids|none=> [])
 |some (.pmap _ _ _ _ (some (_,j)))=> [j]
 |_=> []
def zr8 (C:Ctx T) (o:Oper) (F:AF T) (H:List (Ent T.U)):List Nat:=
 match o.op with
 | .store _ x y=>match aev T F x,aev T F y with
  |some p,some a=>match jz9 T H p a with|some _=>a.ids|none=> []
  |_,_=> []
 | .buildSlice t _ ps=>match C.ty t,zv9 T F (ps.toList.map Prod.snd) with|some _,some aS=>u0 aS|_,_=> []
 | .mapUpdate t _ _ v=>match C.ty t,aev T F v with|some _,some a=>a.ids|_,_=> []
 | .call c=>match c.callee,c.args.toList,c.argTypes.toList with
  | .builtin .append,[x,y],[t,_]=>match C.dr t,aev T F x,aev T F y with
   |some _,some (.own i),some (.own i2)=>vw2 H i++vw2 (zp0 T H i) i2
   |none,some (.asl i 0 _ _ 0 _),some (.sl j _ 0 _)=> [i,j]
   |_,_,_=> []
  |_,_,_=> []
 |_=> []
def vw7 (o:Oper) (F:AF T) (H:List (Ent T.U)):List Nat:=
 match o.op with
 | .load _ x=>match aev T F x with|some (.eptr k _ _ _)=>(match H[k]? with|some (.drow _ _ _ _ _)=> [k]|_=> [])|_=> []
 | .store _ x _=>match aev T F x with|some (.eptr k _ _ _)=>(match H[k]? with|some (.drow _ _ _ _ _)=> [k]|_=> [])|_=> []
 |_=> []
def wrF (C:Ctx T) (o:Oper) (st:St T):List Nat:=wrA C o st++(zr8 C o st.F st.H++vw7 o st.F st.H)
def Keeps.sub {l m H1} (h:Keeps T l H H1) (a: ∀i∈l,i∈m):Keeps T m H H1:=⟨h.len,fun e b c=>h.same e b fun d=>c (a e d),h.row⟩
def Keeps.trans {l H1 H2} (h:Keeps T l H H1) (b:Keeps T l H1 H2):Keeps T l H H2:=
 ⟨W7 h.len b.len,fun e a c=>(b.same e (V1 a h.len) c).trans (h.same e a c),fun e ty t ys a d=>by
  obtain ⟨xs,f⟩:=b.row e ty t ys (V1 a h.len) d;exact h.row e ty t xs a f⟩
def zt1: ∀(ids) {H},Keeps T ids H (zv4 T H ids)
 | [],H=>.refl _
 |i::r,H=>(Keeps.set (l:=i::r) (U1 ..) fun ty t ys e=>by cases e).trans ((zt1 r).sub fun j a=>Z4 _ a)
def closeAt_keeps {k:Nat}:Keeps T (vw2 H k) H (zp0 T H k):=by
 unfold zp0;split
 ·rename_i e d fe xs a cs hk;split
  ·rename_i l ids hc;split
   ·exact (Keeps.set (l:=vw2 H k) (U1 ..) fun ty t ys e=>by cases e).trans ((zt1 ids).sub fun i hi=>Z4 _ (by simp only [hk,hc];exact hi))
   ·exact .refl _
  ·exact .refl _
 ·exact .refl _
def jk7 {t x st K} (h:qv4 T t x st K=some r): ∃s a y,x=.tmp s/\st.F.get T s=some a/\K ⟨(s,zo3 T t y)::st.F,zv4 T st.H a.ids⟩=some r/\ ∀ {d:Type} (b:St T->Option d),qv4 T t x st b=b ⟨(s,zo3 T t y)::st.F,zv4 T st.H a.ids⟩:=by
 unfold qv4 at h;split at h<;>try (cases h;done)
 rename_i s;split at h<;>try (cases h;done)
 rename_i a c;obtain ⟨y,e,f⟩:=jh8 h;exact ⟨s,a,y,rfl,c,e,fun b=>by simp only [qv4,c,f]⟩
def yz2 {te:Ty}: ∀ {ps:List (Nat×Operand)} {st:St T} {K:St T->Option R} {l:List Nat},yv6 T te ps st K=some r->(∀x∈ps.map Prod.snd,∀a,aev T st.F x=some a-> ∀i∈a.ids,i∈l)->
  ∃st',K st'=some r/\Keeps T l st.H st'.H/\ ∀ {R':Type} (K':St T->Option R'),yv6 T te ps st K'=K' st'
 | [],st,K,l,h,_=>⟨st,h,.refl _,fun _=>rfl⟩
 |(j,x)::ps,st,K,l,h,hl=>by
  unfold yv6 at h;split at h<;>try (cases h;done)
  rename_i a ha;split at h
  ·rename_i cs hc;obtain ⟨st',h1,h2,h3⟩:=yz2 h fun y hy=>hl y (Z4 _ hy);exact ⟨st',h1,h2,fun K'=>by simp only [yv6,ha,hc];exact h3 K'⟩
  ·rename_i hc;obtain ⟨s,b,y,rfl,hb,h1,h2⟩:=jk7 h;have:b=a:=by have ha':st.F.get T s=some a:=ha;rw [hb] at ha';exact X5 ha'
   subst this;obtain ⟨st',h3,h4,h5⟩:=yz2 (l:=l) h1 fun z hz c hzc i hi=>by
    have hz':aev T st.F z=some c\/c=zo3 T te y:=by
     cases z with
     |tmp q=>
      have hzc:AF.get T ((s,zo3 T te y)::st.F) q=some c:=hzc;simp only [AF.get] at hzc;split at hzc
      ·exact .inr (X5 hzc).symm
      ·exact .inl hzc
     |const v=>exact .inl hzc
     |global g=>exact .inl hzc
     |func f=>exact .inl hzc
    rcases hz' with hz'|rfl
    ·exact hl z (Z4 _ hz) c hz' i hi
    ·rw [jx4] at hi;cases hi
   refine ⟨st',h3,((zt1 _).sub fun i hi=>hl _ (U1 ..) _ ha i hi).trans h4,fun K'=>?_⟩;simp only [yv6,ha,hc,h2];exact h5 K'
def vv0 (hE:zb2 T P C.E) {st:St T} {K:St T->Option R} {Kp:AV T.U->St T->Option R} (h:zm7 P C o st K Kp=some r):
  (∃Fz a H1,K ⟨za9 T Fz o.dst a,H1⟩=some r/\Keeps T (wrF C o st) st.H H1/\ ∀ {R':Type} (K':St T->Option R') (Kp':AV T.U->St T->Option R'),zm7 P C o st K' Kp'=K' ⟨za9 T Fz o.dst a,H1⟩)\/ ∃a st',Kp a st'=some r/\Keeps T (wrF C o st) st.H st'.H/\ ∀ {R':Type} (K':St T->Option R') (Kp':AV T.U->St T->Option R'),zm7 P C o st K' Kp'=Kp' a st':=by
 have plain:stepA P C o st K Kp=some r->(∀ {R':Type} (K':St T->Option R') (Kp':AV T.U->St T->Option R'),zm7 P C o st K' Kp'=stepA P C o st K' Kp')->
   (∃Fz a H1,K ⟨za9 T Fz o.dst a,H1⟩=some r/\Keeps T (wrF C o st) st.H H1/\ ∀ {R':Type} (K':St T->Option R') (Kp':AV T.U->St T->Option R'),zm7 P C o st K' Kp'=K' ⟨za9 T Fz o.dst a,H1⟩)\/ ∃a st',Kp a st'=some r/\Keeps T (wrF C o st) st.H st'.H/\ ∀ {R':Type} (K':St T->Option R') (Kp':AV T.U->St T->Option R'),zm7 P C o st K' Kp'=Kp' a st':=by
  intro h he;rcases yn3 hE h with ⟨a,H1,h1,h2,h3⟩|⟨a,st',h1,h2,h3⟩
  ·exact .inl ⟨st.F,a,H1,h1,h2.sub fun i hi=>X4.2 (.inl hi),fun K' Kp'=>by rw [he];exact h3 K' Kp'⟩
  ·exact .inr ⟨a,st',h1,h2.sub fun i hi=>X4.2 (.inl hi),fun K' Kp'=>by rw [he];exact h3 K' Kp'⟩
 unfold zm7 at h;split at h
 ·rename_i t x y hop;split at h<;>try (cases h;done)
  rename_i p a hp ha;split at h
  ·rename_i te hc hte;split at h<;>try (cases h;done)
   rename_i hne;obtain ⟨s,b,z,rfl,hb,h1,h2⟩:=jk7 h;have:b=a:=by have ha':st.F.get T s=some a:=ha;rw [hb] at ha';exact X5 ha'
   subst this;have kp: ∀ {H1:List (Ent T.U)},Keeps T (wrA C o ⟨(s,zo3 T te z)::st.F,zv4 T st.H b.ids⟩) (zv4 T st.H b.ids) H1->Keeps T (wrF C o st) st.H H1:=by
    intro H1 h4;refine ((zt1 _).sub (m:=wrF C o st) fun i hi=>X4.2 (.inr (X4.2 (.inl ?_)))).trans (h4.sub fun i hi=>X4.2 (.inl ?_))
    ·simp only [zr8,hop,hp,ha,hte];exact hi
    ·have hx:aev T ((s,zo3 T te z)::st.F) x=aev T st.F x:=by
      cases x with
      |tmp q=>
       have hq:Nat.beq s q=false:=by simpa [qw7] using hne
       show AF.get T ((s,zo3 T te z)::st.F) q=_;simp only [AF.get,hq];rfl
      |_=>rfl
     simp only [wrA,hop,hx] at hi⊢;exact hi
   rcases yn3 hE h1 with ⟨a1,H1,h3,h4,h5⟩|⟨a1,st',h3,h4,h5⟩
   ·refine .inl ⟨_,a1,H1,h3,kp h4,fun K' Kp'=>?_⟩;simp only [zm7,hop,hp,ha,hc,hte,hne,h2];exact h5 K' Kp'
   ·refine .inr ⟨a1,st',h3,kp h4,fun K' Kp'=>?_⟩;simp only [zm7,hop,hp,ha,hc,hte,hne,h2];exact h5 K' Kp'
  ·rename_i hn;refine plain h fun K' Kp'=>?_;simp only [zm7,hop,hp,ha]
 ·rename_i t len ps hop;split at h
  ·rename_i te aS hte hps
   ·have hmem: ∀(l:List Operand) (aS:List (AV T.U)),zv9 T st.F l=some aS-> ∀x∈l,∀a,aev T st.F x=some a-> ∀i∈a.ids,i∈u0 aS:=by
     intro l;induction l with
     |nil=>intro aS _ x hx;cases hx
     |cons z q ih=>
      intro aS has x hx a ha i hi;unfold zv9 at has;split at has<;>try (cases has;done)
      rename_i b bs hb hbs;simp only [X0] at has;subst has;rw [u0];rcases Z0.1 hx with rfl|hx
      ·rw [hb] at ha;simp only [X0] at ha;subst ha;exact X4.2 (.inl hi)
      ·exact X4.2 (.inr (ih bs hbs x hx a ha i hi))
    obtain ⟨st',h1,h2,h3⟩:=yz2 (l:=u0 aS) h (hmem _ _ hps);have kp: ∀ {H1:List (Ent T.U)},Keeps T (wrA C o st') st'.H H1->Keeps T (wrF C o st) st.H H1:=by
     intro H1 h5;refine (h2.sub (m:=wrF C o st) fun i hi=>X4.2 (.inr (X4.2 (.inl ?_)))).trans (h5.sub fun i hi=>?_)
     ·simp only [zr8,hop,hte,hps];exact hi
     ·simp only [wrA,hop] at hi;cases hi
    rcases yn3 hE h1 with ⟨a1,H1,h4,h5,h6⟩|⟨a1,st2,h4,h5,h6⟩
    ·refine .inl ⟨_,a1,H1,h4,kp h5,fun K' Kp'=>?_⟩;simp only [zm7,hop,hte,hps,h3];exact h6 K' Kp'
    ·refine .inr ⟨a1,st2,h4,kp h5,fun K' Kp'=>?_⟩;simp only [zm7,hop,hte,hps,h3];exact h6 K' Kp'
  ·rename_i hn;refine plain h fun K' Kp'=>?_;simp only [zm7,hop]
 ·rename_i t m x v hop;split at h
  ·rename_i te a hte ha;split at h
   ·rename_i hc;split at h<;>try (cases h;done)
    rename_i hne;obtain ⟨s,b,z,rfl,hb,h1,h2⟩:=jk7 h;have:b=a:=by have ha':st.F.get T s=some a:=ha;rw [hb] at ha';exact X5 ha'
    subst this;have kp: ∀ {H1:List (Ent T.U)},Keeps T (wrA C o ⟨(s,zo3 T te z)::st.F,zv4 T st.H b.ids⟩) (zv4 T st.H b.ids) H1->Keeps T (wrF C o st) st.H H1:=by
     intro H1 h4;refine ((zt1 _).sub (m:=wrF C o st) fun i hi=>X4.2 (.inr (X4.2 (.inl ?_)))).trans (h4.sub fun i hi=>X4.2 (.inl ?_))
     ·simp only [zr8,hop,hte,ha];exact hi
     ·have hx:aev T ((s,zo3 T te z)::st.F) m=aev T st.F m:=by
       cases m with
       |tmp q=>
        have hq:Nat.beq s q=false:=by
         rw [X3] at hne;simpa [qw7] using hne.1
        show AF.get T ((s,zo3 T te z)::st.F) q=_;simp only [AF.get,hq];rfl
       |_=>rfl
      simp only [wrA,hop,hx] at hi⊢;exact hi
    rcases yn3 hE h1 with ⟨a1,H1,h3,h4,h5⟩|⟨a1,st',h3,h4,h5⟩
    ·refine .inl ⟨_,a1,H1,h3,kp h4,fun K' Kp'=>?_⟩;simp only [zm7,hop,hte,ha,hc,hne,h2];exact h5 K' Kp'
    ·refine .inr ⟨a1,st',h3,kp h4,fun K' Kp'=>?_⟩;simp only [zm7,hop,hte,ha,hc,hne,h2];exact h5 K' Kp'
   ·rename_i cs hc;refine plain h fun K' Kp'=>?_;simp only [zm7,hop,hte,ha,hc]
  ·rename_i hn;refine plain h fun K' Kp'=>?_;simp only [zm7,hop]
 ·rename_i hn1 hn2 hn3;refine plain h fun K' Kp'=>?_;unfold zm7;split
  ·rename_i hop;exact (hn1 _ _ _ hop).elim
  ·rename_i hop;exact (hn2 _ _ _ hop).elim
  ·rename_i hop;exact (hn3 _ _ _ _ hop).elim
  ·rfl
def openH_keeps {k e d fe xs a}:Keeps T [k] H (yi6 T H k e d fe xs a):=by
 refine ⟨by unfold yi6;simp,fun i f g=>?_,fun i ty t ys f b=>?_⟩
 ·unfold yi6;rw [X8 (by simpa using f),Z5 (fun q=>g (by simp [q]))]
 ·unfold yi6 at b;rw [X8 (by simpa using f)] at b;by_cases c:i=k
  ·subst c;rw [Q0 f] at b;cases b
  ·rw [Z5 (Ne.symm c)] at b;exact ⟨ys,b⟩
def jw8 {k e d fe xs a}:Keeps T [k] H (H.set k (.drow e d fe xs a)):=
 Keeps.set (U1 ..) fun ty t ys e=>by cases e
def vp9 {t k sz a c e d fe xs p K} (h:yr0 P t H k sz a c e d fe xs p K=some r):
  ∃u H1,K u H1=some r/\Keeps T [k] H H1/\ ∀ {s:Type} (g:AV T.U->List (Ent T.U)->Option s),yr0 P t H k sz a c e d fe xs p g=g u H1:=by
 unfold yr0 at h;split at h<;>try (cases h;done)
 rename_i b;split at h
 ·split at h<;>try (cases h;done)
  rename_i v q;split at h
  ·rename_i l;obtain ⟨i,j⟩:=u9 h;exact ⟨v,H,j,.refl _,fun g=>by simp only [yr0,b,q,l,if_pos i]⟩
  ·rename_i l;split at h<;>try (cases h;done)
   rename_i u m;split at h<;>try (cases h;done)
   rename_i f;obtain ⟨i,j⟩:=u9 h;exact ⟨u,_,j,openH_keeps,fun g=>by simp only [yr0,b,q,l,m,f,if_pos i]⟩
 ·split at h<;>try (cases h;done)
  rename_i u m;split at h<;>try (cases h;done)
  rename_i f;obtain ⟨i,j⟩:=u9 h;exact ⟨u,H,j,.refl _,fun g=>by simp only [yr0,b,m,f,if_pos i]⟩
def qz9 {t k sz a c e d fe xs j v K} (h:ye8 P t H k sz a c e d fe xs j v K=some r):
  ∃H1,K H1=some r/\Keeps T [k] H H1/\ ∀ {l:Type} (f:List (Ent T.U)->Option l),ye8 P t H k sz a c e d fe xs j v f=f H1:=by
 unfold ye8 at h;split at h<;>try (cases h;done)
 rename_i b;split at h
 ·obtain ⟨g,i⟩:=u9 h;exact ⟨_,i,openH_keeps.trans jw8,fun f=>by simp only [ye8,b,if_pos g]⟩
 ·obtain ⟨g,i⟩:=u9 h;exact ⟨_,i,jw8,fun f=>by simp only [ye8,b,if_pos g]⟩
def vq6 {d fe t l c K} (h:jr2 P d fe t H l c K=some r):
  ∃u H1,K u H1=some r/\Keeps T [] H H1/\ ∀ {f:Type} (a:AV T.U->List (Ent T.U)->Option f),jr2 P d fe t H l c a=a u H1:=by
 unfold jr2 at h;split at h<;>try (cases h;done)
 rename_i g;split at h<;>try (cases h;done)
 rename_i b j;split at h<;>try (cases h;done)
 rename_i m;obtain ⟨p,q⟩:=u9 h;refine ⟨_,_,q,⟨by simp,fun i e _=>X8 e,fun i ty t ys e s=>⟨ys,by rwa [X8 e] at s⟩⟩,fun a=>by simp only [jr2,g,b,j,m,if_pos p]⟩
def vv2 {st K z} (b:zo2 P C o st K=some z) (h:z=some r):
  ∃a H1,K ⟨za9 T st.F o.dst a,H1⟩=some r/\Keeps T (vw7 o st.F st.H) st.H H1/\ ∀ {s:Type} (g:St T->Option s),zo2 P C o st g=some (g ⟨za9 T st.F o.dst a,H1⟩):=by
 unfold zo2 at b;split at b<;>try (cases b;done)
 ·rename_i t x y c;split at b<;>try (cases b;done)
  rename_i p;obtain rfl:=X5 b;split at h<;>try (cases h;done)
  rename_i d i;obtain ⟨u,H1,j,l,m⟩:=vq6 h;exact ⟨u,H1,j,l.sub (by simp),fun g=>by simp only [zo2,c,p,d,i,m]⟩
 ·rename_i t x y c;split at b<;>try (cases b;done)
  rename_i d;split at b<;>try (cases b;done)
  rename_i f;obtain rfl:=X5 b;split at h<;>try (cases h;done)
  rename_i i q;obtain ⟨v,A⟩:=jt5 h;refine ⟨_,_,A,.refl _,fun g=>?_⟩;simp only [zo2,c,d,f,i,q];exact congrArg some (if_pos v)
 ·rename_i t x c;split at b<;>try (cases b;done)
  rename_i d;split at b<;>try (cases b;done)
  rename_i f;obtain rfl:=X5 b;obtain ⟨u,H1,j,l,m⟩:=vp9 h;exact ⟨u,H1,j,by simp only [vw7,c,d,f];exact l,fun g=>by simp only [zo2,c,d,f,m]⟩
 ·rename_i t x y c;split at b<;>try (cases b;done)
  rename_i d;split at b<;>try (cases b;done)
  rename_i f;obtain rfl:=X5 b;split at h<;>try (cases h;done)
  rename_i e i;obtain ⟨H1,j,l,m⟩:=qz9 h;exact ⟨.raw undef,H1,by rw [e];exact j,by simp only [vw7,c,d,f];exact l,fun g=>by simp only [zo2,c,d,f,e,i,m,za9]⟩
def yr6 {st:St T} {K:St T->Option R} (a:zo2 P C o st K=none) {e:Type} (f:St T->Option e):zo2 P C o st f=none:=by
 unfold zo2 at a⊢;split at a<;>rename_i d<;>(try simp only [d])
 ·split at a<;>first|(cases a;done)|(rename_i b;simp only [b])
 ·split at a
  ·rename_i b;split at a
   ·cases a
   ·rename_i c;simp only [b];try (split<;>first|rfl|exact (c _ _ _ _ _ ‹_›).elim)
  ·rename_i b;first|(split<;>first|rfl|exact (b _ ‹_›).elim)|rfl
 ·split at a
  ·rename_i b;split at a
   ·cases a
   ·rename_i c;simp only [b];try (split<;>first|rfl|exact (c _ _ _ _ _ ‹_›).elim)
  ·rename_i b;first|(split<;>first|rfl|exact (b _ _ _ _ ‹_›).elim)|rfl
 ·split at a
  ·rename_i b;split at a
   ·cases a
   ·rename_i c;simp only [b];try (split<;>first|rfl|exact (c _ _ _ _ _ ‹_›).elim)
  ·rename_i b;first|(split<;>first|rfl|exact (b _ _ _ _ ‹_›).elim)|rfl
 all_goals (split<;>simp_all)
def vv1 {st:St T} {K:St T->Option R} {z:Option R} (hz:zs2 P C o st K=some z) (h:z=some r):
  ∃a H1,K ⟨za9 T st.F o.dst a,H1⟩=some r/\Keeps T (zr8 C o st.F st.H) st.H H1/\ ∀ {R':Type} (K':St T->Option R'),zs2 P C o st K'=some (K' ⟨za9 T st.F o.dst a,H1⟩):=by
 unfold zs2 at hz;split at hz<;>try (cases hz;done)
 ·rename_i t len ps hop;split at hz<;>try (cases hz;done)
  ·rename_i d l hdr hl;split at hz
   ·rename_i e sz cs hb;obtain rfl:=X5 hz;exact ⟨_,_,h,.app,fun K'=>by simp only [zs2,hop,hdr,hl,hb]⟩
   ·obtain rfl:=X5 hz;cases h
  rename_i d f fe l hdr hl;obtain rfl:=X5 hz;unfold bsD at h;split at h<;>try (cases h;done)
  rename_i e sz cs h1 h2;split at h<;>try (cases h;done)
  rename_i h3;exact ⟨_,_,h,.app,fun K'=>by simp only [zs2,hop,hdr,hl,bsD,h1,h2,h3]⟩
 ·rename_i t x y hop;split at hz<;>try (cases hz;done)
  rename_i kl l kc c hty hx hy;obtain rfl:=X5 hz;obtain ⟨a,e,h1,h2⟩:=gf0 (l:=l) (c:=c) h;exact ⟨a,_,h1,.app,fun K'=>by simp only [zs2,hop,hty,hx,hy];rw [h2]⟩
 ·rename_i c hop;split at hz<;>try (cases hz;done)
  rename_i sx xx t t' hc ha hat;split at hz<;>try (cases hz;done)
  rotate_left
  ·rename_i i sz nn m j s2 q hdr hx hy;split at hz<;>try (cases hz;done)
   rename_i hb;obtain rfl:=X5 hz;unfold ga1 at h;split at h<;>try (cases h;done)
   rename_i h1 h2 h3;split at h<;>try (cases h;done)
   rename_i h4;have hm:i∈zr8 C o st.F st.H/\j∈zr8 C o st.F st.H:=by
    simp only [zr8,hop,hc,ha,hat,hdr,hx,hy];exact ⟨U1 ..,Z4 _ (U1 ..)⟩
   refine ⟨_,_,h,(Keeps.set hm.1 fun ty t ys e=>by cases e).trans (Keeps.set hm.2 fun ty t ys e=>by cases e),fun K'=>?_⟩;simp only [zs2,hop,hc,ha,hat,hdr,hx,hy,hb,ga1,h1,h2,h3,h4]
  rename_i dr i i2 hdr hx hy;split at hz<;>try (cases hz;done)
  rename_i hb;obtain rfl:=X5 hz;have kp:Keeps T (zr8 C o st.F st.H) st.H (zp0 T (zp0 T st.H i) i2)/\i∈zr8 C o st.F st.H/\i2∈zr8 C o st.F st.H:=by
   simp only [zr8,hop,hc,ha,hat,hdr,hx,hy];exact ⟨(closeAt_keeps.sub fun j hj=>X4.2 (.inl hj)).trans (closeAt_keeps.sub fun j hj=>X4.2 (.inr hj)),X4.2 (.inl (U1 ..)),X4.2 (.inr (U1 ..))⟩
  unfold kz9 at h;split at h<;>try (cases h;done)
  rename_i h1 h2 h3;split at h<;>try (cases h;done)
  rename_i hd;split at h<;>try (cases h;done)
  rename_i h4;obtain ⟨h5,hK⟩:=u9 h;refine ⟨_,_,hK,(kp.1.trans ((Keeps.set kp.2.1 fun ty t ys e=>by cases e).trans (Keeps.set kp.2.2 fun ty t ys e=>by cases e))).trans .app,fun K'=>?_⟩;simp only [zs2,hop,hc,ha,hat,hdr,hx,hy,hb,kz9,h1,h2,h3,dif_pos hd,h4,if_pos h5]
def ji6 {st:St T} {K:St T->Option R} (hz:zs2 P C o st K=none) {R':Type} (K':St T->Option R'):zs2 P C o st K'=none:=by
 unfold zs2 at hz⊢;split at hz<;>rename_i hop<;>(try simp only [hop])
 ·split at hz
  ·split at hz<;>cases hz
  ·cases hz
  ·first|rfl|(split<;>first|rfl|simp_all)
 ·split at hz
  ·cases hz
  ·first|rfl|(split<;>first|rfl|simp_all)
 ·split at hz
  ·split at hz
   ·split at hz
    ·cases hz
    ·simp_all
   ·split at hz
    ·cases hz
    ·simp_all
   ·first|rfl|(split<;>first|rfl|simp_all)
  ·first|rfl|(split<;>first|rfl|simp_all)
 all_goals first|rfl|(split<;>simp_all)
def jw9 (hE:zb2 T P C.E) {st:St T} {K:St T->Option R} {Kp:AV T.U->St T->Option R} (h:zg7 P C o st K Kp=some r):
  (∃Fz a H1,K ⟨za9 T Fz o.dst a,H1⟩=some r/\Keeps T (wrF C o st) st.H H1/\ ∀ {R':Type} (K':St T->Option R') (Kp':AV T.U->St T->Option R'),zg7 P C o st K' Kp'=K' ⟨za9 T Fz o.dst a,H1⟩)\/ ∃a st',Kp a st'=some r/\Keeps T (wrF C o st) st.H st'.H/\ ∀ {R':Type} (K':St T->Option R') (Kp':AV T.U->St T->Option R'),zg7 P C o st K' Kp'=Kp' a st':=by
 unfold zg7 at h;split at h
 ·rename_i z hz;obtain ⟨a,H1,h1,h2,h3⟩:=vv2 hz h;exact .inl ⟨st.F,a,H1,h1,h2.sub fun i hi=>X4.2 (.inr (X4.2 (.inr hi))),fun K' Kp'=>by simp only [zg7,h3]⟩
 ·rename_i hz;split at h
  ·rename_i z hz2;obtain ⟨a,H1,h1,h2,h3⟩:=vv1 hz2 h;exact .inl ⟨st.F,a,H1,h1,h2.sub fun i hi=>X4.2 (.inr (X4.2 (.inl hi))),fun K' Kp'=>by simp only [zg7,yr6 hz,h3]⟩
  ·rename_i hz2;rcases vv0 hE h with ⟨Fz,a,H1,h1,h2,h3⟩|⟨a,st',h1,h2,h3⟩
   ·exact .inl ⟨Fz,a,H1,h1,h2,fun K' Kp'=>by simp only [zg7,yr6 hz,ji6 hz2,h3]⟩
   ·exact .inr ⟨a,st',h1,h2,fun K' Kp'=>by simp only [zg7,yr6 hz,ji6 hz2,h3]⟩
def ju5 {z:Option (St T)} {st':St T} (hz:zo2 P C o ⟨F,H⟩ some=some z\/zs2 P C o ⟨F,H⟩ some=some z) (hs:z=some st') (hdst:zi0 n o.dst=true) (hns:zb3 o=true) (hpre:zt6 F o=true) (h:Sim T w0 S0 ⟨F,H⟩ F' w S φ) {a:Act} (ha:Fr n ds F' a):
  o.wp P a w (fun a' w'=> ∃F1,zc1 T w0 S0 st' F1 w'/\Fr n ds F1 a'/\ ∃v,a'=a.put o.dst v) Q:=by
 let o':Oper:= {o with guard:=none}
 have hd:dec #[o'] 0 n F'=some o':=by
  unfold dec;have hw:zv8 #[o'] F' o'=some true:=rfl;have hp:yb3 F' o'=true:=ym8 (o:=o') h.fr hpre;have h1:zi0 n o'.dst=true:=hdst;have h2:zb3 o'=true:=hns;simp only [List.getElem?_toArray,Y4,hw,hp,h1,h2,N3]
 have hs':zo2 P C o' ⟨F,H⟩ some=some z\/zs2 P C o' ⟨F,H⟩ some=some z:=by
  cases o;exact hz
 have fin: ∀st,some st=some st'->zp6 P #[o'] (fun e a' w'=>e=.normal/\ ∃F1,zc1 T w0 S0 st' F1 w'/\Fr n ds F1 a') 1 n ds w0 S0 st:=fun st hst F1 w1 h1=>by
  simp only [X0] at hst;subst hst;exact WR.fin (by rfl) fun a1 ha1=>⟨rfl,F1,h1,ha1⟩
 have hwr:WR P #[o'] (fun e a' w'=>e=.normal/\ ∃F1,zc1 T w0 S0 st' F1 w'/\Fr n ds F1 a') 0 n ds F' w:=by
  rcases hs' with hs'|hs'
  ·exact jb7 hd hs' hs h fin
  ·subst hs;exact jb6 hd hs' h fin
 have hw:=hwr a ha;unfold wpList at hw;have hwant:Region.wanted o' (yielded #[o'] a.tmps)=true:=by
  have:=(zn2 hd).2.2.2.2 ha;exact this
 have hcons:(#[o']:Array Oper).toList.drop 0= [o']:=rfl;rw [hcons] at hw;simp only [hwant,if_true] at hw;rcases hw with hw|⟨_,a1,w1,h1,_⟩
 ·refine jn0 (g:=none) (Oper.wp_and (o:=o') (K:=wpList P #[o'] _ []) ?_ ?_ ?_ hw)
  ·rintro v w1 h1
   unfold wpList at h1;obtain ⟨_,F1,h2,h3⟩:=h1;exact ⟨F1,h2,h3,v,rfl⟩
  ·rintro d w1 h1
   unfold wpList at h1;obtain ⟨_,F1,h2,h3⟩:=h1;have e1:=h3.defers;have e2:({a with defers:=d::a.defers}.put o'.dst undef).defers=d::a.defers:=by cases o'.dst<;>rfl
   rw [e2,ha.defers] at e1;exact absurd (congrArg List.length e1) (by simp)
  ·rintro e a1 w1 hne ⟨rfl,_⟩
   exact hne rfl
 ·cases h1
def ju6 (hE:zb2 T P C.E) {st':St T} (hs:zg7 P C o ⟨F,H⟩ some (fun _ _=>none)=some st') (hdst:zi0 n o.dst=true) (hns:zb3 o=true) (hpre:zt6 F o=true) (h:Sim T w0 S0 ⟨F,H⟩ F' w S φ) {a:Act} (ha:Fr n ds F' a):
  o.wp P a w (fun a' w'=> ∃F1,zc1 T w0 S0 st' F1 w'/\Fr n ds F1 a'/\ ∃v,a'=a.put o.dst v) Q:=by
 have pre2: ∀ {F2:AF T} {H2:List (Ent T.U)} {S2:List Nat},Sim T w0 S0 ⟨F2,H2⟩ F' w S2 φ->(∀t,(F.get T t).isSome=true->(F2.get T t).isSome=true)->zt6 F2 o=true:=by
  intro F2 H2 S2 _ hF;unfold zt6 at hpre⊢;rw [Y8] at hpre⊢;intro x hx;have:=hpre x hx;cases x with
  |tmp t=>exact hF t this
  |_=>exact this
 unfold zg7 at hs;split at hs
 ·rename_i z hz;exact ju5 (.inl hz) hs hdst hns hpre h ha
 split at hs
 ·rename_i z hz;exact ju5 (.inr hz) hs hdst hns hpre h ha
 unfold zm7 at hs;split at hs
 ·split at hs<;>try (cases hs;done)
  split at hs
  ·split at hs<;>try (cases hs;done)
   obtain ⟨⟨F2,H2⟩,S2,h1,h2,h3⟩:=zx6 hs h;exact zu3 hE h1 hdst hns (pre2 h2 h3) h2 ha
  ·exact zu3 hE hs hdst hns hpre h ha
 ·split at hs
  ·obtain ⟨⟨F2,H2⟩,S2,h1,h2,h3⟩:=zz5 hs h;exact zu3 hE h1 hdst hns (pre2 h2 h3) h2 ha
  ·exact zu3 hE hs hdst hns hpre h ha
 ·split at hs
  ·split at hs
   ·split at hs<;>try (cases hs;done)
    obtain ⟨⟨F2,H2⟩,S2,h1,h2,h3⟩:=zx6 hs h;exact zu3 hE h1 hdst hns (pre2 h2 h3) h2 ha
   ·exact zu3 hE hs hdst hns hpre h ha
  ·exact zu3 hE hs hdst hns hpre h ha
 ·exact zu3 hE hs hdst hns hpre h ha
end
end Go.X
namespace Go.X
open Go.RowKit Go.V
section
variable {T:Tab} (P:Program)
def zv6 (c:Nat) (v:AV T.U) (cs:List (AV T.U)):List (AV T.U):=match cs.all (za6 T)&&za6 T v with|true=>cs.set c v|false=>cs
def yp1 (c:Nat) (v:AV T.U):Ent T.U->Ent T.U
 | .blk t cs=>.blk t (zv6 c v cs)
 | .drow e d fe xs (some (a,cs))=>.drow e d fe xs (some (a,cs.set c v))
 |x=>x
def spE (c:Nat):Ent T.U->Ent T.U->Prop
 | .blk t cs,.blk f b=>t=f/\cs.length=b.length/\cs[c]?=b[c]?/\cs.all (za6 T)=true/\b.all (za6 T)=true
 | .drow e d fe xs (some (a,cs)),y=> ∃b,y=.drow e d fe xs (some (a,b))/\cs.length=b.length/\cs[c]?=b[c]?
 |_,_=>False
def simE (c:Nat) (x y:Ent T.U):Prop:=x=y\/spE c x y
def yn2 (t:TypeId):Bool:=match P.info? t,P.underlying t with|some i,some d=> !zz9 d&&Nat.beq i.size 1|_,_=>false
def gn4 (o:Oper) (F:AF T) (H:List (Ent T.U)):Option (Nat×Nat×Option (AV T.U)):=
 match o.op with
 | .load t x=>match aev T F x with
  |some (.ptr i c)=>match H[i]? with
   |some (.blk _ cs)=>(match yn2 P t&&(cs.all (za6 T)&&Nat.blt c cs.length) with|true=>some (i,c,none)|false=>none)
   |_=>none
  |some (.eptr i _ _ c)=>match H[i]? with
   |some (.drow _ _ _ _ (some (_,cs)))=>(match yn2 P t&&Nat.blt c cs.length with|true=>some (i,c,none)|false=>none)
   |_=>none
  |_=>none
 | .store t x y=>match o.dst,aev T F x,aev T F y with
  |none,some (.ptr i c),some v=>match H[i]? with
   |some (.blk _ cs)=>(match yn2 P t&&(zu7 T v&&(cs.all (za6 T)&&Nat.blt c cs.length)) with|true=>some (i,c,some v)|false=>none)
   |_=>none
  |none,some (.eptr i _ _ c),some v=>match H[i]? with
   |some (.drow _ _ _ _ (some (_,cs)))=>(match yn2 P t&&(zu7 T v&&Nat.blt c cs.length) with|true=>some (i,c,some v)|false=>none)
   |_=>none
  |_,_,_=>none
 |_=>none
def qm7 (k c:Nat) (a:Option (AV T.U)) (f:Ent T.U) (H:List (Ent T.U)):List (Ent T.U):=match a with|some v=>H.set k (yp1 c v f)|none=>H
end
section
variable {T:Tab} {P:Program} {C:Ctx T} {F F':AF T} {H H':List (Ent T.U)} {o:Oper}
def simE.symm {c:Nat} {x y:Ent T.U} (h:simE c x y):simE c y x:=by
 rcases h with rfl|h
 ·exact .inl rfl
 ·cases x with
  |blk t cs=>
   cases y with
   |blk l b=>obtain ⟨rfl,f,g,i,j⟩:=h;exact .inr ⟨rfl,f.symm,g.symm,j,i⟩
   |_=>exact h.elim
  |drow e d fe xs k=>
   cases k with
   |none=>exact h.elim
   |some p=>obtain ⟨a,cs⟩:=p;obtain ⟨b,rfl,f,g⟩:=h;exact .inr ⟨cs,rfl,f.symm,g.symm⟩
  |_=>exact h.elim
def simE.trans {c:Nat} {x y z:Ent T.U} (h:simE c x y) (h':simE c y z):simE c x z:=by
 rcases h with rfl|h
 ·exact h'
 ·rcases h' with rfl|h'
  ·exact .inr h
  ·cases x with
   |blk t cs=>
    cases y with
    |blk t' cs'=>
     cases z with
     |blk t2 cs2=>obtain ⟨rfl,h2,h3,h4,h5⟩:=h;obtain ⟨rfl,g2,g3,g4,g5⟩:=h';exact .inr ⟨rfl,h2.trans g2,h3.trans g3,h4,g5⟩
     |_=>exact h'.elim
    |_=>exact h.elim
   |drow e d fe xs op=>
    cases op with
    |none=>exact h.elim
    |some p=>
     obtain ⟨a,cs⟩:=p;obtain ⟨cs',rfl,h2,h3⟩:=h;obtain ⟨cs2,rfl,g2,g3⟩:=h';exact .inr ⟨cs2,rfl,h2.trans g2,h3.trans g3⟩
   |_=>exact h.elim
def je9 {cs:List (AV T.U)} {c v} (h:cs.all (za6 T)=true) (d:za6 T v=true):(cs.set c v).all (za6 T)=true:=by
 rw [Y8] at h⊢;intro a b;rcases N2 b with b|rfl
 ·exact h a b
 ·exact d
def zl8 {c v cs} (h:cs.all (za6 T)=true) (a:za6 T v=true):zv6 c v cs=cs.set c v:=by unfold zv6;rw [h,a];rfl
def ze2 (c v cs):(zv6 c v cs=cs)\/(zv6 c v cs=cs.set c v/\cs.all (za6 T)=true/\za6 T v=true):=by
 cases h:cs.all (za6 T) with
 |false=>left;unfold zv6;rw [h];rfl
 |true=>
  cases hv:za6 T v with
  |false=>left;unfold zv6;rw [h,hv];rfl
  |true=>exact .inr ⟨zl8 h hv,rfl,rfl⟩
def ja0 (c:Nat) (v:AV T.U) (cs:List (AV T.U)):(zv6 c v cs).length=cs.length:=by
 rcases ze2 c v cs with h|⟨h,_⟩<;>rw [h];simp
def yz9 {c v cs} (h:cs.all (za6 T)=true):(zv6 c v cs).all (za6 T)=true:=by
 rcases ze2 c v cs with a|⟨a,_,b⟩<;>rw [a]
 ·exact h
 ·exact je9 h b
def km6 {c c'} (b:c'≠c) (v:AV T.U) (cs:List (AV T.U)):(zv6 c' v cs)[c]?=cs[c]?:=by
 rcases ze2 c' v cs with a|⟨a,_⟩<;>rw [a];exact Z5 b
def simE.left {c c'} (i:c'≠c) (v:AV T.U) {x y} (h:simE c x y):simE c (yp1 c' v x) y:=by
 have j:simE c (yp1 c' v x) x:=by
  cases x with
  |blk t cs=>
   show simE c (.blk t (zv6 c' v cs)) (.blk t cs);rcases ze2 c' v cs with k|⟨k,b,f⟩
   ·rw [k];exact .inl rfl
   ·rw [k];exact .inr ⟨rfl,by simp,Z5 i,je9 b f,b⟩
  |drow e d fe xs l=>
   cases l with
   |none=>exact .inl rfl
   |some p=>obtain ⟨a,cs⟩:=p;exact .inr ⟨cs,rfl,by simp,Z5 i⟩
  |_=>exact .inl rfl
 rcases h with rfl|h
 ·exact j
 ·cases x with
  |blk t cs=>
   cases y with
   |blk q g=>
    obtain ⟨rfl,b,f,m,n⟩:=h;exact .inr ⟨rfl,(ja0 ..).trans b,(km6 i ..).trans f,yz9 m,n⟩
   |_=>exact h.elim
  |drow e d fe xs l=>
   cases l with
   |none=>exact h.elim
   |some p=>
    obtain ⟨a,cs⟩:=p;obtain ⟨g,rfl,b,f⟩:=h;exact .inr ⟨g,rfl,by simpa using b,(Z5 i).trans f⟩
  |_=>exact h.elim
def simE.both {c} (c':Nat) (v:AV T.U) {x y} (h:simE c x y):simE c (yp1 c' v x) (yp1 c' v y):=by
 rcases h with rfl|h
 ·exact .inl rfl
 ·cases x with
  |blk t cs=>
   cases y with
   |blk n b=>
    obtain ⟨rfl,f,g,k,l⟩:=h;refine .inr ⟨rfl,by rw [ja0,ja0];exact f,?_,yz9 k,yz9 l⟩;cases hv:za6 T v with
    |false=>
     rcases ze2 c' v cs with i|⟨_,_,i⟩
     ·rcases ze2 c' v b with j|⟨_,_,j⟩
      ·rw [i,j];exact g
      ·rw [hv] at j;cases j
     ·rw [hv] at i;cases i
    |true=>rw [zl8 k hv,zl8 l hv,List.getElem?_set,List.getElem?_set,f,g]
   |_=>exact h.elim
  |drow e d fe xs m=>
   cases m with
   |none=>exact h.elim
   |some p=>
    obtain ⟨a,cs⟩:=p;obtain ⟨b,rfl,f,g⟩:=h;refine .inr ⟨_,rfl,by simpa using f,?_⟩;rw [List.getElem?_set,List.getElem?_set,f,g]
  |_=>exact h.elim
def qz0 {c c'} (f:c≠c') (v e:AV T.U) (cs:List (AV T.U)):zv6 c v (zv6 c' e cs)=zv6 c' e (zv6 c v cs):=by
 rcases ze2 c v cs with a|⟨a,g,i⟩<;>rcases ze2 c' e cs with b|⟨b,k,j⟩
 ·rw [a,b,a]
 ·rw [a,b];rcases ze2 c v (cs.set c' e) with d|⟨d,l,h⟩
  ·exact d
  ·rw [zl8 k h] at a;rw [d,List.set_comm _ _ (Ne.symm f),a]
 ·rw [b,a];rcases ze2 c' e (cs.set c v) with d|⟨d,l,h⟩
  ·exact d.symm
  ·rw [zl8 g h] at b;rw [d,List.set_comm _ _ f,b]
 ·rw [b,a,zl8 (je9 g j) i,zl8 (je9 g i) j,List.set_comm _ _ f]
def vu5 {c c'} (f:c≠c') (v b:AV T.U) (x:Ent T.U):yp1 c v (yp1 c' b x)=yp1 c' b (yp1 c v x):=by
 cases x with
 |blk t cs=>exact congrArg (Ent.blk t) (qz0 f v b cs)
 |drow e d fe xs g=>
  cases g with
  |none=>rfl
  |some p=>obtain ⟨a,cs⟩:=p;simp only [yp1];rw [List.set_comm _ _ f]
 |_=>rfl
def vl7 {cs:List (AV T.U)} {c} {v:AV T.U} {i} (h:i∈u0 (cs.set c v)):i∈u0 cs\/i∈v.ids:=by
 obtain ⟨a,b,d⟩:=zm0 h;rcases N2 b with b|rfl
 ·exact .inl (zd7 b i d)
 ·exact .inr d
def km7 {c} {v:AV T.U} {x:Ent T.U} {i} (h:i∈(yp1 c v x).cellIds):i∈x.cellIds\/i∈v.ids:=by
 cases x with
 |blk t cs=>
  have h:i∈u0 (zv6 c v cs):=h;rcases ze2 c v cs with b|⟨b,_⟩
  ·rw [b] at h;exact .inl h
  ·rw [b] at h;exact vl7 h
 |drow e d fe xs f=>cases f with
  |none=>exact .inl h
  |some p=>obtain ⟨a,cs⟩:=p;exact vl7 (T:=T) h
 |_=>exact .inl h
def zy7 (hF: ∀t a,F.get T t=some a->F'.get T t=some a) {x:Operand} {a:AV T.U} (h:aev T F x=some a):aev T F' x=some a:=by
 cases x with
 |tmp t=>exact hF t a h
 |const v=>exact h
 |func f=>exact h
 |global g=>exact h
def yg5 {t} (h:yn2 P t=true): ∃i d,P.info? t=some i/\P.underlying t=some d/\zz9 d=false/\i.size=1:=by
 unfold yn2 at h;split at h
 ·rename_i i d a b;simp only [X3,V4] at h;exact ⟨i,d,a,b,h.1,X1 h.2⟩
 ·cases h
def ju1: ∀ {cs c},cs.all (za6 T)=true->c<cs.length->yx7 T cs c=some (cs.drop c)
 | [],c,_,h=>by simp at h
 |a::r,0,_,_=>rfl
 |a::r,c+1,h,b=>by
  rw [J6,X3] at h;have d:Nat.ble (wd T a) (c+1)=true:=by rw [qg3 T h.1];exact W3 (by omega)
  unfold yx7;rw [show Nat.beq (c+1) 0=false from rfl];simp only [d];rw [qg3 T h.1,Nat.add_sub_cancel,ju1 h.2 (by simpa using b),List.drop_succ_cons]
def qw3 {t} (b:yn2 P t=true) {cs c} (h:cs.all (za6 T)=true) (a:c<cs.length):jc2 T P t cs c=cs[c]?:=by
 obtain ⟨i,d,e,f,g,_⟩:=yg5 b;unfold jc2 ko3;rw [e,f];simp only [g];rw [ju1 h a,V8 a,Y0 a];simp only;rw [Y8] at h;rw [h _ (N1 a)]
def jj1 {v} (b:za6 T v=true): ∀ {cs c},cs.all (za6 T)=true->c<cs.length->yw9 T (gg1 T [v]) cs c=some (cs.set c v)
 | [],c,_,h=>by simp at h
 |a::r,0,h,_=>by
  rw [J6,X3] at h;show gg1 T [v] (a::r)=_;unfold gg1;simp only [putOnes,h.1,b,N3,List.set_cons_zero]
 |a::r,c+1,h,d=>by
  rw [J6,X3] at h;have e:Nat.ble (wd T a) (c+1)=true:=by rw [qg3 T h.1];exact W3 (by omega)
  unfold yw9;rw [show Nat.beq (c+1) 0=false from rfl];simp only [e];rw [qg3 T h.1,Nat.add_sub_cancel,jj1 b h.2 (by simpa using d)];rfl
def yf6 {v} (h:zu7 T v=true):ze9 T v= [v]/\ya9 T v=true/\ja5 v=none/\za6 T v=true:=by
 cases v<;>first|(cases h;done)|exact ⟨rfl,h,rfl,rfl⟩|exact ⟨rfl,rfl,rfl,rfl⟩
def vo6 {t} (a:yn2 P t=true) {v} (h:zu7 T v=true) (c n) (b:c<n):jn8 T P t c n v=true:=by
 obtain ⟨i,d,e,k,l,f⟩:=yg5 a;obtain ⟨g,j,m,p⟩:=yf6 h;unfold jn8;rw [e];simp only [g,j,f,h,U5,N5,J6,List.all_nil,N3,Bool.and_true,N6];rw [X3];exact ⟨rfl,W3 b⟩
def kd5 {t} (a:yn2 P t=true):zg3 P t=none:=by
 obtain ⟨i,d,e,b,c,_⟩:=yg5 a;unfold zg3;rw [b];cases d<;>first|rfl|cases c
def ql3 {t:TypeId} {x:Operand} (hop:o.op=.load t x) {i c:Nat} {e:TypeId} {cs:List (AV T.U)} (hx:aev T F x=some (.ptr i c)) (hi:H[i]?=some (.blk e cs)) (hs:yn2 P t=true) (hn:cs.all (za6 T)=true) (hc:c<cs.length) {R:Type} (K:St T->Option R) (Kp:AV T.U->St T->Option R):
  zg7 P C o ⟨F,H⟩ K Kp=match cs[c]? with|some (.eptr _ _ _ _)=>none|some u=>K ⟨za9 T F o.dst u,H⟩|none=>none:=by
 have h1:zo2 P C o ⟨F,H⟩ K=none:=by simp only [zo2,hop,hx]
 have h1':zs2 P C o ⟨F,H⟩ K=none:=by simp only [zs2,hop]
 have h2:kw6 P o.op=false:=by rw [hop];simp only [kw6,kd5 hs];rfl
 unfold zg7;rw [h1,h1'];simp only [zm7,hop,stepA];unfold zy6;rw [h2];simp only [zs1,hop,jh2,hx,loadA,hi,qw3 hs hn hc];rw [Y0 hc];generalize cs[c]=u;cases u<;>rfl
def jx0 {t:TypeId} {x y:Operand} (hop:o.op=.store t x y) (hdst:o.dst=none) {i c:Nat} {e:TypeId} {cs:List (AV T.U)} {v:AV T.U} (hx:aev T F x=some (.ptr i c)) (hy:aev T F y=some v) (hi:H[i]?=some (.blk e cs)) (hs:yn2 P t=true) (hv:zu7 T v=true) (hn:cs.all (za6 T)=true) (hc:c<cs.length) {R:Type} (K:St T->Option R) (Kp:AV T.U->St T->Option R):
  zg7 P C o ⟨F,H⟩ K Kp=K ⟨F,H.set i (.blk e (cs.set c v))⟩:=by
 obtain ⟨e1,e2,e3,e4⟩:=yf6 hv;have h1:zo2 P C o ⟨F,H⟩ K=none:=by simp only [zo2,hop,hx]
 have h1':zs2 P C o ⟨F,H⟩ K=none:=by simp only [zs2,hop]
 have h3:storeB T P t cs c v=some (cs.set c v):=by
  unfold storeB;simp only [e3,e1,U5,N5];rw [vo6 hs hv 0 _ (by omega)];exact jj1 e4 hn hc
 have h4:stepA P C o ⟨F,H⟩ K Kp=K ⟨F,H.set i (.blk e (cs.set c v))⟩:=by simp only [stepA,hop,hdst,hx,hy,je1,hi,h3]
 have h5:jz9 T H (.ptr i c) v=none:=rfl;unfold zg7;rw [h1,h1'];simp only [zm7,hop,hx,hy,h5];cases cellsOf T (ze9 T v)<;>exact h4
def ju0 {t x} (f:o.op=.load t x) {i sz a c e d fe xs b cs} (j:aev T F x=some (.eptr i sz a c)) (k:H[i]?=some (.drow e d fe xs (some (b,cs)))) (l:yn2 P t=true) {R} (K:St T->Option R) (m:AV T.U->St T->Option R):
  zg7 P C o ⟨F,H⟩ K m=match Nat.beq sz (T.size d),cs[c]? with|true,some u=>(match zh9 u with|true=>if a=b then K ⟨za9 T F o.dst u,H⟩ else none|false=>none)|_,_=>none:=by
 obtain ⟨r,s,g,h,n,_⟩:=yg5 l;have p:zt5 T P t cs c=cs[c]?:=by unfold zt5 jn4;rw [g,h];simp only [n]
 have q:zo2 P C o ⟨F,H⟩ K=some (yr0 P t H i sz a c e d fe xs (some (b,cs)) fun v H=>K ⟨za9 T F o.dst v,H⟩):=by simp only [zo2,f,j,k]
 unfold zg7;rw [q];simp only [yr0,p];cases Nat.beq sz (T.size d) with
 |false=>rfl
 |true=>cases cs[c]?<;>rfl
def ji7 {t x y} (g:o.op=.store t x y) (f:o.dst=none) {i sz a c e d fe xs b cs v} (h:aev T F x=some (.eptr i sz a c)) (j:aev T F y=some v) (k:H[i]?=some (.drow e d fe xs (some (b,cs)))) (l:zu7 T v=true) {R} (K:St T->Option R) (m:AV T.U->St T->Option R):
  zg7 P C o ⟨F,H⟩ K m=match Nat.beq sz (T.size d)&&jn8 T P t c (T.size d) v with|true=>if a=b then K ⟨F,H.set i (.drow e d fe xs (some (b,cs.set c v)))⟩ else none|false=>none:=by
 obtain ⟨n,q,r,s⟩:=yf6 l;have p:zo2 P C o ⟨F,H⟩ K=some (ye8 P t H i sz a c e d fe xs (some (b,cs)) v fun H=>K ⟨F,H⟩):=by simp only [zo2,g,h,k,f,j]
 unfold zg7;rw [p];simp only [ye8,n,yi7];cases Nat.beq sz (T.size d)&&jn8 T P t c (T.size d) v<;>rfl
def qt5 {d b a u} (h:za9 T F d u=za9 T b d a) (G):za9 T G d u=za9 T G d a:=by
 cases d with
 |none=>rfl
 |some d=>
  simp only [za9,List.cons.injEq,X7] at h;rw [show u=a from h.1.2]
def vl8 {c f e cs} (g:cs.all (za6 T)=true) (h:simE c f (.blk e cs)): ∃b,f=.blk e b/\b.length=cs.length/\b[c]?=cs[c]?/\b.all (za6 T)=true:=by
 rcases h with rfl|h
 ·exact ⟨cs,rfl,rfl,rfl,g⟩
 ·cases f with
  |blk m b=>obtain ⟨rfl,i,j,k,_⟩:=h;exact ⟨b,rfl,i,j,k⟩
  |drow e d fe xs l=>cases l with
   |none=>exact h.elim
   |some p=>obtain ⟨a,cs⟩:=p;obtain ⟨_,h,_⟩:=h;cases h
  |_=>exact h.elim
def qs8 {c f e d fe xs b} {cs:List (AV T.U)} (h:simE c f (.drow e d fe xs (some (b,cs)))): ∃g,f=.drow e d fe xs (some (b,g))/\g.length=cs.length/\g[c]?=cs[c]?:=by
 rcases h with rfl|h
 ·exact ⟨cs,rfl,rfl,rfl⟩
 ·cases f with
  |drow e d fe xs j=>cases j with
   |none=>exact h.elim
   |some p=>
    obtain ⟨a,i⟩:=p;obtain ⟨g,h,k,l⟩:=h;cases h;exact ⟨i,rfl,k,l⟩
  |_=>exact h.elim
def kf8 {k c N} (g:gn4 P o F H=some (k,c,N)) {W a H1} (h:zg7 P C o ⟨F,H⟩ some (fun _ _=>none)=some ⟨za9 T W o.dst a,H1⟩):
  ∃x,H[k]?=some x/\x.live=true/\H1=qm7 k c N x H/\ ∀(F':AF T) (H':List (Ent T.U)) (f:Ent T.U),(∀t a,F.get T t=some a->F'.get T t=some a)->H'[k]?=some f->simE c f x->zg7 P C o ⟨F',H'⟩ some (fun _ _=>none)=some ⟨za9 T F' o.dst a,qm7 k c N f H'⟩:=by
 unfold gn4 at g;split at g<;>try (cases g;done)
 ·rename_i t x m;split at g<;>try (cases g;done)
  ·rename_i i E n;split at g<;>try (cases g;done)
   rename_i e cs p;split at g<;>try (cases g;done)
   rename_i q;simp only [X3,U4] at q;obtain ⟨r,B,G⟩:=q;simp only [X0,X7] at g;obtain ⟨rfl,rfl,rfl⟩:=g;rw [ql3 m n p r B G] at h;split at h<;>try (cases h;done)
   rename_i u w O;simp only [X0,St.mk.injEq] at h;obtain ⟨h,rfl⟩:=h;refine ⟨_,p,rfl,rfl,fun F' H' f hF z j=>?_⟩;obtain ⟨s,rfl,Q,I,M⟩:=vl8 B j;rw [ql3 m (zy7 hF n) z r M (by omega),I,O];have:=qt5 h F';cases u<;>first|exact absurd rfl (w _ _ _ _)|(simp only [this];rfl)
  ·rename_i i R X E n;split at g<;>try (cases g;done)
   rename_i e d fe xs b cs p;split at g<;>try (cases g;done)
   rename_i q;simp only [X3,U4] at q;obtain ⟨r,G⟩:=q;simp only [X0,X7] at g;obtain ⟨rfl,rfl,rfl⟩:=g;rw [ju0 m n p r] at h;split at h<;>try (cases h;done)
   rename_i u S O;split at h<;>try (cases h;done)
   rename_i w;obtain ⟨A,J⟩:=u9 h;clear h;simp only [X0,St.mk.injEq] at J;obtain ⟨h,rfl⟩:=J;refine ⟨_,p,rfl,rfl,fun F' H' f hF z j=>?_⟩;obtain ⟨s,rfl,Q,I⟩:=qs8 j;rw [ju0 m (zy7 hF n) z r,I,O,S];simp only [w,if_pos A,qt5 h F'];rfl
 ·rename_i t x y m;split at g<;>try (cases g;done)
  ·rename_i i E v l n K;split at g<;>try (cases g;done)
   rename_i e cs p;split at g<;>try (cases g;done)
   rename_i q;simp only [X3,U4] at q;obtain ⟨r,D,B,G⟩:=q;simp only [X0,X7] at g;obtain ⟨rfl,rfl,rfl⟩:=g;have V:=(yf6 D).2.2.2;rw [jx0 m l n K p r D B G] at h;simp only [X0,St.mk.injEq] at h;obtain ⟨h,rfl⟩:=h;refine ⟨_,p,rfl,?_,fun F' H' f hF z j=>?_⟩
   ·show _=H.set i (.blk e (zv6 E v cs));rw [zl8 B V]
   ·obtain ⟨s,rfl,Q,I,M⟩:=vl8 B j;rw [jx0 m l (zy7 hF n) (zy7 hF K) z r D M (by omega),l];show _=some (⟨F',H'.set i (.blk e (zv6 E v s))⟩:St T);rw [zl8 M V]
  ·rename_i i R X E v l n K;split at g<;>try (cases g;done)
   rename_i e d fe xs b cs p;split at g<;>try (cases g;done)
   rename_i q;simp only [X3,U4] at q;obtain ⟨r,D,G⟩:=q;simp only [X0,X7] at g;obtain ⟨rfl,rfl,rfl⟩:=g;rw [ji7 m l n K p D] at h;split at h<;>try (cases h;done)
   rename_i L;obtain ⟨A,J⟩:=u9 h;clear h;simp only [X0,St.mk.injEq] at J;obtain ⟨h,rfl⟩:=J;refine ⟨_,p,rfl,rfl,fun F' H' f hF z j=>?_⟩
   ·obtain ⟨s,rfl,Q,I⟩:=qs8 j;rw [ji7 m l (zy7 hF n) (zy7 hF K) z D,L,l];simp only [if_pos A];rfl
end
end Go.X
