import Derived.Test.YthhhfnfgmijggaaGreatA5
set_option linter.defProp false
namespace Go.X
open Go.RowKit Go.V
def z9 {R:Type} (c:Bool) (x y:Option R):Option R:=if c=true then x else y
def zh5 {R:Type} {c:Bool} {x y:Option R} {r:R} (h:z9 c x y=some r):(c=true/\x=some r)\/(c=false/\y=some r):=by
 unfold z9 at h;cases c with
 |true=>exact .inl ⟨rfl,by simpa using h⟩
 |false=>exact .inr ⟨rfl,by simpa using h⟩
section
variable {T:Tab} (P:Program) (C:Ctx T) {R:Type}
def zt5 (F:AF T) (o:Oper):Bool:=o.op.operands.toList.all fun x=>(aev T F x).isSome
def km0 (ops:Array Oper) (j:Nat):Option Tmp:=(ops[j]?).bind (·.dst)
def wp4 (c:Call) (st:St T) (K:AV T.U->Option R):Option R:=
 match zx4 T st.F c.args.toList with
 |none=>none
 |some as=>
  match c.callee with
  | .value f=>match aev T st.F f with
   |some (.fn (.func g) first a)=>match zm3 P g,qn3 C.E g with
    |true,some cs=>match (first++as++a).all zh4 with|true=>cs.q (first++as++a) st.H K|false=>none
    |_,_=>none
   |_=>none
  |_=>none
def kr4 (o:Oper) (st:St T) (K:AV T.U->Option R):Option R:=
 match o.op with
 | .call c=>match stepA.reads c with
  |true=>ya2 P o st K
  |false=>wp4 P C c st K
 |_=>ya2 P o st K
def vc1 (stp:Oper->St T->(St T->Option R)->Option R) (ops:Array Oper) (n:Nat) (K:St T->Option R):List Oper->St T->Option R
 | [],st=>K st
 |o::r,st=>
  let a:=fun (st:St T)=>match zi4 n o.dst&&(zc6 o&&zt5 st.F o) with
   |true=>stp o st (fun st=>vc1 stp ops n K r st)
   |false=>none
  let e:=fun (st:St T)=>match zi4 n o.dst with
   |true=>vc1 stp ops n K r ⟨zb2 T st.F o.dst (.raw undef),st.H⟩
   |false=>none
  match o.guard with
  |none=>a st
  |some (j,b)=>match km0 ops j with
   |none=>none
   |some d=>match st.F.get T d with
    |some (.cell ⟨.bool,c⟩)=>z9 c (let st:=⟨(d,cB T true)::st.F,st.H⟩;match b with|true=>a st|false=>e st)
     (let st:=⟨(d,cB T false)::st.F,st.H⟩;match b with|true=>e st|false=>a st)
    |some (.raw (.tuple _))=>e st
    |_=>none
open Classical in
noncomputable def both (a b:Option R):Option R:=if a=b then a else none
noncomputable def wi4 (e:Bool) (a b:Option R):Option R:=match e with|true=>both a b|false=>b
def gi7:Operand->Bool| .const (.slice none _ _)=>true|_=>false
def wr9:BinOp->Option Bool| .eql=>some false| .neq=>some true|_=>none
def gh5 (H:List (Ent T.U)):AV T.U->Option Bool
 | .cell ⟨.list e,xs⟩=>some (List.isEmpty (α:=den T.U e) xs)
 | .own i=>match H[i]? with|some (.row _ _ xs)=>some xs.isEmpty|_=>none
 |_=>none
def nilL (o:Oper) (st:St T):Option (Bool×Bool):=
 match o.op with
 | .binOp b t x y _=>match P.underlying t with
  |some (.slice _)=>match wr9 b,gi7 y,aev T st.F x with
   |some neg,true,some a=>match gh5 st.H a with|some e=>some (neg,e)|none=>none
   |_,_,_=>none
  |_=>none
 |_=>none
noncomputable def kr3 (o:Oper) (st:St T) (K:St T->Option R) (a:AV T.U->St T->Option R):Option R:=
 match nilL P o st with
 |some (neg,e)=>wi4 e (K ⟨zb2 T st.F o.dst (cB T (zc3 neg true)),st.H⟩) (K ⟨zb2 T st.F o.dst (cB T (zc3 neg false)),st.H⟩)
 |none=>zh7 P C o st K a
noncomputable def regA (ops:Array Oper) (n:Nat) (a:AV T.U->St T->Option R) (K:St T->Option R) (st:St T):Option R:=vc1 (fun o st K=>kr3 P C o st K a) ops n K ops.toList st
def regQ (ops:Array Oper) (n:Nat) (K:St T->Option R) (st:St T):Option R:=vc1 (fun o st K=>kr4 P C o st fun a=>K ⟨zb2 T st.F o.dst a,st.H⟩) ops n K ops.toList st
end
section
variable {T:Tab} {P:Program} {C:Ctx T} {w w':World} {S S':List Nat} {φ φ':Nat->RA} {w0:World} {S0:Ow} {F:AF T} {H:List (Ent T.U)} {F':PF}
variable {ops:Array Oper} {Q:Exit->Act->World->Prop} {k n:Nat} {ds:List Deferred} {o:Oper}
def Sim.again (h:Sim T w0 S0 ⟨F,H⟩ F' w S φ) {d a} (b:F.get T d=some a):Sim T w0 S0 ⟨(d,a)::F,H⟩ F' w S φ:=by
 obtain ⟨v,c,e⟩:=h.fr d a b;exact h.seen c e (h.ids d a b)
def yq4 (hF:FR T w S φ F F') {o} (h:zt5 F o=true):ye8 F' o=true:=by
 unfold zt5 at h;unfold ye8;rw [Y8] at h⊢;intro x b;obtain ⟨a,c⟩:=R5.1 (h x b);obtain ⟨v,d,_⟩:=v4 hF c;rw [d];rfl
def kl4 (Q:Exit->Act->World->Prop) (n:Nat) (ds:List Deferred) (w0:World) (S0:Ow) (st:St T):Prop:= ∀b c,zc4 T w0 S0 st b c-> ∀a,Fr n ds b a->Q .normal a c
def yt5 {R r stp K} (G:Nat->PF->World->Prop)
  (g: ∀(k:Nat) (o:Oper) (F:AF T) (H:List (Ent T.U)) (F':PF) (w:World) (S:List Nat) (φ:Nat->RA) (K:St T->Option R),dec ops k n F'=some o->stp o ⟨F,H⟩ K=some r->Sim T w0 S0 ⟨F,H⟩ F' w S φ->(∀st,K st=some r-> ∀J L S1 x,Sim T w0 S0 st J L S1 x->G (k+1) J L)->G k F' w)
  (m: ∀(k:Nat) (dst:Option Tmp) (F':PF) (w:World),ye7 ops k n F'=some dst->G (k+1) (upd F' dst undef) w->G k F' w)
  (s: ∀(k:Nat) (st:St T) (F':PF) (w:World) (S:List Nat) (φ:Nat->RA),ops.size<=k->K st=some r->Sim T w0 S0 st F' w S φ->G k F' w):
  ∀(rest:List Oper) (k:Nat),ops.toList.drop k=rest-> ∀(F:AF T) (H:List (Ent T.U)) (F':PF) (w:World) (S:List Nat) (φ:Nat->RA),vc1 stp ops n K rest ⟨F,H⟩=some r->Sim T w0 S0 ⟨F,H⟩ F' w S φ->G k F' w
 | [],k,A,F,H,F',w,S,φ,a,h=>by
  have:ops.size<=k:=by simpa using List.drop_eq_nil_iff.1 A
  exact s k _ F' w S φ this a h
 |o::rest,k,A,F,H,F',w,S,φ,a,h=>by
  have y:k<ops.size:=by
   apply Classical.byContradiction;intro Y;rw [T6 (by simpa using Y)] at A;cases A
  have X:ops[k]?=some o:=by
   have:=M8 (l:=ops.toList) (i:=k) (by simpa using y);rw [A] at this;rw [Z6 y];have O:=(List.cons.inj this).1;simpa using O.symm
  have D:ops.toList.drop (k+1)=rest:=by
   have:=M8 (l:=ops.toList) (i:=k) (by simpa using y);rw [A] at this;exact (List.cons.inj this).2.symm
  have p: ∀(F:AF T),(match zi4 n o.dst&&(zc6 o&&zt5 F o) with
    |true=>stp o ⟨F,H⟩ (fun st=>vc1 stp ops n K rest st)
    |false=>none)=some r->Sim T w0 S0 ⟨F,H⟩ F' w S φ->zx3 ops F' o=some true->G k F' w:=by
   intro F a h V;split at a
   ·rename_i B;simp only [X3] at B;have Z:dec ops k n F'=some o:=by
     unfold dec;rw [X];simp only [V,B.1,B.2.1,yq4 h.fr B.2.2,M6]
    exact g k o F H F' w S φ _ Z a h fun st hs J L S1 x O=>yt5 G g m s rest (k+1) D st.F st.H J L S1 x hs O
   ·cases a
  have f: ∀(F:AF T),(match zi4 n o.dst with
    |true=>vc1 stp ops n K rest ⟨zb2 T F o.dst (.raw undef),H⟩
    |false=>none)=some r->Sim T w0 S0 ⟨F,H⟩ F' w S φ->zx3 ops F' o=some false->G k F' w:=by
   intro F a h V;split at a
   ·rename_i B;refine m k o.dst F' w ?_ (yt5 G g m s rest (k+1) D _ _ _ _ S φ a (h.slot rfl ⟨fun i hi=>(by cases hi),trivial⟩));unfold ye7;rw [X];simp only [V,B]
   ·cases a
  unfold vc1 at a;simp only at a;split at a
  ·rename_i z;exact p F a h (by unfold zx3;rw [z])
  ·rename_i j b z;split at a
   ·cases a
   ·rename_i d E;have e: ∀v,F'.get d=some v->yh2 ops F' j=match v with| .bool b=>some (some b)| .tuple _=>some none|_=>none:=by
     intro v I;unfold km0 at E;unfold yh2;rw [E];simp only [I];cases v<;>rfl
    split at a
    ·rename_i c M;obtain ⟨v,I,t⟩:=h.fr d _ M;have:=zf6 t;subst this;have e:=e _ I;simp only at e;have N:=h.again M;rcases zh5 a with ⟨q,a⟩|⟨q,a⟩
     ·have q:c=true:=q;subst q;cases b with
      |true=>exact p _ a N (by unfold zx3;rw [z];simp only [e];rfl)
      |false=>exact f _ a N (by unfold zx3;rw [z];simp only [e];rfl)
     ·have q:c=false:=q;subst q;cases b with
      |true=>exact f _ a N (by unfold zx3;rw [z];simp only [e];rfl)
      |false=>exact p _ a N (by unfold zx3;rw [z];simp only [e];rfl)
    ·rename_i u M;obtain ⟨v,I,t⟩:=h.fr d _ M;rw [VR] at t;subst t;have e:=e _ I;simp only at e;exact f _ a h (by unfold zx3;rw [z];simp only [e];cases b<;>rfl)
    ·cases a
def ka4 {R:Type} {a b:Option R} {r:R} (h:both a b=some r):a=some r/\b=some r:=by
 unfold both at h;split at h
 ·rename_i c;exact ⟨h,c▸h⟩
 ·cases h
def ka3 {R} (a:Option R):both a a=a:=by unfold both;rw [if_pos rfl]
def qd4 {R} (e:Bool) (a:Option R):wi4 e a a=a:=by cases e;rfl;exact ka3 a
def qu7 {R:Type} {r:R} (hE:zb4 T P C.E) (L:dec ops k n F'=some o) {K:St T->Option R} {M:AV T.U->St T->Option R} (l:kr3 P C o ⟨F,H⟩ K M=some r) (h:Sim T w0 S0 ⟨F,H⟩ F' w S φ)
  (N: ∀st,K st=some r->zz0 P ops Q (k+1) n ds w0 S0 st) (HP: ∀a st,M a st=some r->yu1 Q n ds w0 S0 a st):WR P ops Q k n ds F' w:=by
 unfold kr3 at l;split at l
 ·rename_i neg e f;unfold nilL at f;split at f<;>try (cases f;done)
  rename_i b t x y ty D;split at f<;>try (cases f;done)
  rename_i et hu;split at f<;>try (cases f;done)
  rename_i d a j G hx;split at f<;>try (cases f;done)
  rename_i e' g;simp only [X0,X7] at f;obtain ⟨rfl,rfl⟩:=f;have hb:b=if d then .neq else .eql:=by cases b<;>simp [wr9] at j<;>subst j<;>rfl
  obtain ⟨X,h1,p⟩:=v4 h.fr hx;obtain ⟨m,c,rfl⟩: ∃m c,y=.const (.slice none m c):=by
   unfold gi7 at G;split at G
   ·exact ⟨_,_,rfl⟩
   ·cases G
  have I: ∃ad q c',X=.slice ad q c'/\(e'=false->ad.isNone=false):=by
   unfold gh5 at g;split at g<;>try (cases g;done)
   ·rename_i el xs;simp only [X0] at g;have p:CR T w S (.list el) xs X:=p;cases p with
    |list _ _ ad cap u O s v _ _=>
     refine ⟨ad,_,_,rfl,fun J=>?_⟩;cases ad with
     |some _=>rfl
     |none=>
      have:=(s rfl).1;rw [J] at g;cases xs with
      |nil=>cases g
      |cons _ _=>cases this
   ·rename_i i;split at g<;>try (cases g;done)
    rename_i et' ty' xs hi;simp only [X0] at g;rw [VR] at p;subst p;obtain ⟨B,V,q1,q2,_⟩:=h.ents i _ hi;refine ⟨_,_,_,rfl,fun J=>?_⟩;cases v:(φ i).ad with
    |some _=>rfl
    |none=>
     have:=(q1.nil0 v).1;rw [q2] at this;rw [J] at g;cases xs with
     |nil=>cases g
     |cons _ _=>cases this
  obtain ⟨ad,q,c',rfl,z⟩:=I;have A:(execOp (evD F') o).run P w=.ok (.value (.bool (zc3 d ad.isNone))) w:=by
   have g1:=je0 (P:=P) (t:=t) (X:=.slice ad q c') (Y:=.slice none m c) (b:=b) x (.const (.slice none m c)) rfl rfl (.inl (by simp)) w;have g2:=jc0 (P:=P) hb (X:=.slice ad q c') (Y:=.slice none m c) rfl rfl (fun w0=>(jb9 P hu m c ad q c' w0).2) w;obtain ⟨Y,h3,Z⟩:=v4 h.fr (show aev T F (.const (.slice none m c))=some (.raw (.slice none m c)) from rfl);rw [VR] at Z;subst Z;simp [execOp,D,v6 h1,v6 h3,g1,g2]
  have hk:K ⟨zb2 T F o.dst (cB T (zc3 d ad.isNone)),H⟩=some r:=by
   unfold wi4 at l;split at l
   ·obtain ⟨k1,k2⟩:=ka4 l;cases ad with
    |none=>exact k1
    |some _=>exact k2
   ·rw [z rfl];exact l
  exact WR.val L A (N _ hk _ _ ⟨S,φ,h.slot (a:=cB T (zc3 d ad.isNone)) (CR.bool _) (zo6 rfl (by intro _ _ _ _ e;cases e))⟩)
 ·exact jh5 hE L l h N HP
def qg4 {R:Type} {r:R} (f:zb4 T P C.E) {K:St T->Option R} {c:AV T.U->St T->Option R} (d: ∀st,K st=some r->kl4 Q n ds w0 S0 st) (g: ∀a st,c a st=some r->yu1 Q n ds w0 S0 a st)
  (i:regA P C ops n c K ⟨F,H⟩=some r) (h:Sim T w0 S0 ⟨F,H⟩ F' w S φ):WR P ops Q 0 n ds F' w:=by
 refine yt5 (w0:=w0) (S0:=S0) (K:=K) (stp:=fun o st K=>kr3 P C o st K c) (r:=r) (fun k F' w=>WR P ops Q k n ds F' w) ?_ ?_ ?_ ops.toList 0 rfl F H F' w S φ i h
 ·intro k o F H F' w S φ K j l h d;exact qu7 f j l h (fun st b m p ⟨S1,e,q⟩=>d st b m p S1 e q) g
 ·intro k dst F' w s K;exact WR.pass1 s K
 ·intro k st F' w S φ t b h;exact .fin (W5 t) fun a u=>d st b F' w ⟨S,φ,h⟩ a u
def qu8 {R:Type} {r:R} {Qf:Act->Prop} (hE:zb4 T P C.E) (hd:dec ops k n F'=some o) {K:AV T.U->Option R} (hs:kr4 P C o ⟨F,H⟩ K=some r) (h:Sim T w0 S0 ⟨F,H⟩ F' w S φ)
  (HK: ∀a v,K a=some r->VR T w S φ a v->okA H a->WQ P ops (fun w'=>Chg [] w w') Qf (k+1) n ds (upd F' o.dst v)):WQ P ops (fun w'=>Chg [] w w') Qf k n ds F':=by
 have hread:ya2 P o ⟨F,H⟩ K=some r->WQ P ops (fun w'=>Chg [] w w') Qf k n ds F':=fun hs=>
  gu1 hd hs h fun a v hK hq hv hok=>WQ.step hd (fun w1 hw=>by rw [hq w1 (vt0 hw S) (Same.pure hw)];exact ⟨rfl,rfl⟩) (HK a v hK hv hok)
 unfold kr4 at hs;split at hs
 ·rename_i hop;split at hs
  ·exact hread hs
  ·unfold wp4 at hs;split at hs
   ·cases hs
   ·rename_i as has;split at hs
    ·rename_i f hc;split at hs
     ·rename_i g first caps hf
      split at hs
      ·rename_i cs he hcs;split at hs
       ·rename_i hall;obtain ⟨vs,h1,h2,h3⟩:=jn7 hop hc hf has he hall h;obtain ⟨a,v,g1,g3,g4,g5⟩:=(hE g cs hcs).2.1 _ H K r hs w0 S0 F F' w S φ h vs h1 h2;refine WQ.step hd (fun w1 hw=>?_) (HK a v g1 g3 g4);rw [h3 w1];refine ⟨rfl,(g5 w1 (vt0 hw S) (Same.pure hw)).mono fun e w'' hR=>?_⟩;cases e with
        |returned u=>obtain ⟨q1,q2⟩:=hR;exact ⟨by rw [q2],hw.pure q1⟩
        |panicked ch=>exact hR.elim
        |outgrown=>exact hR.elim
       ·cases hs
      ·cases hs
     ·cases hs
    ·cases hs
 ·exact hread hs
def vk3 {R:Type} {r:R} (f:zb4 T P C.E) {K:St T->Option R} (b: ∀st,K st=some r->kl4 Q n ds w0 S0 st) (g:regQ P C ops n K ⟨F,H⟩=some r) (h:Sim T w0 S0 ⟨F,H⟩ F' w S φ):
  WQ P ops (fun w'=>Chg [] w w') (fun c=> ∀w',Chg [] w w'->Q .normal c w') 0 n ds F':=by
 refine yt5 (w0:=w0) (S0:=S0) (K:=K) (stp:=fun o st K=>kr4 P C o st fun a=>K ⟨zb2 T st.F o.dst a,st.H⟩) (r:=r) (fun k F' w=>WQ P ops (fun w'=>Chg [] w w') (fun c=> ∀w',Chg [] w w'->Q .normal c w') k n ds F') ?_ ?_ ?_ ops.toList 0 rfl F H F' w S φ g h
 ·intro k o F H F' w S φ K i j h b;exact qu8 f i j h fun a v l m d=>b _ l _ w S φ (h.slot m d)
 ·intro k dst F' w p K;exact WQ.pass1 p K
 ·intro k st F' w S φ q e h;exact WQ.fin (W5 q) fun w' s a t=>b st e F' w' ⟨S,φ,h.pure s⟩ a t
end
end Go.X
namespace Go.X
open Go.RowKit Go.V
section
variable (T:Tab)
def Ent.ren {U:Nat->Type} (ρ:Nat->Nat):Ent U->Ent U
 | .blk e cs=>.blk e (zk1 ρ cs)
 | .row e t xs=>.row e t xs
 | .map k es=>.map k (ql7 ρ es)
 | .tmap k t m=>.tmap k t m
 | .drow e d fe xs op=>.drow e d fe xs (ks9 ρ op)
 | .gone=>.gone
def zr8 (F:AF T):List Nat->AF T
 | []=> []
 |i::r=>match F.get T i with|some a=>(i,a)::zr8 F r|none=>zr8 F r
def vh0:AF T->List Nat
 | []=> []
 |(_,a)::r=>a.ids++vh0 r
def ks5 (H:List (Ent T.U)):List Nat->List Nat
 | []=> []
 |i::r=>match H[i]? with|some e=>e.cellIds++ks5 H r|none=>ks5 H r
def vm2 (H:List (Ent T.U)):Nat->List Nat->List Nat
 |0,l=>l
 |n+1,l=>let l':=vr9 l (ks5 T H l);match Nat.beq l'.length l.length with|true=>l|false=>vm2 H n l'
def ze9 (H:List (Ent T.U)) (ρ:Nat->Nat):List Nat->List (Ent T.U)
 | []=> []
 |i::r=>match H[i]? with|some e=>e.ren ρ::ze9 H ρ r|none=>.gone::ze9 H ρ r
def gu3 (ρ:Nat->Nat):AF T->AF T
 | []=> []
 |(i,a)::r=>(i,a.ren ρ)::gu3 ρ r
def wn6 (l:List Nat):List Nat->Bool| []=>true|i::r=>ye4 i l&&wn6 l r
structure Cut where
 l:List Nat
 nils:List (Nat×TypeId×Ty)
 whole:Bool
 bn:List (Nat×Nat×TypeId×Ty)
 dz:Nat
 inl:Bool
abbrev wi8:Nat:=4000000000
abbrev ka8:Nat:=4000000001
def zf2:List (Nat×Nat×TypeId×Ty)->List (Ent T.U)->List (Ent T.U)
 | [],H=>H
 |(i,c,e,t)::r,H=>match Nat.beq e ka8 with
  |true=>zf2 r (closeL T (List.range H.length) H)
  |false=>match H[i]? with
  |some (.blk e0 cs)=>match cs[c]? with
   |some (.raw (.slice none 0 0))=>zf2 r (H.set i (.blk e0 (cs.set c (.own H.length)))++ [.row e t []])
   |some (.own k)=>match Nat.beq e wi8 with
    |true=>match H[k]? with
     |some (.row _ a xs)=>zf2 r (H.set i (.blk e0 (cs.set c (.sl k (szT T a) 0 xs.length))))
     |_=>zf2 r H
    |false=>zf2 r H
   |_=>zf2 r H
  |_=>zf2 r H
def jc1:List (Nat×TypeId×Ty)->St T->St T
 | [],st=>st
 |(s,e,t)::r,st=>match st.F.get T s with
  |some (.raw (.slice none 0 0))=>jc1 r ⟨(s,.own st.H.length)::st.F,st.H++ [.row e t []]⟩
  |_=>jc1 r st
def gx4 (m:Nat) (ids:List Nat):Bool:=(List.range m).all fun k=>match ids[k]? with|some j=>Nat.beq j k|none=>false
def uf2 (m:Nat) (l:List Nat) (st:St T):Option (St T):=
 let a:=zr8 T st.F l
 let ids:=vm2 T st.H (st.H.length+1) (vr9 (List.range m) (vh0 T a))
 match gx4 m ids&&(zd6 ids&&(ids.all (fun i=>Nat.blt i st.H.length)&&(wn6 ids (vh0 T a)&&wn6 ids (ks5 T st.H ids)))) with
 |true=>some ⟨gu3 T (fun i=>vh1 i ids) a,ze9 T st.H (fun i=>vh1 i ids) ids⟩
 |false=>none
end
section
variable {T:Tab}
def jf4 {l}: ∀ {m},wn6 l m=true-> ∀i∈m,i∈l
 | [],_,i,h=>by cases h
 |j::r,h,i,a=>by
  unfold wn6 at h;simp only [X3] at h;rcases Z0.1 a with rfl|a
  ·exact zb9.1 h.1
  ·exact jf4 h.2 i a
def yp6 {F i a}: ∀ {l},(zr8 T F l).get T i=some a->F.get T i=some a
 | [],h=>by simp [zr8,AF.get] at h
 |j::r,h=>by
  unfold zr8 at h;split at h
  ·rename_i u b;simp only [AF.get] at h;split at h
   ·rename_i c;have:=X1 c;subst this;rw [b];exact h
   ·exact yp6 h
  ·exact yp6 h
def yz3 {i a}: ∀ {F},F.get T i=some a-> ∀j∈a.ids,j∈vh0 T F
 | [],h,_,_=>by simp [AF.get] at h
 |(k,b)::r,h,j,c=>by
  simp only [AF.get] at h;unfold vh0;split at h
  ·simp only [X0] at h;subst h;exact X4.2 (.inl c)
  ·exact X4.2 (.inr (yz3 h j c))
def jv2 {ρ i b}: ∀ {F},(gu3 T ρ F).get T i=some b-> ∃a,F.get T i=some a/\b=a.ren ρ
 | [],h=>by simp [gu3,AF.get] at h
 |(k,c)::r,h=>by
  simp only [gu3,AF.get] at h⊢;split at h
  ·simp only [X0] at h;exact ⟨c,rfl,h.symm⟩
  ·exact jv2 h
def zl6 {H:List (Ent T.U)} {ρ:Nat->Nat} {j:Nat} {e:Ent T.U}: ∀ {l:List Nat},(ze9 T H ρ l)[j]?=some e-> ∃i,l[j]?=some i/\((∃e0,H[i]?=some e0/\e=e0.ren ρ)\/e=.gone)
 | [],h=>by simp [ze9] at h
 |i::r,h=>by
  unfold ze9 at h;split at h
  ·rename_i e0 a;cases j with
   |zero=>simp at h;exact ⟨i,rfl,.inl ⟨e0,a,h.symm⟩⟩
   |succ j=>simp at h;simpa using zl6 h
  ·cases j with
   |zero=>simp at h;exact ⟨i,rfl,.inr h.symm⟩
   |succ j=>simp at h;simpa using zl6 h
def yi6 {H ρ}: ∀(l),(ze9 T H ρ l).length=l.length
 | []=>rfl
 |i::r=>by unfold ze9;split<;>simp [yi6 r]
def ys4 {H i e} (a:H[i]?=some e): ∀ {l},i∈l-> ∀j∈e.cellIds,j∈ks5 T H l
 | [],h,_,_=>by cases h
 |k::r,h,j,b=>by
  unfold ks5;rcases Z0.1 h with rfl|h
  ·rw [a];exact X4.2 (.inl b)
  ·split
   ·exact X4.2 (.inr (ys4 a h j b))
   ·exact ys4 a h j b
mutual
def jr2 {U ρ}: ∀a:AV U,(a.ren ρ).ids=a.ids.map ρ
 | .cell _=>by rw [AV.ren];rfl
 | .ptr _ _=>by rw [AV.ren];rfl
 | .eptr _ _ _ _=>by rw [AV.ren];rfl
 | .lptr _ _ _ _=>by rw [AV.ren];rfl
 | .own _=>by rw [AV.ren];rfl
 | .sl _ _ _ _=>by rw [AV.ren];rfl
 | .agg cs=>by rw [AV.ren,AV.ids,AV.ids,zv2 cs]
 | .tup cs=>by rw [AV.ren,AV.ids,AV.ids,zv2 cs]
 | .fn _ a b=>by rw [AV.ren,AV.ids,AV.ids,zv2 a,zv2 b,J9]
 | .ifc _ a=>by rw [AV.ren,AV.ids,AV.ids,jr2 a]
 | .raw _=>by rw [AV.ren];rfl
 | .arr _ _ _=>by rw [AV.ren];rfl
 | .aptr _ _ _ _ _ _=>by rw [AV.ren];rfl
 | .asl _ _ _ _ _ _=>by rw [AV.ren];rfl
 | .mp _=>by rw [AV.ren];rfl
def zv2 {U ρ}: ∀l:List (AV U),v5 (zk1 ρ l)=(v5 l).map ρ
 | []=>rfl
 |a::r=>by rw [zk1,v5,v5,jr2 a,zv2 r,J9]
end
def vc5 {U ρ}: ∀l:List (Int×AV U),idsM (ql7 ρ l)=(idsM l).map ρ
 | []=>rfl
 |(x,a)::r=>by rw [ql7,idsM,idsM,jr2 a,vc5 r,J9]
def ge3 {U ρ} (op:Option (Nat×List (AV U))):wq4 (ks9 ρ op)=(wq4 op).map ρ:=by
 cases op with
 |none=>rfl
 |some p=>obtain ⟨a,cs⟩:=p;exact zv2 cs
def Ent.ren_cellIds {U ρ} (e:Ent U):(e.ren ρ).cellIds=e.cellIds.map ρ:=by cases e<;>first|rfl|exact zv2 _|exact vc5 _|exact ge3 _
def Ent.ren_live {U ρ} (e:Ent U):(e.ren ρ).live=e.live:=by cases e<;>rfl
def Sim.renum {w0 S0 F Q H F' w S φ} (h:Sim T w0 S0 ⟨F,H⟩ F' w S φ) (ids) (hF: ∀i a,Q.get T i=some a->F.get T i=some a)
  (hn:zd6 ids=true) (hp: ∀k,k<S0.pin.length->ids[k]?=some k) (h1: ∀i∈vh0 T Q,i∈ids) (P: ∀i∈ks5 T H ids,i∈ids):
  Sim T w0 S0 ⟨gu3 T (fun i=>vh1 i ids) Q,ze9 T H (fun i=>vh1 i ids) ids⟩ F' w S (fun j=>φ (ids.getD j 0)):=by
 have u: ∀i∈ids,φ (ids.getD (vh1 i ids) 0)=φ i:=by
  intro i hi;rw [Y2,(yf5 hi).2];rfl
 have x: ∀ {j i:Nat},ids[j]?=some i->φ (ids.getD j 0)=φ i:=by
  intro j i s;rw [Y2,s];rfl
 refine ⟨?_,?_,h.chg,h.own,h.ex,?_,fun k r o=>?_,?_,?_,?_⟩
 ·intro i b L;obtain ⟨a,p,rfl⟩:=jv2 L;obtain ⟨v,C,R⟩:=h.fr i a (hF i a p);exact ⟨v,C,R.ren T fun j s=>u j (h1 j (yz3 p j s))⟩
 ·intro i b L;obtain ⟨a,p,rfl⟩:=jv2 L;obtain ⟨C,R⟩:=h.ids i a (hF i a p);have M:=fun j s=>h1 j (yz3 p j s);refine ⟨?_,?_⟩
  ·intro j s;rw [jr2] at s;obtain ⟨k,o,rfl⟩:=U7.1 s;simp only [yi6];exact (yf5 (M k o)).1
  ·cases a with
   |eptr j sz k c=>
    rw [AV.ren];intro e t xs hx;obtain ⟨i',n,f⟩:=zl6 hx;have s:=M j (by simp [AV.ids]);rw [(yf5 s).2] at n;simp only [X0] at n;subst n;rcases f with ⟨e0,f,y⟩|f
    ·cases e0 with
     |row U t1 ys=>
      simp only [Ent.ren,Ent.row.injEq] at y;obtain ⟨rfl,rfl,y⟩:=y;have:=eq_of_heq y;subst this;exact R _ _ _ f
     |blk _ _=>cases y
     |map _ _=>cases y
     |tmap _ _ _=>cases y
     |drow _ _ _ _ _=>cases y
     |gone=>cases y
    ·cases f
   |_=>rw [AV.ren]<;>trivial
 ·intro j e D E a p;obtain ⟨i,n,f⟩:=zl6 D;rcases f with ⟨e0,f,rfl⟩|rfl
  ·rw [x n] at p;exact h.lives i e0 f (by rw [Ent.ren_live] at E;exact E) a p
  ·cases E
 ·have N:=hp k (X2.1 o).1;refine ⟨by rw [x N];exact (h.pins k r o).1,?_⟩;simp only [yi6];exact (X2.1 N).1
 ·intro j e D;obtain ⟨i,n,f⟩:=zl6 D;rcases f with ⟨e0,f,rfl⟩|rfl
  ·have C:=h.ents i e0 f;cases e0 with
   |blk U cs=>
    obtain ⟨g,c,z,A,G,I⟩:=C;refine ⟨g,c,(congrArg RA.ad (x n)).trans z,A,G,I.ren T fun k o=>u k (P k (ys4 f (X6 n) k o))⟩
   |row U t xs=>
    obtain ⟨B,q,z,A,G,I,V⟩:=C;simp only [EntR,x n];exact ⟨B,q,z,A,G,I,V⟩
   |map k es=>
    obtain ⟨g,l,c,z,A,G,I⟩:=C;refine ⟨g,l,c,(congrArg RA.ad (x n)).trans z,A,G,I.ren T fun k o=>u k (P k (ys4 f (X6 n) k o))⟩
   |tmap k t m=>
    obtain ⟨g,l,c,z,A⟩:=C;exact ⟨g,l,c,(congrArg RA.ad (x n)).trans z,A⟩
   |drow U d fe xs op=>
    obtain ⟨B,q,z,A,G,I,V⟩:=C;simp only [Ent.ren,EntR,x n];exact ⟨B,q,z,A,G,I,V.renS T fun k o=>RSame.of (u k (P k (ys4 f (X6 n) k o)))⟩
   |gone=>trivial
  ·trivial
 ·intro j e D k o;obtain ⟨i,n,f⟩:=zl6 D;rcases f with ⟨e0,f,rfl⟩|rfl
  ·rw [Ent.ren_cellIds] at o;obtain ⟨m,hm,rfl⟩:=U7.1 o;simp only [yi6];exact (yf5 (P m (ys4 f (X6 n) m hm))).1
  ·cases o
 ·intro j k e e' D X E J Y a b p L;obtain ⟨i,n,f⟩:=zl6 D;obtain ⟨i',O,K⟩:=zl6 X;rcases f with ⟨e0,f,rfl⟩|rfl
  ·rcases K with ⟨Z,K,rfl⟩|rfl
   ·rw [x n] at p;rw [x O] at L;rw [Ent.ren_live] at E J;exact h.apart i i' e0 Z f K E J (fun e=>Y (by subst e;exact yj1 hn n O)) a b p L
   ·cases J
  ·cases E
def vi4 {m ids} (h:gx4 m ids=true) {k} (a:k<m):ids[k]?=some k:=by
 unfold gx4 at h;rw [Y8] at h;have:=h k (K1.2 a);split at this
 ·rename_i j b;rw [b,X1 this]
 ·cases this
def js2 {w0 S0 st c e w m l} (f:S0.pin.length<=m) (h:zc4 T w0 S0 st e w) (b:uf2 T m l st=some c):zc4 T w0 S0 c e w:=by
 obtain ⟨S,φ,h⟩:=h;unfold uf2 at b;simp only at b;split at b
 ·rename_i d;simp only [X3] at d;simp only [X0] at b;subst b;exact ⟨S,_,h.renum _ (fun i a g=>yp6 g) d.2.1 (fun k j=>vi4 d.1 (V6 j f)) (jf4 d.2.2.2.1) (jf4 d.2.2.2.2)⟩
 ·cases b
def yd3 {w0 S0 d w}: ∀(l) {st},zc4 T w0 S0 st d w->zc4 T w0 S0 (jc1 T l st) d w
 | [],_,h=>h
 |(s,e,t)::r,st,h=>by
  unfold jc1;split
  ·rename_i m;refine yd3 r ?_;obtain ⟨S,φ,h⟩:=h;obtain ⟨v,n,f⟩:=h.fr s _ m;rw [VR] at f;subst f;have b:=h.addG (Chg.refl [] w) (by simp) (by simp) (fun _ _ _ _ _ _=>by simp) (S':=S) (fun _ h=>h) (fun _ h=>.inl h) (r:=⟨none,0,0,[]⟩) (fun a h=>by cases yo5 h) (fun a h=>by cases yo5 h) (e:=.row e t [])
    ⟨w.heap.size,[],by rw [w4];exact Own.nil _ _ _ _,by rw [w4];rfl,W8 _,⟨rfl,fun j c v h=>by simp at h⟩,fun a g=>by rw [w4] at g;cases g⟩ (fun j o=>by cases o)
   exact ⟨S,_,b.seen n (a:=.own st.H.length) (by rw [VR,w4]) ⟨fun i k=>by simp [AV.ids] at k;subst k;simp,trivial⟩⟩
  ·exact yd3 r h
def Sim.addNil {w0 S0 F H b w S φ} (h:Sim T w0 S0 ⟨F,H⟩ b w S φ) (e t):Sim T w0 S0 ⟨F,H++ [.row e t []]⟩ b w S (setR φ H.length ⟨none,0,0,[]⟩):=
 h.addG (Chg.refl [] w) (by simp) (by simp) (fun _ _ _ _ _ _=>by simp) (S':=S) (fun _ h=>h) (fun _ h=>.inl h) (r:=⟨none,0,0,[]⟩) (fun a h=>by cases yo5 h) (fun a h=>by cases yo5 h) (e:=.row e t [])
  ⟨w.heap.size,[],by rw [w4];exact Own.nil _ _ _ _,by rw [w4];rfl,W8 _,⟨rfl,fun j c v h=>by simp at h⟩,fun a d=>by rw [w4] at d;cases d⟩ (fun j f=>by cases f)
def uj2 {w0 S0 F H k w S φ} (h:Sim T w0 S0 ⟨F,H⟩ k w S φ) {i e t xs} (l:H[i]?=some (.row e t xs)) {v} (f:VR T w S φ (.own i) v):VR T w S φ (.sl i (szT T t) 0 xs.length) v:=by
 obtain ⟨B,g,b,j,m,o,p⟩:=h.ents i _ l;rw [VR] at f;subst f;rw [j] at b;refine ⟨(φ i).ad,?_,?_,?_,fun d=>b.nil0 d,fun _=>rfl⟩
 ·show Value.slice (φ i).ad (φ i).n (φ i).cap=Value.slice (φ i).ad xs.length ((φ i).cap-0);rw [j];rfl
 ·show 0+xs.length<=(φ i).cap;rw [U2];exact b.le.1
 rcases b.cases with ⟨_,d,_⟩|⟨c,a,_⟩
 ·exact .inl d
 ·refine .inr ⟨_,a,a.trans ?_⟩;show some (⟨_,0,none⟩:Addr)=some ⟨_,0+0*_,none⟩;rw [M5]
def Sim.cellSl {w0 S0 F H l w S φ} (h:Sim T w0 S0 ⟨F,H⟩ l w S φ) {i c k e0 e cs t xs}
  (f:H[i]?=some (.blk e0 cs)) (m:cs[c]?=some (.own k)) (o:H[k]?=some (.row e t xs)):Sim T w0 S0 ⟨F,H.set i (.blk e0 (cs.set c (.sl k (szT T t) 0 xs.length)))⟩ l w S φ:=by
 obtain ⟨g,p,q,r,s,u⟩:=h.ents i _ f;refine h.upd (i:=i) (e0:=.blk e0 cs) (e:=.blk e0 (cs.set c (.sl k (szT T t) 0 xs.length))) (Tc:= []) (w':=w) f rfl (Chg.refl [] w) (by simp)
  ⟨g,p,q,r,s,BR.swap (b:=.sl k (szT T t) 0 xs.length) rfl rfl (fun v x=>uj2 h o x) u m⟩ ?_ (by intro _ _ _ h;cases h)
 intro j n;rw [Ent.cellIds] at n;obtain ⟨b,d,a⟩:=zt9 n;rcases M0 d with d|d
 ·exact h.eids i _ f j (by rw [Ent.cellIds];exact zh0 d j a)
 ·subst d;have y:(AV.own k:AV T.U)∈cs:=X6 m;simp only [AV.ids,Q6] at a;subst a;exact h.eids i _ f j (by rw [Ent.cellIds];exact zh0 y j (by simp [AV.ids]))
def ze6 {w0 S0 F p w}: ∀(l) {H},zc4 T w0 S0 ⟨F,H⟩ p w->zc4 T w0 S0 ⟨F,zf2 T l H⟩ p w
 | [],_,h=>h
 |(i,c,e,t)::r,H,h=>by
  unfold zf2;split
  ·exact ze6 r (zw1 _ h)
  split
  ·rename_i e0 cs f;split
   ·rename_i o;refine ze6 r ?_;obtain ⟨S,φ,h⟩:=h;have q:=h.addNil e t;have a:=(X2.1 f).1;obtain ⟨g,y,z,A,B,C⟩:=q.ents i _ (by rw [X8 a];exact f);have s:=q.upd (i:=i) (e0:=.blk e0 cs) (e:=.blk e0 (cs.set c (.own H.length))) (Tc:= []) (w':=w) (by rw [X8 a];exact f) rfl (Chg.refl [] w) (by simp)
     ⟨g,y,z,A,B,BR.swap (b:=.own H.length) rfl rfl (fun v u=>by rw [VR] at u;subst u;rw [VR,w4]) C o⟩
     (by
      intro j x;rw [Ent.cellIds] at x;obtain ⟨b,m,d⟩:=zt9 x;rcases M0 m with m|m
      ·have:=h.eids i _ f j (by rw [Ent.cellIds];exact zh0 m j d);simp at this⊢;omega
      ·subst m;simp [AV.ids] at d;subst d;simp) (by intro _ _ _ h;cases h)
    have n:(H++ [Ent.row e t []]).set i (.blk e0 (cs.set c (.own H.length)))=H.set i (.blk e0 (cs.set c (.own H.length)))++ [.row e t []]:=by
     rw [List.set_append_left _ _ a]
    rw [n] at s;exact ⟨S,_,s⟩
   ·rename_i k o;split
    ·split
     ·rename_i E G xs D;obtain ⟨S,φ,h⟩:=h;exact ze6 r ⟨S,φ,h.cellSl f o D⟩
     ·exact ze6 r h
    ·exact ze6 r h
   ·exact ze6 r h
  ·exact ze6 r h
end
end Go.X
namespace Go.X
open Go.RowKit Go.V
section
variable {T:Tab} {w:World} {S:List Nat} {φ φ':Nat->RA}
def Ent.plain {U:Nat->Type}:Ent U->Bool| .drow _ _ _ _ _=>false|_=>true
def EntR.renS {ρ i e} (h:EntR T w S φ i e) {j} (s:RSame (φ' j) (φ i)) (x:e.plain=true\/(φ' j).xs=(φ i).xs) (u: ∀k∈e.cellIds,RSame (φ' (ρ k)) (φ k)):EntR T w S φ' j (e.ren ρ):=by
 obtain ⟨r,y,z⟩:=s;cases e with
 |blk e cs=>obtain ⟨g,c,n,o,p,q⟩:=h;exact ⟨g,c,by rw [r];exact n,o,p,q.renS T u⟩
 |row e t xs=>obtain ⟨B,f,n,o,p,q,v⟩:=h;simp only [Ent.ren,EntR,r,y,z];exact ⟨B,f,n,o,p,q,v⟩
 |map k es=>obtain ⟨g,l,c,n,o,p,q⟩:=h;exact ⟨g,l,c,by rw [r];exact n,o,p,q.renS T u⟩
 |tmap k t m=>obtain ⟨g,l,c,n,o⟩:=h;exact ⟨g,l,c,by rw [r];exact n,o⟩
 |drow e d fe xs op=>
  have s:φ' j=φ i:=by
   replace x:=x.resolve_left (by simp [Ent.plain])
   generalize φ' j=a at *;generalize φ i=b at *;cases a;cases b;simp_all
  obtain ⟨B,f,n,o,p,q,v⟩:=h;simp only [Ent.ren,EntR,s];exact ⟨B,f,n,o,p,q,v.renS T u⟩
 |gone=>trivial
def EntR.ren {ρ i e} (h:EntR T w S φ i e) {j} (p:φ' j=φ i) (q: ∀k∈e.cellIds,φ' (ρ k)=φ k):EntR T w S φ' j (e.ren ρ):=by
 cases e with
 |blk e cs=>obtain ⟨g,c,b,f,n,o⟩:=h;exact ⟨g,c,by rw [p];exact b,f,n,o.ren T q⟩
 |row e t xs=>obtain ⟨B,a,b,f,n,o,r⟩:=h;simp only [Ent.ren,EntR,p];exact ⟨B,a,b,f,n,o,r⟩
 |map k es=>obtain ⟨g,l,c,b,f,n,o⟩:=h;exact ⟨g,l,c,by rw [p];exact b,f,n,o.ren T q⟩
 |tmap k t m=>obtain ⟨g,l,c,b,f⟩:=h;exact ⟨g,l,c,by rw [p];exact b,f⟩
 |drow e d fe xs op=>obtain ⟨B,a,b,f,n,o,r⟩:=h;simp only [Ent.ren,EntR,p];exact ⟨B,a,b,f,n,o,r.renS T fun k s=>RSame.of (q k s)⟩
 |gone=>trivial
end
end Go.X
namespace Go.X
open Go.RowKit Go.V
section
variable {T:Tab} {P:Program} {C:Ctx T} {R:Type} {r:R} {H:List (Ent T.U)} {o:Oper}
abbrev Det (f: {R:Type}->(AV T.U->Option R)->Option R) (K:AV T.U->Option R) (r:R):Prop:= ∃a,K a=some r/\ ∀ {c:Type} (b:AV T.U->Option c),f b=b a
def ke6 {c:Bool} {x y:AV T.U} {K:AV T.U->Option R} (h:jj1 c x y K=some r):Det (fun K=>jj1 c x y K) K r:=by
 unfold jj1 at h;split at h
 ·rename_i z a;exact ⟨z,h,fun d=>by simp only [jj1,a]⟩
 ·rename_i a;split at h
  ·rename_i e;by_cases b:c=true
   ·rw [if_pos b] at h;exact ⟨x,h,fun d=>by simp only [jj1,a,e,if_pos b]⟩
   ·rw [if_neg b] at h;exact ⟨y,h,fun d=>by simp only [jj1,a,e,if_neg b]⟩
  ·cases h
def kv6 {b x y K} (h:divA T b x y K=some r):Det (fun K=>divA T b x y K) K r:=by
 unfold divA at h;split at h
 ·split at h
  ·rename_i c;unfold divA.divI at h;obtain ⟨a,h⟩:=ye3 h;exact ⟨_,h,fun d=>by simp only [divA,c,divA.divI,if_neg a]⟩
  ·cases h
 ·split at h
  ·rename_i c;unfold divA.remI at h;obtain ⟨a,h⟩:=ye3 h;exact ⟨_,h,fun d=>by simp only [divA,c,divA.remI,if_neg a]⟩
  ·cases h
 ·unfold divA.shlI at h;obtain ⟨a,h⟩:=ye3 h;exact ⟨_,h,fun d=>by simp only [divA,divA.shlI,if_neg a]⟩
 ·unfold divA.shrI at h;obtain ⟨a,h⟩:=ye3 h;exact ⟨_,h,fun d=>by simp only [divA,divA.shrI,if_neg a]⟩
 ·cases h
def kl0 {s j K} (h:jj7 s j K=some r): ∃a,K a=some r/\ ∀ {d:Type} (c:Int->Option d),jj7 s j c=c a:=by
 unfold jj7 at h;split at h
 ·rename_i b e;exact ⟨_,h,fun c=>by simp only [jj7,e]⟩
 ·cases h
def vh2 {t s j K} (h:yd0 T P t H s j K=some r):Det (fun K=>yd0 T P t H s j K) K r:=by
 unfold yd0 at h;split at h
 ·split at h
  ·rename_i b;obtain ⟨a,h⟩:=g9 h;exact ⟨_,h,fun e=>by simp only [yd0,b,if_pos a]⟩
  ·cases h
 ·split at h
  ·rename_i c;split at h
   ·rename_i b;obtain ⟨a,h⟩:=g9 h;exact ⟨_,h,fun e=>by simp only [yd0,c,b,if_pos a]⟩
   ·cases h
  ·cases h
 ·split at h
  ·rename_i c;split at h
   ·rename_i b d;obtain ⟨a,h⟩:=g9 h;obtain ⟨g,h⟩:=g9 h;exact ⟨_,h,fun e=>by simp only [yd0,c,b,d,if_pos a,if_pos g]⟩
   ·cases h
  ·rename_i c;split at h
   ·rename_i s d;split at h
    ·rename_i f;obtain ⟨a,h⟩:=g9 h;exact ⟨_,h,fun e=>by simp only [yd0,c,d,f,if_pos a]⟩
    ·cases h
   ·cases h
  ·cases h
 ·split at h
  ·rename_i s d;split at h
   ·rename_i f;obtain ⟨a,h⟩:=g9 h;exact ⟨_,h,fun e=>by simp only [yd0,d,f,if_pos a]⟩
   ·cases h
  ·cases h
 ·cases h
def vl1 {t s e c K} (h:yh9 T P t H s e c K=some r):Det (fun K=>yh9 T P t H s e c K) K r:=by
 unfold yh9 at h;split at h
 ·simp only at h;split at h
  ·rename_i a;obtain ⟨b,h⟩:=g9 h;exact ⟨_,h,fun d=>by simp only [yh9,a,if_pos b]⟩
  ·cases h
 ·split at h
  ·rename_i c;simp only at h;split at h
   ·rename_i a;obtain ⟨b,h⟩:=g9 h;exact ⟨_,h,fun d=>by simp only [yh9,c,a,if_pos b]⟩
   ·cases h
  ·cases h
 ·split at h
  ·rename_i c;simp only at h;split at h
   ·rename_i a f;obtain ⟨b,h⟩:=g9 h;exact ⟨_,h,fun d=>by simp only [yh9,c,a,f,if_pos b]⟩
   ·cases h
  ·cases h
 ·simp only at h;split at h
  ·rename_i a;split at h
   ·rename_i g;obtain ⟨b,h⟩:=g9 h;exact ⟨_,h,fun d=>by simp only [yh9,a,g,if_pos b]⟩
   ·cases h
  ·cases h
 ·cases h
def kj3 {st:St T} {K:AV T.U->Option R} (h:zs1 P o st K=some r):Det (fun K=>zs1 P o st K) K r:=by
 unfold zs1 at h;split at h
 ·rename_i a q;split at h
  ·rename_i y;exact ⟨a,h,fun f=>by simp only [zs1,q,y]⟩
  ·cases h
 ·rename_i e;split at h
  ·rename_i d;rw [d] at e;split at h
   ·rename_i n g p;obtain ⟨a,j,i⟩:=ke6 h;exact ⟨a,j,fun f=>by simp only [zs1,e,d,n,g,p];exact i f⟩
   ·cases h
  ·rename_i d;rw [d] at e;split at h
   ·rename_i g p;obtain ⟨a,j,i⟩:=kv6 h;exact ⟨a,j,fun f=>by simp only [zs1,e,d,g,p];exact i f⟩
   ·cases h
  ·rename_i d;rw [d] at e;split at h
   ·rename_i g;split at h
    ·rename_i a u;exact ⟨a,h,fun f=>by simp only [zs1,e,d,g,u]⟩
    ·cases h
   ·cases h
  ·rename_i d;rw [d] at e;split at h
   ·rename_i A B g;split at h
    ·rename_i D;obtain ⟨xs,j,i⟩:=jr0 (t:=.list (.int .u8)) h;exact ⟨_,j,fun f=>by simp only [zs1,e,d,A,B,g,D];exact i _⟩
    ·cases h
   ·cases h
  ·rename_i d;rw [d] at e;split at h
   ·rename_i E g p;obtain ⟨a,j,i⟩:=kl0 h;exact ⟨_,j,fun f=>by simp only [zs1,e,d,E,g,p];exact i _⟩
   ·cases h
  ·rename_i d;rw [d] at e;split at h
   ·rename_i g p;obtain ⟨a,j,i⟩:=vh2 h;exact ⟨a,j,fun f=>by simp only [zs1,e,d,g,p];exact i f⟩
   ·cases h
  ·rename_i d;rw [d] at e;split at h
   ·rename_i l m g u F;split at h
    ·cases h
    ·rename_i x;obtain ⟨a,j,i⟩:=vl1 h;refine ⟨a,j,fun f=>?_⟩;simp only [zs1,e,d,g,u,F]
     try exact i f
     all_goals first|exact i f|(split<;>first|exact i f|exact absurd rfl (by simp_all))
   ·cases h
  ·rename_i d;rw [d] at e;split at h
   ·rename_i a g;split at h
    ·rename_i b G;split at h
     ·rename_i x;exact ⟨b,h,fun f=>by simp only [zs1,e,d,g,G,x]⟩
     ·cases h
    ·cases h
   ·cases h
  ·rename_i c d;rw [d] at e;split at h
   ·cases h
   ·rename_i as k;split at h
    ·rename_i n;split at h
     ·rename_i a t s;split at h
      ·rename_i z v;exact ⟨_,h,fun f=>by simp only [zs1,e,d,k,n,s,v]⟩
      ·rename_i v;split at h
       ·rename_i z w;exact ⟨_,h,fun f=>by simp only [zs1,e,d,k,n,s,v,w]⟩
       ·cases h
     ·cases h
    ·rename_i n;split at h
     ·rename_i a q;exact ⟨_,h,fun f=>by simp only [zs1,e,d,k,n,q]⟩
     ·cases h
    ·rename_i n;split at h
     ·rename_i a q;exact ⟨_,h,fun f=>by simp only [zs1,e,d,k,n,q]⟩
     ·cases h
    ·cases h
  ·cases h
def vh3 {n sz s j K} (h:yh3 T n sz H s j K=some r):Det (fun K=>yh3 T n sz H s j K) K r:=by
 unfold yh3 at h;split at h
 ·split at h
  ·rename_i c;split at h
   ·rename_i g;split at h
    ·rename_i d;split at h
     ·rename_i b;obtain ⟨a,h⟩:=g9 h;exact ⟨_,h,fun e=>by simp only [yh3,c,g,d,b,if_pos a]⟩
     ·cases h
    ·rename_i d;obtain ⟨a,h⟩:=g9 h;exact ⟨_,h,fun e=>by simp only [yh3,c,g,d,if_pos a]⟩
   ·cases h
  ·cases h
 ·split at h
  ·rename_i b;obtain ⟨a,h⟩:=g9 h;obtain ⟨f,h⟩:=g9 h;exact ⟨_,h,fun e=>by simp only [yh3,b,if_pos a,if_pos f]⟩
  ·cases h
 ·split at h
  ·rename_i c;split at h
   ·rename_i b;obtain ⟨a,h⟩:=g9 h;obtain ⟨f,h⟩:=g9 h;exact ⟨_,h,fun e=>by simp only [yh3,c,b,if_pos a,if_pos f]⟩
   ·cases h
  ·cases h
 ·cases h
def vl2 {n sz s d a K} (h:yt7 T n sz H s d a K=some r):Det (fun K=>yt7 T n sz H s d a K) K r:=by
 unfold yt7 at h;simp only at h;split at h
 ·split at h
  ·rename_i a;split at h
   ·rename_i e;split at h
    ·rename_i f;split at h
     ·rename_i b;obtain ⟨c,h⟩:=g9 h;exact ⟨_,h,fun g=>by simp only [yt7,a,e,f,b,if_pos c]⟩
     ·cases h
    ·cases h
   ·cases h
  ·cases h
 ·split at h
  ·rename_i b;obtain ⟨c,h⟩:=g9 h;obtain ⟨i,h⟩:=g9 h;exact ⟨_,h,fun g=>by simp only [yt7,b,if_pos c,if_pos i]⟩
  ·cases h
 ·cases h
def ve4 {n sz s K} (h:yr3 T n sz H s K=some r):Det (fun K=>yr3 T n sz H s K) K r:=by
 unfold yr3 at h;split at h
 ·split at h
  ·rename_i a;obtain ⟨b,h⟩:=g9 h;exact ⟨_,h,fun c=>by simp only [yr3,a,if_pos b]⟩
  ·cases h
 ·split at h
  ·rename_i d;split at h
   ·rename_i a;obtain ⟨b,h⟩:=g9 h;exact ⟨_,h,fun c=>by simp only [yr3,d,a,if_pos b]⟩
   ·cases h
  ·cases h
 ·cases h
def kd0 {n sz f s g K} (h:yp9 T n sz f H s K (z6 g K)=some r):Det (fun K=>yp9 T n sz f H s K (z6 g K)) K r:=by
 unfold yp9 at h;split at h
 ·split at h
  ·rename_i b;obtain ⟨d,h⟩:=g9 h;exact ⟨_,h,fun c=>by simp only [yp9,b,if_pos d]⟩
  ·rename_i b;obtain ⟨a,rfl,h⟩:=za0 h;exact ⟨a,h,fun c=>by simp only [yp9,b,z6]⟩
 ·split at h
  ·rename_i e;split at h
   ·rename_i b;obtain ⟨d,h⟩:=g9 h;exact ⟨_,h,fun c=>by simp only [yp9,e,b,if_pos d]⟩
   ·rename_i b;obtain ⟨a,rfl,h⟩:=za0 h;exact ⟨a,h,fun c=>by simp only [yp9,e,b,z6]⟩
  ·rename_i e;obtain ⟨a,rfl,h⟩:=za0 h;refine ⟨a,h,fun c=>?_⟩;simp only [yp9];rfl
 ·rename_i i j;obtain ⟨a,rfl,h⟩:=za0 h;refine ⟨a,h,fun c=>?_⟩;unfold yp9;split
  ·exact absurd rfl (i _ _ _ _)
  ·exact absurd rfl (j _ _ _ _)
  ·rfl
def vh4 {n sz s j K} (h:ys5 T n sz s j K=some r):Det (fun K=>ys5 T n sz s j K) K r:=by
 unfold ys5 at h;split at h
 ·split at h
  ·rename_i a;obtain ⟨b,h⟩:=g9 h;exact ⟨_,h,fun c=>by simp only [ys5,a,if_pos b]⟩
  ·cases h
 ·split at h
  ·rename_i a d;obtain ⟨b,h⟩:=g9 h;exact ⟨_,h,fun c=>by simp only [ys5,a,d,if_pos b]⟩
  ·cases h
 ·cases h
def qd2 {e z x K}: ∀ {es},jj0 T e z x K es=some r->Det (fun K=>jj0 T e z x K es) K r
 | [],h=>⟨_,h,fun c=>rfl⟩
 |(y,a)::es,h=>by
  unfold jj0 at h;split at h
  ·rename_i d;exact ⟨_,h,fun c=>by simp only [jj0,if_pos d]⟩
  ·rename_i d;obtain ⟨b,f,g⟩:=qd2 h;exact ⟨b,f,fun c=>by simp only [jj0,if_neg d];exact g c⟩
def kd1 {t d m e x K} (h:jp0 T P t d H m e x K=some r):Det (fun K=>jp0 T P t d H m e x K) K r:=by
 unfold jp0 at h;split at h
 ·rename_i f;split at h
  ·rename_i a;split at h
   ·rename_i c i;obtain ⟨b,j,k⟩:=qd2 h;exact ⟨b,j,fun g=>by simp only [jp0,f,a,c,i];exact k g⟩
   ·cases h
  ·rename_i a;split at h
   ·rename_i c;exact ⟨_,h,fun g=>by simp only [jp0,f,a,c]⟩
   ·cases h
  ·cases h
 ·cases h
def kj4 {st:St T} {K:AV T.U->Option R} (h:yq9 P o st K=some r):Det (fun K=>yq9 P o st K) K r:=by
 unfold yq9 at h;split at h
 ·rename_i c;split at h
  ·rename_i d f j;obtain ⟨a,e,g⟩:=vh3 h;exact ⟨a,e,fun i=>by simp only [yq9,c,d,f,j];exact g i⟩
  ·cases h
 ·rename_i c;split at h
  ·rename_i d f j k;obtain ⟨a,e,g⟩:=vh4 h;exact ⟨a,e,fun i=>by simp only [yq9,c,d,f,j,k];exact g i⟩
  ·cases h
 ·rename_i c;split at h
  ·rename_i d f l m;obtain ⟨a,e,g⟩:=vl2 h;exact ⟨a,e,fun i=>by simp only [yq9,c,d,f,l,m];exact g i⟩
  ·cases h
 ·rename_i c;split at h
  ·rename_i d f;obtain ⟨a,e,g⟩:=ve4 h;exact ⟨a,e,fun i=>by simp only [yq9,c,d,f];exact g i⟩
  ·cases h
 ·rename_i c;split at h
  ·rename_i d f;obtain ⟨a,e,g⟩:=kd0 h;exact ⟨a,e,fun i=>by simp only [yq9,c,d,f];exact g i⟩
  ·cases h
 ·rename_i c;split at h
  ·rename_i a f;split at h
   ·rename_i n;exact ⟨a,h,fun i=>by simp only [yq9,c,f,n]⟩
   ·cases h
  ·cases h
 ·rename_i c;split at h
  ·rename_i p f;obtain ⟨b,e,g⟩:=kd1 h;simp only at e;split at e
   ·rename_i q;exact ⟨b,e,fun i=>by simp only [yq9,c,p,f];refine (g _).trans ?_;simp only [q]⟩
   ·cases e
  ·cases h
 ·cases h
def kj2 {st:St T} {K:AV T.U->Option R} (h:ya2 P o st K=some r):Det (fun K=>ya2 P o st K) K r:=by
 unfold ya2 at h;split at h
 ·rename_i b;obtain ⟨a,c,d⟩:=kj4 h;exact ⟨a,c,fun e=>by simp only [ya2,b];exact d e⟩
 ·rename_i b;obtain ⟨a,c,d⟩:=kj3 h;exact ⟨a,c,fun e=>by simp only [ya2,b];exact d e⟩
def wrA (C:Ctx T) (o:Oper) (st:St T):List Nat:=
 match o.op with
 | .store _ x _=>match aev T st.F x with|some a=>a.ids|none=> []
 | .insert _ m _ _=>match aev T st.F m with|some a=>a.ids|none=> []
 | .mapUpdate _ m _ _=>match aev T st.F m with|some a=>a.ids|none=> []
 | .convert _ d x=>match C.ty d,aev T st.F x with|some _,some a=>a.ids|_,_=> []
 | .call c=>match zx4 T st.F c.args.toList with
  |none=> []
  |some as=>match c.callee with
   | .value f=>match aev T st.F f with
    |some (.fn (.func g) first b)=>(match qn3 C.E g with|some cs=>cs.wr (first++as++b) st.H|none=> [])
    |_=> []
   | .builtin .append=>match as with|s::_=>s.ids| []=> []
   | .builtin .clear=>match as with|s::_=>s.ids| []=> []
   | .builtin .delete=>match as with|s::_=>s.ids| []=> []
   |_=> []
 |_=> []
def Keeps.refl (l):Keeps T l H H:=⟨W8 _,fun _ _ _=>rfl,fun _ _ _ ys _ h=>⟨ys,h⟩⟩
def Keeps.app {l es}:Keeps T l H (H++es):=
 ⟨by simp,fun e a _=>X8 a,fun e ty t ys a h=>⟨ys,by rwa [X8 a] at h⟩⟩
def Keeps.set {l i x} (c:i∈l) (d: ∀(ty:TypeId) (t:Ty) (ys:List (den T.U t)),x=.row ty t ys-> ∃xs,H[i]?=some (.row ty t xs)):Keeps T l H (H.set i x):=by
 refine ⟨by simp,fun e b f=>?_,fun e ty t ys b h=>?_⟩
 ·rw [Z5 (fun g:i=e=>f (g▸c))]
 ·by_cases a:i=e
  ·subst a;rw [Q0 b] at h;simp only [X0] at h;exact d ty t ys h
  ·rw [Z5 a] at h;exact ⟨ys,h⟩
def Keeps.setApp {l i x es} (h:Keeps T l H (H.set i x)):Keeps T l H (H.set i x++es):=by
 refine ⟨by simp,fun e a c=>?_,fun e ty t ys a b=>?_⟩
 ·rw [X8 (by simpa using a)];exact h.same e a c
 ·rw [X8 (by simpa using a)] at b;exact h.row e ty t ys a b
def qi7 {t p a H1} (h:jm4 T P t H p a=some H1):Keeps T p.ids H H1:=by
 unfold jm4 at h;split at h
 ·split at h
  ·rename_i i o0 e cs b;split at h
   ·simp only [X0] at h;subst h;exact .set (by simp [AV.ids]) fun _ _ _ h=>by cases h
   ·cases h
  ·cases h
 ·split at h
  ·split at h
   ·split at h
    ·simp only [X0] at h;subst h;exact .set (by simp [AV.ids]) fun _ _ _ h=>by cases h
    ·cases h
   ·cases h
  ·cases h
 ·split at h
  ·rename_i i o0 c d e ty xs b;split at h
   ·split at h
    ·rename_i y f;simp only [X0] at h;subst h;refine .set (by simp [AV.ids]) fun ty' g ys h=>?_;simp only [Ent.row.injEq] at h;obtain ⟨rfl,rfl,_⟩:=h;exact ⟨xs,b⟩
    ·cases h
   ·cases h
  ·cases h
 ·cases h
def jo7 {t m b x a H1} (h:gi5 T P t H m b x a=some H1):Keeps T m.ids H H1:=by
 unfold gi5 at h;split at h
 ·split at h
  ·split at h
   ·simp only [X0] at h;subst h;exact .set (by simp [AV.ids]) fun _ _ _ h=>by cases h
   ·cases h
  ·split at h
   ·simp only [X0] at h;subst h;exact .set (by simp [AV.ids]) fun _ _ _ h=>by cases h
   ·cases h
  ·cases h
 ·cases h
def vf5 {t m a x H1} (h:wf6 T P t H m a x=some H1):Keeps T m.ids H H1:=by
 unfold wf6 at h;split at h<;>try (cases h;done)
 split at h<;>try (cases h;done)
 split at h<;>try (cases h;done)
 simp only [X0] at h;subst h;exact .set (by simp [AV.ids]) fun _ _ _ h=>by cases h
abbrev Det2 (f: {R:Type}->(AV T.U->List (Ent T.U)->Option R)->Option R) (K:AV T.U->List (Ent T.U)->Option R) (l:List Nat) (H:List (Ent T.U)) (r:R):Prop:=
 ∃a H1,K a H1=some r/\Keeps T l H H1/\ ∀ {c:Type} (b:AV T.U->List (Ent T.U)->Option c),f b=b a H1
def ge4 {R:Type} {r:R} {ty:Ty} {a:AV T.U} {K:List (den T.U ty)->Option R} (h:appA.rowX T ty H a K=some r): ∃xs,K xs=some r/\ ∀ {f:Type} (b:List (den T.U ty)->Option f),appA.rowX T ty H a b=b xs:=by
 unfold appA.rowX at h;split at h
 ·rename_i c;exact ⟨_,h,fun b=>by simp only [appA.rowX,c]⟩
 ·rename_i c;split at h<;>try (cases h;done)
  split at h<;>try (cases h;done)
  rename_i g;split at h<;>try (cases h;done)
  rename_i d;split at h<;>try (cases h;done)
  rename_i i;split at h<;>try (cases h;done)
  rename_i e;exact ⟨_,h,fun b=>by simp only [appA.rowX,c,g,d,dif_pos i,if_pos e]⟩
def kt8 {ty t s x K} (h:appA T P ty t H s x K=some r):Det2 (fun K=>appA T P ty t H s x K) K s.ids H r:=by
 unfold appA at h;split at h
 ·rename_i a;split at h
  ·rename_i b;split at h
   ·rename_i xs c;obtain ⟨ys,h,d⟩:=ge4 h;obtain ⟨e,h⟩:=g9 h;refine ⟨_,_,h,?_,fun f=>by simp only [appA,a,b,c,d,if_pos e]⟩;unfold appA.goneA;split
    ·exact (Keeps.set (by simp [AV.ids]) fun _ _ _ h=>by cases h).setApp
    ·exact .app
   ·cases h
  ·cases h
 ·cases h
def kd6 {ty t l c K} (h:qa4 T P ty t H l c K=some r) (w):Det2 (fun K=>qa4 T P ty t H l c K) K w H r:=by
 unfold qa4 at h;split at h
 ·rename_i a;split at h
  ·rename_i b d;split at h
   ·rename_i e;obtain ⟨f,h⟩:=g9 h;exact ⟨_,_,h,.app,fun g=>by simp only [qa4,a,b,d,e,if_pos f]⟩
   ·cases h
  ·cases h
 ·cases h
def vf0 {t s K} (h:yr8 T P t H s K=some r):Det2 (fun K=>yr8 T P t H s K) K s.ids H r:=by
 unfold yr8 at h;split at h<;>try (cases h;done)
 ·split at h<;>try (cases h;done)
  rename_i a b;exact ⟨_,_,h,.set (by simp [AV.ids]) (fun ty' c ys h=>by cases h),fun d=>by simp only [yr8,a,b]⟩
 split at h<;>try (cases h;done)
 rename_i a;split at h<;>try (cases h;done)
 rename_i e;split at h<;>try (cases h;done)
 rename_i f g;split at h<;>try (cases h;done)
 rename_i i;obtain ⟨j,h⟩:=g9 h;refine ⟨_,_,h,.set (by simp [AV.ids]) fun ty' c ys h=>?_,fun d=>by simp only [yr8,a,e,f,g,i,if_pos j]⟩;simp only [Ent.row.injEq] at h;obtain ⟨rfl,rfl,_⟩:=h;exact ⟨_,a⟩
def ka7 (G:zb4 T P C.E) {c} (j:o.op=.call c) {st K F} (h:yo6 P C c st K F=some r):
  (∃a H1,K a H1=some r/\Keeps T (wrA C o st) st.H H1/\ ∀ {B:Type} (n d:AV T.U->List (Ent T.U)->Option B),yo6 P C c st n d=n a H1)\/ ∃a H1,F a H1=some r/\Keeps T (wrA C o st) st.H H1/\ ∀ {B:Type} (n d:AV T.U->List (Ent T.U)->Option B),yo6 P C c st n d=d a H1:=by
 unfold yo6 at h;split at h
 ·cases h
 ·rename_i as b;split at h
  ·rename_i f i;split at h
   ·rename_i g first p z
    split at h
    ·rename_i cs A k;split at h
     ·rename_i q;rcases (G g cs k).2.2 _ _ _ _ _ h with ⟨a,H1,u,v,w⟩|⟨a,H1,u,v,w⟩
      ·refine .inl ⟨a,H1,u,?_,fun n d=>by simp only [yo6,b,i,z,A,k,q,w]⟩;have:wrA C o st=cs.wr (first++as++p) st.H:=by simp only [wrA,j,b,i,z,k]
       rw [this];exact v
      ·refine .inr ⟨a,H1,u,?_,fun n d=>by simp only [yo6,b,i,z,A,k,q,w]⟩;have:wrA C o st=cs.wr (first++as++p) st.H:=by simp only [wrA,j,b,i,z,k]
       rw [this];exact v
     ·cases h
    ·cases h
   ·cases h
  ·rename_i i;split at h
   ·rename_i s x t I l;split at h
    ·rename_i e D A;obtain ⟨a,H1,u,v,w⟩:=kt8 h;refine .inl ⟨a,H1,u,?_,fun n d=>by simp only [yo6,b,i,l,D,A,w]⟩;have:wrA C o st=s.ids:=by simp only [wrA,j,b,i]
     rw [this];exact v
    ·cases h
   ·cases h
  ·rename_i i;split at h
   ·rename_i s t l;obtain ⟨a,H1,u,v,w⟩:=vf0 h;refine .inl ⟨a,H1,u,?_,fun n d=>by simp only [yo6,b,i,l,w]⟩;have:wrA C o st=s.ids:=by simp only [wrA,j,b,i]
    rw [this];exact v
   ·cases h
  ·rename_i i;split at h
   ·rename_i m J x t at2 l;split at h<;>try (cases h;done)
    rename_i H1 y;refine .inl ⟨_,H1,h,?_,fun n d=>by simp only [yo6,b,i,l,y]⟩;have:wrA C o st=m.ids:=by simp only [wrA,j,b,i]
    rw [this];exact vf5 y
   ·cases h
  ·cases h
def yr2 (hE:zb4 T P C.E) {st K Y} (h:stepA P C o st K Y=some r):
  (∃a H1,K ⟨zb2 T st.F o.dst a,H1⟩=some r/\Keeps T (wrA C o st) st.H H1/\ ∀ {u:Type} (j:St T->Option u) (g:AV T.U->St T->Option u),stepA P C o st j g=j ⟨zb2 T st.F o.dst a,H1⟩)\/ ∃a B,Y a B=some r/\Keeps T (wrA C o st) st.H B.H/\ ∀ {u:Type} (j:St T->Option u) (g:AV T.U->St T->Option u),stepA P C o st j g=g a B:=by
 have m:ya2 P o st (fun a=>K ⟨zb2 T st.F o.dst a,st.H⟩)=some r->(∀ {u:Type} (j:St T->Option u) (g:AV T.U->St T->Option u),stepA P C o st j g=ya2 P o st fun a=>j ⟨zb2 T st.F o.dst a,st.H⟩)->
   ∃a H1,K ⟨zb2 T st.F o.dst a,H1⟩=some r/\Keeps T (wrA C o st) st.H H1/\ ∀ {u:Type} (j:St T->Option u) (g:AV T.U->St T->Option u),stepA P C o st j g=j ⟨zb2 T st.F o.dst a,H1⟩:=by
  intro h D;obtain ⟨a,p,q⟩:=kj2 h;exact ⟨a,st.H,p,.refl _,fun j g=>by rw [D];exact q _⟩
 unfold stepA at h;simp only at h;split at h
 ·rename_i f;split at h
  ·rename_i cs hz;split at h
   ·rename_i cs' z;exact .inl ⟨_,_,h,.app,fun j g=>by simp only [stepA,f,hz,z]⟩
   ·cases h
  ·cases h
 ·rename_i f;split at h
  ·rename_i a Q;split at h
   ·rename_i S;exact .inl ⟨_,_,h,.app,fun j g=>by simp only [stepA,f,Q,S]⟩
   ·cases h
  ·cases h
 ·rename_i f;split at h
  ·rename_i G n;exact .inl ⟨_,_,h,.app,fun j g=>by simp only [stepA,f,G,n]⟩
  ·rename_i G n;exact .inl ⟨_,_,h,.app,fun j g=>by simp only [stepA,f,G,n]⟩
  ·cases h
 ·rename_i f;split at h
  ·rename_i k J A V;split at h
   ·rename_i H1 I L;refine .inl ⟨.raw undef,H1,by rw [k];exact h,?_,fun j g=>by simp only [stepA,f,k,J,A,V,I,L];rfl⟩;have: ∀l,wrA C o st=l->Keeps T l st.H H1:=by
     intro l v;rw [<-v];simp only [wrA,f,J];exact jo7 L
    exact this _ rfl
   ·cases h
  ·cases h
 ·rename_i f;split at h
  ·rename_i k J A V;split at h
   ·rename_i H1 I L;refine .inl ⟨.raw undef,H1,by rw [k];exact h,?_,fun j g=>by simp only [stepA,f,k,J,A,V,I,L];rfl⟩;have: ∀l,wrA C o st=l->Keeps T l st.H H1:=by
     intro l v;rw [<-v];simp only [wrA,f,J];exact jo7 L
    exact this _ rfl
   ·cases h
  ·cases h
 ·rename_i f;split at h
  ·rename_i k A X;split at h
   ·rename_i H1 z;refine .inl ⟨.raw undef,H1,by rw [k];exact h,?_,fun j g=>by simp only [stepA,f,k,A,X,z];rfl⟩;have: ∀l,wrA C o st=l->Keeps T l st.H H1:=by
     intro l v;rw [<-v];simp only [wrA,f,A];exact qi7 z
    exact this _ rfl
   ·cases h
  ·cases h
 ·rename_i f;split at h
  ·rename_i A X D;obtain ⟨a,H1,p,q,w⟩:=kd6 h (wrA C o st);exact .inl ⟨a,H1,p,q,fun j g=>by simp only [stepA,f,A,X,D];exact w _⟩
  ·cases h
 ·rename_i f;split at h
  ·rename_i l ty z D;split at h
   ·rename_i e xs M;exact .inl ⟨_,_,h,.app,fun j g=>by simp only [stepA,f,z,D,M]⟩
   ·cases h
  ·rename_i l z D;split at h
   ·rename_i e sz cs M;exact .inl ⟨_,_,h,.app,fun j g=>by simp only [stepA,f,z,D,M]⟩
   ·cases h
  ·cases h
 ·rename_i c f;split at h
  ·rename_i N;exact .inl (m h fun j g=>by simp only [stepA,f,N])
  ·rename_i N;rcases ka7 hE f h with ⟨a,H1,p,q,w⟩|⟨a,H1,p,q,w⟩
   ·exact .inl ⟨a,H1,p,q,fun j g=>by simp only [stepA,f,N];exact w _ _⟩
   ·exact .inr ⟨a,⟨st.F,H1⟩,p,q,fun j g=>by simp only [stepA,f,N];exact w _ _⟩
 ·rename_i s d x f;split at h
  ·rename_i e b p q w;split at h
   ·rename_i O;exact .inl ⟨_,_,h,.refl _,fun j g=>by simp only [stepA,f,p,q,w,O]⟩
   ·cases h
  ·rename_i e i p q w;split at h
   ·rename_i y xs M n O Z;refine .inl ⟨_,_,h,.set (l:=wrA C o st) ?_ (fun _ _ _ h=>by cases h),fun j g=>by simp only [stepA,f,p,q,w,M,n,O,Z]⟩;simp [wrA,f,w,n,AV.ids]
   ·cases h
  ·rename_i hn;refine .inl (m h fun j g=>?_);unfold stepA;simp only [f]
 ·rename_i x f;split at h
  ·rename_i t a Q;exact .inr ⟨_,_,h,.refl _,fun j g=>by simp only [stepA,f,Q]⟩
  ·cases h
 ·rename_i p q w O Z h6 h7 h8 h9 h10 h11;refine .inl (m h fun j g=>?_);unfold stepA;simp only
end
end Go.X
namespace Go.X
open Go.RowKit Go.V
section
variable {T:Tab} {P:Program} {C:Ctx T} {w w':World} {S S':List Nat} {φ φ':Nat->RA} {w0:World} {S0:Ow} {F:AF T} {H:List (Ent T.U)} {F':PF}
variable {ops:Array Oper} {Q:Exit->Act->World->Prop} {k n:Nat} {ds:List Deferred} {o:Oper}
def Oper.wp_and {o:Oper} {a:Act} {w:World} {K K':Act->World->Prop} {Q Q':Exit->Act->World->Prop} (hK: ∀v w,K (a.put o.dst v) w->K' (a.put o.dst v) w) (hd: ∀(d:Deferred) w',K ({a with defers:=d::a.defers}.put o.dst undef) w'->False) (hQ: ∀e a w,e≠.normal->Q e a w->False)
  (h:o.wp P a w K Q):o.wp P a w K' Q':=by
 unfold Oper.wp at h⊢;generalize (execOp a.eval o).run P w=r at h⊢;unfold Oper.upon at h⊢;split at h
 ·exact hK _ _ h
 ·exact hK _ _ h
 ·exact (hd _ _ h).elim
 ·refine h.mono fun e w' hq=>?_;cases e with
  |returned v=>exact hK _ _ hq
  |panicked ch=>exact (hQ _ _ _ (by simp) hq).elim
  |outgrown=>obtain ⟨a1,w1,h1⟩:=hq;exact (hQ _ _ _ (by simp) h1).elim
 ·exact h.mono fun v w' hq=>hK _ _ hq
 ·exact (hQ _ _ _ (by simp) h).elim
 ·exact h.elim
def jw1 {o:Oper} {g a w K Q} (h:({o with guard:=g}:Oper).wp P a w K Q):o.wp P a w K Q:=h
def zu2 (L:zb4 T P C.E) {f} (M:stepA P C o ⟨F,H⟩ some (fun _ _=>none)=some f) (p:zi4 n o.dst=true) (u:zc6 o=true) (q:zt5 F o=true) (h:Sim T w0 S0 ⟨F,H⟩ F' w S φ) {a} (x:Fr n ds F' a):
  o.wp P a w (fun r w'=> ∃c,zc4 T w0 S0 f c w'/\Fr n ds c r/\ ∃v,r=a.put o.dst v) Q:=by
 let o':Oper:= {o with guard:=none}
 have G:dec #[o'] 0 n F'=some o':=by
  unfold dec;have j:zx3 #[o'] F' o'=some true:=rfl;have N:ye8 F' o'=true:=yq4 (o:=o') h.fr q;have b:zi4 n o'.dst=true:=p;have s:zc6 o'=true:=u;simp only [List.getElem?_toArray,Y4,j,N,b,s,M6]
 have y:stepA P C o' ⟨F,H⟩ some (fun _ _=>none)=some f:=by
  cases o;exact M
 have z:=ze2 (Q:=fun e r w'=>e=.normal/\ ∃c,zc4 T w0 S0 f c w'/\Fr n ds c r) (ds:=ds) L G y h (fun st i c t b=>by
  simp only [X0] at i;subst i;exact WR.fin (by rfl) fun I A=>⟨rfl,c,b,A⟩) (fun a st i=>by cases i)
 have j:=z a x;unfold wpList at j;have l:Region.wanted o' (yielded #[o'] a.tmps)=true:=by
  have:=(zi2 G).2.2.2.2 x;exact this
 have m:(#[o']:Array Oper).toList.drop 0= [o']:=rfl;rw [m] at j;simp only [l,if_true] at j;rcases j with j|⟨_,I,t,b,_⟩
 ·refine jw1 (g:=none) (Oper.wp_and (o:=o') (K:=wpList P #[o'] _ []) ?_ ?_ ?_ j)
  ·rintro v t b
   unfold wpList at b;obtain ⟨_,c,s,B⟩:=b;exact ⟨c,s,B,v,rfl⟩
  ·rintro d t b
   unfold wpList at b;obtain ⟨_,c,s,B⟩:=b;have J:=B.defers;have O:({a with defers:=d::a.defers}.put o'.dst undef).defers=d::a.defers:=by cases o'.dst<;>rfl
   rw [O,x.defers] at J;exact absurd (congrArg List.length J) (by simp)
  ·rintro e I t D ⟨rfl,_⟩
   exact D rfl
 ·cases b
def Sim.frame2 (h:Sim T w0 S0 ⟨F,H⟩ F' w S φ) {tch:List Nat} {nb Fc Fc'} {H1 H2:List (Ent T.U)} {S1 B}
  (D:Sim T w ⟨tch.flatMap fun e=>(φ e).all,S,(List.range nb).map φ⟩ ⟨Fc,H1⟩ Fc' w' S1 B) (hnb:nb<=H1.length) (hl:H1.length<=H.length) (hpin:S0.pin.length<=nb)
  (J: ∀e∈tch,e<nb/\ ∃x,H[e]?=some x/\x.live=true) (hfree: ∀e,nb<=e->e<H1.length->H[e]?=some .gone) (N:H2.length=H.length)
  (h2: ∀(e:Nat) (f:Ent T.U),H2[e]?=some f->(e∈tch/\H1[e]?=some f)\/(nb<=e/\H1[e]?=some f)\/(e∉tch/\(e<nb\/H1.length<=e)/\H[e]?=some f))
  (hrow: ∀(e:Nat) (ty:TypeId) (t:Ty) (ys:List (den T.U t)),e∈tch->H1[e]?=some (.row ty t ys)-> ∃xs,H[e]?=some (.row ty t xs))
  (hFid: ∀t a,F.get T t=some a-> ∀i∈a.ids,i<nb\/H1.length<=i) (hHid: ∀(e:Nat) (f:Ent T.U),H[e]?=some f->(e<nb\/H1.length<=e)-> ∀i∈f.cellIds,i<nb\/H1.length<=i):
  ∃m,Sim T w0 S0 ⟨F,H2⟩ F' w' S1 m/\ ∀a v,VR T w' S1 B a v->(∀i∈a.ids,i<H1.length)->VR T w' S1 m a v:=by
 let m:Nat->RA:=fun i=>if i<H1.length/\(i∈tch\/nb<=i) then B i else φ i
 have hp: ∀i,i<nb->RSame (B i) (φ i):=fun i M=>(D.pins i (φ i) (by simp [M])).1;have p: ∀i,i<H1.length->(i∈tch\/nb<=i)->m i=B i:=fun i M h=>if_pos ⟨M,h⟩;have s: ∀i,i∉tch->(i<nb\/H1.length<=i)->m i=φ i:=fun i h M=>if_neg fun q=>q.2.elim h fun q2=>by have:=q.1;omega
 have hin: ∀i,i<H1.length->RSame (m i) (B i):=fun i M=>by
  by_cases h:i∈tch\/nb<=i
  ·exact .of (p i M h)
  ·rw [not_or] at h;rw [s i h.1 (by omega)];exact (hp i (by omega)).symm
 have O: ∀i,(i<nb\/H1.length<=i)->RSame (m i) (φ i):=fun i M=>by
  by_cases h:i∈tch
  ·have:=(J i h).1;rw [p i (by omega) (.inl h)];exact hp i this
  ·exact .of (s i h M)
 have hT: ∀b∈tch.flatMap (fun e=>(φ e).all),∃e∈tch,∃a,At (φ e) a/\a.block=b:=by
  intro b l;obtain ⟨e,he,l⟩:=K4.1 l;exact ⟨e,he,zu0.1 l⟩
 have hTS: ∀b∈tch.flatMap (fun e=>(φ e).all),b∈S:=by
  intro b l;obtain ⟨e,he,a,d,rfl⟩:=hT b l;obtain ⟨_,x,K,E⟩:=J e he;exact zh2 h K E d
 have hTc: ∀b∈tch.flatMap (fun e=>(φ e).all),b∈S0.chg\/w0.heap.size<=b:=by
  intro b l;obtain ⟨e,he,a,d,rfl⟩:=hT b l;obtain ⟨_,x,K,E⟩:=J e he;exact (h.lives e x K E a d).2
 have hS1: ∀b∈S1,b∈S\/w.heap.size<=b:=fun b l=>(D.own b l).1;refine ⟨m,⟨?_,?_,h.chg.step D.chg hTc,fun b l=>⟨?_,(D.own b l).2⟩,fun b l q1 q2=>D.ex b (h.ex b l q1 q2) (fun R=>(hTc b R).elim q1 fun R=>by omega) (h.own b (h.ex b l q1 q2)).2,?_,fun k r hk=>?_,?_,?_,?_⟩,fun a v hv M=>hv.phiS fun i R=>hin i (M i R)⟩
 ·intro i a d;obtain ⟨v,u,L⟩:=h.fr i a d;exact ⟨v,u,(L.chg T D.chg hTS hS1).phiS fun j hj=>O j (hFid i a d j hj)⟩
 ·intro i a d;obtain ⟨u,L⟩:=h.ids i a d;refine ⟨fun j hj=>by have:=u j hj;simp only [N] at this⊢;exact this,?_⟩;cases a with
  |eptr y sz k c=>
   intro e t xs K;have hy:=hFid i _ d y (by simp [AV.ids]);rcases h2 y _ K with ⟨V,G⟩|⟨V,G⟩|⟨_,_,G⟩
   ·obtain ⟨zs,g5⟩:=hrow y _ _ _ V G;obtain ⟨q4,q5⟩:=L _ _ _ g5;obtain ⟨_,_,_,n1,_⟩:=h.ents y _ g5;obtain ⟨_,_,_,n2,_⟩:=D.ents y _ G;rw [(hp y (J y V).1).2.1] at n2;exact ⟨by omega,q5⟩
   ·have:=(X2.1 G).1;omega
   ·exact L e t xs G
  |_=>trivial
 ·rcases (D.own b l).1 with l|l
  ·exact (h.own b l).1
  ·exact .inr (U5 h.chg.size l)
 ·intro e f hf z a d;have cal:H1[e]?=some f->At (B e) a->a.block∈S1/\(a.block∈S0.chg\/w0.heap.size<=a.block):=fun G d=>by
   refine ⟨(D.lives e f G z a d).1,?_⟩;rcases (D.lives e f G z a d).2 with R|R
   ·exact hTc _ R
   ·exact .inr (U5 h.chg.size R)
  rcases h2 e f hf with ⟨u,G⟩|⟨u,G⟩|⟨g0,u,G⟩
  ·rw [p e (X2.1 G).1 (.inl u)] at d;exact cal G d
  ·rw [p e (X2.1 G).1 (.inr u)] at d;exact cal G d
  ·rw [s e g0 u] at d;have q:=h.lives e f G z a d;refine ⟨D.ex _ q.1 (fun l=>?_) (h.own _ q.1).2,q.2⟩;obtain ⟨e',I,a',X,Y⟩:=hT _ l;obtain ⟨_,x,K,E⟩:=J e' I;exact h.apart e e' f x G K z E (fun q=>g0 (q▸I)) a a' d X Y.symm
 ·obtain ⟨u,L⟩:=h.pins k r hk;have hk':=(X2.1 hk).1;exact ⟨(O k (.inl (by omega))).trans u,by simp only [N] at L⊢;exact L⟩
 ·intro e f hf;have hcE:(e∈tch\/nb<=e)->H1[e]?=some f->EntR T w' S1 m e f:=fun q g=>
   (D.ents e f g).phiE (p e (X2.1 g).1 q) fun x K=>hin x (D.eids e f g x K)
  rcases h2 e f hf with ⟨q,g⟩|⟨q,g⟩|⟨u,L,V⟩
  ·exact hcE (.inl q) g
  ·exact hcE (.inr q) g
  ·have hnot:f.live=true-> ∀a,At (φ e) a->a.block∉tch.flatMap (fun e=>(φ e).all):=fun hl a d l=>by
    obtain ⟨e',I,a',X,Y⟩:=hT _ l;obtain ⟨_,x,K,E⟩:=J e' I;exact h.apart e e' f x V K hl E (fun q=>u (q▸I)) a a' d X Y.symm
   have h1:=(h.ents e f V).chg T D.chg hTS hS1 fun hl a d=>⟨hnot hl a d,D.ex _ (zh2 h V hl d) (hnot hl a d) (h.own _ (zh2 h V hl d)).2⟩;exact h1.phiE (s e u L) fun x K=>O x (hHid e f V L x K)
 ·intro e f hf j hj;simp only [N];rcases h2 e f hf with ⟨_,g⟩|⟨_,g⟩|⟨_,_,g⟩
  ·have:=D.eids e f g j hj;simp only at this;omega
  ·have:=D.eids e f g j hj;simp only at this;omega
  ·exact h.eids e f g j hj
 ·have side: ∀(e:Nat) (f:Ent T.U),H2[e]?=some f->(H1[e]?=some f/\m e=B e)\/(e∉tch/\H[e]?=some f/\m e=φ e):=by
   intro e f hf;rcases h2 e f hf with ⟨g0,g⟩|⟨g0,g⟩|⟨u,L,V⟩
   ·exact .inl ⟨g,p e (X2.1 g).1 (.inl g0)⟩
   ·exact .inl ⟨g,p e (X2.1 g).1 (.inr g0)⟩
   ·exact .inr ⟨u,V,s e u L⟩
  have Z: ∀(i j:Nat) (f f':Ent T.U),H1[i]?=some f->f.live=true->j∉tch->H[j]?=some f'->f'.live=true-> ∀a b,At (B i) a->At (φ j) b->a.block≠b.block:=by
   intro i j f f' M z hj hfj A a b d l;rcases (D.lives i f M z a d).2 with R|R
   ·obtain ⟨e',I,a',X,Y⟩:=hT _ R;obtain ⟨_,x,K,E⟩:=J e' I;rw [<-Y];exact h.apart e' j x f' K hfj E A (fun q=>hj (q▸I)) a' b X l
   ·have:=(h.own _ (zh2 h hfj A l)).2;omega
  intro i j f f' hf hf' z A hij a b d l;rcases side i f hf with ⟨u,L⟩|⟨g0,u,L⟩<;>rcases side j f' hf' with ⟨k1,k2⟩|⟨k0,k1,k2⟩<;>rw [L] at d<;>rw [k2] at l
  ·exact D.apart i j f f' u k1 z A hij a b d l
  ·exact Z i j f f' u z k0 k1 A a b d l
  ·exact (Z j i f' f k1 A g0 u z b a l d).symm
  ·exact h.apart i j f f' u k1 z A hij a b d l
end
end Go.X
namespace Go.X
open Go.RowKit Go.V
section
variable {T:Tab} {P:Program} {C:Ctx T} {w w':World} {S S':List Nat} {φ φ':Nat->RA} {w0:World} {S0:Ow} {F:AF T} {H:List (Ent T.U)} {F':PF}
variable {ops:Array Oper} {Q:Exit->Act->World->Prop} {k n:Nat} {ds:List Deferred} {o:Oper} {R:Type} {r:R}
def jk2 (C:Ctx T) (o:Oper) (F:AF T) (H:List (Ent T.U)):List Nat:=
 match o.op with
 | .store _ x y=>match aev T F x,aev T F y with
  |some p,some a=>match qk5 T H p a with|some _=>a.ids|none=> []
  |_,_=> []
 | .buildSlice t _ b=>match C.ty t,zx4 T F (b.toList.map Prod.snd) with|some _,some as=>v5 as|_,_=> []
 | .mapUpdate t _ _ v=>match C.ty t,aev T F v with|some _,some a=>a.ids|_,_=> []
 |_=> []
def kl9 (o:Oper) (F:AF T) (H:List (Ent T.U)):List Nat:=
 match o.op with
 | .load _ x=>match aev T F x with|some (.eptr k _ _ _)=>(match H[k]? with|some (.drow _ _ _ _ _)=> [k]|_=> [])|_=> []
 | .store _ x _=>match aev T F x with|some (.eptr k _ _ _)=>(match H[k]? with|some (.drow _ _ _ _ _)=> [k]|_=> [])|_=> []
 |_=> []
def wrF (C:Ctx T) (o:Oper) (st:St T):List Nat:=wrA C o st++(jk2 C o st.F st.H++kl9 o st.F st.H)
def Keeps.sub {l m H1} (h:Keeps T l H H1) (a: ∀i∈l,i∈m):Keeps T m H H1:=⟨h.len,fun e b c=>h.same e b fun d=>c (a e d),h.row⟩
def Keeps.trans {l H1 H2} (h:Keeps T l H H1) (b:Keeps T l H1 H2):Keeps T l H H2:=
 ⟨U5 h.len b.len,fun e a c=>(b.same e (V6 a h.len) c).trans (h.same e a c),fun e ty t ys a d=>by
  obtain ⟨xs,f⟩:=b.row e ty t ys (V6 a h.len) d;exact h.row e ty t xs a f⟩
def yb9: ∀(ids) {H},Keeps T ids H (zw5 T H ids)
 | [],H=>.refl _
 |i::r,H=>(Keeps.set (l:=i::r) (U8 ..) fun ty t ys e=>by cases e).trans ((yb9 r).sub fun j a=>Z4 _ a)
def jt7 {t x st K} (h:vg5 T t x st K=some r): ∃s a y,x=.tmp s/\st.F.get T s=some a/\K ⟨(s,zq2 T t y)::st.F,zw5 T st.H a.ids⟩=some r/\ ∀ {d:Type} (b:St T->Option d),vg5 T t x st b=b ⟨(s,zq2 T t y)::st.F,zw5 T st.H a.ids⟩:=by
 unfold vg5 at h;split at h<;>try (cases h;done)
 rename_i s;split at h<;>try (cases h;done)
 rename_i a c;obtain ⟨y,e,f⟩:=jr0 h;exact ⟨s,a,y,rfl,c,e,fun b=>by simp only [vg5,c,f]⟩
def jd8 {te:Ty}: ∀ {ps:List (Nat×Operand)} {st:St T} {K:St T->Option R} {l:List Nat},yz2 T te ps st K=some r->(∀x∈ps.map Prod.snd,∀a,aev T st.F x=some a-> ∀i∈a.ids,i∈l)->
  ∃st',K st'=some r/\Keeps T l st.H st'.H/\ ∀ {R':Type} (K':St T->Option R'),yz2 T te ps st K'=K' st'
 | [],st,K,l,h,_=>⟨st,h,.refl _,fun _=>rfl⟩
 |(j,x)::ps,st,K,l,h,hl=>by
  unfold yz2 at h;split at h<;>try (cases h;done)
  rename_i a ha;split at h
  ·rename_i cs hc;obtain ⟨st',h1,h2,h3⟩:=jd8 h fun y hy=>hl y (Z4 _ hy);exact ⟨st',h1,h2,fun K'=>by simp only [yz2,ha,hc];exact h3 K'⟩
  ·rename_i hc;obtain ⟨s,b,y,rfl,hb,h1,h2⟩:=jt7 h;have:b=a:=by have ha':st.F.get T s=some a:=ha;rw [hb] at ha';exact X5 ha'
   subst this;obtain ⟨st',h3,h4,h5⟩:=jd8 (l:=l) h1 fun z hz c hzc i hi=>by
    have hz':aev T st.F z=some c\/c=zq2 T te y:=by
     cases z with
     |tmp q=>
      have hzc:AF.get T ((s,zq2 T te y)::st.F) q=some c:=hzc;simp only [AF.get] at hzc;split at hzc
      ·exact .inr (X5 hzc).symm
      ·exact .inl hzc
     |const v=>exact .inl hzc
     |global g=>exact .inl hzc
     |func f=>exact .inl hzc
    rcases hz' with hz'|rfl
    ·exact hl z (Z4 _ hz) c hz' i hi
    ·rw [qh5] at hi;cases hi
   refine ⟨st',h3,((yb9 _).sub fun i hi=>hl _ (U8 ..) _ ha i hi).trans h4,fun K'=>?_⟩;simp only [yz2,ha,hc,h2];exact h5 K'
def kk6 (hE:zb4 T P C.E) {st K Kp} (h:zn7 P C o st K Kp=some r):
  (∃Fz a H1,K ⟨zb2 T Fz o.dst a,H1⟩=some r/\Keeps T (wrF C o st) st.H H1/\ ∀ {G:Type} (e:St T->Option G) (c:AV T.U->St T->Option G),zn7 P C o st e c=e ⟨zb2 T Fz o.dst a,H1⟩)\/ ∃a f,Kp a f=some r/\Keeps T (wrF C o st) st.H f.H/\ ∀ {G:Type} (e:St T->Option G) (c:AV T.U->St T->Option G),zn7 P C o st e c=c a f:=by
 have j:stepA P C o st K Kp=some r->(∀ {G:Type} (e:St T->Option G) (c:AV T.U->St T->Option G),zn7 P C o st e c=stepA P C o st e c)->
   (∃Fz a H1,K ⟨zb2 T Fz o.dst a,H1⟩=some r/\Keeps T (wrF C o st) st.H H1/\ ∀ {G:Type} (e:St T->Option G) (c:AV T.U->St T->Option G),zn7 P C o st e c=e ⟨zb2 T Fz o.dst a,H1⟩)\/ ∃a f,Kp a f=some r/\Keeps T (wrF C o st) st.H f.H/\ ∀ {G:Type} (e:St T->Option G) (c:AV T.U->St T->Option G),zn7 P C o st e c=c a f:=by
  intro h he;rcases yr2 hE h with ⟨a,H1,V,L,I⟩|⟨a,f,V,L,I⟩
  ·exact .inl ⟨st.F,a,H1,V,L.sub fun i u=>X4.2 (.inl u),fun e c=>by rw [he];exact I e c⟩
  ·exact .inr ⟨a,f,V,L.sub fun i u=>X4.2 (.inl u),fun e c=>by rw [he];exact I e c⟩
 unfold zn7 at h;split at h
 ·rename_i t x y d;split at h<;>try (cases h;done)
  rename_i p a hp B;split at h
  ·rename_i Z hc g;split at h<;>try (cases h;done)
   rename_i A;obtain ⟨s,b,z,rfl,hb,V,L⟩:=jt7 h;have:b=a:=by have M:st.F.get T s=some a:=B;rw [hb] at M;exact X5 M
   subst this;have kp: ∀ {H1:List (Ent T.U)},Keeps T (wrA C o ⟨(s,zq2 T Z z)::st.F,zw5 T st.H b.ids⟩) (zw5 T st.H b.ids) H1->Keeps T (wrF C o st) st.H H1:=by
    intro H1 D;refine ((yb9 _).sub (m:=wrF C o st) fun i u=>X4.2 (.inr (X4.2 (.inl ?_)))).trans (D.sub fun i u=>X4.2 (.inl ?_))
    ·simp only [jk2,d,hp,B,g];exact u
    ·have X:aev T ((s,zq2 T Z z)::st.F) x=aev T st.F x:=by
      cases x with
      |tmp q=>
       have hq:Nat.beq s q=false:=by simpa [vi2] using A
       show AF.get T ((s,zq2 T Z z)::st.F) q=_;simp only [AF.get,hq];rfl
      |_=>rfl
     simp only [wrA,d,X] at u⊢;exact u
   rcases yr2 hE V with ⟨N,H1,I,D,J⟩|⟨N,f,I,D,J⟩
   ·refine .inl ⟨_,N,H1,I,kp D,fun e c=>?_⟩;simp only [zn7,d,hp,B,hc,g,A,L];exact J e c
   ·refine .inr ⟨N,f,I,kp D,fun e c=>?_⟩;simp only [zn7,d,hp,B,hc,g,A,L];exact J e c
  ·rename_i hn;refine j h fun e c=>?_;simp only [zn7,d,hp,B]
 ·rename_i t len ps d;split at h
  ·rename_i Z as g Y
   ·have hmem: ∀(l:List Operand) (as:List (AV T.U)),zx4 T st.F l=some as-> ∀x∈l,∀a,aev T st.F x=some a-> ∀i∈a.ids,i∈v5 as:=by
     intro l;induction l with
     |nil=>intro as _ x X;cases X
     |cons z q ih=>
      intro as O x X a B i u;unfold zx4 at O;split at O<;>try (cases O;done)
      rename_i b bs hb hbs;simp only [X0] at O;subst O;rw [v5];rcases Z0.1 X with rfl|X
      ·rw [hb] at B;simp only [X0] at B;subst B;exact X4.2 (.inl u)
      ·exact X4.2 (.inr (ih bs hbs x X a B i u))
    obtain ⟨f,V,L,I⟩:=jd8 (l:=v5 as) h (hmem _ _ Y);have kp: ∀ {H1:List (Ent T.U)},Keeps T (wrA C o f) f.H H1->Keeps T (wrF C o st) st.H H1:=by
     intro H1 J;refine (L.sub (m:=wrF C o st) fun i u=>X4.2 (.inr (X4.2 (.inl ?_)))).trans (J.sub fun i u=>?_)
     ·simp only [jk2,d,g,Y];exact u
     ·simp only [wrA,d] at u;cases u
    rcases yr2 hE V with ⟨N,H1,D,J,h6⟩|⟨N,st2,D,J,h6⟩
    ·refine .inl ⟨_,N,H1,D,kp J,fun e c=>?_⟩;simp only [zn7,d,g,Y,I];exact h6 e c
    ·refine .inr ⟨N,st2,D,kp J,fun e c=>?_⟩;simp only [zn7,d,g,Y,I];exact h6 e c
  ·rename_i hn;refine j h fun e c=>?_;simp only [zn7,d]
 ·rename_i t m x v d;split at h
  ·rename_i Z a g B;split at h
   ·rename_i hc;split at h<;>try (cases h;done)
    rename_i A;obtain ⟨s,b,z,rfl,hb,V,L⟩:=jt7 h;have:b=a:=by have M:st.F.get T s=some a:=B;rw [hb] at M;exact X5 M
    subst this;have kp: ∀ {H1:List (Ent T.U)},Keeps T (wrA C o ⟨(s,zq2 T Z z)::st.F,zw5 T st.H b.ids⟩) (zw5 T st.H b.ids) H1->Keeps T (wrF C o st) st.H H1:=by
     intro H1 D;refine ((yb9 _).sub (m:=wrF C o st) fun i u=>X4.2 (.inr (X4.2 (.inl ?_)))).trans (D.sub fun i u=>X4.2 (.inl ?_))
     ·simp only [jk2,d,g,B];exact u
     ·have X:aev T ((s,zq2 T Z z)::st.F) m=aev T st.F m:=by
       cases m with
       |tmp q=>
        have hq:Nat.beq s q=false:=by
         rw [X3] at A;simpa [vi2] using A.1
        show AF.get T ((s,zq2 T Z z)::st.F) q=_;simp only [AF.get,hq];rfl
       |_=>rfl
      simp only [wrA,d,X] at u⊢;exact u
    rcases yr2 hE V with ⟨N,H1,I,D,J⟩|⟨N,f,I,D,J⟩
    ·refine .inl ⟨_,N,H1,I,kp D,fun e c=>?_⟩;simp only [zn7,d,g,B,hc,A,L];exact J e c
    ·refine .inr ⟨N,f,I,kp D,fun e c=>?_⟩;simp only [zn7,d,g,B,hc,A,L];exact J e c
   ·rename_i cs hc;refine j h fun e c=>?_;simp only [zn7,d,g,B,hc]
  ·rename_i hn;refine j h fun e c=>?_;simp only [zn7,d]
 ·rename_i hn1 hn2 hn3;refine j h fun e c=>?_;unfold zn7;split
  ·rename_i d;exact (hn1 _ _ _ d).elim
  ·rename_i d;exact (hn2 _ _ _ d).elim
  ·rename_i d;exact (hn3 _ _ _ _ d).elim
  ·rfl
def openH_keeps {k e d fe xs a}:Keeps T [k] H (yl6 T H k e d fe xs a):=by
 refine ⟨by unfold yl6;simp,fun i f g=>?_,fun i ty t ys f b=>?_⟩
 ·unfold yl6;rw [X8 (by simpa using f),Z5 (fun q=>g (by simp [q]))]
 ·unfold yl6 at b;rw [X8 (by simpa using f)] at b;by_cases c:i=k
  ·subst c;rw [Q0 f] at b;cases b
  ·rw [Z5 (Ne.symm c)] at b;exact ⟨ys,b⟩
def qg8 {k e d fe xs op}:Keeps T [k] H (H.set k (.drow e d fe xs op)):=
 Keeps.set (U8 ..) fun ty t ys e=>by cases e
def kc9 {t k sz a c e d fe xs op K} (h:yv1 P t H k sz a c e d fe xs op K=some r):
  ∃u H1,K u H1=some r/\Keeps T [k] H H1/\ ∀ {q:Type} (g:AV T.U->List (Ent T.U)->Option q),yv1 P t H k sz a c e d fe xs op g=g u H1:=by
 unfold yv1 at h;split at h<;>try (cases h;done)
 rename_i b;split at h
 ·split at h<;>try (cases h;done)
  rename_i v p;split at h
  ·rename_i l;obtain ⟨i,j⟩:=g9 h;exact ⟨v,H,j,.refl _,fun g=>by simp only [yv1,b,p,l,if_pos i]⟩
  ·rename_i l;split at h<;>try (cases h;done)
   rename_i u m;split at h<;>try (cases h;done)
   rename_i f;obtain ⟨i,j⟩:=g9 h;exact ⟨u,_,j,openH_keeps,fun g=>by simp only [yv1,b,p,l,m,f,if_pos i]⟩
 ·split at h<;>try (cases h;done)
  rename_i u m;split at h<;>try (cases h;done)
  rename_i f;obtain ⟨i,j⟩:=g9 h;exact ⟨u,H,j,.refl _,fun g=>by simp only [yv1,b,m,f,if_pos i]⟩
def vl4 {t k sz a c e d fe xs op v K} (h:yi1 P t H k sz a c e d fe xs op v K=some r):
  ∃H1,K H1=some r/\Keeps T [k] H H1/\ ∀ {j:Type} (f:List (Ent T.U)->Option j),yi1 P t H k sz a c e d fe xs op v f=f H1:=by
 unfold yi1 at h;split at h<;>try (cases h;done)
 rename_i b;split at h
 ·obtain ⟨g,i⟩:=g9 h;exact ⟨_,i,openH_keeps.trans qg8,fun f=>by simp only [yi1,b,if_pos g]⟩
 ·obtain ⟨g,i⟩:=g9 h;exact ⟨_,i,qg8,fun f=>by simp only [yi1,b,if_pos g]⟩
def kd7 {d fe t l c K} (h:qa5 P d fe t H l c K=some r):
  ∃u H1,K u H1=some r/\Keeps T [] H H1/\ ∀ {f:Type} (a:AV T.U->List (Ent T.U)->Option f),qa5 P d fe t H l c a=a u H1:=by
 unfold qa5 at h;split at h<;>try (cases h;done)
 rename_i g;split at h<;>try (cases h;done)
 rename_i b j;split at h<;>try (cases h;done)
 rename_i m;obtain ⟨p,q⟩:=g9 h;refine ⟨_,_,q,⟨by simp,fun i e _=>X8 e,fun i ty t ys e s=>⟨ys,by rwa [X8 e] at s⟩⟩,fun a=>by simp only [qa5,g,b,j,m,if_pos p]⟩
def kk7 {st K z} (b:zo8 P C o st K=some z) (h:z=some r):
  ∃a H1,K ⟨zb2 T st.F o.dst a,H1⟩=some r/\Keeps T (kl9 o st.F st.H) st.H H1/\ ∀ {s:Type} (g:St T->Option s),zo8 P C o st g=some (g ⟨zb2 T st.F o.dst a,H1⟩):=by
 unfold zo8 at b;split at b<;>try (cases b;done)
 ·rename_i t x y c;split at b<;>try (cases b;done)
  rename_i p;obtain rfl:=X5 b;split at h<;>try (cases h;done)
  rename_i d i;obtain ⟨u,H1,j,l,m⟩:=kd7 h;exact ⟨u,H1,j,l.sub (by simp),fun g=>by simp only [zo8,c,p,d,i,m]⟩
 ·rename_i t x y c;split at b<;>try (cases b;done)
  rename_i d;split at b<;>try (cases b;done)
  rename_i f;obtain rfl:=X5 b;split at h<;>try (cases h;done)
  rename_i i q;obtain ⟨v,A⟩:=qc5 h;refine ⟨_,_,A,.refl _,fun g=>?_⟩;simp only [zo8,c,d,f,i,q];exact congrArg some (if_pos v)
 ·rename_i t x c;split at b<;>try (cases b;done)
  rename_i d;split at b<;>try (cases b;done)
  rename_i f;obtain rfl:=X5 b;obtain ⟨u,H1,j,l,m⟩:=kc9 h;exact ⟨u,H1,j,by simp only [kl9,c,d,f];exact l,fun g=>by simp only [zo8,c,d,f,m]⟩
 ·rename_i t x y c;split at b<;>try (cases b;done)
  rename_i d;split at b<;>try (cases b;done)
  rename_i f;obtain rfl:=X5 b;split at h<;>try (cases h;done)
  rename_i e i;obtain ⟨H1,j,l,m⟩:=vl4 h;exact ⟨.raw undef,H1,by rw [e];exact j,by simp only [kl9,c,d,f];exact l,fun g=>by simp only [zo8,c,d,f,e,i,m,zb2]⟩
def jr9 {st:St T} {K:St T->Option R} (a:zo8 P C o st K=none) {e:Type} (f:St T->Option e):zo8 P C o st f=none:=by
 unfold zo8 at a⊢;split at a<;>rename_i d<;>(try simp only [d])
 ·split at a<;>first|(cases a;done)|(rename_i b;simp only [b])
 ·split at a
  ·rename_i b;split at a
   ·cases a
   ·rename_i c;simp only [b];try (split<;>first|rfl|exact (c _ _ _ _ _ ‹_›).elim)
  ·rename_i b;first|(split<;>first|rfl|exact (b _ ‹_›).elim)|rfl
 ·split at a
  ·rename_i b;split at a
   ·cases a
   ·rename_i c;simp only [b];try (split<;>first|rfl|exact (c _ _ _ _ _ ‹_›).elim)
  ·rename_i b;first|(split<;>first|rfl|exact (b _ _ _ _ ‹_›).elim)|rfl
 ·split at a
  ·rename_i b;split at a
   ·cases a
   ·rename_i c;simp only [b];try (split<;>first|rfl|exact (c _ _ _ _ _ ‹_›).elim)
  ·rename_i b;first|(split<;>first|rfl|exact (b _ _ _ _ ‹_›).elim)|rfl
 all_goals (split<;>simp_all)
def qh0 (q:zb4 T P C.E) {st K p} (h:zh7 P C o st K p=some r):
  (∃l a H1,K ⟨zb2 T l o.dst a,H1⟩=some r/\Keeps T (wrF C o st) st.H H1/\ ∀ {e:Type} (d:St T->Option e) (b:AV T.U->St T->Option e),zh7 P C o st d b=d ⟨zb2 T l o.dst a,H1⟩)\/ ∃a c,p a c=some r/\Keeps T (wrF C o st) st.H c.H/\ ∀ {e:Type} (d:St T->Option e) (b:AV T.U->St T->Option e),zh7 P C o st d b=b a c:=by
 unfold zh7 at h;split at h
 ·rename_i z m;obtain ⟨a,H1,f,g,j⟩:=kk7 m h;exact .inl ⟨st.F,a,H1,f,g.sub fun i s=>X4.2 (.inr (X4.2 (.inr s))),fun d b=>by simp only [zh7,j]⟩
 ·rename_i m;rcases kk6 q h with ⟨l,a,H1,f,g,j⟩|⟨a,c,f,g,j⟩
  ·exact .inl ⟨l,a,H1,f,g,fun d b=>by simp only [zh7,jr9 m,j]⟩
  ·exact .inr ⟨a,c,f,g,fun d b=>by simp only [zh7,jr9 m,j]⟩
def ke3 {z i} (M:zo8 P C o ⟨F,H⟩ some=some z) (N:z=some i) (m:zi4 n o.dst=true) (x:zc6 o=true) (p:zt5 F o=true) (h:Sim T w0 S0 ⟨F,H⟩ F' w S φ) {a} (y:Fr n ds F' a):
  o.wp P a w (fun s w'=> ∃c,zc4 T w0 S0 i c w'/\Fr n ds c s/\ ∃v,s=a.put o.dst v) Q:=by
 let o':Oper:= {o with guard:=none}
 have I:dec #[o'] 0 n F'=some o':=by
  unfold dec;have f:zx3 #[o'] F' o'=some true:=rfl;have O:ye8 F' o'=true:=yq4 (o:=o') h.fr p;have b:zi4 n o'.dst=true:=m;have t:zc6 o'=true:=x;simp only [List.getElem?_toArray,Y4,f,O,b,t,M6]
 have A:zo8 P C o' ⟨F,H⟩ some=some z:=by
  cases o;exact M
 have B:=jh6 (Q:=fun e s w'=>e=.normal/\ ∃c,zc4 T w0 S0 i c w'/\Fr n ds c s) (ds:=ds) I A N h (fun st q c u b=>by
  simp only [X0] at q;subst q;exact WR.fin (by rfl) fun J D=>⟨rfl,c,b,D⟩)
 have f:=B a y;unfold wpList at f;have j:Region.wanted o' (yielded #[o'] a.tmps)=true:=by
  have:=(zi2 I).2.2.2.2 y;exact this
 have l:(#[o']:Array Oper).toList.drop 0= [o']:=rfl;rw [l] at f;simp only [j,if_true] at f;rcases f with f|⟨_,J,u,b,_⟩
 ·refine jw1 (g:=none) (Oper.wp_and (o:=o') (K:=wpList P #[o'] _ []) ?_ ?_ ?_ f)
  ·rintro v u b
   unfold wpList at b;obtain ⟨_,c,t,E⟩:=b;exact ⟨c,t,E,v,rfl⟩
  ·rintro d u b
   unfold wpList at b;obtain ⟨_,c,t,E⟩:=b;have L:=E.defers;have U:({a with defers:=d::a.defers}.put o'.dst undef).defers=d::a.defers:=by cases o'.dst<;>rfl
   rw [U,y.defers] at L;exact absurd (congrArg List.length L) (by simp)
  ·rintro e J u G ⟨rfl,_⟩
   exact G rfl
 ·cases b
def qd6 (hE:zb4 T P C.E) {st':St T} (hs:zh7 P C o ⟨F,H⟩ some (fun _ _=>none)=some st') (hdst:zi4 n o.dst=true) (hns:zc6 o=true) (hpre:zt5 F o=true) (h:Sim T w0 S0 ⟨F,H⟩ F' w S φ) {a:Act} (ha:Fr n ds F' a):
  o.wp P a w (fun a' w'=> ∃F1,zc4 T w0 S0 st' F1 w'/\Fr n ds F1 a'/\ ∃v,a'=a.put o.dst v) Q:=by
 have pre2: ∀ {F2:AF T} {H2:List (Ent T.U)} {S2:List Nat},Sim T w0 S0 ⟨F2,H2⟩ F' w S2 φ->(∀t,(F.get T t).isSome=true->(F2.get T t).isSome=true)->zt5 F2 o=true:=by
  intro F2 H2 S2 _ hF;unfold zt5 at hpre⊢;rw [Y8] at hpre⊢;intro x hx;have:=hpre x hx;cases x with
  |tmp t=>exact hF t this
  |_=>exact this
 unfold zh7 at hs;split at hs
 ·rename_i z hz;exact ke3 hz hs hdst hns hpre h ha
 unfold zn7 at hs;split at hs
 ·split at hs<;>try (cases hs;done)
  split at hs
  ·split at hs<;>try (cases hs;done)
   obtain ⟨⟨F2,H2⟩,S2,h1,h2,h3⟩:=zz7 hs h;exact zu2 hE h1 hdst hns (pre2 h2 h3) h2 ha
  ·exact zu2 hE hs hdst hns hpre h ha
 ·split at hs
  ·obtain ⟨⟨F2,H2⟩,S2,h1,h2,h3⟩:=yb8 hs h;exact zu2 hE h1 hdst hns (pre2 h2 h3) h2 ha
  ·exact zu2 hE hs hdst hns hpre h ha
 ·split at hs
  ·split at hs
   ·split at hs<;>try (cases hs;done)
    obtain ⟨⟨F2,H2⟩,S2,h1,h2,h3⟩:=zz7 hs h;exact zu2 hE h1 hdst hns (pre2 h2 h3) h2 ha
   ·exact zu2 hE hs hdst hns hpre h ha
  ·exact zu2 hE hs hdst hns hpre h ha
 ·exact zu2 hE hs hdst hns hpre h ha
end
end Go.X
namespace Go.X
open Go.RowKit Go.V
section
variable {T:Tab} (P:Program)
def zx2 (c:Nat) (v:AV T.U) (cs:List (AV T.U)):List (AV T.U):=match cs.all (za7 T)&&za7 T v with|true=>cs.set c v|false=>cs
def zx6 (c:Nat) (v:AV T.U):Ent T.U->Ent T.U
 | .blk t cs=>.blk t (zx2 c v cs)
 | .drow e d fe xs (some (a,cs))=>.drow e d fe xs (some (a,cs.set c v))
 |x=>x
def spE (c:Nat):Ent T.U->Ent T.U->Prop
 | .blk t cs,.blk f b=>t=f/\cs.length=b.length/\cs[c]?=b[c]?/\cs.all (za7 T)=true/\b.all (za7 T)=true
 | .drow e d fe xs (some (a,cs)),y=> ∃b,y=.drow e d fe xs (some (a,b))/\cs.length=b.length/\cs[c]?=b[c]?
 |_,_=>False
def simE (c:Nat) (x y:Ent T.U):Prop:=x=y\/spE c x y
def yr0 (t:TypeId):Bool:=match P.info? t,P.underlying t with|some i,some d=> !yf3 d&&Nat.beq i.size 1|_,_=>false
def wr2 (o:Oper) (F:AF T) (H:List (Ent T.U)):Option (Nat×Nat×Option (AV T.U)):=
 match o.op with
 | .load t x=>match aev T F x with
  |some (.ptr i c)=>match H[i]? with
   |some (.blk _ cs)=>(match yr0 P t&&(cs.all (za7 T)&&Nat.blt c cs.length) with|true=>some (i,c,none)|false=>none)
   |_=>none
  |some (.eptr i _ _ c)=>match H[i]? with
   |some (.drow _ _ _ _ (some (_,cs)))=>(match yr0 P t&&Nat.blt c cs.length with|true=>some (i,c,none)|false=>none)
   |_=>none
  |_=>none
 | .store t x y=>match o.dst,aev T F x,aev T F y with
  |none,some (.ptr i c),some v=>match H[i]? with
   |some (.blk _ cs)=>(match yr0 P t&&(zy2 T v&&(cs.all (za7 T)&&Nat.blt c cs.length)) with|true=>some (i,c,some v)|false=>none)
   |_=>none
  |none,some (.eptr i _ _ c),some v=>match H[i]? with
   |some (.drow _ _ _ _ (some (_,cs)))=>(match yr0 P t&&(zy2 T v&&Nat.blt c cs.length) with|true=>some (i,c,some v)|false=>none)
   |_=>none
  |_,_,_=>none
 |_=>none
def qz5 (k c:Nat) (a:Option (AV T.U)) (f:Ent T.U) (H:List (Ent T.U)):List (Ent T.U):=match a with|some v=>H.set k (zx6 c v f)|none=>H
end
section
variable {T:Tab} {P:Program} {C:Ctx T} {F F':AF T} {H H':List (Ent T.U)} {o:Oper}
def simE.symm {c:Nat} {x y:Ent T.U} (h:simE c x y):simE c y x:=by
 rcases h with rfl|h
 ·exact .inl rfl
 ·cases x with
  |blk t cs=>
   cases y with
   |blk k b=>obtain ⟨rfl,f,g,i,j⟩:=h;exact .inr ⟨rfl,f.symm,g.symm,j,i⟩
   |_=>exact h.elim
  |drow e d fe xs op=>
   cases op with
   |none=>exact h.elim
   |some p=>obtain ⟨a,cs⟩:=p;obtain ⟨b,rfl,f,g⟩:=h;exact .inr ⟨cs,rfl,f.symm,g.symm⟩
  |_=>exact h.elim
def jn6 {cs:List (AV T.U)} {c v} (h:cs.all (za7 T)=true) (d:za7 T v=true):(cs.set c v).all (za7 T)=true:=by
 rw [Y8] at h⊢;intro a b;rcases M0 b with b|rfl
 ·exact h a b
 ·exact d
def zm6 {c v cs} (h:cs.all (za7 T)=true) (a:za7 T v=true):zx2 c v cs=cs.set c v:=by unfold zx2;rw [h,a];rfl
def ze7 (c v cs):(zx2 c v cs=cs)\/(zx2 c v cs=cs.set c v/\cs.all (za7 T)=true/\za7 T v=true):=by
 cases h:cs.all (za7 T) with
 |false=>left;unfold zx2;rw [h];rfl
 |true=>
  cases hv:za7 T v with
  |false=>left;unfold zx2;rw [h,hv];rfl
  |true=>exact .inr ⟨zm6 h hv,rfl,rfl⟩
def jf3 (c:Nat) (v:AV T.U) (cs:List (AV T.U)):(zx2 c v cs).length=cs.length:=by
 rcases ze7 c v cs with h|⟨h,_⟩<;>rw [h];simp
def jf2 {c v cs} (h:cs.all (za7 T)=true):(zx2 c v cs).all (za7 T)=true:=by
 rcases ze7 c v cs with a|⟨a,_,b⟩<;>rw [a]
 ·exact h
 ·exact jn6 h b
def ge7 {c c'} (b:c'≠c) (v:AV T.U) (cs:List (AV T.U)):(zx2 c' v cs)[c]?=cs[c]?:=by
 rcases ze7 c' v cs with a|⟨a,_⟩<;>rw [a];exact Z5 b
def simE.left {c c'} (i:c'≠c) (v:AV T.U) {x y} (h:simE c x y):simE c (zx6 c' v x) y:=by
 have j:simE c (zx6 c' v x) x:=by
  cases x with
  |blk t cs=>
   show simE c (.blk t (zx2 c' v cs)) (.blk t cs);rcases ze7 c' v cs with k|⟨k,b,f⟩
   ·rw [k];exact .inl rfl
   ·rw [k];exact .inr ⟨rfl,by simp,Z5 i,jn6 b f,b⟩
  |drow e d fe xs op=>
   cases op with
   |none=>exact .inl rfl
   |some p=>obtain ⟨a,cs⟩:=p;exact .inr ⟨cs,rfl,by simp,Z5 i⟩
  |_=>exact .inl rfl
 rcases h with rfl|h
 ·exact j
 ·cases x with
  |blk t cs=>
   cases y with
   |blk n g=>
    obtain ⟨rfl,b,f,l,m⟩:=h;exact .inr ⟨rfl,(jf3 ..).trans b,(ge7 i ..).trans f,jf2 l,m⟩
   |_=>exact h.elim
  |drow e d fe xs op=>
   cases op with
   |none=>exact h.elim
   |some p=>
    obtain ⟨a,cs⟩:=p;obtain ⟨g,rfl,b,f⟩:=h;exact .inr ⟨g,rfl,by simpa using b,(Z5 i).trans f⟩
  |_=>exact h.elim
def simE.both {c} (c':Nat) (v:AV T.U) {x y} (h:simE c x y):simE c (zx6 c' v x) (zx6 c' v y):=by
 rcases h with rfl|h
 ·exact .inl rfl
 ·cases x with
  |blk t cs=>
   cases y with
   |blk m b=>
    obtain ⟨rfl,f,g,k,l⟩:=h;refine .inr ⟨rfl,by rw [jf3,jf3];exact f,?_,jf2 k,jf2 l⟩;cases hv:za7 T v with
    |false=>
     rcases ze7 c' v cs with i|⟨_,_,i⟩
     ·rcases ze7 c' v b with j|⟨_,_,j⟩
      ·rw [i,j];exact g
      ·rw [hv] at j;cases j
     ·rw [hv] at i;cases i
    |true=>rw [zm6 k hv,zm6 l hv,List.getElem?_set,List.getElem?_set,f,g]
   |_=>exact h.elim
  |drow e d fe xs op=>
   cases op with
   |none=>exact h.elim
   |some p=>
    obtain ⟨a,cs⟩:=p;obtain ⟨b,rfl,f,g⟩:=h;refine .inr ⟨_,rfl,by simpa using f,?_⟩;rw [List.getElem?_set,List.getElem?_set,f,g]
  |_=>exact h.elim
def vk6 {c c'} (f:c≠c') (v e:AV T.U) (cs:List (AV T.U)):zx2 c v (zx2 c' e cs)=zx2 c' e (zx2 c v cs):=by
 rcases ze7 c v cs with a|⟨a,g,i⟩<;>rcases ze7 c' e cs with b|⟨b,k,j⟩
 ·rw [a,b,a]
 ·rw [a,b];rcases ze7 c v (cs.set c' e) with d|⟨d,l,h⟩
  ·exact d
  ·rw [zm6 k h] at a;rw [d,List.set_comm _ _ (Ne.symm f),a]
 ·rw [b,a];rcases ze7 c' e (cs.set c v) with d|⟨d,l,h⟩
  ·exact d.symm
  ·rw [zm6 g h] at b;rw [d,List.set_comm _ _ f,b]
 ·rw [b,a,zm6 (jn6 g j) i,zm6 (jn6 g i) j,List.set_comm _ _ f]
def kk0 {c c'} (f:c≠c') (v b:AV T.U) (x:Ent T.U):zx6 c v (zx6 c' b x)=zx6 c' b (zx6 c v x):=by
 cases x with
 |blk t cs=>exact congrArg (Ent.blk t) (vk6 f v b cs)
 |drow e d fe xs op=>
  cases op with
  |none=>rfl
  |some p=>obtain ⟨a,cs⟩:=p;simp only [zx6];rw [List.set_comm _ _ f]
 |_=>rfl
def vy6 {cs:List (AV T.U)} {c} {v:AV T.U} {i} (h:i∈v5 (cs.set c v)):i∈v5 cs\/i∈v.ids:=by
 obtain ⟨a,b,d⟩:=zt9 h;rcases M0 b with b|rfl
 ·exact .inl (zh0 b i d)
 ·exact .inr d
def ge8 {c} {v:AV T.U} {x:Ent T.U} {i} (h:i∈(zx6 c v x).cellIds):i∈x.cellIds\/i∈v.ids:=by
 cases x with
 |blk t cs=>
  have h:i∈v5 (zx2 c v cs):=h;rcases ze7 c v cs with b|⟨b,_⟩
  ·rw [b] at h;exact .inl h
  ·rw [b] at h;exact vy6 h
 |drow e d fe xs op=>cases op with
  |none=>exact .inl h
  |some p=>obtain ⟨a,cs⟩:=p;exact vy6 (T:=T) h
 |_=>exact .inl h
def ya4 (hF: ∀t a,F.get T t=some a->F'.get T t=some a) {x:Operand} {a:AV T.U} (h:aev T F x=some a):aev T F' x=some a:=by
 cases x with
 |tmp t=>exact hF t a h
 |const v=>exact h
 |func f=>exact h
 |global g=>exact h
def yj6 {t} (h:yr0 P t=true): ∃i d,P.info? t=some i/\P.underlying t=some d/\yf3 d=false/\i.size=1:=by
 unfold yr0 at h;split at h
 ·rename_i i d a b;simp only [X3,V4] at h;exact ⟨i,d,a,b,h.1,X1 h.2⟩
 ·cases h
def qd1: ∀ {cs c},cs.all (za7 T)=true->c<cs.length->jg3 T cs c=some (cs.drop c)
 | [],c,_,h=>by simp at h
 |a::r,0,_,_=>rfl
 |a::r,c+1,h,b=>by
  rw [V1,X3] at h;have d:Nat.ble (wd T a) (c+1)=true:=by rw [qs1 T h.1];exact W5 (by omega)
  unfold jg3;rw [show Nat.beq (c+1) 0=false from rfl];simp only [d];rw [qs1 T h.1,Nat.add_sub_cancel,qd1 h.2 (by simpa using b),List.drop_succ_cons]
def vh6 {t} (b:yr0 P t=true) {cs c} (h:cs.all (za7 T)=true) (a:c<cs.length):ji9 T P t cs c=cs[c]?:=by
 obtain ⟨i,d,e,f,g,_⟩:=yj6 b;unfold ji9 gh1;rw [e,f];simp only [g];rw [qd1 h a,M8 a,Y0 a];simp only;rw [Y8] at h;rw [h _ (List.getElem_mem a)]
def js3 {v} (b:za7 T v=true): ∀ {cs c},cs.all (za7 T)=true->c<cs.length->ja8 T (wj0 T [v]) cs c=some (cs.set c v)
 | [],c,_,h=>by simp at h
 |a::r,0,h,_=>by
  rw [V1,X3] at h;show wj0 T [v] (a::r)=_;unfold wj0;simp only [putOnes,h.1,b,M6,List.set_cons_zero]
 |a::r,c+1,h,d=>by
  rw [V1,X3] at h;have e:Nat.ble (wd T a) (c+1)=true:=by rw [qs1 T h.1];exact W5 (by omega)
  unfold ja8;rw [show Nat.beq (c+1) 0=false from rfl];simp only [e];rw [qs1 T h.1,Nat.add_sub_cancel,js3 b h.2 (by simpa using d)];rfl
def yi9 {v} (h:zy2 T v=true):zf5 T v= [v]/\yd9 T v=true/\jm8 v=none/\za7 T v=true:=by
 cases v<;>first|(cases h;done)|exact ⟨rfl,h,rfl,rfl⟩|exact ⟨rfl,rfl,rfl,rfl⟩
def kb5 {t} (a:yr0 P t=true) {v} (h:zy2 T v=true) (c n) (b:c<n):jx1 T P t c n v=true:=by
 obtain ⟨i,d,e,k,l,f⟩:=yj6 a;obtain ⟨g,j,m,p⟩:=yi9 h;unfold jx1;rw [e];simp only [g,j,f,h,U9,List.length_nil,V1,List.all_nil,M6,Bool.and_true,N8];rw [X3];exact ⟨rfl,W5 b⟩
def ku0 {t} (a:yr0 P t=true):zg8 P t=none:=by
 obtain ⟨i,d,e,b,c,_⟩:=yj6 a;unfold zg8;rw [b];cases d<;>first|rfl|cases c
def qx7 {t x} (a:o.op=.load t x) {i c e cs} (b:aev T F x=some (.ptr i c)) (g:H[i]?=some (.blk e cs)) (d:yr0 P t=true) (h:cs.all (za7 T)=true) (f:c<cs.length) {R} (K:St T->Option R) (j:AV T.U->St T->Option R):
  zh7 P C o ⟨F,H⟩ K j=match cs[c]? with|some (.eptr _ _ _ _)=>none|some u=>K ⟨zb2 T F o.dst u,H⟩|none=>none:=by
 have k:zo8 P C o ⟨F,H⟩ K=none:=by simp only [zo8,a,b]
 have l:gw0 P o.op=false:=by rw [a];simp only [gw0,ku0 d];rfl
 unfold zh7;rw [k];simp only [zn7,a,stepA];unfold ya2;rw [l];simp only [zs1,a,jq6,b,loadA,g,vh6 d h f];rw [Y0 f];generalize cs[c]=u;cases u<;>rfl
def qh1 {t x y} (a:o.op=.store t x y) (b:o.dst=none) {i c e cs v} (d:aev T F x=some (.ptr i c)) (f:aev T F y=some v) (j:H[i]?=some (.blk e cs)) (k:yr0 P t=true) (g:zy2 T v=true) (l:cs.all (za7 T)=true) (m:c<cs.length) {R} (K:St T->Option R) (h:AV T.U->St T->Option R):
  zh7 P C o ⟨F,H⟩ K h=K ⟨F,H.set i (.blk e (cs.set c v))⟩:=by
 obtain ⟨n,z,p,q⟩:=yi9 g;have r:zo8 P C o ⟨F,H⟩ K=none:=by simp only [zo8,a,d]
 have s:jz2 T P t cs c v=some (cs.set c v):=by
  unfold jz2;simp only [p,n,U9,List.length_nil];rw [kb5 k g 0 _ (by omega)];exact js3 q l m
 have u:stepA P C o ⟨F,H⟩ K h=K ⟨F,H.set i (.blk e (cs.set c v))⟩:=by simp only [stepA,a,b,d,f,jm4,j,s]
 have w:qk5 T H (.ptr i c) v=none:=rfl;unfold zh7;rw [r];simp only [zn7,a,d,f,w];cases cellsOf T (zf5 T v)<;>exact u
def qd0 {t x} (f:o.op=.load t x) {i sz a c e d fe xs b cs} (j:aev T F x=some (.eptr i sz a c)) (k:H[i]?=some (.drow e d fe xs (some (b,cs)))) (l:yr0 P t=true) {R} (K:St T->Option R) (m:AV T.U->St T->Option R):
  zh7 P C o ⟨F,H⟩ K m=match Nat.beq sz (T.size d),cs[c]? with|true,some u=>(match zh4 u with|true=>if a=b then K ⟨zb2 T F o.dst u,H⟩ else none|false=>none)|_,_=>none:=by
 obtain ⟨r,s,g,h,n,_⟩:=yj6 l;have p:zt4 T P t cs c=cs[c]?:=by unfold zt4 jw6;rw [g,h];simp only [n]
 have q:zo8 P C o ⟨F,H⟩ K=some (yv1 P t H i sz a c e d fe xs (some (b,cs)) fun v H=>K ⟨zb2 T F o.dst v,H⟩):=by simp only [zo8,f,j,k]
 unfold zh7;rw [q];simp only [yv1,p];cases Nat.beq sz (T.size d) with
 |false=>rfl
 |true=>cases cs[c]?<;>rfl
def js0 {t x y} (g:o.op=.store t x y) (f:o.dst=none) {i sz a c e d fe xs b cs v} (h:aev T F x=some (.eptr i sz a c)) (j:aev T F y=some v) (k:H[i]?=some (.drow e d fe xs (some (b,cs)))) (l:zy2 T v=true) {R} (K:St T->Option R) (m:AV T.U->St T->Option R):
  zh7 P C o ⟨F,H⟩ K m=match Nat.beq sz (T.size d)&&jx1 T P t c (T.size d) v with|true=>if a=b then K ⟨F,H.set i (.drow e d fe xs (some (b,cs.set c v)))⟩ else none|false=>none:=by
 obtain ⟨n,q,r,s⟩:=yi9 l;have p:zo8 P C o ⟨F,H⟩ K=some (yi1 P t H i sz a c e d fe xs (some (b,cs)) v fun H=>K ⟨F,H⟩):=by simp only [zo8,g,h,k,f,j]
 unfold zh7;rw [p];simp only [yi1,n,yl7];cases Nat.beq sz (T.size d)&&jx1 T P t c (T.size d) v<;>rfl
def ve0 {d b a u} (h:zb2 T F d u=zb2 T b d a) (G):zb2 T G d u=zb2 T G d a:=by
 cases d with
 |none=>rfl
 |some d=>
  simp only [zb2,List.cons.injEq,X7] at h;rw [show u=a from h.1.2]
def vy7 {c f e cs} (g:cs.all (za7 T)=true) (h:simE c f (.blk e cs)): ∃b,f=.blk e b/\b.length=cs.length/\b[c]?=cs[c]?/\b.all (za7 T)=true:=by
 rcases h with rfl|h
 ·exact ⟨cs,rfl,rfl,rfl,g⟩
 ·cases f with
  |blk l b=>obtain ⟨rfl,i,j,k,_⟩:=h;exact ⟨b,rfl,i,j,k⟩
  |drow e d fe xs op=>cases op with
   |none=>exact h.elim
   |some p=>obtain ⟨a,cs⟩:=p;obtain ⟨_,h,_⟩:=h;cases h
  |_=>exact h.elim
def vd3 {c f e d fe xs b} {cs:List (AV T.U)} (h:simE c f (.drow e d fe xs (some (b,cs)))): ∃g,f=.drow e d fe xs (some (b,g))/\g.length=cs.length/\g[c]?=cs[c]?:=by
 rcases h with rfl|h
 ·exact ⟨cs,rfl,rfl,rfl⟩
 ·cases f with
  |drow e d fe xs op=>cases op with
   |none=>exact h.elim
   |some p=>
    obtain ⟨a,i⟩:=p;obtain ⟨g,h,j,k⟩:=h;cases h;exact ⟨i,rfl,j,k⟩
  |_=>exact h.elim
def kx0 {k c N} (g:wr2 P o F H=some (k,c,N)) {X a H1} (h:zh7 P C o ⟨F,H⟩ some (fun _ _=>none)=some ⟨zb2 T X o.dst a,H1⟩):
  ∃x,H[k]?=some x/\x.live=true/\H1=qz5 k c N x H/\ ∀(F':AF T) (H':List (Ent T.U)) (f:Ent T.U),(∀t a,F.get T t=some a->F'.get T t=some a)->H'[k]?=some f->simE c f x->zh7 P C o ⟨F',H'⟩ some (fun _ _=>none)=some ⟨zb2 T F' o.dst a,qz5 k c N f H'⟩:=by
 unfold wr2 at g;split at g<;>try (cases g;done)
 ·rename_i t x m;split at g<;>try (cases g;done)
  ·rename_i i E n;split at g<;>try (cases g;done)
   rename_i e cs p;split at g<;>try (cases g;done)
   rename_i q;simp only [X3,V2] at q;obtain ⟨r,B,G⟩:=q;simp only [X0,X7] at g;obtain ⟨rfl,rfl,rfl⟩:=g;rw [qx7 m n p r B G] at h;split at h<;>try (cases h;done)
   rename_i u w O;simp only [X0,St.mk.injEq] at h;obtain ⟨h,rfl⟩:=h;refine ⟨_,p,rfl,rfl,fun F' H' f hF z j=>?_⟩;obtain ⟨s,rfl,Q,I,M⟩:=vy7 B j;rw [qx7 m (ya4 hF n) z r M (by omega),I,O];have:=ve0 h F';cases u<;>first|exact absurd rfl (w _ _ _ _)|(simp only [this];rfl)
  ·rename_i i R Y E n;split at g<;>try (cases g;done)
   rename_i e d fe xs b cs p;split at g<;>try (cases g;done)
   rename_i q;simp only [X3,V2] at q;obtain ⟨r,G⟩:=q;simp only [X0,X7] at g;obtain ⟨rfl,rfl,rfl⟩:=g;rw [qd0 m n p r] at h;split at h<;>try (cases h;done)
   rename_i u S O;split at h<;>try (cases h;done)
   rename_i w;obtain ⟨A,J⟩:=g9 h;clear h;simp only [X0,St.mk.injEq] at J;obtain ⟨h,rfl⟩:=J;refine ⟨_,p,rfl,rfl,fun F' H' f hF z j=>?_⟩;obtain ⟨s,rfl,Q,I⟩:=vd3 j;rw [qd0 m (ya4 hF n) z r,I,O,S];simp only [w,if_pos A,ve0 h F'];rfl
 ·rename_i t x y m;split at g<;>try (cases g;done)
  ·rename_i i E v l n K;split at g<;>try (cases g;done)
   rename_i e cs p;split at g<;>try (cases g;done)
   rename_i q;simp only [X3,V2] at q;obtain ⟨r,D,B,G⟩:=q;simp only [X0,X7] at g;obtain ⟨rfl,rfl,rfl⟩:=g;have V:=(yi9 D).2.2.2;rw [qh1 m l n K p r D B G] at h;simp only [X0,St.mk.injEq] at h;obtain ⟨h,rfl⟩:=h;refine ⟨_,p,rfl,?_,fun F' H' f hF z j=>?_⟩
   ·show _=H.set i (.blk e (zx2 E v cs));rw [zm6 B V]
   ·obtain ⟨s,rfl,Q,I,M⟩:=vy7 B j;rw [qh1 m l (ya4 hF n) (ya4 hF K) z r D M (by omega),l];show _=some (⟨F',H'.set i (.blk e (zx2 E v s))⟩:St T);rw [zm6 M V]
  ·rename_i i R Y E v l n K;split at g<;>try (cases g;done)
   rename_i e d fe xs b cs p;split at g<;>try (cases g;done)
   rename_i q;simp only [X3,V2] at q;obtain ⟨r,D,G⟩:=q;simp only [X0,X7] at g;obtain ⟨rfl,rfl,rfl⟩:=g;rw [js0 m l n K p D] at h;split at h<;>try (cases h;done)
   rename_i L;obtain ⟨A,J⟩:=g9 h;clear h;simp only [X0,St.mk.injEq] at J;obtain ⟨h,rfl⟩:=J;refine ⟨_,p,rfl,rfl,fun F' H' f hF z j=>?_⟩
   ·obtain ⟨s,rfl,Q,I⟩:=vd3 j;rw [js0 m l (ya4 hF n) (ya4 hF K) z D,L,l];simp only [if_pos A];rfl
end
end Go.X
