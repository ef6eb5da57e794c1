import Derived.Test.YtnhnejjdokeikaaGreatAB
set_option linter.defProp false
namespace Go.X
open Go.RowKit Go.V
section
variable {T:Tab} {P:Program}
def yp5 {U:Nat->Type} {R:Type} (j:Nat) (k:IntKind) (y:Int) (aS:List (AV U)) (f g:List (AV U)->Option R):List Int->Option R
 | []=>g aS
 |x::r=>j8 (decide (y=x)) (f (aS.set j (.cell ⟨.int k,(x:Int)⟩))) (yp5 j k y aS f g r)
def qc0 {U:Nat->Type} {R:Type} (j:Nat) (xs:List Int) (aS:List (AV U)) (f g:List (AV U)->Option R):Option R:=
 match aS[j]? with
 |some (.cell ⟨.int k,y⟩)=>yp5 j k y aS f g xs
 |_=>g aS
def CallSpec.lits (j:Nat) (xs:List Int) (a b:CallSpec T):CallSpec T where
 call:=fun aS H K c=>qc0 j xs aS (fun aS=>a.call aS H K c) (fun aS=>b.call aS H K c)
 q:=b.q
 isq:=b.isq
 wr:=fun aS H=>a.wr aS H++b.wr aS H
def js4 {U j k y aS} (h:aS[j]?=some (.cell ⟨.int k,y⟩)): ∀xs,(∀ {R:Type} (f g:List (AV U)->Option R),yp5 j k y aS f g xs=f aS)\/(∀ {R:Type} (f g:List (AV U)->Option R),yp5 j k y aS f g xs=g aS)
 | []=>.inr fun f g=>rfl
 |x::r=>by
  by_cases b:y=x
  ·subst b;have c:aS.set j (.cell ⟨.int k,y⟩)=aS:=by
    obtain ⟨l,d⟩:=X2.1 h;exact List.ext_getElem (by simp) fun i a m=>by
     rw [List.getElem_set];split
     ·rename_i e;subst e;exact d.symm
     ·rfl
   refine .inl fun f g=>?_;unfold yp5;rw [show (aS.set j (.cell ⟨.int k,y⟩))=aS from c,W4 (rfl:y=y)];rfl
  ·rcases js4 h r with a|a
   ·refine .inl fun f g=>?_;unfold yp5;rw [W5 b];exact a f g
   ·refine .inr fun f g=>?_;unfold yp5;rw [W5 b];exact a f g
def qk6 {U} (j xs aS):(∀ {R:Type} (f g:List (AV U)->Option R),qc0 j xs aS f g=f aS)\/(∀ {R:Type} (f g:List (AV U)->Option R),qc0 j xs aS f g=g aS):=by
 by_cases b: ∃k y,aS[j]?=some (.cell ⟨.int k,y⟩)
 ·obtain ⟨k,y,h⟩:=b;rcases js4 h xs with a|a
  ·exact .inl fun f g=>by unfold qc0;rw [h];exact a f g
  ·exact .inr fun f g=>by unfold qc0;rw [h];exact a f g
 ·refine .inr fun f g=>?_;unfold qc0;split
  ·rename_i k y h;exact absurd ⟨k,y,h⟩ b
  ·rfl
def yy7 {f} (j xs) {a b} (q:w9 T P f a/\zh3 T P f a/\zp3 a) (m:w9 T P f b/\zh3 T P f b/\zp3 b):w9 T P f (a.lits j xs b)/\zh3 T P f (a.lits j xs b)/\zp3 (a.lits j xs b):=by
 have kl: ∀(aS:List (AV T.U)) (H:List (Ent T.U)) {H1:List (Ent T.U)},Keeps T (a.wr aS H) H H1->Keeps T (a.wr aS H++b.wr aS H) H H1:=fun aS H _ h=>⟨h.len,fun e n o=>h.same e n fun p=>o (X4.2 (.inl p)),h.row⟩;have s: ∀(aS:List (AV T.U)) (H:List (Ent T.U)) {H1:List (Ent T.U)},Keeps T (b.wr aS H) H H1->Keeps T (a.wr aS H++b.wr aS H) H H1:=fun aS H _ h=>⟨h.len,fun e n o=>h.same e n fun p=>o (X4.2 (.inr p)),h.row⟩;refine ⟨fun aS H K l r h=>?_,m.2.1,fun aS H K l r h=>?_⟩
 ·rcases qk6 j xs aS with e|e
  ·exact q.1 aS H K l r ((e _ _).symm.trans h)
  ·exact m.1 aS H K l r ((e _ _).symm.trans h)
 ·rcases qk6 j xs aS with e|e
  ·rcases q.2.2 aS H K l r ((e _ _).symm.trans h) with ⟨x,H1,d,g,i⟩|⟨x,H1,d,g,i⟩
   ·exact .inl ⟨x,H1,d,kl aS H g,fun k c=>(e _ _).trans (i k c)⟩
   ·exact .inr ⟨x,H1,d,kl aS H g,fun k c=>(e _ _).trans (i k c)⟩
  ·rcases m.2.2 aS H K l r ((e _ _).symm.trans h) with ⟨x,H1,d,g,i⟩|⟨x,H1,d,g,i⟩
   ·exact .inl ⟨x,H1,d,s aS H g,fun k c=>(e _ _).trans (i k c)⟩
   ·exact .inr ⟨x,H1,d,s aS H g,fun k c=>(e _ _).trans (i k c)⟩
end
end Go.X
namespace Go.X
open Go.RowKit Go.V
section
variable (T:Tab)
def qb2 (c:Nat) (H:List (Ent T.U)):List (AV T.U)->Option (Nat×TypeId×List (AV T.U)×Nat)
 | .ptr i _::_=>match H[i]? with
  |some (.blk e cs)=>match cs.all (za6 T),cs[c]? with
   |true,some (.mp j)=>some (i,e,cs,j)
   |_,_=>none
  |_=>none
 |_=>none
def zw0 (c i:Nat) (e:TypeId) (cs:List (AV T.U)) (H:List (Ent T.U)):List (Ent T.U):=H.set i (.blk e (cs.set c (.hmp H.length)))++ [.hid]
def qw5 (c i j n:Nat) (H:List (Ent T.U)):Option (List (Ent T.U)):=match H[i]? with
 |some (.blk e cs)=>match cs.all (za6 T),cs[c]?,H[n]? with
  |true,some (.hmp m),some .hid=>(match Nat.beq m n with|true=>some ((H.set i (.blk e (cs.set c (.mp j)))).set n .gone)|false=>none)
  |_,_,_=>none
 |_=>none
def jq4 {R:Type} (c i j n:Nat) (K:AV T.U->List (Ent T.U)->Option R) (a:AV T.U) (H:List (Ent T.U)):Option R:=match qw5 T c i j n H with
 |some H=>(match okE a with|true=>K a H|false=>none)
 |none=>none
where okE:AV T.U->Bool| .eptr _ _ _ _=>false|_=>true
end
section
variable {T:Tab} {P:Program}
def CallSpec.hide (c:Nat) (a:CallSpec T):CallSpec T where
 call:=fun aS H K b=>match qb2 T c H aS with
  |some (i,e,cs,j)=>a.call aS (zw0 T c i e cs H) (jq4 T c i j H.length K) (jq4 T c i j H.length b)
  |none=>a.call aS H K b
 q:=a.q
 isq:=a.isq
 wr:=fun aS H=>match qb2 T c H aS with
  |some (i,e,cs,_)=>i::H.length::a.wr aS (zw0 T c i e cs H)
  |none=>a.wr aS H
def yy5 {c H aS i e cs j} (h:qb2 T c H aS=some (i,e,cs,j)):H[i]?=some (.blk e cs)/\cs.all (za6 T)=true/\cs[c]?=some (.mp j):=by
 unfold qb2 at h;split at h<;>try (cases h;done)
 split at h<;>try (cases h;done)
 rename_i g a b;split at h<;>try (cases h;done)
 rename_i d f;simp only [X0,X7] at h;obtain ⟨rfl,rfl,rfl,rfl⟩:=h;exact ⟨b,d,f⟩
def jh8 {c i j n H H1} (h:qw5 T c i j n H=some H1): ∃e cs,H[i]?=some (.blk e cs)/\cs.all (za6 T)=true/\cs[c]?=some (.hmp n)/\H[n]?=some .hid/\H1=(H.set i (.blk e (cs.set c (.mp j)))).set n .gone:=by
 unfold qw5 at h;split at h<;>try (cases h;done)
 rename_i e cs a;split at h<;>try (cases h;done)
 rename_i m b d f;split at h<;>try (cases h;done)
 rename_i g;have:=X1 g;subst this;exact ⟨e,cs,a,b,d,f,(X5 h).symm⟩
def yo2 {R:Type} {r:R} {c i j n:Nat} {K:AV T.U->List (Ent T.U)->Option R} {a:AV T.U} {H:List (Ent T.U)} (h:jq4 T c i j n K a H=some r): ∃H1,qw5 T c i j n H=some H1/\K a H1=some r/\(∀x y z u,a≠.eptr x y z u):=by
 unfold jq4 at h;split at h<;>try (cases h;done)
 rename_i H1 b;split at h<;>try (cases h;done)
 rename_i d;refine ⟨H1,b,h,fun x y z u e=>?_⟩;subst e;cases d
def qi5 {α p}: ∀ {l:List α} {n a},l.all p=true->p a=true->(l.set n a).all p=true
 | [],_,_,_,_=>rfl
 |x::r,0,a,h,b=>by rw [U4,X3] at h;rw [N6,U4,b,h.2];rfl
 |x::r,n+1,a,h,b=>by rw [U4,X3] at h;rw [List.set_cons_succ,U4,h.1,qi5 h.2 b];rfl
def jr8 {U k} {a:AV U}: ∀ {cs:List (AV U)} {n},k∈v8 (cs.set n a)->k∈v8 cs\/k∈a.ids
 | [],_,h=>.inl h
 |x::r,0,h=>by
  rw [N6,v8] at h;rcases X4.1 h with h|h
  ·exact .inr h
  ·exact .inl (by rw [v8];exact X4.2 (.inr h))
 |x::r,n+1,h=>by
  rw [List.set_cons_succ,v8] at h;rcases X4.1 h with h|h
  ·exact .inl (by rw [v8];exact X4.2 (.inl h))
  ·exact (jr8 h).imp (fun h=>by rw [v8];exact X4.2 (.inr h)) id
def qk0 {H:List (Ent T.U)}: ∀ {aS},(∀a∈aS,okA H a)-> ∀k∈v8 aS,k<H.length
 | [],_,k,c=>by cases c
 |a::r,h,k,c=>by
  rw [v8] at c;rcases X4.1 c with c|c
  ·exact (h a (U2 ..)).1 k c
  ·exact qk0 (fun b d=>h b (Z4 _ d)) k c
variable {w0:World} {S0:Ow} {F:AF T} {F':PF} {w w':World} {S:List Nat} {φ:Nat->RA} {H:List (Ent T.U)}
def Sim.pinAll {c x p} (h:Sim T w0 ⟨c,x,p⟩ ⟨F,H⟩ F' w S φ):Sim T w0 ⟨c,x,(List.range H.length).map φ⟩ ⟨F,H⟩ F' w S φ:=
 ⟨h.fr,h.ids,h.chg,h.own,h.ex,h.lives,fun k r b=>by
  have a:=(X2.1 b).1;simp at a;simp [a] at b;exact ⟨.of b,a⟩,h.ents,h.eids,h.apart⟩
def Sim.forget1 (h:Sim T w0 S0 ⟨F,H⟩ F' w S φ) {n e} (A:H[n]?=some e) (B: ∀o t xs,e≠.row o t xs):Sim T w0 S0 ⟨F,H.set n .gone⟩ F' w S φ:=by
 have c: ∀k f,(H.set n .gone)[k]?=some f->f=Ent.gone\/H[k]?=some f:=fun k f b=>by
  rw [List.getElem?_set] at b;split at b
  ·split at b
   ·exact .inl (X5 b).symm
   ·cases b
  ·exact .inr b
 refine ⟨h.fr,fun k a l=>⟨fun q m=>by rw [Q1];exact (h.ids k a l).1 q m,?_⟩,h.chg,h.own,h.ex,fun k f b g a l=>?_,fun k r p=>⟨(h.pins k r p).1,by show k<(H.set n .gone).length;rw [Q1];exact (h.pins k r p).2⟩,fun k f b=>?_,fun k f b q m=>?_,fun k q f s b d g i=>?_⟩
 ·have v:=(h.ids k a l).2;cases a with
  |eptr x y z u=>
   intro o t xs j;rcases c _ _ j with j|j
   ·cases j
   ·exact v o t xs j
  |_=>trivial
 ·rcases c _ _ b with rfl|b
  ·cases g
  ·exact h.lives k f b g a l
 ·rcases c _ _ b with rfl|b
  ·trivial
  ·exact h.ents k f b
 ·show q<(H.set n .gone).length;rw [Q1];rcases c _ _ b with rfl|b
  ·cases m
  ·exact h.eids k f b q m
 ·rcases c _ _ b with rfl|b
  ·cases g
  ·rcases c _ _ d with rfl|d
   ·cases i
   ·exact h.apart k q f s b d g i
def Sim.recell (h:Sim T w0 S0 ⟨F,H⟩ F' w S φ) {i e cs} (j:H[i]?=some (.blk e cs)) (n:cs.all (za6 T)=true) {c a b} (p:cs[c]?=some a) (q:za6 T b=true) (l: ∀v,VR T w S φ a v->VR T w S φ b v) (d: ∀k∈b.ids,k<H.length):
  Sim T w0 S0 ⟨F,H.set i (.blk e (cs.set c b))⟩ F' w S φ:=by
 refine h.upd j rfl (Tc:= []) (Chg.refl [] w) (by simp) ?_ (fun k f=>?_) (fun C t xs h=>by cases h)
 ·obtain ⟨g,m,r,s,u,x⟩:=h.ents i _ j;refine ⟨g,m,r,s,u,BR.of T ?_ (qi5 n q)⟩;have o:=x.vrl T n;obtain ⟨v,y,z⟩:=o.get T p;have:=o.set T c (l v z);have A:m.toList.set c v=m.toList:=by
   obtain ⟨D,B⟩:=X2.1 y;rw [<-B,M1]
  rwa [A] at this
 ·rcases jr8 f with f|f
  ·exact h.eids i _ j k f
  ·exact d k f
def gb8 {c i e cs j} (h:Sim T w0 S0 ⟨F,H⟩ F' w S φ) (l:H[i]?=some (.blk e cs)) (p:cs.all (za6 T)=true) (m:cs[c]?=some (.mp j)):
  ∃r:RA,(∃g,(φ j).ad=some ⟨g,0,none⟩/\r.n=g)/\Sim T w0 S0 ⟨F,zw0 T c i e cs H⟩ F' w S (setR φ H.length r):=by
 obtain ⟨E,G,I,J,K,x⟩:=h.ents i _ l;obtain ⟨v,L,y⟩:=(x.vrl T p).get T m;obtain ⟨g,s,M⟩:=y;have z:j<H.length:=h.eids i _ l j (by show j∈v8 cs;exact jf0 m (by simp [AV.ids]));refine ⟨⟨none,g,0,[]⟩,⟨g,s,rfl⟩,?_⟩;have A:=h.addG (Tc:= []) (Chg.refl [] w) (by simp) (by simp) (fun _ _ _ _ _ _=>by simp) (S':=S) (fun _ h=>h) (fun _ h=>.inl h) (r:=⟨none,g,0,[]⟩) (fun a d=>by rcases d with d|d<;>cases d) (fun a d=>by rcases d with d|d<;>cases d) (e:=.hid) (by show (setR φ H.length _ H.length).ad=none/\(setR φ H.length _ H.length).xs= [];rw [w6];exact ⟨rfl,rfl⟩) (by intro q B;cases B);have f:i<H.length:=(X2.1 l).1;have t:=A.recell (i:=i) (c:=c) (b:=.hmp H.length) (by rw [X8 f];exact l) p m rfl (fun v C=>?_) (by intro k u;simp [AV.ids] at u;subst u;simp)
 ·rw [List.set_append_left _ _ f] at t;exact t
 ·obtain ⟨N,o,D⟩:=C;rw [zf0 (by omega),s] at o;simp only [X0,Addr.mk.injEq,and_true] at o;subst o;show v=.map (some (setR φ H.length _ H.length).n);rw [w6];exact D
def qh7 {f:FuncId} {c:Nat} {a:CallSpec T} (ha:w9 T P f a):w9 T P f (a.hide c):=by
 intro R aS H K Kp r hr w0 S0 F F' w S φ h vs hvs hok;simp only [CallSpec.hide] at hr;split at hr
 ·rename_i i e cs j hx;obtain ⟨hi,hn,hc⟩:=yy5 hx;obtain ⟨r0,⟨g,hg,hrn⟩,h1⟩:=gb8 h hi hn hc;have hil:i<H.length:=(X2.1 hi).1;have hjl:j<H.length:=h.eids i _ hi j (by show j∈v8 cs;exact jf0 hc (by simp [AV.ids]));obtain ⟨c0,x0,p0⟩:=S0;have hlenH:(zw0 T c i e cs H).length=H.length+1:=by simp [zw0]
  have hvs1:VRL T w S (setR φ H.length r0) aS vs:=hvs.phi fun k hk=>zf0 (by
   have:=(qk0 hok k hk);omega)
  have hok1: ∀a∈aS,okA (zw0 T c i e cs H) a:=fun a ha=>by
   obtain ⟨q1,q2⟩:=hok a ha;refine ⟨fun k hk=>by rw [hlenH];have:=q1 k hk;omega,?_⟩;cases a with
   |eptr x y z u=>
    intro e1 t xs hx;have hxl:=q1 x (by simp [AV.ids]);unfold zw0 at hx;rw [X8 (by rw [Q1];exact hxl),List.getElem?_set] at hx;by_cases hix:i=x
    ·rw [if_pos hix] at hx;split at hx<;>exact absurd hx (by simp)
    ·rw [if_neg hix] at hx;exact q2 e1 t xs hx
   |_=>trivial
  have back: ∀(x:AV T.U) (H1:List (Ent T.U)) (K:AV T.U->List (Ent T.U)->Option R) (v:Value) (w':World) (S1:List Nat) (φ1:Nat->RA),jq4 T c i j H.length K x H1=some r->Sim T w0 ⟨c0,x0,(List.range (zw0 T c i e cs H).length).map (setR φ H.length r0)⟩ ⟨F,H1⟩ F' w' S1 φ1->VR T w' S1 φ1 x v->okA H1 x->
    ∃a H2,K a H2=some r/\ ∃S1 φ1,Sim T w0 ⟨c0,x0,p0⟩ ⟨F,H2⟩ F' w' S1 φ1/\VR T w' S1 φ1 a v/\okA H2 a:=by
   intro x H1 K v w' S1 φ1 hs hsm hv ho;obtain ⟨H2,g1,g2,g3⟩:=yo2 hs;obtain ⟨e2,cs2,k1,k2,k3,k4,rfl⟩:=jh8 g1;have pin: ∀k,k<H.length+1->RSame (φ1 k) (setR φ H.length r0 k)/\k<H1.length:=fun k hk=>by
    have:=hsm.pins k (setR φ H.length r0 k) (by rw [hlenH];simp [hk]);exact this
   have hj1:=(pin j (by omega)).1;have hn1:=(pin H.length (by omega)).1;rw [zf0 (by omega)] at hj1;rw [w6] at hn1;have r1:=hsm.recell k1 k2 k3 (b:=.mp j) rfl (fun u hu=>⟨g,hj1.1.trans hg,by rw [show u=.map (some (φ1 H.length).n) from hu,hn1.2.1,hrn]⟩) (by intro k hk;simp [AV.ids] at hk;subst hk;exact (pin k (by omega)).2);have hni:i≠H.length:=by omega
   have r2:=r1.forget1 (n:=H.length) (e:=.hid) (by rw [Z5 hni];exact k4) (by intro _ _ _ h;cases h);refine ⟨x,_,g2,S1,φ1,⟨r2.fr,r2.ids,r2.chg,r2.own,r2.ex,r2.lives,fun k r hk=>?_,r2.ents,r2.eids,r2.apart⟩,hv,?_⟩
   ·obtain ⟨q1,q2⟩:=h.pins k r hk;have q2:k<H.length:=q2;have:=pin k (by omega);rw [zf0 (by omega)] at this;exact ⟨this.1.trans q1,by show k<((H1.set i _).set H.length .gone).length;rw [Q1,Q1];exact this.2⟩
   ·refine ⟨fun k hk=>by rw [Q1,Q1];exact ho.1 k hk,?_⟩;cases x with
    |eptr x y z u=>exact absurd rfl (g3 x y z u)
    |_=>trivial
  refine (ha aS _ _ _ r hr w0 ⟨c0,x0,_⟩ F F' w S _ h1.pinAll vs hvs1 hok1).mono fun en w' hR=>?_;cases en with
  |returned v=>obtain ⟨x,H1,q1,S1,φ1,q2,q3,q4⟩:=hR;exact back x H1 K v w' S1 φ1 q1 q2 q3 q4
  |panicked ch=>obtain ⟨x,H1,q1,v,hch,S1,φ1,q2,q3,q4⟩:=hR;obtain ⟨a,H2,m1,S2,φ2,m2⟩:=back x H1 Kp v w' S1 φ1 q1 q2 q3 q4;exact ⟨a,H2,m1,v,hch,S2,φ2,m2⟩
  |outgrown=>exact hR.elim
 ·exact ha aS H K Kp r hr w0 S0 F F' w S φ h vs hvs hok
def wb0 {c} {a:CallSpec T} (J:zp3 a):zp3 (a.hide c):=by
 intro R aS H K M r v;simp only [CallSpec.hide] at v;split at v
 ·rename_i i e cs j d;obtain ⟨N,W,X⟩:=yy5 d;have O:i<H.length:=(X2.1 N).1;have A:(zw0 T c i e cs H).length=H.length+1:=by simp [zw0]
  have B:(a.hide c).wr aS H=i::H.length::a.wr aS (zw0 T c i e cs H):=by simp only [CallSpec.hide,d]
  rw [B];have f: ∀ {x:AV T.U} {H1 H2:List (Ent T.U)},qw5 T c i j H.length H1=some H2->Keeps T (a.wr aS (zw0 T c i e cs H)) (zw0 T c i e cs H) H1->Keeps T (i::H.length::a.wr aS (zw0 T c i e cs H)) H H2:=by
   intro x H1 H2 Q C;obtain ⟨V,D,Y,Z,k3,k4,rfl⟩:=jh8 Q;have q: ∀k,k≠i->k≠H.length->((H1.set i (.blk V (D.set c (.mp j)))).set H.length .gone)[k]?=H1[k]?:=fun k g b=>by
    rw [Z5 (Ne.symm b),Z5 (Ne.symm g)]
   have hid: ∀k,k≠i->k<H.length->(zw0 T c i e cs H)[k]?=H[k]?:=fun k g b=>by
    unfold zw0;rw [X8 (by rw [Q1];exact b),Z5 (Ne.symm g)]
   refine ⟨by rw [Q1,Q1];have:=C.len;omega,fun k g b=>?_,fun k ty t ys g b=>?_⟩
   ·simp only [Z0,not_or] at b;rw [q k b.1 b.2.1,C.same k (by omega) b.2.2,hid k b.1 g]
   ·by_cases l:k=i
    ·subst l;rw [Z5 (by omega),List.getElem?_set] at b;split at b
     ·split at b<;>cases b
     ·rename_i h;exact absurd rfl h
    ·rw [q k l (by omega)] at b;obtain ⟨xs,L⟩:=C.row k ty t ys (by omega) b;rw [hid k l g] at L;exact ⟨xs,L⟩
  rcases J aS _ _ _ r v with ⟨x,H1,m,n,o⟩|⟨x,H1,m,n,o⟩
  ·obtain ⟨H2,s,E,G⟩:=yo2 m;refine .inl ⟨x,H2,E,f (x:=x) s n,fun I p=>?_⟩;simp only [CallSpec.hide,d,o,jq4,s];cases x with
   |eptr x y z u=>exact absurd rfl (G x y z u)
   |_=>rfl
  ·obtain ⟨H2,s,E,G⟩:=yo2 m;refine .inr ⟨x,H2,E,f (x:=x) s n,fun I p=>?_⟩;simp only [CallSpec.hide,d,o,jq4,s];cases x with
   |eptr x y z u=>exact absurd rfl (G x y z u)
   |_=>rfl
 ·rename_i d;have B:(a.hide c).wr aS H=a.wr aS H:=by simp only [CallSpec.hide,d]
  rw [B];rcases J aS H K M r v with ⟨x,H1,m,n,o⟩|⟨x,H1,m,n,o⟩
  ·exact .inl ⟨x,H1,m,n,fun I p=>by simp only [CallSpec.hide,d,o]⟩
  ·exact .inr ⟨x,H1,m,n,fun I p=>by simp only [CallSpec.hide,d,o]⟩
def w7 {f} (c) {a} (b:w9 T P f a/\zh3 T P f a/\zp3 a):w9 T P f (a.hide c)/\zh3 T P f (a.hide c)/\zp3 (a.hide c):=⟨qh7 b.1,b.2.1,wb0 b.2.2⟩
end
end Go.X
namespace Go.X
open Go.RowKit Go.V
section
variable {T:Tab} {P:Program}
def yn4 (c:IntKind) (n:Int) (t:Ty) (r:IntKind) (g:den T.U t->Option Int) (a:CallSpec T):CallSpec T where
 call:=fun aS H K b=>match aS with
  | [d,.own i]=>match kj4 c n d with
   |true=>yo0 T H [.val t] [.own i] fun x=>j7 (g x) fun y=>K (.cell ⟨.int r,y⟩) H
   |false=>a.call aS H K b
  |_=>a.call aS H K b
 q:=a.q
 isq:=a.isq
 wr:=a.wr
def Sim.noneF (w φ):Sim T w ⟨[],[],[]⟩ ⟨[],[]⟩ [] w [] φ:=
 ⟨(fun i a h=>by cases h),(fun i a h=>by cases h),Chg.refl _ _,(fun b c=>by cases c),(fun b c=>by cases c),(fun i e h=>by simp at h),(fun k r h=>by simp at h),(fun i e h=>by simp at h),(fun i e h=>by simp at h),(fun i j e d h=>by simp at h)⟩
def vm7 (H l):Keeps T l H H:=⟨W6 _,fun _ _ _=>rfl,fun e ty t ys _ h=>⟨ys,h⟩⟩
def qt6 {f:FuncId} {kn:IntKind} {n:Int} {t:Ty} {rk:IntKind} {g:den T.U t->Option Int} {G:ze2 T [.lit kn n,.val t]->Option (zn7 T []×ze2 T [.val (.int rk)])} (hok:GOk T P f ⟨[.lit kn n,.val t],[],[.val (.int rk)],G⟩) (hg: ∀x,g x=(G ((),x,())).map fun y=>y.2.1)
  {R:Type} {r:R} {a0 a:AV T.U} {H:List (Ent T.U)} {K Kp:AV T.U->List (Ent T.U)->Option R} (h0:kj4 kn n a0=true) (hr:(yo0 T H [.val t] [a] fun x=>j7 (g x) fun y=>K (.cell ⟨.int rk,y⟩) H)=some r)
  {w0:World} {S0:Ow} {F:AF T} {F':PF} {w:World} {S:List Nat} {φ:Nat->RA} (h:Sim T w0 S0 ⟨F,H⟩ F' w S φ) {vs:List Value} (hvs:VRL T w S φ [a0,a] vs):
  Calls P f vs.toArray w fun e w'=>match e with
   | .returned v=> ∃a H1,K a H1=some r/\ ∃S1 φ1,Sim T w0 S0 ⟨F,H1⟩ F' w' S1 φ1/\VR T w' S1 φ1 a v/\okA H1 a
   | .panicked ch=> ∃a H1,Kp a H1=some r/\ ∃v,ch= [{v:=v,recovered:=false}]/\ ∃S1 φ1,Sim T w0 S0 ⟨F,H1⟩ F' w' S1 φ1/\VR T w' S1 φ1 a v/\okA H1 a
   | .outgrown=>False:=by
 match vs,hvs with
 | [v0,v1],hvs=>
  have e0:=vf4 h0;subst e0;have hv0:CR T w S (.int kn) n v0:=hvs.1;have hv0':CR T w [] (.int kn) n v0:=by cases hv0;exact .int _ _
  obtain ⟨x,hx,hv,_,_⟩:=yx3 hr (fun i _ en hi _=>h.ents i en hi) (vs:= [v1]) ⟨hvs.2.1,trivial⟩ φ 0;obtain ⟨y0,hy,hK⟩:=za8 hx;rw [hg x] at hy;cases hG:G ((),x,()) with
  |none=>rw [hG] at hy;cases hy
  |some y=>
  rw [hG] at hy;have hys:y.2.1=y0:=X5 hy;refine (hok ((),x,()) y hG w [] φ (Sim.noneF w φ) [v0,v1] ⟨hv0',hv⟩ (fun a ha=>by
   have ha:a∈ [AV.cell ⟨.int kn,n⟩,zm8 T t x]:=ha;rcases Z0.1 ha with rfl|ha
   ·exact ⟨(fun i hi=>by cases hi),trivial⟩
   ·rw [Q4] at ha;subst ha;exact vk0 x)).mono fun en w' hR=>?_
  cases en with
  |panicked ch=>exact hR.elim
  |outgrown=>exact hR.elim
  |returned v=>
   obtain ⟨F1,S1,φ1,us,g1,g2,rfl,g3⟩:=hR;have hchg:Chg [] w w':=g1.chg;have hgr:=h.grow hchg (S1:=S) (fun b hb=>hb) (fun b hb=>.inl hb);have g2:VRL T w' S1 φ1 [.cell ⟨.int rk,y.2.1⟩] us:=g2
   match us,g2 with
   | [u],g2=>
    refine ⟨_,_,hK,S,φ,hgr,?_,⟨(fun i hi=>by cases hi),trivial⟩⟩;have hu:CR T w' S1 (.int rk) y.2.1 u:=g2.1;rw [hys] at hu;show CR T w' S (.int rk) y0 u;cases hu;exact .int _ _
def zq2 {f m n t p g G} (D:GOk T P f ⟨[.lit m n,.val t],[],[.val (.int p)],G⟩) (J: ∀x,g x=(G ((),x,())).map fun y=>y.2.1)
  {k} (B:w9 T P f k/\zh3 T P f k/\zp3 k):w9 T P f (yn4 m n t p g k)/\zh3 T P f (yn4 m n t p g k)/\zp3 (yn4 m n t p g k):=by
 refine ⟨?_,B.2.1,?_⟩
 ·intro R aS H K C r o w0 S0 F O w S φ h vs q s;simp only [yn4] at o;split at o
  ·split at o
   ·rename_i u;exact qt6 D J u o h q
   ·exact B.1 _ _ _ _ _ o _ _ _ _ _ _ _ h _ q s
  ·exact B.1 _ _ _ _ _ o _ _ _ _ _ _ _ h _ q s
 ·intro R aS H K C r o;have L:(yn4 m n t p g k).wr=k.wr:=rfl;rw [L];have c:(∀ {v:Type} (j d:AV T.U->List (Ent T.U)->Option v),(yn4 m n t p g k).call aS H j d=k.call aS H j d)->((∃a H1,K a H1=some r/\Keeps T (k.wr aS H) H H1/\ ∀ {v:Type} (j d:AV T.U->List (Ent T.U)->Option v),(yn4 m n t p g k).call aS H j d=j a H1)\/
    ∃a H1,C a H1=some r/\Keeps T (k.wr aS H) H H1/\ ∀ {v:Type} (j d:AV T.U->List (Ent T.U)->Option v),(yn4 m n t p g k).call aS H j d=d a H1):=fun e=>by
   rcases B.2.2 aS H K C r ((e K C).symm.trans o) with ⟨a,H1,z,E,I⟩|⟨a,H1,z,E,I⟩
   ·exact .inl ⟨a,H1,z,E,fun j d=>(e j d).trans (I j d)⟩
   ·exact .inr ⟨a,H1,z,E,fun j d=>(e j d).trans (I j d)⟩
  match aS with
  | [l,.own i]=>
   cases u:kj4 m n l with
   |true=>
    simp only [yn4,u] at o;obtain ⟨x,z,A⟩:=yx2 o;obtain ⟨y,M,N⟩:=za8 z;exact .inl ⟨_,_,N,vm7 _ _,fun j d=>by simp only [yn4,u,A,M,j7]⟩
   |false=>exact c fun j d=>by simp only [yn4,u]
  | []=>exact c fun j d=>rfl
  | [_]=>exact c fun j d=>rfl
  |_::b::_::_=>exact c fun j d=>by cases b<;>rfl
  | [l,.cell _]=>exact c fun j d=>rfl
  | [l,.ptr _ _]=>exact c fun j d=>rfl
  | [l,.eptr _ _ _ _]=>exact c fun j d=>rfl
  | [l,.lptr _ _ _ _]=>exact c fun j d=>rfl
  | [l,.sl _ _ _ _]=>exact c fun j d=>rfl
  | [l,.agg _]=>exact c fun j d=>rfl
  | [l,.tup _]=>exact c fun j d=>rfl
  | [l,.fn _ _ _]=>exact c fun j d=>rfl
  | [l,.ifc _ _]=>exact c fun j d=>rfl
  | [l,.raw _]=>exact c fun j d=>rfl
  | [l,.arr _ _ _]=>exact c fun j d=>rfl
  | [l,.aptr _ _ _ _ _ _]=>exact c fun j d=>rfl
  | [l,.asl _ _ _ _ _ _]=>exact c fun j d=>rfl
  | [l,.mp _]=>exact c fun j d=>rfl
  | [l,.hmp _]=>exact c fun j d=>rfl
end
end Go.X
