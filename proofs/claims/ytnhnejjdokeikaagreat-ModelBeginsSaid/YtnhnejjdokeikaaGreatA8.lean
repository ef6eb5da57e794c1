import Derived.Test.YtnhnejjdokeikaaGreatA7
set_option linter.defProp false
namespace Go.X
open Go.RowKit Go.V
structure Ks (T:Tab) (R:Type) where
 normal:St T->Option R
 exit:Nat->St T->Option R
 ret:St T->Option R
 panic:AV T.U->St T->Option R
abbrev Pos:=List Bool
def kr8:Pos->Pos->Bool
 | [],[]=>true
 |true::a,true::b=>kr8 a b
 |false::a,false::b=>kr8 a b
 |_,_=>false
section
variable {T:Tab} {R:Type}
def qs0 (m:Nat) (l:Option Cut) (st:St T) (J K:St T->Option R):Option R:=
 match l with
 |none=>K st
 |some c=>match c.inl with
  |true=>K (dzS c.dz st)
  |false=>match c.whole with
  |true=>J st
  |false=>match wa0 T m c.l (yt6 T c.nils (dzS c.dz st)) with|some b=>J ⟨b.F,ze8 T c.bn b.H⟩|none=>none
def qy4:List (Nat×Nat)->Nat->Option Nat
 | [],_=>none
 |(j,m)::r,i=>match Nat.beq j i with|true=>some m|false=>qy4 r i
def jf4:List (Pos×Cut)->Pos->Option Cut
 | [],_=>none
 |(j,l)::r,i=>match kr8 j i with|true=>some l|false=>jf4 r i
variable (P:Program) (C:Ctx T) (n:Nat) (cuts:List (Pos×Cut))
def Ks.behind (K:Ks T R) (f:St T->Option R):Ks T R:=⟨f,K.exit,K.ret,K.panic⟩
def Ks.block (K:Ks T R) (id:Nat):Ks T R:=⟨K.normal,fun i st=>match Nat.beq i id with|true=>K.normal st|false=>K.exit i st,K.ret,K.panic⟩
section
variable (J:Pos->St T->Option R)
noncomputable def evC:Code->Pos->Ks T R->St T->Option R
 | .skip,_,K,st=>K.normal st
 | .region id ops d,_,K,st=>match d with
  |false=>um8 P C ops n K.panic K.normal st
  |true=>match qy4 C.ms id with
   |some m=>gz0 T P C ops n (Nat.beq m 1) K.panic K.normal st
   |none=>match Region.lexB .any ops with|true=>um9 P C ops n K.normal st|false=>none
 | .seq x y,q,K,st=>evC x (false::q) (K.behind fun st=>qs0 C.pin (jf4 cuts q) st (J q) (evC y (true::q) K)) st
 | .cond c x y,q,K,st=>match aev T st.F c with
  |some (.cell ⟨.bool,b⟩)=>j8 b (evC x (false::q) K st) (evC y (true::q) K st)
  |_=>none
 | .block id c,q,K,st=>evC c (false::q) (K.block id) st
 | .exit id,_,K,st=>K.exit id st
 | .loop _,q,_,st=>qs0 C.pin (jf4 cuts q) st (J q) fun _=>none
 | .ret,_,K,st=>K.ret st
 |_,_,_,_=>none
noncomputable def qj5:Code->Pos->Ks T R->List Bool->St T->Option R
 | .seq _ y,q,K,[],st=>evC P C n cuts J y (true::q) K st
 | .seq x y,q,K,false::r,st=>qj5 x (false::q) (K.behind fun st=>qs0 C.pin (jf4 cuts q) st (J q) (evC P C n cuts J y (true::q) K)) r st
 | .seq _ y,q,K,true::r,st=>qj5 y (true::q) K r st
 | .cond _ x _,q,K,false::r,st=>qj5 x (false::q) K r st
 | .cond _ _ y,q,K,true::r,st=>qj5 y (true::q) K r st
 | .block id c,q,K,false::r,st=>qj5 c (false::q) (K.block id) r st
 | .loop c,q,K,[],st=>evC P C n cuts J c (false::q) (K.behind fun st=>qs0 C.pin (jf4 cuts q) st (J q) fun _=>none) st
 | .loop c,q,K,false::r,st=>qj5 c (false::q) (K.behind fun st=>qs0 C.pin (jf4 cuts q) st (J q) fun _=>none) r st
 |_,_,_,_,_=>none
end
noncomputable def run (c:Code) (K:Ks T R) (m:Nat):Pos->St T->Option R:=Nat.rec (fun _ _=>none) (fun _ b q st=>qj5 P C n cuts b c [] K q.reverse st) m
end
section
variable {P:Program} {Q:Exit->Act->World->Prop} {a:Act} {w:World}
def lwp (P:Program) (c:Code) (Q:Exit->Act->World->Prop) (a:Act) (w:World):Prop:=
 ∀(b:Frame) (k:List Item) (cs:List Frame),∃e d w',Q e d w'/\Arrives P (lone (b.at a (.code c:: .inLoop c::k)) cs w) b k cs e d w'
def qg7 {c} (h:lwp P c Q a w):(Code.loop c).wp P Q a w:=by
 intro b k cs;obtain ⟨e,f,w',g,d⟩:=h b k cs;exact ⟨e,f,w',g,.of_steps (.one step_loop) d⟩
def wc8 {c:Code} (h:c.wp P (Exit.then (lwp P c Q) Q) a w):lwp P c Q a w:=by
 intro b k cs;obtain ⟨e,a₁,w₁,hq,harr⟩:=h b (.inLoop c::k) cs;cases e with
 |normal=>
  obtain ⟨e₂,a₂,w₂,hq₂,harr₂⟩:=hq b k cs;exact ⟨e₂,a₂,w₂,hq₂,.of_steps (Steps.trans harr (.one step_inLoop)) harr₂⟩
 |exit id=>exact ⟨_,a₁,w₁,hq,.pass (x:=.inLoop c) rfl (fun _ _=>.inl (by simp)) harr⟩
 |goto l=>exact ⟨_,a₁,w₁,hq,.pass (x:=.inLoop c) rfl (fun _ _=>.inl (by simp)) harr⟩
 |ret=>exact ⟨_,a₁,w₁,hq,.pass (x:=.inLoop c) rfl (fun _ _=>.inl (by simp)) harr⟩
 |panic ch=>exact ⟨_,a₁,w₁,hq,.pass (x:=.inLoop c) rfl (fun _ _=>.inl (by simp)) harr⟩
 |outgrown=>exact ⟨_,a₁,w₁,hq,.pass (x:=.inLoop c) rfl (fun _ _=>.inl (by simp)) harr⟩
end
section
variable {T:Tab} {P:Program} {C:Ctx T} {w:World} {S:List Nat} {φ:Nat->RA} {w0:World} {S0:Ow} {F:AF T} {H:List (Ent T.U)} {F':PF}
variable {Q:Exit->Act->World->Prop} {n:Nat} {cuts:List (Pos×Cut)} {ds:List Deferred} {R:Type} {r:R}
def SK (n:Nat) (ds:List Deferred) (w0:World) (S0:Ow) (X:Act->World->Prop) (st:St T):Prop:= ∀F1 b,zd2 T w0 S0 st F1 b-> ∀a,Fr n ds F1 a->X a b
structure KsOk (Q:Exit->Act->World->Prop) (n:Nat) (ds:List Deferred) (w0:World) (S0:Ow) (r:R) (K:Ks T R):Prop where
 normal: ∀st,K.normal st=some r->SK n ds w0 S0 (Q .normal) st
 exit: ∀i st,K.exit i st=some r->SK n ds w0 S0 (Q (.exit i)) st
 ret: ∀st,K.ret st=some r->SK n ds w0 S0 (Q .ret) st
 panic: ∀a st,K.panic a st=some r->ym2 Q n ds w0 S0 a st
def yb8 {m l st J K} (e:S0.pin.length<=m) (h:qs0 m l st J K=some r) (d:zd2 T w0 S0 st F' w): ∃b,(K b=some r\/J b=some r)/\zd2 T w0 S0 b F' w:=by
 unfold qs0 at h;split at h
 ·exact ⟨st,.inl h,d⟩
 ·split at h
  ·exact ⟨_,.inl h,jr5 _ d⟩
  ·split at h
   ·exact ⟨st,.inr h,d⟩
   ·split at h
    ·rename_i c _ _ _ _ _ b f;exact ⟨_,.inr h,ze3 c.bn (ji2 e (zx1 _ (jr5 _ d)) f)⟩
    ·cases h
def JOk (P:Program) (n:Nat) (ds:List Deferred) (w0:World) (S0:Ow) (r:R) (J:Pos->St T->Option R):Code->Pos->(Exit->Act->World->Prop)->Prop
 | .seq x y,q,Q=>(∀st,J q st=some r->SK n ds w0 S0 (y.wp P Q) st)/\JOk P n ds w0 S0 r J x (false::q) (Exit.then (y.wp P Q) Q)/\JOk P n ds w0 S0 r J y (true::q) Q
 | .cond _ x y,q,Q=>JOk P n ds w0 S0 r J x (false::q) Q/\JOk P n ds w0 S0 r J y (true::q) Q
 | .block id c,q,Q=>JOk P n ds w0 S0 r J c (false::q) (Exit.inBlock id Q)
 | .loop c,q,Q=>(∀st,J q st=some r->SK n ds w0 S0 (lwp P c Q) st)/\JOk P n ds w0 S0 r J c (false::q) (Exit.then (lwp P c Q) Q)
 |_,_,_=>True
def KsOk.block {K:Ks T R} (b:KsOk Q n ds w0 S0 r K) (id:Nat):KsOk (Exit.inBlock id Q) n ds w0 S0 r (K.block id):=by
 refine ⟨b.normal,?_,b.ret,b.panic⟩;intro i c f F1 h d a j;simp only [Ks.block] at f;simp only [Exit.inBlock];split at f
 ·rename_i g;rw [if_pos (X1 g)];exact b.normal c f F1 h d a j
 ·rename_i g;rw [if_neg (fun e=>by subst e;simp at g)];exact b.exit i c f F1 h d a j
def KsOk.behind {K:Ks T R} (e:KsOk Q n ds w0 S0 r K) {X f} (m: ∀st,f st=some r->SK n ds w0 S0 X st):KsOk (Exit.then X Q) n ds w0 S0 r (K.behind f):=
 ⟨m,fun i st h F1 b c a g=>e.exit i st h F1 b c a g,fun st h F1 b c a g=>e.ret st h F1 b c a g,fun a st h F1 b S1 j v c o k l d=>e.panic a st h F1 b S1 j v c o k l d⟩
variable {J:Pos->St T->Option R}
def zf2 (hm:P.follows .mixedOrders=true) (hp:S0.pin.length<=C.pin) (hE:zc5 T P C.E): ∀(c:Code) (q:Pos) (K:Ks T R) (st:St T) (Q:Exit->Act->World->Prop) (F':PF) (w:World),evC P C n cuts J c q K st=some r->KsOk Q n ds w0 S0 r K->JOk P n ds w0 S0 r J c q Q->zd2 T w0 S0 st F' w->CW P c Q n ds F' w
 | .skip,q,K,st,Q,F',w,h,hK,hJ,hs=>.skip fun a ha=>hK.normal st h F' w hs a ha
 | .region id ops draw,q,K,st,Q,F',w,h,hK,hJ,hs=>by
  obtain ⟨S,φ,hs⟩:=hs;unfold evC at h;cases draw with
  |false=>exact .region (jv6 hE (fun st hst=>hK.normal st hst) hK.panic h hs)
  |true=>
   simp only at h;split at h
   ·exact qv9 hE hm (fun st hst=>hK.normal st hst) hK.panic h hs
   ·split at h
    ·rename_i hB;exact .regionQ hm hB (qw0 hE (fun st hst=>hK.normal st hst) h hs)
    ·cases h
 | .seq x y,q,K,st,Q,F',w,h,hK,hJ,hs=>by
  unfold evC at h;obtain ⟨j1,j2,j3⟩:=hJ;have:=zf2 hm hp hE x _ _ st _ F' w h (hK.behind (X:=y.wp P Q) fun st1 h1 F1 w1 hs1 a ha=>by
   obtain ⟨st2,h2,hs2⟩:=yb8 hp h1 hs1;rcases h2 with h2|h2
   ·exact zf2 hm hp hE y _ _ st2 Q F1 w1 h2 hK j3 hs2 a ha
   ·exact j1 st2 h2 F1 w1 hs2 a ha) j2 hs
  exact fun a ha=>wp_seq (this a ha)
 | .cond c x y,q,K,st,Q,F',w,h,hK,hJ,hs=>by
  unfold evC at h;split at h
  ·rename_i b hc;obtain ⟨S,φ,hs'⟩:=hs;obtain ⟨v,h1,h2⟩:=w4 hs'.fr hc;have:=zf1 h2;subst this;refine .cond b h1 (fun hb=>?_) fun hb=>?_
   ·rcases zh9 h with ⟨_,h⟩|⟨hb',_⟩
    ·exact zf2 hm hp hE x _ K st Q F' w h hK hJ.1 ⟨S,φ,hs'⟩
    ·exact absurd (hb.symm.trans hb') (by simp)
   ·rcases zh9 h with ⟨hb',_⟩|⟨_,h⟩
    ·exact absurd (hb.symm.trans hb') (by simp)
    ·exact zf2 hm hp hE y _ K st Q F' w h hK hJ.2 ⟨S,φ,hs'⟩
  ·cases h
 | .block id c,q,K,st,Q,F',w,h,hK,hJ,hs=>by
  unfold evC at h;exact .block (zf2 hm hp hE c _ _ st _ F' w h (hK.block id) hJ hs)
 | .exit id,q,K,st,Q,F',w,h,hK,hJ,hs=>.exit fun a ha=>hK.exit id st h F' w hs a ha
 | .ret,q,K,st,Q,F',w,h,hK,hJ,hs=>.ret fun a ha=>hK.ret st h F' w hs a ha
 | .loop c,q,K,st,Q,F',w,h,hK,hJ,hs=>by
  unfold evC at h;obtain ⟨st1,h1,hs1⟩:=yb8 hp h hs;rcases h1 with h1|h1
  ·cases h1
  ·exact fun a ha=>qg7 (hJ.1 st1 h1 F' w hs1 a ha)
 | .rangeFunc ..,_,_,_,_,_,_,h,_,_,_=>by unfold evC at h;cases h
 | .scope _,_,_,_,_,_,_,h,_,_,_=>by unfold evC at h;cases h
 | .label _,_,_,_,_,_,_,h,_,_,_=>by unfold evC at h;cases h
 | .goto _,_,_,_,_,_,_,h,_,_,_=>by unfold evC at h;cases h
 | .refuse _,_,_,_,_,_,_,h,_,_,_=>by unfold evC at h;cases h
def JOk.none: ∀(c q Q),JOk P n ds w0 S0 r (fun (_:Pos) (_:St T)=>Option.none) c q Q
 | .seq x y,q,Q=>⟨fun st h=>(by cases h),JOk.none x _ _,JOk.none y _ _⟩
 | .cond _ x y,q,Q=>⟨JOk.none x _ _,JOk.none y _ _⟩
 | .block id c,q,Q=>JOk.none c _ _
 | .loop c,q,Q=>⟨fun st h=>(by cases h),JOk.none c _ _⟩
 | .skip,_,_=>trivial
 | .region ..,_,_=>trivial
 | .exit _,_,_=>trivial
 | .ret,_,_=>trivial
 | .rangeFunc ..,_,_=>trivial
 | .scope _,_,_=>trivial
 | .label _,_,_=>trivial
 | .goto _,_,_=>trivial
 | .refuse _,_,_=>trivial
def JOk.next (i:P.follows .mixedOrders=true) (e:S0.pin.length<=C.pin) (j:zc5 T P C.E) {v L M} (d: ∀q st,M q st=qj5 P C n cuts J v [] L q.reverse st):
  ∀(c q K Q),(∀s st,qj5 P C n cuts J v [] L (q.reverse++s) st=qj5 P C n cuts J c q K s st)->KsOk Q n ds w0 S0 r K->JOk P n ds w0 S0 r J c q Q->JOk P n ds w0 S0 r M c q Q
 | .seq x y,q,K,Q,b,f,o=>by
  obtain ⟨A,z,B⟩:=o;have k:KsOk (Exit.then (y.wp P Q) Q) n ds w0 S0 r (K.behind fun st=>qs0 C.pin (jf4 cuts q) st (J q) (evC P C n cuts J y (true::q) K)):=f.behind (X:=y.wp P Q) fun D G F1 p u a t=>by
   obtain ⟨l,g,m⟩:=yb8 e G u;rcases g with g|g
   ·exact zf2 i e j y _ _ l Q F1 p g f B m a t
   ·exact A l g F1 p m a t
  refine ⟨?_,JOk.next i e j d x _ _ _ (fun s st=>?_) k z,JOk.next i e j d y _ _ _ (fun s st=>?_) f B⟩
  ·intro st h F1 p I a t;rw [d,<-List.append_nil q.reverse,b] at h;exact zf2 i e j y _ _ st Q F1 p h f B I a t
  ·rw [N7,Q2];exact b _ st
  ·rw [N7,Q2];exact b _ st
 | .cond _ x y,q,K,Q,b,f,o=>by
  refine ⟨JOk.next i e j d x _ _ _ (fun s st=>?_) f o.1,JOk.next i e j d y _ _ _ (fun s st=>?_) f o.2⟩
  ·rw [N7,Q2];exact b _ st
  ·rw [N7,Q2];exact b _ st
 | .block id c,q,K,Q,b,f,o=>by
  refine JOk.next i e j d c _ _ _ (fun s st=>?_) (f.block id) o;rw [N7,Q2];exact b _ st
 | .loop c,q,K,Q,b,f,o=>by
  obtain ⟨A,z⟩:=o;have k:KsOk (Exit.then (lwp P c Q) Q) n ds w0 S0 r (K.behind fun st=>qs0 C.pin (jf4 cuts q) st (J q) fun _=>Option.none):=f.behind (X:=lwp P c Q) fun D G F1 p u a t=>by
   obtain ⟨l,g,m⟩:=yb8 e G u;rcases g with g|g
   ·cases g
   ·exact A l g F1 p m a t
  refine ⟨?_,JOk.next i e j d c _ _ _ (fun s st=>?_) k z⟩
  ·intro st h F1 p I a t;rw [d,<-List.append_nil q.reverse,b] at h;exact wc8 (zf2 i e j c _ _ st _ F1 p h k z I a t)
  ·rw [N7,Q2];exact b _ st
 | .skip,_,_,_,_,_,_=>trivial
 | .region ..,_,_,_,_,_,_=>trivial
 | .exit _,_,_,_,_,_,_=>trivial
 | .ret,_,_,_,_,_,_=>trivial
 | .rangeFunc ..,_,_,_,_,_,_=>trivial
 | .scope _,_,_,_,_,_,_=>trivial
 | .label _,_,_,_,_,_,_=>trivial
 | .goto _,_,_,_,_,_,_=>trivial
 | .refuse _,_,_,_,_,_,_=>trivial
def JOk.run (d:P.follows .mixedOrders=true) (e:S0.pin.length<=C.pin) (f:zc5 T P C.E) {b c Q} (g:KsOk Q n ds w0 S0 r c): ∀m:Nat,JOk P n ds w0 S0 r (Go.X.run P C n cuts b c m) b [] Q
 |0=>JOk.none b [] Q
 |m+1=>JOk.next d e f (fun _ _=>rfl) b [] c Q (fun _ _=>rfl) g (JOk.run d e f g m)
end
end Go.X
namespace Go.X
open Go.RowKit Go.V
section
variable (T:Tab)
def vx4 (m:Nat):List Nat->List (AV T.U)->List (Ent T.U)->Option (List (AV T.U)×List (Ent T.U))
 | [],aS,H=>some (aS,H)
 |j::r,aS,H=>match aS[j]? with
  |some (.asl i o sz n a k)=>match H[i]? with
   |some (.blk e [b])=>match jd1 b with
    |some ⟨t,c,xs⟩=>match Nat.beq o 0&&(Nat.beq a 0&&(Nat.beq c n&&(Nat.beq k n&&(Nat.beq sz (szT T t)&&(Nat.ble n 9223372036854775807&&Nat.ble 1 n&&(Nat.ble m i&&(!(zx9 i (v8 (aS.set j (.raw undef))))&&H.all fun e=> !(zx9 i e.cellIds)))))))) with
     |true=>vx4 m r (aS.set j (.own i)) (H.set i (.row e t xs))
     |false=>none
    |none=>none
   |_=>none
  |some _=>vx4 m r aS H
  |none=>none
structure Zw where
 w:List Nat
 z:List (Nat×Ty)
end
section
variable {T:Tab} {w:World} {S:List Nat} {w0:World} {S0:Ow} {F':PF}
def yc2 {m} (L:S0.pin.length<=m): ∀(l) {aS A us H H' φ},vx4 T m l aS H=some (A,H')->Sim T w0 S0 ⟨[],H⟩ F' w S φ->VRL T w S φ aS us->(∀i∈v8 aS,i<H.length)->
  ∃φ',Sim T w0 S0 ⟨[],H'⟩ F' w S φ'/\VRL T w S φ' A us/\ ∀i∈v8 A,i<H'.length
 | [],aS,A,us,H,H',φ,h,u,N,hid=>by
  simp only [vx4,X0,X7] at h;obtain ⟨rfl,rfl⟩:=h;exact ⟨φ,u,N,hid⟩
 |j::r,aS,A,us,H,H',φ,h,u,N,hid=>by
  unfold vx4 at h;split at h
  ·rename_i i o sz n lo k O;split at h<;>try (cases h;done)
   rename_i e b Z;split at h<;>try (cases h;done)
   rename_i t n' xs hb;have:=zp9 hb;subst this;split at h<;>try (cases h;done)
   rename_i hc;simp only [X3,V8] at hc;obtain ⟨c1,c2,c3,c4,c5,c6,c7,c8,c9⟩:=hc;have:=X1 c1;subst this;have:=X1 c2;subst this;have:=X1 c3;subst this;have:=X1 c4;subst this;have:=X1 c5;subst this;have c60:=Y1 c6.2;have c6:=Y1 c6.1;have c7:=Y1 c7;have Q:=(X2.1 Z).1;obtain ⟨g,c,a1,a2,a3,a4,a5⟩:=u.ents i _ Z;have E:xs.length=k:=a5.1;have R:CellsR T w S (xs.flatMap (zc4 T t)) c.toList:=by
    have:=a4;rw [zi1,zi1,K8] at this;exact VRL.cells.1 this
   have V:c.size=k*szT T t:=by
    have:=R.1;rw [flatMap_lenT (za0 T t),E] at this;simpa using this.symm
   let φ':Nat->RA:=setR φ i ⟨some ⟨g,0,none⟩,k,k,(φ i).xs⟩
   have y: ∀q,q≠i->φ' q=φ q:=fun q p=>zf0 p;have W: ∀q,(φ' q).ad=(φ q).ad:=fun q=>by
    by_cases p:q=i
    ·subst p;show (setR φ q _ q).ad=_;rw [w6];exact a1.symm
    ·rw [y q p]
   have G: ∀ {q:Nat} {z:Addr},At (φ' q) z->At (φ q) z:=fun {q z} s=>by
    rcases s with s|s
    ·exact .inl (by rw [<-W];exact s)
    ·right;by_cases p:q=i
     ·subst p;have M:(setR φ q ⟨some ⟨g,0,none⟩,k,k,(φ q).xs⟩ q).xs=(φ q).xs:=by rw [w6]
      exact M▸s
     ·rw [<-y q p];exact s
   have hne: ∀(q:Nat) (f:Ent T.U),H[q]?=some f->i∉f.cellIds:=fun q f d L=>by
    have:=Y8.1 c9 f (X6 d);rw [zb9.2 L] at this;cases this
   have hs':Sim T w0 S0 ⟨[],H.set i (.row e t xs)⟩ F' w S φ':=by
    have C: ∀(q:Nat) (f:Ent T.U),(H.set i (.row e t xs))[q]?=some f->(q=i/\f=.row e t xs)\/(q≠i/\H[q]?=some f):=by
     intro q f d;by_cases p:q=i
     ·subst p;rw [Q0 Q] at d;exact .inl ⟨rfl,(X5 d).symm⟩
     ·rw [Z5 (Ne.symm p)] at d;exact .inr ⟨p,d⟩
    refine ⟨fun q a I=>by simp [AF.get] at I,fun q a I=>by simp [AF.get] at I,u.chg,u.own,u.ex,?_,fun q r hk=>?_,?_,?_,?_⟩
    ·intro q f d X z s
     replace s:=G s
     rcases C q f d with ⟨p,D⟩|⟨_,D⟩
     ·rw [p] at s;exact u.lives i _ Z rfl z s
     ·exact u.lives q f D X z s
    ·obtain ⟨q1,q2⟩:=u.pins q r hk;have hlt:=(X2.1 hk).1;exact ⟨by rw [y q (by omega)];exact q1,by simpa using q2⟩
    ·intro q f d;rcases C q f d with ⟨rfl,rfl⟩|⟨p,d⟩
     ·refine ⟨0,c.toList,?_,?_,V1 _,R,fun a I=>?_⟩
      ·show Own w 0 e (szT T t) (setR φ q _ q).ad (setR φ q _ q).n (setR φ q _ q).cap c.toList;rw [w6];exact Own.ofBlk a2 (V1 _) (W6 _) c6 V _ (Q3 (by simp [V]))
      ·show (setR φ q _ q).n=_;rw [w6];exact E.symm
      ·rw [W,a1] at I;simp only [X0] at I;subst I;exact a3
     ·exact (u.ents q f d).phiE (y q p) fun x M=>.of (y x fun e=>hne q f d (e▸M))
    ·intro q f d x M;rcases C q f d with ⟨rfl,rfl⟩|⟨_,d⟩
     ·cases M
     ·have:=u.eids q f d x M;simpa using this
    ·intro q q' f f' d D X hl' hqq z z' s J
     replace s:=G s;replace J:=G J
     have lv: ∀(q:Nat) (f:Ent T.U),(H.set i (.row e t xs))[q]?=some f->f.live=true-> ∃f0,H[q]?=some f0/\f0.live=true:=by
      intro q f d X;rcases C q f d with ⟨p,_⟩|⟨_,d⟩
      ·rw [p];exact ⟨_,Z,rfl⟩
      ·exact ⟨f,d,X⟩
     obtain ⟨f0,k1,k2⟩:=lv q f d X;obtain ⟨f0',k1',k2'⟩:=lv q' f' D hl';exact u.apart q q' f0 f0' k1 k1' k2 k2' hqq z z' s J
   obtain ⟨v,hv1,hv2⟩:=N.get T O;have Y:i∉v8 (aS.set j (.raw undef)):=fun L=>by rw [zb9.2 L] at c8;cases c8
   have hvs:VRL T w S φ' (aS.set j (.own i)) us:=by
    have h1:=(N.set T j (a:=.raw undef) (v:=undef) (by rw [VR])).phi (φ':=φ') fun q p=>y q fun e=>Y (e▸p);have h2:=h1.set T j (a:=.own i) (v:=v) (by
     obtain ⟨g',ad,p1,rfl,p2,p3⟩:=hv2;rw [a1] at p1;simp only [X0,Addr.mk.injEq,and_true] at p1;subst p1;rw [VR];show _=Value.slice (setR φ i _ i).ad (setR φ i _ i).n (setR φ i _ i).cap;rw [w6];rcases p3 with p3|p3
     ·omega
     ·subst p3;simp)
    rw [List.set_set,List.set_set] at h2;rwa [show us.set j v=us by
     obtain ⟨hlt,hg⟩:=X2.1 hv1;rw [<-hg,M1]] at h2
   exact yc2 L r h hs' hvs (by
    intro q p;obtain ⟨a,B,K⟩:=zq1 p;rcases K3 B with B|B
    ·have:=hid q (zh7 B q K);simpa using this
    ·subst B;simp [AV.ids] at K;subst K;simpa using Q)
  ·exact yc2 L r h u N hid
  ·cases h
end
inductive PT where
 |val (t:Ty)
 |io (e:TypeId) (t:Ty)
inductive RT where
 |val (t:Ty)
 |own (e:TypeId) (t:Ty)
 |part (k:Nat)
section
variable (T:Tab)
def RT.scal:RT->Bool
 | .val t=>jb4 T t
 | .own _ t=>jb4 T t
 | .part _=>true
def jc7:List RT->Bool| []=>true|t::r=>t.scal T&&jc7 r
def qRs:List RT->Bool| []=>true| .val t::r=>jb4 T t&&qRs r|_::_=>false
def yh4:PT->Type
 | .val t=>den T.U t
 | .io _ t=>List (den T.U t)
def zy7:List PT->Type
 | []=>Unit
 | [t]=>yh4 T t
 |t::s::r=>yh4 T t×zy7 (s::r)
def jp0:RT->Type
 | .val t=>den T.U t
 | .own _ t=>List (den T.U t)
 | .part _=>Nat×Nat
def zt6:List RT->Type
 | []=>Unit
 | [t]=>jp0 T t
 |t::s::r=>jp0 T t×zt6 (s::r)
def zb8:List PT->List (TypeId×Ty)
 | []=> []
 | .val _::r=>zb8 r
 | .io e t::r=>(e,t)::zb8 r
def zt5:List (TypeId×Ty)->Type->Type
 | [],B=>B
 |(_,t)::r,B=>List (den T.U t)×zt5 r B
def PT.cnt:PT->Nat| .val _=>0| .io _ _=>1
def avP (k:Nat):(t:PT)->yh4 T t->AV T.U
 | .val t,x=>zm8 T t x
 | .io _ _,_=>.own k
def yh2 (k:Nat):(ps:List PT)->zy7 T ps->List (AV T.U)
 | [],_=> []
 | [t],x=> [avP T k t x]
 |t::s::r,x=>avP T k t x.1::yh2 (k+t.cnt) (s::r) x.2
def jl5:(t:PT)->yh4 T t->List (Ent T.U)
 | .val _,_=> []
 | .io e t,xs=> [.row e t xs]
def zr4:(ps:List PT)->zy7 T ps->List (Ent T.U)
 | [],_=> []
 | [t],x=>jl5 T t x
 |t::s::r,x=>jl5 T t x.1++zr4 (s::r) x.2
def rdIn (H:List (Ent T.U)):(t:PT)->AV T.U->Option (yh4 T t)
 | .val t,a=>jm4 T t a
 | .io e t,a=>rdOwnI H e t a
where
 rdOwnI (H:List (Ent T.U)) (e:TypeId) (t:Ty):AV T.U->Option (List (den T.U t))
  | .own i=>match H[i]? with
   |some (.row e' t' xs)=>match Nat.beq e' e with|true=>(if h:t'=t then some (h▸xs) else none)|false=>none
   |_=>none
  |_=>none
def zm5:List PT->List (AV T.U)->List Nat
 | .io _ _::r,.own i::aS=>i::zm5 r aS
 |_::r,_::aS=>zm5 r aS
 |_,_=> []
def vx8 (H:List (Ent T.U)):(ps:List PT)->List (AV T.U)->Option (zy7 T ps)
 | [],[]=>some ()
 | [t],[a]=>rdIn T H t a
 |t::s::r,a::aS=>match rdIn T H t a,vx8 H (s::r) aS with|some x,some y=>some (x,y)|_,_=>none
 |_,_=>none
def jh1 {R:Type} (H:List (Ent T.U)):(t:PT)->AV T.U->(yh4 T t->Option R)->Option R
 | .val t,a,K=>rdF T H t a K
 | .io _ _,_,_=>none
def yo0 {R:Type} (H:List (Ent T.U)):(ps:List PT)->List (AV T.U)->(zy7 T ps->Option R)->Option R
 | [],[],K=>K ()
 | [t],[a],K=>jh1 T H t a K
 |t::s::r,a::aS,K=>jh1 T H t a fun x=>yo0 H (s::r) aS fun y=>K (x,y)
 |_,_,_=>none
def ky9 (H:List (Ent T.U)) (e:TypeId) (t:Ty):AV T.U->Option (List (den T.U t))
 | .own i=>match H[i]? with
  |some (.row a b xs)=>match Nat.beq a e with|true=>(if h:b=t then some (h▸xs) else none)|false=>none
  |_=>none
 | .sl i sz 0 n=>match H[i]? with
  |some (.row a b xs)=>match Nat.beq a e,Nat.beq sz (szT T t) with|true,true=>(if h:b=t then (if n<=xs.length then some ((h▸xs:List (den T.U t)).take n) else none) else none)|_,_=>none
  |_=>none
 | .raw (.slice none 0 0)=>some []
 |_=>none
def vc3 (H:List (Ent T.U)) (k:Nat):AV T.U->Option (Nat×Nat)
 | .own i=>match Nat.beq i k,H[i]? with|true,some (.row _ _ xs)=>some (0,xs.length)|_,_=>none
 | .sl i sz o n=>match Nat.beq i k,H[i]? with|true,some (.row _ t _)=>(match Nat.beq sz (szT T t) with|true=>some (o,n)|false=>none)|_,_=>none
 |_=>none
def rdR (H:List (Ent T.U)):(t:RT)->AV T.U->Option (jp0 T t)
 | .val t,a=>jm4 T t a
 | .own e t,a=>ky9 T H e t a
 | .part k,a=>vc3 T H k a
def qo7 (H:List (Ent T.U)):(rs:List RT)->List (AV T.U)->Option (zt6 T rs)
 | [],[]=>some ()
 | [t],[a]=>rdR T H t a
 |t::s::r,a::aS=>match rdR T H t a,qo7 H (s::r) aS with|some x,some y=>some (x,y)|_,_=>none
 |_,_=>none
def rdIo {a:Type} (H:List (Ent T.U)) (B:Option a):(ios:List (TypeId×Ty))->Nat->Option (zt5 T ios a)
 | [],_=>B
 |(e,t)::r,k=>match rdAt H e t k,rdIo H B r (k+1) with|some xs,some y=>some (xs,y)|_,_=>none
where
 rdAt (H:List (Ent T.U)) (e:TypeId) (t:Ty) (k:Nat):Option (List (den T.U t)):=
  match H[k]? with
  |some (.row e' t' xs)=>match Nat.beq e' e with|true=>(if h:t'=t then some (h▸xs) else none)|false=>none
  |_=>none
def avR (ids:List Nat) (ios:List (TypeId×Ty)) (b:Nat):(t:RT)->jp0 T t->AV T.U
 | .val t,x=>zm8 T t x
 | .own _ _,_=>.own b
 | .part k,x=>.sl (ids.getD k 0) (szT T (ios.getD k (0,.bool)).2) x.1 x.2
def entR:(t:RT)->jp0 T t->List (Ent T.U)
 | .val _,_=> []
 | .own e t,xs=> [.row e t xs]
 | .part _,_=> []
def RT.cnt:RT->Nat| .own _ _=>1|_=>0
def yy0 (ids:List Nat) (ios:List (TypeId×Ty)) (b:Nat):(rs:List RT)->zt6 T rs->List (AV T.U)
 | [],_=> []
 | [t],x=> [avR T ids ios b t x]
 |t::s::r,x=>avR T ids ios b t x.1::yy0 ids ios (b+t.cnt) (s::r) x.2
def jp1:(rs:List RT)->zt6 T rs->List (Ent T.U)
 | [],_=> []
 | [t],x=>entR T t x
 |t::s::r,x=>entR T t x.1++jp1 (s::r) x.2
def ye6 {a:Type}:(ios:List (TypeId×Ty))->zt5 T ios a->List (Ent T.U)
 | [],_=> []
 |(e,t)::r,x=>.row e t x.1::ye6 r x.2
def ye8 {a:Type}:(ios:List (TypeId×Ty))->zt5 T ios a->a
 | [],x=>x
 |_::r,x=>ye8 r x.2
def zf3 (H:List (Ent T.U)):List Nat->List (Ent T.U)->List (Ent T.U)
 |i::r,e::es=>zf3 (H.set i e) r es
 |_,_=>H
def zl4:List (AV T.U)->AV T.U
 | [a]=>a
 |aS=>.tup aS
def jg2:RT->AV T.U->List Nat
 | .own _ _,.own i=> [i]
 | .own _ _,.sl i _ _ _=> [i]
 |_,_=> []
def zr1:List RT->List (AV T.U)->List Nat
 |t::r,a::aS=>jg2 T t a++zr1 r aS
 |_,_=> []
end
section
variable {T:Tab} {P:Program} {w w':World} {S S':List Nat} {φ φ':Nat->RA} {w0:World} {S0:Ow} {F:AF T} {H:List (Ent T.U)} {F':PF}
def qo3 {t a x} (h:rdIn T H t a=some x) {v} (b:VR T w S φ a v) {φ' k} (c: ∀i,(∃e u,t=.io e u)->a=.own i->φ' k=φ i):VR T w S φ' (avP T k t x) v:=by
 cases t with
 |val t=>exact yb0 h b φ'
 |io e t=>
  cases a<;>try (cases h;done)
  rename_i i;rw [VR] at b;subst b;simp only [avP];rw [VR,c i ⟨e,t,rfl⟩ rfl]
def je9 (t r a aS):zm5 T (t::r) (a::aS)=zm5 T [t] [a]++zm5 T r aS:=by
 cases t with
 |val t=>cases a<;>rfl
 |io e t=>cases a<;>rfl
def kf6: ∀ {ps aS x},vx8 T H ps aS=some x-> ∀ {vs:List Value},VRL T w S φ aS vs-> ∀ {φ':Nat->RA} {k:Nat},(∀j i,(zm5 T ps aS)[j]?=some i->φ' (k+j)=φ i)->VRL T w S φ' (yh2 T k ps x) vs:=by
 intro ps;induction ps with
 |nil=>
  intro aS x h vs b φ' k c
  match aS,h,vs,b with
  | [],h,[],_=>exact trivial
  |_::_,h,_,_=>cases h
 |cons t q m=>
  intro aS x h vs b φ' k c
  match aS,h,vs,b with
  | [],h,_,_=>cases q<;>cases h
  |a::aS,h,v::vs,b=>
   cases q with
   |nil=>
    cases aS with
    |cons _ _=>cases h
    |nil=>
     match vs,b with
     | [],b=>
      refine ⟨qo3 h b.1 fun i f g=>?_,trivial⟩;obtain ⟨e,u,rfl⟩:=f;subst g;exact c 0 i rfl
   |cons s q=>
    have h:(match rdIn T H t a,vx8 T H (s::q) aS with|some x,some y=>some (x,y)|_,_=>none)=some x:=h;split at h
    ·rename_i n o l p;have h:(n,o)=x:=X5 h;subst h;rw [je9] at c;refine ⟨qo3 l b.1 fun i f g=>?_,m p b.2 fun j i r=>?_⟩
     ·obtain ⟨e,u,rfl⟩:=f;subst g;exact c 0 i rfl
     ·have d:(zm5 T [t] [a]).length=t.cnt:=by
       cases t with
       |val t=>cases a<;>rfl
       |io e t=>cases a<;>first|rfl|(cases l;done)
      have:=c (t.cnt+j) i (by rw [Z2 (by omega),d,M9];exact r);rwa [<-Nat.add_assoc] at this
    ·cases h
def jv3 {R:Type} {r:R} {t:PT} {a:AV T.U} {K:yh4 T t->Option R} (h:jh1 T H t a K=some r) (b:yq2 T w S φ H a.ids) {v:Value} (c:VR T w S φ a v) (φ':Nat->RA) (k:Nat): ∃x,K x=some r/\VR T w [] φ' (avP T k t x) v/\t.cnt=0/\jl5 T t x= []:=by
 cases t with
 |val t=>
  obtain ⟨x,d,f⟩:=vi4 (t:=t) h b c φ';exact ⟨x,d,f,rfl,rfl⟩
 |io e t=>cases h
def yx3 {R:Type} {r:R}: ∀ {ps:List PT} {aS:List (AV T.U)} {K:zy7 T ps->Option R},yo0 T H ps aS K=some r->yq2 T w S φ H (v8 aS)-> ∀ {vs:List Value},VRL T w S φ aS vs-> ∀(φ':Nat->RA) (k:Nat),∃x,K x=some r/\VRL T w [] φ' (yh2 T k ps x) vs/\zb8 ps= []/\zr4 T ps x= []:=by
 intro ps;induction ps with
 |nil=>
  intro aS K h d vs b φ' k
  match aS,h,vs,b with
  | [],h,[],_=>exact ⟨(),h,trivial,rfl,rfl⟩
  |_::_,h,_,_=>cases h
 |cons t q n=>
  intro aS K h d vs b φ' k;have c:t.cnt=0->zb8 (t::q)=zb8 q:=by
   intro o;cases t with
   |val t=>rfl
   |io e t=>cases o
  match aS,h,d,vs,b with
  | [],h,_,_,_=>cases q<;>cases h
  |a::aS,h,d,v::vs,b=>
   cases q with
   |nil=>
    cases aS with
    |cons _ _=>cases h
    |nil=>
     match vs,b with
     | [],b=>
      obtain ⟨x,g,j,l,m⟩:=jv3 (t:=t) h (fun i f=>d i (by rw [v8];exact X4.2 (.inl f))) b.1 φ' k;exact ⟨x,g,⟨j,trivial⟩,c l,m⟩
   |cons s q=>
    have h:jh1 T H t a (fun x=>yo0 T H (s::q) aS fun y=>K (x,y))=some r:=h;obtain ⟨x,g,j,l,m⟩:=jv3 h (fun i f=>d i (by rw [v8];exact X4.2 (.inl f))) b.1 φ' k;obtain ⟨y,p,u,z,A⟩:=n g (fun i f=>d i (by rw [v8];exact X4.2 (.inr f))) b.2 φ' (k+t.cnt);refine ⟨(x,y),p,⟨j,u⟩,(c l).trans z,?_⟩;show jl5 T t x++zr4 T (s::q) y= [];rw [m,A];rfl
def yx2 {R:Type} {r:R}: ∀ {ps:List PT} {aS:List (AV T.U)} {K:zy7 T ps->Option R},yo0 T H ps aS K=some r-> ∃x,K x=some r/\ ∀ {c:Type} (b:zy7 T ps->Option c),yo0 T H ps aS b=b x:=by
 have one: ∀ {R:Type} {r:R} {t:PT} {a:AV T.U} {K:yh4 T t->Option R},jh1 T H t a K=some r-> ∃x,K x=some r/\ ∀ {c:Type} (b:yh4 T t->Option c),jh1 T H t a b=b x:=by
  intro R r t a K h;cases t with
  |val t=>exact jh0 (t:=t) h
  |io e t=>cases h
 intro ps;induction ps with
 |nil=>
  intro aS K h
  match aS,h with
  | [],h=>exact ⟨(),h,fun b=>rfl⟩
  |_::_,h=>cases h
 |cons t q d=>
  intro aS K h
  match aS,h with
  | [],h=>cases q<;>cases h
  |a::aS,h=>
   cases q with
   |nil=>
    cases aS with
    |cons _ _=>cases h
    |nil=>exact one (t:=t) h
   |cons s q=>
    have h:jh1 T H t a (fun x=>yo0 T H (s::q) aS fun y=>K (x,y))=some r:=h;obtain ⟨x,f,g⟩:=one h;obtain ⟨y,i,j⟩:=d f;refine ⟨(x,y),i,fun b=>?_⟩;show jh1 T H t a (fun x=>yo0 T H (s::q) aS fun y=>b (x,y))=b (x,y);rw [g,j]
end
end Go.X
namespace Go.X
open Go.RowKit Go.V
structure FnSpec (T:Tab) where
 ps:List PT
 rs:List RT
 g:zy7 T ps->Option (zt5 T (zb8 ps) (zt6 T rs))
def zw3:List Value->Value
 | [v]=>v
 |l=>.tuple l.toArray
def zc9 (φ:Nat->RA) (n:Nat):List Nat:=(List.range n).flatMap fun k=>(φ k).all
def zy2 (n:Nat):List RT->Bool| []=>true| .part k::r=>Nat.blt k n&&zy2 n r|_::r=>zy2 n r
section
variable (T:Tab) (P:Program)
def vd1 (f:FuncId) (c:FnSpec T):Prop:= ∀x y,c.g x=some y-> ∀(w:World) (S:List Nat) (φ:Nat->RA) (vs:List Value),VRL T w S φ (yh2 T 0 c.ps x) vs->(∀b∈S,b<w.heap.size)->
 (∀k e,(zr4 T c.ps x)[k]?=some e->EntR T w S φ k e)->(∀k,k<(zb8 c.ps).length-> ∀a,At (φ k) a->a.block∈S)->(∀j k,j<(zb8 c.ps).length->k<(zb8 c.ps).length->j≠k-> ∀a b,At (φ j) a->At (φ k) b->a.block≠b.block)->
 Calls P f vs.toArray w fun e w'=>match e with
  | .returned v=> ∃(F1:AF T) (H1:List (Ent T.U)) (h:PF) (S1:List Nat) (d:Nat->RA) (aS:List (AV T.U)) (us:List Value),Sim T w ⟨zc9 φ (zb8 c.ps).length,S,(List.range (zb8 c.ps).length).map φ⟩ ⟨F1,H1⟩ h w' S1 d/\VRL T w' S1 d aS us/\v=zw3 us/\
    rdIo T H1 (qo7 T H1 c.rs aS) (zb8 c.ps) 0=some y/\ze6 (zr1 T c.rs aS)=true/\ ∀i∈zr1 T c.rs aS,(zb8 c.ps).length<=i
  |_=>False
def FnSpec.toCall {T:Tab} (a:FnSpec T):CallSpec T where
 call:=fun aS H K _=>match vx8 T H a.ps aS with
  |some x=>match ze6 (zm5 T a.ps aS)&&zy2 (zm5 T a.ps aS).length a.rs with
   |true=>j7 (a.g x) fun y=>K (zl4 T (yy0 T (zm5 T a.ps aS) (zb8 a.ps) H.length a.rs (ye8 T (zb8 a.ps) y))) (zf3 T H (zm5 T a.ps aS) (ye6 T (zb8 a.ps) y)++jp1 T a.rs (ye8 T (zb8 a.ps) y))
   |false=>none
  |none=>match jc7 T a.rs&&zy2 0 a.rs with
   |true=>yo0 T H a.ps aS fun x=>j7 (a.g x) fun y=>K (zl4 T (yy0 T [] [] H.length a.rs (ye8 T (zb8 a.ps) y))) (H++jp1 T a.rs (ye8 T (zb8 a.ps) y))
   |false=>none
 q:=fun aS H K=>match qRs T a.rs with
  |true=>yo0 T H a.ps aS fun x=>j7 (a.g x) fun y=>K (zl4 T (yy0 T [] [] 0 a.rs (ye8 T (zb8 a.ps) y)))
  |false=>none
 isq:=qRs T a.rs
 wr:=fun aS H=>match vx8 T H a.ps aS with|some _=>zm5 T a.ps aS|none=> []
def zv6:List (AV T.U)->Nat->AF T
 | [],_=> []
 |a::r,i=>(i,a)::zv6 r (i+1)
def jo3 (st:St T):List ResultVar->Option (List (AV T.U))
 | []=>some []
 | .tmp t::r=>match st.F.get T t,jo3 st r with|some a,some l=>some (a::l)|_,_=>none
 | .cell c t::r=>match st.F.get T c,jo3 st r with
  |some (.ptr i o),some l=>match st.H[i]? with
   |some (.blk _ cs)=>match ja7 T P t cs o with|some a=>some (a::l)|none=>none
   |_=>none
  |_,_=>none
def kj3 (ps:List PT) (rs:List RT) (aS:List (AV T.U)) (H:List (Ent T.U)):Option (zt5 T (zb8 ps) (zt6 T rs)):=
 match ze6 (zr1 T rs aS)&&(zr1 T rs aS).all (fun i=>Nat.ble (zb8 ps).length i) with
 |true=>rdIo T H (qo7 T H rs aS) (zb8 ps) 0
 |false=>none
def vt9 (fn:Func) (z:Zw) (ps:List PT) (rs:List RT) (st:St T):Option (zt5 T (zb8 ps) (zt6 T rs)):=
 match jo3 T P st fn.results.toList with
 |some aS=>match vx4 T (zb8 ps).length z.w aS st.H with
  |some (a,H1)=>gb7 T z.z a H1 (kj3 T ps rs)
  |none=>none
 |none=>none
def vu0 (fn:Func) (z:Zw) (ps:List PT) (rs:List RT):Ks T (zt5 T (zb8 ps) (zt6 T rs)):=⟨vt9 T P fn z ps rs,fun _ _=>none,vt9 T P fn z ps rs,fun _ _=>none⟩
noncomputable def un1 (C:Ctx T) (a:List (Pos×Cut)) (fn:Func) (c:Code) (z:Zw) (ps:List PT) (rs:List RT) (m:Nat) (x:zy7 T ps):Option (zt5 T (zb8 ps) (zt6 T rs)):=
 evC P C fn.ntmps a (run P C fn.ntmps a c (vu0 T P fn z ps rs) m) c [] (vu0 T P fn z ps rs) ⟨zv6 T (yh2 T 0 ps x) 0,zr4 T ps x⟩
noncomputable def uo1 (C:Ctx T) (a:List (Pos×Cut)) (fn:Func) (c:Code) (z:Zw) (ps:List PT) (rs:List RT) (m:Nat) (q:Pos) (st:St T):Option (zt5 T (zb8 ps) (zt6 T rs)):=
 run P C fn.ntmps a c (vu0 T P fn z ps rs) m q st
end
section
variable {T:Tab} {P:Program} {w w':World} {S S':List Nat} {φ φ':Nat->RA} {w0:World} {S0:Ow} {F:AF T} {H:List (Ent T.U)} {F':PF}
def za1: ∀(ids es H),(zf3 T H ids es).length=H.length
 | [],_,H=>by simp [zf3]
 |_::_,[],H=>by simp [zf3]
 |i::r,e::es,H=>by rw [zf3,za1 r es];simp
def ze1 {j f}: ∀(ids es H),es.length=ids.length->(zf3 T H ids es)[j]?=some f->(∃k:Nat,ids[k]?=some j/\es[k]?=some f)\/(j∉ids/\H[j]?=some f)
 | [],[],H,_,h=>.inr ⟨by simp,by simpa [zf3] using h⟩
 | [],_::_,_,c,_=>by simp at c
 |_::_,[],_,c,_=>by simp at c
 |i::r,e::es,H,c,h=>by
  rw [zf3] at h;rcases ze1 r es _ (by simpa using c) h with ⟨k,d,a⟩|⟨d,a⟩
  ·exact .inl ⟨k+1,by simpa using d,by simpa using a⟩
  ·by_cases b:j=i
   ·subst b;have g:j<H.length:=by have:=(X2.1 a).1;simpa using this
    rw [Q0 g] at a;exact .inl ⟨0,rfl,by simpa using a⟩
   ·rw [Z5 (Ne.symm b)] at a;exact .inr ⟨by simp [b,d],a⟩
def Sim.io (h:Sim T w0 S0 ⟨F,H⟩ F' w S φ) {Tc} (M:Chg Tc w w') {S1} (Q: ∀b∈S,b∉Tc->b<w.heap.size->b∈S1) (h2: ∀b∈S1,b∈S\/(w.heap.size<=b/\b<w'.heap.size)) {ids es} (p:es.length=ids.length)
  (K: ∀b∈Tc,∃i∈ids,∃a,At (φ i) a/\a.block=b) (R: ∀i∈ids,∀a,At (φ i) a->a.block∈S1) (o: ∀(k i:Nat),ids[k]?=some i-> ∃(e:TypeId) (t:Ty) (xs ys:List (den T.U t)),H[i]?=some (.row e t xs)/\es[k]?=some (.row e t ys)/\EntR T w' S1 φ i (.row e t ys)):Sim T w0 S0 ⟨F,zf3 T H ids es⟩ F' w' S1 φ:=by
 have hS: ∀b∈S1,b∈S\/w.heap.size<=b:=fun b m=>(h2 b m).imp id And.left;have g: ∀i∈ids,∃(k:Nat) (e:TypeId) (t:Ty) (xs ys:List (den T.U t)),ids[k]?=some i/\H[i]?=some (.row e t xs)/\es[k]?=some (.row e t ys)/\EntR T w' S1 φ i (.row e t ys):=by
  intro i u;obtain ⟨k,N⟩:=Y9.1 u;obtain ⟨e,t,xs,ys,a,b,c⟩:=o k i N;exact ⟨k,e,t,xs,ys,N,a,b,c⟩
 have L: ∀b∈Tc,b∈S:=by
  intro b m;obtain ⟨i,u,a,l,rfl⟩:=K b m;obtain ⟨_,e,t,xs,ys,_,n,_⟩:=g i u;exact zi7 h n rfl l
 have D: ∀(j:Nat) (f:Ent T.U),(zf3 T H ids es)[j]?=some f-> ∃E,H[j]?=some E/\(f.live=true->E.live=true):=by
  intro j f z;rcases ze1 ids es H p z with ⟨k,n,d⟩|⟨_,d⟩
  ·obtain ⟨e,t,xs,ys,a,_,_⟩:=o k j n;exact ⟨_,a,fun _=>rfl⟩
  ·exact ⟨f,d,id⟩
 refine ⟨?_,?_,?_,?_,fun b m A B=>Q b (h.ex b m A B) (fun hm=>by
   obtain ⟨i,u,a,l,rfl⟩:=K b hm;obtain ⟨_,e,t,xs,ys,_,n,_⟩:=g i u;rcases (h.lives i _ n rfl a l).2 with s|s
   ·exact A s
   ·omega) (h.own b (h.ex b m A B)).2,?_,fun k r N=>?_,?_,?_,?_⟩
 ·intro i a l;obtain ⟨v,h3,h4⟩:=h.fr i a l;exact ⟨v,h3,h4.chg T M L hS⟩
 ·intro i a l;obtain ⟨n,d⟩:=h.ids i a l;refine ⟨fun x J=>by simp only [za1];exact n x J,?_⟩;cases a with
  |eptr y sz k c=>
   intro e1 t1 zs J;rcases ze1 ids es H p J with ⟨k',A,B⟩|⟨_,B⟩
   ·obtain ⟨e,t,xs,ys,a1,b1,c1⟩:=o k' y A;rw [b1] at B;simp only [X0,Ent.row.injEq] at B;obtain ⟨rfl,rfl,q3⟩:=B;have:=eq_of_heq q3;subst this;obtain ⟨q4,q5⟩:=d e t xs a1;obtain ⟨_,_,_,n1,_⟩:=h.ents y _ a1;obtain ⟨_,_,_,n2,_⟩:=c1;exact ⟨by omega,q5⟩
   ·exact d e1 t1 zs B
  |_=>trivial
 ·refine h.chg.step M fun b m=>?_;obtain ⟨i,u,a,l,rfl⟩:=K b m;obtain ⟨_,e,t,xs,ys,_,n,_⟩:=g i u;exact (h.lives i _ n rfl a l).2
 ·intro b m;rcases h2 b m with m|⟨m,V⟩
  ·exact ⟨(h.own b m).1,V5 (h.own b m).2 M.size⟩
  ·exact ⟨.inr (W9 h.chg.size m),V⟩
 ·intro j f z s a l;obtain ⟨E,n,d⟩:=D j f z;have q:=h.lives j E n (d s) a l;refine ⟨?_,q.2⟩;by_cases O:j∈ids
  ·exact R j O a l
  ·refine Q _ q.1 (fun m=>?_) (h.own _ q.1).2;obtain ⟨i,u,W,G,I⟩:=K _ m;obtain ⟨_,e,t,xs,ys,_,A,_⟩:=g i u;exact h.apart j i E _ n A (d s) rfl (fun e=>O (e▸u)) a W l G I.symm
 ·obtain ⟨n,d⟩:=h.pins k r N;exact ⟨n,by simp only [za1];exact d⟩
 ·intro j f z;rcases ze1 ids es H p z with ⟨k,n,d⟩|⟨O,d⟩
  ·obtain ⟨e,t,xs,ys,a,b,c⟩:=o k j n;rw [b] at d;simp only [X0] at d;subst d;exact c
  ·have C:f.live=true-> ∀a,At (φ j) a->a.block∉Tc:=fun s a l m=>by
    obtain ⟨i,u,W,G,I⟩:=K _ m;obtain ⟨_,e,t,xs,ys,_,A,_⟩:=g i u;exact h.apart j i f _ d A s rfl (fun e=>O (e▸u)) a W l G I.symm
   exact (h.ents j f d).chg T M L hS fun s a l=>⟨C s a l,Q _ (zi7 h d s l) (C s a l) (h.own _ (zi7 h d s l)).2⟩
 ·intro j f z x J;simp only [za1];rcases ze1 ids es H p z with ⟨k,n,d⟩|⟨_,d⟩
  ·obtain ⟨e,t,xs,ys,a,b,c⟩:=o k j n;rw [b] at d;simp only [X0] at d;subst d;cases J
  ·exact h.eids j f d x J
 ·intro j k f f' z X s Y Z a b l m;obtain ⟨E,n,d⟩:=D j f z;obtain ⟨f0',g1',g2'⟩:=D k f' X;exact h.apart j k E f0' n g1' (d s) (g2' Y) Z a b l m
def Up (T:Tab) (m:Bool) (w:World) (S S1:List Nat):Prop:= ∀(t:Ty) (x:den T.U t) (v:Value),(m=true->t.scal=true)->CR T w S t x v->CR T w S1 t x v
def kr0 {m S1} (a:Up T m w S S1): ∀ {cs:List (Cell T.U)} {vs},(m=true-> ∀c∈cs,c.t.scal=true)->VRL T w S φ (cs.map .cell) vs->VRL T w S1 φ' (cs.map .cell) vs
 | [],[],_,_=>trivial
 | [],_::_,_,h=>h.elim
 |_::_,[],_,h=>h.elim
 |c::r,_::_,b,h=>⟨a _ _ _ (fun e=>b e c (U2 ..)) h.1,kr0 a (fun e c d=>b e c (Z4 _ d)) h.2⟩
def gh5 {m S1} (a:Up T m w S S1) {t x v} (b:m=true->jb4 T t=true) (h:VR T w S φ (zm8 T t x) v):VR T w S1 φ' (zm8 T t x) v:=by
 cases t with
 |user i=>
  obtain ⟨vs,c,d⟩:=h;exact ⟨vs,c,kr0 a (fun e=>T.scals i x (b e)) d⟩
 |int k=>exact a _ _ _ b h
 |bool=>exact a _ _ _ b h
 |str=>exact a _ _ _ b h
 |list e=>exact a _ _ _ b h
 |nl e=>exact a _ _ _ b h
def vm4 {t} (h:jb4 T t=true) (x): ∀c∈zc4 T t x,c.t.scal=true:=by
 cases t with
 |user i=>exact T.scals i x h
 |list e=>cases h
 |nl e=>cases h
 |int k=>intro c a;simp only [zc4,Q4] at a;subst a;rfl
 |bool=>intro c a;simp only [zc4,Q4] at a;subst a;rfl
 |str=>intro c a;simp only [zc4,Q4] at a;subst a;rfl
def kh1 {m S1} (b:Up T m w S S1) {cs vs} (d:m=true-> ∀c∈cs,c.t.scal=true) (h:CellsR T w S cs vs):CellsR T w S1 cs vs:=
 ⟨h.1,fun j c v a f=>b _ _ _ (fun e=>d e c (X6 a)) (h.2 j c v a f)⟩
def yg9 (t x):(zm8 T t x).ids= []:=by
 cases t with
 |user i=>
  show v8 ((T.cells i x).map AV.cell)= [];induction T.cells i x with
  |nil=>rfl
  |cons c r a=>rw [W8,v8,a];rfl
 |_=>rfl
def yo4 (t x):zk7 (zm8 T t x)=true:=by cases t<;>rfl
def vt0 (w:World) (f:List (Ent T.U)) (c:Nat->RA) (used:List Nat) (H:List (Ent T.U)) (φ:Nat->RA):Prop:=
 ∀(j:Nat) (e:Ent T.U),H[j]?=some e->e.live=true-> ∀a,At (φ j) a->a.block<w.heap.size\/ ∃i∈used,(∃d,f[i]?=some d/\d.live=true)/\ ∃b,At (c i) b/\b.block=a.block
def kd3 {B n cap m sz e ad cs} (h:Own w B e sz ad n cap cs) (d:m<=n):Own w B e sz ad m cap (cs.take (m*sz)):=by
 rcases h.cases with ⟨rfl,l,rfl,rfl⟩|⟨c,a,f,g,i,b,j,k⟩
 ·have:m=0:=by omega
  subst this;simpa using Own.nil w B e sz
 ·rw [a];refine Own.ofBlk g f (by omega) b j _ ?_;rw [<-k,List.take_take,J7 (Q8 _ d)]
def vq6 {o e t a y v I p r f c} (G:Sim T w r ⟨I,o⟩ p w' f c) (h:ky9 T o e t a=some y) (k:VR T w' f c a v):
  (y= []/\v=.slice none 0 0)\/ ∃i xs b B,jg2 T (.own e t) a= [i]/\o[i]?=some (.row e t xs)/\v=.slice (c i).ad y.length (c i).cap/\Own w' B e (szT T t) (c i).ad y.length (c i).cap b/\B<=w'.heap.size/\CellsR T w' f (y.flatMap (zc4 T t)) b/\ ∀q,(c i).ad=some q->q.block∈f:=by
 unfold ky9 at h;split at h
 ·rename_i i;split at h
  ·rename_i J d xs l;split at h
   ·rename_i g;have:=X1 g;subst this;split at h
    ·rename_i j;subst j;have h:xs=y:=X5 h;subst h;obtain ⟨B,b,m,s,u,x,z⟩:=G.ents i _ l;rw [VR] at k;subst k;rw [s] at m⊢;exact .inr ⟨i,xs,b,B,rfl,l,rfl,m,u,x,z⟩
    ·cases h
   ·cases h
  ·cases h
 ·rename_i i sz n;split at h
  ·rename_i J d xs l;split at h
   ·rename_i g A;have:=X1 g;subst this;have:=X1 A;subst this;split at h
    ·rename_i j;subst j;split at h
     ·rename_i C;have h:xs.take n=y:=X5 h;subst h;obtain ⟨B,b,m,s,u,x,z⟩:=G.ents i _ l;obtain ⟨ad,rfl,_,_,_,K⟩:=k;have:=K rfl;subst this;rw [s] at m;have D:(xs.take n).length=n:=by rw [Y6];omega
      refine .inr ⟨i,xs,b.take (n*szT T d),B,rfl,l,by rw [D];rfl,?_,u,?_,z⟩
      ·rw [D];exact kd3 m C
      ·have:=x.cut 0 (n*szT T d);rw [M8,M8] at this;have L:(xs.flatMap (zc4 T d)).take (n*szT T d)=(xs.take n).flatMap (zc4 T d):=by
        have E:xs.flatMap (zc4 T d)=(xs.take n).flatMap (zc4 T d)++(xs.drop n).flatMap (zc4 T d):=by rw [<-List.flatMap_append,Q7]
        rw [E,List.take_left' (by rw [zc6 (za0 T d),D])]
       rwa [L] at this
     ·cases h
    ·cases h
   ·cases h
  ·cases h
 ·have h: []=y:=X5 h;rw [VR] at k;exact .inl ⟨h.symm,k⟩
 ·cases h
def vj3 {m m0 G Fc Fc' S0c E S1 d} (hc:Sim T w S0c ⟨Fc,G⟩ Fc' w' E d) (hu:Up T m w' E S1) (hin: ∀b∈E,b∈S1) (hw:w0.heap.size<=w.heap.size)
  (R: ∀(i:Nat) (e:Ent T.U),m0<=i->G[i]?=some e->e.live=true-> ∀a,(d i).ad=some a->w.heap.size<=a.block)
  {t} (ht:m=true->t.scal T=true) {a v y} (V:VR T w' E d a v) (l:rdR T G t a=some y) {used} (W: ∀i∈jg2 T t a,i∉used/\m0<=i) {ids ios}
  (X: ∀k,t=.part k-> ∃i,ids[k]?=some i/\RSame (d k) (φ i)/\i<H.length/\ ∀(e:TypeId) (t:Ty) (xs:List (den T.U t)),G[k]?=some (.row e t xs)->szT T t=szT T (ios.getD k (0,.bool)).2)
  (h:Sim T w0 S0 ⟨F,H⟩ F' w' S1 φ) (hf:vt0 w G d used H φ):
  ∃p,Sim T w0 S0 ⟨F,H++entR T t y⟩ F' w' S1 p/\VR T w' S1 p (avR T ids ios H.length t y) v/\vt0 w G d (jg2 T t a++used) (H++entR T t y) p/\(∀i,i<H.length->p i=φ i)/\ ∀i∈(avR T ids ios H.length t y).ids,i<(H++entR T t y).length:=by
 have I: ∀(hE:entR T t y= []) (Y:VR T w' S1 φ (avR T ids ios H.length t y) v) (f: ∀i∈(avR T ids ios H.length t y).ids,i<H.length),
   ∃p,Sim T w0 S0 ⟨F,H++entR T t y⟩ F' w' S1 p/\VR T w' S1 p (avR T ids ios H.length t y) v/\vt0 w G d (jg2 T t a++used) (H++entR T t y) p/\(∀i,i<H.length->p i=φ i)/\ ∀i∈(avR T ids ios H.length t y).ids,i<(H++entR T t y).length:=by
  intro hE Y f;rw [hE,K8];refine ⟨φ,h,Y,?_,fun i _=>rfl,f⟩;intro j e u L b g;rcases hf j e u L b g with z|⟨i,f,z⟩
  ·exact .inl z
  ·exact .inr ⟨i,X4.2 (.inr f),z⟩
 cases t with
 |val t=>
  have Z:jm4 T t a=some y:=l;refine I rfl (gh5 hu ht (yb0 Z V φ)) fun i f=>?_;have:(avR T ids ios H.length (.val t) y).ids= []:=yg9 t y;rw [this] at f;cases f
 |part k=>
  replace l:vc3 T G k a=some y:=l
  obtain ⟨i0,g1,g2,g3,g4⟩:=X k rfl;have hgd:ids.getD k 0=i0:=by rw [Y2,g1];rfl
  refine I rfl ?_ fun i f=>by
   simp only [avR,AV.ids,Q4] at f;subst f;rw [hgd];exact g3
  show VR T w' S1 φ (.sl (ids.getD k 0) (szT T (ios.getD k (0,.bool)).2) y.1 y.2) v;rw [hgd,VR,<-g2.1,<-g2.2.2];unfold vc3 at l;split at l
  ·rename_i i;split at l
   ·rename_i J t1 xs M f;have:=X1 M;subst this;have l:(0,xs.length)=y:=X5 l;subst l;obtain ⟨B,K,O,o2,o3,o4,o5⟩:=hc.ents i _ f;rw [VR] at V;subst V;rw [o2] at O;refine ⟨(d i).ad,?_,?_,?_,fun hn=>O.nil0 hn,fun _=>rfl⟩
    ·show Value.slice (d i).ad (d i).n (d i).cap=Value.slice (d i).ad xs.length ((d i).cap-0);rw [o2];rfl
    ·show 0+xs.length<=(d i).cap;rw [W7];exact O.le.1
    rcases O.cases with ⟨_,hn,_⟩|⟨c,had,_⟩
    ·exact .inl hn
    ·refine .inr ⟨_,had,had.trans ?_⟩;show some (⟨_,0,none⟩:Addr)=some ⟨_,0+0*_,none⟩;rw [K7]
   ·cases l
  ·rename_i i sz o n;split at l
   ·rename_i J t1 xs M f;have:=X1 M;subst this;split at l
    ·rename_i hsz;have:=X1 hsz;subst this;have l:(o,n)=y:=X5 l;subst l;rw [<-g4 J t1 xs f];exact V
    ·cases l
   ·cases l
  ·cases l
 |own e t=>
  rcases vq6 hc l V with ⟨rfl,rfl⟩|⟨i,xs,K,B,hid,f,rfl,O,o3,o4,o5⟩
  ·have A:=h.addG (Chg.refl [] w') (by simp) (by simp) (fun _ _ _ _ _ _=>by simp) (S':=S1) (fun _ h=>h) (fun _ h=>.inl h) (r:=⟨none,0,0,[]⟩) (fun a h=>by cases yb7 h) (fun a h=>by cases yb7 h) (e:=.row e t [])
    ⟨w'.heap.size,[],by rw [w6];exact Own.nil _ _ _ _,by rw [w6];rfl,W6 _,⟨rfl,fun j c v h=>by simp at h⟩,fun a ha=>by rw [w6] at ha;cases ha⟩ (fun j u=>by cases u)
   refine ⟨_,A,by simp only [avR];rw [VR,w6],?_,fun i f=>zf0 (by omega),fun i f=>?_⟩
   ·intro j J u L b g;rcases K9 j H.length with N|rfl|hgt
    ·rw [X8 N] at u;rw [zf0 (by omega)] at g;rcases hf j J u L b g with z|⟨i,f,z⟩
     ·exact .inl z
     ·exact .inr ⟨i,X4.2 (.inr f),z⟩
    ·rw [w6] at g;cases yb7 g
    ·rw [Y5 (by simp [entR];omega)] at u;cases u
   ·simp [avR,AV.ids] at f;subst f;simp [entR]
  ·obtain ⟨hni,hm0⟩:=W i (by rw [hid];simp);have hlv:=R i _ hm0 f rfl;have C: ∀b∈zv1 (d i).ad,w.heap.size<=b:=by
    intro b g;unfold zv1 at g;split at g
    ·rename_i q s;simp at g;subst g;exact hlv q s
    ·cases g
   have D: ∀b∈zv1 (d i).ad,b∈S1:=by
    intro b g;unfold zv1 at g;split at g
    ·rename_i q s;simp at g;subst g;exact hin _ (o5 q s)
    ·cases g
   have A:=h.addG (Chg.refl (zv1 (d i).ad) w') D (fun b g=>.inr (W9 hw (C b g))) (fun j J u L q s Q=>by
    have hge:=C _ Q;rcases hf j J u L q s with z|⟨i',hi',⟨e2,h2,h3⟩,b2,h4,h5⟩
    ·omega
    ·unfold zv1 at Q;split at Q
     ·rename_i q' hq';simp at Q;exact hc.apart i' i e2 _ h2 f h3 rfl (fun e=>hni (e▸hi')) b2 q' h4 (.inl hq') (h5.trans Q)
     ·cases Q) (S':=S1) (fun _ h=>h) (fun _ h=>.inl h) (r:=⟨(d i).ad,y.length,(d i).cap,[]⟩) (fun q s=>.inr (by
      have s:(d i).ad=some q:=yb7 s;unfold zv1;rw [s];simp)) (fun q s=>D _ (by have s:(d i).ad=some q:=yb7 s;unfold zv1;rw [s];simp)) (e:=.row e t y)
    ⟨B,K,by rw [w6];exact O,by rw [w6],o3,kh1 hu (fun em c hcm=>by
      obtain ⟨x,_,hx⟩:=M3.1 hcm;exact vm4 (ht em) x c hx) o4,fun q s=>by rw [w6] at s;exact D _ (by have s:(d i).ad=some q:=s;unfold zv1;rw [s];simp)⟩ (fun j u=>by cases u)
   refine ⟨_,A,by simp only [avR];rw [VR,w6],?_,fun i f=>zf0 (by omega),fun i f=>?_⟩
   ·intro j J u L b g;rcases K9 j H.length with N|rfl|hgt
    ·rw [X8 N] at u;rw [zf0 (by omega)] at g;rcases hf j J u L b g with z|⟨i,f,z⟩
     ·exact .inl z
     ·exact .inr ⟨i,X4.2 (.inr f),z⟩
    ·rw [w6] at g;exact .inr ⟨i,X4.2 (.inl (by rw [hid];simp)),⟨_,f,rfl⟩,b,.inl (yb7 g),rfl⟩
    ·rw [Y5 (by simp [entR];omega)] at u;cases u
   ·simp [avR,AV.ids] at f;subst f;simp [entR]
end
end Go.X
namespace Go.X
open Go.RowKit Go.V
section
variable {T:Tab} {P:Program} {w w':World} {S S':List Nat} {φ φ':Nat->RA} {w0:World} {S0:Ow} {F:AF T} {H:List (Ent T.U)} {F':PF}
def jf9: ∀ {l m},ze6 (l++m)=true->ze6 m=true/\ ∀i∈m,i∉l
 | [],m,h=>⟨h,fun i _ b=>by cases b⟩
 |a::l,m,h=>by
  rw [M5,ze6,X3,V8] at h;obtain ⟨d,e⟩:=jf9 h.2;refine ⟨d,fun i b c=>?_⟩;rcases Z0.1 c with rfl|c
  ·have:=zb9.2 (X4.2 (.inr b):i∈l++m);rw [h.1] at this;cases this
  ·exact e i b c
def jv5 {b t s r a aS y} (h:qo7 T b (t::s::r) (a::aS)=some y): ∃x z,rdR T b t a=some x/\qo7 T b (s::r) aS=some z/\(x,z)=y:=by
 replace h:(match rdR T b t a,qo7 T b (s::r) aS with|some x,some y=>some (x,y)|_,_=>none)=some y:=h
 split at h
 ·rename_i x z c d;exact ⟨x,z,c,d,X5 h⟩
 ·cases h
def vj1 {m m0 C Fc M N l S1 f} (hc:Sim T w N ⟨Fc,C⟩ M w' l f) (hu:Up T m w' l S1) (D: ∀b∈l,b∈S1) (hw:w0.heap.size<=w.heap.size)
  (o: ∀(i:Nat) (e:Ent T.U),m0<=i->C[i]?=some e->e.live=true-> ∀a,(f i).ad=some a->w.heap.size<=a.block) {ids ios} (O: ∀(k:Nat) (e:TypeId) (t:Ty) (xs:List (den T.U t)),k<ids.length->C[k]?=some (.row e t xs)->szT T t=szT T (ios.getD k (0,.bool)).2):
  ∀ {rs} (_:m=true->jc7 T rs=true) (_:zy2 ids.length rs=true) {aS us y},VRL T w' l f aS us->qo7 T C rs aS=some y->ze6 (zr1 T rs aS)=true-> ∀ {used:List Nat},(∀i∈zr1 T rs aS,i∉used/\m0<=i)->
  ∀ {H:List (Ent T.U)} {φ:Nat->RA},(∀k i:Nat,ids[k]?=some i->RSame (f k) (φ i)/\i<H.length)->Sim T w0 S0 ⟨F,H⟩ F' w' S1 φ->vt0 w C f used H φ->
  ∃g,Sim T w0 S0 ⟨F,H++jp1 T rs y⟩ F' w' S1 g/\VRL T w' S1 g (yy0 T ids ios H.length rs y) us/\(∀i,i<H.length->g i=φ i)/\ ∀i∈v8 (yy0 T ids ios H.length rs y),i<(H++jp1 T rs y).length:=by
 intro rs;induction rs with
 |nil=>
  intro Q p aS us y n j J used B H φ c h R
  match aS,j,us,n with
  | [],_,[],_=>exact ⟨φ,by simpa [jp1] using h,trivial,fun _ _=>rfl,fun i c=>by cases c⟩
  |_::_,j,_,_=>cases j
 |cons t q ih=>
  intro Q p aS us y n j J used B H φ c h R;have E:m=true->t.scal T=true:=fun e=>by have:=Q e;unfold jc7 at this;simp only [X3] at this;exact this.1
  have V:m=true->jc7 T q=true:=fun e=>by have:=Q e;unfold jc7 at this;simp only [X3] at this;exact this.2
  have W: ∀k,t=.part k->k<ids.length:=by
   rintro k rfl
   unfold zy2 at p;simp only [X3] at p;simpa [U9] using p.1
  have X:zy2 ids.length q=true:=by
   unfold zy2 at p;cases t<;>simp only [X3] at p<;>first|exact p|exact p.2
  have u: ∀k,t=.part k-> ∃i,ids[k]?=some i/\RSame (f k) (φ i)/\i<H.length/\ ∀(e:TypeId) (t:Ty) (xs:List (den T.U t)),C[k]?=some (.row e t xs)->szT T t=szT T (ios.getD k (0,.bool)).2:=by
   intro k G;have I:=W k G;have Y:=Y0 I;exact ⟨_,Y,(c k _ Y).1,(c k _ Y).2,fun e t xs=>O k e t xs I⟩
  match aS,j,us,n with
  | [],j,_,_=>cases q<;>cases j
  |a::aS,j,v::us,n=>
   cases q with
   |nil=>
    cases aS with
    |cons _ _=>cases j
    |nil=>
     match us,n with
     | [],n=>
      obtain ⟨g,Z,h2,h3,K,L⟩:=vj3 (t:=t) (ids:=ids) (ios:=ios) hc hu D hw o E n.1 j (fun i c=>B i (X4.2 (.inl c))) u h R;exact ⟨g,Z,⟨h2,trivial⟩,K,fun i c=>L i (by simpa [yy0,v8] using c)⟩
   |cons s r=>
    obtain ⟨x,z,hx,hz,rfl⟩:=jv5 j
    replace J:ze6 (jg2 T t a++zr1 T (s::r) aS)=true:=J
    replace B: ∀i∈jg2 T t a++zr1 T (s::r) aS,i∉used/\m0<=i:=B
    obtain ⟨hn1,hn2⟩:=jf9 J;obtain ⟨g,Z,h2,h3,K,L⟩:=vj3 (t:=t) (ids:=ids) (ios:=ios) hc hu D hw o E n.1 hx (fun i c=>B i (X4.2 (.inl c))) u h R;have A:(H++entR T t x).length=H.length+t.cnt:=by cases t<;>simp [entR,RT.cnt]
    obtain ⟨φ2,g1,g2,g3,g4⟩:=ih V X n.2 hz hn1 (used:=jg2 T t a++used) (fun i c=>⟨fun d=>by
     rcases X4.1 d with d|d
     ·exact hn2 i c d
     ·exact (B i (X4.2 (.inr c))).1 d,(B i (X4.2 (.inr c))).2⟩) (H:=H++entR T t x) (fun k i G=>⟨(c k i G).1.trans (.of (K i (c k i G).2).symm),by have:=(c k i G).2;rw [X9];omega⟩) Z h3
    rw [Q2,A] at g4;rw [Q2] at g1;rw [A] at g2;refine ⟨φ2,g1,⟨h2.phi fun i c=>g3 i (L i c),g2⟩,fun i c=>(g3 i (by rw [X9];omega)).trans (K i c),fun i c=>?_⟩
    replace c:i∈(avR T ids ios H.length t x).ids++v8 (yy0 T ids ios (H.length+t.cnt) (s::r) z):=c
    show i<(H++(entR T t x++jp1 T (s::r) z)).length;rcases X4.1 c with c|c
    ·have:=L i c;simp only [X9] at this⊢;omega
    ·exact g4 i c
def yb1 {aS us} (h:VRL T w S φ aS us):VR T w S φ (zl4 T aS) (zw3 us):=by
 match aS,us,h with
 | [],[],h=>exact ⟨#[],rfl,h⟩
 | [a],[v],h=>exact h.1
 |a::b::r,u::v::s,h=>exact ⟨(u::v::s).toArray,rfl,h⟩
def vk7 {ids ios rs}: ∀ {y b},∀a∈yy0 T ids ios b rs y,zk7 a=true:=by
 induction rs with
 |nil=>intro y b a c;cases c
 |cons t r d=>
  intro y b a c;have one: ∀(x:jp0 T t),zk7 (avR T ids ios b t x)=true:=by
   intro x;cases t with
   |val t=>exact yo4 t x
   |own e t=>rfl
   |part k=>rfl
  cases r with
  |nil=>simp only [yy0,Q4] at c;subst c;exact one _
  |cons s q=>
   simp only [yy0] at c;rcases Z0.1 c with rfl|c
   ·exact one _
   ·exact d a c
def jk1 {ids ios rs y b} (e: ∀i∈v8 (yy0 T ids ios b rs y),i<H.length):okA H (zl4 T (yy0 T ids ios b rs y)):=by
 have c:zk7 (zl4 T (yy0 T ids ios b rs y))=true:=by
  unfold zl4;split
  ·rename_i a d;exact vk7 a (by rw [d];simp)
  ·rfl
 refine zd7 c fun i h=>e i ?_;unfold zl4 at h;split at h
 ·rename_i a d;rw [d,v8];exact X4.2 (.inl h)
 ·rw [AV.ids] at h;exact h
def zz4 {d:Type} {H1:List (Ent T.U)} {B:Option d}: ∀ {ios:List (TypeId×Ty)} {k:Nat} {y:zt5 T ios d},rdIo T H1 B ios k=some y->B=some (ye8 T ios y)/\(ye6 T ios y).length=ios.length/\ ∀j,j<ios.length-> ∃(xs:List (den T.U (ios.getD j (0,.bool)).2)),(ye6 T ios y)[j]?=some (.row (ios.getD j (0,.bool)).1 (ios.getD j (0,.bool)).2 xs)/\H1[k+j]?=some (.row (ios.getD j (0,.bool)).1 (ios.getD j (0,.bool)).2 xs)
 | [],k,y,h=>⟨h,rfl,fun j b=>by simp at b⟩
 |(e,t)::r,k,y,h=>by
  unfold rdIo at h;split at h
  ·rename_i xs z a f;have h:(xs,z)=y:=X5 h;subst h;obtain ⟨g,i,l⟩:=zz4 f;have m:H1[k]?=some (.row e t xs):=by
    unfold rdIo.rdAt at a;split at a
    ·rename_i u v c n;split at a
     ·rename_i o;have:=X1 o;subst this;split at a
      ·rename_i p;subst p;have a:c=xs:=X5 a;subst a;exact n
      ·cases a
     ·cases a
    ·cases a
   refine ⟨g,by show (ye6 T r z).length+1=r.length+1;rw [i],fun j b=>?_⟩;cases j with
   |zero=>exact ⟨xs,rfl,m⟩
   |succ j=>
    obtain ⟨ys,q,s⟩:=l j (by simpa using b);exact ⟨ys,q,by rw [show k+(j+1)=k+1+j by omega];exact s⟩
  ·cases h
def qo6: ∀ {ps aS x},vx8 T H ps aS=some x->(zm5 T ps aS).length=(zb8 ps).length/\(zr4 T ps x).length=(zb8 ps).length/\
  ∀k i,(zm5 T ps aS)[k]?=some i-> ∃(e:TypeId) (t:Ty) (xs:List (den T.U t)),H[i]?=some (.row e t xs)/\(zr4 T ps x)[k]?=some (.row e t xs)/\(e,t)=(zb8 ps).getD k (0,.bool):=by
 have one: ∀ {t:PT} {a:AV T.U} {x:yh4 T t},rdIn T H t a=some x->(zm5 T [t] [a]).length=(zb8 [t]).length/\(jl5 T t x).length=(zb8 [t]).length/\
   ∀k i,(zm5 T [t] [a])[k]?=some i-> ∃(e:TypeId) (b:Ty) (xs:List (den T.U b)),H[i]?=some (.row e b xs)/\(jl5 T t x)[k]?=some (.row e b xs)/\(e,b)=(zb8 [t]).getD k (0,.bool):=by
  intro t a x h;cases t with
  |val t=>exact ⟨by cases a<;>rfl,rfl,fun k i c=>by cases a<;>simp [zm5] at c⟩
  |io e t=>
   cases a<;>try (cases h;done)
   rename_i i
   replace h:rdIn.rdOwnI T H e t (.own i)=some x:=h
   unfold rdIn.rdOwnI at h;simp only at h;split at h
   ·rename_i I b xs r;split at h
    ·rename_i u;have:=X1 u;subst this;split at h
     ·rename_i v;subst v;have h:xs=x:=X5 h;subst h;refine ⟨rfl,rfl,fun k J c=>?_⟩;cases k with
      |zero=>cases c;exact ⟨_,_,xs,r,rfl,rfl⟩
      |succ k=>simp [zm5] at c
     ·cases h
    ·cases h
   ·cases h
 have d: ∀(t:PT) (q:List PT),zb8 (t::q)=zb8 [t]++zb8 q:=by intro t q;cases t<;>rfl
 intro ps;induction ps with
 |nil=>
  intro aS x h;cases aS with
  |nil=>exact ⟨rfl,rfl,fun k i c=>by simp [zm5] at c⟩
  |cons _ _=>cases h
 |cons t q z=>
  intro aS x h;cases aS with
  |nil=>cases q<;>cases h
  |cons a aS=>
   cases q with
   |nil=>
    cases aS with
    |cons _ _=>cases h
    |nil=>exact one h
   |cons s q=>
    have h:(match rdIn T H t a,vx8 T H (s::q) aS with|some x,some y=>some (x,y)|_,_=>none)=some x:=h;split at h
    ·rename_i f g A B;have h:(f,g)=x:=X5 h;subst h;obtain ⟨o,p,C⟩:=one A;obtain ⟨D,E,G⟩:=z B;rw [je9,d];show _/\(jl5 T t f++zr4 T (s::q) g).length=_/\ ∀k i,_-> ∃(e:TypeId) (b:Ty) (xs:List (den T.U b)),_/\(jl5 T t f++zr4 T (s::q) g)[k]?=_/\_;refine ⟨by rw [X9,X9,o,D],by rw [X9,X9,p,E],fun k i c=>?_⟩;by_cases j:k<(zb8 [t]).length
     ·rw [X8 (by omega)] at c;obtain ⟨e,b,xs,l,m,n⟩:=C k i c;exact ⟨e,b,xs,l,by rw [X8 (by omega)];exact m,by rw [Y2,X8 j,<-List.getD_eq_getElem?_getD];exact n⟩
     ·rw [Z2 (by omega),o] at c;obtain ⟨e,b,xs,l,m,n⟩:=G _ i c;exact ⟨e,b,xs,l,by rw [Z2 (by omega),p];exact m,by rw [Y2,Z2 (by omega),<-List.getD_eq_getElem?_getD];exact n⟩
    ·cases h
def yu3 {b n}:b∈zc9 φ n-> ∃k,k<n/\ ∃a,At (φ k) a/\a.block=b:=by
 intro h;unfold zc9 at h;obtain ⟨k,c,d⟩:=M3.1 h;exact ⟨k,V9.1 c,zy0.1 d⟩
def Sim.grow (h:Sim T w0 S0 ⟨F,H⟩ F' w S φ) (a:Chg [] w w') {S1} (c: ∀b∈S,b∈S1) (d: ∀b∈S1,b∈S\/(w.heap.size<=b/\b<w'.heap.size)):Sim T w0 S0 ⟨F,H⟩ F' w' S1 φ:=by
 have:=h.io (Tc:= []) a (fun b e _ _=>c b e) d (ids:= []) (es:= []) rfl (by simp) (by simp) (by simp);simpa [zf3] using this
def Sim.forget (h:Sim T w0 S0 ⟨F,H⟩ F' w S φ) (ids:List Nat) (hpl: ∀i∈ids,∀e,H[i]?=some e->e.plain=true): ∃φ',(∀i∈ids,(φ' i).xs= [])/\(∀i,RSame (φ' i) (φ i))/\Sim T w0 S0 ⟨F,H⟩ F' w S φ':=by
 let φ':Nat->RA:=fun i=>if i∈ids then ⟨(φ i).ad,(φ i).n,(φ i).cap,[]⟩ else φ i
 have hs: ∀i,RSame (φ' i) (φ i):=fun i=>by
  show RSame (if i∈ids then ⟨(φ i).ad,(φ i).n,(φ i).cap,[]⟩ else φ i) (φ i);split
  ·exact ⟨rfl,rfl,rfl⟩
  ·exact .of rfl
 have hx: ∀i∈ids,(φ' i).xs= []:=fun i hi=>by
  show (if i∈ids then (⟨(φ i).ad,(φ i).n,(φ i).cap,[]⟩:RA) else φ i).xs= [];rw [if_pos hi]
 have hat: ∀ {i:Nat} {a:Addr},At (φ' i) a->At (φ i) a:=fun {i a} ha=>by
  rcases ha with ha|ha
  ·exact .inl ((hs i).1▸ha)
  ·by_cases hi:i∈ids
   ·rw [hx i hi] at ha;cases ha
   ·have e:φ' i=φ i:=if_neg hi;exact .inr (e▸ha)
 refine ⟨φ',hx,hs,fun i a ha=>?_,h.ids,h.chg,h.own,h.ex,fun i e he hl a ha=>h.lives i e he hl a (hat ha),fun k r hk=>⟨(hs k).trans (h.pins k r hk).1,(h.pins k r hk).2⟩,fun i e he=>?_,h.eids,fun i j e e' he he' hl hl' hij a b ha hb=>h.apart i j e e' he he' hl hl' hij a b (hat ha) (hat hb)⟩
 ·obtain ⟨v,h1,h2⟩:=h.fr i a ha;exact ⟨v,h1,h2.phiS fun j _=>hs j⟩
 ·have:=(h.ents i e he).renS (ρ:=id) (φ':=φ') (j:=i) (hs i) (by
   by_cases hi:i∈ids
   ·exact .inl (hpl i hi e he)
   ·exact .inr (congrArg RA.xs (if_neg hi:φ' i=φ i))) fun k _=>hs k
  cases e with
  |drow e d fe xs op=>simpa only [Ent.ren,vi9] using this
  |pmap k be d m op=>simpa only [Ent.ren,vi8] using this
  |blk e cs=>simpa only [Ent.ren,zo2] using this
  |map k es=>simpa only [Ent.ren,qa0] using this
  |row e t xs=>exact this
  |tmap k t m=>exact this
  |hid=>exact this
  |gone=>trivial
def jx9 {f:FuncId} {sp:FnSpec T} (hok:vd1 T P f sp):w9 T P f sp.toCall:=by
 intro R aS H K Kp r hr w0 S0 F F' w S φ h vs hvs has;simp only [FnSpec.toCall] at hr;split at hr
 ·rename_i x hx;split at hr
  ·rename_i hb;simp only [X3] at hb;obtain ⟨hn,hpo⟩:=hb;obtain ⟨y,hy,hK⟩:=za8 hr;obtain ⟨i1,i2,i3⟩:=qo6 hx;generalize hids:zm5 T sp.ps aS=ids at *;obtain ⟨φ',hxs,hrs,h⟩:=h.forget ids fun i hi e he=>by
    obtain ⟨k,hk⟩:=Y9.1 hi;obtain ⟨_,_,_,p1,_⟩:=i3 k i hk;rw [p1] at he;cases he;rfl
   replace hvs:VRL T w S φ' aS vs:=by
    have:=VRL.renS T (ρ:=id) (φ':=φ') (fun i _=>hrs i) hvs;rwa [zo2] at this
   clear hrs
   revert φ'
   intro φ hxs h hvs
   let φc:Nat->RA:=fun k=>φ (ids.getD k 0)
   have hφc: ∀k i,ids[k]?=some i->φc k=φ i:=by
    intro k i hk;show φ (ids.getD k 0)=φ i;rw [Y2,hk];rfl
   have hgk: ∀k,k<(zb8 sp.ps).length-> ∃i,ids[k]?=some i:=fun k hk=>⟨_,Y0 (by omega)⟩;have hap: ∀j k,j<(zb8 sp.ps).length->k<(zb8 sp.ps).length->j≠k-> ∀a b,At (φc j) a->At (φc k) b->a.block≠b.block:=by
    intro j k hj hk hjk a b ha hb;obtain ⟨i,gi⟩:=hgk j hj;obtain ⟨i',gi'⟩:=hgk k hk;rw [hφc j i gi] at ha;rw [hφc k i' gi'] at hb;obtain ⟨_,_,_,e1,_⟩:=i3 j i gi;obtain ⟨_,_,_,e2,_⟩:=i3 k i' gi';exact h.apart i i' _ _ e1 e2 rfl rfl (fun e=>hjk (by subst e;exact zu2 hn gi gi')) a b ha hb
   have hsin: ∀k,k<(zb8 sp.ps).length-> ∀a,At (φc k) a->a.block∈S:=by
    intro k hk a ha;obtain ⟨i,gi⟩:=hgk k hk;rw [hφc k i gi] at ha;obtain ⟨_,_,_,e1,_⟩:=i3 k i gi;exact zi7 h e1 rfl ha
   have hent: ∀k e,(zr4 T sp.ps x)[k]?=some e->EntR T w S φc k e:=by
    intro k e hk;have hlt:=(X2.1 hk).1;obtain ⟨i,gi⟩:=hgk k (by omega);obtain ⟨e1,t1,xs,g1,g2,_⟩:=i3 k i gi;rw [g2] at hk;simp only [X0] at hk;subst hk;have:=h.ents i _ g1;simp only [EntR,hφc k i gi];exact this
   refine (hok x y hy w S φc vs (kf6 hx hvs (k:=0) fun j i hj=>by rw [hids] at hj;rw [W7];exact hφc j i hj) (fun b hb=>(h.own b hb).2) hent hsin hap).mono fun e w' hR=>?_;cases e with
   |returned v=>
    obtain ⟨F1,H1,F1',S1,φ1,as1,us,g1,g2,rfl,g4,g5,g6⟩:=hR;obtain ⟨q1,q2,q3⟩:=zz4 g4;have hpin: ∀k,k<(zb8 sp.ps).length->RSame (φ1 k) (φc k):=by
     intro k hk;exact (g1.pins k (φc k) (by simp [hk])).1
    have hS1: ∀b∈S1,b∈S\/(w.heap.size<=b/\b<w'.heap.size):=fun b hb=>by
     obtain ⟨p1,p2⟩:=g1.own b hb;rcases p1 with p1|p1
     ·exact .inl p1
     ·exact .inr ⟨p1,p2⟩
    have hg:Sim T w0 S0 ⟨F,zf3 T H ids (ye6 T (zb8 sp.ps) y)⟩ F' w' S1 φ:=by
     refine h.io g1.chg g1.ex hS1 (by rw [q2,i1]) ?_ (fun i hi a ha=>by
      obtain ⟨k,gk⟩:=Y9.1 hi;have hlt:k<(zb8 sp.ps).length:=by have:=(X2.1 gk).1;omega
      obtain ⟨ys,p4,p5⟩:=q3 k hlt;rw [W7] at p5;rcases ha with ha|ha
      ·exact (g1.lives k _ p5 rfl a (.inl ((hpin k hlt).1.trans (by rw [hφc k i gk];exact ha)))).1
      ·rw [hxs i hi] at ha;cases ha) ?_
     ·intro b hb;obtain ⟨k,hk,a,ha,rfl⟩:=yu3 hb;obtain ⟨i,gi⟩:=hgk k hk;exact ⟨i,X6 gi,a,by rw [<-hφc k i gi];exact ha,rfl⟩
     ·intro k i hk;obtain ⟨e1,t1,xs,p1,p2,p3⟩:=i3 k i hk;have hlt:k<(zb8 sp.ps).length:=by have:=(X2.1 hk).1;omega
      obtain ⟨ys,p4,p5⟩:=q3 k hlt;have e1':e1=((zb8 sp.ps).getD k (0,.bool)).1:=congrArg Prod.fst p3;have t1':t1=((zb8 sp.ps).getD k (0,.bool)).2:=congrArg Prod.snd p3;subst t1';subst e1';refine ⟨_,_,xs,ys,p1,p4,?_⟩;rw [W7] at p5;have:=(g1.ents k _ p5).renS (ρ:=id) (φ':=φ) (j:=i) (by rw [<-hφc k i hk];exact (hpin k hlt).symm) (.inl rfl) (fun q hq=>by cases hq);exact this
    obtain ⟨φ2,k1,k2,_,k4⟩:=vj1 (m:=false) (m0:=(zb8 sp.ps).length) (S1:=S1) (ids:=ids) (ios:=zb8 sp.ps) g1 (fun t x v _ h=>h) (fun _ h=>h) h.chg.size (fun i e hi he hl a ha=>by
     rcases (g1.lives i e he hl a (.inl ha)).2 with hm|hm
     ·obtain ⟨k,hk,a',ha',hbe⟩:=yu3 hm;obtain ⟨ys,p4,p5⟩:=q3 k hk;rw [W7] at p5;exact absurd hbe (g1.apart k i _ e p5 he rfl hl (by omega) a' a (by
       rcases ha' with ha'|ha'
       ·exact .inl ((hpin k hk).1.trans ha')
       ·obtain ⟨i',gi'⟩:=hgk k hk;rw [hφc k i' gi',hxs i' (X6 gi')] at ha';cases ha') (.inl ha))
     ·exact hm) (fun k e t xs hk hx=>by
     obtain ⟨ys,p4,p5⟩:=q3 k (by omega);rw [W7] at p5;rw [hx] at p5;simp only [X0,Ent.row.injEq] at p5;rw [p5.2.1]) (fun e=>by cases e) hpo g2 q1 g5 (used:= []) (fun i hi=>⟨fun hm=>(by cases hm),g6 i hi⟩) (H:=zf3 T H ids (ye6 T (zb8 sp.ps) y)) (φ:=φ) (fun k i hk=>by
     have hlt:k<(zb8 sp.ps).length:=by have:=(X2.1 hk).1;omega
     obtain ⟨_,_,_,p1,_⟩:=i3 k i hk;exact ⟨(hpin k hlt).trans (.of (hφc k i hk)),by rw [za1];exact (X2.1 p1).1⟩) hg (by
     intro j e hj hl a ha;rcases ze1 _ _ _ (by rw [q2,i1]) hj with ⟨k,p1,p2⟩|⟨_,p2⟩
     ·obtain ⟨_,_,_,p3,_⟩:=i3 k j p1;exact .inl (h.own _ (zi7 h p3 rfl ha)).2
     ·exact .inl (h.own _ (zi7 h p2 hl ha)).2)
    rw [za1] at k2 k4;exact ⟨_,_,hK,S1,φ2,k1,yb1 k2,jk1 k4⟩
   |panicked ch=>exact hR.elim
   |outgrown=>exact hR.elim
  ·cases hr
 ·split at hr
  ·rename_i hb;simp only [X3] at hb;obtain ⟨hsc,hpo⟩:=hb;obtain ⟨x,hx,hv,hio,hent⟩:=yx3 hr (fun i _ en hi _=>h.ents i en hi) hvs φ 0;obtain ⟨y,hy,hK⟩:=za8 hx;have hio0:(zb8 sp.ps).length=0:=by rw [hio];rfl
   refine (hok x y hy w [] φ vs hv (fun b hb=>by cases hb) (fun k e hk=>by rw [hent] at hk;simp at hk) (fun k hk=>by omega) (fun j k hj=>by omega)).mono fun e w' hR=>?_;cases e with
   |returned v=>
    obtain ⟨F1,H1,F1',S1,φ1,as1,us,g1,g2,rfl,g4,g5,g6⟩:=hR;obtain ⟨q1,q2,q3⟩:=zz4 g4;have hchg:Chg [] w w':=by
     have:=g1.chg;rw [show zc9 φ (zb8 sp.ps).length= [] by rw [hio0];rfl] at this;exact this
    have hg:=h.grow hchg (S1:=S++S1) (fun b hb=>X4.2 (.inl hb)) (fun b hb=>by
     rcases X4.1 hb with hb|hb
     ·exact .inl hb
     ·obtain ⟨q1,q2⟩:=g1.own b hb;rcases q1 with q1|q1
      ·cases q1
      ·exact .inr ⟨q1,q2⟩)
    obtain ⟨φ2,k1,k2,_,k4⟩:=vj1 (m:=true) (m0:=0) (S1:=S++S1) (ids:= []) (ios:= []) g1 (fun t x v ht hcr=>by
     have ht:=ht rfl;cases hcr with
     |int k x=>exact .int k x
     |bool b=>exact .bool b
     |str s=>exact .str s
     |list e xs ad cap u h1 h2 h3 h4 h5=>cases ht
     |nl e xs ad cap h1 h2=>cases ht) (fun b hb=>X4.2 (.inr hb)) h.chg.size (fun i e _ he hl a ha=>by
     rcases (g1.lives i e he hl a (.inl ha)).2 with hm|hm
     ·rw [show zc9 φ (zb8 sp.ps).length= [] by rw [hio0];rfl] at hm;cases hm
     ·exact hm) (fun k e t xs hk=>by simp at hk) (fun _=>hsc) hpo g2 q1 g5 (used:= []) (fun i _=>⟨fun hm=>(by cases hm),V1 _⟩) (fun k i hk=>by simp at hk) hg (by
     intro j e hj hl a ha;exact .inl (h.own _ (zi7 h hj hl ha)).2)
    exact ⟨_,_,hK,S++S1,φ2,k1,yb1 k2,jk1 k4⟩
   |panicked ch=>exact hR.elim
   |outgrown=>exact hR.elim
  ·cases hr
def vw7 (T:Tab):(rs:List RT)->zt6 T rs->List Value
 | [],_=> []
 | [t],x=> [valR t x]
 |t::s::r,x=>valR t x.1::vw7 T (s::r) x.2
where
 valR:(t:RT)->jp0 T t->Value
  | .val t,x=>wa2 T t x
  |_,_=>undef
def jr0: ∀ {cs:List (Cell T.U)},(∀c∈cs,c.t.scal=true)->VRL T w S φ (cs.map .cell) (cs.map vt2)
 | [],_=>trivial
 |⟨t,x⟩::r,h=>by
  refine ⟨?_,jr0 fun c a=>h c (Z4 _ a)⟩;have:=h _ (U2 ..);cases t with
  |int k=>exact CR.int _ _
  |bool=>exact CR.bool _
  |str=>exact CR.str _
  |list e=>cases this
  |nl e=>cases this
  |user i=>cases this
def qj0: ∀ {cs:List (Cell T.U)} {vs},(∀c∈cs,c.t.scal=true)->VRL T w S φ (cs.map .cell) vs->vs=cs.map vt2
 | [],[],_,_=>rfl
 | [],_::_,_,h=>h.elim
 |_::_,[],_,h=>h.elim
 |⟨t,x⟩::r,v::vs,h,a=>by
  have b:=h _ (U2 ..);rw [W8,<-qj0 (fun c d=>h c (Z4 _ d)) a.2];congr 1;cases t with
  |int k=>exact za4 a.1
  |bool=>exact zf1 a.1
  |str=>exact zn9 a.1
  |list e=>cases b
  |nl e=>cases b
  |user i=>cases b
def qq8 {t} (h:jb4 T t=true) (x):VR T w S φ (zm8 T t x) (wa2 T t x):=by
 cases t with
 |user i=>exact ⟨_,rfl,jr0 (T.scals i x h)⟩
 |int k=>exact CR.int _ _
 |bool=>exact CR.bool _
 |str=>exact CR.str _
 |list e=>cases h
 |nl e=>cases h
def vk1 {t} (h:jb4 T t=true) {x v} (a:VR T w S φ (zm8 T t x) v):v=wa2 T t x:=by
 cases t with
 |user i=>
  obtain ⟨vs,rfl,b⟩:=a;have:=qj0 (T.scals i x h) b;show Value.agg vs=Value.agg (List.map vt2 (T.cells i x)).toArray;rw [<-this]
 |int k=>exact za4 a
 |bool=>exact zf1 a
 |str=>exact zn9 a
 |list e=>cases h
 |nl e=>cases h
def gd8: ∀ {rs},qRs T rs=true-> ∀ {y:zt6 T rs} {ids:List Nat} {ios:List (TypeId×Ty)} {b:Nat},VRL T w S φ (yy0 T ids ios b rs y) (vw7 T rs y)/\v8 (yy0 T ids ios b rs y)= []:=by
 intro rs;induction rs with
 |nil=>intro h y ids ios b;exact ⟨trivial,rfl⟩
 |cons t q a=>
  intro h y ids ios b;cases t with
  |own e t=>cases h
  |part k=>cases h
  |val t=>
   cases q with
   |nil=>
    have c:jb4 T t=true:=by simpa [qRs] using h
    refine ⟨⟨qq8 c y,trivial⟩,?_⟩;exact T0.2 ⟨yg9 (T:=T) t y,rfl⟩
   |cons s r=>
    unfold qRs at h;simp only [X3] at h;obtain ⟨d,f⟩:=a h.2 (y:=y.2) (ids:=ids) (ios:=ios) (b:=b+RT.cnt (.val t));refine ⟨⟨qq8 h.1 y.1,d⟩,?_⟩;exact T0.2 ⟨yg9 (T:=T) t y.1,f⟩
def gd9 {f S1 d H1}: ∀ {rs},qRs T rs=true-> ∀ {y:zt6 T rs} {aS:List (AV T.U)} {us:List Value},qo7 T H1 rs aS=some y->VRL T f S1 d aS us->us=vw7 T rs y:=by
 intro rs;induction rs with
 |nil=>
  intro h y aS us b c
  match aS,b,us,c with
  | [],_,[],_=>rfl
  |_::_,b,_,_=>cases b
 |cons t q g=>
  intro h y aS us b c;cases t with
  |own e t=>cases h
  |part k=>cases h
  |val t=>
   match aS,b,us,c with
   | [],b,_,_=>cases q<;>cases b
   |a::aS,b,v::us,c=>
    cases q with
    |nil=>
     have i:jb4 T t=true:=by simpa [qRs] using h
     cases aS with
     |cons _ _=>cases b
     |nil=>
      match us,c with
      | [],c=>exact congrArg (fun z=> [z]) (vk1 i (yb0 (t:=t) b c.1 d))
    |cons s r=>
     unfold qRs at h;simp only [X3] at h;obtain ⟨x,z,j,l,rfl⟩:=jv5 b;show v::us=wa2 T t x::vw7 T (s::r) z;rw [<-g h.2 l c.2,<-vk1 h.1 (yb0 (t:=t) j c.1 d)]
def later {aS:List (AV T.U)} {a:World} (h:Sim T w0 S0 ⟨F,H⟩ F' w S φ) (c:Chg S w a) (b:Same φ (v8 aS) w a):yq2 T a S φ H (v8 aS):=
  jv8 h c b fun i d=>d
def vr7 {f:FuncId} {sp:FnSpec T} (hok:vd1 T P f sp):zh3 T P f sp.toCall:=by
 intro R aS H K r hr w0 S0 F F' w S φ h vs hvs has;simp only [FnSpec.toCall] at hr;split at hr
 ·rename_i hq;obtain ⟨x,hx,hdet⟩:=yx2 hr;obtain ⟨y,hy,hK⟩:=za8 hx;obtain ⟨q1,q2⟩:=gd8 (w:=w) (S:=S) (φ:=φ) hq (y:=ye8 T (zb8 sp.ps) y) (ids:= []) (ios:= []) (b:=0);refine ⟨_,_,hK,yb1 q1,jk1 (by rw [q2];intro i hi;cases hi),fun w1 hc hsm=>?_⟩;obtain ⟨x',hx',hv,hio,hent⟩:=yx3 (w:=w1) (K:=some) (by rw [hdet]) (later h hc hsm) (hvs.chg T hc (fun _ h=>h) fun b hb=>.inl hb) φ 0;have hx':=X5 hx';subst hx';have hio0:(zb8 sp.ps).length=0:=by rw [hio];rfl
  refine (hok _ y hy w1 [] φ vs hv (fun b hb=>by cases hb) (fun k e hk=>by rw [hent] at hk;simp at hk) (fun k hk=>by omega) (fun j k hj=>by omega)).mono fun e w' hR=>?_;cases e with
  |returned v=>
   obtain ⟨F1,H1,F1',S1,φ1,as1,us,g1,g2,rfl,g4,g5,g6⟩:=hR;have hchg:Chg [] w1 w':=by
    have:=g1.chg;rw [show zc9 φ (zb8 sp.ps).length= [] by rw [hio0];rfl] at this;exact this
   exact ⟨hchg,by rw [gd9 hq (zz4 g4).1 g2]⟩
  |panicked ch=>exact hR.elim
  |outgrown=>exact hR.elim
 ·cases hr
def gb2 (b:FnSpec T):zp3 b.toCall:=by
 intro R aS H K X r c;simp only [FnSpec.toCall] at c;split at c
 ·rename_i x l;split at c
  ·rename_i s;obtain ⟨y,j,u⟩:=za8 c;obtain ⟨I,Y,J⟩:=qo6 l;refine .inl ⟨_,_,u,?_,fun L v=>by simp only [FnSpec.toCall,l,s,j,j7]⟩;have M:(FnSpec.toCall b).wr aS H=zm5 T b.ps aS:=by simp only [FnSpec.toCall,l]
   rw [M];have a:(ye6 T (zb8 b.ps) (b.g x |>.get (by rw [j];rfl))).length=(zm5 T b.ps aS).length:=by
    have: ∀(ios:List (TypeId×Ty)) {d:Type} (y:zt5 T ios d),(ye6 T ios y).length=ios.length:=by
     intro ios;induction ios with
     |nil=>intro d y;rfl
     |cons p r z=>intro d y;exact congrArg (· +1) (z y.2)
    rw [this,I]
   have N:(b.g x |>.get (by rw [j];rfl))=y:=by simp [j]
   rw [N] at a;have m: ∀(ios:List (TypeId×Ty)) {d:Type} (y:zt5 T ios d) (k:Nat) (f:Ent T.U),(ye6 T ios y)[k]?=some f-> ∃xs,f=.row (ios.getD k (0,.bool)).1 (ios.getD k (0,.bool)).2 xs:=by
    intro ios;induction ios with
    |nil=>intro d y k f h;simp [ye6] at h
    |cons p r z=>
     intro d y k f h;cases k with
     |zero=>
      have h:some (Ent.row p.1 p.2 y.1)=some f:=h;simp only [X0] at h;subst h;exact ⟨y.1,rfl⟩
     |succ k=>
      have h:(ye6 T r y.2)[k]?=some f:=h;obtain ⟨xs,A⟩:=z y.2 k f h;exact ⟨xs,A⟩
   refine ⟨by rw [X9,za1];omega,fun e q O=>?_,fun e ty t ys q h=>?_⟩
   ·rw [X8 (by rw [za1];exact q)];have i: ∃f,(zf3 T H (zm5 T b.ps aS) (ye6 T (zb8 b.ps) y))[e]?=some f:=⟨_,Y0 (by rw [za1];exact q)⟩;obtain ⟨f,E⟩:=i;rcases ze1 _ _ H a E with ⟨k,B,_⟩|⟨_,n⟩
    ·exact absurd (X6 B) O
    ·rw [E,n]
   ·rw [X8 (by rw [za1];exact q)] at h;rcases ze1 _ _ H a h with ⟨k,B,n⟩|⟨_,n⟩
    ·obtain ⟨C,Q,xs,V,Z,G⟩:=J k e B;obtain ⟨zs,D⟩:=m _ y k _ n;simp only [Ent.row.injEq] at D;have C:C=ty:=(congrArg Prod.fst G).trans D.1.symm;have W:Q=t:=(congrArg Prod.snd G).trans D.2.1.symm;subst C;subst W;exact ⟨xs,V⟩
    ·exact ⟨ys,n⟩
  ·cases c
 ·rename_i l;split at c
  ·rename_i s;obtain ⟨x,A,o⟩:=yx2 c;obtain ⟨y,j,u⟩:=za8 A;exact .inl ⟨_,_,u,.app,fun L v=>by simp only [FnSpec.toCall,l,s,o,j,j7]⟩
  ·cases c
def yu1: ∀ {aS vs i j a},VRL T w S φ aS vs->(zv6 T aS i).get T j=some a-> ∃v,(yx9 vs i).get j=some v/\VR T w S φ a v
 | [],[],_,_,_,_,h=>by simp [zv6,AF.get] at h
 | [],_::_,_,_,_,h,_=>h.elim
 |_::_,[],_,_,_,h,_=>h.elim
 |b::r,v::s,i,j,a,h,c=>by
  simp only [zv6,AF.get] at c;simp only [yx9,PF.get];split at c
  ·rename_i d;simp only [X0] at c;subst c;exact ⟨v,by simp only [d],h.1⟩
  ·rename_i d;simp only [d];exact yu1 h.2 c
def yu2: ∀ {aS i j a},(zv6 T aS i).get T j=some a->a∈aS
 | [],_,_,_,h=>by simp [zv6,AF.get] at h
 |b::r,i,j,a,c=>by
  simp only [zv6,AF.get] at c;split at c
  ·simp only [X0] at c;subst c;exact U2 ..
  ·exact Z4 _ (yu2 c)
def vk0 {t} (x):okA H (zm8 T t x):=zd7 (yo4 t x) (by rw [yg9];intro i a;cases a)
def vz0: ∀ {ps x k H},k+(zb8 ps).length<=H.length-> ∀a∈yh2 T k ps x,okA H a:=by
 have one: ∀ {t:PT} {x:yh4 T t} {k:Nat} {H:List (Ent T.U)},k+t.cnt<=H.length->okA H (avP T k t x):=by
  intro t x k H h;cases t with
  |val t=>exact vk0 (t:=t) x
  |io e t=>exact ⟨fun i c=>by simp [avP,AV.ids] at c;subst c;simp [PT.cnt] at h;omega,trivial⟩
 have b: ∀(t:PT) (q:List PT),(zb8 (t::q)).length=t.cnt+(zb8 q).length:=by
  intro t q;cases t<;>simp [zb8,PT.cnt];omega
 intro ps;induction ps with
 |nil=>intro x k H _ a h;cases h
 |cons t q f=>
  intro x k H d a h;rw [b] at d;cases q with
  |nil=>simp only [yh2,Q4] at h;subst h;exact one (by simpa [zb8] using d)
  |cons s r=>
   simp only [yh2] at h;rcases Z0.1 h with rfl|h
   ·exact one (by omega)
   ·exact f (by omega) a h
def jq6: ∀ {ps x k},(yh2 T k ps x).length=ps.length
 | [],_,_=>rfl
 | [_],_,_=>rfl
 |_::s::r,x,k=>by simp only [yh2,U6];rw [jq6];rfl
def yu7: ∀ {ps x},(zr4 T ps x).length=(zb8 ps).length:=by
 intro ps;induction ps with
 |nil=>intro x;rfl
 |cons t q a=>
  intro x;cases q with
  |nil=>cases t<;>rfl
  |cons s r=>
   show (jl5 T t x.1++zr4 T (s::r) x.2).length=_;rw [X9,a];cases t<;>simp [jl5,zb8];omega
def vm2: ∀ {ps x e},e∈zr4 T ps x->e.cellIds= []:=by
 have one: ∀ {t:PT} {x:yh4 T t} {e:Ent T.U},e∈jl5 T t x->e.cellIds= []:=by
  intro t x e h;cases t with
  |val t=>cases h
  |io b t=>simp only [jl5,Q4] at h;subst h;rfl
 intro ps;induction ps with
 |nil=>intro x e h;cases h
 |cons t q a=>
  intro x e h;cases q with
  |nil=>exact one h
  |cons s r=>
   have h:e∈jl5 T t x.1++zr4 T (s::r) x.2:=h;rcases X4.1 h with h|h
   ·exact one h
   ·exact a h
def jk8 {m st} (h:Sim T w0 S0 st m w S φ) {n ds a} (p:Fr n ds m a): ∀ {l aS},jo3 T P st l=some aS->
  ∃us,VRL T w S φ aS us/\ ∀ {f:ResultVar->Sem Value},(∀t,f (.tmp t)=Pure.pure (a.tmps.getD t undef))->(∀c t,f (.cell c t)=(do loadVar t (<-asAddr (a.tmps.getD c undef))))->(l.mapM f).run P w=.ok us w
 | [],aS,d=>by simp only [jo3,X0] at d;subst d;exact ⟨[],trivial,fun _ _=>rfl⟩
 | .tmp t::r,aS,d=>by
  unfold jo3 at d;split at d
  ·rename_i b l q s;simp only [X0] at d;subst d;obtain ⟨v,u,x⟩:=h.fr t b q;obtain ⟨us,y,z⟩:=jk8 h p s;refine ⟨v::us,⟨x,y⟩,fun j k=>?_⟩;have e:=(p.val t v u).1;simp only [List.mapM_cons,j,Sem.run_bind,Sem.run_pure,Result.andThen_ok,e];rw [z j k];rfl
  ·cases d
 | .cell c t::r,aS,d=>by
  unfold jo3 at d;split at d
  ·rename_i i o l q s;split at d
   ·rename_i e cs C;split at d
    ·rename_i b A;simp only [X0] at d;subst d;obtain ⟨v,u,g,x,rfl⟩:=h.fr c _ q;obtain ⟨J,K,B,D,_,E⟩:=h.ents i _ C;rw [x] at B;simp only [X0,Addr.mk.injEq,and_true] at B;subst B;obtain ⟨v,G,I⟩:=vf3 E A;obtain ⟨us,y,z⟩:=jk8 h p s;refine ⟨v::us,⟨I,y⟩,fun j k=>?_⟩;have e:=(p.val c _ u).1;simp only [List.mapM_cons,k,Sem.run_bind,Result.andThen_ok,e,asAddr,Sem.run_pure,zp8 D G];rw [z j k];rfl
    ·cases d
   ·cases d
  ·cases d
def yz4 {fn b st} (h:Sim T w0 S0 st b w S φ) {n ds a} (c:Fr n ds b a) {aS} (d:jo3 T P st fn.results.toList=some aS): ∃us,(results fn a.tmps).run P w=.ok (zw3 us) w/\VRL T w S φ aS us:=by
 obtain ⟨us,e,f⟩:=jk8 (P:=P) h c d;refine ⟨us,?_,e⟩;unfold results;rw [Array.mapM_eq_mapM_toList];simp only [Sem.run_bind,Sem.run_map];rw [f (fun _=>rfl) (fun _ _=>rfl)];simp only [Result.andThen_ok]
 match us with
 | []=>rfl
 | [v]=>rfl
 |u::v::r=>
  have:(u::v::r).toArray.size≠1:=by simp
  simp only [this,dite_false];rfl
def yr4 {st f S φ S0 w0 w} (h:Sim T w0 S0 st f w S φ): ∀ {l aS},jo3 T P st l=some aS-> ∀i∈v8 aS,i<st.H.length
 | [],aS,a,i,d=>by simp only [jo3,X0] at a;subst a;cases d
 | .tmp t::r,aS,a,i,d=>by
  unfold jo3 at a;split at a<;>try (cases a;done)
  rename_i b l k g;simp only [X0] at a;subst a;rw [v8] at d;rcases X4.1 d with d|d
  ·exact (h.ids t b k).1 i d
  ·exact yr4 h g i d
 | .cell c t::r,aS,a,i,d=>by
  unfold jo3 at a;split at a<;>try (cases a;done)
  rename_i m o l k g;split at a<;>try (cases a;done)
  rename_i e cs n;split at a<;>try (cases a;done)
  rename_i b j;simp only [X0] at a;subst a;rw [v8] at d;rcases X4.1 d with d|d
  ·exact h.eids m _ n i (js5 j i d)
  ·exact yr4 h g i d
def Sim.noF {st} (h:Sim T w0 S0 st F' w S φ):Sim T w0 S0 ⟨[],st.H⟩ F' w S φ:=
 ⟨fun i a b=>by simp [AF.get] at b,fun i a b=>by simp [AF.get] at b,h.chg,h.own,h.ex,h.lives,h.pins,h.ents,h.eids,h.apart⟩
def ve4 {C f fn c I z ps rs g} (hm:P.follows .mixedOrders=true) (hE:zc5 T P C.E)
  (hf:P.funcs[f]?=some fn) (G:fn.body=some c) (hs:Nat.ble ps.length fn.ntmps=true) (J:Nat.ble (zb8 ps).length C.pin=true) (hg: ∀x y,g x=some y-> ∃m,un1 T P C I fn c z ps rs m x=some y):vd1 T P f ⟨ps,rs,g⟩:=by
 intro x y hy w S φ vs K hS L M hap;obtain ⟨N,hN⟩:=hg x y hy;have O:vs.length=ps.length:=by rw [<-K.len T];exact jq6
 have hsz:vs.length<=fn.ntmps:=by rw [O];exact Y1 hs
 have hfr:Fr fn.ntmps [] (yx9 vs 0) {tmps:=vs.toArray++Array.replicate (fn.ntmps-vs.toArray.size) undef,defers:= []}:=by
  refine ⟨by simp;omega,rfl,fun i v hv=>?_⟩;obtain ⟨_,q⟩:=zu5 vs 0 i v hv;simp only [J5] at q;have hi:=(X2.1 q).1;refine ⟨?_,by omega⟩;rw [Y7,Array.getElem?_append_left (by simpa using hi)];simp [q]
 have l: ∀(i:Nat) (e:Ent T.U),(zr4 T ps x)[i]?=some e->i<(zb8 ps).length:=by
  intro i e s;have:=(X2.1 s).1;rwa [yu7] at this
 have Q:Sim T w ⟨zc9 φ (zb8 ps).length,S,(List.range (zb8 ps).length).map φ⟩ ⟨zv6 T (yh2 T 0 ps x) 0,zr4 T ps x⟩ (yx9 vs 0) w S φ:=by
  refine ⟨fun i a n=>yu1 K n,fun i a n=>vz0 (by rw [yu7];omega) a (yu2 n),Chg.refl _ _,fun b G=>⟨.inl G,hS b G⟩,fun b G _ _=>G,fun i e s hl a n=>⟨M i (l i e s) a n,.inl ?_⟩,fun k r hk=>?_,L,fun i e s j hj=>?_,fun i j e e' s he' _ _ hij=>hap i j (l i e s) (l j e' he') hij⟩
  ·unfold zc9;exact M3.2 ⟨i,V9.2 (l i e s),zy0.2 ⟨a,n,rfl⟩⟩
  ·have t:=(X2.1 hk).1;simp at t;simp [t] at hk;exact ⟨.of hk,by simp only [yu7];exact t⟩
  ·rw [vm2 (X6 s)] at hj;cases hj
 have u:=Y1 J;have R: ∀st,vt9 T P fn z ps rs st=some y-> ∀F1 p,zd2 T w ⟨zc9 φ (zb8 ps).length,S,(List.range (zb8 ps).length).map φ⟩ st F1 p-> ∀a,Fr fn.ntmps [] F1 a-> ∃v,(results fn a.tmps).run P p=.ok v p/\
   ∃(F1:AF T) (H1:List (Ent T.U)) (A:PF) (S1:List Nat) (o:Nat->RA) (aS:List (AV T.U)) (us:List Value),Sim T w ⟨zc9 φ (zb8 ps).length,S,(List.range (zb8 ps).length).map φ⟩ ⟨F1,H1⟩ A p S1 o/\VRL T p S1 o aS us/\v=zw3 us/\rdIo T H1 (qo7 T H1 rs aS) (zb8 ps) 0=some y/\ze6 (zr1 T rs aS)=true/\ ∀i∈zr1 T rs aS,(zb8 ps).length<=i:=by
  intro st d F1 p ⟨S1,o,B⟩ a n;unfold vt9 at d;split at d<;>try (cases d;done)
  rename_i as0 V;obtain ⟨us,W,q⟩:=yz4 B n V;split at d<;>try (cases d;done)
  rename_i as1 H1 hw;obtain ⟨φw,X,hvw,_⟩:=yc2 (by simp) z.w hw B.noF q (yr4 (P:=P) B V);obtain ⟨aS,H2,S2,hK,Y,hv2⟩:=ym7 z.z d X hvw;unfold kj3 at hK;split at hK<;>try (cases hK;done)
  rename_i hn;simp only [X3] at hn;refine ⟨_,W,[],H2,F1,S2,φw,aS,us,Y,hv2,rfl,hK,hn.1,fun i hi=>?_⟩;have:=hn.2;rw [Y8] at this;exact Y1 (this i hi)
 have Z:KsOk (bodyPost P fn fun e w'=>match e with
   | .returned v=> ∃(F1:AF T) (H1:List (Ent T.U)) (A:PF) (S1:List Nat) (o:Nat->RA) (aS:List (AV T.U)) (us:List Value),Sim T w ⟨zc9 φ (zb8 ps).length,S,(List.range (zb8 ps).length).map φ⟩ ⟨F1,H1⟩ A w' S1 o/\VRL T w' S1 o aS us/\v=zw3 us/\
     rdIo T H1 (qo7 T H1 rs aS) (zb8 ps) 0=some y/\ze6 (zr1 T rs aS)=true/\ ∀i∈zr1 T rs aS,(zb8 ps).length<=i
   |_=>False) fn.ntmps [] w ⟨zc9 φ (zb8 ps).length,S,(List.range (zb8 ps).length).map φ⟩ y (vu0 T P fn z ps rs):=by
  refine ⟨?_,fun i st h=>(by cases h),?_,fun a st h=>(by cases h)⟩
  ·intro st d F1 p D a n;obtain ⟨v,W,q⟩:=R st d F1 p D a n;exact ⟨n.defers,v,W,q⟩
  ·intro st d F1 p D a n;obtain ⟨v,W,q⟩:=R st d F1 p D a n;exact ⟨n.defers,v,W,q⟩
 have hp:((List.range (zb8 ps).length).map φ).length<=C.pin:=by simpa using u
 exact calls_of_wp hf G (zf2 hm hp hE c [] _ _ _ _ w hN Z (JOk.run hm hp hE Z N) ⟨S,φ,Q⟩ _ hfr)
def zl7:zc5 T P []:=fun f cs h=>by cases h
end
end Go.X
