import Derived.Test.YtbanjakljpjknaaGreatA7
set_option linter.defProp false
namespace Go.X
open Go.RowKit Go.V
structure Ks (T:Tab) (R:Type) where
 normal:St T->Option R
 exit:Nat->St T->Option R
 ret:St T->Option R
 panic:AV T.U->St T->Option R
abbrev Pos:=List Bool
def gq6:Pos->Pos->Bool
 | [],[]=>true
 |true::a,true::b=>gq6 a b
 |false::a,false::b=>gq6 a b
 |_,_=>false
section
variable {T:Tab} {R:Type}
def vf5 (m:Nat) (l:Option Cut) (st:St T) (J K:St T->Option R):Option R:=
 match l with
 |none=>K st
 |some c=>match c.inl with
  |true=>K (dzS c.dz st)
  |false=>match c.whole with
  |true=>J st
  |false=>match uf4 T m c.l (jd5 T c.nils (dzS c.dz st)) with|some b=>J ⟨b.F,zf7 T c.bn b.H⟩|none=>none
def gj6:List (Nat×Nat)->Nat->Option Nat
 | [],_=>none
 |(j,m)::r,i=>match Nat.beq j i with|true=>some m|false=>gj6 r i
def jp2:List (Pos×Cut)->Pos->Option Cut
 | [],_=>none
 |(j,l)::r,i=>match gq6 j i with|true=>some l|false=>jp2 r i
variable (P:Program) (C:Ctx T) (n:Nat) (cuts:List (Pos×Cut))
def Ks.behind (K:Ks T R) (f:St T->Option R):Ks T R:=⟨f,K.exit,K.ret,K.panic⟩
def Ks.block (K:Ks T R) (id:Nat):Ks T R:=⟨K.normal,fun i st=>match Nat.beq i id with|true=>K.normal st|false=>K.exit i st,K.ret,K.panic⟩
section
variable (J:Pos->St T->Option R)
noncomputable def evC:Code->Pos->Ks T R->St T->Option R
 | .skip,_,K,st=>K.normal st
 | .region id ops d,_,K,st=>match d with
  |false=>regA P C ops n K.panic K.normal st
  |true=>match gj6 C.ms id with
   |some m=>ue2 T P C ops n (Nat.beq m 1) K.panic K.normal st
   |none=>match Region.lexB .any ops with|true=>regQ P C ops n K.normal st|false=>none
 | .seq x y,q,K,st=>evC x (false::q) (K.behind fun st=>vf5 C.pin (jp2 cuts q) st (J q) (evC y (true::q) K)) st
 | .cond c x y,q,K,st=>match aev T st.F c with
  |some (.cell ⟨.bool,b⟩)=>j9 b (evC x (false::q) K st) (evC y (true::q) K st)
  |_=>none
 | .block id c,q,K,st=>evC c (false::q) (K.block id) st
 | .exit id,_,K,st=>K.exit id st
 | .loop _,q,_,st=>vf5 C.pin (jp2 cuts q) st (J q) fun _=>none
 | .ret,_,K,st=>K.ret st
 |_,_,_,_=>none
noncomputable def qw5:Code->Pos->Ks T R->List Bool->St T->Option R
 | .seq _ y,q,K,[],st=>evC P C n cuts J y (true::q) K st
 | .seq x y,q,K,false::r,st=>qw5 x (false::q) (K.behind fun st=>vf5 C.pin (jp2 cuts q) st (J q) (evC P C n cuts J y (true::q) K)) r st
 | .seq _ y,q,K,true::r,st=>qw5 y (true::q) K r st
 | .cond _ x _,q,K,false::r,st=>qw5 x (false::q) K r st
 | .cond _ _ y,q,K,true::r,st=>qw5 y (true::q) K r st
 | .block id c,q,K,false::r,st=>qw5 c (false::q) (K.block id) r st
 | .loop c,q,K,[],st=>evC P C n cuts J c (false::q) (K.behind fun st=>vf5 C.pin (jp2 cuts q) st (J q) fun _=>none) st
 | .loop c,q,K,false::r,st=>qw5 c (false::q) (K.behind fun st=>vf5 C.pin (jp2 cuts q) st (J q) fun _=>none) r st
 |_,_,_,_,_=>none
end
noncomputable def run (c:Code) (K:Ks T R) (m:Nat):Pos->St T->Option R:=Nat.rec (fun _ _=>none) (fun _ b q st=>qw5 P C n cuts b c [] K q.reverse st) m
end
section
variable {P:Program} {Q:Exit->Act->World->Prop} {a:Act} {w:World}
def lwp (P:Program) (c:Code) (Q:Exit->Act->World->Prop) (a:Act) (w:World):Prop:=
 ∀(b:Frame) (k:List Item) (cs:List Frame),∃e d w',Q e d w'/\Arrives P (lone (b.at a (.code c:: .inLoop c::k)) cs w) b k cs e d w'
def qu8 {c} (h:lwp P c Q a w):(Code.loop c).wp P Q a w:=by
 intro b k cs;obtain ⟨e,f,w',g,d⟩:=h b k cs;exact ⟨e,f,w',g,.of_steps (.one step_loop) d⟩
def ui2 {c:Code} (h:c.wp P (Exit.then (lwp P c Q) Q) a w):lwp P c Q a w:=by
 intro b k cs;obtain ⟨e,a₁,w₁,hq,harr⟩:=h b (.inLoop c::k) cs;cases e with
 |normal=>
  obtain ⟨e₂,a₂,w₂,hq₂,harr₂⟩:=hq b k cs;exact ⟨e₂,a₂,w₂,hq₂,.of_steps (Steps.trans harr (.one step_inLoop)) harr₂⟩
 |exit id=>exact ⟨_,a₁,w₁,hq,.pass (x:=.inLoop c) rfl (fun _ _=>.inl (by simp)) harr⟩
 |goto l=>exact ⟨_,a₁,w₁,hq,.pass (x:=.inLoop c) rfl (fun _ _=>.inl (by simp)) harr⟩
 |ret=>exact ⟨_,a₁,w₁,hq,.pass (x:=.inLoop c) rfl (fun _ _=>.inl (by simp)) harr⟩
 |panic ch=>exact ⟨_,a₁,w₁,hq,.pass (x:=.inLoop c) rfl (fun _ _=>.inl (by simp)) harr⟩
 |outgrown=>exact ⟨_,a₁,w₁,hq,.pass (x:=.inLoop c) rfl (fun _ _=>.inl (by simp)) harr⟩
end
section
variable {T:Tab} {P:Program} {C:Ctx T} {w:World} {S:List Nat} {φ:Nat->RA} {w0:World} {S0:Ow} {F:AF T} {H:List (Ent T.U)} {F':PF}
variable {Q:Exit->Act->World->Prop} {n:Nat} {cuts:List (Pos×Cut)} {ds:List Deferred} {R:Type} {r:R}
def SK (n:Nat) (ds:List Deferred) (w0:World) (S0:Ow) (X:Act->World->Prop) (st:St T):Prop:= ∀F1 b,zd1 T w0 S0 st F1 b-> ∀a,Fr n ds F1 a->X a b
structure KsOk (Q:Exit->Act->World->Prop) (n:Nat) (ds:List Deferred) (w0:World) (S0:Ow) (r:R) (K:Ks T R):Prop where
 normal: ∀st,K.normal st=some r->SK n ds w0 S0 (Q .normal) st
 exit: ∀i st,K.exit i st=some r->SK n ds w0 S0 (Q (.exit i)) st
 ret: ∀st,K.ret st=some r->SK n ds w0 S0 (Q .ret) st
 panic: ∀a st,K.panic a st=some r->yu3 Q n ds w0 S0 a st
def yh9 {m l st J K} (e:S0.pin.length<=m) (h:vf5 m l st J K=some r) (d:zd1 T w0 S0 st F' w): ∃b,(K b=some r\/J b=some r)/\zd1 T w0 S0 b F' w:=by
 unfold vf5 at h;split at h
 ·exact ⟨st,.inl h,d⟩
 ·split at h
  ·exact ⟨_,.inl h,qe7 _ d⟩
  ·split at h
   ·exact ⟨st,.inr h,d⟩
   ·split at h
    ·rename_i c _ _ _ _ _ b f;exact ⟨_,.inr h,zf1 c.bn (js9 e (yc2 _ (qe7 _ d)) f)⟩
    ·cases h
def JOk (P:Program) (n:Nat) (ds:List Deferred) (w0:World) (S0:Ow) (r:R) (J:Pos->St T->Option R):Code->Pos->(Exit->Act->World->Prop)->Prop
 | .seq x y,q,Q=>(∀st,J q st=some r->SK n ds w0 S0 (y.wp P Q) st)/\JOk P n ds w0 S0 r J x (false::q) (Exit.then (y.wp P Q) Q)/\JOk P n ds w0 S0 r J y (true::q) Q
 | .cond _ x y,q,Q=>JOk P n ds w0 S0 r J x (false::q) Q/\JOk P n ds w0 S0 r J y (true::q) Q
 | .block id c,q,Q=>JOk P n ds w0 S0 r J c (false::q) (Exit.inBlock id Q)
 | .loop c,q,Q=>(∀st,J q st=some r->SK n ds w0 S0 (lwp P c Q) st)/\JOk P n ds w0 S0 r J c (false::q) (Exit.then (lwp P c Q) Q)
 |_,_,_=>True
def KsOk.block {K:Ks T R} (b:KsOk Q n ds w0 S0 r K) (id:Nat):KsOk (Exit.inBlock id Q) n ds w0 S0 r (K.block id):=by
 refine ⟨b.normal,?_,b.ret,b.panic⟩;intro i c f F1 h d a j;simp only [Ks.block] at f;simp only [Exit.inBlock];split at f
 ·rename_i g;rw [if_pos (X1 g)];exact b.normal c f F1 h d a j
 ·rename_i g;rw [if_neg (fun e=>by subst e;simp at g)];exact b.exit i c f F1 h d a j
def KsOk.behind {K:Ks T R} (e:KsOk Q n ds w0 S0 r K) {X f} (m: ∀st,f st=some r->SK n ds w0 S0 X st):KsOk (Exit.then X Q) n ds w0 S0 r (K.behind f):=
 ⟨m,fun i st h F1 b c a g=>e.exit i st h F1 b c a g,fun st h F1 b c a g=>e.ret st h F1 b c a g,fun a st h F1 b S1 j v c o k l d=>e.panic a st h F1 b S1 j v c o k l d⟩
variable {J:Pos->St T->Option R}
def zg0 (hm:P.follows .mixedOrders=true) (hp:S0.pin.length<=C.pin) (hE:zb1 T P C.E): ∀(c:Code) (q:Pos) (K:Ks T R) (st:St T) (Q:Exit->Act->World->Prop) (F':PF) (w:World),evC P C n cuts J c q K st=some r->KsOk Q n ds w0 S0 r K->JOk P n ds w0 S0 r J c q Q->zd1 T w0 S0 st F' w->CW P c Q n ds F' w
 | .skip,q,K,st,Q,F',w,h,hK,hJ,hs=>.skip fun a ha=>hK.normal st h F' w hs a ha
 | .region id ops draw,q,K,st,Q,F',w,h,hK,hJ,hs=>by
  obtain ⟨S,φ,hs⟩:=hs;unfold evC at h;cases draw with
  |false=>exact .region (ki4 hE (fun st hst=>hK.normal st hst) hK.panic h hs)
  |true=>
   simp only at h;split at h
   ·exact vk1 hE hm (fun st hst=>hK.normal st hst) hK.panic h hs
   ·split at h
    ·rename_i hB;exact .regionQ hm hB (vk2 hE (fun st hst=>hK.normal st hst) h hs)
    ·cases h
 | .seq x y,q,K,st,Q,F',w,h,hK,hJ,hs=>by
  unfold evC at h;obtain ⟨j1,j2,j3⟩:=hJ;have:=zg0 hm hp hE x _ _ st _ F' w h (hK.behind (X:=y.wp P Q) fun st1 h1 F1 w1 hs1 a ha=>by
   obtain ⟨st2,h2,hs2⟩:=yh9 hp h1 hs1;rcases h2 with h2|h2
   ·exact zg0 hm hp hE y _ _ st2 Q F1 w1 h2 hK j3 hs2 a ha
   ·exact j1 st2 h2 F1 w1 hs2 a ha) j2 hs
  exact fun a ha=>wp_seq (this a ha)
 | .cond c x y,q,K,st,Q,F',w,h,hK,hJ,hs=>by
  unfold evC at h;split at h
  ·rename_i b hc;obtain ⟨S,φ,hs'⟩:=hs;obtain ⟨v,h1,h2⟩:=u0 hs'.fr hc;have:=zh2 h2;subst this;refine .cond b h1 (fun hb=>?_) fun hb=>?_
   ·rcases zo8 h with ⟨_,h⟩|⟨hb',_⟩
    ·exact zg0 hm hp hE x _ K st Q F' w h hK hJ.1 ⟨S,φ,hs'⟩
    ·exact absurd (hb.symm.trans hb') (by simp)
   ·rcases zo8 h with ⟨hb',_⟩|⟨_,h⟩
    ·exact absurd (hb.symm.trans hb') (by simp)
    ·exact zg0 hm hp hE y _ K st Q F' w h hK hJ.2 ⟨S,φ,hs'⟩
  ·cases h
 | .block id c,q,K,st,Q,F',w,h,hK,hJ,hs=>by
  unfold evC at h;exact .block (zg0 hm hp hE c _ _ st _ F' w h (hK.block id) hJ hs)
 | .exit id,q,K,st,Q,F',w,h,hK,hJ,hs=>.exit fun a ha=>hK.exit id st h F' w hs a ha
 | .ret,q,K,st,Q,F',w,h,hK,hJ,hs=>.ret fun a ha=>hK.ret st h F' w hs a ha
 | .loop c,q,K,st,Q,F',w,h,hK,hJ,hs=>by
  unfold evC at h;obtain ⟨st1,h1,hs1⟩:=yh9 hp h hs;rcases h1 with h1|h1
  ·cases h1
  ·exact fun a ha=>qu8 (hJ.1 st1 h1 F' w hs1 a ha)
 | .rangeFunc ..,_,_,_,_,_,_,h,_,_,_=>by unfold evC at h;cases h
 | .scope _,_,_,_,_,_,_,h,_,_,_=>by unfold evC at h;cases h
 | .label _,_,_,_,_,_,_,h,_,_,_=>by unfold evC at h;cases h
 | .goto _,_,_,_,_,_,_,h,_,_,_=>by unfold evC at h;cases h
 | .refuse _,_,_,_,_,_,_,h,_,_,_=>by unfold evC at h;cases h
def JOk.none: ∀(c q Q),JOk P n ds w0 S0 r (fun (_:Pos) (_:St T)=>Option.none) c q Q
 | .seq x y,q,Q=>⟨fun st h=>(by cases h),JOk.none x _ _,JOk.none y _ _⟩
 | .cond _ x y,q,Q=>⟨JOk.none x _ _,JOk.none y _ _⟩
 | .block id c,q,Q=>JOk.none c _ _
 | .loop c,q,Q=>⟨fun st h=>(by cases h),JOk.none c _ _⟩
 | .skip,_,_=>trivial
 | .region ..,_,_=>trivial
 | .exit _,_,_=>trivial
 | .ret,_,_=>trivial
 | .rangeFunc ..,_,_=>trivial
 | .scope _,_,_=>trivial
 | .label _,_,_=>trivial
 | .goto _,_,_=>trivial
 | .refuse _,_,_=>trivial
def JOk.next (i:P.follows .mixedOrders=true) (e:S0.pin.length<=C.pin) (j:zb1 T P C.E) {v L M} (d: ∀q st,M q st=qw5 P C n cuts J v [] L q.reverse st):
  ∀(c q K Q),(∀s st,qw5 P C n cuts J v [] L (q.reverse++s) st=qw5 P C n cuts J c q K s st)->KsOk Q n ds w0 S0 r K->JOk P n ds w0 S0 r J c q Q->JOk P n ds w0 S0 r M c q Q
 | .seq x y,q,K,Q,b,f,o=>by
  obtain ⟨A,z,B⟩:=o;have k:KsOk (Exit.then (y.wp P Q) Q) n ds w0 S0 r (K.behind fun st=>vf5 C.pin (jp2 cuts q) st (J q) (evC P C n cuts J y (true::q) K)):=f.behind (X:=y.wp P Q) fun D G F1 p u a t=>by
   obtain ⟨l,g,m⟩:=yh9 e G u;rcases g with g|g
   ·exact zg0 i e j y _ _ l Q F1 p g f B m a t
   ·exact A l g F1 p m a t
  refine ⟨?_,JOk.next i e j d x _ _ _ (fun s st=>?_) k z,JOk.next i e j d y _ _ _ (fun s st=>?_) f B⟩
  ·intro st h F1 p I a t;rw [d,<-List.append_nil q.reverse,b] at h;exact zg0 i e j y _ _ st Q F1 p h f B I a t
  ·rw [T1,Q2];exact b _ st
  ·rw [T1,Q2];exact b _ st
 | .cond _ x y,q,K,Q,b,f,o=>by
  refine ⟨JOk.next i e j d x _ _ _ (fun s st=>?_) f o.1,JOk.next i e j d y _ _ _ (fun s st=>?_) f o.2⟩
  ·rw [T1,Q2];exact b _ st
  ·rw [T1,Q2];exact b _ st
 | .block id c,q,K,Q,b,f,o=>by
  refine JOk.next i e j d c _ _ _ (fun s st=>?_) (f.block id) o;rw [T1,Q2];exact b _ st
 | .loop c,q,K,Q,b,f,o=>by
  obtain ⟨A,z⟩:=o;have k:KsOk (Exit.then (lwp P c Q) Q) n ds w0 S0 r (K.behind fun st=>vf5 C.pin (jp2 cuts q) st (J q) fun _=>Option.none):=f.behind (X:=lwp P c Q) fun D G F1 p u a t=>by
   obtain ⟨l,g,m⟩:=yh9 e G u;rcases g with g|g
   ·cases g
   ·exact A l g F1 p m a t
  refine ⟨?_,JOk.next i e j d c _ _ _ (fun s st=>?_) k z⟩
  ·intro st h F1 p I a t;rw [d,<-List.append_nil q.reverse,b] at h;exact ui2 (zg0 i e j c _ _ st _ F1 p h k z I a t)
  ·rw [T1,Q2];exact b _ st
 | .skip,_,_,_,_,_,_=>trivial
 | .region ..,_,_,_,_,_,_=>trivial
 | .exit _,_,_,_,_,_,_=>trivial
 | .ret,_,_,_,_,_,_=>trivial
 | .rangeFunc ..,_,_,_,_,_,_=>trivial
 | .scope _,_,_,_,_,_,_=>trivial
 | .label _,_,_,_,_,_,_=>trivial
 | .goto _,_,_,_,_,_,_=>trivial
 | .refuse _,_,_,_,_,_,_=>trivial
def JOk.run (d:P.follows .mixedOrders=true) (e:S0.pin.length<=C.pin) (f:zb1 T P C.E) {b c Q} (g:KsOk Q n ds w0 S0 r c): ∀m:Nat,JOk P n ds w0 S0 r (Go.X.run P C n cuts b c m) b [] Q
 |0=>JOk.none b [] Q
 |m+1=>JOk.next d e f (fun _ _=>rfl) b [] c Q (fun _ _=>rfl) g (JOk.run d e f g m)
end
end Go.X
namespace Go.X
open Go.RowKit Go.V
section
variable (T:Tab)
def kp3 (m:Nat):List Nat->List (AV T.U)->List (Ent T.U)->Option (List (AV T.U)×List (Ent T.U))
 | [],aS,H=>some (aS,H)
 |j::r,aS,H=>match aS[j]? with
  |some (.asl i o sz n lo k)=>match H[i]? with
   |some (.blk e [b])=>match jg9 b with
    |some ⟨t,n',xs⟩=>match Nat.beq o 0&&(Nat.beq lo 0&&(Nat.beq n' n&&(Nat.beq k n&&(Nat.beq sz (szT T t)&&(Nat.ble n 9223372036854775807&&Nat.ble 1 n&&(Nat.ble m i&&(!(zu7 i (za1 (aS.set j (.raw undef))))&&H.all fun e=> !(zu7 i e.cellIds)))))))) with
     |true=>kp3 m r (aS.set j (.own i)) (H.set i (.row e t xs))
     |false=>none
    |none=>none
   |_=>none
  |some _=>kp3 m r aS H
  |none=>none
structure Zw where
 w:List Nat
 z:List (Nat×Ty)
end
section
variable {T:Tab} {w:World} {S:List Nat} {w0:World} {S0:Ow} {F':PF}
def yi2 {m:Nat} (hm:S0.pin.length<=m): ∀(l:List Nat) {aS aS':List (AV T.U)} {us:List Value} {H H':List (Ent T.U)} {φ:Nat->RA},kp3 T m l aS H=some (aS',H')->Sim T w0 S0 ⟨[],H⟩ F' w S φ->VRL T w S φ aS us->(∀i∈za1 aS,i<H.length)->
  ∃φ',Sim T w0 S0 ⟨[],H'⟩ F' w S φ'/\VRL T w S φ' aS' us/\ ∀i∈za1 aS',i<H'.length
 | [],aS,aS',us,H,H',φ,h,hs,hv,hid=>by
  simp only [kp3,X0,X7] at h;obtain ⟨rfl,rfl⟩:=h;exact ⟨φ,hs,hv,hid⟩
 |j::r,aS,aS',us,H,H',φ,h,hs,hv,hid=>by
  unfold kp3 at h;split at h
  ·rename_i i o sz n lo k hasj;split at h<;>try (cases h;done)
   rename_i e b hi;split at h<;>try (cases h;done)
   rename_i t n' xs hb;have:=zu3 hb;subst this;split at h<;>try (cases h;done)
   rename_i hc;simp only [X3,V7] at hc;obtain ⟨c1,c2,c3,c4,c5,c6,c7,c8,c9⟩:=hc;have:=X1 c1;subst this;have:=X1 c2;subst this;have:=X1 c3;subst this;have:=X1 c4;subst this;have:=X1 c5;subst this;have c60:=Y1 c6.2;have c6:=Y1 c6.1;have c7:=Y1 c7;have hil:=(X2.1 hi).1;obtain ⟨g,c,a1,a2,a3,a4,a5⟩:=hs.ents i _ hi;have hlen:xs.length=k:=a5.1;have hcr:CellsR T w S (xs.flatMap (zc6 T t)) c.toList:=by
    have:=a4;rw [zj2,zj2,V5] at this;exact VRL.cells.1 this
   have hsz:c.size=k*szT T t:=by
    have:=hcr.1;rw [flatMap_lenT (za9 T t),hlen] at this;simpa using this.symm
   let φ':Nat->RA:=yd4 φ i ⟨some ⟨g,0,none⟩,k,k,(φ i).xs⟩
   have hφ: ∀q,q≠i->φ' q=φ q:=fun q hq=>zj9 hq;have had: ∀q,(φ' q).ad=(φ q).ad:=fun q=>by
    by_cases hq:q=i
    ·subst hq;show (yd4 φ q _ q).ad=_;rw [za8];exact a1.symm
    ·rw [hφ q hq]
   have hat: ∀ {q:Nat} {z:Addr},At (φ' q) z->At (φ q) z:=fun {q z} hz=>by
    rcases hz with hz|hz
    ·exact .inl (by rw [<-had];exact hz)
    ·right;by_cases hq:q=i
     ·subst hq;have hx:(yd4 φ q ⟨some ⟨g,0,none⟩,k,k,(φ q).xs⟩ q).xs=(φ q).xs:=by rw [za8]
      exact hx▸hz
     ·rw [<-hφ q hq];exact hz
   have hne: ∀(q:Nat) (f:Ent T.U),H[q]?=some f->i∉f.cellIds:=fun q f hf hm=>by
    have:=Y8.1 c9 f (X6 hf);rw [zc9.2 hm] at this;cases this
   have hs':Sim T w0 S0 ⟨[],H.set i (.row e t xs)⟩ F' w S φ':=by
    have get: ∀(q:Nat) (f:Ent T.U),(H.set i (.row e t xs))[q]?=some f->(q=i/\f=.row e t xs)\/(q≠i/\H[q]?=some f):=by
     intro q f hf;by_cases hq:q=i
     ·subst hq;rw [Q0 hil] at hf;exact .inl ⟨rfl,(X5 hf).symm⟩
     ·rw [Z5 (Ne.symm hq)] at hf;exact .inr ⟨hq,hf⟩
    refine ⟨fun q a ha=>by simp [AF.get] at ha,fun q a ha=>by simp [AF.get] at ha,hs.chg,hs.own,hs.ex,?_,fun q r hk=>?_,?_,?_,?_⟩
    ·intro q f hf hl z hz
     replace hz:=hat hz
     rcases get q f hf with ⟨hq,hf'⟩|⟨_,hf'⟩
     ·rw [hq] at hz;exact hs.lives i _ hi rfl z hz
     ·exact hs.lives q f hf' hl z hz
    ·obtain ⟨q1,q2⟩:=hs.pins q r hk;have hlt:=(X2.1 hk).1;exact ⟨by rw [hφ q (by omega)];exact q1,by simpa using q2⟩
    ·intro q f hf;rcases get q f hf with ⟨rfl,rfl⟩|⟨hq,hf⟩
     ·refine ⟨0,c.toList,?_,?_,U8 _,hcr,fun a ha=>?_⟩
      ·show Own w 0 e (szT T t) (yd4 φ q _ q).ad (yd4 φ q _ q).n (yd4 φ q _ q).cap c.toList;rw [za8];exact Own.ofBlk a2 (U8 _) (W6 _) c6 (Nat.le_of_eq hsz.symm) _ (Q4 (by simp [hsz]))
      ·show (yd4 φ q _ q).n=_;rw [za8];exact hlen.symm
      ·rw [had,a1] at ha;simp only [X0] at ha;subst ha;exact a3
     ·exact (hs.ents q f hf).phiE (hφ q hq) fun x hx=>.of (hφ x fun e=>hne q f hf (e▸hx))
    ·intro q f hf x hx;rcases get q f hf with ⟨rfl,rfl⟩|⟨_,hf⟩
     ·cases hx
     ·have:=hs.eids q f hf x hx;simpa using this
    ·intro q q' f f' hf hf' hl hl' hqq z z' hz hz'
     replace hz:=hat hz;replace hz':=hat hz'
     have lv: ∀(q:Nat) (f:Ent T.U),(H.set i (.row e t xs))[q]?=some f->f.live=true-> ∃f0,H[q]?=some f0/\f0.live=true:=by
      intro q f hf hl;rcases get q f hf with ⟨hq,_⟩|⟨_,hf⟩
      ·rw [hq];exact ⟨_,hi,rfl⟩
      ·exact ⟨f,hf,hl⟩
     obtain ⟨f0,k1,k2⟩:=lv q f hf hl;obtain ⟨f0',k1',k2'⟩:=lv q' f' hf' hl';exact hs.apart q q' f0 f0' k1 k1' k2 k2' hqq z z' hz hz'
   obtain ⟨v,hv1,hv2⟩:=hv.get T hasj;have hnot:i∉za1 (aS.set j (.raw undef)):=fun hm=>by rw [zc9.2 hm] at c8;cases c8
   have hvs:VRL T w S φ' (aS.set j (.own i)) us:=by
    have h1:=(hv.set T j (a:=.raw undef) (v:=undef) (by rw [VR])).phi (φ':=φ') fun q hq=>hφ q fun e=>hnot (e▸hq);have h2:=h1.set T j (a:=.own i) (v:=v) (by
     obtain ⟨g',ad,p1,rfl,p2,p3⟩:=hv2;rw [a1] at p1;simp only [X0,Addr.mk.injEq,and_true] at p1;subst p1;rw [VR];show _=Value.slice (yd4 φ i _ i).ad (yd4 φ i _ i).n (yd4 φ i _ i).cap;rw [za8];rcases p3 with p3|p3
     ·omega
     ·subst p3;simp)
    rw [List.set_set,List.set_set] at h2;rwa [show us.set j v=us by
     obtain ⟨hlt,hg⟩:=X2.1 hv1;rw [<-hg,N1]] at h2
   exact yi2 hm r h hs' hvs (by
    intro q hq;obtain ⟨a,ha1,ha2⟩:=zu6 hq;rcases N4 ha1 with ha1|ha1
    ·have:=hid q (zi2 ha1 q ha2);simpa using this
    ·subst ha1;simp [AV.ids] at ha2;subst ha2;simpa using hil)
  ·exact yi2 hm r h hs hv hid
  ·cases h
end
inductive PT where
 |val (t:Ty)
 |io (e:TypeId) (t:Ty)
inductive RT where
 |val (t:Ty)
 |own (e:TypeId) (t:Ty)
 |part (k:Nat)
section
variable (T:Tab)
def RT.scal:RT->Bool
 | .val t=>jk0 T t
 | .own _ t=>jk0 T t
 | .part _=>true
def jm4:List RT->Bool| []=>true|t::r=>t.scal T&&jm4 r
def qRs:List RT->Bool| []=>true| .val t::r=>jk0 T t&&qRs r|_::_=>false
def yo5:PT->Type
 | .val t=>den T.U t
 | .io _ t=>List (den T.U t)
def zr4:List PT->Type
 | []=>Unit
 | [t]=>yo5 T t
 |t::s::r=>yo5 T t×zr4 (s::r)
def qc4:RT->Type
 | .val t=>den T.U t
 | .own _ t=>List (den T.U t)
 | .part _=>Nat×Nat
def zp7:List RT->Type
 | []=>Unit
 | [t]=>qc4 T t
 |t::s::r=>qc4 T t×zp7 (s::r)
def zc5:List PT->List (TypeId×Ty)
 | []=> []
 | .val _::r=>zc5 r
 | .io e t::r=>(e,t)::zc5 r
def zt8:List (TypeId×Ty)->Type->Type
 | [],B=>B
 |(_,t)::r,B=>List (den T.U t)×zt8 r B
def PT.cnt:PT->Nat| .val _=>0| .io _ _=>1
def avP (k:Nat):(t:PT)->yo5 T t->AV T.U
 | .val t,x=>zp6 T t x
 | .io _ _,_=>.own k
def yo2 (k:Nat):(ps:List PT)->zr4 T ps->List (AV T.U)
 | [],_=> []
 | [t],x=> [avP T k t x]
 |t::s::r,x=>avP T k t x.1::yo2 (k+t.cnt) (s::r) x.2
def jz4:(t:PT)->yo5 T t->List (Ent T.U)
 | .val _,_=> []
 | .io e t,xs=> [.row e t xs]
def zw7:(ps:List PT)->zr4 T ps->List (Ent T.U)
 | [],_=> []
 | [t],x=>jz4 T t x
 |t::s::r,x=>jz4 T t x.1++zw7 (s::r) x.2
def rdIn (H:List (Ent T.U)):(t:PT)->AV T.U->Option (yo5 T t)
 | .val t,a=>qa5 T t a
 | .io e t,a=>rdOwnI H e t a
where
 rdOwnI (H:List (Ent T.U)) (e:TypeId) (t:Ty):AV T.U->Option (List (den T.U t))
  | .own i=>match H[i]? with
   |some (.row e' t' xs)=>match Nat.beq e' e with|true=>(if h:t'=t then some (h▸xs) else none)|false=>none
   |_=>none
  |_=>none
def zo0:List PT->List (AV T.U)->List Nat
 | .io _ _::r,.own i::aS=>i::zo0 r aS
 |_::r,_::aS=>zo0 r aS
 |_,_=> []
def kp5 (H:List (Ent T.U)):(ps:List PT)->List (AV T.U)->Option (zr4 T ps)
 | [],[]=>some ()
 | [t],[a]=>rdIn T H t a
 |t::s::r,a::aS=>match rdIn T H t a,kp5 H (s::r) aS with|some x,some y=>some (x,y)|_,_=>none
 |_,_=>none
def jr8 {R:Type} (H:List (Ent T.U)):(t:PT)->AV T.U->(yo5 T t->Option R)->Option R
 | .val t,a,K=>rdF T H t a K
 | .io _ _,_,_=>none
def jj9 {R:Type} (H:List (Ent T.U)):(ps:List PT)->List (AV T.U)->(zr4 T ps->Option R)->Option R
 | [],[],K=>K ()
 | [t],[a],K=>jr8 T H t a K
 |t::s::r,a::aS,K=>jr8 T H t a fun x=>jj9 H (s::r) aS fun y=>K (x,y)
 |_,_,_=>none
def gt9 (H:List (Ent T.U)) (e:TypeId) (t:Ty):AV T.U->Option (List (den T.U t))
 | .own i=>match H[i]? with
  |some (.row a b xs)=>match Nat.beq a e with|true=>(if h:b=t then some (h▸xs) else none)|false=>none
  |_=>none
 | .sl i sz 0 n=>match H[i]? with
  |some (.row a b xs)=>match Nat.beq a e,Nat.beq sz (szT T t) with|true,true=>(if h:b=t then (if n<=xs.length then some ((h▸xs:List (den T.U t)).take n) else none) else none)|_,_=>none
  |_=>none
 | .raw (.slice none 0 0)=>some []
 |_=>none
def vq5 (H:List (Ent T.U)) (k:Nat):AV T.U->Option (Nat×Nat)
 | .own i=>match Nat.beq i k,H[i]? with|true,some (.row _ _ xs)=>some (0,xs.length)|_,_=>none
 | .sl i sz o n=>match Nat.beq i k,H[i]? with|true,some (.row _ t _)=>(match Nat.beq sz (szT T t) with|true=>some (o,n)|false=>none)|_,_=>none
 |_=>none
def rdR (H:List (Ent T.U)):(t:RT)->AV T.U->Option (qc4 T t)
 | .val t,a=>qa5 T t a
 | .own e t,a=>gt9 T H e t a
 | .part k,a=>vq5 T H k a
def qm7 (H:List (Ent T.U)):(rs:List RT)->List (AV T.U)->Option (zp7 T rs)
 | [],[]=>some ()
 | [t],[a]=>rdR T H t a
 |t::s::r,a::aS=>match rdR T H t a,qm7 H (s::r) aS with|some x,some y=>some (x,y)|_,_=>none
 |_,_=>none
def rdIo {a:Type} (H:List (Ent T.U)) (B:Option a):(ios:List (TypeId×Ty))->Nat->Option (zt8 T ios a)
 | [],_=>B
 |(e,t)::r,k=>match rdAt H e t k,rdIo H B r (k+1) with|some xs,some y=>some (xs,y)|_,_=>none
where
 rdAt (H:List (Ent T.U)) (e:TypeId) (t:Ty) (k:Nat):Option (List (den T.U t)):=
  match H[k]? with
  |some (.row e' t' xs)=>match Nat.beq e' e with|true=>(if h:t'=t then some (h▸xs) else none)|false=>none
  |_=>none
def avR (ids:List Nat) (ios:List (TypeId×Ty)) (b:Nat):(t:RT)->qc4 T t->AV T.U
 | .val t,x=>zp6 T t x
 | .own _ _,_=>.own b
 | .part k,x=>.sl (ids.getD k 0) (szT T (ios.getD k (0,.bool)).2) x.1 x.2
def entR:(t:RT)->qc4 T t->List (Ent T.U)
 | .val _,_=> []
 | .own e t,xs=> [.row e t xs]
 | .part _,_=> []
def RT.cnt:RT->Nat| .own _ _=>1|_=>0
def jh0 (ids:List Nat) (ios:List (TypeId×Ty)) (b:Nat):(rs:List RT)->zp7 T rs->List (AV T.U)
 | [],_=> []
 | [t],x=> [avR T ids ios b t x]
 |t::s::r,x=>avR T ids ios b t x.1::jh0 ids ios (b+t.cnt) (s::r) x.2
def qc5:(rs:List RT)->zp7 T rs->List (Ent T.U)
 | [],_=> []
 | [t],x=>entR T t x
 |t::s::r,x=>entR T t x.1++qc5 (s::r) x.2
def yl1 {a:Type}:(ios:List (TypeId×Ty))->zt8 T ios a->List (Ent T.U)
 | [],_=> []
 |(e,t)::r,x=>.row e t x.1::yl1 r x.2
def yl5 {a:Type}:(ios:List (TypeId×Ty))->zt8 T ios a->a
 | [],x=>x
 |_::r,x=>yl5 r x.2
def zh0 (H:List (Ent T.U)):List Nat->List (Ent T.U)->List (Ent T.U)
 |i::r,e::es=>zh0 (H.set i e) r es
 |_,_=>H
def zl6:List (AV T.U)->AV T.U
 | [a]=>a
 |aS=>.tup aS
def jq3:RT->AV T.U->List Nat
 | .own _ _,.own i=> [i]
 | .own _ _,.sl i _ _ _=> [i]
 |_,_=> []
def zw5:List RT->List (AV T.U)->List Nat
 |t::r,a::aS=>jq3 T t a++zw5 r aS
 |_,_=> []
end
section
variable {T:Tab} {P:Program} {w w':World} {S S':List Nat} {φ φ':Nat->RA} {w0:World} {S0:Ow} {F:AF T} {H:List (Ent T.U)} {F':PF}
def vb9 {t a x} (h:rdIn T H t a=some x) {v} (b:VR T w S φ a v) {φ' k} (c: ∀i,(∃e u,t=.io e u)->a=.own i->φ' k=φ i):VR T w S φ' (avP T k t x) v:=by
 cases t with
 |val t=>exact yg8 h b φ'
 |io e t=>
  cases a<;>try (cases h;done)
  rename_i i;rw [VR] at b;subst b;simp only [avP];rw [VR,c i ⟨e,t,rfl⟩ rfl]
def jo5 (t:PT) (r:List PT) (a:AV T.U) (aS:List (AV T.U)):zo0 T (t::r) (a::aS)=zo0 T [t] [a]++zo0 T r aS:=by
 cases t with
 |val t=>cases a<;>rfl
 |io e t=>cases a<;>rfl
def gd7: ∀ {ps:List PT} {aS:List (AV T.U)} {x:zr4 T ps},kp5 T H ps aS=some x-> ∀ {vs:List Value},VRL T w S φ aS vs-> ∀ {φ':Nat->RA} {k:Nat},(∀j i,(zo0 T ps aS)[j]?=some i->φ' (k+j)=φ i)->VRL T w S φ' (yo2 T k ps x) vs:=by
 intro ps;induction ps with
 |nil=>
  intro aS x h vs hv φ' k hk
  match aS,h,vs,hv with
  | [],h,[],_=>exact trivial
  |_::_,h,_,_=>cases h
 |cons t q ih=>
  intro aS x h vs hv φ' k hk
  match aS,h,vs,hv with
  | [],h,_,_=>cases q<;>cases h
  |a::aS,h,v::vs,hv=>
   cases q with
   |nil=>
    cases aS with
    |cons _ _=>cases h
    |nil=>
     match vs,hv with
     | [],hv=>
      refine ⟨vb9 h hv.1 fun i ht ha=>?_,trivial⟩;obtain ⟨e,u,rfl⟩:=ht;subst ha;exact hk 0 i rfl
   |cons s q=>
    have h:(match rdIn T H t a,kp5 T H (s::q) aS with|some x,some y=>some (x,y)|_,_=>none)=some x:=h;split at h
    ·rename_i x1 y1 h1 h2;have h:(x1,y1)=x:=X5 h;subst h;rw [jo5] at hk;refine ⟨vb9 h1 hv.1 fun i ht ha=>?_,ih h2 hv.2 fun j i hj=>?_⟩
     ·obtain ⟨e,u,rfl⟩:=ht;subst ha;exact hk 0 i rfl
     ·have hlen:(zo0 T [t] [a]).length=t.cnt:=by
       cases t with
       |val t=>cases a<;>rfl
       |io e t=>cases a<;>first|rfl|(cases h1;done)
      have:=hk (t.cnt+j) i (by rw [Z2 (by omega),hlen,N5];exact hj);rwa [<-Nat.add_assoc] at this
    ·cases h
def qi1 {R:Type} {r:R} {t:PT} {a:AV T.U} {K:yo5 T t->Option R} (h:jr8 T H t a K=some r) (b:yy7 T w S φ H a.ids) {v:Value} (c:VR T w S φ a v) (φ':Nat->RA) (k:Nat): ∃x,K x=some r/\VR T w [] φ' (avP T k t x) v/\t.cnt=0/\jz4 T t x= []:=by
 cases t with
 |val t=>
  obtain ⟨x,d,f⟩:=vx4 (t:=t) h b c φ';exact ⟨x,d,f,rfl,rfl⟩
 |io e t=>cases h
def qi3 {R:Type} {r:R}: ∀ {ps:List PT} {aS:List (AV T.U)} {K:zr4 T ps->Option R},jj9 T H ps aS K=some r->yy7 T w S φ H (za1 aS)-> ∀ {vs:List Value},VRL T w S φ aS vs-> ∀(φ':Nat->RA) (k:Nat),∃x,K x=some r/\VRL T w [] φ' (yo2 T k ps x) vs/\zc5 ps= []/\zw7 T ps x= []:=by
 intro ps;induction ps with
 |nil=>
  intro aS K h hs vs hv φ' k
  match aS,h,vs,hv with
  | [],h,[],_=>exact ⟨(),h,trivial,rfl,rfl⟩
  |_::_,h,_,_=>cases h
 |cons t q ih=>
  intro aS K h hs vs hv φ' k;have hios:t.cnt=0->zc5 (t::q)=zc5 q:=by
   intro hc;cases t with
   |val t=>rfl
   |io e t=>cases hc
  match aS,h,hs,vs,hv with
  | [],h,_,_,_=>cases q<;>cases h
  |a::aS,h,hs,v::vs,hv=>
   cases q with
   |nil=>
    cases aS with
    |cons _ _=>cases h
    |nil=>
     match vs,hv with
     | [],hv=>
      obtain ⟨x,h1,h2,h3,h4⟩:=qi1 (t:=t) h (fun i hi=>hs i (by rw [za1];exact X4.2 (.inl hi))) hv.1 φ' k;exact ⟨x,h1,⟨h2,trivial⟩,hios h3,h4⟩
   |cons s q=>
    have h:jr8 T H t a (fun x=>jj9 T H (s::q) aS fun y=>K (x,y))=some r:=h;obtain ⟨x,h1,h2,h3,h4⟩:=qi1 h (fun i hi=>hs i (by rw [za1];exact X4.2 (.inl hi))) hv.1 φ' k;obtain ⟨y,h5,h6,h7,h8⟩:=ih h1 (fun i hi=>hs i (by rw [za1];exact X4.2 (.inr hi))) hv.2 φ' (k+t.cnt);refine ⟨(x,y),h5,⟨h2,h6⟩,(hios h3).trans h7,?_⟩;show jz4 T t x++zw7 T (s::q) y= [];rw [h4,h8];rfl
def qi2 {R:Type} {r:R}: ∀ {ps:List PT} {aS:List (AV T.U)} {K:zr4 T ps->Option R},jj9 T H ps aS K=some r-> ∃x,K x=some r/\ ∀ {R':Type} (K':zr4 T ps->Option R'),jj9 T H ps aS K'=K' x:=by
 have one: ∀ {R:Type} {r:R} {t:PT} {a:AV T.U} {K:yo5 T t->Option R},jr8 T H t a K=some r-> ∃x,K x=some r/\ ∀ {R':Type} (K':yo5 T t->Option R'),jr8 T H t a K'=K' x:=by
  intro R r t a K h;cases t with
  |val t=>exact jr7 (t:=t) h
  |io e t=>cases h
 intro ps;induction ps with
 |nil=>
  intro aS K h
  match aS,h with
  | [],h=>exact ⟨(),h,fun K'=>rfl⟩
  |_::_,h=>cases h
 |cons t q ih=>
  intro aS K h
  match aS,h with
  | [],h=>cases q<;>cases h
  |a::aS,h=>
   cases q with
   |nil=>
    cases aS with
    |cons _ _=>cases h
    |nil=>exact one (t:=t) h
   |cons s q=>
    have h:jr8 T H t a (fun x=>jj9 T H (s::q) aS fun y=>K (x,y))=some r:=h;obtain ⟨x,h1,h2⟩:=one h;obtain ⟨y,h3,h4⟩:=ih h1;refine ⟨(x,y),h3,fun K'=>?_⟩;show jr8 T H t a (fun x=>jj9 T H (s::q) aS fun y=>K' (x,y))=K' (x,y);rw [h2,h4]
end
end Go.X
namespace Go.X
open Go.RowKit Go.V
structure FnSpec (T:Tab) where
 ps:List PT
 rs:List RT
 g:zr4 T ps->Option (zt8 T (zc5 ps) (zp7 T rs))
def ye2:List Value->Value
 | [v]=>v
 |l=>.tuple l.toArray
def zd8 (φ:Nat->RA) (n:Nat):List Nat:=(List.range n).flatMap fun k=>(φ k).all
def yc9 (n:Nat):List RT->Bool| []=>true| .part k::r=>Nat.blt k n&&yc9 n r|_::r=>yc9 n r
section
variable (T:Tab) (P:Program)
def vr3 (f:FuncId) (sp:FnSpec T):Prop:= ∀x y,sp.g x=some y-> ∀(w:World) (S:List Nat) (φ:Nat->RA) (vs:List Value),VRL T w S φ (yo2 T 0 sp.ps x) vs->(∀b∈S,b<w.heap.size)->
 (∀k e,(zw7 T sp.ps x)[k]?=some e->EntR T w S φ k e)->(∀k,k<(zc5 sp.ps).length-> ∀a,At (φ k) a->a.block∈S)->(∀j k,j<(zc5 sp.ps).length->k<(zc5 sp.ps).length->j≠k-> ∀a b,At (φ j) a->At (φ k) b->a.block≠b.block)->
 Calls P f vs.toArray w fun e w'=>match e with
  | .returned v=> ∃(F1:AF T) (H1:List (Ent T.U)) (F1':PF) (S1:List Nat) (φ1:Nat->RA) (aS:List (AV T.U)) (us:List Value),Sim T w ⟨zd8 φ (zc5 sp.ps).length,S,(List.range (zc5 sp.ps).length).map φ⟩ ⟨F1,H1⟩ F1' w' S1 φ1/\VRL T w' S1 φ1 aS us/\v=ye2 us/\
    rdIo T H1 (qm7 T H1 sp.rs aS) (zc5 sp.ps) 0=some y/\ze4 (zw5 T sp.rs aS)=true/\ ∀i∈zw5 T sp.rs aS,(zc5 sp.ps).length<=i
  |_=>False
def FnSpec.toCall {T:Tab} (sp:FnSpec T):CallSpec T where
 call:=fun aS H K _=>match kp5 T H sp.ps aS with
  |some x=>match ze4 (zo0 T sp.ps aS)&&yc9 (zo0 T sp.ps aS).length sp.rs with
   |true=>j6 (sp.g x) fun y=>K (zl6 T (jh0 T (zo0 T sp.ps aS) (zc5 sp.ps) H.length sp.rs (yl5 T (zc5 sp.ps) y))) (zh0 T H (zo0 T sp.ps aS) (yl1 T (zc5 sp.ps) y)++qc5 T sp.rs (yl5 T (zc5 sp.ps) y))
   |false=>none
  |none=>match jm4 T sp.rs&&yc9 0 sp.rs with
   |true=>jj9 T H sp.ps aS fun x=>j6 (sp.g x) fun y=>K (zl6 T (jh0 T [] [] H.length sp.rs (yl5 T (zc5 sp.ps) y))) (H++qc5 T sp.rs (yl5 T (zc5 sp.ps) y))
   |false=>none
 q:=fun aS H K=>match qRs T sp.rs with
  |true=>jj9 T H sp.ps aS fun x=>j6 (sp.g x) fun y=>K (zl6 T (jh0 T [] [] 0 sp.rs (yl5 T (zc5 sp.ps) y)))
  |false=>none
 isq:=qRs T sp.rs
 wr:=fun aS H=>match kp5 T H sp.ps aS with|some _=>zo0 T sp.ps aS|none=> []
def yd6:List (AV T.U)->Nat->AF T
 | [],_=> []
 |a::r,i=>(i,a)::yd6 r (i+1)
def qb5 (st:St T):List ResultVar->Option (List (AV T.U))
 | []=>some []
 | .tmp t::r=>match st.F.get T t,qb5 st r with|some a,some l=>some (a::l)|_,_=>none
 | .cell c t::r=>match st.F.get T c,qb5 st r with
  |some (.ptr i o),some l=>match st.H[i]? with
   |some (.blk _ cs)=>match jj3 T P t cs o with|some a=>some (a::l)|none=>none
   |_=>none
  |_,_=>none
def gj1 (ps:List PT) (rs:List RT) (aS:List (AV T.U)) (H:List (Ent T.U)):Option (zt8 T (zc5 ps) (zp7 T rs)):=
 match ze4 (zw5 T rs aS)&&(zw5 T rs aS).all (fun i=>Nat.ble (zc5 ps).length i) with
 |true=>rdIo T H (qm7 T H rs aS) (zc5 ps) 0
 |false=>none
def kl8 (fn:Func) (z:Zw) (ps:List PT) (rs:List RT) (st:St T):Option (zt8 T (zc5 ps) (zp7 T rs)):=
 match qb5 T P st fn.results.toList with
 |some aS=>match kp3 T (zc5 ps).length z.w aS st.H with
  |some (as1,H1)=>gw6 T z.z as1 H1 (gj1 T ps rs)
  |none=>none
 |none=>none
def kl9 (fn:Func) (z:Zw) (ps:List PT) (rs:List RT):Ks T (zt8 T (zc5 ps) (zp7 T rs)):=⟨kl8 T P fn z ps rs,fun _ _=>none,kl8 T P fn z ps rs,fun _ _=>none⟩
noncomputable def topF (C:Ctx T) (a:List (Pos×Cut)) (fn:Func) (c:Code) (z:Zw) (ps:List PT) (rs:List RT) (m:Nat) (x:zr4 T ps):Option (zt8 T (zc5 ps) (zp7 T rs)):=
 evC P C fn.ntmps a (run P C fn.ntmps a c (kl9 T P fn z ps rs) m) c [] (kl9 T P fn z ps rs) ⟨yd6 T (yo2 T 0 ps x) 0,zw7 T ps x⟩
noncomputable def cutF (C:Ctx T) (a:List (Pos×Cut)) (fn:Func) (c:Code) (z:Zw) (ps:List PT) (rs:List RT) (m:Nat) (q:Pos) (st:St T):Option (zt8 T (zc5 ps) (zp7 T rs)):=
 run P C fn.ntmps a c (kl9 T P fn z ps rs) m q st
end
section
variable {T:Tab} {P:Program} {w w':World} {S S':List Nat} {φ φ':Nat->RA} {w0:World} {S0:Ow} {F:AF T} {H:List (Ent T.U)} {F':PF}
def zb2: ∀(ids es H),(zh0 T H ids es).length=H.length
 | [],_,H=>by simp [zh0]
 |_::_,[],H=>by simp [zh0]
 |i::r,e::es,H=>by rw [zh0,zb2 r es];simp
def zh3 {j:Nat} {f:Ent T.U}: ∀(ids:List Nat) (es:List (Ent T.U)) (H:List (Ent T.U)),es.length=ids.length->(zh0 T H ids es)[j]?=some f->(∃k:Nat,ids[k]?=some j/\es[k]?=some f)\/(j∉ids/\H[j]?=some f)
 | [],[],H,_,h=>.inr ⟨by simp,by simpa [zh0] using h⟩
 | [],_::_,_,hl,_=>by simp at hl
 |_::_,[],_,hl,_=>by simp at hl
 |i::r,e::es,H,hl,h=>by
  rw [zh0] at h;rcases zh3 r es _ (by simpa using hl) h with ⟨k,h1,h2⟩|⟨h1,h2⟩
  ·exact .inl ⟨k+1,by simpa using h1,by simpa using h2⟩
  ·by_cases hji:j=i
   ·subst hji;have hlt:j<H.length:=by have:=(X2.1 h2).1;simpa using this
    rw [Q0 hlt] at h2;exact .inl ⟨0,rfl,by simpa using h2⟩
   ·grind
def Sim.io (h:Sim T w0 S0 ⟨F,H⟩ F' w S φ) {Tc} (M:Chg Tc w w') {S1} (Q: ∀b∈S,b∉Tc->b<w.heap.size->b∈S1) (h2: ∀b∈S1,b∈S\/(w.heap.size<=b/\b<w'.heap.size)) {ids es} (p:es.length=ids.length)
  (K: ∀b∈Tc,∃i∈ids,∃a,At (φ i) a/\a.block=b) (R: ∀i∈ids,∀a,At (φ i) a->a.block∈S1) (o: ∀(k i:Nat),ids[k]?=some i-> ∃(e:TypeId) (t:Ty) (xs ys:List (den T.U t)),H[i]?=some (.row e t xs)/\es[k]?=some (.row e t ys)/\EntR T w' S1 φ i (.row e t ys)):Sim T w0 S0 ⟨F,zh0 T H ids es⟩ F' w' S1 φ:=by
 have hS: ∀b∈S1,b∈S\/w.heap.size<=b:=fun b m=>(h2 b m).imp id And.left;have g: ∀i∈ids,∃(k:Nat) (e:TypeId) (t:Ty) (xs ys:List (den T.U t)),ids[k]?=some i/\H[i]?=some (.row e t xs)/\es[k]?=some (.row e t ys)/\EntR T w' S1 φ i (.row e t ys):=by
  intro i u;obtain ⟨k,N⟩:=Y9.1 u;obtain ⟨e,t,xs,ys,a,b,c⟩:=o k i N;exact ⟨k,e,t,xs,ys,N,a,b,c⟩
 have L: ∀b∈Tc,b∈S:=by
  intro b m;obtain ⟨i,u,a,l,rfl⟩:=K b m;obtain ⟨_,e,t,xs,ys,_,n,_⟩:=g i u;exact zi5 h n rfl l
 have D: ∀(j:Nat) (f:Ent T.U),(zh0 T H ids es)[j]?=some f-> ∃E,H[j]?=some E/\(f.live=true->E.live=true):=by
  intro j f z;rcases zh3 ids es H p z with ⟨k,n,d⟩|⟨_,d⟩
  ·obtain ⟨e,t,xs,ys,a,_,_⟩:=o k j n;exact ⟨_,a,fun _=>rfl⟩
  ·exact ⟨f,d,id⟩
 refine ⟨?_,?_,?_,?_,fun b m A B=>Q b (h.ex b m A B) (fun hm=>by
   obtain ⟨i,u,a,l,rfl⟩:=K b hm;obtain ⟨_,e,t,xs,ys,_,n,_⟩:=g i u;rcases (h.lives i _ n rfl a l).2 with s|s
   ·exact A s
   ·omega) (h.own b (h.ex b m A B)).2,?_,fun k r N=>?_,?_,?_,?_⟩
 ·intro i a l;obtain ⟨v,h3,h4⟩:=h.fr i a l;exact ⟨v,h3,h4.chg T M L hS⟩
 ·intro i a l;obtain ⟨n,d⟩:=h.ids i a l;refine ⟨fun x J=>by simp only [zb2];exact n x J,?_⟩;cases a with
  |eptr y sz k c=>
   intro e1 t1 zs J;rcases zh3 ids es H p J with ⟨k',A,B⟩|⟨_,B⟩
   ·obtain ⟨e,t,xs,ys,a1,b1,c1⟩:=o k' y A;rw [b1] at B;simp only [X0,Ent.row.injEq] at B;obtain ⟨rfl,rfl,q3⟩:=B;have:=eq_of_heq q3;subst this;obtain ⟨q4,q5⟩:=d e t xs a1;obtain ⟨_,_,_,n1,_⟩:=h.ents y _ a1;obtain ⟨_,_,_,n2,_⟩:=c1;exact ⟨by omega,q5⟩
   ·exact d e1 t1 zs B
  |_=>trivial
 ·refine h.chg.step M fun b m=>?_;obtain ⟨i,u,a,l,rfl⟩:=K b m;obtain ⟨_,e,t,xs,ys,_,n,_⟩:=g i u;exact (h.lives i _ n rfl a l).2
 ·intro b m;rcases h2 b m with m|⟨m,V⟩
  ·exact ⟨(h.own b m).1,V3 (h.own b m).2 M.size⟩
  ·exact ⟨.inr (W8 h.chg.size m),V⟩
 ·intro j f z s a l;obtain ⟨E,n,d⟩:=D j f z;have q:=h.lives j E n (d s) a l;refine ⟨?_,q.2⟩;by_cases O:j∈ids
  ·exact R j O a l
  ·refine Q _ q.1 (fun m=>?_) (h.own _ q.1).2;obtain ⟨i,u,W,G,I⟩:=K _ m;obtain ⟨_,e,t,xs,ys,_,A,_⟩:=g i u;exact h.apart j i E _ n A (d s) rfl (fun e=>O (e▸u)) a W l G I.symm
 ·obtain ⟨n,d⟩:=h.pins k r N;exact ⟨n,by simp only [zb2];exact d⟩
 ·intro j f z;rcases zh3 ids es H p z with ⟨k,n,d⟩|⟨O,d⟩
  ·obtain ⟨e,t,xs,ys,a,b,c⟩:=o k j n;rw [b] at d;simp only [X0] at d;subst d;exact c
  ·have C:f.live=true-> ∀a,At (φ j) a->a.block∉Tc:=fun s a l m=>by
    obtain ⟨i,u,W,G,I⟩:=K _ m;obtain ⟨_,e,t,xs,ys,_,A,_⟩:=g i u;exact h.apart j i f _ d A s rfl (fun e=>O (e▸u)) a W l G I.symm
   exact (h.ents j f d).chg T M L hS fun s a l=>⟨C s a l,Q _ (zi5 h d s l) (C s a l) (h.own _ (zi5 h d s l)).2⟩
 ·intro j f z x J;simp only [zb2];rcases zh3 ids es H p z with ⟨k,n,d⟩|⟨_,d⟩
  ·obtain ⟨e,t,xs,ys,a,b,c⟩:=o k j n;rw [b] at d;simp only [X0] at d;subst d;cases J
  ·exact h.eids j f d x J
 ·intro j k f f' z X s Y Z a b l m;obtain ⟨E,n,d⟩:=D j f z;obtain ⟨f0',g1',g2'⟩:=D k f' X;exact h.apart j k E f0' n g1' (d s) (g2' Y) Z a b l m
def Up (T:Tab) (m:Bool) (w:World) (S S1:List Nat):Prop:= ∀(t:Ty) (x:den T.U t) (v:Value),(m=true->t.scal=true)->CR T w S t x v->CR T w S1 t x v
def gp8 {m S1} (a:Up T m w S S1): ∀ {cs:List (Cell T.U)} {vs},(m=true-> ∀c∈cs,c.t.scal=true)->VRL T w S φ (cs.map .cell) vs->VRL T w S1 φ' (cs.map .cell) vs
 | [],[],_,_=>trivial
 | [],_::_,_,h=>h.elim
 |_::_,[],_,h=>h.elim
 |c::r,_::_,b,h=>⟨a _ _ _ (fun e=>b e c (U6 ..)) h.1,gp8 a (fun e c d=>b e c (Z4 _ d)) h.2⟩
def wi7 {m S1} (a:Up T m w S S1) {t x v} (b:m=true->jk0 T t=true) (h:VR T w S φ (zp6 T t x) v):VR T w S1 φ' (zp6 T t x) v:=by
 cases t with
 |user i=>
  obtain ⟨vs,c,d⟩:=h;exact ⟨vs,c,gp8 a (fun e=>T.scals i x (b e)) d⟩
 |int k=>exact a _ _ _ b h
 |bool=>exact a _ _ _ b h
 |str=>exact a _ _ _ b h
 |list e=>exact a _ _ _ b h
 |nl e=>exact a _ _ _ b h
def kb5 {t} (h:jk0 T t=true) (x): ∀c∈zc6 T t x,c.t.scal=true:=by
 cases t with
 |user i=>exact T.scals i x h
 |list e=>cases h
 |nl e=>cases h
 |int k=>intro c a;simp only [zc6,Q5] at a;subst a;rfl
 |bool=>intro c a;simp only [zc6,Q5] at a;subst a;rfl
 |str=>intro c a;simp only [zc6,Q5] at a;subst a;rfl
def gg0 {m S1} (b:Up T m w S S1) {cs vs} (d:m=true-> ∀c∈cs,c.t.scal=true) (h:CellsR T w S cs vs):CellsR T w S1 cs vs:=
 ⟨h.1,fun j c v a f=>b _ _ _ (fun e=>d e c (X6 a)) (h.2 j c v a f)⟩
def yn8 (t x):(zp6 T t x).ids= []:=by
 cases t with
 |user i=>
  show za1 ((T.cells i x).map AV.cell)= [];induction T.cells i x with
  |nil=>rfl
  |cons c r a=>rw [U0,za1,a];rfl
 |_=>rfl
def yw0 (t x):zj5 (zp6 T t x)=true:=by cases t<;>rfl
def kk3 (w:World) (f:List (Ent T.U)) (c:Nat->RA) (used:List Nat) (H:List (Ent T.U)) (φ:Nat->RA):Prop:=
 ∀(j:Nat) (e:Ent T.U),H[j]?=some e->e.live=true-> ∀a,At (φ j) a->a.block<w.heap.size\/ ∃i∈used,(∃d,f[i]?=some d/\d.live=true)/\ ∃b,At (c i) b/\b.block=a.block
def kw0 {B n cap m sz e:Nat} {ad:Option Addr} {cs:List Value} (h:Own w B e sz ad n cap cs) (hm:m<=n):Own w B e sz ad m cap (cs.take (m*sz)):=by
 rcases h.cases with ⟨rfl,hn,rfl,rfl⟩|⟨c,had,hB,hb,hle,hmx,hs,ht⟩
 ·grind
 ·rw [had];refine Own.ofBlk hb hB (by omega) hmx hs _ ?_;rw [<-ht,List.take_take,J5 (Q9 _ hm)]
def kh9 {o e t a y v I p r f c} (G:Sim T w r ⟨I,o⟩ p w' f c) (h:gt9 T o e t a=some y) (k:VR T w' f c a v):
  (y= []/\v=.slice none 0 0)\/ ∃i xs b B,jq3 T (.own e t) a= [i]/\o[i]?=some (.row e t xs)/\v=.slice (c i).ad y.length (c i).cap/\Own w' B e (szT T t) (c i).ad y.length (c i).cap b/\B<=w'.heap.size/\CellsR T w' f (y.flatMap (zc6 T t)) b/\ ∀q,(c i).ad=some q->q.block∈f:=by
 unfold gt9 at h;split at h
 ·rename_i i;split at h
  ·rename_i J d xs l;split at h
   ·rename_i g;have:=X1 g;subst this;split at h
    ·rename_i j;subst j;have h:xs=y:=X5 h;subst h;obtain ⟨B,b,m,s,u,x,z⟩:=G.ents i _ l;rw [VR] at k;subst k;rw [s] at m⊢;exact .inr ⟨i,xs,b,B,rfl,l,rfl,m,u,x,z⟩
    ·cases h
   ·cases h
  ·cases h
 ·rename_i i sz n;split at h
  ·rename_i J d xs l;split at h
   ·rename_i g A;have:=X1 g;subst this;have:=X1 A;subst this;split at h
    ·rename_i j;subst j;split at h
     ·rename_i C;have h:xs.take n=y:=X5 h;subst h;obtain ⟨B,b,m,s,u,x,z⟩:=G.ents i _ l;obtain ⟨ad,rfl,_,_,_,K⟩:=k;have:=K rfl;subst this;rw [s] at m;have D:(xs.take n).length=n:=by rw [Y6];omega
      refine .inr ⟨i,xs,b.take (n*szT T d),B,rfl,l,by rw [D];rfl,?_,u,?_,z⟩
      ·rw [D];exact kw0 m C
      ·have:=x.cut 0 (n*szT T d);rw [N6,N6] at this;have L:(xs.flatMap (zc6 T d)).take (n*szT T d)=(xs.take n).flatMap (zc6 T d):=by
        have E:xs.flatMap (zc6 T d)=(xs.take n).flatMap (zc6 T d)++(xs.drop n).flatMap (zc6 T d):=by rw [<-List.flatMap_append,Q8]
        rw [E,List.take_left' (by rw [zc1 (za9 T d),D])]
       rwa [L] at this
     ·cases h
    ·cases h
   ·cases h
  ·cases h
 ·have h: []=y:=X5 h;rw [VR] at k;exact .inl ⟨h.symm,k⟩
 ·cases h
def vy1 {m m0 G Fc Fc' S0c E S1 d} (hc:Sim T w S0c ⟨Fc,G⟩ Fc' w' E d) (hu:Up T m w' E S1) (hin: ∀b∈E,b∈S1) (hw:w0.heap.size<=w.heap.size)
  (R: ∀(i:Nat) (e:Ent T.U),m0<=i->G[i]?=some e->e.live=true-> ∀a,(d i).ad=some a->w.heap.size<=a.block)
  {t} (ht:m=true->t.scal T=true) {a v y} (V:VR T w' E d a v) (l:rdR T G t a=some y) {used} (W: ∀i∈jq3 T t a,i∉used/\m0<=i) {ids ios}
  (X: ∀k,t=.part k-> ∃i,ids[k]?=some i/\RSame (d k) (φ i)/\i<H.length/\ ∀(e:TypeId) (t:Ty) (xs:List (den T.U t)),G[k]?=some (.row e t xs)->szT T t=szT T (ios.getD k (0,.bool)).2)
  (h:Sim T w0 S0 ⟨F,H⟩ F' w' S1 φ) (hf:kk3 w G d used H φ):
  ∃p,Sim T w0 S0 ⟨F,H++entR T t y⟩ F' w' S1 p/\VR T w' S1 p (avR T ids ios H.length t y) v/\kk3 w G d (jq3 T t a++used) (H++entR T t y) p/\(∀i,i<H.length->p i=φ i)/\ ∀i∈(avR T ids ios H.length t y).ids,i<(H++entR T t y).length:=by
 have I: ∀(hE:entR T t y= []) (Y:VR T w' S1 φ (avR T ids ios H.length t y) v) (f: ∀i∈(avR T ids ios H.length t y).ids,i<H.length),
   ∃p,Sim T w0 S0 ⟨F,H++entR T t y⟩ F' w' S1 p/\VR T w' S1 p (avR T ids ios H.length t y) v/\kk3 w G d (jq3 T t a++used) (H++entR T t y) p/\(∀i,i<H.length->p i=φ i)/\ ∀i∈(avR T ids ios H.length t y).ids,i<(H++entR T t y).length:=by
  intro hE Y f;rw [hE,V5];refine ⟨φ,h,Y,?_,fun i _=>rfl,f⟩;intro j e u L b g;rcases hf j e u L b g with z|⟨i,f,z⟩
  ·exact .inl z
  ·exact .inr ⟨i,X4.2 (.inr f),z⟩
 cases t with
 |val t=>
  have Z:qa5 T t a=some y:=l;refine I rfl (wi7 hu ht (yg8 Z V φ)) fun i f=>?_;have:(avR T ids ios H.length (.val t) y).ids= []:=yn8 t y;rw [this] at f;cases f
 |part k=>
  replace l:vq5 T G k a=some y:=l
  obtain ⟨i0,g1,g2,g3,g4⟩:=X k rfl;have hgd:ids.getD k 0=i0:=by rw [Y2,g1];rfl
  refine I rfl ?_ fun i f=>by
   simp only [avR,AV.ids,Q5] at f;subst f;rw [hgd];exact g3
  show VR T w' S1 φ (.sl (ids.getD k 0) (szT T (ios.getD k (0,.bool)).2) y.1 y.2) v;rw [hgd,VR,<-g2.1,<-g2.2.2];unfold vq5 at l;split at l
  ·rename_i i;split at l
   ·rename_i J t1 xs M f;have:=X1 M;subst this;have l:(0,xs.length)=y:=X5 l;subst l;obtain ⟨B,K,O,o2,o3,o4,o5⟩:=hc.ents i _ f;rw [VR] at V;subst V;rw [o2] at O;refine ⟨(d i).ad,?_,?_,?_,fun hn=>O.nil0 hn,fun _=>rfl⟩
    ·show Value.slice (d i).ad (d i).n (d i).cap=Value.slice (d i).ad xs.length ((d i).cap-0);rw [o2];rfl
    ·show 0+xs.length<=(d i).cap;rw [W9];exact O.le.1
    rcases O.cases with ⟨_,hn,_⟩|⟨c,had,_⟩
    ·exact .inl hn
    ·refine .inr ⟨_,had,had.trans ?_⟩;show some (⟨_,0,none⟩:Addr)=some ⟨_,0+0*_,none⟩;rw [M9]
   ·cases l
  ·rename_i i sz o n;split at l
   ·rename_i J t1 xs M f;have:=X1 M;subst this;split at l
    ·rename_i hsz;have:=X1 hsz;subst this;have l:(o,n)=y:=X5 l;subst l;rw [<-g4 J t1 xs f];exact V
    ·cases l
   ·cases l
  ·cases l
 |own e t=>
  rcases kh9 hc l V with ⟨rfl,rfl⟩|⟨i,xs,K,B,hid,f,rfl,O,o3,o4,o5⟩
  ·have A:=h.addG (Chg.refl [] w') (by simp) (by simp) (fun _ _ _ _ _ _=>by simp) (S':=S1) (fun _ h=>h) (fun _ h=>.inl h) (r:=⟨none,0,0,[]⟩) (fun a h=>by cases yo3 h) (fun a h=>by cases yo3 h) (e:=.row e t [])
    ⟨w'.heap.size,[],by rw [za8];exact Own.nil _ _ _ _,by rw [za8];rfl,W6 _,⟨rfl,fun j c v h=>by simp at h⟩,fun a ha=>by rw [za8] at ha;cases ha⟩ (fun j u=>by cases u)
   refine ⟨_,A,by simp only [avR];rw [VR,za8],?_,fun i f=>zj9 (by omega),fun i f=>?_⟩
   ·intro j J u L b g;rcases N2 j H.length with N|rfl|hgt
    ·rw [X8 N] at u;rw [zj9 (by omega)] at g;rcases hf j J u L b g with z|⟨i,f,z⟩
     ·exact .inl z
     ·exact .inr ⟨i,X4.2 (.inr f),z⟩
    ·rw [za8] at g;cases yo3 g
    ·rw [Y5 (by simp [entR];omega)] at u;cases u
   ·simp [avR,AV.ids] at f;subst f;simp [entR]
  ·obtain ⟨hni,hm0⟩:=W i (by rw [hid];simp);have hlv:=R i _ hm0 f rfl;have C: ∀b∈ze5 (d i).ad,w.heap.size<=b:=by
    intro b g;unfold ze5 at g;split at g
    ·rename_i q s;simp at g;subst g;exact hlv q s
    ·cases g
   have D: ∀b∈ze5 (d i).ad,b∈S1:=by
    intro b g;unfold ze5 at g;split at g
    ·rename_i q s;simp at g;subst g;exact hin _ (o5 q s)
    ·cases g
   have A:=h.addG (Chg.refl (ze5 (d i).ad) w') D (fun b g=>.inr (W8 hw (C b g))) (fun j J u L q s Q=>by
    have hge:=C _ Q;rcases hf j J u L q s with z|⟨i',hi',⟨e2,h2,h3⟩,b2,h4,h5⟩
    ·omega
    ·unfold ze5 at Q;split at Q
     ·rename_i q' hq';simp at Q;exact hc.apart i' i e2 _ h2 f h3 rfl (fun e=>hni (e▸hi')) b2 q' h4 (.inl hq') (h5.trans Q)
     ·cases Q) (S':=S1) (fun _ h=>h) (fun _ h=>.inl h) (r:=⟨(d i).ad,y.length,(d i).cap,[]⟩) (fun q s=>.inr (by
      have s:(d i).ad=some q:=yo3 s;unfold ze5;rw [s];simp)) (fun q s=>D _ (by have s:(d i).ad=some q:=yo3 s;unfold ze5;rw [s];simp)) (e:=.row e t y)
    ⟨B,K,by rw [za8];exact O,by rw [za8],o3,gg0 hu (fun em c hcm=>by
      obtain ⟨x,_,hx⟩:=V4.1 hcm;exact kb5 (ht em) x c hx) o4,fun q s=>by rw [za8] at s;exact D _ (by have s:(d i).ad=some q:=s;unfold ze5;rw [s];simp)⟩ (fun j u=>by cases u)
   refine ⟨_,A,by simp only [avR];rw [VR,za8],?_,fun i f=>zj9 (by omega),fun i f=>?_⟩
   ·intro j J u L b g;rcases N2 j H.length with N|rfl|hgt
    ·rw [X8 N] at u;rw [zj9 (by omega)] at g;rcases hf j J u L b g with z|⟨i,f,z⟩
     ·exact .inl z
     ·exact .inr ⟨i,X4.2 (.inr f),z⟩
    ·rw [za8] at g;exact .inr ⟨i,X4.2 (.inl (by rw [hid];simp)),⟨_,f,rfl⟩,b,.inl (yo3 g),rfl⟩
    ·rw [Y5 (by simp [entR];omega)] at u;cases u
   ·simp [avR,AV.ids] at f;subst f;simp [entR]
end
end Go.X
namespace Go.X
open Go.RowKit Go.V
section
variable {T:Tab} {P:Program} {w w':World} {S S':List Nat} {φ φ':Nat->RA} {w0:World} {S0:Ow} {F:AF T} {H:List (Ent T.U)} {F':PF}
def jp9: ∀ {l m},ze4 (l++m)=true->ze4 m=true/\ ∀i∈m,i∉l
 | [],m,h=>⟨h,fun i _ b=>by cases b⟩
 |a::l,m,h=>by
  rw [M6,ze4,X3,V7] at h;obtain ⟨d,e⟩:=jp9 h.2;refine ⟨d,fun i b c=>?_⟩;rcases Z0.1 c with rfl|c
  ·have:=zc9.2 (X4.2 (.inr b):i∈l++m);rw [h.1] at this;cases this
  ·exact e i b c
def qi4 {Hc:List (Ent T.U)} {t s:RT} {r:List RT} {a:AV T.U} {aS:List (AV T.U)} {y:zp7 T (t::s::r)} (h:qm7 T Hc (t::s::r) (a::aS)=some y): ∃x z,rdR T Hc t a=some x/\qm7 T Hc (s::r) aS=some z/\(x,z)=y:=by
 replace h:(match rdR T Hc t a,qm7 T Hc (s::r) aS with|some x,some y=>some (x,y)|_,_=>none)=some y:=h
 split at h
 ·rename_i x z hx hz;exact ⟨x,z,hx,hz,X5 h⟩
 ·cases h
def vx9 {m:Bool} {m0:Nat} {Hc:List (Ent T.U)} {Fc:AF T} {Fc':PF} {S0c:Ow} {S1c S1:List Nat} {φc:Nat->RA} (hc:Sim T w S0c ⟨Fc,Hc⟩ Fc' w' S1c φc) (hu:Up T m w' S1c S1) (hin: ∀b∈S1c,b∈S1) (hw:w0.heap.size<=w.heap.size)
  (hage: ∀(i:Nat) (e:Ent T.U),m0<=i->Hc[i]?=some e->e.live=true-> ∀a,(φc i).ad=some a->w.heap.size<=a.block) {ids:List Nat} {ios:List (TypeId×Ty)} (hty: ∀(k:Nat) (e:TypeId) (t:Ty) (xs:List (den T.U t)),k<ids.length->Hc[k]?=some (.row e t xs)->szT T t=szT T (ios.getD k (0,.bool)).2):
  ∀ {rs:List RT} (_:m=true->jm4 T rs=true) (_:yc9 ids.length rs=true) {aS:List (AV T.U)} {us:List Value} {y:zp7 T rs},VRL T w' S1c φc aS us->qm7 T Hc rs aS=some y->ze4 (zw5 T rs aS)=true-> ∀ {used:List Nat},(∀i∈zw5 T rs aS,i∉used/\m0<=i)->
  ∀ {H:List (Ent T.U)} {φ:Nat->RA},(∀k i:Nat,ids[k]?=some i->RSame (φc k) (φ i)/\i<H.length)->Sim T w0 S0 ⟨F,H⟩ F' w' S1 φ->kk3 w Hc φc used H φ->
  ∃φ1,Sim T w0 S0 ⟨F,H++qc5 T rs y⟩ F' w' S1 φ1/\VRL T w' S1 φ1 (jh0 T ids ios H.length rs y) us/\(∀i,i<H.length->φ1 i=φ i)/\ ∀i∈za1 (jh0 T ids ios H.length rs y),i<(H++qc5 T rs y).length:=by
 intro rs;induction rs with
 |nil=>
  intro hm hp aS us y hv hr hn used hd H φ hi h hf
  match aS,hr,us,hv with
  | [],_,[],_=>exact ⟨φ,by simpa [qc5] using h,trivial,fun _ _=>rfl,fun i hi=>by cases hi⟩
  |_::_,hr,_,_=>cases hr
 |cons t q ih=>
  intro hm hp aS us y hv hr hn used hd H φ hi h hf;have hm1:m=true->t.scal T=true:=fun e=>by have:=hm e;unfold jm4 at this;simp only [X3] at this;exact this.1
  have hm2:m=true->jm4 T q=true:=fun e=>by have:=hm e;unfold jm4 at this;simp only [X3] at this;exact this.2
  have hp1: ∀k,t=.part k->k<ids.length:=by
   rintro k rfl
   unfold yc9 at hp;simp only [X3] at hp;simpa [U7] using hp.1
  have hp2:yc9 ids.length q=true:=by
   unfold yc9 at hp;cases t<;>simp only [X3] at hp<;>first|exact hp|exact hp.2
  have hids: ∀k,t=.part k-> ∃i,ids[k]?=some i/\RSame (φc k) (φ i)/\i<H.length/\ ∀(e:TypeId) (t:Ty) (xs:List (den T.U t)),Hc[k]?=some (.row e t xs)->szT T t=szT T (ios.getD k (0,.bool)).2:=by
   intro k hk;have hlt:=hp1 k hk;have hg:=Y0 hlt;exact ⟨_,hg,(hi k _ hg).1,(hi k _ hg).2,fun e t xs=>hty k e t xs hlt⟩
  match aS,hr,us,hv with
  | [],hr,_,_=>cases q<;>cases hr
  |a::aS,hr,v::us,hv=>
   cases q with
   |nil=>
    cases aS with
    |cons _ _=>cases hr
    |nil=>
     match us,hv with
     | [],hv=>
      obtain ⟨φ1,h1,h2,h3,h4,h5⟩:=vy1 (t:=t) (ids:=ids) (ios:=ios) hc hu hin hw hage hm1 hv.1 hr (fun i hi=>hd i (X4.2 (.inl hi))) hids h hf;exact ⟨φ1,h1,⟨h2,trivial⟩,h4,fun i hi=>h5 i (by simpa [jh0,za1] using hi)⟩
   |cons s r=>
    obtain ⟨x,z,hx,hz,rfl⟩:=qi4 hr
    replace hn:ze4 (jq3 T t a++zw5 T (s::r) aS)=true:=hn
    replace hd: ∀i∈jq3 T t a++zw5 T (s::r) aS,i∉used/\m0<=i:=hd
    obtain ⟨hn1,hn2⟩:=jp9 hn;obtain ⟨φ1,h1,h2,h3,h4,h5⟩:=vy1 (t:=t) (ids:=ids) (ios:=ios) hc hu hin hw hage hm1 hv.1 hx (fun i hi=>hd i (X4.2 (.inl hi))) hids h hf;have hlen:(H++entR T t x).length=H.length+t.cnt:=by cases t<;>simp [entR,RT.cnt]
    obtain ⟨φ2,g1,g2,g3,g4⟩:=ih hm2 hp2 hv.2 hz hn1 (used:=jq3 T t a++used) (fun i hi=>⟨fun hmem=>by
     rcases X4.1 hmem with hmem|hmem
     ·exact hn2 i hi hmem
     ·exact (hd i (X4.2 (.inr hi))).1 hmem,(hd i (X4.2 (.inr hi))).2⟩) (H:=H++entR T t x) (fun k i hk=>⟨(hi k i hk).1.trans (.of (h4 i (hi k i hk).2).symm),by have:=(hi k i hk).2;rw [X9];omega⟩) h1 h3
    rw [Q2,hlen] at g4;rw [Q2] at g1;rw [hlen] at g2;refine ⟨φ2,g1,⟨h2.phi fun i hi=>g3 i (h5 i hi),g2⟩,fun i hi=>(g3 i (by rw [X9];omega)).trans (h4 i hi),fun i hi=>?_⟩
    replace hi:i∈(avR T ids ios H.length t x).ids++za1 (jh0 T ids ios (H.length+t.cnt) (s::r) z):=hi
    show i<(H++(entR T t x++qc5 T (s::r) z)).length;rcases X4.1 hi with hi|hi
    ·have:=h5 i hi;simp only [X9] at this⊢;omega
    ·exact g4 i hi
def yg9 {aS:List (AV T.U)} {us:List Value} (h:VRL T w S φ aS us):VR T w S φ (zl6 T aS) (ye2 us):=by
 match aS,us,h with
 | [],[],h=>exact ⟨#[],rfl,h⟩
 | [a],[v],h=>exact h.1
 |a::b::r,u::v::s,h=>exact ⟨(u::v::s).toArray,rfl,h⟩
def ka0 {ids:List Nat} {ios:List (TypeId×Ty)} {rs:List RT}: ∀ {y:zp7 T rs} {b:Nat},∀a∈jh0 T ids ios b rs y,zj5 a=true:=by
 induction rs with
 |nil=>intro y b a ha;cases ha
 |cons t r ih=>
  intro y b a ha;have one: ∀(x:qc4 T t),zj5 (avR T ids ios b t x)=true:=by
   intro x;cases t with
   |val t=>exact yw0 t x
   |own e t=>rfl
   |part k=>rfl
  cases r with
  |nil=>simp only [jh0,Q5] at ha;subst ha;exact one _
  |cons s q=>
   simp only [jh0] at ha
   grind
def jv1 {ids ios rs y b} (e: ∀i∈za1 (jh0 T ids ios b rs y),i<H.length):okA H (zl6 T (jh0 T ids ios b rs y)):=by
 have c:zj5 (zl6 T (jh0 T ids ios b rs y))=true:=by
  unfold zl6;split
  ·rename_i a d;exact ka0 a (by rw [d];simp)
  ·rfl
 refine ze6 c fun i h=>e i ?_;unfold zl6 at h;split at h
 ·rename_i a d;rw [d,za1];exact X4.2 (.inl h)
 ·rw [AV.ids] at h;exact h
def yf0 {β:Type} {H1:List (Ent T.U)} {B:Option β}: ∀ {ios:List (TypeId×Ty)} {k:Nat} {y:zt8 T ios β},rdIo T H1 B ios k=some y->B=some (yl5 T ios y)/\(yl1 T ios y).length=ios.length/\ ∀j,j<ios.length-> ∃(xs:List (den T.U (ios.getD j (0,.bool)).2)),(yl1 T ios y)[j]?=some (.row (ios.getD j (0,.bool)).1 (ios.getD j (0,.bool)).2 xs)/\H1[k+j]?=some (.row (ios.getD j (0,.bool)).1 (ios.getD j (0,.bool)).2 xs)
 | [],k,y,h=>⟨h,rfl,fun j hj=>by simp at hj⟩
 |(e,t)::r,k,y,h=>by
  unfold rdIo at h;split at h
  ·rename_i xs z hx hz;have h:(xs,z)=y:=X5 h;subst h;obtain ⟨h1,h2,h3⟩:=yf0 hz;have hk:H1[k]?=some (.row e t xs):=by
    unfold rdIo.rdAt at hx;split at hx
    ·rename_i e' t' xs' hi;split at hx
     ·rename_i hb;have:=X1 hb;subst this
      grind
     ·cases hx
    ·cases hx
   refine ⟨h1,by show (yl1 T r z).length+1=r.length+1;rw [h2],fun j hj=>?_⟩;cases j with
   |zero=>exact ⟨xs,rfl,hk⟩
   |succ j=>
    obtain ⟨ys,g1,g2⟩:=h3 j (by simpa using hj);exact ⟨ys,g1,by rw [show k+(j+1)=k+1+j by omega];exact g2⟩
  ·cases h
def vc1: ∀ {ps:List PT} {aS:List (AV T.U)} {x:zr4 T ps},kp5 T H ps aS=some x->(zo0 T ps aS).length=(zc5 ps).length/\(zw7 T ps x).length=(zc5 ps).length/\
  ∀k i,(zo0 T ps aS)[k]?=some i-> ∃(e:TypeId) (t:Ty) (xs:List (den T.U t)),H[i]?=some (.row e t xs)/\(zw7 T ps x)[k]?=some (.row e t xs)/\(e,t)=(zc5 ps).getD k (0,.bool):=by
 have one: ∀ {t:PT} {a:AV T.U} {x:yo5 T t},rdIn T H t a=some x->(zo0 T [t] [a]).length=(zc5 [t]).length/\(jz4 T t x).length=(zc5 [t]).length/\
   ∀k i,(zo0 T [t] [a])[k]?=some i-> ∃(e:TypeId) (t':Ty) (xs:List (den T.U t')),H[i]?=some (.row e t' xs)/\(jz4 T t x)[k]?=some (.row e t' xs)/\(e,t')=(zc5 [t]).getD k (0,.bool):=by
  intro t a x h;cases t with
  |val t=>exact ⟨by cases a<;>rfl,rfl,fun k i hk=>by cases a<;>simp [zo0] at hk⟩
  |io e t=>
   cases a<;>try (cases h;done)
   rename_i i
   replace h:rdIn.rdOwnI T H e t (.own i)=some x:=h
   unfold rdIn.rdOwnI at h;simp only at h;split at h
   ·rename_i e' t' xs hi;split at h
    ·rename_i hb;have:=X1 hb;subst this;split at h
     ·rename_i ht;subst ht;have h:xs=x:=X5 h;subst h;refine ⟨rfl,rfl,fun k i0 hk=>?_⟩;cases k with
      |zero=>cases hk;exact ⟨_,_,xs,hi,rfl,rfl⟩
      |succ k=>simp [zo0] at hk
     ·cases h
    ·cases h
   ·cases h
 have hcons: ∀(t:PT) (q:List PT),zc5 (t::q)=zc5 [t]++zc5 q:=by intro t q;cases t<;>rfl
 intro ps;induction ps with
 |nil=>
  intro aS x h;cases aS with
  |nil=>exact ⟨rfl,rfl,fun k i hk=>by simp [zo0] at hk⟩
  |cons _ _=>cases h
 |cons t q ih=>
  intro aS x h;cases aS with
  |nil=>cases q<;>cases h
  |cons a aS=>
   cases q with
   |nil=>
    cases aS with
    |cons _ _=>cases h
    |nil=>exact one h
   |cons s q=>
    have h:(match rdIn T H t a,kp5 T H (s::q) aS with|some x,some y=>some (x,y)|_,_=>none)=some x:=h;split at h
    ·rename_i x1 y1 h1 h2;have h:(x1,y1)=x:=X5 h;subst h;obtain ⟨a1,a2,a3⟩:=one h1;obtain ⟨b1,b2,b3⟩:=ih h2;rw [jo5,hcons];show _/\(jz4 T t x1++zw7 T (s::q) y1).length=_/\ ∀k i,_-> ∃(e:TypeId) (t':Ty) (xs:List (den T.U t')),_/\(jz4 T t x1++zw7 T (s::q) y1)[k]?=_/\_;refine ⟨by rw [X9,X9,a1,b1],by rw [X9,X9,a2,b2],fun k i hk=>?_⟩;by_cases hlt:k<(zc5 [t]).length
     ·rw [X8 (by omega)] at hk;obtain ⟨e,t',xs,g1,g2,g3⟩:=a3 k i hk;exact ⟨e,t',xs,g1,by rw [X8 (by omega)];exact g2,by rw [Y2,X8 hlt,<-List.getD_eq_getElem?_getD];exact g3⟩
     ·rw [Z2 (by omega),a1] at hk;obtain ⟨e,t',xs,g1,g2,g3⟩:=b3 _ i hk;exact ⟨e,t',xs,g1,by rw [Z2 (by omega),a2];exact g2,by rw [Y2,Z2 (by omega),<-List.getD_eq_getElem?_getD];exact g3⟩
    ·cases h
def je3 {b n}:b∈zd8 φ n-> ∃k,k<n/\ ∃a,At (φ k) a/\a.block=b:=by
 intro h;unfold zd8 at h;obtain ⟨k,c,d⟩:=V4.1 h;exact ⟨k,J3.1 c,zu8.1 d⟩
def Sim.grow (h:Sim T w0 S0 ⟨F,H⟩ F' w S φ) (a:Chg [] w w') {S1} (c: ∀b∈S,b∈S1) (d: ∀b∈S1,b∈S\/(w.heap.size<=b/\b<w'.heap.size)):Sim T w0 S0 ⟨F,H⟩ F' w' S1 φ:=by
 have:=h.io (Tc:= []) a (fun b e _ _=>c b e) d (ids:= []) (es:= []) rfl (by simp) (by simp) (by simp);simpa [zh0] using this
def Sim.forget (h:Sim T w0 S0 ⟨F,H⟩ F' w S φ) (ids:List Nat) (hpl: ∀i∈ids,∀e,H[i]?=some e->e.plain=true): ∃φ',(∀i∈ids,(φ' i).xs= [])/\(∀i,RSame (φ' i) (φ i))/\Sim T w0 S0 ⟨F,H⟩ F' w S φ':=by
 let φ':Nat->RA:=fun i=>if i∈ids then ⟨(φ i).ad,(φ i).n,(φ i).cap,[]⟩ else φ i
 have hs: ∀i,RSame (φ' i) (φ i):=fun i=>by
  show RSame (if i∈ids then ⟨(φ i).ad,(φ i).n,(φ i).cap,[]⟩ else φ i) (φ i);split
  ·exact ⟨rfl,rfl,rfl⟩
  ·exact .of rfl
 have hx: ∀i∈ids,(φ' i).xs= []:=fun i hi=>by
  grind
 have hat: ∀ {i:Nat} {a:Addr},At (φ' i) a->At (φ i) a:=fun {i a} ha=>by
  rcases ha with ha|ha
  ·exact .inl ((hs i).1▸ha)
  ·by_cases hi:i∈ids
   ·rw [hx i hi] at ha;cases ha
   ·have e:φ' i=φ i:=if_neg hi;exact .inr (e▸ha)
 refine ⟨φ',hx,hs,fun i a ha=>?_,h.ids,h.chg,h.own,h.ex,fun i e he hl a ha=>h.lives i e he hl a (hat ha),fun k r hk=>⟨(hs k).trans (h.pins k r hk).1,(h.pins k r hk).2⟩,fun i e he=>?_,h.eids,fun i j e e' he he' hl hl' hij a b ha hb=>h.apart i j e e' he he' hl hl' hij a b (hat ha) (hat hb)⟩
 ·obtain ⟨v,h1,h2⟩:=h.fr i a ha;exact ⟨v,h1,h2.phiS fun j _=>hs j⟩
 ·have:=(h.ents i e he).renS (ρ:=id) (φ':=φ') (j:=i) (hs i) (by
   by_cases hi:i∈ids
   ·exact .inl (hpl i hi e he)
   ·exact .inr (congrArg RA.xs (if_neg hi:φ' i=φ i))) fun k _=>hs k
  cases e with
  |drow e d fe xs op=>simpa only [Ent.ren,vx7] using this
  |pmap k be d m op=>simpa only [Ent.ren,vx6] using this
  |blk e cs=>simpa only [Ent.ren,zr1] using this
  |map k es=>simpa only [Ent.ren,qn1] using this
  |row e t xs=>exact this
  |tmap k t m=>exact this
  |hid=>exact this
  |gone=>trivial
def qk0 {f:FuncId} {sp:FnSpec T} (hok:vr3 T P f sp):zc0 T P f sp.toCall:=by
 intro R aS H K Kp r hr w0 S0 F F' w S φ h vs hvs has;simp only [FnSpec.toCall] at hr;split at hr
 ·rename_i x hx;split at hr
  ·rename_i hb;simp only [X3] at hb;obtain ⟨hn,hpo⟩:=hb;obtain ⟨y,hy,hK⟩:=zb8 hr;obtain ⟨i1,i2,i3⟩:=vc1 hx;generalize hids:zo0 T sp.ps aS=ids at *;obtain ⟨φ',hxs,hrs,h⟩:=h.forget ids fun i hi e he=>by
    obtain ⟨k,hk⟩:=Y9.1 hi;obtain ⟨_,_,_,p1,_⟩:=i3 k i hk;rw [p1] at he;cases he;rfl
   replace hvs:VRL T w S φ' aS vs:=by
    have:=VRL.renS T (ρ:=id) (φ':=φ') (fun i _=>hrs i) hvs;rwa [zr1] at this
   clear hrs
   revert φ'
   intro φ hxs h hvs
   let φc:Nat->RA:=fun k=>φ (ids.getD k 0)
   have hφc: ∀k i,ids[k]?=some i->φc k=φ i:=by
    intro k i hk;show φ (ids.getD k 0)=φ i;rw [Y2,hk];rfl
   have hgk: ∀k,k<(zc5 sp.ps).length-> ∃i,ids[k]?=some i:=fun k hk=>⟨_,Y0 (by omega)⟩;have hap: ∀j k,j<(zc5 sp.ps).length->k<(zc5 sp.ps).length->j≠k-> ∀a b,At (φc j) a->At (φc k) b->a.block≠b.block:=by
    intro j k hj hk hjk a b ha hb;obtain ⟨i,gi⟩:=hgk j hj;obtain ⟨i',gi'⟩:=hgk k hk;rw [hφc j i gi] at ha;rw [hφc k i' gi'] at hb;obtain ⟨_,_,_,e1,_⟩:=i3 j i gi;obtain ⟨_,_,_,e2,_⟩:=i3 k i' gi';exact h.apart i i' _ _ e1 e2 rfl rfl (fun e=>hjk (by subst e;exact yi8 hn gi gi')) a b ha hb
   have hsin: ∀k,k<(zc5 sp.ps).length-> ∀a,At (φc k) a->a.block∈S:=by
    intro k hk a ha;obtain ⟨i,gi⟩:=hgk k hk;rw [hφc k i gi] at ha;obtain ⟨_,_,_,e1,_⟩:=i3 k i gi;exact zi5 h e1 rfl ha
   have hent: ∀k e,(zw7 T sp.ps x)[k]?=some e->EntR T w S φc k e:=by
    intro k e hk;have hlt:=(X2.1 hk).1;obtain ⟨i,gi⟩:=hgk k (by omega);obtain ⟨e1,t1,xs,g1,g2,_⟩:=i3 k i gi;rw [g2] at hk;simp only [X0] at hk;subst hk;have:=h.ents i _ g1;simp only [EntR,hφc k i gi];exact this
   refine (hok x y hy w S φc vs (gd7 hx hvs (k:=0) fun j i hj=>by rw [hids] at hj;rw [W9];exact hφc j i hj) (fun b hb=>(h.own b hb).2) hent hsin hap).mono fun e w' hR=>?_;cases e with
   |returned v=>
    obtain ⟨F1,H1,F1',S1,φ1,as1,us,g1,g2,rfl,g4,g5,g6⟩:=hR;obtain ⟨q1,q2,q3⟩:=yf0 g4;have hpin: ∀k,k<(zc5 sp.ps).length->RSame (φ1 k) (φc k):=by
     intro k hk;exact (g1.pins k (φc k) (by simp [hk])).1
    have hS1: ∀b∈S1,b∈S\/(w.heap.size<=b/\b<w'.heap.size):=fun b hb=>by
     obtain ⟨p1,p2⟩:=g1.own b hb;rcases p1 with p1|p1
     ·exact .inl p1
     ·exact .inr ⟨p1,p2⟩
    have hg:Sim T w0 S0 ⟨F,zh0 T H ids (yl1 T (zc5 sp.ps) y)⟩ F' w' S1 φ:=by
     refine h.io g1.chg g1.ex hS1 (by rw [q2,i1]) ?_ (fun i hi a ha=>by
      obtain ⟨k,gk⟩:=Y9.1 hi;have hlt:k<(zc5 sp.ps).length:=by have:=(X2.1 gk).1;omega
      obtain ⟨ys,p4,p5⟩:=q3 k hlt;rw [W9] at p5;rcases ha with ha|ha
      ·exact (g1.lives k _ p5 rfl a (.inl ((hpin k hlt).1.trans (by rw [hφc k i gk];exact ha)))).1
      ·rw [hxs i hi] at ha;cases ha) ?_
     ·intro b hb;obtain ⟨k,hk,a,ha,rfl⟩:=je3 hb;obtain ⟨i,gi⟩:=hgk k hk;exact ⟨i,X6 gi,a,by rw [<-hφc k i gi];exact ha,rfl⟩
     ·intro k i hk;obtain ⟨e1,t1,xs,p1,p2,p3⟩:=i3 k i hk;have hlt:k<(zc5 sp.ps).length:=by have:=(X2.1 hk).1;omega
      obtain ⟨ys,p4,p5⟩:=q3 k hlt;have e1':e1=((zc5 sp.ps).getD k (0,.bool)).1:=congrArg Prod.fst p3;have t1':t1=((zc5 sp.ps).getD k (0,.bool)).2:=congrArg Prod.snd p3;subst t1';subst e1';refine ⟨_,_,xs,ys,p1,p4,?_⟩;rw [W9] at p5;have:=(g1.ents k _ p5).renS (ρ:=id) (φ':=φ) (j:=i) (by rw [<-hφc k i hk];exact (hpin k hlt).symm) (.inl rfl) (fun q hq=>by cases hq);exact this
    obtain ⟨φ2,k1,k2,_,k4⟩:=vx9 (m:=false) (m0:=(zc5 sp.ps).length) (S1:=S1) (ids:=ids) (ios:=zc5 sp.ps) g1 (fun t x v _ h=>h) (fun _ h=>h) h.chg.size (fun i e hi he hl a ha=>by
     rcases (g1.lives i e he hl a (.inl ha)).2 with hm|hm
     ·obtain ⟨k,hk,a',ha',hbe⟩:=je3 hm;obtain ⟨ys,p4,p5⟩:=q3 k hk;rw [W9] at p5;exact absurd hbe (g1.apart k i _ e p5 he rfl hl (by omega) a' a (by
       rcases ha' with ha'|ha'
       ·exact .inl ((hpin k hk).1.trans ha')
       ·obtain ⟨i',gi'⟩:=hgk k hk;rw [hφc k i' gi',hxs i' (X6 gi')] at ha';cases ha') (.inl ha))
     ·exact hm) (fun k e t xs hk hx=>by
     obtain ⟨ys,p4,p5⟩:=q3 k (by omega);rw [W9] at p5;rw [hx] at p5;simp only [X0,Ent.row.injEq] at p5;rw [p5.2.1]) (fun e=>by cases e) hpo g2 q1 g5 (used:= []) (fun i hi=>⟨fun hm=>(by cases hm),g6 i hi⟩) (H:=zh0 T H ids (yl1 T (zc5 sp.ps) y)) (φ:=φ) (fun k i hk=>by
     have hlt:k<(zc5 sp.ps).length:=by have:=(X2.1 hk).1;omega
     obtain ⟨_,_,_,p1,_⟩:=i3 k i hk;exact ⟨(hpin k hlt).trans (.of (hφc k i hk)),by rw [zb2];exact (X2.1 p1).1⟩) hg (by
     intro j e hj hl a ha;rcases zh3 _ _ _ (by rw [q2,i1]) hj with ⟨k,p1,p2⟩|⟨_,p2⟩
     ·obtain ⟨_,_,_,p3,_⟩:=i3 k j p1;exact .inl (h.own _ (zi5 h p3 rfl ha)).2
     ·exact .inl (h.own _ (zi5 h p2 hl ha)).2)
    rw [zb2] at k2 k4;exact ⟨_,_,hK,S1,φ2,k1,yg9 k2,jv1 k4⟩
   |panicked ch=>exact hR.elim
   |outgrown=>exact hR.elim
  ·cases hr
 ·split at hr
  ·rename_i hb;simp only [X3] at hb;obtain ⟨hsc,hpo⟩:=hb;obtain ⟨x,hx,hv,hio,hent⟩:=qi3 hr (fun i _ en hi _=>h.ents i en hi) hvs φ 0;obtain ⟨y,hy,hK⟩:=zb8 hx;have hio0:(zc5 sp.ps).length=0:=by rw [hio];rfl
   refine (hok x y hy w [] φ vs hv (fun b hb=>by cases hb) (fun k e hk=>by rw [hent] at hk;simp at hk) (fun k hk=>by omega) (fun j k hj=>by omega)).mono fun e w' hR=>?_;cases e with
   |returned v=>
    obtain ⟨F1,H1,F1',S1,φ1,as1,us,g1,g2,rfl,g4,g5,g6⟩:=hR;obtain ⟨q1,q2,q3⟩:=yf0 g4;have hchg:Chg [] w w':=by
     have:=g1.chg;rw [show zd8 φ (zc5 sp.ps).length= [] by rw [hio0];rfl] at this;exact this
    have hg:=h.grow hchg (S1:=S++S1) (fun b hb=>X4.2 (.inl hb)) (fun b hb=>by
     rcases X4.1 hb with hb|hb
     ·exact .inl hb
     ·obtain ⟨q1,q2⟩:=g1.own b hb;rcases q1 with q1|q1
      ·cases q1
      ·exact .inr ⟨q1,q2⟩)
    obtain ⟨φ2,k1,k2,_,k4⟩:=vx9 (m:=true) (m0:=0) (S1:=S++S1) (ids:= []) (ios:= []) g1 (fun t x v ht hcr=>by
     have ht:=ht rfl;cases hcr with
     |int k x=>exact .int k x
     |bool b=>exact .bool b
     |str s=>exact .str s
     |list e xs ad cap u h1 h2 h3 h4 h5=>cases ht
     |nl e xs ad cap h1 h2=>cases ht) (fun b hb=>X4.2 (.inr hb)) h.chg.size (fun i e _ he hl a ha=>by
     rcases (g1.lives i e he hl a (.inl ha)).2 with hm|hm
     ·rw [show zd8 φ (zc5 sp.ps).length= [] by rw [hio0];rfl] at hm;cases hm
     ·exact hm) (fun k e t xs hk=>by simp at hk) (fun _=>hsc) hpo g2 q1 g5 (used:= []) (fun i _=>⟨fun hm=>(by cases hm),U8 _⟩) (fun k i hk=>by simp at hk) hg (by
     intro j e hj hl a ha;exact .inl (h.own _ (zi5 h hj hl ha)).2)
    exact ⟨_,_,hK,S++S1,φ2,k1,yg9 k2,jv1 k4⟩
   |panicked ch=>exact hR.elim
   |outgrown=>exact hR.elim
  ·cases hr
def ko7 (T:Tab):(rs:List RT)->zp7 T rs->List Value
 | [],_=> []
 | [t],x=> [valR t x]
 |t::s::r,x=>valR t x.1::ko7 T (s::r) x.2
where
 valR:(t:RT)->qc4 T t->Value
  | .val t,x=>uf6 T t x
  |_,_=>undef
def qe3: ∀ {cs:List (Cell T.U)},(∀c∈cs,c.t.scal=true)->VRL T w S φ (cs.map .cell) (cs.map kk6)
 | [],_=>trivial
 |⟨t,x⟩::r,h=>by
  refine ⟨?_,qe3 fun c a=>h c (Z4 _ a)⟩;have:=h _ (U6 ..);cases t with
  |int k=>exact CR.int _ _
  |bool=>exact CR.bool _
  |str=>exact CR.str _
  |list e=>cases this
  |nl e=>cases this
  |user i=>cases this
def qw3: ∀ {cs:List (Cell T.U)} {vs},(∀c∈cs,c.t.scal=true)->VRL T w S φ (cs.map .cell) vs->vs=cs.map kk6
 | [],[],_,_=>rfl
 | [],_::_,_,h=>h.elim
 |_::_,[],_,h=>h.elim
 |⟨t,x⟩::r,v::vs,h,a=>by
  have b:=h _ (U6 ..);rw [U0,<-qw3 (fun c d=>h c (Z4 _ d)) a.2];congr 1;cases t with
  |int k=>exact zb0 a.1
  |bool=>exact zh2 a.1
  |str=>exact zq4 a.1
  |list e=>cases b
  |nl e=>cases b
  |user i=>cases b
def ve1 {t} (h:jk0 T t=true) (x):VR T w S φ (zp6 T t x) (uf6 T t x):=by
 cases t with
 |user i=>exact ⟨_,rfl,qe3 (T.scals i x h)⟩
 |int k=>exact CR.int _ _
 |bool=>exact CR.bool _
 |str=>exact CR.str _
 |list e=>cases h
 |nl e=>cases h
def vz4 {t} (h:jk0 T t=true) {x v} (a:VR T w S φ (zp6 T t x) v):v=uf6 T t x:=by
 cases t with
 |user i=>
  obtain ⟨vs,rfl,b⟩:=a;have:=qw3 (T.scals i x h) b;show Value.agg vs=Value.agg (List.map kk6 (T.cells i x)).toArray;rw [<-this]
 |int k=>exact zb0 a
 |bool=>exact zh2 a
 |str=>exact zq4 a
 |list e=>cases h
 |nl e=>cases h
def wb6: ∀ {rs},qRs T rs=true-> ∀ {y:zp7 T rs} {ids:List Nat} {ios:List (TypeId×Ty)} {b:Nat},VRL T w S φ (jh0 T ids ios b rs y) (ko7 T rs y)/\za1 (jh0 T ids ios b rs y)= []:=by
 intro rs;induction rs with
 |nil=>intro h y ids ios b;exact ⟨trivial,rfl⟩
 |cons t q a=>
  intro h y ids ios b;cases t with
  |own e t=>cases h
  |part k=>cases h
  |val t=>
   cases q with
   |nil=>
    have c:jk0 T t=true:=by simpa [qRs] using h
    refine ⟨⟨ve1 c y,trivial⟩,?_⟩;exact R1.2 ⟨yn8 (T:=T) t y,rfl⟩
   |cons s r=>
    unfold qRs at h;simp only [X3] at h;obtain ⟨d,f⟩:=a h.2 (y:=y.2) (ids:=ids) (ios:=ios) (b:=b+RT.cnt (.val t));refine ⟨⟨ve1 h.1 y.1,d⟩,?_⟩;exact R1.2 ⟨yn8 (T:=T) t y.1,f⟩
def vu9 {w1:World} {S1:List Nat} {φ1:Nat->RA} {H1:List (Ent T.U)}: ∀ {rs:List RT},qRs T rs=true-> ∀ {y:zp7 T rs} {aS:List (AV T.U)} {us:List Value},qm7 T H1 rs aS=some y->VRL T w1 S1 φ1 aS us->us=ko7 T rs y:=by
 intro rs;induction rs with
 |nil=>
  intro h y aS us hr hv
  match aS,hr,us,hv with
  | [],_,[],_=>rfl
  |_::_,hr,_,_=>cases hr
 |cons t q ih=>
  intro h y aS us hr hv;cases t with
  |own e t=>cases h
  |part k=>cases h
  |val t=>
   match aS,hr,us,hv with
   | [],hr,_,_=>cases q<;>cases hr
   |a::aS,hr,v::us,hv=>
    cases q with
    |nil=>
     have ht:jk0 T t=true:=by simpa [qRs] using h
     cases aS with
     |cons _ _=>cases hr
     |nil=>
      match us,hv with
      | [],hv=>exact congrArg (fun z=> [z]) (vz4 ht (yg8 (t:=t) hr hv.1 φ1))
    |cons s r=>
     unfold qRs at h;simp only [X3] at h;obtain ⟨x,z,hx,hz,rfl⟩:=qi4 hr;show v::us=uf6 T t x::ko7 T (s::r) z;rw [<-ih h.2 hz hv.2,<-vz4 h.1 (yg8 (t:=t) hx hv.1 φ1)]
def later {aS:List (AV T.U)} {w1:World} (h:Sim T w0 S0 ⟨F,H⟩ F' w S φ) (hc:Chg S w w1) (hsm:Same φ (za1 aS) w w1):yy7 T w1 S φ H (za1 aS):=
  qi6 h hc hsm fun i hi=>hi
def kj2 {f:FuncId} {sp:FnSpec T} (hok:vr3 T P f sp):zl5 T P f sp.toCall:=by
 intro R aS H K r hr w0 S0 F F' w S φ h vs hvs has;simp only [FnSpec.toCall] at hr;split at hr
 ·rename_i hq;obtain ⟨x,hx,hdet⟩:=qi2 hr;obtain ⟨y,hy,hK⟩:=zb8 hx;obtain ⟨q1,q2⟩:=wb6 (w:=w) (S:=S) (φ:=φ) hq (y:=yl5 T (zc5 sp.ps) y) (ids:= []) (ios:= []) (b:=0);refine ⟨_,_,hK,yg9 q1,jv1 (by rw [q2];intro i hi;cases hi),fun w1 hc hsm=>?_⟩;obtain ⟨x',hx',hv,hio,hent⟩:=qi3 (w:=w1) (K:=some) (by rw [hdet]) (later h hc hsm) (hvs.chg T hc (fun _ h=>h) fun b hb=>.inl hb) φ 0;have hx':=X5 hx';subst hx';have hio0:(zc5 sp.ps).length=0:=by rw [hio];rfl
  refine (hok _ y hy w1 [] φ vs hv (fun b hb=>by cases hb) (fun k e hk=>by rw [hent] at hk;simp at hk) (fun k hk=>by omega) (fun j k hj=>by omega)).mono fun e w' hR=>?_;cases e with
  |returned v=>
   obtain ⟨F1,H1,F1',S1,φ1,as1,us,g1,g2,rfl,g4,g5,g6⟩:=hR;have hchg:Chg [] w1 w':=by
    have:=g1.chg;rw [show zd8 φ (zc5 sp.ps).length= [] by rw [hio0];rfl] at this;exact this
   exact ⟨hchg,by rw [vu9 hq (yf0 g4).1 g2]⟩
  |panicked ch=>exact hR.elim
  |outgrown=>exact hR.elim
 ·cases hr
def gw4 (sp:FnSpec T):yj9 sp.toCall:=by
 intro R aS H K Kp r hr;simp only [FnSpec.toCall] at hr;split at hr
 ·rename_i x hx;split at hr
  ·rename_i hb;obtain ⟨y,hy,hK⟩:=zb8 hr;obtain ⟨i1,i2,i3⟩:=vc1 hx;refine .inl ⟨_,_,hK,?_,fun K' Kp'=>by simp only [FnSpec.toCall,hx,hb,hy,j6]⟩;have hw:(FnSpec.toCall sp).wr aS H=zo0 T sp.ps aS:=by simp only [FnSpec.toCall,hx]
   rw [hw];have hlen:(yl1 T (zc5 sp.ps) (sp.g x |>.get (by rw [hy];rfl))).length=(zo0 T sp.ps aS).length:=by
    have: ∀(ios:List (TypeId×Ty)) {β:Type} (y:zt8 T ios β),(yl1 T ios y).length=ios.length:=by
     intro ios;induction ios with
     |nil=>intro β y;rfl
     |cons p r ih=>intro β y;exact congrArg (· +1) (ih y.2)
    rw [this,i1]
   have hg:(sp.g x |>.get (by rw [hy];rfl))=y:=by simp [hy]
   rw [hg] at hlen;have hrow: ∀(ios:List (TypeId×Ty)) {β:Type} (y:zt8 T ios β) (k:Nat) (f:Ent T.U),(yl1 T ios y)[k]?=some f-> ∃xs,f=.row (ios.getD k (0,.bool)).1 (ios.getD k (0,.bool)).2 xs:=by
    intro ios;induction ios with
    |nil=>intro β y k f h;simp [yl1] at h
    |cons p r ih=>
     intro β y k f h;cases k with
     |zero=>
      have h:some (Ent.row p.1 p.2 y.1)=some f:=h;simp only [X0] at h;subst h;exact ⟨y.1,rfl⟩
     |succ k=>
      have h:(yl1 T r y.2)[k]?=some f:=h;obtain ⟨xs,h1⟩:=ih y.2 k f h;exact ⟨xs,h1⟩
   refine ⟨by rw [X9,zb2];omega,fun e he hn=>?_,fun e ty t ys he h=>?_⟩
   ·rw [X8 (by rw [zb2];exact he)];have hsome: ∃f,(zh0 T H (zo0 T sp.ps aS) (yl1 T (zc5 sp.ps) y))[e]?=some f:=⟨_,Y0 (by rw [zb2];exact he)⟩;obtain ⟨f,hf⟩:=hsome;rcases zh3 _ _ H hlen hf with ⟨k,g1,_⟩|⟨_,g2⟩
    ·exact absurd (X6 g1) hn
    ·rw [hf,g2]
   ·rw [X8 (by rw [zb2];exact he)] at h;rcases zh3 _ _ H hlen h with ⟨k,g1,g2⟩|⟨_,g2⟩
    ·obtain ⟨e1,t1,xs,p1,p2,p3⟩:=i3 k e g1;obtain ⟨zs,q1⟩:=hrow _ y k _ g2;simp only [Ent.row.injEq] at q1;have e1:e1=ty:=(congrArg Prod.fst p3).trans q1.1.symm;have e2:t1=t:=(congrArg Prod.snd p3).trans q1.2.1.symm;subst e1;subst e2;exact ⟨xs,p1⟩
    ·exact ⟨ys,g2⟩
  ·cases hr
 ·rename_i hx;split at hr
  ·rename_i hb;obtain ⟨x,h1,hdet⟩:=qi2 hr;obtain ⟨y,hy,hK⟩:=zb8 h1;exact .inl ⟨_,_,hK,.app,fun K' Kp'=>by simp only [FnSpec.toCall,hx,hb,hdet,hy,j6]⟩
  ·cases hr
def je0: ∀ {aS:List (AV T.U)} {vs:List Value} {i j:Nat} {a:AV T.U},VRL T w S φ aS vs->(yd6 T aS i).get T j=some a-> ∃v,(jm8 vs i).get j=some v/\VR T w S φ a v
 | [],[],_,_,_,_,h=>by simp [yd6,AF.get] at h
 | [],_::_,_,_,_,h,_=>h.elim
 |_::_,[],_,_,_,h,_=>h.elim
 |b::r,v::s,i,j,a,h,hg=>by
  simp only [yd6,AF.get] at hg;simp only [jm8,PF.get];split at hg
  ·rename_i hb;simp only [X0] at hg;subst hg;exact ⟨v,by simp only [hb],h.1⟩
  ·rename_i hb;simp only [hb];exact je0 h.2 hg
def je1: ∀ {aS:List (AV T.U)} {i j:Nat} {a:AV T.U},(yd6 T aS i).get T j=some a->a∈aS
 | [],_,_,_,h=>by simp [yd6,AF.get] at h
 |b::r,i,j,a,hg=>by
  simp only [yd6,AF.get] at hg;split at hg
  ·simp only [X0] at hg;subst hg;exact U6 ..
  ·exact Z4 _ (je1 hg)
def wi3 {t} (x):okA H (zp6 T t x):=ze6 (yw0 t x) (by rw [yn8];intro i a;cases a)
def kq7: ∀ {ps:List PT} {x:zr4 T ps} {k:Nat} {H:List (Ent T.U)},k+(zc5 ps).length<=H.length-> ∀a∈yo2 T k ps x,okA H a:=by
 have one: ∀ {t:PT} {x:yo5 T t} {k:Nat} {H:List (Ent T.U)},k+t.cnt<=H.length->okA H (avP T k t x):=by
  intro t x k H h;cases t with
  |val t=>exact wi3 (t:=t) x
  |io e t=>exact ⟨fun i hi=>by simp [avP,AV.ids] at hi;subst hi;simp [PT.cnt] at h;omega,trivial⟩
 have hcons: ∀(t:PT) (q:List PT),(zc5 (t::q)).length=t.cnt+(zc5 q).length:=by
  intro t q;cases t<;>simp [zc5,PT.cnt];omega
 intro ps;induction ps with
 |nil=>intro x k H _ a h;cases h
 |cons t q ih=>
  intro x k H hk a h;rw [hcons] at hk;cases q with
  |nil=>simp only [yo2,Q5] at h;subst h;exact one (by simpa [zc5] using hk)
  |cons s r=>
   simp only [yo2] at h
   grind
def qd6: ∀ {ps x k},(yo2 T k ps x).length=ps.length
 | [],_,_=>rfl
 | [_],_,_=>rfl
 |_::s::r,x,k=>by simp only [yo2,U3];rw [qd6];rfl
def je7: ∀ {ps x},(zw7 T ps x).length=(zc5 ps).length:=by
 intro ps;induction ps with
 |nil=>intro x;rfl
 |cons t q a=>
  intro x;cases q with
  |nil=>cases t<;>rfl
  |cons s r=>
   show (jz4 T t x.1++zw7 T (s::r) x.2).length=_;rw [X9,a];cases t<;>simp [jz4,zc5];omega
def kb3: ∀ {ps:List PT} {x:zr4 T ps} {e:Ent T.U},e∈zw7 T ps x->e.cellIds= []:=by
 have one: ∀ {t:PT} {x:yo5 T t} {e:Ent T.U},e∈jz4 T t x->e.cellIds= []:=by
  intro t x e h;cases t with
  |val t=>cases h
  |io e' t=>simp only [jz4,Q5] at h;subst h;rfl
 intro ps;induction ps with
 |nil=>intro x e h;cases h
 |cons t q ih=>
  intro x e h;cases q with
  |nil=>exact one h
  |cons s r=>
   have h:e∈jz4 T t x.1++zw7 T (s::r) x.2:=h
   grind
def yh1 {F1':PF} {st:St T} (h:Sim T w0 S0 st F1' w S φ) {n:Nat} {ds:List Deferred} {a:Act} (ha:Fr n ds F1' a): ∀ {l:List ResultVar} {aS:List (AV T.U)},qb5 T P st l=some aS->
  ∃us,VRL T w S φ aS us/\ ∀ {f:ResultVar->Sem Value},(∀t,f (.tmp t)=Pure.pure (a.tmps.getD t undef))->(∀c t,f (.cell c t)=(do loadVar t (<-asAddr (a.tmps.getD c undef))))->(l.mapM f).run P w=.ok us w
 | [],aS,hr=>by simp only [qb5,X0] at hr;subst hr;exact ⟨[],trivial,fun _ _=>rfl⟩
 | .tmp t::r,aS,hr=>by
  unfold qb5 at hr;split at hr
  ·rename_i b l hb hl;simp only [X0] at hr;subst hr;obtain ⟨v,h1,h2⟩:=h.fr t b hb;obtain ⟨us,h4,h3⟩:=yh1 h ha hl;refine ⟨v::us,⟨h2,h4⟩,fun hf1 hf2=>?_⟩;have e:=(ha.val t v h1).1;simp only [T2,hf1,Sem.run_bind,Sem.run_pure,Result.andThen_ok,e];rw [h3 hf1 hf2];rfl
  ·cases hr
 | .cell c t::r,aS,hr=>by
  unfold qb5 at hr;split at hr
  ·rename_i i o l hb hl;split at hr
   ·rename_i e cs hi;split at hr
    ·rename_i b hlo;simp only [X0] at hr;subst hr;obtain ⟨v,h1,g,h2,rfl⟩:=h.fr c _ hb;obtain ⟨g',cv,h5,h6,_,h7⟩:=h.ents i _ hi;rw [h2] at h5;simp only [X0,Addr.mk.injEq,and_true] at h5;subst h5;obtain ⟨v,h8,h9⟩:=vt5 h7 hlo;obtain ⟨us,h4,h3⟩:=yh1 h ha hl;refine ⟨v::us,⟨h9,h4⟩,fun hf1 hf2=>?_⟩;have e:=(ha.val c _ h1).1;simp only [T2,hf2,Sem.run_bind,Result.andThen_ok,e,asAddr,Sem.run_pure,zn4 h6 h8];rw [h3 hf1 hf2];rfl
    ·cases hr
   ·cases hr
  ·cases hr
def jh8 {fn:Func} {F1':PF} {st:St T} (h:Sim T w0 S0 st F1' w S φ) {n:Nat} {ds:List Deferred} {a:Act} (ha:Fr n ds F1' a) {aS:List (AV T.U)} (hr:qb5 T P st fn.results.toList=some aS): ∃us,(results fn a.tmps).run P w=.ok (ye2 us) w/\VRL T w S φ aS us:=by
 obtain ⟨us,h2,h1⟩:=yh1 (P:=P) h ha hr;refine ⟨us,?_,h2⟩;unfold results;rw [T7];simp only [Sem.run_bind,Sem.run_map];rw [h1 (fun _=>rfl) (fun _ _=>rfl)];simp only [Result.andThen_ok]
 match us with
 | []=>rfl
 | [v]=>rfl
 |u::v::r=>
  have:(u::v::r).toArray.size≠1:=by simp
  simp only [this,dite_false];rfl
def ja1 {st:St T} {F1':PF} {S:List Nat} {φ:Nat->RA} {S0:Ow} {w0 w:World} (h:Sim T w0 S0 st F1' w S φ): ∀ {l:List ResultVar} {aS:List (AV T.U)},qb5 T P st l=some aS-> ∀i∈za1 aS,i<st.H.length
 | [],aS,hr,i,hi=>by simp only [qb5,X0] at hr;subst hr;cases hi
 | .tmp t::r,aS,hr,i,hi=>by
  unfold qb5 at hr;split at hr<;>try (cases hr;done)
  rename_i b l hb hl;simp only [X0] at hr;subst hr;rw [za1] at hi;rcases X4.1 hi with hi|hi
  ·exact (h.ids t b hb).1 i hi
  ·exact ja1 h hl i hi
 | .cell c t::r,aS,hr,i,hi=>by
  unfold qb5 at hr;split at hr<;>try (cases hr;done)
  rename_i i0 o l hb hl;split at hr<;>try (cases hr;done)
  rename_i e cs hc;split at hr<;>try (cases hr;done)
  rename_i b hlo;simp only [X0] at hr;subst hr;rw [za1] at hi;rcases X4.1 hi with hi|hi
  ·exact h.eids i0 _ hc i (qf8 hlo i hi)
  ·exact ja1 h hl i hi
def Sim.noF {st} (h:Sim T w0 S0 st F' w S φ):Sim T w0 S0 ⟨[],st.H⟩ F' w S φ:=
 ⟨fun i a b=>by simp [AF.get] at b,fun i a b=>by simp [AF.get] at b,h.chg,h.own,h.ex,h.lives,h.pins,h.ents,h.eids,h.apart⟩
def gy6 {C:Ctx T} {f:FuncId} {fn:Func} {c:Code} {cuts:List (Pos×Cut)} {z:Zw} {ps:List PT} {rs:List RT} {g:zr4 T ps->Option (zt8 T (zc5 ps) (zp7 T rs))} (hm:P.follows .mixedOrders=true) (hE:zb1 T P C.E)
  (hf:P.funcs[f]?=some fn) (hb:fn.body=some c) (hs:Nat.ble ps.length fn.ntmps=true) (hpin:Nat.ble (zc5 ps).length C.pin=true) (hg: ∀x y,g x=some y-> ∃m,topF T P C cuts fn c z ps rs m x=some y):vr3 T P f ⟨ps,rs,g⟩:=by
 intro x y hy w S φ vs hvs hS hent hsin hap;obtain ⟨N,hN⟩:=hg x y hy;have hlen:vs.length=ps.length:=by rw [<-hvs.len T];exact qd6
 have hsz:vs.length<=fn.ntmps:=by rw [hlen];exact Y1 hs
 have hfr:Fr fn.ntmps [] (jm8 vs 0) {tmps:=vs.toArray++Array.replicate (fn.ntmps-vs.toArray.size) undef,defers:= []}:=by
  refine ⟨by simp;omega,rfl,fun i v hv=>?_⟩;obtain ⟨_,h2⟩:=yf4 vs 0 i v hv;simp only [M4] at h2;have hi:=(X2.1 h2).1;refine ⟨?_,by omega⟩;rw [Y7,Array.getElem?_append_left (by simpa using hi)];simp [h2]
 have hrow: ∀(i:Nat) (e:Ent T.U),(zw7 T ps x)[i]?=some e->i<(zc5 ps).length:=by
  intro i e he;have:=(X2.1 he).1;rwa [je7] at this
 have hsim:Sim T w ⟨zd8 φ (zc5 ps).length,S,(List.range (zc5 ps).length).map φ⟩ ⟨yd6 T (yo2 T 0 ps x) 0,zw7 T ps x⟩ (jm8 vs 0) w S φ:=by
  refine ⟨fun i a ha=>je0 hvs ha,fun i a ha=>kq7 (by rw [je7];omega) a (je1 ha),Chg.refl _ _,fun b hb=>⟨.inl hb,hS b hb⟩,fun b hb _ _=>hb,fun i e he hl a ha=>⟨hsin i (hrow i e he) a ha,.inl ?_⟩,fun k r hk=>?_,hent,fun i e he j hj=>?_,fun i j e e' he he' _ _ hij=>hap i j (hrow i e he) (hrow j e' he') hij⟩
  ·unfold zd8;exact V4.2 ⟨i,J3.2 (hrow i e he),zu8.2 ⟨a,ha,rfl⟩⟩
  ·have hlt:=(X2.1 hk).1;simp at hlt;simp [hlt] at hk;exact ⟨.of hk,by simp only [je7];exact hlt⟩
  ·rw [kb3 (X6 he)] at hj;cases hj
 have hpin':=Y1 hpin;have key: ∀st,kl8 T P fn z ps rs st=some y-> ∀F1 w1,zd1 T w ⟨zd8 φ (zc5 ps).length,S,(List.range (zc5 ps).length).map φ⟩ st F1 w1-> ∀a,Fr fn.ntmps [] F1 a-> ∃v,(results fn a.tmps).run P w1=.ok v w1/\
   ∃(F1:AF T) (H1:List (Ent T.U)) (F1':PF) (S1:List Nat) (φ1:Nat->RA) (aS:List (AV T.U)) (us:List Value),Sim T w ⟨zd8 φ (zc5 ps).length,S,(List.range (zc5 ps).length).map φ⟩ ⟨F1,H1⟩ F1' w1 S1 φ1/\VRL T w1 S1 φ1 aS us/\v=ye2 us/\rdIo T H1 (qm7 T H1 rs aS) (zc5 ps) 0=some y/\ze4 (zw5 T rs aS)=true/\ ∀i∈zw5 T rs aS,(zc5 ps).length<=i:=by
  intro st hst F1 w1 ⟨S1,φ1,hsm⟩ a ha;unfold kl8 at hst;split at hst<;>try (cases hst;done)
  rename_i as0 has;obtain ⟨us,h1,h2⟩:=jh8 hsm ha has;split at hst<;>try (cases hst;done)
  rename_i as1 H1 hw;obtain ⟨φw,hsmw,hvw,_⟩:=yi2 (by simp) z.w hw hsm.noF h2 (ja1 (P:=P) hsm has);obtain ⟨aS,H2,S2,hK,hsm2,hv2⟩:=yu9 z.z hst hsmw hvw;unfold gj1 at hK;split at hK<;>try (cases hK;done)
  rename_i hn;simp only [X3] at hn;refine ⟨_,h1,[],H2,F1,S2,φw,aS,us,hsm2,hv2,rfl,hK,hn.1,fun i hi=>?_⟩;have:=hn.2;rw [Y8] at this;exact Y1 (this i hi)
 have hKs:KsOk (bodyPost P fn fun e w'=>match e with
   | .returned v=> ∃(F1:AF T) (H1:List (Ent T.U)) (F1':PF) (S1:List Nat) (φ1:Nat->RA) (aS:List (AV T.U)) (us:List Value),Sim T w ⟨zd8 φ (zc5 ps).length,S,(List.range (zc5 ps).length).map φ⟩ ⟨F1,H1⟩ F1' w' S1 φ1/\VRL T w' S1 φ1 aS us/\v=ye2 us/\
     rdIo T H1 (qm7 T H1 rs aS) (zc5 ps) 0=some y/\ze4 (zw5 T rs aS)=true/\ ∀i∈zw5 T rs aS,(zc5 ps).length<=i
   |_=>False) fn.ntmps [] w ⟨zd8 φ (zc5 ps).length,S,(List.range (zc5 ps).length).map φ⟩ y (kl9 T P fn z ps rs):=by
  refine ⟨?_,fun i st h=>(by cases h),?_,fun a st h=>(by cases h)⟩
  ·intro st hst F1 w1 hs1 a ha;obtain ⟨v,h1,h2⟩:=key st hst F1 w1 hs1 a ha;exact ⟨ha.defers,v,h1,h2⟩
  ·intro st hst F1 w1 hs1 a ha;obtain ⟨v,h1,h2⟩:=key st hst F1 w1 hs1 a ha;exact ⟨ha.defers,v,h1,h2⟩
 have hp:((List.range (zc5 ps).length).map φ).length<=C.pin:=by simpa using hpin'
 exact calls_of_wp hf hb (zg0 hm hp hE c [] _ _ _ _ w hN hKs (JOk.run hm hp hE hKs N) ⟨S,φ,hsim⟩ _ hfr)
def q8:zb1 T P []:=fun f cs h=>by cases h
end
end Go.X
