import Derived.Test.YthhhfnfgmijggaaGreatA7
set_option linter.defProp false
namespace Go.X
open Go.RowKit Go.V
structure Ks (T:Tab) (R:Type) where
 normal:St T->Option R
 exit:Nat->St T->Option R
 ret:St T->Option R
 panic:AV T.U->St T->Option R
abbrev Pos:=List Bool
def gw5:Pos->Pos->Bool
 | [],[]=>true
 |true::a,true::b=>gw5 a b
 |false::a,false::b=>gw5 a b
 |_,_=>false
section
variable {T:Tab} {R:Type}
def vf3 (m:Nat) (l:Option Cut) (st:St T) (J K:St T->Option R):Option R:=
 match l with
 |none=>K st
 |some c=>match c.inl with
  |true=>K (dzS c.dz st)
  |false=>match c.whole with
  |true=>J st
  |false=>match uf2 T m c.l (jc1 T c.nils (dzS c.dz st)) with|some b=>J ⟨b.F,zf2 T c.bn b.H⟩|none=>none
def vm9:List (Nat×Nat)->Nat->Option Nat
 | [],_=>none
 |(j,m)::r,i=>match Nat.beq j i with|true=>some m|false=>vm9 r i
def jp1:List (Pos×Cut)->Pos->Option Cut
 | [],_=>none
 |(j,l)::r,i=>match gw5 j i with|true=>some l|false=>jp1 r i
variable (P:Program) (C:Ctx T) (n:Nat) (cuts:List (Pos×Cut))
def Ks.behind (K:Ks T R) (f:St T->Option R):Ks T R:=⟨f,K.exit,K.ret,K.panic⟩
def Ks.block (K:Ks T R) (id:Nat):Ks T R:=⟨K.normal,fun i st=>match Nat.beq i id with|true=>K.normal st|false=>K.exit i st,K.ret,K.panic⟩
section
variable (J:Pos->St T->Option R)
noncomputable def evC:Code->Pos->Ks T R->St T->Option R
 | .skip,_,K,st=>K.normal st
 | .region id ops d,_,K,st=>match d with
  |false=>regA P C ops n K.panic K.normal st
  |true=>match vm9 C.ms id with
   |some m=>ue4 T P C ops n (Nat.beq m 1) K.panic K.normal st
   |none=>match Region.lexB .any ops with|true=>regQ P C ops n K.normal st|false=>none
 | .seq x y,q,K,st=>evC x (false::q) (K.behind fun st=>vf3 C.pin (jp1 cuts q) st (J q) (evC y (true::q) K)) st
 | .cond c x y,q,K,st=>match aev T st.F c with
  |some (.cell ⟨.bool,b⟩)=>z9 b (evC x (false::q) K st) (evC y (true::q) K st)
  |_=>none
 | .block id c,q,K,st=>evC c (false::q) (K.block id) st
 | .exit id,_,K,st=>K.exit id st
 | .loop _,q,_,st=>vf3 C.pin (jp1 cuts q) st (J q) fun _=>none
 | .ret,_,K,st=>K.ret st
 |_,_,_,_=>none
noncomputable def qw3:Code->Pos->Ks T R->List Bool->St T->Option R
 | .seq _ y,q,K,[],st=>evC P C n cuts J y (true::q) K st
 | .seq x y,q,K,false::r,st=>qw3 x (false::q) (K.behind fun st=>vf3 C.pin (jp1 cuts q) st (J q) (evC P C n cuts J y (true::q) K)) r st
 | .seq _ y,q,K,true::r,st=>qw3 y (true::q) K r st
 | .cond _ x _,q,K,false::r,st=>qw3 x (false::q) K r st
 | .cond _ _ y,q,K,true::r,st=>qw3 y (true::q) K r st
 | .block id c,q,K,false::r,st=>qw3 c (false::q) (K.block id) r st
 | .loop c,q,K,[],st=>evC P C n cuts J c (false::q) (K.behind fun st=>vf3 C.pin (jp1 cuts q) st (J q) fun _=>none) st
 | .loop c,q,K,false::r,st=>qw3 c (false::q) (K.behind fun st=>vf3 C.pin (jp1 cuts q) st (J q) fun _=>none) r st
 |_,_,_,_,_=>none
end
noncomputable def run (c:Code) (K:Ks T R) (m:Nat):Pos->St T->Option R:=Nat.rec (fun _ _=>none) (fun _ b q st=>qw3 P C n cuts b c [] K q.reverse st) m
end
section
variable {P:Program} {Q:Exit->Act->World->Prop} {a:Act} {w:World}
def lwp (P:Program) (c:Code) (Q:Exit->Act->World->Prop) (a:Act) (w:World):Prop:=
 ∀(b:Frame) (k:List Item) (cs:List Frame),∃e d w',Q e d w'/\Arrives P (lone (b.at a (.code c:: .inLoop c::k)) cs w) b k cs e d w'
def qt6 {c} (h:lwp P c Q a w):(Code.loop c).wp P Q a w:=by
 intro b k cs;obtain ⟨e,f,w',g,d⟩:=h b k cs;exact ⟨e,f,w',g,.of_steps (.one step_loop) d⟩
def ui5 {c:Code} (h:c.wp P (Exit.then (lwp P c Q) Q) a w):lwp P c Q a w:=by
 intro b k cs;obtain ⟨e,a₁,w₁,hq,harr⟩:=h b (.inLoop c::k) cs;cases e with
 |normal=>
  obtain ⟨e₂,a₂,w₂,hq₂,harr₂⟩:=hq b k cs;exact ⟨e₂,a₂,w₂,hq₂,.of_steps (Steps.trans harr (.one step_inLoop)) harr₂⟩
 |exit id=>exact ⟨_,a₁,w₁,hq,.pass (x:=.inLoop c) rfl (fun _ _=>.inl (by simp)) harr⟩
 |goto l=>exact ⟨_,a₁,w₁,hq,.pass (x:=.inLoop c) rfl (fun _ _=>.inl (by simp)) harr⟩
 |ret=>exact ⟨_,a₁,w₁,hq,.pass (x:=.inLoop c) rfl (fun _ _=>.inl (by simp)) harr⟩
 |panic ch=>exact ⟨_,a₁,w₁,hq,.pass (x:=.inLoop c) rfl (fun _ _=>.inl (by simp)) harr⟩
 |outgrown=>exact ⟨_,a₁,w₁,hq,.pass (x:=.inLoop c) rfl (fun _ _=>.inl (by simp)) harr⟩
end
section
variable {T:Tab} {P:Program} {C:Ctx T} {w:World} {S:List Nat} {φ:Nat->RA} {w0:World} {S0:Ow} {F:AF T} {H:List (Ent T.U)} {F':PF}
variable {Q:Exit->Act->World->Prop} {n:Nat} {cuts:List (Pos×Cut)} {ds:List Deferred} {R:Type} {r:R}
def SK (n:Nat) (ds:List Deferred) (w0:World) (S0:Ow) (X:Act->World->Prop) (st:St T):Prop:= ∀b c,zc4 T w0 S0 st b c-> ∀a,Fr n ds b a->X a c
structure KsOk (Q:Exit->Act->World->Prop) (n:Nat) (ds:List Deferred) (w0:World) (S0:Ow) (r:R) (K:Ks T R):Prop where
 normal: ∀st,K.normal st=some r->SK n ds w0 S0 (Q .normal) st
 exit: ∀i st,K.exit i st=some r->SK n ds w0 S0 (Q (.exit i)) st
 ret: ∀st,K.ret st=some r->SK n ds w0 S0 (Q .ret) st
 panic: ∀a st,K.panic a st=some r->yu1 Q n ds w0 S0 a st
def yi4 {m l st J K} (e:S0.pin.length<=m) (h:vf3 m l st J K=some r) (d:zc4 T w0 S0 st F' w): ∃b,(K b=some r\/J b=some r)/\zc4 T w0 S0 b F' w:=by
 unfold vf3 at h;split at h
 ·exact ⟨st,.inl h,d⟩
 ·split at h
  ·exact ⟨_,.inl h,qb9 _ d⟩
  ·split at h
   ·exact ⟨st,.inr h,d⟩
   ·split at h
    ·rename_i c _ _ _ _ _ b f;exact ⟨_,.inr h,ze6 c.bn (js2 e (yd3 _ (qb9 _ d)) f)⟩
    ·cases h
def JOk (P:Program) (n:Nat) (ds:List Deferred) (w0:World) (S0:Ow) (r:R) (J:Pos->St T->Option R):Code->Pos->(Exit->Act->World->Prop)->Prop
 | .seq x y,q,Q=>(∀st,J q st=some r->SK n ds w0 S0 (y.wp P Q) st)/\JOk P n ds w0 S0 r J x (false::q) (Exit.then (y.wp P Q) Q)/\JOk P n ds w0 S0 r J y (true::q) Q
 | .cond _ x y,q,Q=>JOk P n ds w0 S0 r J x (false::q) Q/\JOk P n ds w0 S0 r J y (true::q) Q
 | .block id c,q,Q=>JOk P n ds w0 S0 r J c (false::q) (Exit.inBlock id Q)
 | .loop c,q,Q=>(∀st,J q st=some r->SK n ds w0 S0 (lwp P c Q) st)/\JOk P n ds w0 S0 r J c (false::q) (Exit.then (lwp P c Q) Q)
 |_,_,_=>True
def KsOk.block {K:Ks T R} (b:KsOk Q n ds w0 S0 r K) (id:Nat):KsOk (Exit.inBlock id Q) n ds w0 S0 r (K.block id):=by
 refine ⟨b.normal,?_,b.ret,b.panic⟩;intro i c f h j d a k;simp only [Ks.block] at f;simp only [Exit.inBlock];split at f
 ·rename_i g;rw [if_pos (X1 g)];exact b.normal c f h j d a k
 ·rename_i g;rw [if_neg (fun e=>by subst e;simp at g)];exact b.exit i c f h j d a k
def KsOk.behind {K:Ks T R} (g:KsOk Q n ds w0 S0 r K) {X f} (o: ∀st,f st=some r->SK n ds w0 S0 X st):KsOk (Exit.then X Q) n ds w0 S0 r (K.behind f):=
 ⟨o,fun i st h b c d a j=>g.exit i st h b c d a j,fun st h b c d a j=>g.ret st h b c d a j,fun a st h b c S1 k v d p l m e=>g.panic a st h b c S1 k v d p l m e⟩
variable {J:Pos->St T->Option R}
def zf7 (hm:P.follows .mixedOrders=true) (hp:S0.pin.length<=C.pin) (hE:zb4 T P C.E): ∀(c:Code) (q:Pos) (K:Ks T R) (st:St T) (Q:Exit->Act->World->Prop) (F':PF) (w:World),evC P C n cuts J c q K st=some r->KsOk Q n ds w0 S0 r K->JOk P n ds w0 S0 r J c q Q->zc4 T w0 S0 st F' w->CW P c Q n ds F' w
 | .skip,q,K,st,Q,F',w,h,hK,hJ,hs=>.skip fun a ha=>hK.normal st h F' w hs a ha
 | .region id ops draw,q,K,st,Q,F',w,h,hK,hJ,hs=>by
  obtain ⟨S,φ,hs⟩:=hs;unfold evC at h;cases draw with
  |false=>exact .region (qg4 hE (fun st hst=>hK.normal st hst) hK.panic h hs)
  |true=>
   simp only at h;split at h
   ·exact vk2 hE hm (fun st hst=>hK.normal st hst) hK.panic h hs
   ·split at h
    ·rename_i hB;exact .regionQ hm hB (vk3 hE (fun st hst=>hK.normal st hst) h hs)
    ·cases h
 | .seq x y,q,K,st,Q,F',w,h,hK,hJ,hs=>by
  unfold evC at h;obtain ⟨j1,j2,j3⟩:=hJ;have:=zf7 hm hp hE x _ _ st _ F' w h (hK.behind (X:=y.wp P Q) fun st1 h1 F1 w1 hs1 a ha=>by
   obtain ⟨st2,h2,hs2⟩:=yi4 hp h1 hs1;rcases h2 with h2|h2
   ·exact zf7 hm hp hE y _ _ st2 Q F1 w1 h2 hK j3 hs2 a ha
   ·exact j1 st2 h2 F1 w1 hs2 a ha) j2 hs
  exact fun a ha=>wp_seq (this a ha)
 | .cond c x y,q,K,st,Q,F',w,h,hK,hJ,hs=>by
  unfold evC at h;split at h
  ·rename_i b hc;obtain ⟨S,φ,hs'⟩:=hs;obtain ⟨v,h1,h2⟩:=v4 hs'.fr hc;have:=zf6 h2;subst this;refine .cond b h1 (fun hb=>?_) fun hb=>?_
   ·rcases zh5 h with ⟨_,h⟩|⟨hb',_⟩
    ·exact zf7 hm hp hE x _ K st Q F' w h hK hJ.1 ⟨S,φ,hs'⟩
    ·exact absurd (hb.symm.trans hb') (by simp)
   ·rcases zh5 h with ⟨hb',_⟩|⟨_,h⟩
    ·exact absurd (hb.symm.trans hb') (by simp)
    ·exact zf7 hm hp hE y _ K st Q F' w h hK hJ.2 ⟨S,φ,hs'⟩
  ·cases h
 | .block id c,q,K,st,Q,F',w,h,hK,hJ,hs=>by
  unfold evC at h;exact .block (zf7 hm hp hE c _ _ st _ F' w h (hK.block id) hJ hs)
 | .exit id,q,K,st,Q,F',w,h,hK,hJ,hs=>.exit fun a ha=>hK.exit id st h F' w hs a ha
 | .ret,q,K,st,Q,F',w,h,hK,hJ,hs=>.ret fun a ha=>hK.ret st h F' w hs a ha
 | .loop c,q,K,st,Q,F',w,h,hK,hJ,hs=>by
  unfold evC at h;obtain ⟨st1,h1,hs1⟩:=yi4 hp h hs;rcases h1 with h1|h1
  ·cases h1
  ·exact fun a ha=>qt6 (hJ.1 st1 h1 F' w hs1 a ha)
 | .rangeFunc ..,_,_,_,_,_,_,h,_,_,_=>by unfold evC at h;cases h
 | .scope _,_,_,_,_,_,_,h,_,_,_=>by unfold evC at h;cases h
 | .label _,_,_,_,_,_,_,h,_,_,_=>by unfold evC at h;cases h
 | .goto _,_,_,_,_,_,_,h,_,_,_=>by unfold evC at h;cases h
 | .refuse _,_,_,_,_,_,_,h,_,_,_=>by unfold evC at h;cases h
def JOk.none: ∀(c q Q),JOk P n ds w0 S0 r (fun (_:Pos) (_:St T)=>Option.none) c q Q
 | .seq x y,q,Q=>⟨fun st h=>(by cases h),JOk.none x _ _,JOk.none y _ _⟩
 | .cond _ x y,q,Q=>⟨JOk.none x _ _,JOk.none y _ _⟩
 | .block id c,q,Q=>JOk.none c _ _
 | .loop c,q,Q=>⟨fun st h=>(by cases h),JOk.none c _ _⟩
 | .skip,_,_=>trivial
 | .region ..,_,_=>trivial
 | .exit _,_,_=>trivial
 | .ret,_,_=>trivial
 | .rangeFunc ..,_,_=>trivial
 | .scope _,_,_=>trivial
 | .label _,_,_=>trivial
 | .goto _,_,_=>trivial
 | .refuse _,_,_=>trivial
def JOk.next (i:P.follows .mixedOrders=true) (e:S0.pin.length<=C.pin) (j:zb4 T P C.E) {z M N} (d: ∀q st,N q st=qw3 P C n cuts J z [] M q.reverse st):
  ∀(c q K Q),(∀s st,qw3 P C n cuts J z [] M (q.reverse++s) st=qw3 P C n cuts J c q K s st)->KsOk Q n ds w0 S0 r K->JOk P n ds w0 S0 r J c q Q->JOk P n ds w0 S0 r N c q Q
 | .seq x y,q,K,Q,b,f,o=>by
  obtain ⟨B,A,D⟩:=o;have k:KsOk (Exit.then (y.wp P Q) Q) n ds w0 S0 r (K.behind fun st=>vf3 C.pin (jp1 cuts q) st (J q) (evC P C n cuts J y (true::q) K)):=f.behind (X:=y.wp P Q) fun G I p t v a u=>by
   obtain ⟨l,g,m⟩:=yi4 e I v;rcases g with g|g
   ·exact zf7 i e j y _ _ l Q p t g f D m a u
   ·exact B l g p t m a u
  refine ⟨?_,JOk.next i e j d x _ _ _ (fun s st=>?_) k A,JOk.next i e j d y _ _ _ (fun s st=>?_) f D⟩
  ·intro st h p t L a u;rw [d,<-List.append_nil q.reverse,b] at h;exact zf7 i e j y _ _ st Q p t h f D L a u
  ·rw [T5,Q4];exact b _ st
  ·rw [T5,Q4];exact b _ st
 | .cond _ x y,q,K,Q,b,f,o=>by
  refine ⟨JOk.next i e j d x _ _ _ (fun s st=>?_) f o.1,JOk.next i e j d y _ _ _ (fun s st=>?_) f o.2⟩
  ·rw [T5,Q4];exact b _ st
  ·rw [T5,Q4];exact b _ st
 | .block id c,q,K,Q,b,f,o=>by
  refine JOk.next i e j d c _ _ _ (fun s st=>?_) (f.block id) o;rw [T5,Q4];exact b _ st
 | .loop c,q,K,Q,b,f,o=>by
  obtain ⟨B,A⟩:=o;have k:KsOk (Exit.then (lwp P c Q) Q) n ds w0 S0 r (K.behind fun st=>vf3 C.pin (jp1 cuts q) st (J q) fun _=>Option.none):=f.behind (X:=lwp P c Q) fun G I p t v a u=>by
   obtain ⟨l,g,m⟩:=yi4 e I v;rcases g with g|g
   ·cases g
   ·exact B l g p t m a u
  refine ⟨?_,JOk.next i e j d c _ _ _ (fun s st=>?_) k A⟩
  ·intro st h p t L a u;rw [d,<-List.append_nil q.reverse,b] at h;exact ui5 (zf7 i e j c _ _ st _ p t h k A L a u)
  ·rw [T5,Q4];exact b _ st
 | .skip,_,_,_,_,_,_=>trivial
 | .region ..,_,_,_,_,_,_=>trivial
 | .exit _,_,_,_,_,_,_=>trivial
 | .ret,_,_,_,_,_,_=>trivial
 | .rangeFunc ..,_,_,_,_,_,_=>trivial
 | .scope _,_,_,_,_,_,_=>trivial
 | .label _,_,_,_,_,_,_=>trivial
 | .goto _,_,_,_,_,_,_=>trivial
 | .refuse _,_,_,_,_,_,_=>trivial
def JOk.run (d:P.follows .mixedOrders=true) (e:S0.pin.length<=C.pin) (f:zb4 T P C.E) {b c Q} (g:KsOk Q n ds w0 S0 r c): ∀m:Nat,JOk P n ds w0 S0 r (Go.X.run P C n cuts b c m) b [] Q
 |0=>JOk.none b [] Q
 |m+1=>JOk.next d e f (fun _ _=>rfl) b [] c Q (fun _ _=>rfl) g (JOk.run d e f g m)
end
end Go.X
namespace Go.X
open Go.RowKit Go.V
section
variable (T:Tab)
def ks4 (m:Nat):List Nat->List (AV T.U)->List (Ent T.U)->Option (List (AV T.U)×List (Ent T.U))
 | [],as,H=>some (as,H)
 |j::r,as,H=>match as[j]? with
  |some (.asl i o sz n a k)=>match H[i]? with
   |some (.blk e [b])=>match jm8 b with
    |some ⟨t,c,xs⟩=>match Nat.beq o 0&&(Nat.beq a 0&&(Nat.beq c n&&(Nat.beq k n&&(Nat.beq sz (szT T t)&&(Nat.ble n 9223372036854775807&&Nat.ble 1 n&&(Nat.ble m i&&(!(ye4 i (v5 (as.set j (.raw undef))))&&H.all fun e=> !(ye4 i e.cellIds)))))))) with
     |true=>ks4 m r (as.set j (.own i)) (H.set i (.row e t xs))
     |false=>none
    |none=>none
   |_=>none
  |some _=>ks4 m r as H
  |none=>none
structure Zw where
 w:List Nat
 z:List (Nat×Ty)
end
section
variable {T:Tab} {w:World} {S:List Nat} {w0:World} {S0:Ow} {F':PF}
def yi8 {m} (M:S0.pin.length<=m): ∀(l) {as A us H H' φ},ks4 T m l as H=some (A,H')->Sim T w0 S0 ⟨[],H⟩ F' w S φ->VRL T w S φ as us->(∀i∈v5 as,i<H.length)->
  ∃φ',Sim T w0 S0 ⟨[],H'⟩ F' w S φ'/\VRL T w S φ' A us/\ ∀i∈v5 A,i<H'.length
 | [],as,A,us,H,H',φ,h,u,O,C=>by
  simp only [ks4,X0,X7] at h;obtain ⟨rfl,rfl⟩:=h;exact ⟨φ,u,O,C⟩
 |j::r,as,A,us,H,H',φ,h,u,O,C=>by
  unfold ks4 at h;split at h
  ·rename_i i o sz n lo k Q;split at h<;>try (cases h;done)
   rename_i e b hi;split at h<;>try (cases h;done)
   rename_i t n' xs hb;have:=zt7 hb;subst this;split at h<;>try (cases h;done)
   rename_i hc;simp only [X3,V4] at hc;obtain ⟨c1,c2,c3,c4,c5,c6,c7,c8,c9⟩:=hc;have:=X1 c1;subst this;have:=X1 c2;subst this;have:=X1 c3;subst this;have:=X1 c4;subst this;have:=X1 c5;subst this;have c60:=Y1 c6.2;have c6:=Y1 c6.1;have c7:=Y1 c7;have R:=(X2.1 hi).1;obtain ⟨g,c,a1,a2,a3,a4,a5⟩:=u.ents i _ hi;have G:xs.length=k:=a5.1;have V:CellsR T w S (xs.flatMap (zd1 T t)) c.toList:=by
    have:=a4;rw [zi0,zi0,M4] at this;exact VRL.cells.1 this
   have X:c.size=k*szT T t:=by
    have:=V.1;rw [flatMap_lenT (w6 T t),G] at this;simpa using this.symm
   let φ':Nat->RA:=setR φ i ⟨some ⟨g,0,none⟩,k,k,(φ i).xs⟩
   have y: ∀q,q≠i->φ' q=φ q:=fun q p=>zi5 p;have Y: ∀q,(φ' q).ad=(φ q).ad:=fun q=>by
    by_cases p:q=i
    ·subst p;show (setR φ q _ q).ad=_;rw [w4];exact a1.symm
    ·rw [y q p]
   have I: ∀ {q:Nat} {z:Addr},At (φ' q) z->At (φ q) z:=fun {q z} s=>by
    rcases s with s|s
    ·exact .inl (by rw [<-Y];exact s)
    ·right;by_cases p:q=i
     ·subst p;have N:(setR φ q ⟨some ⟨g,0,none⟩,k,k,(φ q).xs⟩ q).xs=(φ q).xs:=by rw [w4]
      exact N▸s
     ·rw [<-y q p];exact s
   have hne: ∀(q:Nat) (f:Ent T.U),H[q]?=some f->i∉f.cellIds:=fun q f d M=>by
    have:=Y8.1 c9 f (X6 d);rw [zb9.2 M] at this;cases this
   have hs':Sim T w0 S0 ⟨[],H.set i (.row e t xs)⟩ F' w S φ':=by
    have D: ∀(q:Nat) (f:Ent T.U),(H.set i (.row e t xs))[q]?=some f->(q=i/\f=.row e t xs)\/(q≠i/\H[q]?=some f):=by
     intro q f d;by_cases p:q=i
     ·subst p;rw [Q0 R] at d;exact .inl ⟨rfl,(X5 d).symm⟩
     ·rw [Z5 (Ne.symm p)] at d;exact .inr ⟨p,d⟩
    refine ⟨fun q a J=>by simp [AF.get] at J,fun q a J=>by simp [AF.get] at J,u.chg,u.own,u.ex,?_,fun q r hk=>?_,?_,?_,?_⟩
    ·intro q f d Z z s
     replace s:=I s
     rcases D q f d with ⟨p,E⟩|⟨_,E⟩
     ·rw [p] at s;exact u.lives i _ hi rfl z s
     ·exact u.lives q f E Z z s
    ·obtain ⟨q1,q2⟩:=u.pins q r hk;have hlt:=(X2.1 hk).1;exact ⟨by rw [y q (by omega)];exact q1,by simpa using q2⟩
    ·intro q f d;rcases D q f d with ⟨rfl,rfl⟩|⟨p,d⟩
     ·refine ⟨0,c.toList,?_,?_,J7 _,V,fun a J=>?_⟩
      ·show Own w 0 e (szT T t) (setR φ q _ q).ad (setR φ q _ q).n (setR φ q _ q).cap c.toList;rw [w4];exact Own.ofBlk a2 (J7 _) (W8 _) c6 X _ (Q5 (by simp [X]))
      ·show (setR φ q _ q).n=_;rw [w4];exact G.symm
      ·rw [Y,a1] at J;simp only [X0] at J;subst J;exact a3
     ·exact (u.ents q f d).phiE (y q p) fun x N=>.of (y x fun e=>hne q f d (e▸N))
    ·intro q f d x N;rcases D q f d with ⟨rfl,rfl⟩|⟨_,d⟩
     ·cases N
     ·have:=u.eids q f d x N;simpa using this
    ·intro q q' f f' d E Z hl' hqq z z' s K
     replace s:=I s;replace K:=I K
     have lv: ∀(q:Nat) (f:Ent T.U),(H.set i (.row e t xs))[q]?=some f->f.live=true-> ∃f0,H[q]?=some f0/\f0.live=true:=by
      intro q f d Z;rcases D q f d with ⟨p,_⟩|⟨_,d⟩
      ·rw [p];exact ⟨_,hi,rfl⟩
      ·exact ⟨f,d,Z⟩
     obtain ⟨f0,k1,k2⟩:=lv q f d Z;obtain ⟨f0',k1',k2'⟩:=lv q' f' E hl';exact u.apart q q' f0 f0' k1 k1' k2 k2' hqq z z' s K
   obtain ⟨v,hv1,hv2⟩:=O.get T Q;have hnot:i∉v5 (as.set j (.raw undef)):=fun M=>by rw [zb9.2 M] at c8;cases c8
   have hvs:VRL T w S φ' (as.set j (.own i)) us:=by
    have h1:=(O.set T j (a:=.raw undef) (v:=undef) (by rw [VR])).phi (φ':=φ') fun q p=>y q fun e=>hnot (e▸p);have h2:=h1.set T j (a:=.own i) (v:=v) (by
     obtain ⟨g',ad,p1,rfl,p2,p3⟩:=hv2;rw [a1] at p1;simp only [X0,Addr.mk.injEq,and_true] at p1;subst p1;rw [VR];show _=Value.slice (setR φ i _ i).ad (setR φ i _ i).n (setR φ i _ i).cap;rw [w4];rcases p3 with p3|p3
     ·omega
     ·subst p3;simp)
    rw [List.set_set,List.set_set] at h2;rwa [show us.set j v=us by
     obtain ⟨hlt,hg⟩:=X2.1 hv1;rw [<-hg,M3]] at h2
   exact yi8 M r h hs' hvs (by
    intro q p;obtain ⟨a,B,L⟩:=zt9 p;rcases M0 B with B|B
    ·have:=C q (zh0 B q L);simpa using this
    ·subst B;simp [AV.ids] at L;subst L;simpa using R)
  ·exact yi8 M r h u O C
  ·cases h
end
inductive PT where
 |val (t:Ty)
 |io (e:TypeId) (t:Ty)
inductive RT where
 |val (t:Ty)
 |own (e:TypeId) (t:Ty)
 |part (k:Nat)
section
variable (T:Tab)
def RT.scal:RT->Bool
 | .val t=>jj6 T t
 | .own _ t=>jj6 T t
 | .part _=>true
def jm1:List RT->Bool| []=>true|t::r=>t.scal T&&jm1 r
def qRs:List RT->Bool| []=>true| .val t::r=>jj6 T t&&qRs r|_::_=>false
def yo8:PT->Type
 | .val t=>den T.U t
 | .io _ t=>List (den T.U t)
def yi5:List PT->Type
 | []=>Unit
 | [t]=>yo8 T t
 |t::s::r=>yo8 T t×yi5 (s::r)
def jz8:RT->Type
 | .val t=>den T.U t
 | .own _ t=>List (den T.U t)
 | .part _=>Nat×Nat
def zz5:List RT->Type
 | []=>Unit
 | [t]=>jz8 T t
 |t::s::r=>jz8 T t×zz5 (s::r)
def zb7:List PT->List (TypeId×Ty)
 | []=> []
 | .val _::r=>zb7 r
 | .io e t::r=>(e,t)::zb7 r
def zz4:List (TypeId×Ty)->Type->Type
 | [],B=>B
 |(_,t)::r,B=>List (den T.U t)×zz4 r B
def PT.cnt:PT->Nat| .val _=>0| .io _ _=>1
def avP (k:Nat):(t:PT)->yo8 T t->AV T.U
 | .val t,x=>zq2 T t x
 | .io _ _,_=>.own k
def yo4 (k:Nat):(a:List PT)->yi5 T a->List (AV T.U)
 | [],_=> []
 | [t],x=> [avP T k t x]
 |t::s::r,x=>avP T k t x.1::yo4 (k+t.cnt) (s::r) x.2
def jw9:(t:PT)->yo8 T t->List (Ent T.U)
 | .val _,_=> []
 | .io e t,xs=> [.row e t xs]
def zw3:(a:List PT)->yi5 T a->List (Ent T.U)
 | [],_=> []
 | [t],x=>jw9 T t x
 |t::s::r,x=>jw9 T t x.1++zw3 (s::r) x.2
def rdIn (H:List (Ent T.U)):(t:PT)->AV T.U->Option (yo8 T t)
 | .val t,a=>jx4 T t a
 | .io e t,a=>rdOwnI H e t a
where
 rdOwnI (H:List (Ent T.U)) (e:TypeId) (t:Ty):AV T.U->Option (List (den T.U t))
  | .own i=>match H[i]? with
   |some (.row e' t' xs)=>match Nat.beq e' e with|true=>(if h:t'=t then some (h▸xs) else none)|false=>none
   |_=>none
  |_=>none
def zo4:List PT->List (AV T.U)->List Nat
 | .io _ _::r,.own i::as=>i::zo4 r as
 |_::r,_::as=>zo4 r as
 |_,_=> []
def ks8 (H:List (Ent T.U)):(b:List PT)->List (AV T.U)->Option (yi5 T b)
 | [],[]=>some ()
 | [t],[a]=>rdIn T H t a
 |t::s::r,a::as=>match rdIn T H t a,ks8 H (s::r) as with|some x,some y=>some (x,y)|_,_=>none
 |_,_=>none
def jr1 {R:Type} (H:List (Ent T.U)):(t:PT)->AV T.U->(yo8 T t->Option R)->Option R
 | .val t,a,K=>rdF T H t a K
 | .io _ _,_,_=>none
def jj5 {R:Type} (H:List (Ent T.U)):(b:List PT)->List (AV T.U)->(yi5 T b->Option R)->Option R
 | [],[],K=>K ()
 | [t],[a],K=>jr1 T H t a K
 |t::s::r,a::as,K=>jr1 T H t a fun x=>jj5 H (s::r) as fun y=>K (x,y)
 |_,_,_=>none
def wc8 (H:List (Ent T.U)) (e:TypeId) (t:Ty):AV T.U->Option (List (den T.U t))
 | .own i=>match H[i]? with
  |some (.row a b xs)=>match Nat.beq a e with|true=>(if h:b=t then some (h▸xs) else none)|false=>none
  |_=>none
 | .sl i sz 0 n=>match H[i]? with
  |some (.row a b xs)=>match Nat.beq a e,Nat.beq sz (szT T t) with|true,true=>(if h:b=t then (if n<=xs.length then some ((h▸xs:List (den T.U t)).take n) else none) else none)|_,_=>none
  |_=>none
 | .raw (.slice none 0 0)=>some []
 |_=>none
def vr1 (H:List (Ent T.U)) (k:Nat):AV T.U->Option (Nat×Nat)
 | .own i=>match Nat.beq i k,H[i]? with|true,some (.row _ _ xs)=>some (0,xs.length)|_,_=>none
 | .sl i sz o n=>match Nat.beq i k,H[i]? with|true,some (.row _ t _)=>(match Nat.beq sz (szT T t) with|true=>some (o,n)|false=>none)|_,_=>none
 |_=>none
def rdR (H:List (Ent T.U)):(t:RT)->AV T.U->Option (jz8 T t)
 | .val t,a=>jx4 T t a
 | .own e t,a=>wc8 T H e t a
 | .part k,a=>vr1 T H k a
def vb7 (H:List (Ent T.U)):(rs:List RT)->List (AV T.U)->Option (zz5 T rs)
 | [],[]=>some ()
 | [t],[a]=>rdR T H t a
 |t::s::r,a::as=>match rdR T H t a,vb7 H (s::r) as with|some x,some y=>some (x,y)|_,_=>none
 |_,_=>none
def rdIo {a:Type} (H:List (Ent T.U)) (B:Option a):(ios:List (TypeId×Ty))->Nat->Option (zz4 T ios a)
 | [],_=>B
 |(e,t)::r,k=>match rdAt H e t k,rdIo H B r (k+1) with|some xs,some y=>some (xs,y)|_,_=>none
where
 rdAt (H:List (Ent T.U)) (e:TypeId) (t:Ty) (k:Nat):Option (List (den T.U t)):=
  match H[k]? with
  |some (.row e' t' xs)=>match Nat.beq e' e with|true=>(if h:t'=t then some (h▸xs) else none)|false=>none
  |_=>none
def avR (ids:List Nat) (ios:List (TypeId×Ty)) (b:Nat):(t:RT)->jz8 T t->AV T.U
 | .val t,x=>zq2 T t x
 | .own _ _,_=>.own b
 | .part k,x=>.sl (ids.getD k 0) (szT T (ios.getD k (0,.bool)).2) x.1 x.2
def entR:(t:RT)->jz8 T t->List (Ent T.U)
 | .val _,_=> []
 | .own e t,xs=> [.row e t xs]
 | .part _,_=> []
def RT.cnt:RT->Nat| .own _ _=>1|_=>0
def jf9 (ids:List Nat) (ios:List (TypeId×Ty)) (b:Nat):(rs:List RT)->zz5 T rs->List (AV T.U)
 | [],_=> []
 | [t],x=> [avR T ids ios b t x]
 |t::s::r,x=>avR T ids ios b t x.1::jf9 ids ios (b+t.cnt) (s::r) x.2
def jz9:(rs:List RT)->zz5 T rs->List (Ent T.U)
 | [],_=> []
 | [t],x=>entR T t x
 |t::s::r,x=>entR T t x.1++jz9 (s::r) x.2
def yl2 {a:Type}:(ios:List (TypeId×Ty))->zz4 T ios a->List (Ent T.U)
 | [],_=> []
 |(e,t)::r,x=>.row e t x.1::yl2 r x.2
def yl5 {a:Type}:(ios:List (TypeId×Ty))->zz4 T ios a->a
 | [],x=>x
 |_::r,x=>yl5 r x.2
def ze1 (H:List (Ent T.U)):List Nat->List (Ent T.U)->List (Ent T.U)
 |i::r,e::es=>ze1 (H.set i e) r es
 |_,_=>H
def zk3:List (AV T.U)->AV T.U
 | [a]=>a
 |as=>.tup as
def jq0:RT->AV T.U->List Nat
 | .own _ _,.own i=> [i]
 | .own _ _,.sl i _ _ _=> [i]
 |_,_=> []
def zv9:List RT->List (AV T.U)->List Nat
 |t::r,a::as=>jq0 T t a++zv9 r as
 |_,_=> []
end
section
variable {T:Tab} {P:Program} {w w':World} {S S':List Nat} {φ φ':Nat->RA} {w0:World} {S0:Ow} {F:AF T} {H:List (Ent T.U)} {F':PF}
def vb4 {t a x} (h:rdIn T H t a=some x) {v} (b:VR T w S φ a v) {φ' k} (c: ∀i,(∃e u,t=.io e u)->a=.own i->φ' k=φ i):VR T w S φ' (avP T k t x) v:=by
 cases t with
 |val t=>exact yh6 h b φ'
 |io e t=>
  cases a<;>try (cases h;done)
  rename_i i;rw [VR] at b;subst b;simp only [avP];rw [VR,c i ⟨e,t,rfl⟩ rfl]
def jo6 (t r a as):zo4 T (t::r) (a::as)=zo4 T [t] [a]++zo4 T r as:=by
 cases t with
 |val t=>cases a<;>rfl
 |io e t=>cases a<;>rfl
def ge0: ∀ {c as x},ks8 T H c as=some x-> ∀ {vs:List Value},VRL T w S φ as vs-> ∀ {φ':Nat->RA} {k:Nat},(∀j i,(zo4 T c as)[j]?=some i->φ' (k+j)=φ i)->VRL T w S φ' (yo4 T k c x) vs:=by
 intro c;induction c with
 |nil=>
  intro as x h vs b φ' k d
  match as,h,vs,b with
  | [],h,[],_=>exact trivial
  |_::_,h,_,_=>cases h
 |cons t q n=>
  intro as x h vs b φ' k d
  match as,h,vs,b with
  | [],h,_,_=>cases q<;>cases h
  |a::as,h,v::vs,b=>
   cases q with
   |nil=>
    cases as with
    |cons _ _=>cases h
    |nil=>
     match vs,b with
     | [],b=>
      refine ⟨vb4 h b.1 fun i g l=>?_,trivial⟩;obtain ⟨e,u,rfl⟩:=g;subst l;exact d 0 i rfl
   |cons s q=>
    have h:(match rdIn T H t a,ks8 T H (s::q) as with|some x,some y=>some (x,y)|_,_=>none)=some x:=h;split at h
    ·rename_i o p m r;have h:(o,p)=x:=X5 h;subst h;rw [jo6] at d;refine ⟨vb4 m b.1 fun i g l=>?_,n r b.2 fun j i z=>?_⟩
     ·obtain ⟨e,u,rfl⟩:=g;subst l;exact d 0 i rfl
     ·have f:(zo4 T [t] [a]).length=t.cnt:=by
       cases t with
       |val t=>cases a<;>rfl
       |io e t=>cases a<;>first|rfl|(cases m;done)
      have:=d (t.cnt+j) i (by rw [Z2 (by omega),f,N2];exact z);rwa [<-Nat.add_assoc] at this
    ·cases h
def qf9 {R:Type} {r:R} {t:PT} {a:AV T.U} {K:yo8 T t->Option R} (h:jr1 T H t a K=some r) (b:ji0 T w S φ H a.ids) {v:Value} (c:VR T w S φ a v) (φ':Nat->RA) (k:Nat): ∃x,K x=some r/\VR T w [] φ' (avP T k t x) v/\t.cnt=0/\jw9 T t x= []:=by
 cases t with
 |val t=>
  obtain ⟨x,d,f⟩:=vx5 (t:=t) h b c φ';exact ⟨x,d,f,rfl,rfl⟩
 |io e t=>cases h
def qg2 {R:Type} {r:R}: ∀ {d:List PT} {as:List (AV T.U)} {K:yi5 T d->Option R},jj5 T H d as K=some r->ji0 T w S φ H (v5 as)-> ∀ {vs:List Value},VRL T w S φ as vs-> ∀(φ':Nat->RA) (k:Nat),∃x,K x=some r/\VRL T w [] φ' (yo4 T k d x) vs/\zb7 d= []/\zw3 T d x= []:=by
 intro d;induction d with
 |nil=>
  intro as K h f vs b φ' k
  match as,h,vs,b with
  | [],h,[],_=>exact ⟨(),h,trivial,rfl,rfl⟩
  |_::_,h,_,_=>cases h
 |cons t q o=>
  intro as K h f vs b φ' k;have c:t.cnt=0->zb7 (t::q)=zb7 q:=by
   intro p;cases t with
   |val t=>rfl
   |io e t=>cases p
  match as,h,f,vs,b with
  | [],h,_,_,_=>cases q<;>cases h
  |a::as,h,f,v::vs,b=>
   cases q with
   |nil=>
    cases as with
    |cons _ _=>cases h
    |nil=>
     match vs,b with
     | [],b=>
      obtain ⟨x,j,l,m,n⟩:=qf9 (t:=t) h (fun i g=>f i (by rw [v5];exact X4.2 (.inl g))) b.1 φ' k;exact ⟨x,j,⟨l,trivial⟩,c m,n⟩
   |cons s q=>
    have h:jr1 T H t a (fun x=>jj5 T H (s::q) as fun y=>K (x,y))=some r:=h;obtain ⟨x,j,l,m,n⟩:=qf9 h (fun i g=>f i (by rw [v5];exact X4.2 (.inl g))) b.1 φ' k;obtain ⟨y,u,z,A,B⟩:=o j (fun i g=>f i (by rw [v5];exact X4.2 (.inr g))) b.2 φ' (k+t.cnt);refine ⟨(x,y),u,⟨l,z⟩,(c m).trans A,?_⟩;show jw9 T t x++zw3 T (s::q) y= [];rw [n,B];rfl
def qg1 {R:Type} {r:R}: ∀ {c:List PT} {as:List (AV T.U)} {K:yi5 T c->Option R},jj5 T H c as K=some r-> ∃x,K x=some r/\ ∀ {d:Type} (b:yi5 T c->Option d),jj5 T H c as b=b x:=by
 have one: ∀ {R:Type} {r:R} {t:PT} {a:AV T.U} {K:yo8 T t->Option R},jr1 T H t a K=some r-> ∃x,K x=some r/\ ∀ {d:Type} (b:yo8 T t->Option d),jr1 T H t a b=b x:=by
  intro R r t a K h;cases t with
  |val t=>exact jr0 (t:=t) h
  |io e t=>cases h
 intro c;induction c with
 |nil=>
  intro as K h
  match as,h with
  | [],h=>exact ⟨(),h,fun b=>rfl⟩
  |_::_,h=>cases h
 |cons t q f=>
  intro as K h
  match as,h with
  | [],h=>cases q<;>cases h
  |a::as,h=>
   cases q with
   |nil=>
    cases as with
    |cons _ _=>cases h
    |nil=>exact one (t:=t) h
   |cons s q=>
    have h:jr1 T H t a (fun x=>jj5 T H (s::q) as fun y=>K (x,y))=some r:=h;obtain ⟨x,g,i⟩:=one h;obtain ⟨y,j,k⟩:=f g;refine ⟨(x,y),j,fun b=>?_⟩;show jr1 T H t a (fun x=>jj5 T H (s::q) as fun y=>b (x,y))=b (x,y);rw [i,k]
end
end Go.X
namespace Go.X
open Go.RowKit Go.V
structure FnSpec (T:Tab) where
 ps:List PT
 rs:List RT
 g:yi5 T ps->Option (zz4 T (zb7 ps) (zz5 T rs))
def yf2:List Value->Value
 | [v]=>v
 |l=>.tuple l.toArray
def zd5 (φ:Nat->RA) (n:Nat):List Nat:=(List.range n).flatMap fun k=>(φ k).all
def ye6 (n:Nat):List RT->Bool| []=>true| .part k::r=>Nat.blt k n&&ye6 n r|_::r=>ye6 n r
section
variable (T:Tab) (P:Program)
def kr8 (f:FuncId) (c:FnSpec T):Prop:= ∀x y,c.g x=some y-> ∀(w:World) (S:List Nat) (φ:Nat->RA) (vs:List Value),VRL T w S φ (yo4 T 0 c.ps x) vs->(∀b∈S,b<w.heap.size)->
 (∀k e,(zw3 T c.ps x)[k]?=some e->EntR T w S φ k e)->(∀k,k<(zb7 c.ps).length-> ∀a,At (φ k) a->a.block∈S)->(∀j k,j<(zb7 c.ps).length->k<(zb7 c.ps).length->j≠k-> ∀a b,At (φ j) a->At (φ k) b->a.block≠b.block)->
 Calls P f vs.toArray w fun e w'=>match e with
  | .returned v=> ∃(l:AF T) (H1:List (Ent T.U)) (h:PF) (S1:List Nat) (d:Nat->RA) (as:List (AV T.U)) (us:List Value),Sim T w ⟨zd5 φ (zb7 c.ps).length,S,(List.range (zb7 c.ps).length).map φ⟩ ⟨l,H1⟩ h w' S1 d/\VRL T w' S1 d as us/\v=yf2 us/\
    rdIo T H1 (vb7 T H1 c.rs as) (zb7 c.ps) 0=some y/\zd6 (zv9 T c.rs as)=true/\ ∀i∈zv9 T c.rs as,(zb7 c.ps).length<=i
  |_=>False
def FnSpec.toCall {T:Tab} (a:FnSpec T):CallSpec T where
 call:=fun as H K _=>match ks8 T H a.ps as with
  |some x=>match zd6 (zo4 T a.ps as)&&ye6 (zo4 T a.ps as).length a.rs with
   |true=>z6 (a.g x) fun y=>K (zk3 T (jf9 T (zo4 T a.ps as) (zb7 a.ps) H.length a.rs (yl5 T (zb7 a.ps) y))) (ze1 T H (zo4 T a.ps as) (yl2 T (zb7 a.ps) y)++jz9 T a.rs (yl5 T (zb7 a.ps) y))
   |false=>none
  |none=>match jm1 T a.rs&&ye6 0 a.rs with
   |true=>jj5 T H a.ps as fun x=>z6 (a.g x) fun y=>K (zk3 T (jf9 T [] [] H.length a.rs (yl5 T (zb7 a.ps) y))) (H++jz9 T a.rs (yl5 T (zb7 a.ps) y))
   |false=>none
 q:=fun as H K=>match qRs T a.rs with
  |true=>jj5 T H a.ps as fun x=>z6 (a.g x) fun y=>K (zk3 T (jf9 T [] [] 0 a.rs (yl5 T (zb7 a.ps) y)))
  |false=>none
 isq:=qRs T a.rs
 wr:=fun as H=>match ks8 T H a.ps as with|some _=>zo4 T a.ps as|none=> []
def yb6:List (AV T.U)->Nat->AF T
 | [],_=> []
 |a::r,i=>(i,a)::yb6 r (i+1)
def jy9 (st:St T):List ResultVar->Option (List (AV T.U))
 | []=>some []
 | .tmp t::r=>match st.F.get T t,jy9 st r with|some a,some l=>some (a::l)|_,_=>none
 | .cell c t::r=>match st.F.get T c,jy9 st r with
  |some (.ptr i o),some l=>match st.H[i]? with
   |some (.blk _ cs)=>match ji9 T P t cs o with|some a=>some (a::l)|none=>none
   |_=>none
  |_,_=>none
def gj1 (a:List PT) (rs:List RT) (as:List (AV T.U)) (H:List (Ent T.U)):Option (zz4 T (zb7 a) (zz5 T rs)):=
 match zd6 (zv9 T rs as)&&(zv9 T rs as).all (fun i=>Nat.ble (zb7 a).length i) with
 |true=>rdIo T H (vb7 T H rs as) (zb7 a) 0
 |false=>none
def km6 (fn:Func) (z:Zw) (a:List PT) (rs:List RT) (st:St T):Option (zz4 T (zb7 a) (zz5 T rs)):=
 match jy9 T P st fn.results.toList with
 |some as=>match ks4 T (zb7 a).length z.w as st.H with
  |some (b,H1)=>wg5 T z.z b H1 (gj1 T a rs)
  |none=>none
 |none=>none
def km7 (fn:Func) (z:Zw) (a:List PT) (rs:List RT):Ks T (zz4 T (zb7 a) (zz5 T rs)):=⟨km6 T P fn z a rs,fun _ _=>none,km6 T P fn z a rs,fun _ _=>none⟩
noncomputable def topF (C:Ctx T) (a:List (Pos×Cut)) (fn:Func) (c:Code) (z:Zw) (b:List PT) (rs:List RT) (m:Nat) (x:yi5 T b):Option (zz4 T (zb7 b) (zz5 T rs)):=
 evC P C fn.ntmps a (run P C fn.ntmps a c (km7 T P fn z b rs) m) c [] (km7 T P fn z b rs) ⟨yb6 T (yo4 T 0 b x) 0,zw3 T b x⟩
noncomputable def cutF (C:Ctx T) (a:List (Pos×Cut)) (fn:Func) (c:Code) (z:Zw) (b:List PT) (rs:List RT) (m:Nat) (q:Pos) (st:St T):Option (zz4 T (zb7 b) (zz5 T rs)):=
 run P C fn.ntmps a c (km7 T P fn z b rs) m q st
end
section
variable {T:Tab} {P:Program} {w w':World} {S S':List Nat} {φ φ':Nat->RA} {w0:World} {S0:Ow} {F:AF T} {H:List (Ent T.U)} {F':PF}
def w7: ∀(ids es H),(ze1 T H ids es).length=H.length
 | [],_,H=>by simp [ze1]
 |_::_,[],H=>by simp [ze1]
 |i::r,e::es,H=>by rw [ze1,w7 r es];simp
def ze4 {j f}: ∀(ids es H),es.length=ids.length->(ze1 T H ids es)[j]?=some f->(∃k:Nat,ids[k]?=some j/\es[k]?=some f)\/(j∉ids/\H[j]?=some f)
 | [],[],H,_,h=>.inr ⟨by simp,by simpa [ze1] using h⟩
 | [],_::_,_,c,_=>by simp at c
 |_::_,[],_,c,_=>by simp at c
 |i::r,e::es,H,c,h=>by
  rw [ze1] at h;rcases ze4 r es _ (by simpa using c) h with ⟨k,d,a⟩|⟨d,a⟩
  ·exact .inl ⟨k+1,by simpa using d,by simpa using a⟩
  ·by_cases b:j=i
   ·subst b;have g:j<H.length:=by have:=(X2.1 a).1;simpa using this
    rw [Q0 g] at a;exact .inl ⟨0,rfl,by simpa using a⟩
   ·rw [Z5 (Ne.symm b)] at a;exact .inr ⟨by simp [b,d],a⟩
def Sim.io (h:Sim T w0 S0 ⟨F,H⟩ F' w S φ) {Tc} (M:Chg Tc w w') {S1} (Q: ∀b∈S,b∉Tc->b<w.heap.size->b∈S1) (h2: ∀b∈S1,b∈S\/(w.heap.size<=b/\b<w'.heap.size)) {ids es} (p:es.length=ids.length)
  (K: ∀b∈Tc,∃i∈ids,∃a,At (φ i) a/\a.block=b) (R: ∀i∈ids,∀a,At (φ i) a->a.block∈S1) (o: ∀(k i:Nat),ids[k]?=some i-> ∃(e:TypeId) (t:Ty) (xs ys:List (den T.U t)),H[i]?=some (.row e t xs)/\es[k]?=some (.row e t ys)/\EntR T w' S1 φ i (.row e t ys)):Sim T w0 S0 ⟨F,ze1 T H ids es⟩ F' w' S1 φ:=by
 have hS: ∀b∈S1,b∈S\/w.heap.size<=b:=fun b m=>(h2 b m).imp id And.left;have g: ∀i∈ids,∃(k:Nat) (e:TypeId) (t:Ty) (xs ys:List (den T.U t)),ids[k]?=some i/\H[i]?=some (.row e t xs)/\es[k]?=some (.row e t ys)/\EntR T w' S1 φ i (.row e t ys):=by
  intro i u;obtain ⟨k,N⟩:=Y9.1 u;obtain ⟨e,t,xs,ys,a,b,c⟩:=o k i N;exact ⟨k,e,t,xs,ys,N,a,b,c⟩
 have L: ∀b∈Tc,b∈S:=by
  intro b m;obtain ⟨i,u,a,l,rfl⟩:=K b m;obtain ⟨_,e,t,xs,ys,_,n,_⟩:=g i u;exact zh2 h n rfl l
 have D: ∀(j:Nat) (f:Ent T.U),(ze1 T H ids es)[j]?=some f-> ∃E,H[j]?=some E/\(f.live=true->E.live=true):=by
  intro j f z;rcases ze4 ids es H p z with ⟨k,n,d⟩|⟨_,d⟩
  ·obtain ⟨e,t,xs,ys,a,_,_⟩:=o k j n;exact ⟨_,a,fun _=>rfl⟩
  ·exact ⟨f,d,id⟩
 refine ⟨?_,?_,?_,?_,fun b m A B=>Q b (h.ex b m A B) (fun hm=>by
   obtain ⟨i,u,a,l,rfl⟩:=K b hm;obtain ⟨_,e,t,xs,ys,_,n,_⟩:=g i u;rcases (h.lives i _ n rfl a l).2 with s|s
   ·exact A s
   ·omega) (h.own b (h.ex b m A B)).2,?_,fun k r N=>?_,?_,?_,?_⟩
 ·intro i a l;obtain ⟨v,h3,h4⟩:=h.fr i a l;exact ⟨v,h3,h4.chg T M L hS⟩
 ·intro i a l;obtain ⟨n,d⟩:=h.ids i a l;refine ⟨fun x J=>by simp only [w7];exact n x J,?_⟩;cases a with
  |eptr y sz k c=>
   intro e1 t1 zs J;rcases ze4 ids es H p J with ⟨k',A,B⟩|⟨_,B⟩
   ·obtain ⟨e,t,xs,ys,a1,b1,c1⟩:=o k' y A;rw [b1] at B;simp only [X0,Ent.row.injEq] at B;obtain ⟨rfl,rfl,q3⟩:=B;have:=eq_of_heq q3;subst this;obtain ⟨q4,q5⟩:=d e t xs a1;obtain ⟨_,_,_,n1,_⟩:=h.ents y _ a1;obtain ⟨_,_,_,n2,_⟩:=c1;exact ⟨by omega,q5⟩
   ·exact d e1 t1 zs B
  |_=>trivial
 ·refine h.chg.step M fun b m=>?_;obtain ⟨i,u,a,l,rfl⟩:=K b m;obtain ⟨_,e,t,xs,ys,_,n,_⟩:=g i u;exact (h.lives i _ n rfl a l).2
 ·intro b m;rcases h2 b m with m|⟨m,V⟩
  ·exact ⟨(h.own b m).1,V6 (h.own b m).2 M.size⟩
  ·exact ⟨.inr (U5 h.chg.size m),V⟩
 ·intro j f z s a l;obtain ⟨E,n,d⟩:=D j f z;have q:=h.lives j E n (d s) a l;refine ⟨?_,q.2⟩;by_cases O:j∈ids
  ·exact R j O a l
  ·refine Q _ q.1 (fun m=>?_) (h.own _ q.1).2;obtain ⟨i,u,X,G,I⟩:=K _ m;obtain ⟨_,e,t,xs,ys,_,A,_⟩:=g i u;exact h.apart j i E _ n A (d s) rfl (fun e=>O (e▸u)) a X l G I.symm
 ·obtain ⟨n,d⟩:=h.pins k r N;exact ⟨n,by simp only [w7];exact d⟩
 ·intro j f z;rcases ze4 ids es H p z with ⟨k,n,d⟩|⟨O,d⟩
  ·obtain ⟨e,t,xs,ys,a,b,c⟩:=o k j n;rw [b] at d;simp only [X0] at d;subst d;exact c
  ·have C:f.live=true-> ∀a,At (φ j) a->a.block∉Tc:=fun s a l m=>by
    obtain ⟨i,u,X,G,I⟩:=K _ m;obtain ⟨_,e,t,xs,ys,_,A,_⟩:=g i u;exact h.apart j i f _ d A s rfl (fun e=>O (e▸u)) a X l G I.symm
   exact (h.ents j f d).chg T M L hS fun s a l=>⟨C s a l,Q _ (zh2 h d s l) (C s a l) (h.own _ (zh2 h d s l)).2⟩
 ·intro j f z x J;simp only [w7];rcases ze4 ids es H p z with ⟨k,n,d⟩|⟨_,d⟩
  ·obtain ⟨e,t,xs,ys,a,b,c⟩:=o k j n;rw [b] at d;simp only [X0] at d;subst d;cases J
  ·exact h.eids j f d x J
 ·intro j k f f' z Y s Z hjk a b l m;obtain ⟨E,n,d⟩:=D j f z;obtain ⟨f0',g1',g2'⟩:=D k f' Y;exact h.apart j k E f0' n g1' (d s) (g2' Z) hjk a b l m
def Up (T:Tab) (m:Bool) (w:World) (S S1:List Nat):Prop:= ∀(t:Ty) (x:den T.U t) (v:Value),(m=true->t.scal=true)->CR T w S t x v->CR T w S1 t x v
def gv5 {m S1} (a:Up T m w S S1): ∀ {cs:List (Cell T.U)} {vs},(m=true-> ∀c∈cs,c.t.scal=true)->VRL T w S φ (cs.map .cell) vs->VRL T w S1 φ' (cs.map .cell) vs
 | [],[],_,_=>trivial
 | [],_::_,_,h=>h.elim
 |_::_,[],_,h=>h.elim
 |c::r,_::_,b,h=>⟨a _ _ _ (fun e=>b e c (U8 ..)) h.1,gv5 a (fun e c d=>b e c (Z4 _ d)) h.2⟩
def wo7 {m S1} (a:Up T m w S S1) {t x v} (b:m=true->jj6 T t=true) (h:VR T w S φ (zq2 T t x) v):VR T w S1 φ' (zq2 T t x) v:=by
 cases t with
 |user i=>
  obtain ⟨vs,c,d⟩:=h;exact ⟨vs,c,gv5 a (fun e=>T.scals i x (b e)) d⟩
 |int k=>exact a _ _ _ b h
 |bool=>exact a _ _ _ b h
 |str=>exact a _ _ _ b h
 |list e=>exact a _ _ _ b h
def kb6 {t} (h:jj6 T t=true) (x): ∀c∈zd1 T t x,c.t.scal=true:=by
 cases t with
 |user i=>exact T.scals i x h
 |list e=>cases h
 |int k=>intro c a;simp only [zd1,Q6] at a;subst a;rfl
 |bool=>intro c a;simp only [zd1,Q6] at a;subst a;rfl
 |str=>intro c a;simp only [zd1,Q6] at a;subst a;rfl
def gg0 {m S1} (b:Up T m w S S1) {cs vs} (d:m=true-> ∀c∈cs,c.t.scal=true) (h:CellsR T w S cs vs):CellsR T w S1 cs vs:=
 ⟨h.1,fun j c v a f=>b _ _ _ (fun e=>d e c (X6 a)) (h.2 j c v a f)⟩
def yo1 (t x):(zq2 T t x).ids= []:=by
 cases t with
 |user i=>
  show v5 ((T.cells i x).map AV.cell)= [];induction T.cells i x with
  |nil=>rfl
  |cons c r a=>rw [U3,v5,a];rfl
 |_=>rfl
def yv8 (t x):zh4 (zq2 T t x)=true:=by cases t<;>rfl
def kl3 (w:World) (f:List (Ent T.U)) (c:Nat->RA) (used:List Nat) (H:List (Ent T.U)) (φ:Nat->RA):Prop:=
 ∀(j:Nat) (e:Ent T.U),H[j]?=some e->e.live=true-> ∀a,At (φ j) a->a.block<w.heap.size\/ ∃i∈used,(∃d,f[i]?=some d/\d.live=true)/\ ∃b,At (c i) b/\b.block=a.block
def ky4 {B n cap m sz e ad cs} (h:Own w B e sz ad n cap cs) (d:m<=n):Own w B e sz ad m cap (cs.take (m*sz)):=by
 rcases h.cases with ⟨rfl,l,rfl,rfl⟩|⟨c,a,f,g,i,b,j,k⟩
 ·have:m=0:=by omega
  subst this;simpa using Own.nil w B e sz
 ·rw [a];refine Own.ofBlk g f (by omega) b j _ ?_;rw [<-k,List.take_take,K6 (W0 _ d)]
def kj1 {o e t a y v I p r f c} (G:Sim T w r ⟨I,o⟩ p w' f c) (h:wc8 T o e t a=some y) (k:VR T w' f c a v):
  (y= []/\v=.slice none 0 0)\/ ∃i xs b B,jq0 T (.own e t) a= [i]/\o[i]?=some (.row e t xs)/\v=.slice (c i).ad y.length (c i).cap/\Own w' B e (szT T t) (c i).ad y.length (c i).cap b/\B<=w'.heap.size/\CellsR T w' f (y.flatMap (zd1 T t)) b/\ ∀q,(c i).ad=some q->q.block∈f:=by
 unfold wc8 at h;split at h
 ·rename_i i;split at h
  ·rename_i J d xs l;split at h
   ·rename_i g;have:=X1 g;subst this;split at h
    ·rename_i j;subst j;have h:xs=y:=X5 h;subst h;obtain ⟨B,b,m,s,u,x,z⟩:=G.ents i _ l;rw [VR] at k;subst k;rw [s] at m⊢;exact .inr ⟨i,xs,b,B,rfl,l,rfl,m,u,x,z⟩
    ·cases h
   ·cases h
  ·cases h
 ·rename_i i sz n;split at h
  ·rename_i J d xs l;split at h
   ·rename_i g A;have:=X1 g;subst this;have:=X1 A;subst this;split at h
    ·rename_i j;subst j;split at h
     ·rename_i C;have h:xs.take n=y:=X5 h;subst h;obtain ⟨B,b,m,s,u,x,z⟩:=G.ents i _ l;obtain ⟨ad,rfl,_,_,_,K⟩:=k;have:=K rfl;subst this;rw [s] at m;have D:(xs.take n).length=n:=by rw [Y6];omega
      refine .inr ⟨i,xs,b.take (n*szT T d),B,rfl,l,by rw [D];rfl,?_,u,?_,z⟩
      ·rw [D];exact ky4 m C
      ·have:=x.cut 0 (n*szT T d);rw [N3,N3] at this;have L:(xs.flatMap (zd1 T d)).take (n*szT T d)=(xs.take n).flatMap (zd1 T d):=by
        have E:xs.flatMap (zd1 T d)=(xs.take n).flatMap (zd1 T d)++(xs.drop n).flatMap (zd1 T d):=by rw [<-List.flatMap_append,Q9]
        rw [E,List.take_left' (by rw [zb3 (w6 T d),D])]
       rwa [L] at this
     ·cases h
    ·cases h
   ·cases h
  ·cases h
 ·have h: []=y:=X5 h;rw [VR] at k;exact .inl ⟨h.symm,k⟩
 ·cases h
def vy1 {m m0 G Fc Fc' S0c E S1 d} (hc:Sim T w S0c ⟨Fc,G⟩ Fc' w' E d) (hu:Up T m w' E S1) (hin: ∀b∈E,b∈S1) (hw:w0.heap.size<=w.heap.size)
  (R: ∀(i:Nat) (e:Ent T.U),m0<=i->G[i]?=some e->e.live=true-> ∀a,(d i).ad=some a->w.heap.size<=a.block)
  {t} (ht:m=true->t.scal T=true) {a v y} (V:VR T w' E d a v) (l:rdR T G t a=some y) {used} (X: ∀i∈jq0 T t a,i∉used/\m0<=i) {ids ios}
  (Y: ∀k,t=.part k-> ∃i,ids[k]?=some i/\RSame (d k) (φ i)/\i<H.length/\ ∀(e:TypeId) (t:Ty) (xs:List (den T.U t)),G[k]?=some (.row e t xs)->szT T t=szT T (ios.getD k (0,.bool)).2)
  (h:Sim T w0 S0 ⟨F,H⟩ F' w' S1 φ) (hf:kl3 w G d used H φ):
  ∃p,Sim T w0 S0 ⟨F,H++entR T t y⟩ F' w' S1 p/\VR T w' S1 p (avR T ids ios H.length t y) v/\kl3 w G d (jq0 T t a++used) (H++entR T t y) p/\(∀i,i<H.length->p i=φ i)/\ ∀i∈(avR T ids ios H.length t y).ids,i<(H++entR T t y).length:=by
 have I: ∀(hE:entR T t y= []) (Z:VR T w' S1 φ (avR T ids ios H.length t y) v) (f: ∀i∈(avR T ids ios H.length t y).ids,i<H.length),
   ∃p,Sim T w0 S0 ⟨F,H++entR T t y⟩ F' w' S1 p/\VR T w' S1 p (avR T ids ios H.length t y) v/\kl3 w G d (jq0 T t a++used) (H++entR T t y) p/\(∀i,i<H.length->p i=φ i)/\ ∀i∈(avR T ids ios H.length t y).ids,i<(H++entR T t y).length:=by
  intro hE Z f;rw [hE,M4];refine ⟨φ,h,Z,?_,fun i _=>rfl,f⟩;intro j e u L b g;rcases hf j e u L b g with z|⟨i,f,z⟩
  ·exact .inl z
  ·exact .inr ⟨i,X4.2 (.inr f),z⟩
 cases t with
 |val t=>
  have hval:jx4 T t a=some y:=l;refine I rfl (wo7 hu ht (yh6 hval V φ)) fun i f=>?_;have:(avR T ids ios H.length (.val t) y).ids= []:=yo1 t y;rw [this] at f;cases f
 |part k=>
  replace l:vr1 T G k a=some y:=l
  obtain ⟨i0,g1,g2,g3,g4⟩:=Y k rfl;have hgd:ids.getD k 0=i0:=by rw [Y2,g1];rfl
  refine I rfl ?_ fun i f=>by
   simp only [avR,AV.ids,Q6] at f;subst f;rw [hgd];exact g3
  show VR T w' S1 φ (.sl (ids.getD k 0) (szT T (ios.getD k (0,.bool)).2) y.1 y.2) v;rw [hgd,VR,<-g2.1,<-g2.2.2];unfold vr1 at l;split at l
  ·rename_i i;split at l
   ·rename_i J t1 xs M f;have:=X1 M;subst this;have l:(0,xs.length)=y:=X5 l;subst l;obtain ⟨B,K,O,o2,o3,o4,o5⟩:=hc.ents i _ f;rw [VR] at V;subst V;rw [o2] at O;refine ⟨(d i).ad,?_,?_,?_,fun hn=>O.nil0 hn,fun _=>rfl⟩
    ·show Value.slice (d i).ad (d i).n (d i).cap=Value.slice (d i).ad xs.length ((d i).cap-0);rw [o2];rfl
    ·show 0+xs.length<=(d i).cap;rw [U2];exact O.le.1
    rcases O.cases with ⟨_,hn,_⟩|⟨c,had,_⟩
    ·exact .inl hn
    ·refine .inr ⟨_,had,had.trans ?_⟩;show some (⟨_,0,none⟩:Addr)=some ⟨_,0+0*_,none⟩;rw [M5]
   ·cases l
  ·rename_i i sz o n;split at l
   ·rename_i J t1 xs M f;have:=X1 M;subst this;split at l
    ·rename_i hsz;have:=X1 hsz;subst this;have l:(o,n)=y:=X5 l;subst l;rw [<-g4 J t1 xs f];exact V
    ·cases l
   ·cases l
  ·cases l
 |own e t=>
  rcases kj1 hc l V with ⟨rfl,rfl⟩|⟨i,xs,K,B,hid,f,rfl,O,o3,o4,o5⟩
  ·have A:=h.addG (Chg.refl [] w') (by simp) (by simp) (fun _ _ _ _ _ _=>by simp) (S':=S1) (fun _ h=>h) (fun _ h=>.inl h) (r:=⟨none,0,0,[]⟩) (fun a h=>by cases yo5 h) (fun a h=>by cases yo5 h) (e:=.row e t [])
    ⟨w'.heap.size,[],by rw [w4];exact Own.nil _ _ _ _,by rw [w4];rfl,W8 _,⟨rfl,fun j c v h=>by simp at h⟩,fun a ha=>by rw [w4] at ha;cases ha⟩ (fun j u=>by cases u)
   refine ⟨_,A,by simp only [avR];rw [VR,w4],?_,fun i f=>zi5 (by omega),fun i f=>?_⟩
   ·intro j J u L b g;rcases M7 j H.length with N|rfl|hgt
    ·rw [X8 N] at u;rw [zi5 (by omega)] at g;rcases hf j J u L b g with z|⟨i,f,z⟩
     ·exact .inl z
     ·exact .inr ⟨i,X4.2 (.inr f),z⟩
    ·rw [w4] at g;cases yo5 g
    ·rw [Y5 (by simp [entR];omega)] at u;cases u
   ·simp [avR,AV.ids] at f;subst f;simp [entR]
  ·obtain ⟨hni,hm0⟩:=X i (by rw [hid];simp);have hlv:=R i _ hm0 f rfl;have C: ∀b∈zm9 (d i).ad,w.heap.size<=b:=by
    intro b g;unfold zm9 at g;split at g
    ·rename_i q s;simp at g;subst g;exact hlv q s
    ·cases g
   have D: ∀b∈zm9 (d i).ad,b∈S1:=by
    intro b g;unfold zm9 at g;split at g
    ·rename_i q s;simp at g;subst g;exact hin _ (o5 q s)
    ·cases g
   have A:=h.addG (Chg.refl (zm9 (d i).ad) w') D (fun b g=>.inr (U5 hw (C b g))) (fun j J u L q s Q=>by
    have hge:=C _ Q;rcases hf j J u L q s with z|⟨i',hi',⟨e2,h2,h3⟩,b2,h4,h5⟩
    ·omega
    ·unfold zm9 at Q;split at Q
     ·rename_i q' hq';simp at Q;exact hc.apart i' i e2 _ h2 f h3 rfl (fun e=>hni (e▸hi')) b2 q' h4 (.inl hq') (h5.trans Q)
     ·cases Q) (S':=S1) (fun _ h=>h) (fun _ h=>.inl h) (r:=⟨(d i).ad,y.length,(d i).cap,[]⟩) (fun q s=>.inr (by
      have s:(d i).ad=some q:=yo5 s;unfold zm9;rw [s];simp)) (fun q s=>D _ (by have s:(d i).ad=some q:=yo5 s;unfold zm9;rw [s];simp)) (e:=.row e t y)
    ⟨B,K,by rw [w4];exact O,by rw [w4],o3,gg0 hu (fun em c hcm=>by
      obtain ⟨x,_,hx⟩:=K4.1 hcm;exact kb6 (ht em) x c hx) o4,fun q s=>by rw [w4] at s;exact D _ (by have s:(d i).ad=some q:=s;unfold zm9;rw [s];simp)⟩ (fun j u=>by cases u)
   refine ⟨_,A,by simp only [avR];rw [VR,w4],?_,fun i f=>zi5 (by omega),fun i f=>?_⟩
   ·intro j J u L b g;rcases M7 j H.length with N|rfl|hgt
    ·rw [X8 N] at u;rw [zi5 (by omega)] at g;rcases hf j J u L b g with z|⟨i,f,z⟩
     ·exact .inl z
     ·exact .inr ⟨i,X4.2 (.inr f),z⟩
    ·rw [w4] at g;exact .inr ⟨i,X4.2 (.inl (by rw [hid];simp)),⟨_,f,rfl⟩,b,.inl (yo5 g),rfl⟩
    ·rw [Y5 (by simp [entR];omega)] at u;cases u
   ·simp [avR,AV.ids] at f;subst f;simp [entR]
end
end Go.X
namespace Go.X
open Go.RowKit Go.V
section
variable {T:Tab} {P:Program} {w w':World} {S S':List Nat} {φ φ':Nat->RA} {w0:World} {S0:Ow} {F:AF T} {H:List (Ent T.U)} {F':PF}
def jp6: ∀ {l m},zd6 (l++m)=true->zd6 m=true/\ ∀i∈m,i∉l
 | [],m,h=>⟨h,fun i _ b=>by cases b⟩
 |a::l,m,h=>by
  rw [K9,zd6,X3,V4] at h;obtain ⟨d,e⟩:=jp6 h.2;refine ⟨d,fun i b c=>?_⟩;rcases Z0.1 c with rfl|c
  ·have:=zb9.2 (X4.2 (.inr b):i∈l++m);rw [h.1] at this;cases this
  ·exact e i b c
def qg3 {b t s r a as y} (h:vb7 T b (t::s::r) (a::as)=some y): ∃x z,rdR T b t a=some x/\vb7 T b (s::r) as=some z/\(x,z)=y:=by
 replace h:(match rdR T b t a,vb7 T b (s::r) as with|some x,some y=>some (x,y)|_,_=>none)=some y:=h
 split at h
 ·rename_i x z c d;exact ⟨x,z,c,d,X5 h⟩
 ·cases h
def vx9 {m m0 C Fc M N l S1 f} (hc:Sim T w N ⟨Fc,C⟩ M w' l f) (hu:Up T m w' l S1) (D: ∀b∈l,b∈S1) (hw:w0.heap.size<=w.heap.size)
  (o: ∀(i:Nat) (e:Ent T.U),m0<=i->C[i]?=some e->e.live=true-> ∀a,(f i).ad=some a->w.heap.size<=a.block) {ids ios} (O: ∀(k:Nat) (e:TypeId) (t:Ty) (xs:List (den T.U t)),k<ids.length->C[k]?=some (.row e t xs)->szT T t=szT T (ios.getD k (0,.bool)).2):
  ∀ {rs} (_:m=true->jm1 T rs=true) (_:ye6 ids.length rs=true) {as us y},VRL T w' l f as us->vb7 T C rs as=some y->zd6 (zv9 T rs as)=true-> ∀ {used:List Nat},(∀i∈zv9 T rs as,i∉used/\m0<=i)->
  ∀ {H:List (Ent T.U)} {φ:Nat->RA},(∀k i:Nat,ids[k]?=some i->RSame (f k) (φ i)/\i<H.length)->Sim T w0 S0 ⟨F,H⟩ F' w' S1 φ->kl3 w C f used H φ->
  ∃g,Sim T w0 S0 ⟨F,H++jz9 T rs y⟩ F' w' S1 g/\VRL T w' S1 g (jf9 T ids ios H.length rs y) us/\(∀i,i<H.length->g i=φ i)/\ ∀i∈v5 (jf9 T ids ios H.length rs y),i<(H++jz9 T rs y).length:=by
 intro rs;induction rs with
 |nil=>
  intro Q p as us y n j J used B H φ c h R
  match as,j,us,n with
  | [],_,[],_=>exact ⟨φ,by simpa [jz9] using h,trivial,fun _ _=>rfl,fun i c=>by cases c⟩
  |_::_,j,_,_=>cases j
 |cons t q ih=>
  intro Q p as us y n j J used B H φ c h R;have E:m=true->t.scal T=true:=fun e=>by have:=Q e;unfold jm1 at this;simp only [X3] at this;exact this.1
  have V:m=true->jm1 T q=true:=fun e=>by have:=Q e;unfold jm1 at this;simp only [X3] at this;exact this.2
  have X: ∀k,t=.part k->k<ids.length:=by
   rintro k rfl
   unfold ye6 at p;simp only [X3] at p;simpa [V2] using p.1
  have Y:ye6 ids.length q=true:=by
   unfold ye6 at p;cases t<;>simp only [X3] at p<;>first|exact p|exact p.2
  have u: ∀k,t=.part k-> ∃i,ids[k]?=some i/\RSame (f k) (φ i)/\i<H.length/\ ∀(e:TypeId) (t:Ty) (xs:List (den T.U t)),C[k]?=some (.row e t xs)->szT T t=szT T (ios.getD k (0,.bool)).2:=by
   intro k G;have I:=X k G;have Z:=Y0 I;exact ⟨_,Z,(c k _ Z).1,(c k _ Z).2,fun e t xs=>O k e t xs I⟩
  match as,j,us,n with
  | [],j,_,_=>cases q<;>cases j
  |a::as,j,v::us,n=>
   cases q with
   |nil=>
    cases as with
    |cons _ _=>cases j
    |nil=>
     match us,n with
     | [],n=>
      obtain ⟨g,h1,h2,h3,K,L⟩:=vy1 (t:=t) (ids:=ids) (ios:=ios) hc hu D hw o E n.1 j (fun i c=>B i (X4.2 (.inl c))) u h R;exact ⟨g,h1,⟨h2,trivial⟩,K,fun i c=>L i (by simpa [jf9,v5] using c)⟩
   |cons s r=>
    obtain ⟨x,z,hx,hz,rfl⟩:=qg3 j
    replace J:zd6 (jq0 T t a++zv9 T (s::r) as)=true:=J
    replace B: ∀i∈jq0 T t a++zv9 T (s::r) as,i∉used/\m0<=i:=B
    obtain ⟨hn1,hn2⟩:=jp6 J;obtain ⟨g,h1,h2,h3,K,L⟩:=vy1 (t:=t) (ids:=ids) (ios:=ios) hc hu D hw o E n.1 hx (fun i c=>B i (X4.2 (.inl c))) u h R;have A:(H++entR T t x).length=H.length+t.cnt:=by cases t<;>simp [entR,RT.cnt]
    obtain ⟨φ2,g1,g2,g3,g4⟩:=ih V Y n.2 hz hn1 (used:=jq0 T t a++used) (fun i c=>⟨fun d=>by
     rcases X4.1 d with d|d
     ·exact hn2 i c d
     ·exact (B i (X4.2 (.inr c))).1 d,(B i (X4.2 (.inr c))).2⟩) (H:=H++entR T t x) (fun k i G=>⟨(c k i G).1.trans (.of (K i (c k i G).2).symm),by have:=(c k i G).2;rw [X9];omega⟩) h1 h3
    rw [Q4,A] at g4;rw [Q4] at g1;rw [A] at g2;refine ⟨φ2,g1,⟨h2.phi fun i c=>g3 i (L i c),g2⟩,fun i c=>(g3 i (by rw [X9];omega)).trans (K i c),fun i c=>?_⟩
    replace c:i∈(avR T ids ios H.length t x).ids++v5 (jf9 T ids ios (H.length+t.cnt) (s::r) z):=c
    show i<(H++(entR T t x++jz9 T (s::r) z)).length;rcases X4.1 c with c|c
    ·have:=L i c;simp only [X9] at this⊢;omega
    ·exact g4 i c
def yh7 {as us} (h:VRL T w S φ as us):VR T w S φ (zk3 T as) (yf2 us):=by
 match as,us,h with
 | [],[],h=>exact ⟨#[],rfl,h⟩
 | [a],[v],h=>exact h.1
 |a::b::r,u::v::s,h=>exact ⟨(u::v::s).toArray,rfl,h⟩
def ka2 {ids ios rs}: ∀ {y b},∀a∈jf9 T ids ios b rs y,zh4 a=true:=by
 induction rs with
 |nil=>intro y b a c;cases c
 |cons t r d=>
  intro y b a c;have one: ∀(x:jz8 T t),zh4 (avR T ids ios b t x)=true:=by
   intro x;cases t with
   |val t=>exact yv8 t x
   |own e t=>rfl
   |part k=>rfl
  cases r with
  |nil=>simp only [jf9,Q6] at c;subst c;exact one _
  |cons s q=>
   simp only [jf9] at c;rcases Z0.1 c with rfl|c
   ·exact one _
   ·exact d a c
def ju6 {ids ios rs y b} (e: ∀i∈v5 (jf9 T ids ios b rs y),i<H.length):okA H (zk3 T (jf9 T ids ios b rs y)):=by
 have c:zh4 (zk3 T (jf9 T ids ios b rs y))=true:=by
  unfold zk3;split
  ·rename_i a d;exact ka2 a (by rw [d];simp)
  ·rfl
 refine zd3 c fun i h=>e i ?_;unfold zk3 at h;split at h
 ·rename_i a d;rw [d,v5];exact X4.2 (.inl h)
 ·rw [AV.ids] at h;exact h
def yg2 {d:Type} {H1:List (Ent T.U)} {B:Option d}: ∀ {ios:List (TypeId×Ty)} {k:Nat} {y:zz4 T ios d},rdIo T H1 B ios k=some y->B=some (yl5 T ios y)/\(yl2 T ios y).length=ios.length/\ ∀j,j<ios.length-> ∃(xs:List (den T.U (ios.getD j (0,.bool)).2)),(yl2 T ios y)[j]?=some (.row (ios.getD j (0,.bool)).1 (ios.getD j (0,.bool)).2 xs)/\H1[k+j]?=some (.row (ios.getD j (0,.bool)).1 (ios.getD j (0,.bool)).2 xs)
 | [],k,y,h=>⟨h,rfl,fun j b=>by simp at b⟩
 |(e,t)::r,k,y,h=>by
  unfold rdIo at h;split at h
  ·rename_i xs z a f;have h:(xs,z)=y:=X5 h;subst h;obtain ⟨g,i,l⟩:=yg2 f;have m:H1[k]?=some (.row e t xs):=by
    unfold rdIo.rdAt at a;split at a
    ·rename_i u v c n;split at a
     ·rename_i o;have:=X1 o;subst this;split at a
      ·rename_i p;subst p;have a:c=xs:=X5 a;subst a;exact n
      ·cases a
     ·cases a
    ·cases a
   refine ⟨g,by show (yl2 T r z).length+1=r.length+1;rw [i],fun j b=>?_⟩;cases j with
   |zero=>exact ⟨xs,rfl,m⟩
   |succ j=>
    obtain ⟨ys,q,s⟩:=l j (by simpa using b);exact ⟨ys,q,by rw [show k+(j+1)=k+1+j by omega];exact s⟩
  ·cases h
def vb6: ∀ {d as x},ks8 T H d as=some x->(zo4 T d as).length=(zb7 d).length/\(zw3 T d x).length=(zb7 d).length/\
  ∀k i,(zo4 T d as)[k]?=some i-> ∃(e:TypeId) (t:Ty) (xs:List (den T.U t)),H[i]?=some (.row e t xs)/\(zw3 T d x)[k]?=some (.row e t xs)/\(e,t)=(zb7 d).getD k (0,.bool):=by
 have one: ∀ {t:PT} {a:AV T.U} {x:yo8 T t},rdIn T H t a=some x->(zo4 T [t] [a]).length=(zb7 [t]).length/\(jw9 T t x).length=(zb7 [t]).length/\
   ∀k i,(zo4 T [t] [a])[k]?=some i-> ∃(e:TypeId) (b:Ty) (xs:List (den T.U b)),H[i]?=some (.row e b xs)/\(jw9 T t x)[k]?=some (.row e b xs)/\(e,b)=(zb7 [t]).getD k (0,.bool):=by
  intro t a x h;cases t with
  |val t=>exact ⟨by cases a<;>rfl,rfl,fun k i c=>by cases a<;>simp [zo4] at c⟩
  |io e t=>
   cases a<;>try (cases h;done)
   rename_i i
   replace h:rdIn.rdOwnI T H e t (.own i)=some x:=h
   unfold rdIn.rdOwnI at h;simp only at h;split at h
   ·rename_i J b xs u;split at h
    ·rename_i v;have:=X1 v;subst this;split at h
     ·rename_i z;subst z;have h:xs=x:=X5 h;subst h;refine ⟨rfl,rfl,fun k K c=>?_⟩;cases k with
      |zero=>cases c;exact ⟨_,_,xs,u,rfl,rfl⟩
      |succ k=>simp [zo4] at c
     ·cases h
    ·cases h
   ·cases h
 have f: ∀(t:PT) (q:List PT),zb7 (t::q)=zb7 [t]++zb7 q:=by intro t q;cases t<;>rfl
 intro d;induction d with
 |nil=>
  intro as x h;cases as with
  |nil=>exact ⟨rfl,rfl,fun k i c=>by simp [zo4] at c⟩
  |cons _ _=>cases h
 |cons t q A=>
  intro as x h;cases as with
  |nil=>cases q<;>cases h
  |cons a as=>
   cases q with
   |nil=>
    cases as with
    |cons _ _=>cases h
    |nil=>exact one h
   |cons s q=>
    have h:(match rdIn T H t a,ks8 T H (s::q) as with|some x,some y=>some (x,y)|_,_=>none)=some x:=h;split at h
    ·rename_i g j B C;have h:(g,j)=x:=X5 h;subst h;obtain ⟨p,r,D⟩:=one B;obtain ⟨E,G,I⟩:=A C;rw [jo6,f];show _/\(jw9 T t g++zw3 T (s::q) j).length=_/\ ∀k i,_-> ∃(e:TypeId) (b:Ty) (xs:List (den T.U b)),_/\(jw9 T t g++zw3 T (s::q) j)[k]?=_/\_;refine ⟨by rw [X9,X9,p,E],by rw [X9,X9,r,G],fun k i c=>?_⟩;by_cases l:k<(zb7 [t]).length
     ·rw [X8 (by omega)] at c;obtain ⟨e,b,xs,m,n,o⟩:=D k i c;exact ⟨e,b,xs,m,by rw [X8 (by omega)];exact n,by rw [Y2,X8 l,<-List.getD_eq_getElem?_getD];exact o⟩
     ·rw [Z2 (by omega),p] at c;obtain ⟨e,b,xs,m,n,o⟩:=I _ i c;exact ⟨e,b,xs,m,by rw [Z2 (by omega),r];exact n,by rw [Y2,Z2 (by omega),<-List.getD_eq_getElem?_getD];exact o⟩
    ·cases h
def jc9 {b n}:b∈zd5 φ n-> ∃k,k<n/\ ∃a,At (φ k) a/\a.block=b:=by
 intro h;unfold zd5 at h;obtain ⟨k,c,d⟩:=K4.1 h;exact ⟨k,K1.1 c,zu0.1 d⟩
def Sim.grow (h:Sim T w0 S0 ⟨F,H⟩ F' w S φ) (a:Chg [] w w') {S1} (c: ∀b∈S,b∈S1) (d: ∀b∈S1,b∈S\/(w.heap.size<=b/\b<w'.heap.size)):Sim T w0 S0 ⟨F,H⟩ F' w' S1 φ:=by
 have:=h.io (Tc:= []) a (fun b e _ _=>c b e) d (ids:= []) (es:= []) rfl (by simp) (by simp) (by simp);simpa [ze1] using this
def Sim.forget (h:Sim T w0 S0 ⟨F,H⟩ F' w S φ) (ids:List Nat) (hpl: ∀i∈ids,∀e,H[i]?=some e->e.plain=true): ∃φ',(∀i∈ids,(φ' i).xs= [])/\(∀i,RSame (φ' i) (φ i))/\Sim T w0 S0 ⟨F,H⟩ F' w S φ':=by
 let φ':Nat->RA:=fun i=>if i∈ids then ⟨(φ i).ad,(φ i).n,(φ i).cap,[]⟩ else φ i
 have hs: ∀i,RSame (φ' i) (φ i):=fun i=>by
  show RSame (if i∈ids then ⟨(φ i).ad,(φ i).n,(φ i).cap,[]⟩ else φ i) (φ i);split
  ·exact ⟨rfl,rfl,rfl⟩
  ·exact .of rfl
 have hx: ∀i∈ids,(φ' i).xs= []:=fun i hi=>by
  show (if i∈ids then (⟨(φ i).ad,(φ i).n,(φ i).cap,[]⟩:RA) else φ i).xs= [];rw [if_pos hi]
 have hat: ∀ {i:Nat} {a:Addr},At (φ' i) a->At (φ i) a:=fun {i a} ha=>by
  rcases ha with ha|ha
  ·exact .inl ((hs i).1▸ha)
  ·by_cases hi:i∈ids
   ·rw [hx i hi] at ha;cases ha
   ·have e:φ' i=φ i:=if_neg hi;exact .inr (e▸ha)
 refine ⟨φ',hx,hs,fun i a ha=>?_,h.ids,h.chg,h.own,h.ex,fun i e he hl a ha=>h.lives i e he hl a (hat ha),fun k r hk=>⟨(hs k).trans (h.pins k r hk).1,(h.pins k r hk).2⟩,fun i e he=>?_,h.eids,fun i j e e' he he' hl hl' hij a b ha hb=>h.apart i j e e' he he' hl hl' hij a b (hat ha) (hat hb)⟩
 ·obtain ⟨v,h1,h2⟩:=h.fr i a ha;exact ⟨v,h1,h2.phiS fun j _=>hs j⟩
 ·have:=(h.ents i e he).renS (ρ:=id) (φ':=φ') (j:=i) (hs i) (by
   by_cases hi:i∈ids
   ·exact .inl (hpl i hi e he)
   ·exact .inr (congrArg RA.xs (if_neg hi:φ' i=φ i))) fun k _=>hs k
  cases e with
  |drow e d fe xs op=>simpa only [Ent.ren,vx8] using this
  |blk e cs=>simpa only [Ent.ren,zr3] using this
  |map k es=>simpa only [Ent.ren,ql8] using this
  |row e t xs=>exact this
  |tmap k t m=>exact this
  |gone=>trivial
def qi6 {f:FuncId} {sp:FnSpec T} (hok:kr8 T P f sp):u0 T P f sp.toCall:=by
 intro R as H K Kp r hr w0 S0 F F' w S φ h vs hvs has;simp only [FnSpec.toCall] at hr;split at hr
 ·rename_i x hx;split at hr
  ·rename_i hb;simp only [X3] at hb;obtain ⟨hn,hpo⟩:=hb;obtain ⟨y,hy,hK⟩:=za0 hr;obtain ⟨i1,i2,i3⟩:=vb6 hx;generalize hids:zo4 T sp.ps as=ids at *;obtain ⟨φ',hxs,hrs,h⟩:=h.forget ids fun i hi e he=>by
    obtain ⟨k,hk⟩:=Y9.1 hi;obtain ⟨_,_,_,p1,_⟩:=i3 k i hk;rw [p1] at he;cases he;rfl
   replace hvs:VRL T w S φ' as vs:=by
    have:=VRL.renS T (ρ:=id) (φ':=φ') (fun i _=>hrs i) hvs;rwa [zr3] at this
   clear hrs
   revert φ'
   intro φ hxs h hvs
   let φc:Nat->RA:=fun k=>φ (ids.getD k 0)
   have hφc: ∀k i,ids[k]?=some i->φc k=φ i:=by
    intro k i hk;show φ (ids.getD k 0)=φ i;rw [Y2,hk];rfl
   have hgk: ∀k,k<(zb7 sp.ps).length-> ∃i,ids[k]?=some i:=fun k hk=>⟨_,Y0 (by omega)⟩;have hap: ∀j k,j<(zb7 sp.ps).length->k<(zb7 sp.ps).length->j≠k-> ∀a b,At (φc j) a->At (φc k) b->a.block≠b.block:=by
    intro j k hj hk hjk a b ha hb;obtain ⟨i,gi⟩:=hgk j hj;obtain ⟨i',gi'⟩:=hgk k hk;rw [hφc j i gi] at ha;rw [hφc k i' gi'] at hb;obtain ⟨_,_,_,e1,_⟩:=i3 j i gi;obtain ⟨_,_,_,e2,_⟩:=i3 k i' gi';exact h.apart i i' _ _ e1 e2 rfl rfl (fun e=>hjk (by subst e;exact yj1 hn gi gi')) a b ha hb
   have hsin: ∀k,k<(zb7 sp.ps).length-> ∀a,At (φc k) a->a.block∈S:=by
    intro k hk a ha;obtain ⟨i,gi⟩:=hgk k hk;rw [hφc k i gi] at ha;obtain ⟨_,_,_,e1,_⟩:=i3 k i gi;exact zh2 h e1 rfl ha
   have hent: ∀k e,(zw3 T sp.ps x)[k]?=some e->EntR T w S φc k e:=by
    intro k e hk;have hlt:=(X2.1 hk).1;obtain ⟨i,gi⟩:=hgk k (by omega);obtain ⟨e1,t1,xs,g1,g2,_⟩:=i3 k i gi;rw [g2] at hk;simp only [X0] at hk;subst hk;have:=h.ents i _ g1;simp only [EntR,hφc k i gi];exact this
   refine (hok x y hy w S φc vs (ge0 hx hvs (k:=0) fun j i hj=>by rw [hids] at hj;rw [U2];exact hφc j i hj) (fun b hb=>(h.own b hb).2) hent hsin hap).mono fun e w' hR=>?_;cases e with
   |returned v=>
    obtain ⟨F1,H1,F1',S1,φ1,as1,us,g1,g2,rfl,g4,g5,g6⟩:=hR;obtain ⟨q1,q2,q3⟩:=yg2 g4;have hpin: ∀k,k<(zb7 sp.ps).length->RSame (φ1 k) (φc k):=by
     intro k hk;exact (g1.pins k (φc k) (by simp [hk])).1
    have hS1: ∀b∈S1,b∈S\/(w.heap.size<=b/\b<w'.heap.size):=fun b hb=>by
     obtain ⟨p1,p2⟩:=g1.own b hb;rcases p1 with p1|p1
     ·exact .inl p1
     ·exact .inr ⟨p1,p2⟩
    have hg:Sim T w0 S0 ⟨F,ze1 T H ids (yl2 T (zb7 sp.ps) y)⟩ F' w' S1 φ:=by
     refine h.io g1.chg g1.ex hS1 (by rw [q2,i1]) ?_ (fun i hi a ha=>by
      obtain ⟨k,gk⟩:=Y9.1 hi;have hlt:k<(zb7 sp.ps).length:=by have:=(X2.1 gk).1;omega
      obtain ⟨ys,p4,p5⟩:=q3 k hlt;rw [U2] at p5;rcases ha with ha|ha
      ·exact (g1.lives k _ p5 rfl a (.inl ((hpin k hlt).1.trans (by rw [hφc k i gk];exact ha)))).1
      ·rw [hxs i hi] at ha;cases ha) ?_
     ·intro b hb;obtain ⟨k,hk,a,ha,rfl⟩:=jc9 hb;obtain ⟨i,gi⟩:=hgk k hk;exact ⟨i,X6 gi,a,by rw [<-hφc k i gi];exact ha,rfl⟩
     ·intro k i hk;obtain ⟨e1,t1,xs,p1,p2,p3⟩:=i3 k i hk;have hlt:k<(zb7 sp.ps).length:=by have:=(X2.1 hk).1;omega
      obtain ⟨ys,p4,p5⟩:=q3 k hlt;have e1':e1=((zb7 sp.ps).getD k (0,.bool)).1:=congrArg Prod.fst p3;have t1':t1=((zb7 sp.ps).getD k (0,.bool)).2:=congrArg Prod.snd p3;subst t1';subst e1';refine ⟨_,_,xs,ys,p1,p4,?_⟩;rw [U2] at p5;have:=(g1.ents k _ p5).renS (ρ:=id) (φ':=φ) (j:=i) (by rw [<-hφc k i hk];exact (hpin k hlt).symm) (.inl rfl) (fun q hq=>by cases hq);exact this
    obtain ⟨φ2,k1,k2,_,k4⟩:=vx9 (m:=false) (m0:=(zb7 sp.ps).length) (S1:=S1) (ids:=ids) (ios:=zb7 sp.ps) g1 (fun t x v _ h=>h) (fun _ h=>h) h.chg.size (fun i e hi he hl a ha=>by
     rcases (g1.lives i e he hl a (.inl ha)).2 with hm|hm
     ·obtain ⟨k,hk,a',ha',hbe⟩:=jc9 hm;obtain ⟨ys,p4,p5⟩:=q3 k hk;rw [U2] at p5;exact absurd hbe (g1.apart k i _ e p5 he rfl hl (by omega) a' a (by
       rcases ha' with ha'|ha'
       ·exact .inl ((hpin k hk).1.trans ha')
       ·obtain ⟨i',gi'⟩:=hgk k hk;rw [hφc k i' gi',hxs i' (X6 gi')] at ha';cases ha') (.inl ha))
     ·exact hm) (fun k e t xs hk hx=>by
     obtain ⟨ys,p4,p5⟩:=q3 k (by omega);rw [U2] at p5;rw [hx] at p5;simp only [X0,Ent.row.injEq] at p5;rw [p5.2.1]) (fun e=>by cases e) hpo g2 q1 g5 (used:= []) (fun i hi=>⟨fun hm=>(by cases hm),g6 i hi⟩) (H:=ze1 T H ids (yl2 T (zb7 sp.ps) y)) (φ:=φ) (fun k i hk=>by
     have hlt:k<(zb7 sp.ps).length:=by have:=(X2.1 hk).1;omega
     obtain ⟨_,_,_,p1,_⟩:=i3 k i hk;exact ⟨(hpin k hlt).trans (.of (hφc k i hk)),by rw [w7];exact (X2.1 p1).1⟩) hg (by
     intro j e hj hl a ha;rcases ze4 _ _ _ (by rw [q2,i1]) hj with ⟨k,p1,p2⟩|⟨_,p2⟩
     ·obtain ⟨_,_,_,p3,_⟩:=i3 k j p1;exact .inl (h.own _ (zh2 h p3 rfl ha)).2
     ·exact .inl (h.own _ (zh2 h p2 hl ha)).2)
    rw [w7] at k2 k4;exact ⟨_,_,hK,S1,φ2,k1,yh7 k2,ju6 k4⟩
   |panicked ch=>exact hR.elim
   |outgrown=>exact hR.elim
  ·cases hr
 ·split at hr
  ·rename_i hb;simp only [X3] at hb;obtain ⟨hsc,hpo⟩:=hb;obtain ⟨x,hx,hv,hio,hent⟩:=qg2 hr (fun i _ en hi _=>h.ents i en hi) hvs φ 0;obtain ⟨y,hy,hK⟩:=za0 hx;have hio0:(zb7 sp.ps).length=0:=by rw [hio];rfl
   refine (hok x y hy w [] φ vs hv (fun b hb=>by cases hb) (fun k e hk=>by rw [hent] at hk;simp at hk) (fun k hk=>by omega) (fun j k hj=>by omega)).mono fun e w' hR=>?_;cases e with
   |returned v=>
    obtain ⟨F1,H1,F1',S1,φ1,as1,us,g1,g2,rfl,g4,g5,g6⟩:=hR;obtain ⟨q1,q2,q3⟩:=yg2 g4;have hchg:Chg [] w w':=by
     have:=g1.chg;rw [show zd5 φ (zb7 sp.ps).length= [] by rw [hio0];rfl] at this;exact this
    have hg:=h.grow hchg (S1:=S++S1) (fun b hb=>X4.2 (.inl hb)) (fun b hb=>by
     rcases X4.1 hb with hb|hb
     ·exact .inl hb
     ·obtain ⟨q1,q2⟩:=g1.own b hb;rcases q1 with q1|q1
      ·cases q1
      ·exact .inr ⟨q1,q2⟩)
    obtain ⟨φ2,k1,k2,_,k4⟩:=vx9 (m:=true) (m0:=0) (S1:=S++S1) (ids:= []) (ios:= []) g1 (fun t x v ht hcr=>by
     have ht:=ht rfl;cases hcr with
     |int k x=>exact .int k x
     |bool b=>exact .bool b
     |str s=>exact .str s
     |list e xs ad cap u h1 h2 h3 h4 h5=>cases ht) (fun b hb=>X4.2 (.inr hb)) h.chg.size (fun i e _ he hl a ha=>by
     rcases (g1.lives i e he hl a (.inl ha)).2 with hm|hm
     ·rw [show zd5 φ (zb7 sp.ps).length= [] by rw [hio0];rfl] at hm;cases hm
     ·exact hm) (fun k e t xs hk=>by simp at hk) (fun _=>hsc) hpo g2 q1 g5 (used:= []) (fun i _=>⟨fun hm=>(by cases hm),J7 _⟩) (fun k i hk=>by simp at hk) hg (by
     intro j e hj hl a ha;exact .inl (h.own _ (zh2 h hj hl ha)).2)
    exact ⟨_,_,hK,S++S1,φ2,k1,yh7 k2,ju6 k4⟩
   |panicked ch=>exact hR.elim
   |outgrown=>exact hR.elim
  ·cases hr
def kr7 (T:Tab):(rs:List RT)->zz5 T rs->List Value
 | [],_=> []
 | [t],x=> [valR t x]
 |t::s::r,x=>valR t x.1::kr7 T (s::r) x.2
where
 valR:(t:RT)->jz8 T t->Value
  | .val t,x=>uf4 T t x
  |_,_=>undef
def qb5: ∀ {cs:List (Cell T.U)},(∀c∈cs,c.t.scal=true)->VRL T w S φ (cs.map .cell) (cs.map kl5)
 | [],_=>trivial
 |⟨t,x⟩::r,h=>by
  refine ⟨?_,qb5 fun c a=>h c (Z4 _ a)⟩;have:=h _ (U8 ..);cases t with
  |int k=>exact CR.int _ _
  |bool=>exact CR.bool _
  |str=>exact CR.str _
  |list e=>cases this
  |user i=>cases this
def qw0: ∀ {cs:List (Cell T.U)} {vs},(∀c∈cs,c.t.scal=true)->VRL T w S φ (cs.map .cell) vs->vs=cs.map kl5
 | [],[],_,_=>rfl
 | [],_::_,_,h=>h.elim
 |_::_,[],_,h=>h.elim
 |⟨t,x⟩::r,v::vs,h,a=>by
  have b:=h _ (U8 ..);rw [U3,<-qw0 (fun c d=>h c (Z4 _ d)) a.2];congr 1;cases t with
  |int k=>exact w8 a.1
  |bool=>exact zf6 a.1
  |str=>exact zq5 a.1
  |list e=>cases b
  |user i=>cases b
def ve1 {t} (h:jj6 T t=true) (x):VR T w S φ (zq2 T t x) (uf4 T t x):=by
 cases t with
 |user i=>exact ⟨_,rfl,qb5 (T.scals i x h)⟩
 |int k=>exact CR.int _ _
 |bool=>exact CR.bool _
 |str=>exact CR.str _
 |list e=>cases h
def vz7 {t} (h:jj6 T t=true) {x v} (a:VR T w S φ (zq2 T t x) v):v=uf4 T t x:=by
 cases t with
 |user i=>
  obtain ⟨vs,rfl,b⟩:=a;have:=qw0 (T.scals i x h) b;show Value.agg vs=Value.agg (List.map kl5 (T.cells i x)).toArray;rw [<-this]
 |int k=>exact w8 a
 |bool=>exact zf6 a
 |str=>exact zq5 a
 |list e=>cases h
def wj1: ∀ {rs},qRs T rs=true-> ∀ {y:zz5 T rs} {ids:List Nat} {ios:List (TypeId×Ty)} {b:Nat},VRL T w S φ (jf9 T ids ios b rs y) (kr7 T rs y)/\v5 (jf9 T ids ios b rs y)= []:=by
 intro rs;induction rs with
 |nil=>intro h y ids ios b;exact ⟨trivial,rfl⟩
 |cons t q a=>
  intro h y ids ios b;cases t with
  |own e t=>cases h
  |part k=>cases h
  |val t=>
   cases q with
   |nil=>
    have c:jj6 T t=true:=by simpa [qRs] using h
    refine ⟨⟨ve1 c y,trivial⟩,?_⟩;exact List.append_eq_nil_iff.2 ⟨yo1 (T:=T) t y,rfl⟩
   |cons s r=>
    unfold qRs at h;simp only [X3] at h;obtain ⟨d,f⟩:=a h.2 (y:=y.2) (ids:=ids) (ios:=ios) (b:=b+RT.cnt (.val t));refine ⟨⟨ve1 h.1 y.1,d⟩,?_⟩;exact List.append_eq_nil_iff.2 ⟨yo1 (T:=T) t y.1,f⟩
def wj2 {f S1 d H1}: ∀ {rs},qRs T rs=true-> ∀ {y:zz5 T rs} {as:List (AV T.U)} {us:List Value},vb7 T H1 rs as=some y->VRL T f S1 d as us->us=kr7 T rs y:=by
 intro rs;induction rs with
 |nil=>
  intro h y as us b c
  match as,b,us,c with
  | [],_,[],_=>rfl
  |_::_,b,_,_=>cases b
 |cons t q g=>
  intro h y as us b c;cases t with
  |own e t=>cases h
  |part k=>cases h
  |val t=>
   match as,b,us,c with
   | [],b,_,_=>cases q<;>cases b
   |a::as,b,v::us,c=>
    cases q with
    |nil=>
     have i:jj6 T t=true:=by simpa [qRs] using h
     cases as with
     |cons _ _=>cases b
     |nil=>
      match us,c with
      | [],c=>exact congrArg (fun z=> [z]) (vz7 i (yh6 (t:=t) b c.1 d))
    |cons s r=>
     unfold qRs at h;simp only [X3] at h;obtain ⟨x,z,j,l,rfl⟩:=qg3 b;show v::us=uf4 T t x::kr7 T (s::r) z;rw [<-g h.2 l c.2,<-vz7 h.1 (yh6 (t:=t) j c.1 d)]
def later {as:List (AV T.U)} {a:World} (h:Sim T w0 S0 ⟨F,H⟩ F' w S φ) (c:Chg S w a) (b:Same φ (v5 as) w a):ji0 T a S φ H (v5 as):=
  qg5 h c b fun i d=>d
def kk4 {f:FuncId} {sp:FnSpec T} (hok:kr8 T P f sp):zi6 T P f sp.toCall:=by
 intro R as H K r hr w0 S0 F F' w S φ h vs hvs has;simp only [FnSpec.toCall] at hr;split at hr
 ·rename_i hq;obtain ⟨x,hx,hdet⟩:=qg1 hr;obtain ⟨y,hy,hK⟩:=za0 hx;obtain ⟨q1,q2⟩:=wj1 (w:=w) (S:=S) (φ:=φ) hq (y:=yl5 T (zb7 sp.ps) y) (ids:= []) (ios:= []) (b:=0);refine ⟨_,_,hK,yh7 q1,ju6 (by rw [q2];intro i hi;cases hi),fun w1 hc hsm=>?_⟩;obtain ⟨x',hx',hv,hio,hent⟩:=qg2 (w:=w1) (K:=some) (by rw [hdet]) (later h hc hsm) (hvs.chg T hc (fun _ h=>h) fun b hb=>.inl hb) φ 0;have hx':=X5 hx';subst hx';have hio0:(zb7 sp.ps).length=0:=by rw [hio];rfl
  refine (hok _ y hy w1 [] φ vs hv (fun b hb=>by cases hb) (fun k e hk=>by rw [hent] at hk;simp at hk) (fun k hk=>by omega) (fun j k hj=>by omega)).mono fun e w' hR=>?_;cases e with
  |returned v=>
   obtain ⟨F1,H1,F1',S1,φ1,as1,us,g1,g2,rfl,g4,g5,g6⟩:=hR;have hchg:Chg [] w1 w':=by
    have:=g1.chg;rw [show zd5 φ (zb7 sp.ps).length= [] by rw [hio0];rfl] at this;exact this
   exact ⟨hchg,by rw [wj2 hq (yg2 g4).1 g2]⟩
  |panicked ch=>exact hR.elim
  |outgrown=>exact hR.elim
 ·cases hr
def wf7 (b:FnSpec T):yb4 b.toCall:=by
 intro R as H K V r c;simp only [FnSpec.toCall] at c;split at c
 ·rename_i x l;split at c
  ·rename_i s;obtain ⟨y,j,u⟩:=za0 c;obtain ⟨G,X,I⟩:=vb6 l;refine .inl ⟨_,_,u,?_,fun J v=>by simp only [FnSpec.toCall,l,s,j,z6]⟩;have L:(FnSpec.toCall b).wr as H=zo4 T b.ps as:=by simp only [FnSpec.toCall,l]
   rw [L];have a:(yl2 T (zb7 b.ps) (b.g x |>.get (by rw [j];rfl))).length=(zo4 T b.ps as).length:=by
    have: ∀(ios:List (TypeId×Ty)) {d:Type} (y:zz4 T ios d),(yl2 T ios y).length=ios.length:=by
     intro ios;induction ios with
     |nil=>intro d y;rfl
     |cons p r z=>intro d y;exact congrArg (· +1) (z y.2)
    rw [this,G]
   have M:(b.g x |>.get (by rw [j];rfl))=y:=by simp [j]
   rw [M] at a;have m: ∀(ios:List (TypeId×Ty)) {d:Type} (y:zz4 T ios d) (k:Nat) (f:Ent T.U),(yl2 T ios y)[k]?=some f-> ∃xs,f=.row (ios.getD k (0,.bool)).1 (ios.getD k (0,.bool)).2 xs:=by
    intro ios;induction ios with
    |nil=>intro d y k f h;simp [yl2] at h
    |cons p r z=>
     intro d y k f h;cases k with
     |zero=>
      have h:some (Ent.row p.1 p.2 y.1)=some f:=h;simp only [X0] at h;subst h;exact ⟨y.1,rfl⟩
     |succ k=>
      have h:(yl2 T r y.2)[k]?=some f:=h;obtain ⟨xs,A⟩:=z y.2 k f h;exact ⟨xs,A⟩
   refine ⟨by rw [X9,w7];omega,fun e q N=>?_,fun e ty t ys q h=>?_⟩
   ·rw [X8 (by rw [w7];exact q)];have i: ∃f,(ze1 T H (zo4 T b.ps as) (yl2 T (zb7 b.ps) y))[e]?=some f:=⟨_,Y0 (by rw [w7];exact q)⟩;obtain ⟨f,E⟩:=i;rcases ze4 _ _ H a E with ⟨k,B,_⟩|⟨_,n⟩
    ·exact absurd (X6 B) N
    ·rw [E,n]
   ·rw [X8 (by rw [w7];exact q)] at h;rcases ze4 _ _ H a h with ⟨k,B,n⟩|⟨_,n⟩
    ·obtain ⟨C,O,xs,p1,p2,p3⟩:=I k e B;obtain ⟨Y,D⟩:=m _ y k _ n;simp only [Ent.row.injEq] at D;have C:C=ty:=(congrArg Prod.fst p3).trans D.1.symm;have Q:O=t:=(congrArg Prod.snd p3).trans D.2.1.symm;subst C;subst Q;exact ⟨xs,p1⟩
    ·exact ⟨ys,n⟩
  ·cases c
 ·rename_i l;split at c
  ·rename_i s;obtain ⟨x,A,o⟩:=qg1 c;obtain ⟨y,j,u⟩:=za0 A;exact .inl ⟨_,_,u,.app,fun J v=>by simp only [FnSpec.toCall,l,s,o,j,z6]⟩
  ·cases c
def jc7: ∀ {as vs i j a},VRL T w S φ as vs->(yb6 T as i).get T j=some a-> ∃v,(jf8 vs i).get j=some v/\VR T w S φ a v
 | [],[],_,_,_,_,h=>by simp [yb6,AF.get] at h
 | [],_::_,_,_,_,h,_=>h.elim
 |_::_,[],_,_,_,h,_=>h.elim
 |b::r,v::s,i,j,a,h,c=>by
  simp only [yb6,AF.get] at c;simp only [jf8,PF.get];split at c
  ·rename_i d;simp only [X0] at c;subst c;exact ⟨v,by simp only [d],h.1⟩
  ·rename_i d;simp only [d];exact jc7 h.2 c
def jc8: ∀ {as i j a},(yb6 T as i).get T j=some a->a∈as
 | [],_,_,_,h=>by simp [yb6,AF.get] at h
 |b::r,i,j,a,c=>by
  simp only [yb6,AF.get] at c;split at c
  ·simp only [X0] at c;subst c;exact U8 ..
  ·exact Z4 _ (jc8 c)
def wo3 {t} (x):okA H (zq2 T t x):=zd3 (yv8 t x) (by rw [yo1];intro i a;cases a)
def kt9: ∀ {c x k H},k+(zb7 c).length<=H.length-> ∀a∈yo4 T k c x,okA H a:=by
 have one: ∀ {t:PT} {x:yo8 T t} {k:Nat} {H:List (Ent T.U)},k+t.cnt<=H.length->okA H (avP T k t x):=by
  intro t x k H h;cases t with
  |val t=>exact wo3 (t:=t) x
  |io e t=>exact ⟨fun i d=>by simp [avP,AV.ids] at d;subst d;simp [PT.cnt] at h;omega,trivial⟩
 have b: ∀(t:PT) (q:List PT),(zb7 (t::q)).length=t.cnt+(zb7 q).length:=by
  intro t q;cases t<;>simp [zb7,PT.cnt];omega
 intro c;induction c with
 |nil=>intro x k H _ a h;cases h
 |cons t q g=>
  intro x k H f a h;rw [b] at f;cases q with
  |nil=>simp only [yo4,Q6] at h;subst h;exact one (by simpa [zb7] using f)
  |cons s r=>
   simp only [yo4] at h;rcases Z0.1 h with rfl|h
   ·exact one (by omega)
   ·exact g (by omega) a h
def qb0: ∀ {a x k},(yo4 T k a x).length=a.length
 | [],_,_=>rfl
 | [_],_,_=>rfl
 |_::s::r,x,k=>by simp only [yo4,U9];rw [qb0];rfl
def jd3: ∀ {a x},(zw3 T a x).length=(zb7 a).length:=by
 intro a;induction a with
 |nil=>intro x;rfl
 |cons t q b=>
  intro x;cases q with
  |nil=>cases t<;>rfl
  |cons s r=>
   show (jw9 T t x.1++zw3 T (s::r) x.2).length=_;rw [X9,b];cases t<;>simp [jw9,zb7];omega
def kb4: ∀ {a x e},e∈zw3 T a x->e.cellIds= []:=by
 have one: ∀ {t:PT} {x:yo8 T t} {e:Ent T.U},e∈jw9 T t x->e.cellIds= []:=by
  intro t x e h;cases t with
  |val t=>cases h
  |io c t=>simp only [jw9,Q6] at h;subst h;rfl
 intro a;induction a with
 |nil=>intro x e h;cases h
 |cons t q b=>
  intro x e h;cases q with
  |nil=>exact one h
  |cons s r=>
   have h:e∈jw9 T t x.1++zw3 T (s::r) x.2:=h;rcases X4.1 h with h|h
   ·exact one h
   ·exact b h
def jv3 {m st} (h:Sim T w0 S0 st m w S φ) {n ds a} (p:Fr n ds m a): ∀ {l as},jy9 T P st l=some as->
  ∃us,VRL T w S φ as us/\ ∀ {f:ResultVar->Sem Value},(∀t,f (.tmp t)=Pure.pure (a.tmps.getD t undef))->(∀c t,f (.cell c t)=(do loadVar t (<-asAddr (a.tmps.getD c undef))))->(l.mapM f).run P w=.ok us w
 | [],as,d=>by simp only [jy9,X0] at d;subst d;exact ⟨[],trivial,fun _ _=>rfl⟩
 | .tmp t::r,as,d=>by
  unfold jy9 at d;split at d
  ·rename_i b l q s;simp only [X0] at d;subst d;obtain ⟨v,u,x⟩:=h.fr t b q;obtain ⟨us,y,z⟩:=jv3 h p s;refine ⟨v::us,⟨x,y⟩,fun j k=>?_⟩;have e:=(p.val t v u).1;simp only [List.mapM_cons,j,Sem.run_bind,Sem.run_pure,Result.andThen_ok,e];rw [z j k];rfl
  ·cases d
 | .cell c t::r,as,d=>by
  unfold jy9 at d;split at d
  ·rename_i i o l q s;split at d
   ·rename_i e cs C;split at d
    ·rename_i b A;simp only [X0] at d;subst d;obtain ⟨v,u,g,x,rfl⟩:=h.fr c _ q;obtain ⟨J,K,B,D,_,E⟩:=h.ents i _ C;rw [x] at B;simp only [X0,Addr.mk.injEq,and_true] at B;subst B;obtain ⟨v,G,I⟩:=vu2 E A;obtain ⟨us,y,z⟩:=jv3 h p s;refine ⟨v::us,⟨I,y⟩,fun j k=>?_⟩;have e:=(p.val c _ u).1;simp only [List.mapM_cons,k,Sem.run_bind,Result.andThen_ok,e,asAddr,Sem.run_pure,zt6 D G];rw [z j k];rfl
    ·cases d
   ·cases d
  ·cases d
def jg8 {fn b st} (h:Sim T w0 S0 st b w S φ) {n ds a} (c:Fr n ds b a) {as} (d:jy9 T P st fn.results.toList=some as): ∃us,(results fn a.tmps).run P w=.ok (yf2 us) w/\VRL T w S φ as us:=by
 obtain ⟨us,e,f⟩:=jv3 (P:=P) h c d;refine ⟨us,?_,e⟩;unfold results;rw [Array.mapM_eq_mapM_toList];simp only [Sem.run_bind,Sem.run_map];rw [f (fun _=>rfl) (fun _ _=>rfl)];simp only [Result.andThen_ok]
 match us with
 | []=>rfl
 | [v]=>rfl
 |u::v::r=>
  have:(u::v::r).toArray.size≠1:=by simp
  simp only [this,dite_false];rfl
def yz0 {st f S φ S0 w0 w} (h:Sim T w0 S0 st f w S φ): ∀ {l as},jy9 T P st l=some as-> ∀i∈v5 as,i<st.H.length
 | [],as,a,i,d=>by simp only [jy9,X0] at a;subst a;cases d
 | .tmp t::r,as,a,i,d=>by
  unfold jy9 at a;split at a<;>try (cases a;done)
  rename_i b l k g;simp only [X0] at a;subst a;rw [v5] at d;rcases X4.1 d with d|d
  ·exact (h.ids t b k).1 i d
  ·exact yz0 h g i d
 | .cell c t::r,as,a,i,d=>by
  unfold jy9 at a;split at a<;>try (cases a;done)
  rename_i m o l k g;split at a<;>try (cases a;done)
  rename_i e cs n;split at a<;>try (cases a;done)
  rename_i b j;simp only [X0] at a;subst a;rw [v5] at d;rcases X4.1 d with d|d
  ·exact h.eids m _ n i (qc9 j i d)
  ·exact yz0 h g i d
def Sim.noF {st} (h:Sim T w0 S0 st F' w S φ):Sim T w0 S0 ⟨[],st.H⟩ F' w S φ:=
 ⟨fun i a b=>by simp [AF.get] at b,fun i a b=>by simp [AF.get] at b,h.chg,h.own,h.ex,h.lives,h.pins,h.ents,h.eids,h.apart⟩
def wg6 {C f fn c K z d rs g} (hm:P.follows .mixedOrders=true) (hE:zb4 T P C.E)
  (hf:P.funcs[f]?=some fn) (J:fn.body=some c) (hs:Nat.ble d.length fn.ntmps=true) (L:Nat.ble (zb7 d).length C.pin=true) (hg: ∀x y,g x=some y-> ∃m,topF T P C K fn c z d rs m x=some y):kr8 T P f ⟨d,rs,g⟩:=by
 intro x y hy w S φ vs M hS O Q hap;obtain ⟨N,hN⟩:=hg x y hy;have R:vs.length=d.length:=by rw [<-M.len T];exact qb0
 have hsz:vs.length<=fn.ntmps:=by rw [R];exact Y1 hs
 have hfr:Fr fn.ntmps [] (jf8 vs 0) {tmps:=vs.toArray++Array.replicate (fn.ntmps-vs.toArray.size) undef,defers:= []}:=by
  refine ⟨by simp;omega,rfl,fun i v hv=>?_⟩;obtain ⟨_,t⟩:=ya5 vs 0 i v hv;simp only [M1] at t;have hi:=(X2.1 t).1;refine ⟨?_,by omega⟩;rw [Y7,Array.getElem?_append_left (by simpa using hi)];simp [t]
 have n: ∀(i:Nat) (e:Ent T.U),(zw3 T d x)[i]?=some e->i<(zb7 d).length:=by
  intro i e u;have:=(X2.1 u).1;rwa [jd3] at this
 have V:Sim T w ⟨zd5 φ (zb7 d).length,S,(List.range (zb7 d).length).map φ⟩ ⟨yb6 T (yo4 T 0 d x) 0,zw3 T d x⟩ (jf8 vs 0) w S φ:=by
  refine ⟨fun i a o=>jc7 M o,fun i a o=>kt9 (by rw [jd3];omega) a (jc8 o),Chg.refl _ _,fun b J=>⟨.inl J,hS b J⟩,fun b J _ _=>J,fun i e u hl a o=>⟨Q i (n i e u) a o,.inl ?_⟩,fun k r hk=>?_,O,fun i e u j hj=>?_,fun i j e e' u he' _ _ hij=>hap i j (n i e u) (n j e' he') hij⟩
  ·unfold zd5;exact K4.2 ⟨i,K1.2 (n i e u),zu0.2 ⟨a,o,rfl⟩⟩
  ·have A:=(X2.1 hk).1;simp at A;simp [A] at hk;exact ⟨.of hk,by simp only [jd3];exact A⟩
  ·rw [kb4 (X6 u)] at hj;cases hj
 have B:=Y1 L;have X: ∀st,km6 T P fn z d rs st=some y-> ∀q s,zc4 T w ⟨zd5 φ (zb7 d).length,S,(List.range (zb7 d).length).map φ⟩ st q s-> ∀a,Fr fn.ntmps [] q a-> ∃v,(results fn a.tmps).run P s=.ok v s/\
   ∃(q:AF T) (H1:List (Ent T.U)) (D:PF) (S1:List Nat) (p:Nat->RA) (as:List (AV T.U)) (us:List Value),Sim T w ⟨zd5 φ (zb7 d).length,S,(List.range (zb7 d).length).map φ⟩ ⟨q,H1⟩ D s S1 p/\VRL T s S1 p as us/\v=yf2 us/\rdIo T H1 (vb7 T H1 rs as) (zb7 d) 0=some y/\zd6 (zv9 T rs as)=true/\ ∀i∈zv9 T rs as,(zb7 d).length<=i:=by
  intro st l q s ⟨S1,p,G⟩ a o;unfold km6 at l;split at l<;>try (cases l;done)
  rename_i as0 Y;obtain ⟨us,Z,t⟩:=jg8 G o Y;split at l<;>try (cases l;done)
  rename_i as1 H1 hw;obtain ⟨φw,hsmw,hvw,_⟩:=yi8 (by simp) z.w hw G.noF t (yz0 (P:=P) G Y);obtain ⟨as,H2,S2,hK,hsm2,hv2⟩:=yu6 z.z l hsmw hvw;unfold gj1 at hK;split at hK<;>try (cases hK;done)
  rename_i hn;simp only [X3] at hn;refine ⟨_,Z,[],H2,q,S2,φw,as,us,hsm2,hv2,rfl,hK,hn.1,fun i hi=>?_⟩;have:=hn.2;rw [Y8] at this;exact Y1 (this i hi)
 have hKs:KsOk (bodyPost P fn fun e w'=>match e with
   | .returned v=> ∃(q:AF T) (H1:List (Ent T.U)) (D:PF) (S1:List Nat) (p:Nat->RA) (as:List (AV T.U)) (us:List Value),Sim T w ⟨zd5 φ (zb7 d).length,S,(List.range (zb7 d).length).map φ⟩ ⟨q,H1⟩ D w' S1 p/\VRL T w' S1 p as us/\v=yf2 us/\
     rdIo T H1 (vb7 T H1 rs as) (zb7 d) 0=some y/\zd6 (zv9 T rs as)=true/\ ∀i∈zv9 T rs as,(zb7 d).length<=i
   |_=>False) fn.ntmps [] w ⟨zd5 φ (zb7 d).length,S,(List.range (zb7 d).length).map φ⟩ y (km7 T P fn z d rs):=by
  refine ⟨?_,fun i st h=>(by cases h),?_,fun a st h=>(by cases h)⟩
  ·intro st l q s I a o;obtain ⟨v,Z,t⟩:=X st l q s I a o;exact ⟨o.defers,v,Z,t⟩
  ·intro st l q s I a o;obtain ⟨v,Z,t⟩:=X st l q s I a o;exact ⟨o.defers,v,Z,t⟩
 have hp:((List.range (zb7 d).length).map φ).length<=C.pin:=by simpa using B
 exact calls_of_wp hf J (zf7 hm hp hE c [] _ _ _ _ w hN hKs (JOk.run hm hp hE hKs N) ⟨S,φ,V⟩ _ hfr)
def zh9:zb4 T P []:=fun f cs h=>by cases h
end
end Go.X
